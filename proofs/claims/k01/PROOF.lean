import PyProof.Rows.All
import Wide.All
import OpenK.AllK
import Wide.FinOn
import HandS.ForMost
import KE.SortData
import KE.DataEq
import KE.DataCmp
import KE.DatumOrd
import KE.DatumMoreOrd
import HandS.Codes
import HandS.TupAny
import HandS.TupMul
import HandS.IsInst
import HandS.Style
import HandS.CallLocal
import KE.GoesMore
import KE.GoesEnum
import HandS.Conv
import HandS.Deep
import HandS.Dict
import HandS.MakeKwOnly
import HandS.Sort
import HandS.OwnEq
import HandS.More
import HandS.Flow
import HandS.Head0
import HandS.Head1
import HandS.Head2
import HandS.HeadEnd
import HandS.HeadHook1
import HandS.HeadHook2
import KE.LtData
import PySem.Challenge.RW_sidefits_k01_whole_puzzles
set_option Elab.async false
set_option linter.all false
set_option autoImplicit false
set_option maxRecDepth 100000
/-! Mp1: values read deep (D), a small language (E, S), its evaluator. -/
namespace Mp
open PySem

/-- values, read deep -/
inductive D where
  | non | bl (b : Bool) | int (i : Int) | str (x : Str)
  | tup (xs : List D) | lst (xs : List D)
  | dct (kvs : List (List (Int ⊕ Str) × D)) | set (xs : List D) | rng (lo hi : Int)
  | ins (c : Nat) (ns : List Str) (fs : List D) | fn (i : Nat) | cls (c : Nat)
  | scr (xs : List D)
  deriving Inhabited

mutual
def D.toP : D → PyData
  | .non => .none | .bl b => .bool b | .int i => .int i | .str x => .str x
  | .tup xs => .tuple (D.toPs xs) | .lst xs => .list (D.toPs xs)
  | _ => .dict []
def D.toPs : List D → List PyData
  | [] => []
  | x :: xs => D.toP x :: D.toPs xs
end
theorem D.toPs_map : ∀ xs : List D, D.toPs xs = xs.map D.toP
  | [] => rfl
  | x :: xs => by rw [D.toPs, D.toPs_map xs]; rfl

/-! ### operations -/
/-- what is done with a name's own object: d[a, b], x.pop(a) -/
inductive Vop where
  | dix | pop
  deriving DecidableEq
/-- {}, x[::-1], list(range ..), range as a value -/
inductive Uop where
  | dnew | rev | lof | rof
  deriving DecidableEq
inductive Bm where
  | index | count
  deriving DecidableEq
inductive Bop where
  | add | sub | mul | fdiv | mod | pow
  deriving DecidableEq
inductive Cop where
  | eq | ne | lt | le | gt | ge | is_ | isn | in_ | nin
  deriving DecidableEq
inductive Blt where
  | len | tuple | list | sorted | min | max | int | abs | divmod | sum | all | any | isinst (t : Nat)
  deriving DecidableEq

abbrev CMul (i j : Int) : Prop := (-(2 ^ 64) < i ∧ i < 2 ^ 64) ∨ (-(2 ^ 64) < j ∧ j < 2 ^ 64)
def binD : Bop → D → D → Option (D × Bool)
  | .add, .int a, .int b => some (.int (a + b), false)
  | .add, .str a, .str b => if a.length + b.length ≤ sizeLine then some (.str (a ++ b), false) else none
  | .add, .tup a, .tup b => if a.length + b.length ≤ sizeLine then some (.tup (a ++ b), false) else none
  | .add, .lst a, .lst b => if a.length + b.length ≤ sizeLine then some (.lst (a ++ b), true) else none
  | .sub, .int a, .int b => some (.int (a - b), false)
  | .mul, .int a, .int b => if CMul a b then some (.int (a * b), false) else none
  | .mul, .tup a, .int k => if a.isEmpty = true ∧ -(2 ^ 63) ≤ k ∧ k < 2 ^ 63 ∨ 1 ≤ k ∧ k ≤ 1000 ∧ a.length ≤ 1000 then some (.tup (List.replicate k.toNat a).flatten, false) else none
  | .mul, .lst a, .int k => if -(2 ^ 63) ≤ k ∧ k < 2 ^ 63 ∧ a.length * k.toNat ≤ sizeLine then some (.lst (List.replicate k.toNat a).flatten, true) else none
  | .fdiv, .int a, .int b => if 0 < b ∧ b < 1073741824 then some (.int (a / b), false) else none
  | .mod, .int a, .int b => if 0 < b then some (.int (a % b), false) else none
  | .pow, .int a, .int b => if 0 ≤ b ∧ b ≤ 1000000 ∧ a.natAbs < 2 ^ 64 then some (.int (a ^ b.toNat), false) else none
  | _, _, _ => none

def D.isNon : D → Bool
  | .non => true
  | _ => false
/-- data whose == the library tells -/
def D.ok (a : D) : Bool := (a.toP).plain
abbrev depthOk (a b : D) : Bool := decide (min a.toP.depth b.toP.depth ≤ 64)
def eqD (a b : D) : Option Bool := if a.ok = true ∧ b.ok = true ∧ depthOk a b = true then some (PyData.eqv a.toP b.toP) else none
def ltD (a b : D) : Option Bool := if a.ok = true ∧ b.ok = true ∧ PySem.W.alike a.toP b.toP = true ∧ a.isNon = false ∧ depthOk a b = true then some (PySem.W.dataLt a.toP b.toP) else none
def inD (a : D) (xs : List D) : Option Bool :=
  if a.ok = true ∧ PyData.plainAll (D.toPs xs) = true ∧ min (PyData.depthAll (D.toPs xs)) a.toP.depth ≤ 64 then some (xs.any fun y => PyData.eqv y.toP a.toP) else none
def cmpD : Cop → D → D → Option Bool
  | .eq, a, b => eqD a b
  | .ne, a, b => (eqD a b).map (!·)
  | .lt, a, b => ltD a b
  | .gt, a, b => ltD b a
  | .le, a, b => (ltD b a).map (!·)
  | .ge, a, b => (ltD a b).map (!·)
  | .is_, a, .non => some a.isNon
  | .isn, a, .non => some (!a.isNon)
  | .is_, .bl c, .bl b => some (c == b)
  | .isn, .bl c, .bl b => some (!(c == b))
  | .in_, a, .tup xs => inD a xs
  | .in_, a, .lst xs => inD a xs
  | .nin, a, .tup xs => (inD a xs).map (!·)
  | .nin, a, .lst xs => (inD a xs).map (!·)
  | _, _, _ => none
def truthD : D → Option Bool
  | .non => some false
  | .bl b => some b
  | .int i => some (i != 0)
  | .tup xs => some (!xs.isEmpty)
  | .lst xs => some (!xs.isEmpty)
  | .scr xs => some (!xs.isEmpty)
  | _ => none

def ixN (n : Nat) (i : Int) : Option Nat := if 0 ≤ i then (if i < n then some i.toNat else none) else if -(n : Int) ≤ i then some (i + n).toNat else none
def idxD : D → D → Option D
  | .tup xs, .int i => (ixN xs.length i).bind fun j => xs[j]?
  | .lst xs, .int i => (ixN xs.length i).bind fun j => xs[j]?
  | .scr xs, .int i => (ixN xs.length i).bind fun j => xs[j]?
  | _, _ => none
def sIx (n d : Nat) : Option Int → Nat
  | none => d
  | some v => if v < 0 then (v + (n : Int)).toNat else min v.toNat n
def cutD (xs : List D) (lo hi : Option Int) : List D := (xs.drop (sIx xs.length 0 lo)).take (sIx xs.length xs.length hi - sIx xs.length 0 lo)
def slD : D → Option Int → Option Int → Option (D × Bool)
  | .tup xs, lo, hi => some (.tup (cutD xs lo hi), false)
  | .lst xs, lo, hi => some (.lst (cutD xs lo hi), true)
  | .scr xs, lo, hi => some (.lst (cutD xs lo hi), true)
  | _, _, _ => none

def intsOf : List D → Option (List Int)
  | [] => some []
  | .int i :: r => (intsOf r).map (i :: ·)
  | _ :: _ => none
def bolsOf : List D → Option (List Bool)
  | [] => some []
  | .bl i :: r => (bolsOf r).map (i :: ·)
  | _ :: _ => none
/-- a value's type by its number; which of int, bool, str, tuple, list it is -/
def tyIx : D → Nat
  | .non => 0 | .bl _ => 1 | .int _ => 2 | .str _ => 3 | .tup _ => 4 | .lst _ => 5 | _ => 6
def isinT : Nat → Nat → Bool
  | 0, 1 => true | 0, 2 => true | 1, 1 => true | 2, 3 => true | 3, 4 => true | 4, 5 => true
  | _, _ => false
/-- isinstance of an own class -/
def isinC (c : Nat) : D → Option Bool
  | .ins c' _ _ => if c' = c then some true else none
  | .non => some false
  | .bl _ => some false
  | .int _ => some false
  | .str _ => some false
  | .tup _ => some false
  | .lst _ => some false
  | _ => none
def fldD (x : Str) : D → Option D
  | .ins _ ns fs => (ns.zip fs).lookup x
  | _ => none
def isinD (t : Nat) (d : D) : Option Bool := if t < 5 ∧ tyIx d < 6 then some (isinT t (tyIx d)) else none
/-- what sorted asks: data that can be compared two by two -/
def tupNE : D → Bool
  | .tup (_ :: _) => true
  | _ => false
def noTup : D → Bool
  | .tup _ => false
  | .non => false
  | _ => true
def sortB (xs : List D) : Bool := (xs.all fun a => a.ok && decide (a.toP.depth ≤ 60)) && ((xs.all fun a => xs.all fun b => PySem.W.alike a.toP b.toP) && (xs.all tupNE || xs.all noTup))
def leD (a b : D) : Bool := !PySem.W.dataLt b.toP a.toP
def insD (a : D) : List D → List D
  | [] => [a]
  | b :: r => if leD a b = true then a :: b :: r else b :: insD a r
def isortD : List D → List D
  | [] => []
  | a :: r => insD a (isortD r)
def bltD : Blt → List D → Option (D × Bool)
  | .len, [.tup xs] => some (.int xs.length, false)
  | .len, [.lst xs] => some (.int xs.length, false)
  | .len, [.scr xs] => some (.int xs.length, false)
  | .tuple, [.tup xs] => some (.tup xs, false)
  | .tuple, [.lst xs] => some (.tup xs, false)
  | .list, [.tup xs] => some (.lst xs, true)
  | .list, [.lst xs] => some (.lst xs, true)
  | .int, [.int i] => some (.int i, false)
  | .int, [.bl k] => some (.int (if k then 1 else 0), false)
  | .abs, [.int i] => some (.int (if i < 0 then -i else i), false)
  | .max, [.int i, .int j] => some (.int (if j > i then j else i), false)
  | .min, [.int i, .int j] => some (.int (if j < i then j else i), false)
  | .divmod, [.int i, .int j] => if 0 < j ∧ j < 1073741824 then some (.tup [.int (i / j), .int (i % j)], false) else none
  | .sum, [.lst xs] => (intsOf xs).map fun ns => (.int ns.sum, false)
  | .all, [.lst xs] => (bolsOf xs).map fun bs => (.bl (bs.all id), false)
  | .any, [.lst xs] => (bolsOf xs).map fun bs => (.bl (bs.any id), false)
  | .sorted, [.lst xs] => if sortB xs = true then some (.lst (isortD xs), true) else none
  | .isinst t, [x] => (isinD t x).map fun b => (.bl b, false)
  | _, _ => none

/-! dicts whose keys are tuples of ints and texts -/
abbrev DK := List (Int ⊕ Str)
def dGet (kvs : List (DK × D)) (k : DK) : Option D := (kvs.find? fun kv => decide (kv.1 = k)).map (·.2)
def dPut (kvs : List (DK × D)) (k : DK) (v : D) : List (DK × D) :=
  if (kvs.any fun kv => decide (kv.1 = k)) = true then kvs.map (fun kv => if kv.1 = k then (kv.1, v) else kv) else kvs ++ [(k, v)]
def revD : D → Option (D × Bool)
  | .tup xs => some (.tup xs.reverse, false)
  | .lst xs => some (.lst xs.reverse, true)
  | .scr xs => some (.lst xs.reverse, true)
  | _ => none
/-- x.index(y), x.count(y) -/
def bmD : Bm → D → D → Option (D × Bool)
  | .index, .lst xs, y => if ((D.lst xs).ok && y.ok && SeqAt.shaped (D.lst xs).toP && SeqAt.shaped y.toP) = true then (xs.findIdx? fun x => PyData.eqv x.toP y.toP).map fun (i : Nat) => (D.int i, false) else none
  | .count, .lst xs, y => if ((D.lst xs).ok && y.ok && SeqAt.shaped (D.lst xs).toP && SeqAt.shaped y.toP) = true then some (.int ((xs.countP fun x => PyData.eqv x.toP y.toP : Nat)), false) else none
  | _, _, _ => none
def isLst : D → Bool
  | .lst _ => true
  | _ => false
/-! ### the language -/
inductive E where
  | var (i : Nat)
  | con (d : D)
  | glo (x : Str) (d : D)
  | nil | cons (a r : E) | ioa (i : Nat) (r : E)
  | tup (es : E) | lst (es : E)
  | neg (a : E) | bin (o : Bop) (a b : E) | cmp (o : Cop) (a b : E) | cmp2 (o1 o2 : Cop) (a b c : E)
  | not (a : E) | and (a b : E) | or (a b : E) | ife (c a b : E)
  | idx (a i : E) | sl (a lo hi : E)
  | call (f : Nat) (es : E) | callk (f : Nat) (perm : List Nat) (es ks : E) | calf (f : Nat) (a es : E) | calv (i : Nat) (es : E)
  | blt (b : Blt) (es : E) | isin (t : Nat) (a : E)
  | fld (a : E) (x : Str) | mk (c f : Nat) (fl : List Str) (es : E) | isinc (c : Nat) (x : Str) (a : E)
  | lc (vs : List Nat) (t it c e : E)
  | rng1 (a : E) | rng2 (a b : E) | enm (a : E) | zip (a b : E) | it (a : E)
  | tr (a : E)
  | vop (o : Vop) (i : Nat) (a b : E) | uop (o : Uop) (a : E) | bm (o : Bm) (a b : E) | mkk (c f : Nat) (fl : List Str) (p : List Nat) (es ks : E) | oeq (ng : Bool) (c f : Nat) (a b : E)
  deriving Inhabited
inductive S where
  | skip | seq (a b : S)
  | asg (t e : E) | par (is : List Nat) (es : E) | ex (e : E) | ret (e : E) | retn
  | ite (c : E) (a b : S) | for_ (t it : E) (b : S) | whl (c : E) (b : S)
  | app (i : Nat) (e : E) | ext (i : Nat) (e : E) | fst (i : Nat) (x : Str) (e : E)
  | dst (i : Nat) (a b e : E)
  | never
  deriving Inhabited

inductive Slot where
  | un | val (d : D) | own (d : D) | io (d : D)
abbrev Env := List Slot
inductive Kd where
  | frz | fr | pk (i : Nat)
inductive R (α : Type) where
  | ok (a : α) (ρ : Env) | no
def R.bind {α β : Type} (r : R α) (f : α → Env → R β) : R β := match r with
  | .ok a ρ => f a ρ
  | .no => .no
def R.of {α : Type} (o : Option α) (ρ : Env) : R α := match o with
  | some a => .ok a ρ
  | none => .no
def getS (ρ : Env) (i : Nat) : Slot := ρ[i]?.getD .un
/-- what a name's content is now -/
def cur (ρ : Env) (d : D) : Kd → D
  | .pk i => (match getS ρ i with | .own d => d | .io d => d | .val d => d | .un => d)
  | _ => d
/-- a value is kept: the name that owned it owns it no more -/
def settle (ρ : Env) (d : D) : Kd → R D
  | .pk i => (match getS ρ i with | .own d => .ok d (ρ.set i (.val d)) | _ => .no)
  | _ => .ok d ρ
def kdOf (b : Bool) : Kd := if b then .fr else .frz
/-- an argument: a value, or a name's list that the callee may change -/
inductive Ar where
  | v (d : D) | io (i : Nat)
def Ar.d (ρ : Env) : Ar → Option D
  | .v d => some d
  | .io i => (match getS ρ i with | .own d => some d | .io d => some d | _ => none)
def argsD (ρ : Env) : List Ar → Option (List D)
  | [] => some []
  | a :: r => (a.d ρ).bind fun d => (argsD ρ r).map (d :: ·)
def setIo (ρ : Env) (i : Nat) (d : D) : Env := match getS ρ i with
  | .own _ => ρ.set i (.own d)
  | .io _ => ρ.set i (.io d)
  | _ => ρ
def putOuts (ρ : Env) : List Ar → List D → Env
  | .io i :: r, d :: ds => putOuts (setIo ρ i d) r ds
  | .v _ :: r, ds => putOuts ρ r ds
  | _, _ => ρ
def Ar.isIo : Ar → Bool
  | .io _ => true
  | _ => false
def iosOf : List Ar → List Nat
  | [] => []
  | .io i :: r => i :: iosOf r
  | .v _ :: r => iosOf r
/-- what a call gives: the value, whether it is new, what the changed arguments hold -/
abbrev CRes := Option (D × Bool × List D)
/-- the values by the parameters' order: n by position, the others named ks -/
def permOf (ps : List Str) (n : Nat) (ks : List Str) : List Nat := List.range n ++ (ps.drop n).map fun x => n + ks.idxOf x
def pick {α : Type} (p : List Nat) (l : List α) : List α := p.filterMap fun i => l[i]?
def kwOk (ps : List Str) (n : Nat) (ks : List Str) : Bool := decide ps.Nodup && (decide ks.Nodup && (decide (n + ks.length = ps.length) && (decide (0 < ks.length) && ((ks.all fun k => decide (k ∈ ps.drop n)) && ((ps.drop n).all fun x => decide (x ∈ ks))))))
def cntA : E → Nat
  | .cons _ r => cntA r + 1
  | .ioa _ r => cntA r + 1
  | _ => 0
def doCall (cl : Nat → List Bool → List D → CRes) (f : Nat) (as : List Ar) (ρ : Env) : R (D × Kd) :=
  match argsD ρ as with
  | none => .no
  | some ds => if (iosOf as).Nodup then (match cl f (as.map Ar.isIo) ds with
    | none => .no
    | some (d, b, outs) => .ok (d, kdOf b) (putOuts ρ as outs)) else .no
/-- .. the first argument a new list, which the callee may change -/
def doCallF (cl : Nat → List Bool → List D → CRes) (f : Nat) (d0 : D) (as : List Ar) (ρ : Env) : R (D × Kd) :=
  match argsD ρ as with
  | none => .no
  | some ds => if (iosOf as).Nodup then (match cl f (true :: as.map Ar.isIo) (d0 :: ds) with
    | some (d, b, _ :: outs) => .ok (d, kdOf b) (putOuts ρ as outs)
    | _ => .no) else .no
/-- a new instance of an own class: its __init__ is the f-th def -/
def doMk (cl : Nat → List Bool → List D → CRes) (c f : Nat) (fl : List Str) (as : List Ar) (ρ : Env) : R (D × Kd) :=
  match argsD ρ as with
  | none => .no
  | some ds => if iosOf as = [] then (match cl f (true :: as.map Ar.isIo) (.ins c fl [] :: ds) with
    | some (.non, false, [d]) => .ok (d, .frz) ρ
    | _ => .no) else .no
/-- an instance of the c-th class; what it is compared with; the answer -/
def insB (c : Nat) : D → Bool
  | .ins c' _ _ => decide (c' = c)
  | _ => false
def othB (c : Nat) : D → Bool
  | .ins c' _ _ => decide (c' = c)
  | .tup _ => true
  | _ => false
def blR (ng : Bool) : D × Kd → Env → R (D × Kd)
  | (.bl k, .frz), ρ => .ok (.bl (if ng = true then !k else k), .frz) ρ
  | _, _ => .no
def wipe (ρ : Env) : List Nat → Env
  | [] => ρ
  | v :: vs => (wipe ρ vs).set v .un
/-- the slots vs as they were in ρ0 -/
def unwipe (ρ0 ρ : Env) : List Nat → Env
  | [] => ρ
  | v :: vs => (unwipe ρ0 ρ vs).set v (getS ρ0 v)
def plainS : Slot → Bool
  | .un => true
  | .val _ => true
  | _ => false
/-- a name takes a value -/
def putName (ρ : Env) (i : Nat) (d : D) (k : Kd) : R Unit :=
  match getS ρ i with
  | .io _ => .no
  | _ => if i < ρ.length then (match k with
    | .fr => .ok () (ρ.set i (.own d))
    | .frz => .ok () (ρ.set i (.val d))
    | .pk _ => .no) else .no
def ownL : Slot → Bool
  | .own (.lst _) => true
  | .io (.lst _) => true
  | _ => false
def ownS : Slot → Bool
  | .own _ => true
  | .io _ => true
  | _ => false
/-- x[y] = d, x an own list -/
def storeIx (ρ : Env) (j : Nat) (y d : D) : R Unit := match getS ρ j, y with
  | .own (.lst xs), .int i => (match ixN xs.length i with
    | some n => .ok () (ρ.set j (.own (.lst (xs.set n d))))
    | none => .no)
  | .io (.lst xs), .int i => (match ixN xs.length i with
    | some n => .ok () (ρ.set j (.io (.lst (xs.set n d))))
    | none => .no)
  | _, _ => .no
def seqOf : D → Option (List D)
  | .tup xs => some xs
  | .lst xs => some xs
  | .scr xs => some xs
  | _ => none
def ownD : Slot → Option D
  | .own d => some d
  | .io d => some d
  | _ => none
def vopD : Vop → Env → Nat → D → D → R (D × Kd)
  | .dix, ρ, i, .int m, .int n => (match ownD (getS ρ i) with
    | some (.dct kvs) => (R.of (dGet kvs [.inl m, .inl n]) ρ).bind fun z ρ => .ok (z, .frz) ρ
    | _ => .no)
  | .pop, ρ, i, .int m, _ => (match ownD (getS ρ i) with
    | some (.lst xs) => if -(2 ^ 63) ≤ m ∧ m < 2 ^ 63 then (match ixN xs.length m with
      | some k => (match xs[k]? with
        | some y => .ok (y, .frz) (setIo ρ i (.lst (xs.eraseIdx k)))
        | none => .no)
      | none => .no) else .no
    | _ => .no)
  | _, _, _, _, _ => .no
/-- d[a, b] = v -/
def dStore (ρ : Env) (i : Nat) (a b v : D) : Option Env := match ownD (getS ρ i), a, b with
  | some (.dct kvs), .int m, .int n => if kvs.length < sizeLine then some (setIo ρ i (.dct (dPut kvs [.inl m, .inl n] v))) else none
  | _, _, _ => none
def rngD (lo hi : Int) : List D := (List.range (hi - lo).toNat).map fun (i : Nat) => .int (lo + (i : Int))
def enumD (xs : List D) : List D := xs.zipIdx.map fun p => .tup [.int (p.2 : Nat), p.1]
abbrev inR (i : Int) : Prop := -(2 ^ 62) ≤ i ∧ i < 2 ^ 62

/-- small bounds of a list of a range -/
abbrev rgOk (m n : Int) : Prop := inR m ∧ inR n ∧ (n - m).toNat ≤ 16777216
/-- what a for walks: ranges as values, too -/
def seqI : D → Option (List D)
  | .rng lo hi => if inR lo ∧ inR hi then some (rngD lo hi) else none
  | d => seqOf d
/-- a comprehension's turns -/
def lcLoop (vs : List Nat) (g : D → Env → R Unit) (c : Env → R Bool) (e : Env → R (D × Kd)) : List D → List D → Env → R (List D)
  | [], acc, ρ => .ok acc ρ
  | x :: xs, acc, ρ => (g x (wipe ρ vs)).bind fun _ ρ => (c ρ).bind fun k ρ =>
      if k = true then (e ρ).bind fun y ρ => (settle ρ y.1 y.2).bind fun d ρ => if acc.length < sizeLine then lcLoop vs g c e xs (acc ++ [d]) ρ else .no
      else lcLoop vs g c e xs acc ρ
section
variable (cl : Nat → List Bool → List D → CRes)
mutual
def evE : E → Env → R (D × Kd)
  | .var i, ρ => (match getS ρ i with
    | .val d => .ok (d, .frz) ρ
    | .own d => .ok (d, .pk i) ρ
    | .io d => .ok (d, .pk i) ρ
    | .un => .no)
  | .con d, ρ => .ok (d, .frz) ρ
  | .glo _ d, ρ => .ok (d, .frz) ρ
  | .tup es, ρ => (evL es ρ).bind fun ds ρ => if ds.length ≤ sizeLine then .ok (.tup ds, .frz) ρ else .no
  | .lst es, ρ => (evL es ρ).bind fun ds ρ => if ds.length ≤ sizeLine then .ok (.lst ds, .fr) ρ else .no
  | .neg a, ρ => (evE a ρ).bind fun x ρ => (match x.1 with | .int i => .ok (.int (-i), .frz) ρ | _ => .no)
  | .bin o a b, ρ => (evE a ρ).bind fun x ρ => (evE b ρ).bind fun y ρ => (R.of (binD o (cur ρ x.1 x.2) y.1) ρ).bind fun z ρ => .ok (z.1, kdOf z.2) ρ
  | .cmp o a b, ρ => (evE a ρ).bind fun x ρ => (evE b ρ).bind fun y ρ => (R.of (cmpD o (cur ρ x.1 x.2) y.1) ρ).bind fun z ρ => .ok (.bl z, .frz) ρ
  | .cmp2 o1 o2 a b c, ρ => (evE a ρ).bind fun x ρ => (evE b ρ).bind fun y ρ => (R.of (cmpD o1 (cur ρ x.1 x.2) y.1) ρ).bind fun z ρ =>
      if z = true then (evE c ρ).bind fun w ρ => (R.of (cmpD o2 (cur ρ y.1 y.2) w.1) ρ).bind fun z ρ => .ok (.bl z, .frz) ρ else .ok (.bl false, .frz) ρ
  | .not a, ρ => (evT a ρ).bind fun b ρ => .ok (.bl (!b), .frz) ρ
  | .and a b, ρ => (evE a ρ).bind fun x ρ => (match x.1 with
    | .bl true => evE b ρ
    | .bl false => .ok (.bl false, .frz) ρ
    | _ => .no)
  | .or a b, ρ => (evE a ρ).bind fun x ρ => (match x.1 with
    | .bl false => evE b ρ
    | .bl true => .ok (.bl true, .frz) ρ
    | _ => .no)
  | .ife c a b, ρ => (evT c ρ).bind fun k ρ => if k = true then evE a ρ else evE b ρ
  | .idx a i, ρ => (evE a ρ).bind fun x ρ => (evE i ρ).bind fun y ρ => (R.of (idxD (cur ρ x.1 x.2) y.1) ρ).bind fun z ρ => .ok (z, .frz) ρ
  | .sl a lo hi, ρ => (evE a ρ).bind fun x ρ => (evO lo ρ).bind fun l ρ => (evO hi ρ).bind fun h ρ => (R.of (slD (cur ρ x.1 x.2) l h) ρ).bind fun z ρ => .ok (z.1, kdOf z.2) ρ
  | .call f es, ρ => (evA es ρ).bind fun as ρ => doCall cl f as ρ
  | .callk f p es ks, ρ => (evA es ρ).bind fun as ρ => (evA ks ρ).bind fun bs ρ => doCall cl f (pick p (as ++ bs)) ρ
  | .calf f a es, ρ => (evE a ρ).bind fun x ρ => (match x.2 with
    | .fr => (evA es ρ).bind fun as ρ => doCallF cl f x.1 as ρ
    | _ => .no)
  | .calv i es, ρ => (match getS ρ i with
    | .val (.fn f) => (evA es ρ).bind fun as ρ => doCall cl f as ρ
    | _ => .no)
  | .blt b es, ρ => (evP es ρ).bind fun xs ρ => (R.of (bltD b (xs.map fun x => cur ρ x.1 x.2)) ρ).bind fun z ρ => .ok (z.1, kdOf z.2) ρ
  | .isin t a, ρ => (evE a ρ).bind fun x ρ => (R.of (isinD t x.1) ρ).bind fun b ρ => .ok (.bl b, .frz) ρ
  | .fld a x, ρ => (evE a ρ).bind fun v ρ => (R.of (fldD x v.1) ρ).bind fun z ρ => .ok (z, .frz) ρ
  | .mk c f fl es, ρ => (evA es ρ).bind fun as ρ => doMk cl c f fl as ρ
  | .isinc c _ a, ρ => (evE a ρ).bind fun x ρ => (R.of (isinC c x.1) ρ).bind fun b ρ => .ok (.bl b, .frz) ρ
  | .vop .dix i a b, ρ => if ownS (getS ρ i) = true then (evE a ρ).bind fun x ρ => (evE b ρ).bind fun y ρ => vopD .dix ρ i x.1 y.1 else .no
  | .vop .pop i a _, ρ => if ownL (getS ρ i) = true then (evE a ρ).bind fun x ρ => vopD .pop ρ i x.1 .non else .no
  | .uop .dnew _, ρ => .ok (.dct [], .fr) ρ
  | .uop .lof (.rng1 a), ρ => (evE a ρ).bind fun x ρ => (match x.1 with | .int n => if rgOk 0 n then .ok (.lst (rngD 0 n), .fr) ρ else .no | _ => .no)
  | .uop .lof (.rng2 a b), ρ => (evE a ρ).bind fun x ρ => (evE b ρ).bind fun y ρ => (match x.1, y.1 with | .int m, .int n => if rgOk m n then .ok (.lst (rngD m n), .fr) ρ else .no | _, _ => .no)
  | .uop .rof (.rng1 a), ρ => (evE a ρ).bind fun x ρ => (match x.1 with | .int n => .ok (.rng 0 n, .frz) ρ | _ => .no)
  | .uop .rof (.rng2 a b), ρ => (evE a ρ).bind fun x ρ => (evE b ρ).bind fun y ρ => (match x.1, y.1 with | .int m, .int n => .ok (.rng m n, .frz) ρ | _, _ => .no)
  | .bm o a b, ρ => (evE a ρ).bind fun x ρ => if isLst x.1 = true then (evE b ρ).bind fun y ρ => (R.of (bmD o (cur ρ x.1 x.2) y.1) ρ).bind fun z ρ => .ok (z.1, kdOf z.2) ρ else .no
  | .oeq ng c f a b, ρ => (evE a ρ).bind fun x ρ => (settle ρ x.1 x.2).bind fun d ρ => (evE b ρ).bind fun y ρ => (settle ρ y.1 y.2).bind fun e ρ => if insB c d = true ∧ othB c e = true then (doCall cl f [.v d, .v e] ρ).bind fun z ρ => blR ng z ρ else .no
  | .mkk c f fl p es ks, ρ => (evA es ρ).bind fun as ρ => (evA ks ρ).bind fun bs ρ => doMk cl c f fl (pick p (as ++ bs)) ρ
  | .lc vs t it c e, ρ => if (vs.all fun v => plainS (getS ρ v)) = true then (evI it ρ).bind fun items ρ1 => (lcLoop vs (fun d => evG t d .frz) (evT c) (evE e) items [] ρ1).bind fun acc ρ2 => .ok (.lst acc, .fr) (unwipe ρ1 ρ2 vs) else .no
  | _, _ => .no
/-- display items: each kept -/
def evL : E → Env → R (List D)
  | .nil, ρ => .ok [] ρ
  | .cons a r, ρ => (evE a ρ).bind fun x ρ => (settle ρ x.1 x.2).bind fun d ρ => (evL r ρ).bind fun ds ρ => .ok (d :: ds) ρ
  | _, _ => .no
/-- a def's arguments -/
def evA : E → Env → R (List Ar)
  | .nil, ρ => .ok [] ρ
  | .cons a r, ρ => (evE a ρ).bind fun x ρ => (settle ρ x.1 x.2).bind fun d ρ => (evA r ρ).bind fun ds ρ => .ok (.v d :: ds) ρ
  | .ioa i r, ρ => (match getS ρ i with
    | .own _ => (evA r ρ).bind fun ds ρ => .ok (.io i :: ds) ρ
    | .io _ => (evA r ρ).bind fun ds ρ => .ok (.io i :: ds) ρ
    | _ => .no)
  | _, _ => .no
/-- a built-in's arguments: looked at alone -/
def evP : E → Env → R (List (D × Kd))
  | .nil, ρ => .ok [] ρ
  | .cons a r, ρ => (evE a ρ).bind fun x ρ => (evP r ρ).bind fun ds ρ => .ok (x :: ds) ρ
  | _, _ => .no
/-- a slice's end -/
def evO : E → Env → R (Option Int)
  | .nil, ρ => .ok none ρ
  | .cons a _, ρ => (evE a ρ).bind fun x ρ => (match x.1 with | .int i => .ok (some i) ρ | _ => .no)
  | _, _ => .no
/-- a test -/
def evT : E → Env → R Bool
  | .not a, ρ => (evT a ρ).bind fun b ρ => .ok (!b) ρ
  | .and a b, ρ => (evT a ρ).bind fun k ρ => if k = true then evT b ρ else .ok false ρ
  | .or a b, ρ => (evT a ρ).bind fun k ρ => if k = true then .ok true ρ else evT b ρ
  | .nil, ρ => .ok true ρ
  | .tr e, ρ => (evE e ρ).bind fun x ρ => R.of (truthD x.1) ρ
  | _, _ => .no
/-- what a for walks -/
def evI : E → Env → R (List D)
  | .rng1 a, ρ => (evE a ρ).bind fun x ρ => (match x.1 with | .int n => if inR n then .ok (rngD 0 n) ρ else .no | _ => .no)
  | .rng2 a b, ρ => (evE a ρ).bind fun x ρ => (evE b ρ).bind fun y ρ => (match x.1, y.1 with | .int m, .int n => if inR m ∧ inR n then .ok (rngD m n) ρ else .no | _, _ => .no)
  | .enm a, ρ => (evE a ρ).bind fun x ρ => (settle ρ x.1 x.2).bind fun d ρ => R.of ((seqOf d).map enumD) ρ
  | .it e, ρ => (evE e ρ).bind fun x ρ => (settle ρ x.1 x.2).bind fun d ρ => R.of (seqI d) ρ
  | _, _ => .no
/-- targets -/
def evG : E → D → Kd → Env → R Unit
  | .var i, d, k, ρ => putName ρ i d k
  | .tup ts, d, _, ρ => (match d with | .tup xs => evGs ts xs ρ | _ => .no)
  | .idx a i, d, k, ρ => (match a, k with
    | _, .pk _ => .no
    | .var j, _ => if ownS (getS ρ j) = true then (evE i ρ).bind fun y ρ => storeIx ρ j y.1 d else .no
    | _, _ => .no)
  | _, _, _, _ => .no
def evGs : E → List D → Env → R Unit
  | .nil, [], ρ => .ok () ρ
  | .cons t r, d :: ds, ρ => (evG t d .frz ρ).bind fun _ ρ => evGs r ds ρ
  | _, _, _ => .no
end
end
/-! ### statements -/
inductive Fl where
  | nx (ρ : Env) | rt (d : D) (b : Bool) (ρ : Env) | no
def Fl.bind (f : Fl) (k : Env → Fl) : Fl := match f with
  | .nx ρ => k ρ
  | f => f
def R.fl {α : Type} (r : R α) (k : α → Env → Fl) : Fl := match r with
  | .ok a ρ => k a ρ
  | .no => .no
def forLoop (g : D → Env → R Unit) (b : Env → Fl) : List D → Env → Fl
  | [], ρ => .nx ρ
  | x :: xs, ρ => (g x ρ).fl fun _ ρ => (b ρ).bind fun ρ => forLoop g b xs ρ
def whlLoop (c : Env → R Bool) (b : Env → Fl) : Nat → Env → Fl
  | 0, _ => .no
  | n + 1, ρ => (c ρ).fl fun k ρ => if k = true then (b ρ).bind fun ρ => whlLoop c b n ρ else .nx ρ
def wFuel : Nat := 16777216
/-- a value that may be kept by a name: a name's list is let go -/
def keep (ρ : Env) (d : D) : Kd → R (D × Kd)
  | .pk i => (settle ρ d (.pk i)).bind fun d ρ => .ok (d, .frz) ρ
  | k => .ok (d, k) ρ
def appD (ρ : Env) (i : Nat) (ds : List D) : Option Env := match getS ρ i with
  | .own (.lst xs) => if xs.length + ds.length ≤ sizeLine then some (ρ.set i (.own (.lst (xs ++ ds)))) else none
  | .io (.lst xs) => if xs.length + ds.length ≤ sizeLine then some (ρ.set i (.io (.lst (xs ++ ds)))) else none
  | _ => none
def lstOf : D → Option (List D)
  | .lst xs => some xs
  | _ => none
section
variable (cl : Nat → List Bool → List D → CRes)
/-- the values of a display, as they come -/
def evM : E → Env → R (List (D × Kd))
  | .nil, ρ => .ok [] ρ
  | .cons a r, ρ => (evE cl a ρ).bind fun x ρ => (keep ρ x.1 x.2).bind fun x ρ => (evM r ρ).bind fun xs ρ => .ok (x :: xs) ρ
  | _, _ => .no
def puts : List Nat → List (D × Kd) → Env → R Unit
  | [], [], ρ => .ok () ρ
  | i :: is, d :: ds, ρ => (putName ρ i d.1 d.2).bind fun _ ρ => puts is ds ρ
  | _, _, _ => .no
def evS : S → Env → Fl
  | .skip, ρ => .nx ρ
  | .seq a b, ρ => (evS a ρ).bind fun ρ => evS b ρ
  | .asg t e, ρ => (evE cl e ρ).fl fun x ρ => (keep ρ x.1 x.2).fl fun x ρ => (evG cl t x.1 x.2 ρ).fl fun _ ρ => .nx ρ
  | .par is es, ρ => (evM cl es ρ).fl fun xs ρ => (puts is xs ρ).fl fun _ ρ => .nx ρ
  | .ex e, ρ => (evE cl e ρ).fl fun _ ρ => .nx ρ
  | .ret e, ρ => (evE cl e ρ).fl fun x ρ => (match x.2 with
    | .frz => .rt x.1 false ρ
    | .fr => .rt x.1 true ρ
    | .pk i => (match getS ρ i with | .own d => .rt d true (ρ.set i .un) | _ => .no))
  | .retn, ρ => .rt .non false ρ
  | .ite c a b, ρ => (evT cl c ρ).fl fun k ρ => if k = true then evS a ρ else evS b ρ
  | .for_ t it b, ρ => (evI cl it ρ).fl fun xs ρ => forLoop (fun d => evG cl t d .frz) (evS b) xs ρ
  | .whl c b, ρ => whlLoop (evT cl c) (evS b) wFuel ρ
  | .app i e, ρ => if ownL (getS ρ i) = true then (evE cl e ρ).fl fun x ρ => (settle ρ x.1 x.2).fl fun d ρ => (match appD ρ i [d] with | some ρ => .nx ρ | none => .no) else .no
  | .ext i e, ρ => if ownL (getS ρ i) = true then (evE cl e ρ).fl fun x ρ => (match x.2 with
    | .fr => (match lstOf x.1 with
      | some ds => (match appD ρ i ds with | some ρ => .nx ρ | none => .no)
      | none => .no)
    | _ => .no) else .no
  | .fst i x e, ρ => (evE cl e ρ).fl fun v ρ => (settle ρ v.1 v.2).fl fun d ρ => (match getS ρ i with
    | .io (.ins c ns fs) => if ns[fs.length]? = some x ∧ x ∉ ns.take fs.length ∧ fs.length < 900 then .nx (ρ.set i (.io (.ins c ns (fs ++ [d])))) else .no
    | _ => .no)
  | .dst i a b e, ρ => (evE cl e ρ).fl fun v ρ => (settle ρ v.1 v.2).fl fun d ρ => if ownS (getS ρ i) = true then (evE cl a ρ).fl fun x ρ => (evE cl b ρ).fl fun y ρ => (match dStore ρ i x.1 y.1 d with | some ρ => .nx ρ | none => .no) else .no
  | .never, _ => .no
end

/-! ### defs -/
structure Df where
  name : Str
  ps : List Str
  N : List Str
  ios : List Bool
  body : S
  deriving Inhabited
def initS : List Bool → List D → Env
  | true :: r, d :: ds => .io d :: initS r ds
  | false :: r, d :: ds => .val d :: initS r ds
  | _, _ => []
def init (df : Df) (ds : List D) : Env := initS df.ios ds ++ List.replicate (df.N.length - df.ps.length) .un
def outsOf : List Bool → Env → Option (List D)
  | [], _ => some []
  | true :: r, .io d :: ρ => (outsOf r ρ).map (d :: ·)
  | false :: r, _ :: ρ => outsOf r ρ
  | _, _ => none
def finish (ios : List Bool) : Fl → CRes
  | .nx ρ => (outsOf ios ρ).map fun os => (.non, false, os)
  | .rt d b ρ => (outsOf ios ρ).map fun os => (d, b, os)
  | .no => none
def callN (T : List Df) : Nat → Nat → List Bool → List D → CRes
  | 0, _, _, _ => none
  | n + 1, f, fl, ds => (match T[f]? with
    | none => none
    | some df => if df.ios = fl ∧ ds.length = df.ps.length ∧ df.ios.length = df.ps.length then finish df.ios (evS (callN T n) df.body (init df ds)) else none)
end Mp

set_option maxRecDepth 100000
set_option maxHeartbeats 4000000
/-! Mp2: what a value of the layer stands for (Dt), the state's relation (SR), operations by values. -/
namespace Mp
open PySem PySem.Spec PyProof.Rows L2

structure GD where
  K : PySem.W.Frag
  fa : Nat → Addr
  ca : Nat → Addr

/-- an own class, its fields' names -/
def InsF (G : GD) (c : Nat) (ns : List Str) : Prop := C8.InsC G.K (G.ca c) ∧ ∀ x ∈ ns, NoAttr G.K (G.ca c) x
mutual
inductive Dt (G : GD) (H : Hp) : V → D → Prop
  | non : Dt G H .non .non
  | bl (b : Bool) : Dt G H (.bl b) (.bl b)
  | int (i : Int) : Dt G H (.int i) (.int i)
  | str (x : Str) : Dt G H (.str x) (.str x)
  | tup {a : Addr} {xs : List V} {ds : List D} : SqT G.K H a xs → DtA G H xs ds → Dt G H (.ref a) (.tup ds)
  | lst {a : Addr} {xs : List V} {ds : List D} : Rd H a (.lst xs) → DtA G H xs ds → Dt G H (.ref a) (.lst ds)
  | fn (i : Nat) : Dt G H (.ref (G.fa i)) (.fn i)
  | scr {a : Addr} {xs : List V} {ds : List D} : SqL G.K H a xs → DtA G H xs ds → Dt G H (.ref a) (.scr ds)
  | ins {a dx : Addr} {c : Nat} {fl : List (Str × V)} {ns : List Str} {ds : List D} : H a = some (.ins (G.ca c) dx fl) → fl.map (·.1) = ns.take ds.length → InsF G c ns → DtA G H (fl.map (·.2)) ds → Dt G H (.ref a) (.ins c ns ds)
  | cls (c : Nat) : Dt G H (.ref (G.ca c)) (.cls c)
  | rng {a : Addr} {lo hi : Int} : H a = some (.rng lo hi) → Dt G H (.ref a) (.rng lo hi)
  | dct {a : Addr} {kvs : List (List Key × V)} {ds : List (DK × D)} : H a = some (.dT kvs) → kvs.map (·.1) = ds.map (·.1) → DtA G H (kvs.map (·.2)) (ds.map (·.2)) → Dt G H (.ref a) (.dct ds)
inductive DtA (G : GD) (H : Hp) : List V → List D → Prop
  | nil : DtA G H [] []
  | cons {v : V} {d : D} {vs : List V} {ds : List D} : Dt G H v d → DtA G H vs ds → DtA G H (v :: vs) (d :: ds)
end

theorem rd_le {H H' : Hp} {a : Addr} {u : HO} (e : ∀ a o, H a = some o → H' a = some o) (h : Rd H a u) : Rd H' a u := by
  rcases h with h | ⟨o, h⟩
  · exact .inl (e _ _ h)
  · exact .inr ⟨o, e _ _ h⟩
theorem sql_le {K : PySem.W.Frag} {H H' : Hp} {a : Addr} {xs : List V} (e : ∀ a o, H a = some o → H' a = some o) (h : SqL K H a xs) : SqL K H' a xs := by
  rcases h with h | h
  · exact .inl (rd_le e h)
  · exact .inr h
theorem sqt_le {K : PySem.W.Frag} {H H' : Hp} {a : Addr} {xs : List V} (e : ∀ a o, H a = some o → H' a = some o) (h : SqT K H a xs) : SqT K H' a xs := by
  rcases h with h | h
  · exact .inl (rd_le e h)
  · exact .inr h

section
variable {G : GD} {H H' : Hp}
mutual
theorem Dt.le (e : ∀ a o, H a = some o → H' a = some o) : ∀ {v : V} {d : D}, Dt G H v d → Dt G H' v d
  | _, _, .non => .non
  | _, _, .bl b => .bl b
  | _, _, .int i => .int i
  | _, _, .str x => .str x
  | _, _, .tup h r => .tup (sqt_le e h) (DtA.le e r)
  | _, _, .lst h r => .lst (rd_le e h) (DtA.le e r)
  | _, _, .fn i => .fn i
  | _, _, .scr h r => .scr (sql_le e h) (DtA.le e r)
  | _, _, .ins h k f r => .ins (e _ _ h) k f (DtA.le e r)
  | _, _, .cls c => .cls c
  | _, _, .rng h => .rng (e _ _ h)
  | _, _, .dct h k r => .dct (e _ _ h) k (DtA.le e r)
theorem DtA.le (e : ∀ a o, H a = some o → H' a = some o) : ∀ {vs : List V} {ds : List D}, DtA G H vs ds → DtA G H' vs ds
  | _, _, .nil => .nil
  | _, _, .cons h r => .cons (Dt.le e h) (DtA.le e r)
end
theorem DtA.length : ∀ {vs : List V} {ds : List D}, DtA G H vs ds → vs.length = ds.length
  | _, _, .nil => rfl
  | _, _, .cons _ r => congrArg (· + 1) (DtA.length r)
theorem DtA.get : ∀ {vs : List V} {ds : List D} {i : Nat} {d : D}, DtA G H vs ds → ds[i]? = some d → ∃ v, vs[i]? = some v ∧ Dt G H v d
  | _, _, _, _, .nil, e => by simp at e
  | _, _, 0, _, .cons h _, e => by simp at e; subst e; exact ⟨_, rfl, h⟩
  | _, _, i + 1, _, .cons _ r, e => by
    obtain ⟨v, h1, h2⟩ := DtA.get (i := i) r (by simpa using e)
    exact ⟨v, by simpa using h1, h2⟩
theorem DtA.getV : ∀ {vs : List V} {ds : List D} {i : Nat} {v : V}, DtA G H vs ds → vs[i]? = some v → ∃ d, ds[i]? = some d ∧ Dt G H v d
  | _, _, _, _, .nil, e => by simp at e
  | _, _, 0, _, .cons h _, e => by simp at e; subst e; exact ⟨_, rfl, h⟩
  | _, _, i + 1, _, .cons _ r, e => by
    obtain ⟨v, h1, h2⟩ := DtA.getV (i := i) r (by simpa using e)
    exact ⟨v, by simpa using h1, h2⟩
theorem DtA.append : ∀ {vs ws : List V} {ds es : List D}, DtA G H vs ds → DtA G H ws es → DtA G H (vs ++ ws) (ds ++ es)
  | _, _, _, _, .nil, s => s
  | _, _, _, _, .cons h r, s => .cons h (DtA.append r s)
theorem DtA.set {v : V} {d : D} (h : Dt G H v d) : ∀ {vs : List V} {ds : List D} (i : Nat), DtA G H vs ds → DtA G H (vs.set i v) (ds.set i d)
  | _, _, _, .nil => .nil
  | _, _, 0, .cons _ r => .cons h r
  | _, _, i + 1, .cons q r => .cons q (DtA.set h i r)
theorem DtA.take : ∀ {vs : List V} {ds : List D} (n : Nat), DtA G H vs ds → DtA G H (vs.take n) (ds.take n)
  | _, _, 0, _ => .nil
  | _, _, _ + 1, .nil => .nil
  | _, _, n + 1, .cons h r => .cons h (DtA.take n r)
theorem DtA.drop : ∀ {vs : List V} {ds : List D} (n : Nat), DtA G H vs ds → DtA G H (vs.drop n) (ds.drop n)
  | _, _, 0, r => r
  | _, _, _ + 1, .nil => .nil
  | _, _, n + 1, .cons _ r => DtA.drop n r
theorem DtA.rep {vs : List V} {ds : List D} (h : DtA G H vs ds) : ∀ n : Nat, DtA G H (List.replicate n vs).flatten (List.replicate n ds).flatten
  | 0 => .nil
  | n + 1 => by
    rw [List.replicate_succ, List.replicate_succ, List.flatten_cons, List.flatten_cons]
    exact h.append (DtA.rep h n)
end

/-! ### hidden addresses -/
abbrev AS := Addr → Prop
noncomputable def Hr (H : Hp) (M : AS) : Hp := fun a => open Classical in if M a then none else H a
theorem hr_some {H : Hp} {M : AS} {a : Addr} {o : HO} : Hr H M a = some o ↔ ¬ M a ∧ H a = some o := by
  unfold Hr
  by_cases h : M a
  · rw [if_pos h]
    exact ⟨fun e => (nomatch e), fun e => absurd h e.1⟩
  · rw [if_neg h]
    exact ⟨fun e => ⟨h, e⟩, fun e => e.2⟩
theorem hr_sub {H : Hp} {M : AS} : ∀ a o, Hr H M a = some o → H a = some o := fun _ _ e => (hr_some.mp e).2
theorem hr_mono {H H' : Hp} {M M' : AS} (k : ∀ a o, ¬ M a → H a = some o → H' a = some o) (s : ∀ a, M' a → M a ∨ H a = none) : ∀ a o, Hr H M a = some o → Hr H' M' a = some o := fun a o e => by
  obtain ⟨n, e⟩ := hr_some.mp e
  refine hr_some.mpr ⟨fun z => ?_, k a o n e⟩
  rcases s a z with z | z
  · exact n z
  · rw [z] at e; cases e

/-- what stands at an own list's address; its items lie outside M -/
def OwnC (G : GD) (M : AS) (H : Hp) (p : Addr) : D → Prop
  | .lst ds => ∃ vs, H p = some (.lst vs) ∧ DtA G (Hr H M) vs ds
  | .ins c ns ds => ∃ dx fl, H p = some (.ins (G.ca c) dx fl) ∧ fl.map (·.1) = ns.take ds.length ∧ InsF G c ns ∧ DtA G (Hr H M) (fl.map (·.2)) ds
  | .dct ds => ∃ kvs, H p = some (.dT kvs) ∧ kvs.map (·.1) = ds.map (·.1) ∧ DtA G (Hr H M) (kvs.map (·.2)) (ds.map (·.2))
  | _ => False
theorem OwnC.some {G : GD} {M : AS} {H : Hp} {p : Addr} {d : D} (h : OwnC G M H p d) : H p ≠ none := by
  cases d with
  | lst ds => obtain ⟨vs, e, _⟩ := h; rw [e]; simp
  | ins c ns ds => obtain ⟨dx, fl, e, _⟩ := h; rw [e]; simp
  | dct ds => obtain ⟨kvs, e, _⟩ := h; rw [e]; simp
  | _ => exact h.elim
theorem OwnC.le {G : GD} {M M' : AS} {H H' : Hp} {p : Addr} {d : D} (h : OwnC G M H p d) (e : ∀ a o, Hr H M a = .some o → Hr H' M' a = .some o) (k : H' p = H p) : OwnC G M' H' p d := by
  cases d with
  | lst ds => obtain ⟨vs, q, r⟩ := h; exact ⟨vs, k.trans q, r.le e⟩
  | ins c ns ds => obtain ⟨dx, fl, q, z, f, r⟩ := h; exact ⟨dx, fl, k.trans q, z, f, r.le e⟩
  | dct ds => obtain ⟨kvs, q, z, r⟩ := h; exact ⟨kvs, k.trans q, z, r.le e⟩
  | _ => exact h.elim
/-- an own object, once it is let go -/
theorem OwnC.dt {G : GD} {M M' : AS} {H : Hp} {p : Addr} {d : D} (h : OwnC G M H p d) (s : ∀ a, M' a → M a) (n : ¬ M' p) : Dt G (Hr H M') (.ref p) d := by
  cases d with
  | lst ds =>
    obtain ⟨vs, q, r⟩ := h
    exact .lst (.inl (hr_some.mpr ⟨n, q⟩)) (r.le (hr_mono (fun _ _ _ e => e) fun a z => .inl (s a z)))
  | ins c ns ds =>
    obtain ⟨dx, fl, q, z, f, r⟩ := h
    exact .ins (hr_some.mpr ⟨n, q⟩) z f (r.le (hr_mono (fun _ _ _ e => e) fun a z => .inl (s a z)))
  | dct ds =>
    obtain ⟨kvs, q, z, r⟩ := h
    exact .dct (hr_some.mpr ⟨n, q⟩) z (r.le (hr_mono (fun _ _ _ e => e) fun a z => .inl (s a z)))
  | _ => exact h.elim

/-! ### the state's relation -/
def OwnAt (ρ : Env) (σ : L2.St) (i : Nat) (p : Addr) : Prop := (∃ d, ρ[i]? = some (.own d) ∨ ρ[i]? = some (.io d)) ∧ σ[i]? = some (some (.ref p))
def Mm (F : AS) (ρ : Env) (σ : L2.St) : AS := fun a => F a ∨ ∃ i, OwnAt ρ σ i a
def SlotOk (G : GD) (M : AS) (H : Hp) : Slot → Option (Option V) → Prop
  | .un, _ => True
  | .val d, x => ∃ v, x = some (some v) ∧ Dt G (Hr H M) v d
  | .own d, x => ∃ p, x = some (some (.ref p)) ∧ OwnC G M H p d
  | .io d, x => ∃ p, x = some (some (.ref p)) ∧ OwnC G M H p d

/-- the def's run: the heap at its entry, the places and addresses of the arguments that it may change -/
structure Fr where
  H0 : Hp
  ios : List (Nat × Addr)
def Fr.IO (X : Fr) (a : Addr) : Prop := ∃ i, (i, a) ∈ X.ios
structure SR (G : GD) (X : Fr) (F : AS) (ρ : Env) (σ : L2.St) (H : Hp) : Prop where
  len : ρ.length = σ.length
  inj : ∀ (i j : Nat) (p : Addr), OwnAt ρ σ i p → OwnAt ρ σ j p → i = j
  dis : ∀ (i : Nat) (p : Addr), OwnAt ρ σ i p → ¬ F p
  slot : ∀ (i : Nat) (s : Slot), ρ[i]? = some s → SlotOk G (Mm F ρ σ) H s σ[i]?
  frame : ∀ a o, ¬ X.IO a → X.H0 a = some o → H a = some o
  ownf : ∀ (i : Nat) (p : Addr), OwnAt ρ σ i p → X.IO p ∨ X.H0 p = none
  fdom : ∀ p, F p → H p ≠ none
  ios : ∀ (i : Nat) (p : Addr), (i, p) ∈ X.ios → (∃ d, ρ[i]? = some (.io d)) ∧ σ[i]? = some (some (.ref p))

section
variable {G : GD} {X : Fr} {F F' : AS} {ρ ρ' : Env} {σ : L2.St} {H H' : Hp}
theorem SR.own {i : Nat} {p : Addr} (S : SR G X F ρ σ H) (h : OwnAt ρ σ i p) : H p ≠ none := by
  obtain ⟨⟨d, h1⟩, h2⟩ := h
  rcases h1 with h1 | h1
  · obtain ⟨q, e, c⟩ := S.slot i _ h1
    rw [h2] at e; cases e
    exact c.some
  · obtain ⟨q, e, c⟩ := S.slot i _ h1
    rw [h2] at e; cases e
    exact c.some
theorem SR.mdom (S : SR G X F ρ σ H) : ∀ a, Mm F ρ σ a → H a ≠ none := fun a h => by
  rcases h with h | ⟨i, h⟩
  · exact S.fdom a h
  · exact S.own h
theorem SR.io_some (S : SR G X F ρ σ H) {p : Addr} (h : X.IO p) : H p ≠ none := by
  obtain ⟨i, h⟩ := h
  obtain ⟨⟨d, h1⟩, h2⟩ := S.ios i p h
  exact S.own ⟨⟨d, .inr h1⟩, h2⟩
theorem SR.new0 (S : SR G X F ρ σ H) {p : Addr} (h : H p = none) : X.H0 p = none ∧ ¬ X.IO p := by
  have n : ¬ X.IO p := fun z => S.io_some z h
  refine ⟨?_, n⟩
  cases e : X.H0 p with
  | none => rfl
  | some o => rw [S.frame p o n e] at h; cases h
/-- the name i holds something -/
def Liv (ρ : Env) (i : Nat) : Prop := ∃ d, ρ[i]? = some (.own d) ∨ ρ[i]? = some (.io d) ∨ ρ[i]? = some (.val d)
/-- what an evaluation leaves -/
structure Po (G : GD) (X : Fr) (σ : L2.St) (F : AS) (ρ : Env) (H : Hp) (F' : AS) (ρ' : Env) (H' : Hp) : Prop where
  sr : SR G X F' ρ' σ H'
  le : ∀ a o, Hr H (Mm F ρ σ) a = some o → Hr H' (Mm F' ρ' σ) a = some o
  keep : ∀ p, F p → F' p ∧ H' p = H p
  sub : ∀ (i : Nat) (p : Addr), OwnAt ρ' σ i p → OwnAt ρ σ i p
  liv : ∀ i : Nat, Liv ρ i → Liv ρ' i
theorem Po.refl (S : SR G X F ρ σ H) : Po G X σ F ρ H F ρ H := ⟨S, fun _ _ e => e, fun _ h => ⟨h, rfl⟩, fun _ _ h => h, fun _ h => h⟩
theorem Po.trans {F1 F2 : AS} {ρ1 ρ2 : Env} {H1 H2 : Hp} (a : Po G X σ F ρ H F1 ρ1 H1) (b : Po G X σ F1 ρ1 H1 F2 ρ2 H2) : Po G X σ F ρ H F2 ρ2 H2 :=
  ⟨b.sr, fun x o e => b.le x o (a.le x o e), fun p h => ⟨(b.keep p (a.keep p h).1).1, (b.keep p (a.keep p h).1).2.trans (a.keep p h).2⟩, fun i p h => a.sub i p (b.sub i p h), fun i h => b.liv i (a.liv i h)⟩
/-- temporaries are let go -/
theorem SR.drop (S : SR G X F' ρ σ H) (h : ∀ p, F p → F' p) : SR G X F ρ σ H := by
  have m : ∀ a, Mm F ρ σ a → Mm F' ρ σ a := fun a z => z.imp (h a) id
  have le : ∀ a o, Hr H (Mm F' ρ σ) a = some o → Hr H (Mm F ρ σ) a = some o := hr_mono (fun _ _ _ e => e) fun a z => .inl (m a z)
  refine ⟨S.len, S.inj, fun i p q z => S.dis i p q (h p z), fun i s e => ?_, S.frame, S.ownf, fun p z => S.fdom p (h p z), S.ios⟩
  have q := S.slot i s e
  cases s with
  | un => trivial
  | val d => obtain ⟨v, e, q⟩ := q; exact ⟨v, e, q.le le⟩
  | own d => obtain ⟨v, e, q⟩ := q; exact ⟨v, e, q.le le rfl⟩
  | io d => obtain ⟨v, e, q⟩ := q; exact ⟨v, e, q.le le rfl⟩
theorem Po.drop (a : Po G X σ F ρ H F' ρ' H') {F2 : AS} (h : ∀ p, F p → F2 p) (h2 : ∀ p, F2 p → F' p) : Po G X σ F ρ H F2 ρ' H' :=
  ⟨a.sr.drop h2, fun x o e => hr_mono (fun _ _ _ e => e) (fun c z => .inl (z.imp (h2 c) id)) x o (a.le x o e), fun p z => ⟨h p z, (a.keep p z).2⟩, a.sub, a.liv⟩
/-- a new object -/
theorem SR.laid {p : Addr} {o : HO} (S : SR G X F ρ σ H) (n : H p = none) : SR G X F ρ σ (upd H p o) := by
  have k : ∀ a u, H a = some u → upd H p o a = some u := fun a u e => by rw [upd_ne (ne_of_none e n)]; exact e
  have le : ∀ a u, Hr H (Mm F ρ σ) a = some u → Hr (upd H p o) (Mm F ρ σ) a = some u := hr_mono (fun a u _ e => k a u e) fun a z => .inl z
  have kp : ∀ a, H a ≠ none → upd H p o a = H a := fun a e => upd_ne fun z => e (z ▸ n)
  refine ⟨S.len, S.inj, S.dis, fun i s e => ?_, fun a u h e => k a u (S.frame a u h e), S.ownf, fun q z => by rw [kp q (S.fdom q z)]; exact S.fdom q z, S.ios⟩
  have q := S.slot i s e
  cases s with
  | un => trivial
  | val d => obtain ⟨v, e, q⟩ := q; exact ⟨v, e, q.le le⟩
  | own d => obtain ⟨v, e, q⟩ := q; exact ⟨v, e, q.le le (kp _ q.some)⟩
  | io d => obtain ⟨v, e, q⟩ := q; exact ⟨v, e, q.le le (kp _ q.some)⟩
theorem Po.laid {p : Addr} {o : HO} (S : SR G X F ρ σ H) (n : H p = none) : Po G X σ F ρ H F ρ (upd H p o) :=
  ⟨S.laid n, hr_mono (fun a u _ e => by rw [upd_ne (ne_of_none e n)]; exact e) fun a z => .inl z, fun q z => ⟨z, upd_ne fun e => S.fdom q z (e ▸ n)⟩, fun _ _ h => h, fun _ h => h⟩
/-- a new temporary -/
def addF (F : AS) (p : Addr) : AS := fun a => a = p ∨ F a
theorem SR.add {p : Addr} (S : SR G X F ρ σ H) (nm : ¬ Mm F ρ σ p) (le : ∀ a o, Hr H (Mm F ρ σ) a = some o → a ≠ p) (n : H p ≠ none) : SR G X (addF F p) ρ σ H := by
  have le2 : ∀ a o, Hr H (Mm F ρ σ) a = some o → Hr H (Mm (addF F p) ρ σ) a = some o := fun a o e => by
    obtain ⟨n1, e1⟩ := hr_some.mp e
    refine hr_some.mpr ⟨fun z => ?_, e1⟩
    rcases z with (z | z) | z
    · exact le a o e z
    · exact n1 (.inl z)
    · exact n1 (.inr z)
  refine ⟨S.len, S.inj, fun i q h z => ?_, fun i s e => ?_, S.frame, S.ownf, fun q z => ?_, S.ios⟩
  · rcases z with z | z
    · exact nm (.inr ⟨i, z ▸ h⟩)
    · exact S.dis i q h z
  · have q := S.slot i s e
    cases s with
    | un => trivial
    | val d => obtain ⟨v, e, q⟩ := q; exact ⟨v, e, q.le le2⟩
    | own d => obtain ⟨v, e, q⟩ := q; exact ⟨v, e, q.le le2 rfl⟩
    | io d => obtain ⟨v, e, q⟩ := q; exact ⟨v, e, q.le le2 rfl⟩
  · rcases z with z | z
    · rw [z]; exact n
    · exact S.fdom q z
/-- a new object that is a temporary -/
theorem Po.laidF {p : Addr} {o : HO} (S : SR G X F ρ σ H) (n : H p = none) : Po G X σ F ρ H (addF F p) ρ (upd H p o) := by
  have nm : ¬ Mm F ρ σ p := fun z => S.mdom p z n
  have S1 := S.laid (o := o) n
  have le : ∀ a u, Hr H (Mm F ρ σ) a = some u → Hr (upd H p o) (Mm (addF F p) ρ σ) a = some u := hr_mono (fun a u _ e => by rw [upd_ne (ne_of_none e n)]; exact e) fun a z => by
    rcases z with (z | z) | z
    · exact .inr (z ▸ n)
    · exact .inl (.inl z)
    · exact .inl (.inr z)
  have kp : ∀ a, H a ≠ none → upd H p o a = H a := fun a e => upd_ne fun z => e (z ▸ n)
  refine ⟨⟨S.len, S.inj, fun i q h z => ?_, fun i s e => ?_, S1.frame, S.ownf, fun q z => ?_, S.ios⟩, le, fun q z => ⟨.inr z, kp q (S.fdom q z)⟩, fun _ _ h => h, fun _ h => h⟩
  · rcases z with z | z
    · exact nm (.inr ⟨i, z ▸ h⟩)
    · exact S.dis i q h z
  · have q := S.slot i s e
    cases s with
    | un => trivial
    | val d => obtain ⟨v, e, q⟩ := q; exact ⟨v, e, q.le le⟩
    | own d => obtain ⟨v, e, q⟩ := q; exact ⟨v, e, q.le le (kp _ q.some)⟩
    | io d => obtain ⟨v, e, q⟩ := q; exact ⟨v, e, q.le le (kp _ q.some)⟩
  · rcases z with z | z
    · rw [z, upd_same]; simp
    · rw [kp q (S.fdom q z)]; exact S.fdom q z
/-- an own name's list is let go: the name keeps it as a value -/
theorem Po.settle {i : Nat} {d : D} (S : SR G X F ρ σ H) (h : ρ[i]? = some (.own d)) : ∃ p, σ[i]? = some (some (.ref p)) ∧ Po G X σ F ρ H F (ρ.set i (.val d)) H ∧ Dt G (Hr H (Mm F (ρ.set i (.val d)) σ)) (.ref p) d := by
  obtain ⟨p, e, c⟩ := S.slot i _ h
  have hi : i < ρ.length := (List.getElem?_eq_some_iff.mp h).1
  have own : ∀ j q, OwnAt (ρ.set i (.val d)) σ j q → OwnAt ρ σ j q ∧ j ≠ i := fun j q ⟨⟨x, z⟩, w⟩ => by
    by_cases hj : j = i
    · subst hj
      rw [List.getElem?_set_self hi] at z
      rcases z with z | z <;> cases z
    · rw [List.getElem?_set_ne (Ne.symm hj)] at z
      exact ⟨⟨⟨x, z⟩, w⟩, hj⟩
  have m : ∀ a, Mm F (ρ.set i (.val d)) σ a → Mm F ρ σ a := fun a z => z.imp id fun ⟨j, z⟩ => ⟨j, (own j a z).1⟩
  have np : ¬ Mm F (ρ.set i (.val d)) σ p := fun z => by
    rcases z with z | ⟨j, z⟩
    · exact S.dis i p ⟨⟨d, .inl h⟩, e⟩ z
    · exact (own j p z).2 (S.inj j i p (own j p z).1 ⟨⟨d, .inl h⟩, e⟩)
  have le : ∀ a o, Hr H (Mm F ρ σ) a = some o → Hr H (Mm F (ρ.set i (.val d)) σ) a = some o := hr_mono (fun _ _ _ e => e) fun a z => .inl (m a z)
  have dt := c.dt m np
  refine ⟨p, e, ⟨⟨by rw [List.length_set]; exact S.len, fun j k q a b => S.inj j k q (own j q a).1 (own k q b).1, fun j q a => S.dis j q (own j q a).1, fun j s z => ?_, S.frame, fun j q a => S.ownf j q (own j q a).1, S.fdom, fun j q z => ?_⟩, le, fun q z => ⟨z, rfl⟩, fun j q a => (own j q a).1, fun j ⟨x, z⟩ => ?_⟩, dt⟩
  · by_cases hj : j = i
    · subst hj
      rw [List.getElem?_set_self hi] at z
      cases z
      exact ⟨_, e, dt⟩
    · rw [List.getElem?_set_ne (Ne.symm hj)] at z
      have q := S.slot j s z
      cases s with
      | un => trivial
      | val d => obtain ⟨v, e, q⟩ := q; exact ⟨v, e, q.le le⟩
      | own d => obtain ⟨v, e, q⟩ := q; exact ⟨v, e, q.le le rfl⟩
      | io d => obtain ⟨v, e, q⟩ := q; exact ⟨v, e, q.le le rfl⟩
  · obtain ⟨⟨x, h1⟩, h2⟩ := S.ios j q z
    have hj : j ≠ i := fun e => by rw [e, h] at h1; cases h1
    exact ⟨⟨x, by rw [List.getElem?_set_ne (Ne.symm hj)]; exact h1⟩, h2⟩
  · by_cases hj : j = i
    · exact ⟨d, .inr (.inr (by rw [hj, List.getElem?_set_self hi]))⟩
    · exact ⟨x, by rw [List.getElem?_set_ne (Ne.symm hj)]; exact z⟩
end
end Mp

set_option maxRecDepth 100000
set_option maxHeartbeats 4000000
/-! Mp3: operations by values, sound. -/
namespace Mp
open PySem PySem.Spec PyProof.Rows L2

/-- readable as d, its items outside M -/
def Sh (G : GD) (M : AS) (H : Hp) (v : V) (d : D) : Prop := Dt G (Hr H M) v d ∨ ∃ p, v = .ref p ∧ OwnC G M H p d
inductive ShA (G : GD) (M : AS) (H : Hp) : List V → List D → Prop
  | nil : ShA G M H [] []
  | cons {v : V} {d : D} {vs : List V} {ds : List D} : Sh G M H v d → ShA G M H vs ds → ShA G M H (v :: vs) (d :: ds)
/-- what an operation gives -/
inductive NewV (G : GD) (M : AS) (H : Hp) : V → Hp → D → Bool → Prop
  | old {v : V} {d : D} : Dt G (Hr H M) v d → NewV G M H v H d false
  | tup {p : Addr} {vs : List V} {ds : List D} : H p = none → DtA G (Hr H M) vs ds → NewV G M H (.ref p) (upd H p (.tup vs)) (.tup ds) false
  | lst {p : Addr} {vs : List V} {ds : List D} : H p = none → DtA G (Hr H M) vs ds → NewV G M H (.ref p) (upd H p (.lst vs)) (.lst ds) true

section
variable {G : GD} {M : AS} {H : Hp} {v : V}
theorem Sh.int {i : Int} (h : Sh G M H v (.int i)) : v = .int i := by
  rcases h with h | ⟨p, _, h⟩
  · cases h; rfl
  · exact h.elim
theorem Sh.bl {b : Bool} (h : Sh G M H v (.bl b)) : v = .bl b := by
  rcases h with h | ⟨p, _, h⟩
  · cases h; rfl
  · exact h.elim
theorem Sh.str {x : Str} (h : Sh G M H v (.str x)) : v = .str x := by
  rcases h with h | ⟨p, _, h⟩
  · cases h; rfl
  · exact h.elim
theorem Sh.non (h : Sh G M H v .non) : v = .non := by
  rcases h with h | ⟨p, _, h⟩
  · cases h; rfl
  · exact h.elim
theorem Sh.tup {ds : List D} (h : Sh G M H v (.tup ds)) : ∃ p vs, v = .ref p ∧ SqT G.K H p vs ∧ DtA G (Hr H M) vs ds := by
  rcases h with h | ⟨p, _, h⟩
  · cases h with
    | tup a r => exact ⟨_, _, rfl, sqt_le hr_sub a, r⟩
  · exact h.elim
theorem Sh.lst {ds : List D} (h : Sh G M H v (.lst ds)) : ∃ p vs, v = .ref p ∧ SqL G.K H p vs ∧ DtA G (Hr H M) vs ds := by
  rcases h with h | ⟨p, e, h⟩
  · cases h with
    | lst a r => exact ⟨_, _, rfl, .inl (rd_le hr_sub a), r⟩
  · obtain ⟨vs, q, r⟩ := h
    exact ⟨p, vs, e, .inl (.inl q), r⟩
theorem Sh.scr {ds : List D} (h : Sh G M H v (.scr ds)) : ∃ p vs, v = .ref p ∧ SqL G.K H p vs ∧ DtA G (Hr H M) vs ds := by
  rcases h with h | ⟨p, e, h⟩
  · cases h with
    | scr a r => exact ⟨_, _, rfl, sql_le hr_sub a, r⟩
  · exact h.elim
theorem Sh.dt {d : D} (h : Sh G M H v d) : Dt G H v d := by
  rcases h with h | ⟨p, e, h⟩
  · exact h.le hr_sub
  · cases d with
    | lst ds =>
      obtain ⟨vs, q, r⟩ := h
      rw [e]
      exact .lst (.inl q) (r.le hr_sub)
    | ins c ns ds =>
      obtain ⟨dx, fl, q, z, f, r⟩ := h
      rw [e]
      exact .ins q z f (r.le hr_sub)
    | dct ds =>
      obtain ⟨kvs, q, z, r⟩ := h
      rw [e]
      exact .dct q z (r.le hr_sub)
    | _ => exact h.elim
theorem DtA.dt {vs : List V} {ds : List D} (h : DtA G (Hr H M) vs ds) : DtA G H vs ds := h.le hr_sub
end

/-! ### data -/
section
variable {G : GD} {H : Hp}
mutual
theorem dp_of : ∀ {v : V} {d : D}, Dt G H v d → d.toP.plain = true → Dp G.K H v d.toP
  | _, _, .non, _ => .non
  | _, _, .bl b, _ => .bl b
  | _, _, .int i, _ => .int i
  | _, _, .str x, _ => .str x
  | _, _, .tup h r, p => .tup h (dpA_of r (by simpa [D.toP, PyData.plain] using p))
  | _, _, .lst h r, p => .lst (.inl h) (dpA_of r (by simpa [D.toP, PyData.plain] using p))
  | _, _, .fn i, p => by simp [D.toP, PyData.plain] at p
  | _, _, .scr _ _, p => by simp [D.toP, PyData.plain] at p
  | _, _, .ins _ _ _ _, p => by simp [D.toP, PyData.plain] at p
  | _, _, .cls _, p => by simp [D.toP, PyData.plain] at p
theorem dpA_of : ∀ {vs : List V} {ds : List D}, DtA G H vs ds → PyData.plainAll (D.toPs ds) = true → DpAll G.K H vs (D.toPs ds)
  | _, _, .nil, _ => .nil
  | _, _, .cons h r, p => by
    simp only [D.toPs, PyData.plainAll, Bool.and_eq_true] at p
    exact .cons (dp_of h p.1) (dpA_of r p.2)
end
end

section
variable {X : Cx}
/-- a comparison of data -/
def rCmpP (g : PyData → PyData → Bool) (c : PyData → PyData → Prop) (K : PySem.W.Frag) : R2 := fun x y H Q => ∃ d e : PyData, Dp K H x d ∧ Dp K H y e ∧ d.plain = true ∧ e.plain = true ∧ c d e ∧ min d.depth e.depth ≤ 64 ∧ Q (.bl (g d e)) H
theorem op_cmpP {op : CmpOp} {g : PyData → PyData → Bool} {c : PyData → PyData → Prop} (hu : X.A.units + 64 < cLine)
    (rule : ∀ (s : Shared) (a b : Value) (da db : PyData) (as bs : List Addr) (Q : Value → Shared → Prop) (E : Value → Shared → Prop), Reads s.heap a da as → Reads s.heap b db bs → da.plain = true → db.plain = true → c da db → X.A.units + min da.depth db.depth < cLine → Q (.bool (g da db)) s → wpAny (model X.prog X.w) X.A (compareOp op a b) Q E s) :
    OpR X (compareOp op) (rCmpP g c X.K) := by
  intro pins s σ H x y v u Q I rx ry h
  obtain ⟨d, e, hd, he, p1, p2, hc, hm, q⟩ := h
  obtain ⟨as, r1⟩ := Dp.reads I d x v hd rx
  obtain ⟨bs, r2⟩ := Dp.reads I e y u he ry
  exact rule s v u d e as bs _ _ r1 r2 p1 p2 hc (by omega) ⟨.bl _, H, I, rfl, q⟩
theorem op_eqP (hu : X.A.units + 64 < cLine) : OpR X (compareOp .Eq) (rCmpP PyData.eqv (fun _ _ => True) X.K) :=
  op_cmpP hu fun s a b da db as bs Q E r1 r2 p1 p2 _ hm q => SeqAt.eq_plain r1 r2 p1 p2 hm q
theorem op_neP (hu : X.A.units + 64 < cLine) : OpR X (compareOp .NotEq) (rCmpP (fun a b => !PyData.eqv a b) (fun _ _ => True) X.K) :=
  op_cmpP hu fun s a b da db as bs Q E r1 r2 p1 p2 _ hm q => SeqAt.ne_plain r1 r2 p1 p2 hm q
abbrev cLt (da db : PyData) : Prop := PySem.W.alike da db = true ∧ da ≠ .none
theorem op_ltP (hu : X.A.units + 64 < cLine) : OpR X (compareOp .Lt) (rCmpP (fun a b => PySem.W.dataLt a b) cLt X.K) :=
  op_cmpP hu fun s a b da db as bs Q E r1 r2 p1 p2 c hm q => PySem.W.lt_data r1 r2 c.1 c.2 hm q
theorem op_gtP (hu : X.A.units + 64 < cLine) : OpR X (compareOp .Gt) (rCmpP (fun a b => PySem.W.dataLt b a) cLt X.K) :=
  op_cmpP hu fun s a b da db as bs Q E r1 r2 p1 p2 c hm q => PySem.W.gt_data r1 r2 c.1 c.2 hm q
theorem op_leP (hu : X.A.units + 64 < cLine) : OpR X (compareOp .LtE) (rCmpP (fun a b => !PySem.W.dataLt b a) cLt X.K) :=
  op_cmpP hu fun s a b da db as bs Q E r1 r2 p1 p2 c hm q => PySem.W.le_data r1 r2 c.1 c.2 hm q
theorem op_geP (hu : X.A.units + 64 < cLine) : OpR X (compareOp .GtE) (rCmpP (fun a b => !PySem.W.dataLt a b) cLt X.K) :=
  op_cmpP hu fun s a b da db as bs Q E r1 r2 p1 p2 c hm q => PySem.W.ge_data r1 r2 c.1 c.2 hm q
/-- x in xs -/
def rInP (b : Bool) (K : PySem.W.Frag) : R2 := fun x y H Q => ∃ (d : PyData) (es : List PyData), Dp K H x d ∧ (Dp K H y (.list es) ∨ Dp K H y (.tuple es)) ∧ d.plain = true ∧ PyData.plainAll es = true ∧ min (PyData.depthAll es) d.depth ≤ 64 ∧ Q (.bl (b ^^ (es.any fun z => PyData.eqv z d))) H
theorem op_inP (hu : X.A.units + 65 < cLine) : OpR X (compareOp .In) (rInP false X.K) := by
  intro pins s σ H x y v u Q I rx ry h
  obtain ⟨d, es, hd, he, p1, p2, hm, q⟩ := h
  obtain ⟨as, r1⟩ := Dp.reads I d x v hd rx
  rw [Bool.false_xor] at q
  rcases he with he | he
  · obtain ⟨bs, r2⟩ := Dp.reads I _ y u he ry
    exact SeqAt.in_list_data r2 r1 p2 p1 (by omega) ⟨.bl _, H, I, rfl, q⟩
  · obtain ⟨bs, r2⟩ := Dp.reads I _ y u he ry
    exact SeqAt.in_tuple_data r2 r1 p2 p1 (by omega) ⟨.bl _, H, I, rfl, q⟩
theorem op_ninP (hu : X.A.units + 65 < cLine) : OpR X (compareOp .NotIn) (rInP true X.K) := by
  intro pins s σ H x y v u Q I rx ry h
  obtain ⟨d, es, hd, he, p1, p2, hm, q⟩ := h
  obtain ⟨as, r1⟩ := Dp.reads I d x v hd rx
  rw [Bool.true_xor] at q
  rcases he with he | he
  · obtain ⟨bs, r2⟩ := Dp.reads I _ y u he ry
    exact SeqAt.notIn_list_data r2 r1 p2 p1 (by omega) ⟨.bl _, H, I, rfl, q⟩
  · obtain ⟨bs, r2⟩ := Dp.reads I _ y u he ry
    exact SeqAt.notIn_tuple_data r2 r1 p2 p1 (by omega) ⟨.bl _, H, I, rfl, q⟩
theorem OpR.or {f : Value → Value → Sem Value} {r r' : R2} (h : OpR X f r) (h' : OpR X f r') : OpR X f (fun x y H Q => r x y H Q ∨ r' x y H Q) := fun pins s σ H x y v u Q I rx ry q => q.elim (h pins s σ H x y v u Q I rx ry) (h' pins s σ H x y v u Q I rx ry)

def copOf : Cop → CmpOp
  | .eq => .Eq | .ne => .NotEq | .lt => .Lt | .le => .LtE | .gt => .Gt | .ge => .GtE | .is_ => .Is | .isn => .IsNot | .in_ => .In | .nin => .NotIn
def bopOf : Bop → Operator
  | .add => .Add | .sub => .Sub | .mul => .Mult | .fdiv => .FloorDiv | .mod => .Mod | .pow => .Pow
theorem op_isB2 : OpR X (compareOp .Is) (fun x y H Q => ∃ c d, x = .bl c ∧ y = .bl d ∧ Q (.bl (c == d)) H) := by
  intro pins s σ H x y v u Q I rx ry h
  obtain ⟨c, d, rfl, rfl, q⟩ := h
  cases rx
  cases ry
  exact is_bool (fin_bl I q rfl)
theorem op_isnB2 : OpR X (compareOp .IsNot) (fun x y H Q => ∃ c d, x = .bl c ∧ y = .bl d ∧ Q (.bl (!(c == d))) H) := by
  intro pins s σ H x y v u Q I rx ry h
  obtain ⟨c, d, rfl, rfl, q⟩ := h
  cases rx
  cases ry
  exact isnot_bool (fin_bl I q rfl)
end

/-! ### comparisons, sound -/
section
variable {X : Cx} {G : GD}
theorem toPs_len : ∀ xs : List D, (D.toPs xs).length = xs.length
  | [] => rfl
  | x :: xs => by rw [D.toPs, List.length_cons, List.length_cons, toPs_len xs]
theorem any_toPs (f : PyData → Bool) : ∀ xs : List D, (D.toPs xs).any f = xs.any fun y => f y.toP
  | [] => rfl
  | x :: xs => by rw [D.toPs, List.any_cons, List.any_cons, any_toPs f xs]
theorem toP_none {a : D} (h : a.isNon = false) (p : a.ok = true) : a.toP ≠ .none := by
  cases a <;> simp_all [D.toP, D.isNon]
theorem dt_non {M : AS} {H : Hp} {x : V} {a : D} (h : Sh G M H x a) : decide (x = .non) = a.isNon := by
  rcases h with h | ⟨p, rfl, h⟩
  · cases h <;> simp [D.isNon]
  · cases a with
    | lst ds => simp [D.isNon]
    | ins c ns ds => simp [D.isNon]
    | dct ds => simp [D.isNon]
    | _ => exact h.elim
theorem eqD_some {a b : D} {k : Bool} (h : eqD a b = some k) : a.ok = true ∧ b.ok = true ∧ min a.toP.depth b.toP.depth ≤ 64 ∧ PyData.eqv a.toP b.toP = k := by
  unfold eqD at h
  split at h
  · rename_i c
    exact ⟨c.1, c.2.1, of_decide_eq_true c.2.2, Option.some.inj h⟩
  · cases h
theorem ltD_some {a b : D} {k : Bool} (h : ltD a b = some k) : a.ok = true ∧ b.ok = true ∧ cLt a.toP b.toP ∧ min a.toP.depth b.toP.depth ≤ 64 ∧ PySem.W.dataLt a.toP b.toP = k := by
  unfold ltD at h
  split at h
  · rename_i c
    exact ⟨c.1, c.2.1, ⟨c.2.2.1, toP_none c.2.2.2.1 c.1⟩, of_decide_eq_true c.2.2.2.2, Option.some.inj h⟩
  · cases h
theorem inD_some {a : D} {xs : List D} {k : Bool} (h : inD a xs = some k) : a.ok = true ∧ PyData.plainAll (D.toPs xs) = true ∧ min (PyData.depthAll (D.toPs xs)) a.toP.depth ≤ 64 ∧ ((D.toPs xs).any fun y => PyData.eqv y a.toP) = k := by
  unfold inD at h
  split at h
  · rename_i c
    exact ⟨c.1, c.2.1, c.2.2, (any_toPs _ xs).trans (Option.some.inj h)⟩
  · cases h
theorem map_not {o : Option Bool} {k : Bool} (h : o.map (!·) = some k) : o = some (!k) := by
  cases o with
  | none => cases h
  | some b =>
    simp only [Option.map_some, Option.some.injEq] at h
    rw [← h, Bool.not_not]
theorem cop_ok (G : GD) (o : Cop) : ∃ r : R2, (∀ X : Cx, X.K = G.K → X.A.units + 65 < cLine → OpR X (compareOp (copOf o)) r) ∧
    ∀ (M : AS) (H : Hp) (x y : V) (a b : D) (k : Bool) (Q : VK), Sh G M H x a → Sh G M H y b → cmpD o a b = some k → Q (.bl k) H → r x y H Q := by
  have swap : ∀ {a b : PyData}, cLt b a → a.plain = true → cLt a b := fun {a b} h p => ⟨by rw [PySem.W.alike_comm]; exact h.1, PySem.W.ne_none_both h.1 h.2⟩
  cases o with
  | eq =>
    refine ⟨rCmpP PyData.eqv (fun _ _ => True) G.K, fun X hK hu => by rw [← hK]; exact op_eqP (by omega), fun M H x y a b k Q ha hb h q => ?_⟩
    obtain ⟨h1, h2, h3, h4⟩ := eqD_some h
    exact ⟨_, _, dp_of ha.dt h1, dp_of hb.dt h2, h1, h2, trivial, h3, by rw [h4]; exact q⟩
  | ne =>
    refine ⟨rCmpP (fun a b => !PyData.eqv a b) (fun _ _ => True) G.K, fun X hK hu => by rw [← hK]; exact op_neP (by omega), fun M H x y a b k Q ha hb h q => ?_⟩
    obtain ⟨h1, h2, h3, h4⟩ := eqD_some (map_not h)
    exact ⟨_, _, dp_of ha.dt h1, dp_of hb.dt h2, h1, h2, trivial, h3, by dsimp only; rw [h4, Bool.not_not]; exact q⟩
  | lt =>
    refine ⟨rCmpP (fun a b => PySem.W.dataLt a b) cLt G.K, fun X hK hu => by rw [← hK]; exact op_ltP (by omega), fun M H x y a b k Q ha hb h q => ?_⟩
    obtain ⟨h1, h2, h3, h4, h5⟩ := ltD_some h
    exact ⟨_, _, dp_of ha.dt h1, dp_of hb.dt h2, h1, h2, h3, h4, by dsimp only; rw [h5]; exact q⟩
  | gt =>
    refine ⟨rCmpP (fun a b => PySem.W.dataLt b a) cLt G.K, fun X hK hu => by rw [← hK]; exact op_gtP (by omega), fun M H x y a b k Q ha hb h q => ?_⟩
    obtain ⟨h1, h2, h3, h4, h5⟩ := ltD_some h
    exact ⟨_, _, dp_of ha.dt h2, dp_of hb.dt h1, h2, h1, swap h3 h2, by rw [Nat.min_comm]; exact h4, by dsimp only; rw [h5]; exact q⟩
  | le =>
    refine ⟨rCmpP (fun a b => !PySem.W.dataLt b a) cLt G.K, fun X hK hu => by rw [← hK]; exact op_leP (by omega), fun M H x y a b k Q ha hb h q => ?_⟩
    obtain ⟨h1, h2, h3, h4, h5⟩ := ltD_some (map_not h)
    exact ⟨_, _, dp_of ha.dt h2, dp_of hb.dt h1, h2, h1, swap h3 h2, by rw [Nat.min_comm]; exact h4, by dsimp only; rw [h5, Bool.not_not]; exact q⟩
  | ge =>
    refine ⟨rCmpP (fun a b => !PySem.W.dataLt a b) cLt G.K, fun X hK hu => by rw [← hK]; exact op_geP (by omega), fun M H x y a b k Q ha hb h q => ?_⟩
    obtain ⟨h1, h2, h3, h4, h5⟩ := ltD_some (map_not h)
    exact ⟨_, _, dp_of ha.dt h1, dp_of hb.dt h2, h1, h2, h3, h4, by dsimp only; rw [h5, Bool.not_not]; exact q⟩
  | is_ =>
    refine ⟨_, fun X _ _ => OpR.or op_isN op_isB2, fun M H x y a b k Q ha hb h q => ?_⟩
    cases b with
    | non =>
      refine .inl ⟨hb.non, ?_⟩
      rw [dt_non ha]
      have e : some a.isNon = some k := by cases a <;> exact h
      rw [Option.some.inj e]
      exact q
    | bl c =>
      cases a with
      | bl d =>
        have e := Option.some.inj (show some (d == c) = some k from h)
        exact .inr ⟨_, _, ha.bl, hb.bl, by rw [e]; exact q⟩
      | _ => cases h
    | _ => cases a <;> cases h
  | isn =>
    refine ⟨_, fun X _ _ => OpR.or op_notN op_isnB2, fun M H x y a b k Q ha hb h q => ?_⟩
    cases b with
    | non =>
      refine .inl ⟨hb.non, ?_⟩
      rw [dt_non ha]
      have e : some (!a.isNon) = some k := by cases a <;> exact h
      rw [Option.some.inj e]
      exact q
    | bl c =>
      cases a with
      | bl d =>
        have e := Option.some.inj (show some (!(d == c)) = some k from h)
        exact .inr ⟨_, _, ha.bl, hb.bl, by rw [e]; exact q⟩
      | _ => cases h
    | _ => cases a <;> cases h
  | in_ =>
    refine ⟨rInP false G.K, fun X hK hu => by rw [← hK]; exact op_inP hu, fun M H x y a b k Q ha hb h q => ?_⟩
    cases b with
    | tup xs =>
      obtain ⟨h1, h2, h3, h4⟩ := inD_some (show inD a xs = some k by cases a <;> exact h)
      exact ⟨_, _, dp_of ha.dt h1, .inr (dp_of hb.dt (by simpa [D.toP, PyData.plain] using h2)), h1, h2, h3, by rw [h4, Bool.false_xor]; exact q⟩
    | lst xs =>
      obtain ⟨h1, h2, h3, h4⟩ := inD_some (show inD a xs = some k by cases a <;> exact h)
      exact ⟨_, _, dp_of ha.dt h1, .inl (dp_of hb.dt (by simpa [D.toP, PyData.plain] using h2)), h1, h2, h3, by rw [h4, Bool.false_xor]; exact q⟩
    | _ => cases a <;> cases h
  | nin =>
    refine ⟨rInP true G.K, fun X hK hu => by rw [← hK]; exact op_ninP hu, fun M H x y a b k Q ha hb h q => ?_⟩
    cases b with
    | tup xs =>
      obtain ⟨h1, h2, h3, h4⟩ := inD_some (map_not (show (inD a xs).map (!·) = some k by cases a <;> exact h))
      exact ⟨_, _, dp_of ha.dt h1, .inr (dp_of hb.dt (by simpa [D.toP, PyData.plain] using h2)), h1, h2, h3, by rw [h4, Bool.true_xor, Bool.not_not]; exact q⟩
    | lst xs =>
      obtain ⟨h1, h2, h3, h4⟩ := inD_some (map_not (show (inD a xs).map (!·) = some k by cases a <;> exact h))
      exact ⟨_, _, dp_of ha.dt h1, .inl (dp_of hb.dt (by simpa [D.toP, PyData.plain] using h2)), h1, h2, h3, by rw [h4, Bool.true_xor, Bool.not_not]; exact q⟩
    | _ => cases a <;> cases h
end
end Mp

set_option maxRecDepth 100000
set_option maxHeartbeats 4000000
/-! Mp4: binary operators, items, slices, built-ins, sound. -/
namespace Mp
open PySem PySem.Spec PyProof.Rows L2

theorem tuple_mul1 (l : Addr) (items : Array Value) (n : Nat) (dd : Option Addr) (sl : Array (Option Value)) (x : Int) (u : Tok) (c0 : (decide (x < -(2 ^ 63)) || decide (x ≥ 2 ^ 63)) = false) (c1 : (items.isEmpty || x == 1) = true) :
    Meets (Builtin.«tuple.__mul__» ⟨[.ref l, .int x u], []⟩) (fun _ R s => s.heap.get? l = some { cls := .type "tuple", dict := dd, data := .seq items n, slots := sl } ∧
      R (.ok (.ret (Value.ref l))) s) :=
  .of_wp fun prog w A R s h => by
    obtain ⟨hp, g, d, tk, os⟩ := s
    obtain ⟨hl, h⟩ := h
    have f1 := AutoSeq1.idx_int
    wp_walk using wpAny_loadPart' hl
    repeat (first
      | (refine wpAny_ite_false (decide_eq_false (by rw [c0]; exact Bool.false_ne_true)) ?_; wp_walk using wpAny_loadPart' hl)
      | (refine wpAny_ite_true (decide_eq_true c1) ?_; wp_walk using wpAny_loadPart' hl))
    exact ⟨_, rfl, h⟩

section
variable {X : Cx}
/-- t * 1, () * k: the tuple itself -/
def rRepT1 (K : PySem.W.Frag) : R2 := fun x y H Q => ∃ l k xs, x = .ref l ∧ y = .int k ∧ SqT K H l xs ∧ -(2 ^ 63) ≤ k ∧ k < 2 ^ 63 ∧ (xs = [] ∨ k = 1) ∧ Q (.ref l) H
theorem op_repT1 : OpR X (binaryOp .Mult) (rRepT1 X.K) := by
  intro pins s σ H x y v u Q I rx ry h
  obtain ⟨l, k, xs, rfl, rfl, hT, h1, h2, hn, q⟩ := h
  cases rx
  obtain ⟨t, rfl⟩ := ry
  obtain ⟨its, r, ⟨⟨cls, dd, data, sl⟩, ho, hc, n, hd⟩, hs⟩ := I.tuple hT
  simp only at hc hd
  subst hc hd
  have c0 : (decide (k < -(2 ^ 63)) || decide (k ≥ 2 ^ 63)) = false := by
    rw [decide_eq_false (by omega), decide_eq_false (by omega)] <;> rfl
  have c1 : (its.toArray.isEmpty || k == 1) = true := by
    rcases hn with hn | hn
    · subst hn
      cases r
      rfl
    · rw [hn]
      simp
  refine wpAny_binaryOp_repeat_ref (T := "tuple") (U := "int") (by decide) ⟨_, ho, rfl⟩ (fun s' => typeIs_int s' k t) noFill_tuple_mul F.fills_int_mul F.slot_int_rmul repeat_tuple F.slot_int_index.lookup
    (call_meets F.slot_int_rmul (typeIs_int s k t) F.entry_int_rmul (F.args_int_rmul_2 _ _) (int_rmul_tuple k t l its.toArray n dd sl)
      ⟨ho, rfl, ⟨_, ho, rfl⟩, call_meets F.slot_tuple_mul ⟨_, ho, rfl⟩ F.entry_tuple_mul (F.args_tuple_mul_2 _ _) (tuple_mul1 l its.toArray n dd sl k t c0 c1) ⟨ho, ?_⟩⟩)
  exact ⟨.ref l, H, I, rfl, q⟩
theorem rdM {P : Program} {pins : List (Addr × Obj)} {s : Shared} {σ : L2.St} {H : Hp} {l : Addr} {xs : List V} (I : Inv X pins σ H s) (hH : Rd H l (.lst xs)) :
    xs.length ≤ sizeLine ∧ ∃ (its : List Value) (n : Nat), Vals xs its ∧ xs.length = its.length ∧ s.heap.get? l = some { cls := .type "list", data := .seq its.toArray n } := by
  obtain ⟨z, its, n, r, e⟩ := hH.ok I.hok
  exact ⟨z, its, n, r, r.length, e⟩
/-- list + list, whatever lists are read -/
def rCatR : R2 := fun x y H Q => ∃ l b xs zs, x = .ref l ∧ y = .ref b ∧ Rd H l (.lst xs) ∧ Rd H b (.lst zs) ∧ xs.length + zs.length ≤ sizeLine ∧ ∀ p, H p = none → Q (.ref p) (upd H p (.lst (xs ++ zs)))
theorem op_catR : OpR X (binaryOp .Add) rCatR := by
  intro pins s σ H x y v u Q I rx ry h
  obtain ⟨l, b, xs, zs, rfl, rfl, hH, hB, hz, q⟩ := h
  cases rx
  cases ry
  obtain ⟨z, its, n, r, hl, e⟩ := rdM (P := X.prog) I hH
  obtain ⟨z2, its2, n2, r2, hl2, e2⟩ := rdM (P := X.prog) I hB
  refine PySem.P.add_list e e2 ?_ (by rw [List.size_toArray, List.size_toArray]; omega)
  have ea : its.toArray ++ its2.toArray = (its ++ its2).toArray := by simp
  rw [ea]
  exact ⟨.ref _, _, I.lnew (t' := s.toks) (r.append r2) (by rw [List.length_append]; omega), rfl, q _ I.fresh⟩
def rRepR : R2 := fun x y H Q => ∃ l k xs, x = .ref l ∧ y = .int k ∧ Rd H l (.lst xs) ∧ -(2 ^ 63) ≤ k ∧ k < 2 ^ 63 ∧ xs.length * k.toNat ≤ sizeLine ∧
  ∀ p, H p = none → Q (.ref p) (upd H p (.lst (List.replicate k.toNat xs).flatten))
theorem op_repR : OpR X (binaryOp .Mult) rRepR := by
  intro pins s σ H x y v u Q I rx ry h
  obtain ⟨l, k, xs, rfl, rfl, hH, h1, h2, hz, q⟩ := h
  cases rx
  obtain ⟨t, rfl⟩ := ry
  obtain ⟨z, its, n, r, hl, e⟩ := rdM (P := X.prog) I hH
  have hlen : its.toArray.size * k.toNat ≤ sizeLine := by rw [List.size_toArray, ← hl]; exact hz
  have hcap : ¬ its.toArray.size * k.toNat > (2 ^ 63 - 1) / 8 := by
    have : (sizeLine : Nat) ≤ (2 ^ 63 - 1) / 8 := by decide
    omega
  have hfit : ¬ (!Builtin.List.listFitsIndex k) = true := by
    rw [fitsIndex_both h1 h2]
    exact Bool.false_ne_true
  have hlong : ¬ Builtin.List.listTooLong (its.toArray.size * k.toNat) = true := by
    rw [notLongL hlen]
    exact Bool.false_ne_true
  have hnew : List.foldl (fun x1 x2 => x1 ++ x2) #[] (List.replicate (if its.toArray.isEmpty = true then 0 else k.toNat) its.toArray) = (List.replicate k.toNat its).flatten.toArray := by
    have f0 : ∀ m : Nat, List.foldl (fun x1 x2 => x1 ++ x2) #[] (List.replicate m its.toArray) = (List.replicate m its).flatten.toArray := fun m => by
      have := foldl_rep its m []
      rw [List.nil_append] at this
      exact this
    rw [f0]
    cases its with
    | nil => simp
    | cons a r' => rw [if_neg (by simp)]
  refine wpAny_binaryOp_repeat_ref (T := "list") (U := "int") (by decide) ⟨_, e, rfl⟩ (fun s' => typeIs_int s' k t) noFill_list_mul F.fills_int_mul F.slot_int_rmul repeat_list F.slot_int_index.lookup
    (call_meets F.slot_int_rmul (typeIs_int s k t) F.entry_int_rmul (F.args_int_rmul_2 _ _) (int___rmul___int_list k t l its.toArray n)
      ⟨e, rfl, ⟨_, e, rfl⟩, call_meets F.slot_list_mul ⟨_, e, rfl⟩ F.entry_list_mul (F.args_list_mul_2 _ _) (AutoListH.list___mul___list_int_3 l its.toArray n k t hfit hcap hlong) ⟨e, ?_⟩⟩)
  rw [hnew]
  exact ⟨.ref _, _, I.lnew (t' := s.toks) (r.rep k.toNat) (by rw [PyProof.Rows.lm_len_rep_flat, Nat.mul_comm]; exact hz), rfl, q _ I.fresh⟩
end

section
variable {X : Cx} {G : GD} {M : AS} {H : Hp}
theorem Sh.rd {v : V} {ds : List D} (h : Sh G M H v (.lst ds)) : ∃ p vs, v = .ref p ∧ Rd H p (.lst vs) ∧ DtA G (Hr H M) vs ds := by
  rcases h with h | ⟨p, e, h⟩
  · cases h with
    | lst a r => exact ⟨_, _, rfl, rd_le hr_sub a, r⟩
  · obtain ⟨vs, q, r⟩ := h
    exact ⟨p, vs, e, .inl q, r⟩
theorem NewV.int {i : Int} : NewV G M H (.int i) H (.int i) false := .old (.int i)
theorem flat_nil {α : Type} : ∀ n : Nat, (List.replicate n ([] : List α)).flatten = []
  | 0 => rfl
  | n + 1 => by rw [List.replicate_succ, List.flatten_cons, List.nil_append, flat_nil n]
theorem bop_ok (G : GD) (o : Bop) : ∃ r : R2, (∀ X : Cx, X.K = G.K → OpR X (binaryOp (bopOf o)) r) ∧
    ∀ (M : AS) (H : Hp) (x y : V) (a b z : D) (fr : Bool) (Q : VK), Sh G M H x a → Sh G M H y b → binD o a b = some (z, fr) → (∀ v H', NewV G M H v H' z fr → Q v H') → r x y H Q := by
  cases o with
  | add =>
    refine ⟨fun x y H Q => rI0 (fun i j => .int (i + j)) x y H Q ∨ (∃ i j : Str, x = .str i ∧ y = .str j ∧ i.length + j.length ≤ sizeLine ∧ Q (.str (i ++ j)) H) ∨ rCatA G.K x y H Q ∨ rCatR x y H Q, fun X hK => hK ▸ OpR.or op_add (OpR.or op_add_str (OpR.or op_catA op_catR)), fun M H x y a b z fr Q ha hb h q => ?_⟩
    cases a with
    | int i =>
      cases b with
      | int j =>
        obtain ⟨rfl, rfl⟩ := Prod.mk.inj (Option.some.inj (show some (D.int (i + j), false) = some (z, fr) from h))
        exact .inl ⟨i, j, ha.int, hb.int, q _ _ (.old (.int _))⟩
      | _ => cases h
    | str i =>
      cases b with
      | str j =>
        have h' : (if i.length + j.length ≤ sizeLine then some (D.str (i ++ j), false) else none) = some (z, fr) := h
        split at h'
        · rename_i c
          obtain ⟨rfl, rfl⟩ := Prod.mk.inj (Option.some.inj h')
          exact .inr (.inl ⟨i, j, ha.str, hb.str, c, q _ _ (.old (.str _))⟩)
        · cases h'
      | _ => cases h
    | tup as =>
      cases b with
      | tup bs =>
        have h' : (if as.length + bs.length ≤ sizeLine then some (D.tup (as ++ bs), false) else none) = some (z, fr) := h
        split at h'
        · rename_i c
          obtain ⟨rfl, rfl⟩ := Prod.mk.inj (Option.some.inj h')
          obtain ⟨p, vs, rfl, s1, r1⟩ := ha.tup
          obtain ⟨p2, ws, rfl, s2, r2⟩ := hb.tup
          refine .inr (.inr (.inl ⟨p, p2, vs, ws, rfl, rfl, s1, s2, by rw [r1.length, r2.length]; exact c, fun e => ?_, fun _ e => ?_, fun _ _ l hl => q _ _ (.tup hl (r1.append r2))⟩))
          · subst e
            cases r1
            rcases hb with hb | ⟨_, _, hb⟩
            · exact q _ _ (.old hb)
            · exact hb.elim
          · subst e
            cases r2
            rw [List.append_nil] at q
            rcases ha with ha | ⟨_, _, ha⟩
            · exact q _ _ (.old ha)
            · exact ha.elim
        · cases h'
      | _ => cases h
    | lst as =>
      cases b with
      | lst bs =>
        have h' : (if as.length + bs.length ≤ sizeLine then some (D.lst (as ++ bs), true) else none) = some (z, fr) := h
        split at h'
        · rename_i c
          obtain ⟨rfl, rfl⟩ := Prod.mk.inj (Option.some.inj h')
          obtain ⟨p, vs, rfl, s1, r1⟩ := ha.rd
          obtain ⟨p2, ws, rfl, s2, r2⟩ := hb.rd
          exact .inr (.inr (.inr ⟨p, p2, vs, ws, rfl, rfl, s1, s2, by rw [r1.length, r2.length]; exact c, fun l hl => q _ _ (.lst hl (r1.append r2))⟩))
        · cases h'
      | _ => cases h
    | _ => cases h
  | sub =>
    refine ⟨_, fun X _ => op_sub, fun M H x y a b z fr Q ha hb h q => ?_⟩
    cases a with
    | int i =>
      cases b with
      | int j =>
        obtain ⟨rfl, rfl⟩ := Prod.mk.inj (Option.some.inj (show some (D.int (i - j), false) = some (z, fr) from h))
        exact ⟨i, j, ha.int, hb.int, q _ _ (.old (.int _))⟩
      | _ => cases h
    | _ => cases h
  | mul =>
    refine ⟨fun x y H Q => rI L2.CMul (fun i j => .int (i * j)) x y H Q ∨ rRepT G.K x y H Q ∨ rRepT1 G.K x y H Q ∨ rRepR x y H Q, fun X hK => hK ▸ OpR.or op_mul (OpR.or op_repT (OpR.or op_repT1 op_repR)), fun M H x y a b z fr Q ha hb h q => ?_⟩
    cases a with
    | int i =>
      cases b with
      | int j =>
        have h' : (if CMul i j then some (D.int (i * j), false) else none) = some (z, fr) := h
        split at h'
        · rename_i c
          obtain ⟨rfl, rfl⟩ := Prod.mk.inj (Option.some.inj h')
          exact .inl ⟨i, j, ha.int, hb.int, c, q _ _ (.old (.int _))⟩
        · cases h'
      | _ => cases h
    | tup as =>
      cases b with
      | int k =>
        have h' : (if as.isEmpty = true ∧ -(2 ^ 63) ≤ k ∧ k < 2 ^ 63 ∨ 1 ≤ k ∧ k ≤ 1000 ∧ as.length ≤ 1000 then some (D.tup (List.replicate k.toNat as).flatten, false) else none) = some (z, fr) := h
        split at h'
        · rename_i c
          obtain ⟨rfl, rfl⟩ := Prod.mk.inj (Option.some.inj h')
          obtain ⟨p, vs, rfl, s1, r1⟩ := ha.tup
          have old : (vs = [] ∨ k = 1) → (List.replicate k.toNat as).flatten = as := fun z => by
            rcases z with z | z
            · subst z
              cases r1
              exact flat_nil _
            · subst z
              show (List.replicate 1 as).flatten = as
              rw [List.replicate_succ, List.replicate_zero, List.flatten_cons, List.flatten_nil, List.append_nil]
          by_cases c1 : vs = [] ∨ k = 1
          · refine .inr (.inr (.inl ⟨p, k, vs, rfl, hb.int, s1, ?_, ?_, c1, ?_⟩))
            · rcases c with c | c
              · exact c.2.1
              · omega
            · rcases c with c | c
              · exact c.2.2
              · omega
            · rw [old c1] at q
              rcases ha with ha | ⟨_, _, ha⟩
              · exact q _ _ (.old ha)
              · exact ha.elim
          · have c2 : vs ≠ [] := fun e => c1 (.inl e)
            have c3 : k ≠ 1 := fun e => c1 (.inr e)
            rcases c with c | c
            · exfalso
              apply c2
              have e : as = [] := List.isEmpty_iff.mp c.1
              subst e
              cases r1
              rfl
            · exact .inr (.inl ⟨p, k, vs, rfl, hb.int, s1, c2, by omega, c.2.1, by rw [r1.length]; exact c.2.2, fun l hl => q _ _ (.tup hl (r1.rep _))⟩)
        · cases h'
      | _ => cases h
    | lst as =>
      cases b with
      | int k =>
        have h' : (if -(2 ^ 63) ≤ k ∧ k < 2 ^ 63 ∧ as.length * k.toNat ≤ sizeLine then some (D.lst (List.replicate k.toNat as).flatten, true) else none) = some (z, fr) := h
        split at h'
        · rename_i c
          obtain ⟨rfl, rfl⟩ := Prod.mk.inj (Option.some.inj h')
          obtain ⟨p, vs, rfl, s1, r1⟩ := ha.rd
          exact .inr (.inr (.inr ⟨p, k, vs, rfl, hb.int, s1, c.1, c.2.1, by rw [r1.length]; exact c.2.2, fun l hl => q _ _ (.lst hl (r1.rep _))⟩))
        · cases h'
      | _ => cases h
    | _ => cases h
  | fdiv =>
    refine ⟨_, fun X _ => op_fdiv, fun M H x y a b z fr Q ha hb h q => ?_⟩
    cases a with
    | int i =>
      cases b with
      | int j =>
        have h' : (if 0 < j ∧ j < 1073741824 then some (D.int (i / j), false) else none) = some (z, fr) := h
        split at h'
        · rename_i c
          obtain ⟨rfl, rfl⟩ := Prod.mk.inj (Option.some.inj h')
          exact ⟨i, j, ha.int, hb.int, c, q _ _ (.old (.int _))⟩
        · cases h'
      | _ => cases h
    | _ => cases h
  | mod =>
    refine ⟨_, fun X _ => op_mod, fun M H x y a b z fr Q ha hb h q => ?_⟩
    cases a with
    | int i =>
      cases b with
      | int j =>
        have h' : (if 0 < j then some (D.int (i % j), false) else none) = some (z, fr) := h
        split at h'
        · rename_i c
          obtain ⟨rfl, rfl⟩ := Prod.mk.inj (Option.some.inj h')
          exact ⟨i, j, ha.int, hb.int, c, q _ _ (.old (.int _))⟩
        · cases h'
      | _ => cases h
    | _ => cases h
  | pow =>
    refine ⟨_, fun X _ => op_pow, fun M H x y a b z fr Q ha hb h q => ?_⟩
    cases a with
    | int i =>
      cases b with
      | int j =>
        have h' : (if 0 ≤ j ∧ j ≤ 1000000 ∧ i.natAbs < 2 ^ 64 then some (D.int (i ^ j.toNat), false) else none) = some (z, fr) := h
        split at h'
        · rename_i c
          obtain ⟨rfl, rfl⟩ := Prod.mk.inj (Option.some.inj h')
          exact ⟨i, j, ha.int, hb.int, c, q _ _ (.old (.int _))⟩
        · cases h'
      | _ => cases h
    | _ => cases h
end
end Mp

set_option maxRecDepth 100000
set_option maxHeartbeats 4000000
/-! Mp5: items, slices, built-ins, sound. -/
namespace Mp
open PySem PySem.Spec PyProof.Rows L2
section
variable {G : GD}
theorem ixN_eq : @Mp.ixN = @L2.ixN := rfl
theorem sIx_eq : @Mp.sIx = @HT.sIx := by
  funext n d o
  cases o <;> rfl
theorem ix_ok (G : GD) : ∃ r : R2, (∀ X : Cx, X.K = G.K → IxR X r) ∧ ∀ (M : AS) (H : Hp) (x y : V) (a b z : D) (Q : VK), Sh G M H x a → Sh G M H y b → idxD a b = some z → (∀ v, Dt G (Hr H M) v z → Q v H) → r x y H Q := by
  refine ⟨fun x y H Q => rIxL G.K x y H Q ∨ rIxT G.K x y H Q, fun X hK => hK ▸ IxR.or ix_list ix_tup, fun M H x y a b z Q ha hb h q => ?_⟩
  have key : ∀ (vs : List V) (ds : List D) (i : Int), DtA G (Hr H M) vs ds → ((Mp.ixN ds.length i).bind fun j => ds[j]?) = some z → ∃ v, atI vs i = some v ∧ Dt G (Hr H M) v z := fun vs ds i r e => by
    unfold atI
    rw [r.length, ← ixN_eq]
    cases hj : Mp.ixN ds.length i with
    | none => rw [hj] at e; cases e
    | some j =>
      rw [hj] at e
      obtain ⟨v, h1, h2⟩ := r.get (show ds[j]? = some z from e)
      exact ⟨v, h1, h2⟩
  cases a with
  | tup ds =>
    cases b with
    | int i =>
      obtain ⟨p, vs, rfl, s1, r1⟩ := ha.tup
      obtain ⟨v, h1, h2⟩ := key vs ds i r1 h
      exact .inr ⟨p, vs, i, v, rfl, hb.int, s1, h1, q v h2⟩
    | _ => cases h
  | lst ds =>
    cases b with
    | int i =>
      obtain ⟨p, vs, rfl, s1, r1⟩ := ha.lst
      obtain ⟨v, h1, h2⟩ := key vs ds i r1 h
      exact .inl ⟨p, vs, i, v, rfl, hb.int, s1, h1, q v h2⟩
    | _ => cases h
  | scr ds =>
    cases b with
    | int i =>
      obtain ⟨p, vs, rfl, s1, r1⟩ := ha.scr
      obtain ⟨v, h1, h2⟩ := key vs ds i r1 h
      exact .inl ⟨p, vs, i, v, rfl, hb.int, s1, h1, q v h2⟩
    | _ => cases h
  | _ => cases h
theorem DtA.cut {H : Hp} {vs : List V} {ds : List D} (r : DtA G H vs ds) (lo hi : Option Int) : DtA G H (cutV vs lo hi) (cutD ds lo hi) := by
  unfold cutV cutD
  rw [r.length, sIx_eq]
  exact (r.drop _).take _
theorem sl_ok (G : GD) : ∃ r, (∀ X : Cx, X.K = G.K → SlR X r) ∧ ∀ (M : AS) (H : Hp) (x : V) (a z : D) (lo hi : Option Int) (fr : Bool) (Q : VK), Sh G M H x a → slD a lo hi = some (z, fr) → (∀ v H', NewV G M H v H' z fr → Q v H') → r x lo hi H Q := by
  refine ⟨fun x lo hi H Q => rSlL G.K x lo hi H Q ∨ rSlA G.K x lo hi H Q, fun X hK => hK ▸ SlR.or sl_list sl_tupA, fun M H x a z lo hi fr Q ha h q => ?_⟩
  cases a with
  | tup ds =>
    obtain ⟨rfl, rfl⟩ := Prod.mk.inj (Option.some.inj (show some (D.tup (cutD ds lo hi), false) = some (z, fr) from h))
    obtain ⟨p, vs, rfl, s1, r1⟩ := ha.tup
    refine .inr ⟨p, vs, rfl, s1, fun w => ?_, fun _ l hl => q _ _ (.tup hl (r1.cut lo hi))⟩
    have e : cutD ds lo hi = ds := by
      unfold cutD
      rw [sIx_eq, ← r1.length, w.1, w.2, List.drop_zero, Nat.sub_zero, r1.length, List.take_length]
    rw [e] at q
    rcases ha with ha | ⟨_, _, ha⟩
    · exact q _ _ (.old ha)
    · exact ha.elim
  | lst ds =>
    obtain ⟨rfl, rfl⟩ := Prod.mk.inj (Option.some.inj (show some (D.lst (cutD ds lo hi), true) = some (z, fr) from h))
    obtain ⟨p, vs, rfl, s1, r1⟩ := ha.lst
    exact .inl ⟨p, vs, rfl, s1, fun l hl => q _ _ (.lst hl (r1.cut lo hi))⟩
  | scr ds =>
    obtain ⟨rfl, rfl⟩ := Prod.mk.inj (Option.some.inj (show some (D.lst (cutD ds lo hi), true) = some (z, fr) from h))
    obtain ⟨p, vs, rfl, s1, r1⟩ := ha.scr
    exact .inl ⟨p, vs, rfl, s1, fun l hl => q _ _ (.lst hl (r1.cut lo hi))⟩
  | _ => cases h

/-! ### built-ins -/
def bltV : Blt → String × Value
  | .len => ("len", .builtin "len") | .tuple => ("tuple", .type "tuple") | .list => ("list", .type "list") | .sorted => ("sorted", .builtin "sorted")
  | .min => ("min", .builtin "min") | .max => ("max", .builtin "max") | .int => ("int", .type "int") | .abs => ("abs", .builtin "abs") | .divmod => ("divmod", .builtin "divmod")
  | .sum => ("sum", .builtin "sum") | .all => ("all", .builtin "all") | .any => ("any", .builtin "any") | .isinst _ => ("isinstance", .builtin "isinstance")
def bltOk (G : GD) (b : Blt) (r : List V → Hp → VK → Prop) : Prop :=
  ∀ (M : AS) (H : Hp) (vs : List V) (ds : List D) (z : D) (fr : Bool) (Q : VK), ShA G M H vs ds → bltD b ds = some (z, fr) → (∀ v H', NewV G M H v H' z fr → Q v H') → r vs H Q
theorem ShA.one {M : AS} {H : Hp} {vs : List V} {d : D} (h : ShA G M H vs [d]) : ∃ v, vs = [v] ∧ Sh G M H v d := by
  cases h with
  | cons a r => cases r; exact ⟨_, rfl, a⟩
theorem ShA.two {M : AS} {H : Hp} {vs : List V} {d e : D} (h : ShA G M H vs [d, e]) : ∃ v w, vs = [v, w] ∧ Sh G M H v d ∧ Sh G M H w e := by
  cases h with
  | cons a r =>
    cases r with
    | cons b r => cases r; exact ⟨_, _, rfl, a, b⟩
theorem ints_of {H : Hp} : ∀ {ds : List D} {vs : List V} {ns : List Int}, DtA G H vs ds → intsOf ds = some ns → vs = ns.map V.int
  | [], _, ns, .nil, e => by cases e; rfl
  | d :: ds, _, ns, .cons h r, e => by
    cases d with
    | int i =>
      cases q : intsOf ds with
      | none => rw [intsOf, q] at e; cases e
      | some ms =>
        rw [intsOf, q] at e
        cases e
        cases h
        rw [ints_of r q]
        rfl
    | _ => cases e
theorem bols_of {H : Hp} : ∀ {ds : List D} {vs : List V} {ns : List Bool}, DtA G H vs ds → bolsOf ds = some ns → vs = ns.map V.bl
  | [], _, ns, .nil, e => by cases e; rfl
  | d :: ds, _, ns, .cons h r, e => by
    cases d with
    | bl i =>
      cases q : bolsOf ds with
      | none => rw [bolsOf, q] at e; cases e
      | some ms =>
        rw [bolsOf, q] at e
        cases e
        cases h
        rw [bols_of r q]
        rfl
    | _ => cases e
theorem one_of {α : Type} {f : List D → Option α} {ds : List D} {z : α} (h : f ds = some z) (h0 : f [] = none) (h2 : ∀ a b r, f (a :: b :: r) = none) : ∃ d, ds = [d] ∧ f [d] = some z := by
  match ds with
  | [] => rw [h0] at h; cases h
  | [d] => exact ⟨d, rfl, h⟩
  | a :: b :: r => rw [h2] at h; cases h
theorem blt_len (G : GD) : ∃ r, (∀ X : Cx, X.K = G.K → X.calm = true → CallR X (.builtin "len") r) ∧ bltOk G .len r := by
  refine ⟨fun xs H Q => ∃ p ys, xs = [.ref p] ∧ (SqL G.K H p ys ∨ SqT G.K H p ys) ∧ Q (.int (ys.length : Nat)) H, fun X hK hc => hK ▸ call_len_seq, fun M H vs ds z fr Q hs h q => ?_⟩
  obtain ⟨d, rfl, h⟩ := one_of h rfl fun a b r => by cases a <;> rfl
  obtain ⟨v, rfl, ha⟩ := hs.one
  cases d with
  | tup ds =>
    obtain ⟨rfl, rfl⟩ := Prod.mk.inj (Option.some.inj (show some (D.int ds.length, false) = some (z, fr) from h))
    obtain ⟨p, vs, rfl, s1, r1⟩ := ha.tup
    exact ⟨p, vs, rfl, .inr (s1), by rw [r1.length]; exact q _ _ (.old (.int _))⟩
  | lst ds =>
    obtain ⟨rfl, rfl⟩ := Prod.mk.inj (Option.some.inj (show some (D.int ds.length, false) = some (z, fr) from h))
    obtain ⟨p, vs, rfl, s1, r1⟩ := ha.lst
    exact ⟨p, vs, rfl, .inl (s1), by rw [r1.length]; exact q _ _ (.old (.int _))⟩
  | scr ds =>
    obtain ⟨rfl, rfl⟩ := Prod.mk.inj (Option.some.inj (show some (D.int ds.length, false) = some (z, fr) from h))
    obtain ⟨p, vs, rfl, s1, r1⟩ := ha.scr
    exact ⟨p, vs, rfl, .inl (s1), by rw [r1.length]; exact q _ _ (.old (.int _))⟩
  | _ => cases h
theorem blt_tuple (G : GD) : ∃ r, (∀ X : Cx, X.K = G.K → X.calm = true → CallR X (.type "tuple") r) ∧ bltOk G .tuple r := by
  refine ⟨fun xs H Q => ∃ p ys, xs = [.ref p] ∧ ((SqL G.K H p ys ∧ ∀ l, H l = none → Q (.ref l) (upd H l (.tup ys))) ∨ (SqT G.K H p ys ∧ Q (.ref p) H)), fun X hK hc => hK ▸ call_tuple_of, fun M H vs ds z fr Q hs h q => ?_⟩
  obtain ⟨d, rfl, h⟩ := one_of h rfl fun a b r => by cases a <;> rfl
  obtain ⟨v, rfl, ha⟩ := hs.one
  cases d with
  | tup ds =>
    obtain ⟨rfl, rfl⟩ := Prod.mk.inj (Option.some.inj (show some (D.tup ds, false) = some (z, fr) from h))
    obtain ⟨p, vs, rfl, s1, r1⟩ := ha.tup
    refine ⟨p, vs, rfl, .inr ⟨s1, ?_⟩⟩
    rcases ha with ha | ⟨_, _, ha⟩
    · exact q _ _ (.old ha)
    · exact ha.elim
  | lst ds =>
    obtain ⟨rfl, rfl⟩ := Prod.mk.inj (Option.some.inj (show some (D.tup ds, false) = some (z, fr) from h))
    obtain ⟨p, vs, rfl, s1, r1⟩ := ha.lst
    exact ⟨p, vs, rfl, .inl ⟨s1, fun l hl => q _ _ (.tup hl r1)⟩⟩
  | _ => cases h
theorem blt_list (G : GD) : ∃ r, (∀ X : Cx, X.K = G.K → X.calm = true → CallR X (.type "list") r) ∧ bltOk G .list r := by
  refine ⟨fun xs H Q => ∃ p ys, xs = [.ref p] ∧ (SqL G.K H p ys ∨ SqT G.K H p ys) ∧ ∀ l, H l = none → Q (.ref l) (upd H l (.lst ys)), fun X hK hc => hK ▸ call_list_of, fun M H vs ds z fr Q hs h q => ?_⟩
  obtain ⟨d, rfl, h⟩ := one_of h rfl fun a b r => by cases a <;> rfl
  obtain ⟨v, rfl, ha⟩ := hs.one
  cases d with
  | tup ds =>
    obtain ⟨rfl, rfl⟩ := Prod.mk.inj (Option.some.inj (show some (D.lst ds, true) = some (z, fr) from h))
    obtain ⟨p, vs, rfl, s1, r1⟩ := ha.tup
    exact ⟨p, vs, rfl, .inr (s1), fun l hl => q _ _ (.lst hl r1)⟩
  | lst ds =>
    obtain ⟨rfl, rfl⟩ := Prod.mk.inj (Option.some.inj (show some (D.lst ds, true) = some (z, fr) from h))
    obtain ⟨p, vs, rfl, s1, r1⟩ := ha.lst
    exact ⟨p, vs, rfl, .inl (s1), fun l hl => q _ _ (.lst hl r1)⟩
  | _ => cases h
theorem blt_int (G : GD) : ∃ r, (∀ X : Cx, X.K = G.K → X.calm = true → CallR X (.type "int") r) ∧ bltOk G .int r := by
  refine ⟨_, fun X _ _ => call_int1, fun M H vs ds z fr Q hs h q => ?_⟩
  obtain ⟨d, rfl, h⟩ := one_of h rfl fun a b r => by cases a <;> rfl
  obtain ⟨v, rfl, ha⟩ := hs.one
  cases d with
  | int i =>
    obtain ⟨rfl, rfl⟩ := Prod.mk.inj (Option.some.inj (show some (D.int i, false) = some (z, fr) from h))
    exact .inl ⟨i, by rw [ha.int], q _ _ (.old (.int _))⟩
  | bl k =>
    obtain ⟨rfl, rfl⟩ := Prod.mk.inj (Option.some.inj (show some (D.int (if k then 1 else 0), false) = some (z, fr) from h))
    exact .inr ⟨k, by rw [ha.bl], q _ _ (.old (.int _))⟩
  | _ => cases h
theorem blt_abs (G : GD) : ∃ r, (∀ X : Cx, X.K = G.K → X.calm = true → CallR X (.builtin "abs") r) ∧ bltOk G .abs r := by
  refine ⟨_, fun X _ _ => call_abs, fun M H vs ds z fr Q hs h q => ?_⟩
  obtain ⟨d, rfl, h⟩ := one_of h rfl fun a b r => by cases a <;> rfl
  obtain ⟨v, rfl, ha⟩ := hs.one
  cases d with
  | int i =>
    obtain ⟨rfl, rfl⟩ := Prod.mk.inj (Option.some.inj (show some (D.int (if i < 0 then -i else i), false) = some (z, fr) from h))
    exact ⟨i, by rw [ha.int], q _ _ (.old (.int _))⟩
  | _ => cases h

theorem two_of {α : Type} {f : List D → Option α} {ds : List D} {z : α} (h : f ds = some z) (h0 : f [] = none) (h1 : ∀ a, f [a] = none) (h2 : ∀ a b c r, f (a :: b :: c :: r) = none) : ∃ d e, ds = [d, e] ∧ f [d, e] = some z := by
  match ds with
  | [] => rw [h0] at h; cases h
  | [d] => rw [h1] at h; cases h
  | [d, e] => exact ⟨d, e, rfl, h⟩
  | a :: b :: c :: r => rw [h2] at h; cases h
theorem blt_divmod (G : GD) : ∃ r, (∀ X : Cx, X.K = G.K → X.calm = true → CallR X (.builtin "divmod") r) ∧ bltOk G .divmod r := by
  refine ⟨_, fun X _ _ => call_divmod, fun M H vs ds z fr Q hs h q => ?_⟩
  obtain ⟨d, e, rfl, h⟩ := two_of h rfl (fun a => by cases a <;> rfl) fun a b c r => by cases a <;> first | rfl | (cases b <;> rfl)
  obtain ⟨v, w, rfl, ha, hb⟩ := hs.two
  cases d with
  | int i =>
    cases e with
    | int j =>
      have h' : (if 0 < j ∧ j < 1073741824 then some (D.tup [.int (i / j), .int (i % j)], false) else none) = some (z, fr) := h
      split at h'
      · rename_i c
        obtain ⟨rfl, rfl⟩ := Prod.mk.inj (Option.some.inj h')
        exact ⟨i, j, by rw [ha.int, hb.int], c, fun p hp => q _ _ (.tup hp (.cons (.int _) (.cons (.int _) .nil)))⟩
      · cases h'
    | _ => cases h
  | _ => cases h
theorem blt_sum (G : GD) : ∃ r, (∀ X : Cx, X.K = G.K → X.calm = true → CallR X (.builtin "sum") r) ∧ bltOk G .sum r := by
  refine ⟨rSum G.K, fun X hK hc => hK ▸ cr_sum hc, fun M H vs ds z fr Q hs h q => ?_⟩
  obtain ⟨d, rfl, h⟩ := one_of h rfl fun a b r => by cases a <;> rfl
  obtain ⟨v, rfl, ha⟩ := hs.one
  cases d with
  | lst ds =>
    have h' : (intsOf ds).map (fun ns => (D.int ns.sum, false)) = some (z, fr) := h
    cases e : intsOf ds with
    | none => rw [e] at h'; cases h'
    | some ns =>
      rw [e] at h'
      obtain ⟨rfl, rfl⟩ := Prod.mk.inj (Option.some.inj h')
      obtain ⟨p, vs, rfl, s1, r1⟩ := ha.lst
      have e2 := ints_of r1 e
      subst e2
      exact ⟨p, ns, rfl, s1, q _ _ (.old (.int _))⟩
  | _ => cases h
theorem blt_all (G : GD) : ∃ r, (∀ X : Cx, X.K = G.K → X.calm = true → CallR X (.builtin "all") r) ∧ bltOk G .all r := by
  refine ⟨rAll G.K, fun X hK hc => hK ▸ cr_all hc, fun M H vs ds z fr Q hs h q => ?_⟩
  obtain ⟨d, rfl, h⟩ := one_of h rfl fun a b r => by cases a <;> rfl
  obtain ⟨v, rfl, ha⟩ := hs.one
  cases d with
  | lst ds =>
    have h' : (bolsOf ds).map (fun ns => (D.bl (ns.all id), false)) = some (z, fr) := h
    cases e : bolsOf ds with
    | none => rw [e] at h'; cases h'
    | some ns =>
      rw [e] at h'
      obtain ⟨rfl, rfl⟩ := Prod.mk.inj (Option.some.inj h')
      obtain ⟨p, vs, rfl, s1, r1⟩ := ha.lst
      have e2 := bols_of r1 e
      subst e2
      exact ⟨p, ns, rfl, s1, q _ _ (.old (.bl _))⟩
  | _ => cases h
theorem blt_any (G : GD) : ∃ r, (∀ X : Cx, X.K = G.K → X.calm = true → CallR X (.builtin "any") r) ∧ bltOk G .any r := by
  refine ⟨rAny G.K, fun X hK hc => hK ▸ cr_any hc, fun M H vs ds z fr Q hs h q => ?_⟩
  obtain ⟨d, rfl, h⟩ := one_of h rfl fun a b r => by cases a <;> rfl
  obtain ⟨v, rfl, ha⟩ := hs.one
  cases d with
  | lst ds =>
    have h' : (bolsOf ds).map (fun ns => (D.bl (ns.any id), false)) = some (z, fr) := h
    cases e : bolsOf ds with
    | none => rw [e] at h'; cases h'
    | some ns =>
      rw [e] at h'
      obtain ⟨rfl, rfl⟩ := Prod.mk.inj (Option.some.inj h')
      obtain ⟨p, vs, rfl, s1, r1⟩ := ha.lst
      have e2 := bols_of r1 e
      subst e2
      exact ⟨p, ns, rfl, s1, q _ _ (.old (.bl _))⟩
  | _ => cases h
/-- isinstance(x, T), T the t-th of int, bool, str, tuple, list -/
def tyName : Nat → String
  | 0 => "int" | 1 => "bool" | 2 => "str" | 3 => "tuple" | _ => "list"
def dTyN : Nat → String
  | 0 => "NoneType" | 1 => "bool" | 2 => "int" | 3 => "str" | 4 => "tuple" | _ => "list"
theorem kit_all : ∀ t, t < 5 → ∀ i, i < 6 → kitB (dTyN i) (tyName t) = some (isinT t i) := by decide +kernel
theorem Sh.ty {M : AS} {H : Hp} {v : V} {d : D} (h : Sh G M H v d) (n : tyIx d < 6) : TyX G.K H v (.type (dTyN (tyIx d))) := by
  cases d with
  | non => rw [h.non]; exact .base .non
  | bl b => rw [h.bl]; exact .base (.bl b)
  | int b => rw [h.int]; exact .base (.int b)
  | str b => rw [h.str]; exact .base (.str b)
  | tup ds =>
    obtain ⟨p, vs, rfl, s1, r1⟩ := h.tup
    rcases s1 with (s1 | ⟨o, s1⟩) | ⟨o, its, k, s1, s2, _⟩
    · exact .base (.tup s1)
    · exact .fTuple s1
    · exact .kTuple s1 s2
  | lst ds =>
    obtain ⟨p, vs, rfl, s1, r1⟩ := h.rd
    rcases s1 with s1 | ⟨o, s1⟩
    · exact .base (.lst s1)
    · exact .base (.frz s1)
  | _ => exact absurd n (by show ¬ (6 < 6); decide)
theorem isin_ok (G : GD) (t : Nat) : ∃ r, (∀ X : Cx, X.K = G.K → CallR X (.builtin "isinstance") r) ∧ ∀ (M : AS) (H : Hp) (v : V) (d z : D) (fr : Bool) (Q : VK), t < 5 → Sh G M H v d → bltD (.isinst t) [d] = some (z, fr) → (∀ v H', NewV G M H v H' z fr → Q v H') → r [v, .ty (tyName t)] H Q := by
  refine ⟨rIsi G.K, fun X hK => hK ▸ call_isi, fun M H v d z fr Q ht ha h q => ?_⟩
  have h' : (isinD t d).map (fun b => (D.bl b, false)) = some (z, fr) := h
  cases e : isinD t d with
  | none => rw [e] at h'; cases h'
  | some k =>
    rw [e] at h'
    obtain ⟨rfl, rfl⟩ := Prod.mk.inj (Option.some.inj h')
    unfold isinD at e
    split at e
    · rename_i c
      have e2 := Option.some.inj e
      exact ⟨v, .ty (tyName t), _, _, k, rfl, .ty _, ha.ty c.2, kit_ty (by rw [kit_all t c.1 _ c.2, e2]), q _ _ (.old (.bl _))⟩
    · cases e
theorem blt_max (G : GD) : ∃ r, (∀ X : Cx, X.K = G.K → X.calm = true → CallR X (.builtin "max") r) ∧ bltOk G .max r := by
  refine ⟨_, fun X _ hc => call_max2 hc, fun M H vs ds z fr Q hs h q => ?_⟩
  obtain ⟨d, e, rfl, h⟩ := two_of h rfl (fun a => by cases a <;> rfl) fun a b c r => by cases a <;> first | rfl | (cases b <;> rfl)
  obtain ⟨v, w, rfl, ha, hb⟩ := hs.two
  cases d with
  | int i =>
    cases e with
    | int j =>
      obtain ⟨rfl, rfl⟩ := Prod.mk.inj (Option.some.inj (show some (D.int (if j > i then j else i), false) = some (z, fr) from h))
      exact ⟨i, j, by rw [ha.int, hb.int], q _ _ (.old (.int _))⟩
    | _ => cases h
  | _ => cases h
theorem blt_min (G : GD) : ∃ r, (∀ X : Cx, X.K = G.K → X.calm = true → CallR X (.builtin "min") r) ∧ bltOk G .min r := by
  refine ⟨_, fun X _ hc => call_min2 hc, fun M H vs ds z fr Q hs h q => ?_⟩
  obtain ⟨d, e, rfl, h⟩ := two_of h rfl (fun a => by cases a <;> rfl) fun a b c r => by cases a <;> first | rfl | (cases b <;> rfl)
  obtain ⟨v, w, rfl, ha, hb⟩ := hs.two
  cases d with
  | int i =>
    cases e with
    | int j =>
      obtain ⟨rfl, rfl⟩ := Prod.mk.inj (Option.some.inj (show some (D.int (if j < i then j else i), false) = some (z, fr) from h))
      exact ⟨i, j, by rw [ha.int, hb.int], q _ _ (.old (.int _))⟩
    | _ => cases h
  | _ => cases h
end
end Mp

set_option maxRecDepth 100000
set_option maxHeartbeats 4000000
/-! Mq5: sorted. -/
namespace Mp
open PySem PySem.Spec PyProof.Rows L2
open PySem.W (AllAlike Sortable dataLe)
/-- values with what they read as -/
def rSortD (K : PySem.W.Frag) : List V → Hp → VK → Prop := fun vs H Q => ∃ (p : Addr) (ps : List (V × D)), vs = [.ref p] ∧ SqL K H p (ps.map (·.1)) ∧ (∀ q ∈ ps, Dp K H q.1 q.2.toP) ∧ AllAlike (ps.map fun q => q.2.toP) ∧ Sortable (ps.map fun q => q.2.toP) ∧ (∀ q ∈ ps, q.2.toP.depth ≤ 60) ∧
  ∀ l, H l = none → Q (.ref l) (upd H l (.lst ((ps.mergeSort (dataLe false fun q => q.2.toP)).map (·.1))))
theorem each_of {X : Cx} {pins : List (Addr × Obj)} {σ : L2.St} {H : Hp} {s : Shared} (I : Inv X pins σ H s) : ∀ {ps : List (V × D)} {its : List Value}, Vals (ps.map (·.1)) its → (∀ q ∈ ps, Dp X.K H q.1 q.2.toP) →
    PySem.W.EachIs (fun v (q : V × D) => RelV q.1 v) its ps ∧ PySem.W.EachIs (fun v (q : V × D) => ∃ as, Reads s.heap v q.2.toP as) its ps
  | [], [], _, _ => ⟨.nil, .nil⟩
  | [], _ :: _, h, _ => by cases h
  | q :: ps, [], h, _ => by cases h
  | q :: ps, u :: us, .cons r h, k => by
    obtain ⟨h1, h2⟩ := each_of I h fun q hq => k q (List.mem_cons_of_mem _ hq)
    exact ⟨.cons r h1, .cons (Dp.reads I _ _ _ (k q List.mem_cons_self) r) h2⟩
theorem vals_each : ∀ {qs : List (V × D)} {out : List Value}, PySem.W.EachIs (fun v (q : V × D) => RelV q.1 v) out qs → Vals (qs.map (·.1)) out
  | [], _, .nil => .nil
  | _ :: _, _, .cons r h => .cons r (vals_each h)
theorem cr_sortD {X : Cx} (hu : X.A.units + 65 < cLine) : CallR X (.builtin "sorted") (rSortD X.K) := by
  intro pins s σ H vs us Q I rv h
  obtain ⟨p, ps, rfl, hq, hd, hal, hk, hdep, q⟩ := h
  obtain ⟨u, rfl, ru⟩ := rv.one
  cases ru
  obtain ⟨its, r, pl, hz⟩ := I.list hq
  obtain ⟨e1, e2⟩ := each_of I r hd
  have hlen : ps.length ≤ sizeLine := by simpa using hz
  refine PySem.W.sorted_data pl.isList e1 e2 hal hk hlen (fun b hb => by have := hdep b hb; omega) fun out ho eo => ?_
  obtain ⟨ep, he'⟩ := PyProof.Rows.sortedAll_at s.heap its out.toArray
  have hv := vals_each eo
  exact ⟨.ref _, upd H (s.heap.objs.size + 1) (.lst ((ps.mergeSort (dataLe false fun q => q.2.toP)).map (·.1))), I.laid (t' := s.toks) (fun _ _ => PyProof.Rows.sortedAll_old) (Nat.le_succ _) ⟨by rw [List.length_map, List.length_mergeSort]; exact hlen, out, ep, hv, he'⟩, rfl, q _ (I.hok.fresh (Nat.le_succ _))⟩
theorem pairs_of {G : GD} {H : Hp} : ∀ {vs : List V} {ds : List D}, DtA G H vs ds → ∃ ps : List (V × D), ps.map (·.1) = vs ∧ ps.map (·.2) = ds ∧ ∀ q ∈ ps, Dt G H q.1 q.2
  | _, _, .nil => ⟨[], rfl, rfl, fun q h => by cases h⟩
  | _, _, .cons (v := v) (d := d) h r => by
    obtain ⟨ps, h1, h2, h3⟩ := pairs_of r
    refine ⟨(v, d) :: ps, by rw [List.map_cons, h1], by rw [List.map_cons, h2], fun q hq => ?_⟩
    rcases List.mem_cons.mp hq with rfl | hq
    · exact h
    · exact h3 q hq
theorem dta_of {G : GD} {H : Hp} : ∀ {ps : List (V × D)}, (∀ q ∈ ps, Dt G H q.1 q.2) → DtA G H (ps.map (·.1)) (ps.map (·.2))
  | [], _ => .nil
  | q :: ps, h => .cons (h q List.mem_cons_self) (dta_of fun r hr => h r (List.mem_cons_of_mem _ hr))
theorem leD_trans (a b c : D) (h1 : leD a b = true) (h2 : leD b c = true) : leD a c = true := by
  unfold leD PySem.W.dataLt at *
  simp only [Bool.not_eq_true'] at *
  cases h : PyProof.Rows.lexLt PyProof.Rows.itemOrd (PySem.W.keyToks c.toP) (PySem.W.keyToks a.toP) with
  | false => rfl
  | true =>
    rcases PyProof.Rows.lex_negTrans _ (PySem.W.keyToks b.toP) _ h with h | h
    · rw [h2] at h; cases h
    · rw [h1] at h; cases h
theorem leD_total (a b : D) : (leD a b || leD b a) = true := by
  unfold leD PySem.W.dataLt
  cases h : PyProof.Rows.lexLt PyProof.Rows.itemOrd (PySem.W.keyToks b.toP) (PySem.W.keyToks a.toP) with
  | false => rfl
  | true =>
    cases h' : PyProof.Rows.lexLt PyProof.Rows.itemOrd (PySem.W.keyToks a.toP) (PySem.W.keyToks b.toP) with
    | false => rfl
    | true =>
      have := PyProof.Rows.lex_trans _ _ _ h h'
      rw [PyProof.Rows.lex_irrefl] at this
      cases this
theorem insD_at (a : D) : ∀ (l₁ l₂ : List D), (∀ b ∈ l₁, (!leD a b) = true) → (∀ b ∈ l₂, leD a b = true) → insD a (l₁ ++ l₂) = l₁ ++ a :: l₂
  | [], [], _, _ => rfl
  | [], c :: r, _, h => if_pos (h c List.mem_cons_self)
  | b :: l₁, l₂, h1, h2 => by
    have hb := h1 b List.mem_cons_self
    show (if leD a b = true then _ else b :: insD a (l₁ ++ l₂)) = _
    rw [if_neg (by simpa using hb), insD_at a l₁ l₂ (fun x hx => h1 x (List.mem_cons_of_mem _ hx)) h2] <;> rfl
theorem isortD_eq : ∀ xs : List D, isortD xs = xs.mergeSort leD
  | [] => by simp [isortD]
  | a :: r => by
    obtain ⟨l₁, l₂, h1, h2, h3⟩ := List.mergeSort_cons leD_trans leD_total a r
    have hp := List.pairwise_mergeSort leD_trans leD_total (a :: r)
    rw [h1] at hp
    have hp2 := (List.pairwise_append.mp hp).2.1
    have hp3 := (List.pairwise_cons.mp hp2).1
    show insD a (isortD r) = _
    rw [isortD_eq r, h1, h2]
    exact insD_at a l₁ l₂ h3 hp3
theorem blt_sorted (G : GD) : ∃ r, (∀ X : Cx, X.K = G.K → X.A.units + 65 < cLine → CallR X (.builtin "sorted") r) ∧ bltOk G .sorted r := by
  refine ⟨rSortD G.K, fun X hK hu => hK ▸ cr_sortD hu, fun M H vs ds z fr Q hs h q => ?_⟩
  obtain ⟨d, rfl, h⟩ := one_of h rfl fun a b r => by cases a <;> rfl
  obtain ⟨v, rfl, ha⟩ := hs.one
  cases d with
  | lst ds =>
    have h' : (if sortB ds = true then some (D.lst (ds.mergeSort leD), true) else none) = some (z, fr) := by rw [← isortD_eq]; exact h
    split at h'
    · rename_i c
      obtain ⟨rfl, rfl⟩ := Prod.mk.inj (Option.some.inj h')
      obtain ⟨p, vs, rfl, s1, r1⟩ := ha.lst
      obtain ⟨ps, rfl, rfl, hp⟩ := pairs_of r1
      obtain ⟨c1, c⟩ := Bool.and_eq_true_iff.mp c
      obtain ⟨c2, c3⟩ := Bool.and_eq_true_iff.mp c
      have hall : ∀ q ∈ ps, q.2.ok = true ∧ q.2.toP.depth ≤ 60 := fun q hq => by
        have := List.all_eq_true.mp c1 q.2 (List.mem_map_of_mem hq)
        obtain ⟨a1, a2⟩ := Bool.and_eq_true_iff.mp this
        exact ⟨a1, of_decide_eq_true a2⟩
      refine ⟨p, ps, rfl, s1, fun q hq => dp_of ((hp q hq).le hr_sub) (hall q hq).1, ?_, ?_, fun q hq => (hall q hq).2, fun l hl => ?_⟩
      · intro a ha b hb
        obtain ⟨q, hq, rfl⟩ := List.mem_map.mp ha
        obtain ⟨r, hr, rfl⟩ := List.mem_map.mp hb
        exact List.all_eq_true.mp (List.all_eq_true.mp c2 q.2 (List.mem_map_of_mem hq)) r.2 (List.mem_map_of_mem hr)
      · rcases Bool.or_eq_true_iff.mp c3 with c3 | c3
        · refine .inl fun a ha => ?_
          obtain ⟨q, hq, rfl⟩ := List.mem_map.mp ha
          have := List.all_eq_true.mp c3 q.2 (List.mem_map_of_mem hq)
          cases e : q.2 with
          | tup xs =>
            rw [e] at this
            cases xs with
            | nil => cases this
            | cons x r => exact ⟨x.toP, D.toPs r, rfl⟩
          | _ => rw [e] at this; cases this
        · refine .inr fun a ha => ?_
          obtain ⟨q, hq, rfl⟩ := List.mem_map.mp ha
          have := List.all_eq_true.mp c3 q.2 (List.mem_map_of_mem hq)
          cases e : q.2 <;> rw [e] at this <;> first | (cases this; done) | (refine ⟨?_, fun xs => ?_⟩ <;> (intro z; cases z))
      · have e : (ps.map (·.2)).mergeSort leD = (ps.mergeSort (dataLe false fun q => q.2.toP)).map (·.2) := by
          refine (List.map_mergeSort fun a _ b _ => ?_).symm
          rfl
        rw [e] at q
        refine q _ _ (.lst hl (dta_of fun r hr => hp r ?_))
        exact List.mem_mergeSort.mp hr
    · cases h'
  | _ => cases h
end Mp

set_option maxRecDepth 100000
set_option maxHeartbeats 4000000
/-! Mp6: readings of expressions, sound (SE and its kin), put together. -/
namespace Mp
open PySem PySem.Spec PyProof.Rows L2

theorem getS_eq {ρ : Env} {i : Nat} {s : Slot} (h : getS ρ i = s) (n : s ≠ .un) : ρ[i]? = some s := by
  unfold getS at h
  cases e : ρ[i]? with
  | none => rw [e] at h; exact absurd h.symm n
  | some t => rw [e] at h; exact congrArg some h
theorem getS_of {ρ : Env} {i : Nat} {s : Slot} (h : ρ[i]? = some s) : getS ρ i = s := by
  unfold getS
  rw [h]
  rfl

section
variable {G : GD} {X : Fr} {F F' F1 F2 : AS} {ρ ρ' ρ1 ρ2 : Env} {σ : L2.St} {H H' H1 H2 H3 : Hp}
/-- the value of an evaluation -/
inductive VR (G : GD) (X : Fr) (σ : L2.St) (F F' : AS) (ρ : Env) (H : Hp) : V → D → Kd → Prop
  | frz {v : V} {d : D} : F' = F → Dt G (Hr H (Mm F' ρ σ)) v d → VR G X σ F F' ρ H v d .frz
  | fr {p : Addr} {d : D} : F' = addF F p → ¬ F p → X.H0 p = none → ¬ X.IO p → OwnC G (Mm F' ρ σ) H p d → VR G X σ F F' ρ H (.ref p) d .fr
  | pk {v : V} {d : D} {i : Nat} : F' = F → σ[i]? = some (some v) → (ρ[i]? = some (.own d) ∨ ρ[i]? = some (.io d)) → VR G X σ F F' ρ H v d (.pk i)
theorem cur_pk (ρ : Env) (d : D) (i : Nat) : cur ρ d (.pk i) = (match getS ρ i with | .own d => d | .io d => d | .val d => d | .un => d) := rfl
theorem cur_frz {ρ : Env} {d : D} : cur ρ d .frz = d := rfl
theorem cur_fr {ρ : Env} {d : D} : cur ρ d .fr = d := rfl
/-- a value found earlier is readable still -/
theorem VR.held {v : V} {d : D} {k : Kd} (h : VR G X σ F F1 ρ1 H1 v d k) (p : Po G X σ F1 ρ1 H1 F2 ρ2 H2) : Sh G (Mm F2 ρ2 σ) H2 v (cur ρ2 d k) := by
  cases h with
  | frz e h => exact .inl (h.le p.le)
  | @fr q d e n1 n2 n3 h =>
    subst e
    exact .inr ⟨q, rfl, h.le p.le (p.keep q (.inl rfl)).2⟩
  | @pk v d i e h1 h2 =>
    obtain ⟨x, z⟩ := p.liv i ⟨d, h2.elim .inl fun z => .inr (.inl z)⟩
    rcases z with z | z | z
    · obtain ⟨q, e1, c⟩ := p.sr.slot i _ z
      rw [h1] at e1; cases e1
      rw [show cur ρ2 d (.pk i) = x by rw [cur_pk, getS_of z]]
      exact .inr ⟨q, rfl, c⟩
    · obtain ⟨q, e1, c⟩ := p.sr.slot i _ z
      rw [h1] at e1; cases e1
      rw [show cur ρ2 d (.pk i) = x by rw [cur_pk, getS_of z]]
      exact .inr ⟨q, rfl, c⟩
    · obtain ⟨w, e1, c⟩ := p.sr.slot i _ z
      rw [h1] at e1; cases e1
      rw [show cur ρ2 d (.pk i) = x by rw [cur_pk, getS_of z]]
      exact .inl c
theorem VR.sh {v : V} {d : D} {k : Kd} (h : VR G X σ F F1 ρ1 H1 v d k) (S : SR G X F1 ρ1 σ H1) : Sh G (Mm F1 ρ1 σ) H1 v d := by
  have e : cur ρ1 d k = d := by
    cases h with
    | frz => rfl
    | fr => rfl
    | pk e h1 h2 =>
      rcases h2 with h2 | h2 <;> rw [cur_pk, getS_of h2]
  have := h.held (Po.refl S)
  rw [e] at this
  exact this
theorem VR.int {v : V} {i : Int} {k : Kd} (h : VR G X σ F F1 ρ1 H1 v (.int i) k) (S : SR G X F1 ρ1 σ H1) : v = .int i := (h.sh S).int
theorem VR.bl {v : V} {i : Bool} {k : Kd} (h : VR G X σ F F1 ρ1 H1 v (.bl i) k) (S : SR G X F1 ρ1 σ H1) : v = .bl i := (h.sh S).bl
theorem sub_of (p : Po G X σ F ρ H F' ρ' H') : ∀ q, F q → F' q := fun q z => (p.keep q z).1
/-- an operation's end: the temporaries are let go -/
theorem fin_op {v : V} {z : D} {fr : Bool} (p : Po G X σ F ρ H F2 ρ2 H2) (n : NewV G (Mm F2 ρ2 σ) H2 v H3 z fr) : ∃ F3, Po G X σ F ρ H F3 ρ2 H3 ∧ VR G X σ F F3 ρ2 H3 v z (kdOf fr) := by
  have mono : ∀ {Hx : Hp}, ∀ a o, Hr Hx (Mm F2 ρ2 σ) a = some o → Hr Hx (Mm F ρ2 σ) a = some o := fun {Hx} => hr_mono (fun _ _ _ e => e) fun a z => .inl (z.imp (sub_of p a) id)
  cases n with
  | old h => exact ⟨F, p.drop (fun _ h => h) (sub_of p), .frz rfl (h.le mono)⟩
  | @tup q vs ds hn r =>
    have p3 := p.trans (Po.laid (o := .tup vs) p.sr hn)
    refine ⟨F, p3.drop (fun _ h => h) (sub_of p), .frz rfl (.tup (.inl (.inl (hr_some.mpr ⟨fun z => ?_, upd_same⟩))) (r.le fun a o e => mono a o ((Po.laid p.sr hn).le a o e)))⟩
    exact p.sr.mdom q (z.imp (sub_of p q) id) hn
  | @lst q vs ds hn r =>
    have p3 := p.trans (Po.laidF (o := .lst vs) p.sr hn)
    have hq : ¬ F q := fun z => p.sr.fdom q (sub_of p q z) hn
    obtain ⟨n1, n2⟩ := p.sr.new0 hn
    refine ⟨addF F q, p3.drop (fun _ h => .inr h) (fun a z => z.imp id (sub_of p a)), .fr rfl hq n1 n2 ⟨vs, upd_same, r.le fun a o e => ?_⟩⟩
    exact hr_mono (fun _ _ _ e => e) (fun a z => .inl (z.imp (fun z => z.imp id (sub_of p a)) id)) a o ((Po.laidF p.sr hn).le a o e)
end

/-! ### readings, sound -/
def SE (G : GD) (ev : Env → R (D × Kd)) (t : TE) : Prop := ∀ (X : Fr) (F : AS) (ρ : Env) (σ : L2.St) (H : Hp) (Q : VK) (d : D) (k : Kd) (ρ' : Env), SR G X F ρ σ H → ev ρ = .ok (d, k) ρ' →
  (∀ v H' F', Po G X σ F ρ H F' ρ' H' → VR G X σ F F' ρ' H' v d k → Q v H') → t σ H Q
def STt (G : GD) (ev : Env → R Bool) (t : TT) : Prop := ∀ (X : Fr) (F : AS) (ρ : Env) (σ : L2.St) (H : Hp) (Q : Bool → Hp → Prop) (b : Bool) (ρ' : Env), SR G X F ρ σ H → ev ρ = .ok b ρ' →
  (∀ H', Po G X σ F ρ H F ρ' H' → Q b H') → t σ H Q
/-- what an argument list gives -/
inductive ArR (G : GD) (σ : L2.St) (F : AS) (ρ : Env) (H : Hp) : List V → List Ar → Prop
  | nil : ArR G σ F ρ H [] []
  | v {v : V} {d : D} {vs : List V} {as : List Ar} : Dt G (Hr H (Mm F ρ σ)) v d → ArR G σ F ρ H vs as → ArR G σ F ρ H (v :: vs) (.v d :: as)
  | io {v : V} {i : Nat} {vs : List V} {as : List Ar} : σ[i]? = some (some v) → ArR G σ F ρ H vs as → ArR G σ F ρ H (v :: vs) (.io i :: as)
def SA (G : GD) (ev : Env → R (List Ar)) (t : TA) : Prop := ∀ (X : Fr) (F : AS) (ρ : Env) (σ : L2.St) (H : Hp) (Q : List V → Hp → Prop) (as : List Ar) (ρ' : Env), SR G X F ρ σ H → ev ρ = .ok as ρ' →
  (∀ vs H', Po G X σ F ρ H F ρ' H' → ArR G σ F ρ' H' vs as → Q vs H') → t σ H Q
def SL (G : GD) (ev : Env → R (List D)) (t : TA) : Prop := ∀ (X : Fr) (F : AS) (ρ : Env) (σ : L2.St) (H : Hp) (Q : List V → Hp → Prop) (ds : List D) (ρ' : Env), SR G X F ρ σ H → ev ρ = .ok ds ρ' →
  (∀ vs H', Po G X σ F ρ H F ρ' H' → DtA G (Hr H' (Mm F ρ' σ)) vs ds → Q vs H') → t σ H Q
def SP (G : GD) (ev : Env → R (List (D × Kd))) (t : TA) : Prop := ∀ (X : Fr) (F : AS) (ρ : Env) (σ : L2.St) (H : Hp) (Q : List V → Hp → Prop) (xs : List (D × Kd)) (ρ' : Env), SR G X F ρ σ H → ev ρ = .ok xs ρ' →
  (∀ vs H' F', Po G X σ F ρ H F' ρ' H' → ShA G (Mm F' ρ' σ) H' vs (xs.map fun x => cur ρ' x.1 x.2) → Q vs H') → t σ H Q
def SO (G : GD) (ev : Env → R (Option Int)) (t : TO) : Prop := ∀ (X : Fr) (F : AS) (ρ : Env) (σ : L2.St) (H : Hp) (Q : Option Int → Hp → Prop) (o : Option Int) (ρ' : Env), SR G X F ρ σ H → ev ρ = .ok o ρ' →
  (∀ H', Po G X σ F ρ H F ρ' H' → Q o H') → t σ H Q

theorem ofb_ok {α β : Type} {o : Option α} {ρ : Env} {f : α → Env → R β} {b : β} {ρ' : Env} (h : (R.of o ρ).bind f = .ok b ρ') : ∃ a, o = some a ∧ f a ρ = .ok b ρ' := by
  cases o with
  | none => cases h
  | some a => exact ⟨a, rfl, h⟩
theorem bind_ok {α β : Type} {r : R α} {f : α → Env → R β} {b : β} {ρ' : Env} (h : r.bind f = .ok b ρ') : ∃ a ρ1, r = .ok a ρ1 ∧ f a ρ1 = .ok b ρ' := by
  cases r with
  | ok a ρ1 => exact ⟨a, ρ1, rfl, h⟩
  | no => cases h
theorem of_ok {α : Type} {o : Option α} {ρ : Env} {a : α} {ρ' : Env} (h : R.of o ρ = .ok a ρ') : o = some a ∧ ρ' = ρ := by
  cases o with
  | none => cases h
  | some b => cases h; exact ⟨rfl, rfl⟩
theorem ok_inj {α : Type} {a b : α} {ρ ρ' : Env} (h : R.ok a ρ = .ok b ρ') : a = b ∧ ρ = ρ' := by
  cases h; exact ⟨rfl, rfl⟩

section
variable {G : GD}
theorem se_var {i : Nat} : SE G (fun ρ => match getS ρ i with | .val d => .ok (d, .frz) ρ | .own d => .ok (d, .pk i) ρ | .io d => .ok (d, .pk i) ρ | .un => .no) (tVar i) := by
  intro X F ρ σ H Q d k ρ' S h q
  dsimp only at h
  cases e : getS ρ i with
  | un => rw [e] at h; cases h
  | val x =>
    rw [e] at h; cases h
    obtain ⟨v, e1, c⟩ := S.slot i _ (getS_eq e (by simp))
    exact ⟨v, e1, q _ _ F (Po.refl S) (.frz rfl c)⟩
  | own x =>
    rw [e] at h; cases h
    have e0 := getS_eq e (by simp)
    obtain ⟨p, e1, c⟩ := S.slot i _ e0
    exact ⟨_, e1, q _ _ F (Po.refl S) (.pk rfl e1 (.inl e0))⟩
  | io x =>
    rw [e] at h; cases h
    have e0 := getS_eq e (by simp)
    obtain ⟨p, e1, c⟩ := S.slot i _ e0
    exact ⟨_, e1, q _ _ F (Po.refl S) (.pk rfl e1 (.inr e0))⟩
theorem se_con {v : V} {d : D} (h : ∀ H, Dt G H v d) : SE G (fun ρ => .ok (d, .frz) ρ) (tC v) := by
  intro X F ρ σ H Q d' k ρ' S e q
  cases e
  exact q _ _ F (Po.refl S) (.frz rfl (h _))
theorem se_bin {ea eb : Env → R (D × Kd)} {ta tb : TE} {r : R2} {g : D → D → Option (D × Bool)} (ha : SE G ea ta) (hb : SE G eb tb)
    (hr : ∀ (M : AS) (H : Hp) (x y : V) (a b z : D) (fr : Bool) (Q : VK), Sh G M H x a → Sh G M H y b → g a b = some (z, fr) → (∀ v H', NewV G M H v H' z fr → Q v H') → r x y H Q) :
    SE G (fun ρ => (ea ρ).bind fun x ρ => (eb ρ).bind fun y ρ => (R.of (g (cur ρ x.1 x.2) y.1) ρ).bind fun z ρ => .ok (z.1, kdOf z.2) ρ) (tOp r ta tb) := by
  intro X F ρ σ H Q d k ρ' S h q
  obtain ⟨⟨d1, k1⟩, ρ1, h1, h⟩ := bind_ok h
  obtain ⟨⟨d2, k2⟩, ρ2, h2, h⟩ := bind_ok h
  obtain ⟨⟨z, fr⟩, h3, h⟩ := ofb_ok h
  cases h
  refine ha X F ρ σ H _ d1 k1 ρ1 S h1 fun v1 H1 F1 p1 r1 => ?_
  refine hb X F1 ρ1 σ H1 _ d2 k2 ρ' p1.sr h2 fun v2 H2 F2 p2 r2 => ?_
  refine hr (Mm F2 ρ' σ) H2 v1 v2 _ d2 z fr Q (r1.held p2) (r2.sh p2.sr) h3 fun v H3 n => ?_
  obtain ⟨F3, p3, r3⟩ := fin_op (p1.trans p2) n
  exact q v H3 F3 p3 r3
theorem se_cmp {ea eb : Env → R (D × Kd)} {ta tb : TE} {r : R2} {g : D → D → Option Bool} (ha : SE G ea ta) (hb : SE G eb tb)
    (hr : ∀ (M : AS) (H : Hp) (x y : V) (a b : D) (k : Bool) (Q : VK), Sh G M H x a → Sh G M H y b → g a b = some k → Q (.bl k) H → r x y H Q) :
    SE G (fun ρ => (ea ρ).bind fun x ρ => (eb ρ).bind fun y ρ => (R.of (g (cur ρ x.1 x.2) y.1) ρ).bind fun z ρ => .ok (.bl z, .frz) ρ) (tOp r ta tb) := by
  intro X F ρ σ H Q d k ρ' S h q
  obtain ⟨⟨d1, k1⟩, ρ1, h1, h⟩ := bind_ok h
  obtain ⟨⟨d2, k2⟩, ρ2, h2, h⟩ := bind_ok h
  obtain ⟨z, h3, h⟩ := ofb_ok h
  cases h
  refine ha X F ρ σ H _ d1 k1 ρ1 S h1 fun v1 H1 F1 p1 r1 => ?_
  refine hb X F1 ρ1 σ H1 _ d2 k2 ρ' p1.sr h2 fun v2 H2 F2 p2 r2 => ?_
  refine hr (Mm F2 ρ' σ) H2 v1 v2 _ d2 z Q (r1.held p2) (r2.sh p2.sr) h3 ?_
  have p := p1.trans p2
  exact q _ _ F (p.drop (fun _ h => h) (sub_of p)) (.frz rfl (.bl z))
theorem se_idx {ea eb : Env → R (D × Kd)} {ta tb : TE} {r : R2} (ha : SE G ea ta) (hb : SE G eb tb)
    (hr : ∀ (M : AS) (H : Hp) (x y : V) (a b z : D) (Q : VK), Sh G M H x a → Sh G M H y b → idxD a b = some z → (∀ v, Dt G (Hr H M) v z → Q v H) → r x y H Q) :
    SE G (fun ρ => (ea ρ).bind fun x ρ => (eb ρ).bind fun y ρ => (R.of (idxD (cur ρ x.1 x.2) y.1) ρ).bind fun z ρ => .ok (z, .frz) ρ) (tOp r ta tb) := by
  intro X F ρ σ H Q d k ρ' S h q
  obtain ⟨⟨d1, k1⟩, ρ1, h1, h⟩ := bind_ok h
  obtain ⟨⟨d2, k2⟩, ρ2, h2, h⟩ := bind_ok h
  obtain ⟨z, h3, h⟩ := ofb_ok h
  cases h
  refine ha X F ρ σ H _ d1 k1 ρ1 S h1 fun v1 H1 F1 p1 r1 => ?_
  refine hb X F1 ρ1 σ H1 _ d2 k2 ρ' p1.sr h2 fun v2 H2 F2 p2 r2 => ?_
  refine hr (Mm F2 ρ' σ) H2 v1 v2 _ d2 d Q (r1.held p2) (r2.sh p2.sr) h3 fun v n => ?_
  obtain ⟨F3, p3, r3⟩ := fin_op (p1.trans p2) (.old n)
  exact q v H2 F3 p3 r3
theorem se_neg {ea : Env → R (D × Kd)} {ta : TE} (ha : SE G ea ta) : SE G (fun ρ => (ea ρ).bind fun x ρ => match x.1 with | .int i => .ok (.int (-i), .frz) ρ | _ => .no) (tUn (rU fun i => .int (-i)) ta) := by
  intro X F ρ σ H Q d k ρ' S h q
  obtain ⟨⟨d1, k1⟩, ρ1, h1, h⟩ := bind_ok h
  cases d1 with
  | int i =>
    cases h
    refine ha X F ρ σ H _ _ k1 ρ' S h1 fun v1 H1 F1 p1 r1 => ?_
    exact ⟨i, r1.int p1.sr, q _ _ F (p1.drop (fun _ h => h) (sub_of p1)) (.frz rfl (.int _))⟩
  | _ => cases h
theorem se_ife {ec : Env → R Bool} {ea eb : Env → R (D × Kd)} {tc : TT} {ta tb : TE} (hc : STt G ec tc) (ha : SE G ea ta) (hb : SE G eb tb) :
    SE G (fun ρ => (ec ρ).bind fun k ρ => if k = true then ea ρ else eb ρ) (tIf tc ta tb) := by
  intro X F ρ σ H Q d k ρ' S h q
  obtain ⟨b, ρ1, h1, h⟩ := bind_ok h
  refine hc X F ρ σ H _ b ρ1 S h1 fun H1 p1 => ?_
  cases b with
  | true => exact ha X F ρ1 σ H1 Q d k ρ' p1.sr h fun v H2 F2 p2 r2 => q v H2 F2 (p1.trans p2) r2
  | false => exact hb X F ρ1 σ H1 Q d k ρ' p1.sr h fun v H2 F2 p2 r2 => q v H2 F2 (p1.trans p2) r2
theorem se_not {ea : Env → R Bool} {ta : TT} (ha : STt G ea ta) : STt G (fun ρ => (ea ρ).bind fun b ρ => .ok (!b) ρ) (tNot ta) := by
  intro X F ρ σ H Q d ρ' S h q
  obtain ⟨b, ρ1, h1, h⟩ := bind_ok h
  cases h
  exact ha X F ρ σ H _ b ρ' S h1 fun H1 p1 => q H1 p1
theorem se_and {ea eb : Env → R (D × Kd)} {ta tb : TE} (ha : SE G ea ta) (hb : SE G eb tb) :
    SE G (fun ρ => (ea ρ).bind fun x ρ => match x.1 with | .bl true => eb ρ | .bl false => .ok (.bl false, .frz) ρ | _ => .no) (tAndV ta tb) := by
  intro X F ρ σ H Q d k ρ' S h q
  obtain ⟨⟨d1, k1⟩, ρ1, h1, h⟩ := bind_ok h
  refine ha X F ρ σ H _ _ k1 ρ1 S h1 fun v1 H1 F1 p1 r1 => ?_
  have pd := p1.drop (fun _ h => h) (sub_of p1)
  cases d1 with
  | bl b =>
    refine ⟨b, r1.bl p1.sr, ?_⟩
    cases b with
    | true => exact hb X F ρ1 σ H1 Q d k ρ' pd.sr h fun v H2 F2 p2 r2 => q v H2 F2 (pd.trans p2) r2
    | false => cases h; exact q _ _ F pd (.frz rfl (.bl _))
  | _ => cases h
theorem se_or {ea eb : Env → R (D × Kd)} {ta tb : TE} (ha : SE G ea ta) (hb : SE G eb tb) :
    SE G (fun ρ => (ea ρ).bind fun x ρ => match x.1 with | .bl false => eb ρ | .bl true => .ok (.bl true, .frz) ρ | _ => .no) (tOrV ta tb) := by
  intro X F ρ σ H Q d k ρ' S h q
  obtain ⟨⟨d1, k1⟩, ρ1, h1, h⟩ := bind_ok h
  refine ha X F ρ σ H _ _ k1 ρ1 S h1 fun v1 H1 F1 p1 r1 => ?_
  have pd := p1.drop (fun _ h => h) (sub_of p1)
  cases d1 with
  | bl b =>
    refine ⟨b, r1.bl p1.sr, ?_⟩
    cases b with
    | false => exact hb X F ρ1 σ H1 Q d k ρ' pd.sr h fun v H2 F2 p2 r2 => q v H2 F2 (pd.trans p2) r2
    | true => cases h; exact q _ _ F pd (.frz rfl (.bl _))
  | _ => cases h
/-! tests -/
theorem st_and {ea eb : Env → R Bool} {ta tb : TT} (ha : STt G ea ta) (hb : STt G eb tb) : STt G (fun ρ => (ea ρ).bind fun k ρ => if k = true then eb ρ else .ok false ρ) (tAnd ta tb) := by
  intro X F ρ σ H Q d ρ' S h q
  obtain ⟨b, ρ1, h1, h⟩ := bind_ok h
  refine ha X F ρ σ H _ b ρ1 S h1 fun H1 p1 => ?_
  cases b with
  | true => exact hb X F ρ1 σ H1 Q d ρ' p1.sr h fun H2 p2 => q H2 (p1.trans p2)
  | false => cases h; exact q H1 p1
theorem st_or {ea eb : Env → R Bool} {ta tb : TT} (ha : STt G ea ta) (hb : STt G eb tb) : STt G (fun ρ => (ea ρ).bind fun k ρ => if k = true then .ok true ρ else eb ρ) (tOr ta tb) := by
  intro X F ρ σ H Q d ρ' S h q
  obtain ⟨b, ρ1, h1, h⟩ := bind_ok h
  refine ha X F ρ σ H _ b ρ1 S h1 fun H1 p1 => ?_
  cases b with
  | false => exact hb X F ρ1 σ H1 Q d ρ' p1.sr h fun H2 p2 => q H2 (p1.trans p2)
  | true => cases h; exact q H1 p1
/-- a value as a test -/
theorem st_tr {ea : Env → R (D × Kd)} {ta : TE} (ha : SE G ea ta) : STt G (fun ρ => (ea ρ).bind fun x ρ => R.of (truthD x.1) ρ) (fun σ H Q => ta σ H fun x H' => ∃ k, TruV G.K x H' k ∧ Q k H') := by
  intro X F ρ σ H Q d ρ' S h q
  obtain ⟨⟨d1, k1⟩, ρ1, h1, h⟩ := bind_ok h
  obtain ⟨h2, rfl⟩ := of_ok h
  refine ha X F ρ σ H _ _ k1 ρ' S h1 fun v1 H1 F1 p1 r1 => ?_
  have pd := q H1 (p1.drop (fun _ h => h) (sub_of p1))
  have sh := r1.sh p1.sr
  refine ⟨d, ?_, pd⟩
  cases d1 with
  | non => cases h2; rw [sh.non]; rfl
  | bl b => cases h2; rw [sh.bl]; rfl
  | int i => cases h2; rw [sh.int]; rfl
  | tup ds =>
    cases h2
    obtain ⟨p, vs, rfl, s1, r⟩ := sh.tup
    exact .inr (.inl ⟨vs, s1, by cases r <;> rfl⟩)
  | lst ds =>
    cases h2
    obtain ⟨p, vs, rfl, s1, r⟩ := sh.lst
    exact .inl ⟨vs, s1, by cases r <;> rfl⟩
  | scr ds =>
    cases h2
    obtain ⟨p, vs, rfl, s1, r⟩ := sh.scr
    exact .inl ⟨vs, s1, by cases r <;> rfl⟩
  | _ => cases h2
end
end Mp

set_option maxRecDepth 100000
set_option maxHeartbeats 4000000
/-! Mp7: displays, arguments, built-in calls, slices, calls of defs, sound. -/
namespace Mp
open PySem PySem.Spec PyProof.Rows L2
section
variable {G : GD} {X : Fr} {F F1 : AS} {ρ ρ1 ρ2 : Env} {σ : L2.St} {H H1 : Hp}
theorem settle_ok {v : V} {d d' : D} {k : Kd} (p : Po G X σ F ρ H F1 ρ1 H1) (r : VR G X σ F F1 ρ1 H1 v d k) (h : settle ρ1 d k = .ok d' ρ2) : Po G X σ F ρ H F ρ2 H1 ∧ Dt G (Hr H1 (Mm F ρ2 σ)) v d' := by
  cases r with
  | frz e r =>
    subst e
    cases h
    exact ⟨p, r⟩
  | @fr q d e n1 n2 n3 r =>
    subst e
    cases h
    refine ⟨p.drop (fun _ h => h) (fun _ h => .inr h), r.dt (fun a z => z.imp .inr id) fun z => ?_⟩
    rcases z with z | ⟨i, z⟩
    · exact n1 z
    · exact p.sr.dis i q z (.inl rfl)
  | @pk v d i e e1 r =>
    subst e
    have h' : (match getS ρ1 i with | .own d => R.ok d (ρ1.set i (.val d)) | _ => R.no) = .ok d' ρ2 := h
    cases q : getS ρ1 i with
    | own x =>
      rw [q] at h'
      cases h'
      obtain ⟨a, e2, p2, dt⟩ := Po.settle p.sr (getS_eq q (by simp))
      rw [e1] at e2; cases e2
      exact ⟨p.trans p2, dt⟩
    | _ => rw [q] at h'; cases h'
end
section
variable {G : GD}
theorem sl_nil : SL G (fun ρ => .ok [] ρ) tNil := by
  intro X F ρ σ H Q ds ρ' S h q
  cases h
  exact q [] H (Po.refl S) .nil
theorem sl_cons {ea : Env → R (D × Kd)} {er : Env → R (List D)} {ta : TE} {tr : TA} (ha : SE G ea ta) (hr : SL G er tr) :
    SL G (fun ρ => (ea ρ).bind fun x ρ => (settle ρ x.1 x.2).bind fun d ρ => (er ρ).bind fun ds ρ => .ok (d :: ds) ρ) (tCons ta tr) := by
  intro X F ρ σ H Q ds ρ' S h q
  obtain ⟨⟨d1, k1⟩, ρ1, h1, h⟩ := bind_ok h
  obtain ⟨d2, ρ2, h2, h⟩ := bind_ok h
  obtain ⟨ds3, ρ3, h3, h⟩ := bind_ok h
  cases h
  refine ha X F ρ σ H _ d1 k1 ρ1 S h1 fun v1 H1 F1 p1 r1 => ?_
  obtain ⟨p2, r2⟩ := settle_ok p1 r1 h2
  refine hr X F ρ2 σ H1 _ ds3 ρ' p2.sr h3 fun vs H2 p3 r3 => ?_
  exact q _ _ (p2.trans p3) (.cons (r2.le p3.le) r3)
theorem se_tup {el : Env → R (List D)} {t : TA} (h1 : SL G el t) : SE G (fun ρ => (el ρ).bind fun ds ρ => if ds.length ≤ sizeLine then .ok (.tup ds, .frz) ρ else .no) (tTup t) := by
  intro X F ρ σ H Q d k ρ' S h q
  obtain ⟨ds, ρ1, h2, h⟩ := bind_ok h
  split at h
  · rename_i c
    cases h
    refine h1 X F ρ σ H _ ds ρ' S h2 fun vs H1 p r => ⟨by rw [r.length]; exact c, fun a ha => ?_⟩
    obtain ⟨F3, p3, r3⟩ := fin_op p (.tup ha r)
    exact q _ _ F3 p3 r3
  · cases h
theorem se_lst {el : Env → R (List D)} {t : TA} (h1 : SL G el t) : SE G (fun ρ => (el ρ).bind fun ds ρ => if ds.length ≤ sizeLine then .ok (.lst ds, .fr) ρ else .no) (tLst t) := by
  intro X F ρ σ H Q d k ρ' S h q
  obtain ⟨ds, ρ1, h2, h⟩ := bind_ok h
  split at h
  · rename_i c
    cases h
    refine h1 X F ρ σ H _ ds ρ' S h2 fun vs H1 p r => ⟨by rw [r.length]; exact c, fun a ha => ?_⟩
    obtain ⟨F3, p3, r3⟩ := fin_op p (.lst ha r)
    exact q _ _ F3 p3 r3
  · cases h
theorem sp_nil : SP G (fun ρ => .ok [] ρ) tNil := by
  intro X F ρ σ H Q ds ρ' S h q
  cases h
  exact q [] H F (Po.refl S) .nil
theorem sp_cons {ea : Env → R (D × Kd)} {er : Env → R (List (D × Kd))} {ta : TE} {tr : TA} (ha : SE G ea ta) (hr : SP G er tr) :
    SP G (fun ρ => (ea ρ).bind fun x ρ => (er ρ).bind fun ds ρ => .ok (x :: ds) ρ) (tCons ta tr) := by
  intro X F ρ σ H Q ds ρ' S h q
  obtain ⟨⟨d1, k1⟩, ρ1, h1, h⟩ := bind_ok h
  obtain ⟨ds3, ρ3, h3, h⟩ := bind_ok h
  cases h
  refine ha X F ρ σ H _ d1 k1 ρ1 S h1 fun v1 H1 F1 p1 r1 => ?_
  refine hr X F1 ρ1 σ H1 _ ds3 ρ' p1.sr h3 fun vs H2 F2 p3 r3 => ?_
  exact q _ _ F2 (p1.trans p3) (.cons (r1.held p3) r3)
theorem se_blt {b : Blt} {ep : Env → R (List (D × Kd))} {t : TA} {r : List V → Hp → VK → Prop} (h1 : SP G ep t) (hr : bltOk G b r) :
    SE G (fun ρ => (ep ρ).bind fun xs ρ => (R.of (bltD b (xs.map fun x => cur ρ x.1 x.2)) ρ).bind fun z ρ => .ok (z.1, kdOf z.2) ρ) (tCB r t) := by
  intro X F ρ σ H Q d k ρ' S h q
  obtain ⟨xs, ρ1, h2, h⟩ := bind_ok h
  obtain ⟨⟨z, fr⟩, h3, h⟩ := ofb_ok h
  cases h
  refine h1 X F ρ σ H _ xs ρ' S h2 fun vs H1 F1 p r1 => ?_
  refine hr (Mm F1 ρ' σ) H1 vs _ z fr Q r1 h3 fun v H2 n => ?_
  obtain ⟨F3, p3, r3⟩ := fin_op p n
  exact q v H2 F3 p3 r3
/-- isinstance -/
theorem se_isin {t : Nat} {r : List V → Hp → VK → Prop} {T : String} {ta : TE} {ea : Env → R (D × Kd)} (ht : t < 5) (hT : T = tyName t) (ha : SE G ea ta)
    (hr : ∀ (M : AS) (H : Hp) (v : V) (d z : D) (fr : Bool) (Q : VK), t < 5 → Sh G M H v d → bltD (.isinst t) [d] = some (z, fr) → (∀ v H', NewV G M H v H' z fr → Q v H') → r [v, .ty (tyName t)] H Q) :
    SE G (fun ρ => (ea ρ).bind fun x ρ => (R.of (isinD t x.1) ρ).bind fun b ρ => .ok (.bl b, .frz) ρ) (tCB r (tCons ta (tCons (tC (.ty T)) tNil))) := by
  subst hT
  intro X F ρ σ H Q d k ρ' S h q
  obtain ⟨⟨d1, k1⟩, ρ2, h4, h2⟩ := bind_ok h
  obtain ⟨b, h3, h5⟩ := ofb_ok h2
  cases h5
  refine ha X F ρ σ H _ d1 k1 ρ' S h4 fun v1 H1 F1 p1 r1 => ?_
  refine hr (Mm F1 ρ' σ) H1 v1 _ (.bl b) false Q ht (r1.sh p1.sr) (by show (isinD t d1).map _ = _; rw [h3]; rfl) fun v H2 n => ?_
  obtain ⟨F3, p3, r3⟩ := fin_op p1 n
  exact q v H2 F3 p3 r3
theorem so_none : SO G (fun ρ => .ok none ρ) tNoPart := by
  intro X F ρ σ H Q o ρ' S h q
  cases h
  exact q H (Po.refl S)
theorem so_some {ea : Env → R (D × Kd)} {ta : TE} (ha : SE G ea ta) : SO G (fun ρ => (ea ρ).bind fun x ρ => match x.1 with | .int i => .ok (some i) ρ | _ => .no) (tPart ta) := by
  intro X F ρ σ H Q o ρ' S h q
  obtain ⟨⟨d1, k1⟩, ρ1, h1, h⟩ := bind_ok h
  cases d1 with
  | int i =>
    cases h
    refine ha X F ρ σ H _ _ k1 ρ' S h1 fun v1 H1 F1 p1 r1 => ?_
    exact ⟨i, r1.int p1.sr, q _ (p1.drop (fun _ h => h) (sub_of p1))⟩
  | _ => cases h
theorem se_sl {ea : Env → R (D × Kd)} {el eh : Env → R (Option Int)} {ta : TE} {tl th : TO} {r : V → Option Int → Option Int → Hp → VK → Prop} (ha : SE G ea ta) (hl : SO G el tl) (hh : SO G eh th)
    (hr : ∀ (M : AS) (H : Hp) (x : V) (a z : D) (lo hi : Option Int) (fr : Bool) (Q : VK), Sh G M H x a → slD a lo hi = some (z, fr) → (∀ v H', NewV G M H v H' z fr → Q v H') → r x lo hi H Q) :
    SE G (fun ρ => (ea ρ).bind fun x ρ => (el ρ).bind fun l ρ => (eh ρ).bind fun h ρ => (R.of (slD (cur ρ x.1 x.2) l h) ρ).bind fun z ρ => .ok (z.1, kdOf z.2) ρ) (tSl r ta tl th) := by
  intro X F ρ σ H Q d k ρ' S h q
  obtain ⟨⟨d1, k1⟩, ρ1, h1, h⟩ := bind_ok h
  obtain ⟨lo, ρ2, h2, h⟩ := bind_ok h
  obtain ⟨hi, ρ3, h3, h⟩ := bind_ok h
  obtain ⟨⟨z, fr⟩, h4, h⟩ := ofb_ok h
  cases h
  refine ha X F ρ σ H _ d1 k1 ρ1 S h1 fun v1 H1 F1 p1 r1 => ?_
  refine hl X F1 ρ1 σ H1 _ lo ρ2 p1.sr h2 fun H2 p2 => ?_
  refine hh X F1 ρ2 σ H2 _ hi ρ' p2.sr h3 fun H3 p3 => ?_
  have pp := p2.trans p3
  refine hr (Mm F1 ρ' σ) H3 v1 _ z lo hi fr Q (r1.held pp) h4 fun v H4 n => ?_
  obtain ⟨F3, p5, r5⟩ := fin_op (p1.trans pp) n
  exact q v H4 F3 p5 r5
theorem se_cmp2 {ea eb ec : Env → R (D × Kd)} {ta tb tc : TE} {r r' : R2} {g g' : D → D → Option Bool} (ha : SE G ea ta) (hb : SE G eb tb) (hc : SE G ec tc)
    (hr : ∀ (M : AS) (H : Hp) (x y : V) (a b : D) (k : Bool) (Q : VK), Sh G M H x a → Sh G M H y b → g a b = some k → Q (.bl k) H → r x y H Q)
    (hr' : ∀ (M : AS) (H : Hp) (x y : V) (a b : D) (k : Bool) (Q : VK), Sh G M H x a → Sh G M H y b → g' a b = some k → Q (.bl k) H → r' x y H Q) :
    SE G (fun ρ => (ea ρ).bind fun x ρ => (eb ρ).bind fun y ρ => (R.of (g (cur ρ x.1 x.2) y.1) ρ).bind fun z ρ =>
      if z = true then (ec ρ).bind fun w ρ => (R.of (g' (cur ρ y.1 y.2) w.1) ρ).bind fun z ρ => .ok (.bl z, .frz) ρ else .ok (.bl false, .frz) ρ) (tChain r r' ta tb tc) := by
  intro X F ρ σ H Q d k ρ' S h q
  obtain ⟨⟨d1, k1⟩, ρ1, h1, h⟩ := bind_ok h
  obtain ⟨⟨d2, k2⟩, ρ2, h2, h⟩ := bind_ok h
  obtain ⟨z, h3, h⟩ := ofb_ok h
  refine ha X F ρ σ H _ d1 k1 ρ1 S h1 fun v1 H1 F1 p1 r1 => ?_
  refine hb X F1 ρ1 σ H1 _ d2 k2 ρ2 p1.sr h2 fun v2 H2 F2 p2 r2 => ?_
  refine hr (Mm F2 ρ2 σ) H2 v1 v2 _ d2 z _ (r1.held p2) (r2.sh p2.sr) h3 ⟨z, rfl, ?_⟩
  have p := p1.trans p2
  cases z with
  | false => cases h; exact q _ _ F (p.drop (fun _ h => h) (sub_of p)) (.frz rfl (.bl _))
  | true =>
    obtain ⟨⟨d3, k3⟩, ρ3, h4, h⟩ := bind_ok h
    obtain ⟨z, h5, h⟩ := ofb_ok h
    cases h
    refine hc X F2 ρ2 σ H2 _ d3 k3 ρ' p2.sr h4 fun v3 H3 F3 p3 r3 => ?_
    have pq := p.trans p3
    exact hr' (Mm F3 ρ' σ) H3 v2 v3 _ d3 z _ (r2.held p3) (r3.sh p3.sr) h5 (q _ _ F (pq.drop (fun _ h => h) (sub_of pq)) (.frz rfl (.bl _)))
theorem sa_nil : SA G (fun ρ => .ok [] ρ) tNil := by
  intro X F ρ σ H Q ds ρ' S h q
  cases h
  exact q [] H (Po.refl S) .nil
theorem ArR.le {σ : L2.St} {F : AS} {ρ ρ' : Env} {H H' : Hp} (e : ∀ a o, Hr H (Mm F ρ σ) a = some o → Hr H' (Mm F ρ' σ) a = some o) : ∀ {vs : List V} {as : List Ar}, ArR G σ F ρ H vs as → ArR G σ F ρ' H' vs as
  | _, _, .nil => .nil
  | _, _, .v h r => .v (h.le e) (ArR.le e r)
  | _, _, .io h r => .io h (ArR.le e r)
theorem sa_cons {ea : Env → R (D × Kd)} {er : Env → R (List Ar)} {ta : TE} {tr : TA} (ha : SE G ea ta) (hr : SA G er tr) :
    SA G (fun ρ => (ea ρ).bind fun x ρ => (settle ρ x.1 x.2).bind fun d ρ => (er ρ).bind fun ds ρ => .ok (.v d :: ds) ρ) (tCons ta tr) := by
  intro X F ρ σ H Q ds ρ' S h q
  obtain ⟨⟨d1, k1⟩, ρ1, h1, h⟩ := bind_ok h
  obtain ⟨d2, ρ2, h2, h⟩ := bind_ok h
  obtain ⟨ds3, ρ3, h3, h⟩ := bind_ok h
  cases h
  refine ha X F ρ σ H _ d1 k1 ρ1 S h1 fun v1 H1 F1 p1 r1 => ?_
  obtain ⟨p2, r2⟩ := settle_ok p1 r1 h2
  refine hr X F ρ2 σ H1 _ ds3 ρ' p2.sr h3 fun vs H2 p3 r3 => ?_
  exact q _ _ (p2.trans p3) (.v (r2.le p3.le) r3)
theorem sa_io {i : Nat} {er : Env → R (List Ar)} {tr : TA} (hr : SA G er tr) :
    SA G (fun ρ => match getS ρ i with | .own _ => (er ρ).bind fun ds ρ => .ok (.io i :: ds) ρ | .io _ => (er ρ).bind fun ds ρ => .ok (.io i :: ds) ρ | _ => .no) (tCons (tVar i) tr) := by
  intro X F ρ σ H Q ds ρ' S h q
  have key : ∀ p, σ[i]? = some (some (.ref p)) → ((er ρ).bind fun ds ρ => (.ok (.io i :: ds) ρ : R (List Ar))) = .ok ds ρ' → tCons (tVar i) tr σ H Q := fun p e h => by
    obtain ⟨ds3, ρ3, h3, h⟩ := bind_ok h
    cases h
    exact ⟨_, e, hr X F ρ σ H _ ds3 ρ' S h3 fun vs H2 p3 r3 => q _ _ p3 (.io e r3)⟩
  dsimp only at h
  cases e : getS ρ i with
  | own x =>
    rw [e] at h
    obtain ⟨p, e1, _⟩ := S.slot i _ (getS_eq e (by simp))
    exact key p e1 h
  | io x =>
    rw [e] at h
    obtain ⟨p, e1, _⟩ := S.slot i _ (getS_eq e (by simp))
    exact key p e1 h
  | _ => rw [e] at h; cases h
end
end Mp

set_option maxRecDepth 100000
set_option maxHeartbeats 4000000
/-! Mp8: a def's promise, said by the evaluator; a call, sound. -/
namespace Mp
open PySem PySem.Spec PyProof.Rows L2

/-- the arguments at the entry: values outside M, own lists at IO -/
inductive InR (G : GD) (M : AS) (H : Hp) : List Bool → List V → List D → List Addr → Prop
  | nil : InR G M H [] [] [] []
  | v {v : V} {d : D} {fl : List Bool} {vs : List V} {ds : List D} {io : List Addr} : Dt G (Hr H M) v d → InR G M H fl vs ds io → InR G M H (false :: fl) (v :: vs) (d :: ds) io
  | io {p : Addr} {d : D} {fl : List Bool} {vs : List V} {ds : List D} {io : List Addr} : OwnC G M H p d → InR G M H fl vs ds io → InR G M H (true :: fl) (.ref p :: vs) (d :: ds) (p :: io)
inductive OutL (G : GD) (M : AS) (H : Hp) : List Addr → List D → Prop
  | nil : OutL G M H [] []
  | cons {p : Addr} {d : D} {ps : List Addr} {ds : List D} : OwnC G M H p d → OutL G M H ps ds → OutL G M H (p :: ps) (d :: ds)
abbrev orL (Z : AS) (io : List Addr) : AS := fun a => Z a ∨ a ∈ io
/-- the call's end -/
structure OutR (G : GD) (Z : AS) (io : List Addr) (H : Hp) (v : V) (H' : Hp) (d : D) (b : Bool) (outs : List D) : Prop where
  frame : ∀ a o, a ∉ io → H a = some o → H' a = some o
  val : (b = false ∧ Dt G (Hr H' (orL Z io)) v d ∧ OutL G (orL Z io) H' io outs) ∨
    (b = true ∧ ∃ p, v = .ref p ∧ H p = none ∧ OwnC G (addF (orL Z io) p) H' p d ∧ OutL G (addF (orL Z io) p) H' io outs)
def spOf (G : GD) (cl : List Bool → List D → CRes) (n : Nat) : Sp := fun vs H Q _ => ∃ (fl : List Bool) (ds : List D) (io : List Addr) (Z : AS) (d : D) (b : Bool) (outs : List D),
  cl fl ds = some (d, b, outs) ∧ ds.length = n ∧ InR G (orL Z io) H fl vs ds io ∧ io.Nodup ∧ (∀ a ∈ io, ¬ Z a) ∧ (∀ a, Z a → H a ≠ none) ∧ ∀ v H', OutR G Z io H v H' d b outs → Q v H'
theorem InR.length {G : GD} {M : AS} {H : Hp} : ∀ {fl : List Bool} {vs : List V} {ds : List D} {io : List Addr}, InR G M H fl vs ds io → vs.length = ds.length
  | _, _, _, _, .nil => rfl
  | _, _, _, _, .v _ r => congrArg (· + 1) r.length
  | _, _, _, _, .io _ r => congrArg (· + 1) r.length

section
variable {G : GD} {X : Fr} {F F' : AS} {ρ ρ' : Env} {σ : L2.St} {H H' : Hp}
/-- the io arguments' places and addresses -/
inductive IoP (ρ : Env) (σ : L2.St) : List Ar → List (Nat × Addr) → Prop
  | nil : IoP ρ σ [] []
  | v {d : D} {as : List Ar} {ps : List (Nat × Addr)} : IoP ρ σ as ps → IoP ρ σ (.v d :: as) ps
  | io {i : Nat} {p : Addr} {as : List Ar} {ps : List (Nat × Addr)} : OwnAt ρ σ i p → IoP ρ σ as ps → IoP ρ σ (.io i :: as) ((i, p) :: ps)
theorem IoP.ix {as : List Ar} {ps : List (Nat × Addr)} (h : IoP ρ σ as ps) : iosOf as = ps.map (·.1) := by
  induction h with
  | nil => rfl
  | v _ ih => exact ih
  | io _ _ ih => simp only [iosOf, List.map_cons, ih]
theorem IoP.own {as : List Ar} {ps : List (Nat × Addr)} (h : IoP ρ σ as ps) : ∀ q ∈ ps, OwnAt ρ σ q.1 q.2 := by
  induction h with
  | nil => intro q hq; cases hq
  | v _ ih => exact ih
  | io o _ ih =>
    intro q hq
    rcases List.mem_cons.mp hq with rfl | hq
    · exact o
    · exact ih q hq
theorem ar_in (S : SR G X F ρ σ H) : ∀ {vs : List V} {as : List Ar} {ds : List D}, ArR G σ F ρ H vs as → argsD ρ as = some ds →
    ∃ ps, IoP ρ σ as ps ∧ InR G (Mm F ρ σ) H (as.map Ar.isIo) vs ds (ps.map (·.2))
  | _, _, ds, .nil, e => by cases e; exact ⟨[], .nil, .nil⟩
  | _, _, ds, .v (d := d) (as := as) h r, e => by
    have e' : (argsD ρ as).map (d :: ·) = some ds := e
    cases q : argsD ρ as with
    | none => rw [q] at e'; cases e'
    | some es =>
      rw [q] at e'
      cases e'
      obtain ⟨ps, h1, h2⟩ := ar_in S r q
      exact ⟨ps, .v h1, .v h h2⟩
  | _, _, ds, .io (v := v) (i := i) (as := as) h r, e => by
    have e' : ((Ar.io i).d ρ).bind (fun d => (argsD ρ as).map (d :: ·)) = some ds := e
    cases q : argsD ρ as with
    | none => rw [q] at e'; cases w : (Ar.io i).d ρ <;> rw [w] at e' <;> cases e'
    | some es =>
      rw [q] at e'
      obtain ⟨ps, h1, h2⟩ := ar_in S r q
      have w : (Ar.io i).d ρ = (match getS ρ i with | .own d => some d | .io d => some d | _ => none) := rfl
      rw [w] at e'
      cases g : getS ρ i with
      | own x =>
        rw [g] at e'
        cases e'
        have g0 := getS_eq g (by simp)
        obtain ⟨p, e1, c⟩ := S.slot i _ g0
        rw [h] at e1; cases e1
        exact ⟨(i, p) :: ps, .io ⟨⟨x, .inl g0⟩, h⟩ h1, .io c h2⟩
      | io x =>
        rw [g] at e'
        cases e'
        have g0 := getS_eq g (by simp)
        obtain ⟨p, e1, c⟩ := S.slot i _ g0
        rw [h] at e1; cases e1
        exact ⟨(i, p) :: ps, .io ⟨⟨x, .inr g0⟩, h⟩ h1, .io c h2⟩
      | _ => rw [g] at e'; cases e'
/-! the names behind a call -/
theorem setIo_len (ρ : Env) (i : Nat) (d : D) : (setIo ρ i d).length = ρ.length := by
  unfold setIo
  split <;> first | rfl | exact List.length_set
theorem setIo_ne {ρ : Env} {i j : Nat} {d : D} (h : j ≠ i) : (setIo ρ i d)[j]? = ρ[j]? := by
  unfold setIo
  split
  · exact List.getElem?_set_ne (Ne.symm h)
  · exact List.getElem?_set_ne (Ne.symm h)
  · rfl
theorem setIo_own {ρ : Env} {i : Nat} {d x : D} (h : ρ[i]? = some (.own x)) : (setIo ρ i d)[i]? = some (.own d) := by
  unfold setIo
  rw [getS_of h]
  exact List.getElem?_set_self (List.getElem?_eq_some_iff.mp h).1
theorem setIo_io {ρ : Env} {i : Nat} {d x : D} (h : ρ[i]? = some (.io x)) : (setIo ρ i d)[i]? = some (.io d) := by
  unfold setIo
  rw [getS_of h]
  exact List.getElem?_set_self (List.getElem?_eq_some_iff.mp h).1
theorem putOuts_len : ∀ (as : List Ar) (ρ : Env) (outs : List D), (putOuts ρ as outs).length = ρ.length
  | [], _, _ => rfl
  | .io i :: r, ρ, [] => rfl
  | .io i :: r, ρ, d :: ds => by
    show (putOuts (setIo ρ i d) r ds).length = _
    rw [putOuts_len r, setIo_len]
  | .v _ :: r, ρ, ds => putOuts_len r ρ ds
theorem putOuts_ne : ∀ (as : List Ar) (ρ : Env) (outs : List D) (j : Nat), j ∉ iosOf as → (putOuts ρ as outs)[j]? = ρ[j]?
  | [], _, _, _, _ => rfl
  | .io i :: r, ρ, [], _, _ => rfl
  | .io i :: r, ρ, d :: ds, j, h => by
    show (putOuts (setIo ρ i d) r ds)[j]? = _
    have h' : j ≠ i ∧ j ∉ iosOf r := by simpa [iosOf] using h
    rw [putOuts_ne r _ _ j h'.2, setIo_ne h'.1]
  | .v _ :: r, ρ, ds, j, h => putOuts_ne r ρ ds j h
/-- of the passed names: what they hold now -/
theorem putOuts_at {M : AS} {H' : Hp} : ∀ {as : List Ar} {ps : List (Nat × Addr)} {ρ : Env} {outs : List D}, (ps.map (·.1)).Nodup → iosOf as = ps.map (·.1) → OutL G M H' (ps.map (·.2)) outs →
    (∀ q ∈ ps, ∃ x, ρ[q.1]? = some (.own x) ∨ ρ[q.1]? = some (.io x)) → ∀ q ∈ ps, ∃ d, OwnC G M H' q.2 d ∧ ((∃ x, ρ[q.1]? = some (.own x)) ∧ (putOuts ρ as outs)[q.1]? = some (.own d) ∨ (∃ x, ρ[q.1]? = some (.io x)) ∧ (putOuts ρ as outs)[q.1]? = some (.io d))
  | [], [], _, _, _, _, _, _ => fun q hq => by cases hq
  | [], _ :: _, _, _, _, e, _, _ => by cases e
  | .v _ :: r, ps, ρ, outs, nd, e, o, k => putOuts_at (as := r) nd e o k
  | .io i :: r, [], _, _, _, e, _, _ => by cases e
  | .io i :: r, (j, p) :: ps, ρ, outs, nd, e, o, k => by
    have e' : i :: iosOf r = j :: ps.map (·.1) := e
    injection e' with e1 e2
    subst e1
    cases o with
    | @cons _ d _ ds c o =>
      have nd' : i ∉ ps.map (·.1) ∧ (ps.map (·.1)).Nodup := List.nodup_cons.mp nd
      have k0 := k (i, p) (List.mem_cons_self)
      intro q hq
      show ∃ d', OwnC G M H' q.2 d' ∧ ((∃ x, ρ[q.1]? = some (.own x)) ∧ (putOuts (setIo ρ i d) r ds)[q.1]? = some (.own d') ∨ (∃ x, ρ[q.1]? = some (.io x)) ∧ (putOuts (setIo ρ i d) r ds)[q.1]? = some (.io d'))
      rcases List.mem_cons.mp hq with rfl | hq
      · refine ⟨d, c, ?_⟩
        rw [putOuts_ne r _ _ i (by rw [e2]; exact nd'.1)]
        obtain ⟨x, k0 | k0⟩ := k0
        · exact .inl ⟨⟨x, k0⟩, setIo_own k0⟩
        · exact .inr ⟨⟨x, k0⟩, setIo_io k0⟩
      · have hne : ∀ q ∈ ps, q.1 ≠ i := fun q hq z => nd'.1 (z ▸ List.mem_map_of_mem hq)
        obtain ⟨d', c', h⟩ := putOuts_at (as := r) (ρ := setIo ρ i d) nd'.2 e2 o (fun q hq => by
          obtain ⟨x, z⟩ := k q (List.mem_cons_of_mem _ hq)
          exact ⟨x, by rw [setIo_ne (hne q hq)]; exact z⟩) q hq
        refine ⟨d', c', ?_⟩
        rw [setIo_ne (hne q hq)] at h
        exact h
end
section
variable {G : GD}
theorem nodup_snd {ρ : Env} {σ : L2.St} (inj : ∀ (i j : Nat) (p : Addr), OwnAt ρ σ i p → OwnAt ρ σ j p → i = j) : ∀ {ps : List (Nat × Addr)}, (∀ q ∈ ps, OwnAt ρ σ q.1 q.2) → (ps.map (·.1)).Nodup → (ps.map (·.2)).Nodup
  | [], _, _ => List.nodup_nil
  | q :: ps, h, nd => by
    have nd' : q.1 ∉ ps.map (·.1) ∧ (ps.map (·.1)).Nodup := List.nodup_cons.mp nd
    refine List.nodup_cons.mpr ⟨fun hm => ?_, nodup_snd inj (fun q hq => h q (List.mem_cons_of_mem _ hq)) nd'.2⟩
    obtain ⟨r, hr, e⟩ := List.mem_map.mp hm
    have := inj q.1 r.1 q.2 (h q List.mem_cons_self) (by have h2 := h r (List.mem_cons_of_mem _ hr); rw [show r.2 = q.2 from e] at h2; exact h2)
    exact nd'.1 (this ▸ List.mem_map_of_mem hr)
/-- behind a call -/
theorem po_call {X : Fr} {F : AS} {ρ : Env} {σ : L2.St} {H H' : Hp} {as : List Ar} {ps : List (Nat × Addr)} {v : V} {d : D} {b : Bool} {outs : List D} (S : SR G X F ρ σ H) (hp : IoP ρ σ as ps) (nd : (iosOf as).Nodup)
    (O : OutR G (fun a => Mm F ρ σ a ∧ a ∉ ps.map (·.2)) (ps.map (·.2)) H v H' d b outs) :
    ∃ F', Po G X σ F ρ H F' (putOuts ρ as outs) H' ∧ VR G X σ F F' (putOuts ρ as outs) H' v d (kdOf b) := by
  have own := hp.own
  have ix := hp.ix
  have nd1 : (ps.map (·.1)).Nodup := ix ▸ nd
  have eM : orL (fun a => Mm F ρ σ a ∧ a ∉ ps.map (·.2)) (ps.map (·.2)) = Mm F ρ σ := by
    funext a
    refine propext ⟨fun z => ?_, fun z => ?_⟩
    · rcases z with z | z
      · exact z.1
      · obtain ⟨q, hq, e⟩ := List.mem_map.mp z
        exact .inr ⟨q.1, e ▸ own q hq⟩
    · by_cases h : a ∈ ps.map (·.2)
      · exact .inr h
      · exact .inl ⟨z, h⟩
  have mIO : ∀ a, a ∈ ps.map (·.2) → ∃ i, OwnAt ρ σ i a := fun a z => by
    obtain ⟨q, hq, e⟩ := List.mem_map.mp z
    exact ⟨q.1, e ▸ own q hq⟩
  -- what is in M' beside M is new
  have fin : ∀ (F' : AS), (∀ a, F a → F' a) → (∀ a, F' a → F a ∨ H a = none) → (∀ a, F' a → H' a ≠ none) → OutL G (Mm F' ρ σ) H' (ps.map (·.2)) outs → Po G X σ F ρ H F' (putOuts ρ as outs) H' := fun F' f1 f2 f3 ol => by
    have at_ := putOuts_at (G := G) (M := Mm F' ρ σ) (H' := H') (as := as) (ρ := ρ) (outs := outs) nd1 ix ol (fun q hq => by
      obtain ⟨⟨x, z⟩, _⟩ := own q hq
      exact ⟨x, z⟩)
    have out : ∀ j, j ∉ iosOf as → (putOuts ρ as outs)[j]? = ρ[j]? := putOuts_ne as ρ outs
    have inn : ∀ j, j ∈ iosOf as → ∃ p, (j, p) ∈ ps := fun j hj => by
      rw [ix] at hj
      obtain ⟨q, hq, e⟩ := List.mem_map.mp hj
      exact ⟨q.2, by rw [← e]; exact hq⟩
    have ownI : ∀ j p, OwnAt (putOuts ρ as outs) σ j p ↔ OwnAt ρ σ j p := fun j p => by
      by_cases hj : j ∈ iosOf as
      · obtain ⟨q, hq⟩ := inn j hj
        obtain ⟨d', _, h⟩ := at_ _ hq
        rcases h with ⟨⟨x, h1⟩, h2⟩ | ⟨⟨x, h1⟩, h2⟩
        · exact ⟨fun z => ⟨⟨x, .inl h1⟩, z.2⟩, fun z => ⟨⟨d', .inl h2⟩, z.2⟩⟩
        · exact ⟨fun z => ⟨⟨x, .inr h1⟩, z.2⟩, fun z => ⟨⟨d', .inr h2⟩, z.2⟩⟩
      · unfold OwnAt
        rw [out j hj]
    have mm : Mm F' (putOuts ρ as outs) σ = Mm F' ρ σ := by
      funext a
      exact propext ⟨fun z => z.imp id fun ⟨j, z⟩ => ⟨j, (ownI j a).mp z⟩, fun z => z.imp id fun ⟨j, z⟩ => ⟨j, (ownI j a).mpr z⟩⟩
    have le : ∀ a o, Hr H (Mm F ρ σ) a = some o → Hr H' (Mm F' ρ σ) a = some o := hr_mono (fun a o n e => O.frame a o (fun z => n (.inr (mIO a z))) e) fun a z => by
      rcases z with z | z
      · rcases f2 a z with z | z
        · exact .inl (.inl z)
        · exact .inr z
      · exact .inl (.inr z)
    have kp : ∀ a, a ∉ ps.map (·.2) → H a ≠ none → H' a = H a := fun a n e => by
      cases q : H a with
      | none => exact absurd q e
      | some o => exact O.frame a o n q
    refine ⟨⟨by rw [putOuts_len]; exact S.len, fun i j p h1 h2 => S.inj i j p ((ownI i p).mp h1) ((ownI j p).mp h2), fun i p h z => ?_, fun i s e => ?_, fun a o n e => ?_, fun i p h => S.ownf i p ((ownI i p).mp h), f3, fun i p h => ?_⟩, fun a o e => by rw [mm]; exact le a o e, fun p z => ⟨f1 p z, ?_⟩, fun i p h => (ownI i p).mp h, fun i ⟨x, z⟩ => ?_⟩
    · rcases f2 p z with z | z
      · exact S.dis i p ((ownI i p).mp h) z
      · exact S.own ((ownI i p).mp h) z
    · rw [mm]
      by_cases hj : i ∈ iosOf as
      · obtain ⟨q, hq⟩ := inn i hj
        obtain ⟨d', c, h⟩ := at_ _ hq
        have hs : σ[i]? = some (some (.ref q)) := (own _ hq).2
        rcases h with ⟨_, h2⟩ | ⟨_, h2⟩
        · rw [h2] at e; cases e
          exact ⟨q, hs, c⟩
        · rw [h2] at e; cases e
          exact ⟨q, hs, c⟩
      · rw [out i hj] at e
        have q := S.slot i s e
        have nin : ∀ p, OwnAt ρ σ i p → p ∉ ps.map (·.2) := fun p h z => by
          obtain ⟨r, hr, e2⟩ := List.mem_map.mp z
          have := S.inj i r.1 p h (e2 ▸ own r hr)
          exact hj (by rw [ix, this]; exact List.mem_map_of_mem hr)
        cases s with
        | un => trivial
        | val d => obtain ⟨v, e1, q⟩ := q; exact ⟨v, e1, q.le le⟩
        | own d => obtain ⟨p, e1, q⟩ := q; exact ⟨p, e1, q.le le (kp p (nin p ⟨⟨d, .inl e⟩, e1⟩) q.some)⟩
        | io d => obtain ⟨p, e1, q⟩ := q; exact ⟨p, e1, q.le le (kp p (nin p ⟨⟨d, .inr e⟩, e1⟩) q.some)⟩
    · refine O.frame a o (fun z => ?_) (S.frame a o n e)
      obtain ⟨i, z⟩ := mIO a z
      rcases S.ownf i a z with z | z
      · exact n z
      · rw [e] at z; cases z
    · obtain ⟨⟨x, h1⟩, h2⟩ := S.ios i p h
      refine ⟨?_, h2⟩
      by_cases hj : i ∈ iosOf as
      · obtain ⟨q, hq⟩ := inn i hj
        obtain ⟨d', _, h⟩ := at_ _ hq
        rcases h with ⟨⟨y, h3⟩, _⟩ | ⟨_, h4⟩
        · rw [h3] at h1; cases h1
        · exact ⟨d', h4⟩
      · exact ⟨x, by rw [out i hj]; exact h1⟩
    · refine kp p (fun h => ?_) (S.fdom p z)
      obtain ⟨i, h⟩ := mIO p h
      exact S.dis i p h z
    · by_cases hj : i ∈ iosOf as
      · obtain ⟨q, hq⟩ := inn i hj
        obtain ⟨d', _, h⟩ := at_ _ hq
        rcases h with ⟨_, h4⟩ | ⟨_, h4⟩
        · exact ⟨d', .inl h4⟩
        · exact ⟨d', .inr (.inl h4)⟩
      · exact ⟨x, by rw [out i hj]; exact z⟩
  have mm2 : ∀ F', (∀ a, Mm F' (putOuts ρ as outs) σ a → Mm F' ρ σ a) := fun F' a z => by
    refine z.imp id fun ⟨j, z⟩ => ?_
    by_cases hj : j ∈ iosOf as
    · rw [ix] at hj
      obtain ⟨q, hq, e⟩ := List.mem_map.mp hj
      have h1 := own q hq
      have h2 : σ[j]? = some (some (.ref q.2)) := e ▸ h1.2
      have h3 := z.2
      rw [h2] at h3; cases h3
      exact ⟨q.1, h1⟩
    · refine ⟨j, ?_⟩
      obtain ⟨⟨x, h1⟩, h2⟩ := z
      rw [putOuts_ne as ρ outs j hj] at h1
      exact ⟨⟨x, h1⟩, h2⟩
  rcases O.val with ⟨rfl, dt, ol⟩ | ⟨rfl, p, rfl, hn, c, ol⟩
  · rw [eM] at dt ol
    have P := fin F (fun _ h => h) (fun _ h => .inl h) (fun a z => by
      have h1 := S.fdom a z
      cases q : H a with
      | none => exact absurd q h1
      | some o =>
        rw [O.frame a o (fun h => by
          obtain ⟨i, h⟩ := mIO a h
          exact S.dis i a h z) q]
        simp) ol
    exact ⟨F, P, .frz rfl (dt.le (hr_mono (fun _ _ _ e => e) fun a z => .inl (mm2 F a z)))⟩
  · have e2 : addF (orL (fun a => Mm F ρ σ a ∧ a ∉ ps.map (·.2)) (ps.map (·.2))) p = Mm (addF F p) ρ σ := by
      rw [eM]
      funext a
      refine propext ⟨fun z => ?_, fun z => ?_⟩
      · rcases z with z | z | z
        · exact .inl (.inl z)
        · exact .inl (.inr z)
        · exact .inr z
      · rcases z with (z | z) | z
        · exact .inl z
        · exact .inr (.inl z)
        · exact .inr (.inr z)
    rw [e2] at c ol
    have nF : ¬ F p := fun z => S.fdom p z hn
    have P := fin (addF F p) (fun _ h => .inr h) (fun a h => h.elim (fun e => .inr (e ▸ hn)) .inl) (fun a z => by
      rcases z with z | z
      · rw [z]; exact c.some
      · have h1 := S.fdom a z
        cases q : H a with
        | none => exact absurd q h1
        | some o =>
          rw [O.frame a o (fun h => by
            obtain ⟨i, h⟩ := mIO a h
            exact S.dis i a h z) q]
          simp) ol
    obtain ⟨n1, n2⟩ := S.new0 hn
    exact ⟨addF F p, P, .fr rfl nF n1 n2 (c.le (hr_mono (fun _ _ _ e => e) fun a z => .inl (mm2 (addF F p) a z)) rfl)⟩
theorem map_perm {G : GD} {σ : L2.St} {F : AS} {ρ : Env} {H : Hp} {vs : List V} {as : List Ar} (h : ArR G σ F ρ H vs as) : vs.length = as.length := by
  induction h with
  | nil => rfl
  | v _ _ ih => exact congrArg (· + 1) ih
  | io _ _ ih => exact congrArg (· + 1) ih
/-- the callee's promise, from the caller's state -/
theorem se_docall {cl : Nat → List Bool → List D → CRes} {f n : Nat} {X : Fr} {F : AS} {ρ ρ' : Env} {σ : L2.St} {H : Hp} {as : List Ar} {vs : List V} {d : D} {k : Kd} {Q : VK} {E : XK}
    (S : SR G X F ρ σ H) (r : ArR G σ F ρ H vs as) (hn : ∀ fl ds x, cl f fl ds = some x → ds.length = n) (h : doCall cl f as ρ = .ok (d, k) ρ') (q : ∀ v H' F', Po G X σ F ρ H F' ρ' H' → VR G X σ F F' ρ' H' v d k → Q v H') :
    spOf G (cl f) n vs H Q E := by
  unfold doCall at h
  cases e1 : argsD ρ as with
  | none => rw [e1] at h; cases h
  | some ds =>
    rw [e1] at h
    dsimp only at h
    split at h
    · rename_i nd
      cases e2 : cl f (as.map Ar.isIo) ds with
      | none => rw [e2] at h; cases h
      | some x =>
        obtain ⟨d0, b, outs⟩ := x
        rw [e2] at h
        dsimp only at h
        cases h
        obtain ⟨ps, hp, hin⟩ := ar_in S r e1
        have own := hp.own
        have nd2 : (ps.map (·.2)).Nodup := nodup_snd S.inj own (hp.ix ▸ nd)
        have eM : orL (fun a => Mm F ρ σ a ∧ a ∉ ps.map (·.2)) (ps.map (·.2)) = Mm F ρ σ := by
          funext a
          refine propext ⟨fun z => ?_, fun z => ?_⟩
          · rcases z with z | z
            · exact z.1
            · obtain ⟨q, hq, e⟩ := List.mem_map.mp z
              exact .inr ⟨q.1, e ▸ own q hq⟩
          · by_cases h : a ∈ ps.map (·.2)
            · exact .inr h
            · exact .inl ⟨z, h⟩
        refine ⟨as.map Ar.isIo, ds, ps.map (·.2), fun a => Mm F ρ σ a ∧ a ∉ ps.map (·.2), d, b, outs, e2, hn _ _ _ e2, by rw [eM]; exact hin, nd2, fun a h z => z.2 h, fun a z => S.mdom a z.1, fun v H' O => ?_⟩
        obtain ⟨F', P, R⟩ := po_call S hp nd O
        exact q v H' F' P R
    · cases h
theorem se_call {cl : Nat → List Bool → List D → CRes} {f n : Nat} {ea : Env → R (List Ar)} {t : TA} {E : XK} (hn : ∀ fl ds x, cl f fl ds = some x → ds.length = n) (ha : SA G ea t) :
    SE G (fun ρ => (ea ρ).bind fun as ρ => doCall cl f as ρ) (tCall (spOf G (cl f) n) [] E t) := by
  intro X F ρ σ H Q d k ρ' S h q
  obtain ⟨as, ρ1, h1, h⟩ := bind_ok h
  refine ha X F ρ σ H _ as ρ1 S h1 fun vs H1 p r => ?_
  rw [List.append_nil]
  exact se_docall p.sr r hn h fun v H2 F2 p2 r2 => q v H2 F2 (p.trans p2) r2
theorem ArR.append {σ : L2.St} {F : AS} {ρ : Env} {H : Hp} {vs zs : List V} {as bs : List Ar} (h : ArR G σ F ρ H vs as) (h2 : ArR G σ F ρ H zs bs) : ArR G σ F ρ H (vs ++ zs) (as ++ bs) := by
  induction h with
  | nil => exact h2
  | v q _ ih => exact .v q ih
  | io q _ ih => exact .io q ih
theorem ArR.get {σ : L2.St} {F : AS} {ρ : Env} {H : Hp} : ∀ {vs : List V} {as : List Ar}, ArR G σ F ρ H vs as → ∀ (i : Nat), (vs[i]? = none ∧ as[i]? = none) ∨ ∃ v a, vs[i]? = some v ∧ as[i]? = some a ∧ ∀ {us bs}, ArR G σ F ρ H us bs → ArR G σ F ρ H (v :: us) (a :: bs)
  | _, _, .nil, i => .inl ⟨by simp, by simp⟩
  | _, _, .v q r, 0 => .inr ⟨_, _, rfl, rfl, fun h => .v q h⟩
  | _, _, .io q r, 0 => .inr ⟨_, _, rfl, rfl, fun h => .io q h⟩
  | _, _, .v q r, i + 1 => by simpa using r.get i
  | _, _, .io q r, i + 1 => by simpa using r.get i
theorem ArR.pick {σ : L2.St} {F : AS} {ρ : Env} {H : Hp} {vs : List V} {as : List Ar} (h : ArR G σ F ρ H vs as) : ∀ p : List Nat, ArR G σ F ρ H (Mp.pick p vs) (Mp.pick p as)
  | [] => .nil
  | i :: p => by
    unfold Mp.pick
    rw [List.filterMap_cons, List.filterMap_cons]
    rcases h.get i with ⟨e1, e2⟩ | ⟨v, a, e1, e2, k⟩
    · rw [e1, e2]; exact h.pick p
    · rw [e1, e2]; exact k (h.pick p)
theorem evA_len {cl : Nat → List Bool → List D → CRes} : ∀ (es : E) (ρ : Env) (as : List Ar) (ρ' : Env), evA cl es ρ = .ok as ρ' → as.length = cntA es
  | .nil, ρ, as, ρ', h => by cases h; rfl
  | .cons a r, ρ, as, ρ', h => by
    obtain ⟨x, ρ1, _, h⟩ := bind_ok (show ((evE cl a ρ).bind fun x ρ => (settle ρ x.1 x.2).bind fun d ρ => (evA cl r ρ).bind fun ds ρ => .ok (.v d :: ds) ρ) = .ok as ρ' from h)
    obtain ⟨d, ρ2, _, h⟩ := bind_ok h
    obtain ⟨ds, ρ3, h3, h⟩ := bind_ok h
    cases h
    show ds.length + 1 = cntA r + 1
    rw [evA_len r _ _ _ h3]
  | .ioa i r, ρ, as, ρ', h => by
    have k : ((evA cl r ρ).bind fun ds ρ => (.ok (.io i :: ds) ρ : R (List Ar))) = .ok as ρ' → as.length = cntA r + 1 := fun h => by
      obtain ⟨ds, ρ3, h3, h⟩ := bind_ok h
      cases h
      show ds.length + 1 = cntA r + 1
      rw [evA_len r _ _ _ h3]
    have h' : (match getS ρ i with | .own _ => (evA cl r ρ).bind fun ds ρ => (.ok (.io i :: ds) ρ : R (List Ar)) | .io _ => (evA cl r ρ).bind fun ds ρ => (.ok (.io i :: ds) ρ : R (List Ar)) | _ => .no) = .ok as ρ' := h
    cases e : getS ρ i with
    | own d => rw [e] at h'; exact k h'
    | io d => rw [e] at h'; exact k h'
    | _ => rw [e] at h'; cases h'
  | .var _, _, _, _, h => by cases h
  | .con _, _, _, _, h => by cases h
  | .glo _ _, _, _, _, h => by cases h
  | .tup _, _, _, _, h => by cases h
  | .lst _, _, _, _, h => by cases h
  | .neg _, _, _, _, h => by cases h
  | .bin _ _ _, _, _, _, h => by cases h
  | .cmp _ _ _, _, _, _, h => by cases h
  | .cmp2 _ _ _ _ _, _, _, _, h => by cases h
  | .not _, _, _, _, h => by cases h
  | .and _ _, _, _, _, h => by cases h
  | .or _ _, _, _, _, h => by cases h
  | .ife _ _ _, _, _, _, h => by cases h
  | .idx _ _, _, _, _, h => by cases h
  | .sl _ _ _, _, _, _, h => by cases h
  | .call _ _, _, _, _, h => by cases h
  | .callk _ _ _ _, _, _, _, h => by cases h
  | .fld _ _, _, _, _, h => by cases h
  | .mk _ _ _ _, _, _, _, h => by cases h
  | .isinc _ _ _, _, _, _, h => by cases h
  | .calf _ _ _, _, _, _, h => by cases h
  | .calv _ _, _, _, _, h => by cases h
  | .vop _ _ _ _, _, _, _, h => by cases h
  | .uop _ _, _, _, _, h => by cases h
  | .bm _ _ _, _, _, _, h => by cases h
  | .mkk _ _ _ _ _ _, _, _, _, h => by cases h
  | .oeq _ _ _ _ _, _, _, _, h => by cases h
  | .blt _ _, _, _, _, h => by cases h
  | .isin _ _, _, _, _, h => by cases h
  | .lc _ _ _ _ _, _, _, _, h => by cases h
  | .rng1 _, _, _, _, h => by cases h
  | .rng2 _ _, _, _, _, h => by cases h
  | .enm _, _, _, _, h => by cases h
  | .zip _ _, _, _, _, h => by cases h
  | .it _, _, _, _, h => by cases h
  | .tr _, _, _, _, h => by cases h
theorem se_callk {cl : Nat → List Bool → List D → CRes} {f n : Nat} {p : List Nat} {N M : Nat} {ea eb : Env → R (List Ar)} {t tk : TA} {E : XK} {gV : List V → List V → List V} (hn : ∀ fl ds x, cl f fl ds = some x → ds.length = n) (ha : SA G ea t) (hb : SA G eb tk)
    (hN : ∀ ρ as ρ', ea ρ = .ok as ρ' → as.length = N) (hM : ∀ ρ as ρ', eb ρ = .ok as ρ' → as.length = M) (hg : ∀ vs zs, vs.length = N → zs.length = M → gV vs zs = pick p (vs ++ zs)) :
    SE G (fun ρ => (ea ρ).bind fun as ρ => (eb ρ).bind fun bs ρ => doCall cl f (pick p (as ++ bs)) ρ) (tCallK (spOf G (cl f) n) gV E t tk) := by
  intro X F ρ σ H Q d k ρ' S h q
  obtain ⟨as, ρ1, h1, h⟩ := bind_ok h
  obtain ⟨bs, ρ2, h2, h⟩ := bind_ok h
  refine ha X F ρ σ H _ as ρ1 S h1 fun vs H1 p1 r1 => ?_
  refine hb X F ρ1 σ H1 _ bs ρ2 p1.sr h2 fun zs H2 p2 r2 => ?_
  rw [hg vs zs ((map_perm r1).trans (hN _ _ _ h1)) ((map_perm r2).trans (hM _ _ _ h2))]
  exact se_docall p2.sr (((r1.le p2.le).append r2).pick p) hn h fun v H3 F3 p3 r3 => q v H3 F3 ((p1.trans p2).trans p3) r3
def del (H : Hp) (p : Addr) : Hp := fun a => if a = p then none else H a
theorem del_some {H : Hp} {p a : Addr} {o : HO} : del H p a = some o ↔ a ≠ p ∧ H a = some o := by
  unfold del
  by_cases h : a = p
  · rw [if_pos h]; exact ⟨fun e => (nomatch e), fun e => absurd h e.1⟩
  · rw [if_neg h]; exact ⟨fun e => ⟨h, e⟩, fun e => e.2⟩
theorem del_ne {H : Hp} {p a : Addr} (h : a ≠ p) : del H p a = H a := by unfold del; rw [if_neg h]
/-- a temporary is taken out of the heap -/
theorem Po.hide {X : Fr} {F : AS} {ρ ρ' : Env} {σ : L2.St} {H H' : Hp} {p : Addr} (P : Po G X σ F ρ H (addF F p) ρ' H') (nF : ¬ F p) (h0 : X.H0 p = none) : Po G X σ F ρ H F ρ' (del H' p) := by
  have S := P.sr
  have le : ∀ a o, Hr H' (Mm (addF F p) ρ' σ) a = some o → Hr (del H' p) (Mm F ρ' σ) a = some o := fun a o e => by
    obtain ⟨n, e⟩ := hr_some.mp e
    exact hr_some.mpr ⟨fun z => n (z.imp .inr id), del_some.mpr ⟨fun z => n (.inl (.inl z)), e⟩⟩
  refine ⟨⟨S.len, S.inj, fun i q a z => S.dis i q a (.inr z), fun i s e => ?_, fun a o n e => del_some.mpr ⟨fun z => (by rw [z, h0] at e; cases e), S.frame a o n e⟩, S.ownf, fun q z => ?_, S.ios⟩, fun a o e => le a o (P.le a o e), fun q z => ⟨z, ?_⟩, P.sub, P.liv⟩
  · have q := S.slot i s e
    have ne : ∀ q, OwnAt ρ' σ i q → q ≠ p := fun q h e => S.dis i q h (.inl e)
    cases s with
    | un => trivial
    | val d => obtain ⟨v, e, q⟩ := q; exact ⟨v, e, q.le le⟩
    | own d => obtain ⟨v, e1, q⟩ := q; exact ⟨v, e1, q.le le (del_ne (ne v ⟨⟨d, .inl e⟩, e1⟩))⟩
    | io d => obtain ⟨v, e1, q⟩ := q; exact ⟨v, e1, q.le le (del_ne (ne v ⟨⟨d, .inr e⟩, e1⟩))⟩
  · rw [del_ne fun (e : q = p) => nF (e ▸ z)]; exact S.fdom q (.inr z)
  · rw [del_ne fun (e : q = p) => nF (e ▸ z)]; exact (P.keep q z).2
theorem se_calf {cl : Nat → List Bool → List D → CRes} {f n : Nat} {ea : Env → R (D × Kd)} {er : Env → R (List Ar)} {ta : TE} {t : TA} {E : XK} (hn : ∀ fl ds x, cl f fl ds = some x → ds.length = n) (ha : SE G ea ta) (hr : SA G er t) :
    SE G (fun ρ => (ea ρ).bind fun x ρ => match x.2 with | .fr => (er ρ).bind fun as ρ => doCallF cl f x.1 as ρ | _ => .no) (tCall (spOf G (cl f) n) [] E (tCons ta t)) := by
  intro X F ρ σ H Q d k ρ' S h q
  obtain ⟨⟨d0, k0⟩, ρ1, h1, h⟩ := bind_ok h
  refine ha X F ρ σ H _ d0 k0 ρ1 S h1 fun v1 H1 F1 p1 r1 => ?_
  cases r1 with
  | frz => cases h
  | pk => cases h
  | @fr p _ e nF h0 nio c =>
    subst e
    obtain ⟨as, ρ2, h2, h⟩ := bind_ok h
    refine hr X (addF F p) ρ1 σ H1 _ as ρ2 p1.sr h2 fun vs H2 p2 r2 => ?_
    show spOf G (cl f) n ((V.ref p :: vs) ++ []) H2 Q E
    rw [List.append_nil]
    unfold doCallF at h
    cases e1 : argsD ρ2 as with
    | none => rw [e1] at h; cases h
    | some ds =>
      rw [e1] at h
      dsimp only at h
      split at h
      · rename_i nd
        cases e2 : cl f (true :: as.map Ar.isIo) (d0 :: ds) with
        | none => rw [e2] at h; cases h
        | some x =>
          obtain ⟨dv, b, outs0⟩ := x
          rw [e2] at h
          cases outs0 with
          | nil => cases h
          | cons o0 outs =>
            dsimp only at h
            cases h
            have S2 := p2.sr
            obtain ⟨ps, hp, hin⟩ := ar_in S2 r2 e1
            have own := hp.own
            have nd2 : (ps.map (·.2)).Nodup := nodup_snd S2.inj own (hp.ix ▸ nd)
            have pin : p ∉ ps.map (·.2) := fun z => by
              obtain ⟨q, hq, e⟩ := List.mem_map.mp z
              exact S2.dis q.1 q.2 (own q hq) (.inl e)
            have mio : ∀ a, a ∈ p :: ps.map (·.2) → Mm (addF F p) ρ2 σ a := fun a z => by
              rcases List.mem_cons.mp z with z | z
              · exact .inl (.inl z)
              · obtain ⟨q, hq, e⟩ := List.mem_map.mp z
                exact .inr ⟨q.1, e ▸ own q hq⟩
            have eM : orL (fun a => Mm (addF F p) ρ2 σ a ∧ a ∉ p :: ps.map (·.2)) (p :: ps.map (·.2)) = Mm (addF F p) ρ2 σ := by
              funext a
              refine propext ⟨fun z => z.elim (·.1) (mio a), fun z => ?_⟩
              by_cases h : a ∈ p :: ps.map (·.2)
              · exact .inr h
              · exact .inl ⟨z, h⟩
            have c2 : OwnC G (Mm (addF F p) ρ2 σ) H2 p d0 := c.le p2.le (p2.keep p (.inl rfl)).2
            refine ⟨true :: as.map Ar.isIo, d0 :: ds, p :: ps.map (·.2), fun a => Mm (addF F p) ρ2 σ a ∧ a ∉ p :: ps.map (·.2), d, b, o0 :: outs, e2, hn _ _ _ e2, by rw [eM]; exact .io c2 hin, List.nodup_cons.mpr ⟨pin, nd2⟩, fun a h z => z.2 h, fun a z => S2.mdom a z.1, fun v H3 O => ?_⟩
            have P := (p1.trans p2).hide nF h0
            have sub : ∀ a, orL (fun a => Mm F ρ2 σ a ∧ a ∉ ps.map (·.2)) (ps.map (·.2)) a → orL (fun a => Mm (addF F p) ρ2 σ a ∧ a ∉ p :: ps.map (·.2)) (p :: ps.map (·.2)) a := fun a z => by
              rw [eM]
              rcases z with z | z
              · exact z.1.imp .inr id
              · exact mio a (List.mem_cons_of_mem _ z)
            have outL : ∀ (M M' : AS), (∀ a, M' a → M a) → ∀ {io : List Addr} {os : List D}, OutL G M H3 io os → OutL G M' H3 io os := fun M M' hM => by
              intro io os h
              induction h with
              | nil => exact .nil
              | cons c _ ih => exact .cons (c.le (hr_mono (fun _ _ _ e => e) fun a z => .inl (hM a z)) rfl) ih
            have O2 : OutR G (fun a => Mm F ρ2 σ a ∧ a ∉ ps.map (·.2)) (ps.map (·.2)) (del H2 p) v H3 d b outs := by
              refine ⟨fun a o n e => ?_, ?_⟩
              · obtain ⟨e1, e2⟩ := del_some.mp e
                exact O.frame a o (fun z => by rcases List.mem_cons.mp z with z | z; exact e1 z; exact n z) e2
              · rcases O.val with ⟨rfl, dt, ol⟩ | ⟨rfl, q, rfl, hq, c, ol⟩
                · cases ol with
                  | cons _ ol => exact .inl ⟨rfl, dt.le (hr_mono (fun _ _ _ e => e) fun a z => .inl (sub a z)), outL _ _ sub ol⟩
                · have sub2 : ∀ a, addF (orL (fun a => Mm F ρ2 σ a ∧ a ∉ ps.map (·.2)) (ps.map (·.2))) q a → addF (orL (fun a => Mm (addF F p) ρ2 σ a ∧ a ∉ p :: ps.map (·.2)) (p :: ps.map (·.2))) q a := fun a z => z.imp id (sub a)
                  cases ol with
                  | cons _ ol => exact .inr ⟨rfl, q, rfl, (by unfold del; split <;> first | rfl | exact hq), c.le (hr_mono (fun _ _ _ e => e) fun a z => .inl (sub2 a z)) rfl, outL _ _ sub2 ol⟩
            obtain ⟨F', P', R⟩ := po_call P.sr hp nd O2
            exact q v H3 F' (P.trans P') R
      · cases h
/-- a call of the def that a name holds -/
theorem se_calv {cl : Nat → List Bool → List D → CRes} {n : Nat → Nat} {i : Nat} {ea : Env → R (List Ar)} {t : TA} {Sp : Addr → Option L2.Sp} (hn : ∀ f fl ds x, cl f fl ds = some x → ds.length = n f) (hS : ∀ f fl ds x, cl f fl ds = some x → Sp (G.fa f) = some (spOf G (cl f) (n f))) (ha : SA G ea t) :
    SE G (fun ρ => match getS ρ i with | .val (.fn f) => (ea ρ).bind fun as ρ => doCall cl f as ρ | _ => .no) (tCallA i Sp t) := by
  intro X F ρ σ H Q d k ρ' S h q
  dsimp only at h
  cases e : getS ρ i with
  | val x =>
    rw [e] at h
    cases x with
    | fn f =>
      obtain ⟨as, ρ1, h1, h⟩ := bind_ok h
      obtain ⟨v, e1, c⟩ := S.slot i _ (getS_eq e (by simp))
      cases c
      have hw : ∃ fl ds x, cl f fl ds = some x := by
        unfold doCall at h
        cases e2 : argsD ρ1 as with
        | none => rw [e2] at h; cases h
        | some ds =>
          rw [e2] at h
          dsimp only at h
          split at h
          · cases e3 : cl f (as.map Ar.isIo) ds with
            | none => rw [e3] at h; cases h
            | some x => exact ⟨_, _, x, e3⟩
          · cases h
      obtain ⟨fl, ds, x, hw⟩ := hw
      refine ⟨G.fa f, _, e1, hS f fl ds x hw, ?_⟩
      refine ha X F ρ σ H _ as ρ1 S h1 fun vs H1 p r => ?_
      exact se_docall p.sr r (hn f) h fun v H2 F2 p2 r2 => q v H2 F2 (p.trans p2) r2
    | _ => cases h
  | _ => rw [e] at h; cases h
end
end Mp

set_option maxRecDepth 100000
set_option maxHeartbeats 4000000
/-! Mp9: what a loop walks; targets; comprehensions, sound. -/
namespace Mp
open PySem PySem.Spec PyProof.Rows L2

/-- any list or tuple -/
def iSeq (K : PySem.W.Frag) (tl : TE) : TI := fun σ H R => tl σ H fun x H1 => ∃ a, x = .ref a ∧ (((∃ xs, SqL K H1 a xs) ∧ R (Itl K a) H1) ∨ ((∃ xs, SqT K H1 a xs) ∧ R (Itt K a) H1) ∨ (∃ lo hi, H1 a = some (.rng lo hi) ∧ (inR lo ∧ inR hi) ∧ R (Itr lo (hi - lo).toNat) H1))
theorem pi_seq {X : Cx} {tg l : Expr} {tl : TE} (hl : PE X l tl) : PI X tg l (iSeq X.K tl) := by
  refine ⟨fun pins s σ H R I h => ?_⟩
  refine thn (hl.run pins s σ H _ I h) fun v s1 ⟨x, H1, I1, r1, q1⟩ => ?_
  obtain ⟨a, e, ⟨⟨xs, hq⟩, q⟩ | ⟨⟨xs, hq⟩, q⟩ | ⟨lo, hi, hq, ⟨⟨h1, h2⟩, h3, h4⟩, q⟩⟩ := q1
  · subst e
    cases r1
    obtain ⟨its, rv, p, hz⟩ := I1.list hq
    refine wpAny_pyIter_list p.isList ?_
    refine ⟨s1.heap.objs.size, [s1.heap.objs.size], _, _, H1, rfl, I1.kept (t' := s1.toks) fun b o e => Heap.get?_push_of_some _ e, turn_list a _, ⟨_, Heap.get?_push_size _ rfl, rfl, rfl⟩, fun b hb => ?_, q⟩
    have e : b = s1.heap.objs.size := by simpa using hb
    subst e
    exact I1.fpOk (Nat.le_refl _) (I1.hok.fresh (Nat.le_refl _))
  · subst e
    cases r1
    obtain ⟨its, rv, p, hz⟩ := I1.tuple hq
    refine wpAny_pyIter_tuple (show s1.heap.IsTuple a its.toArray from p) ?_
    refine ⟨s1.heap.objs.size, [s1.heap.objs.size], _, _, H1, rfl, I1.kept (t' := s1.toks) fun b o e => Heap.get?_push_of_some _ e, turn_tuple a _, ⟨_, Heap.get?_push_size _ rfl, rfl, rfl⟩, fun b hb => ?_, q⟩
    have e : b = s1.heap.objs.size := by simpa using hb
    subst e
    exact I1.fpOk (Nat.le_refl _) (I1.hok.fresh (Nat.le_refl _))
  · subst e
    cases r1
    obtain ⟨t1, t2, t3, ho⟩ := I1.hok a _ hq
    refine wpAny_pyIter_range (t := t1) (u := t2) (v := t3) ho (small_one h1 h2 h3 h4) ?_
    refine ⟨s1.heap.objs.size, [s1.heap.objs.size], _, _, H1, rfl, I1.kept (t' := s1.toks) fun b o e => Heap.get?_push_of_some _ e, turn_range _ lo (hi - lo).toNat, ?_, fun b hb => ?_, q⟩
    · have e1 : lo + ((0 : Nat) : Int) * 1 = lo := by simp
      have e2 : (((hi - lo).toNat : Nat) : Int) - ((0 : Nat) : Int) = Builtin.Range.rangeSize lo hi 1 := by rw [rangeSize_one]; split <;> omega
      show IsRangeIter _ _ (lo + ((0 : Nat) : Int) * 1) ((((hi - lo).toNat : Nat) : Int) - ((0 : Nat) : Int)) 1
      rw [e1, e2]
      exact Heap.get?_push_size _ rfl
    · have e : b = s1.heap.objs.size := by simpa using hb
      subst e
      exact I1.fpOk (Nat.le_refl _) (I1.hok.fresh (Nat.le_refl _))

/-- the items that come, while what L shows stands -/
structure ItOk (G : GD) (L : Hp) (J : It) (ds : List D) : Prop where
  stop : ∀ (H : Hp) (M : AS), (∀ a o, L a = some o → Hr H M a = some o) → J.stop ds.length H
  go : ∀ (H : Hp) (M : AS) (i : Nat) (d : D), (∀ a o, L a = some o → Hr H M a = some o) → ds[i]? = some d → J.go i H
  yld : ∀ (H : Hp) (M : AS) (i : Nat) (d : D) (x : V) (H' : Hp), (∀ a o, L a = some o → Hr H M a = some o) → ds[i]? = some d → J.yld i H x H' →
    (H' = H ∧ Dt G (Hr H M) x d) ∨ ∃ (T : Addr) (vs : List V) (es : List D), H T = none ∧ H' = upd H T (.tup vs) ∧ x = .ref T ∧ d = .tup es ∧ DtA G (Hr H M) vs es
def SI (G : GD) (ev : Env → R (List D)) (wi : TI) : Prop := ∀ (X : Fr) (F : AS) (ρ : Env) (σ : L2.St) (H : Hp) (Q : It → Hp → Prop) (ds : List D) (ρ' : Env), SR G X F ρ σ H → ev ρ = .ok ds ρ' →
  (∀ J H', Po G X σ F ρ H F ρ' H' → ItOk G (Hr H' (Mm F ρ' σ)) J ds → Q J H') → wi σ H Q
theorem itok_seqL {G : GD} {L : Hp} {a : Addr} {vs : List V} {ds : List D} (h : SqL G.K L a vs) (r : DtA G L vs ds) : ItOk G L (Itl G.K a) ds := by
  have sq : ∀ (H : Hp) (M : AS), (∀ a o, L a = some o → Hr H M a = some o) → SqL G.K H a vs := fun H M k => sql_le hr_sub (sql_le k h)
  refine ⟨fun H M k => ⟨vs, sq H M k, by rw [r.length]; exact Nat.le_refl _⟩, fun H M i d k e => ?_, fun H M i d x H' k e y => ?_⟩
  · obtain ⟨v, h1, _⟩ := r.get e
    exact ⟨vs, v, sq H M k, h1⟩
  · obtain ⟨rfl, y⟩ := y
    obtain ⟨v, h1, h2⟩ := r.get e
    have := (y vs (sq _ M k)).symm.trans h1
    cases this
    exact .inl ⟨rfl, h2.le k⟩
theorem itok_seqT {G : GD} {L : Hp} {a : Addr} {vs : List V} {ds : List D} (h : SqT G.K L a vs) (r : DtA G L vs ds) : ItOk G L (Itt G.K a) ds := by
  have sq : ∀ (H : Hp) (M : AS), (∀ a o, L a = some o → Hr H M a = some o) → SqT G.K H a vs := fun H M k => sqt_le hr_sub (sqt_le k h)
  refine ⟨fun H M k => ⟨vs, sq H M k, by rw [r.length]; exact Nat.le_refl _⟩, fun H M i d k e => ?_, fun H M i d x H' k e y => ?_⟩
  · obtain ⟨v, h1, _⟩ := r.get e
    exact ⟨vs, v, sq H M k, h1⟩
  · obtain ⟨rfl, y⟩ := y
    obtain ⟨v, h1, h2⟩ := r.get e
    have := (y vs (sq _ M k)).symm.trans h1
    cases this
    exact .inl ⟨rfl, h2.le k⟩
theorem rng_get {lo hi : Int} {i : Nat} {d : D} (h : (rngD lo hi)[i]? = some d) : i < (hi - lo).toNat ∧ d = .int (lo + i) := by
  unfold rngD at h
  rw [List.getElem?_map] at h
  cases e : (List.range (hi - lo).toNat)[i]? with
  | none => rw [e] at h; cases h
  | some j =>
    rw [e] at h
    obtain ⟨h1, h2⟩ := List.getElem?_eq_some_iff.mp e
    rw [List.getElem_range] at h2
    subst h2
    cases h
    exact ⟨by simpa using h1, rfl⟩
theorem rng_len {lo hi : Int} : (rngD lo hi).length = (hi - lo).toNat := by
  unfold rngD
  rw [List.length_map, List.length_range]
theorem itok_rng {G : GD} {L : Hp} {lo hi : Int} : ItOk G L (Itr lo (hi - lo).toNat) (rngD lo hi) := by
  refine ⟨fun H M k => by rw [rng_len]; exact Nat.le_refl _, fun H M i d k e => (rng_get e).1, fun H M i d x H' k e y => ?_⟩
  obtain ⟨rfl, rfl⟩ := y
  rw [(rng_get e).2]
  exact .inl ⟨rfl, .int _⟩
section
variable {G : GD}
theorem si_it {ea : Env → R (D × Kd)} {ta : TE} (ha : SE G ea ta) : SI G (fun ρ => (ea ρ).bind fun x ρ => (settle ρ x.1 x.2).bind fun d ρ => R.of (seqI d) ρ) (iSeq G.K ta) := by
  intro X F ρ σ H Q ds ρ' S h q
  obtain ⟨⟨d1, k1⟩, ρ1, h1, h⟩ := bind_ok h
  obtain ⟨d2, ρ2, h2, h⟩ := bind_ok h
  obtain ⟨h3, rfl⟩ := of_ok h
  refine ha X F ρ σ H _ d1 k1 ρ1 S h1 fun v1 H1 F1 p1 r1 => ?_
  obtain ⟨p2, r2⟩ := settle_ok p1 r1 h2
  cases d2 with
  | tup xs =>
    cases h3
    cases r2 with
    | tup s r => exact ⟨_, rfl, .inr (.inl ⟨⟨_, sqt_le hr_sub s⟩, q _ _ p2 (itok_seqT s r)⟩)⟩
  | lst xs =>
    cases h3
    cases r2 with
    | lst s r => exact ⟨_, rfl, .inl ⟨⟨_, .inl (rd_le hr_sub s)⟩, q _ _ p2 (itok_seqL (.inl s) r)⟩⟩
  | scr xs =>
    cases h3
    cases r2 with
    | scr s r => exact ⟨_, rfl, .inl ⟨⟨_, sql_le hr_sub s⟩, q _ _ p2 (itok_seqL s r)⟩⟩
  | rng lo hi =>
    have h3' : (if inR lo ∧ inR hi then some (rngD lo hi) else none) = some ds := h3
    split at h3'
    · rename_i c
      cases h3'
      cases r2 with
      | rng e => exact ⟨_, rfl, .inr (.inr ⟨lo, hi, hr_sub _ _ e, c, q _ _ p2 itok_rng⟩)⟩
    · cases h3'
  | _ => cases h3
theorem si_rng1 {ea : Env → R (D × Kd)} {ta : TE} (ha : SE G ea ta) : SI G (fun ρ => (ea ρ).bind fun x ρ => match x.1 with | .int n => if inR n then .ok (rngD 0 n) ρ else .no | _ => .no) (iRng1 (tCons ta tNil)) := by
  intro X F ρ σ H Q ds ρ' S h q
  obtain ⟨⟨d1, k1⟩, ρ1, h1, h⟩ := bind_ok h
  cases d1 with
  | int n =>
    dsimp only at h
    split at h
    · rename_i c
      cases h
      refine ha X F ρ σ H _ _ k1 ρ' S h1 fun v1 H1 F1 p1 r1 => ?_
      refine ⟨n, by rw [r1.int p1.sr], c.1, c.2, q _ _ (p1.drop (fun _ h => h) (sub_of p1)) ?_⟩
      have e : n.toNat = (n - 0).toNat := by rw [Int.sub_zero]
      rw [e]
      exact itok_rng
    · cases h
  | _ => cases h
theorem si_rng2 {ea eb : Env → R (D × Kd)} {ta tb : TE} (ha : SE G ea ta) (hb : SE G eb tb) :
    SI G (fun ρ => (ea ρ).bind fun x ρ => (eb ρ).bind fun y ρ => match x.1, y.1 with | .int m, .int n => if inR m ∧ inR n then .ok (rngD m n) ρ else .no | _, _ => .no) (iRng2 (tCons ta (tCons tb tNil))) := by
  intro X F ρ σ H Q ds ρ' S h q
  obtain ⟨⟨d1, k1⟩, ρ1, h1, h⟩ := bind_ok h
  obtain ⟨⟨d2, k2⟩, ρ2, h2, h⟩ := bind_ok h
  cases d1 with
  | int m =>
    cases d2 with
    | int n =>
      dsimp only at h
      split at h
      · rename_i c
        cases h
        refine ha X F ρ σ H _ _ k1 ρ1 S h1 fun v1 H1 F1 p1 r1 => ?_
        refine hb X F1 ρ1 σ H1 _ _ k2 ρ' p1.sr h2 fun v2 H2 F2 p2 r2 => ?_
        have pp := p1.trans p2
        exact ⟨m, n, by rw [r1.int p1.sr, r2.int p2.sr], ⟨c.1.1, c.1.2, c.2.1, c.2.2⟩, q _ _ (pp.drop (fun _ h => h) (sub_of pp)) itok_rng⟩
      · cases h
    | _ => cases h
  | _ => cases h
end

/-! ### targets -/
/-- what a store leaves -/
structure PoS (G : GD) (X : Fr) (F : AS) (ρ : Env) (σ : L2.St) (H : Hp) (ρ' : Env) (σ' : L2.St) (H' : Hp) : Prop where
  sr : SR G X F ρ' σ' H'
  le : ∀ a o, Hr H (Mm F ρ σ) a = some o → Hr H' (Mm F ρ' σ') a = some o
  keep : ∀ p, F p → H' p = H p
theorem PoS.refl {G : GD} {X : Fr} {F : AS} {ρ : Env} {σ : L2.St} {H : Hp} (S : SR G X F ρ σ H) : PoS G X F ρ σ H ρ σ H := ⟨S, fun _ _ e => e, fun _ _ => rfl⟩
theorem PoS.trans {G : GD} {X : Fr} {F : AS} {ρ ρ1 ρ2 : Env} {σ σ1 σ2 : L2.St} {H H1 H2 : Hp} (a : PoS G X F ρ σ H ρ1 σ1 H1) (b : PoS G X F ρ1 σ1 H1 ρ2 σ2 H2) : PoS G X F ρ σ H ρ2 σ2 H2 :=
  ⟨b.sr, fun x o e => b.le x o (a.le x o e), fun p h => (b.keep p h).trans (a.keep p h)⟩
theorem Po.s {G : GD} {X : Fr} {F : AS} {ρ ρ' : Env} {σ : L2.St} {H H' : Hp} (p : Po G X σ F ρ H F ρ' H') : PoS G X F ρ σ H ρ' σ H' := ⟨p.sr, p.le, fun q h => (p.keep q h).2⟩
section
variable {G : GD} {X : Fr} {F : AS} {ρ ρ' : Env} {σ : L2.St} {H : Hp}
/-- a name takes a value; ps: the addresses that are held in flight, the value's own among them -/
theorem put_frz {i : Nat} {v : V} {d : D} (S : SR G X F ρ σ H) (hi : i < ρ.length) (n : ∀ x, ρ[i]? ≠ some (.io x)) (h : Dt G (Hr H (Mm F ρ σ)) v d) : PoS G X F ρ σ H (ρ.set i (.val d)) (σ.set i (some v)) H := by
  have hs : i < σ.length := S.len ▸ hi
  have own : ∀ j q, OwnAt (ρ.set i (.val d)) (σ.set i (some v)) j q → OwnAt ρ σ j q ∧ j ≠ i := fun j q ⟨⟨x, z⟩, w⟩ => by
    by_cases hj : j = i
    · subst hj
      rw [List.getElem?_set_self hi] at z
      rcases z with z | z <;> cases z
    · rw [List.getElem?_set_ne (Ne.symm hj)] at z w
      exact ⟨⟨⟨x, z⟩, w⟩, hj⟩
  have le : ∀ a o, Hr H (Mm F ρ σ) a = some o → Hr H (Mm F (ρ.set i (.val d)) (σ.set i (some v))) a = some o := hr_mono (fun _ _ _ e => e) fun a z => .inl (z.imp id fun ⟨j, z⟩ => ⟨j, (own j a z).1⟩)
  refine ⟨⟨by rw [List.length_set, List.length_set]; exact S.len, fun j k q a b => S.inj j k q (own j q a).1 (own k q b).1, fun j q a => S.dis j q (own j q a).1, fun j s z => ?_, S.frame, fun j q a => S.ownf j q (own j q a).1, S.fdom, fun j q z => ?_⟩, le, fun _ _ => rfl⟩
  · by_cases hj : j = i
    · subst hj
      rw [List.getElem?_set_self hi] at z
      cases z
      rw [List.getElem?_set_self hs]
      exact ⟨v, rfl, h.le le⟩
    · rw [List.getElem?_set_ne (Ne.symm hj)] at z
      rw [List.getElem?_set_ne (Ne.symm hj)]
      have q := S.slot j s z
      cases s with
      | un => trivial
      | val d => obtain ⟨v, e, q⟩ := q; exact ⟨v, e, q.le le⟩
      | own d => obtain ⟨v, e, q⟩ := q; exact ⟨v, e, q.le le rfl⟩
      | io d => obtain ⟨v, e, q⟩ := q; exact ⟨v, e, q.le le rfl⟩
  · obtain ⟨⟨x, h1⟩, h2⟩ := S.ios j q z
    have hj : j ≠ i := fun e => n x (e ▸ h1)
    exact ⟨⟨x, by rw [List.getElem?_set_ne (Ne.symm hj)]; exact h1⟩, by rw [List.getElem?_set_ne (Ne.symm hj)]; exact h2⟩
/-- a name takes a new list -/
theorem put_fr {F' : AS} {i : Nat} {p : Addr} {d : D} (S : SR G X F' ρ σ H) (e : ∀ a, F' a ↔ a = p ∨ F a) (nF : ¬ F p) (hi : i < ρ.length) (n : ∀ x, ρ[i]? ≠ some (.io x)) (h0 : X.H0 p = none) (c : OwnC G (Mm F' ρ σ) H p d) :
    SR G X F (ρ.set i (.own d)) (σ.set i (some (.ref p))) H ∧ ∀ a o, Hr H (Mm F' ρ σ) a = some o → Hr H (Mm F (ρ.set i (.own d)) (σ.set i (some (.ref p)))) a = some o := by
  have hs : i < σ.length := S.len ▸ hi
  have own : ∀ j q, OwnAt (ρ.set i (.own d)) (σ.set i (some (.ref p))) j q → (j ≠ i ∧ OwnAt ρ σ j q) ∨ (j = i ∧ q = p) := fun j q ⟨⟨x, z⟩, w⟩ => by
    by_cases hj : j = i
    · subst hj
      rw [List.getElem?_set_self hs] at w
      cases w
      exact .inr ⟨rfl, rfl⟩
    · rw [List.getElem?_set_ne (Ne.symm hj)] at z w
      exact .inl ⟨hj, ⟨x, z⟩, w⟩
  have np : ∀ j, ¬ OwnAt ρ σ j p := fun j z => S.dis j p z ((e p).mpr (.inl rfl))
  have le : ∀ a o, Hr H (Mm F' ρ σ) a = some o → Hr H (Mm F (ρ.set i (.own d)) (σ.set i (some (.ref p)))) a = some o := hr_mono (fun _ _ _ e => e) fun a z => by
    rcases z with z | ⟨j, z⟩
    · exact .inl (.inl ((e a).mpr (.inr z)))
    · rcases own j a z with ⟨_, z⟩ | ⟨_, z⟩
      · exact .inl (.inr ⟨j, z⟩)
      · exact .inl (.inl ((e a).mpr (.inl z)))
  refine ⟨⟨by rw [List.length_set, List.length_set]; exact S.len, fun j k q a b => ?_, fun j q a z => ?_, fun j s z => ?_, S.frame, fun j q a => ?_, fun q z => S.fdom q ((e q).mpr (.inr z)), fun j q z => ?_⟩, le⟩
  · rcases own j q a with ⟨_, a3⟩ | ⟨a1, a2⟩
    · rcases own k q b with ⟨_, b3⟩ | ⟨b1, b2⟩
      · exact S.inj j k q a3 b3
      · exact absurd (b2 ▸ a3) (np j)
    · rcases own k q b with ⟨_, b3⟩ | ⟨b1, b2⟩
      · exact absurd (a2 ▸ b3) (np k)
      · rw [a1, b1]
  · rcases own j q a with ⟨_, a⟩ | ⟨_, a2⟩
    · exact S.dis j q a ((e q).mpr (.inr z))
    · subst a2; exact nF z
  · by_cases hj : j = i
    · subst hj
      rw [List.getElem?_set_self hi] at z
      cases z
      rw [List.getElem?_set_self hs]
      exact ⟨p, rfl, c.le le rfl⟩
    · rw [List.getElem?_set_ne (Ne.symm hj)] at z
      rw [List.getElem?_set_ne (Ne.symm hj)]
      have q := S.slot j s z
      cases s with
      | un => trivial
      | val d => obtain ⟨v, e, q⟩ := q; exact ⟨v, e, q.le le⟩
      | own d => obtain ⟨v, e, q⟩ := q; exact ⟨v, e, q.le le rfl⟩
      | io d => obtain ⟨v, e, q⟩ := q; exact ⟨v, e, q.le le rfl⟩
  · rcases own j q a with ⟨_, a⟩ | ⟨_, a2⟩
    · exact S.ownf j q a
    · subst a2; exact .inr h0
  · obtain ⟨⟨x, h1⟩, h2⟩ := S.ios j q z
    have hj : j ≠ i := fun e => n x (e ▸ h1)
    exact ⟨⟨x, by rw [List.getElem?_set_ne (Ne.symm hj)]; exact h1⟩, by rw [List.getElem?_set_ne (Ne.symm hj)]; exact h2⟩
/-- an own list's content is changed -/
theorem put_own {i : Nat} {p : Addr} {s0 s1 : Slot} {ds : List D} {vs : List V} (S : SR G X F ρ σ H) (h1 : ρ[i]? = some s0) (k : (∃ x, s0 = .own x) ∧ s1 = .own (.lst ds) ∨ (∃ x, s0 = .io x) ∧ s1 = .io (.lst ds)) (h2 : σ[i]? = some (some (.ref p))) (r : DtA G (Hr H (Mm F ρ σ)) vs ds) :
    PoS G X F ρ σ H (ρ.set i s1) σ (upd H p (.lst vs)) := by
  have hi : i < ρ.length := (List.getElem?_eq_some_iff.mp h1).1
  have op : OwnAt ρ σ i p := by
    rcases k with ⟨⟨x, rfl⟩, _⟩ | ⟨⟨x, rfl⟩, _⟩
    · exact ⟨⟨x, .inl h1⟩, h2⟩
    · exact ⟨⟨x, .inr h1⟩, h2⟩
  have own : ∀ j q, OwnAt (ρ.set i s1) σ j q ↔ OwnAt ρ σ j q := fun j q => by
    unfold OwnAt
    by_cases hj : j = i
    · subst hj
      rw [List.getElem?_set_self hi, h1]
      rcases k with ⟨⟨x, rfl⟩, rfl⟩ | ⟨⟨x, rfl⟩, rfl⟩
      · exact ⟨fun ⟨_, w⟩ => ⟨⟨x, .inl rfl⟩, w⟩, fun ⟨_, w⟩ => ⟨⟨_, .inl rfl⟩, w⟩⟩
      · exact ⟨fun ⟨_, w⟩ => ⟨⟨x, .inr rfl⟩, w⟩, fun ⟨_, w⟩ => ⟨⟨_, .inr rfl⟩, w⟩⟩
    · rw [List.getElem?_set_ne (Ne.symm hj)]
  have mm : Mm F (ρ.set i s1) σ = Mm F ρ σ := by
    funext a
    exact propext ⟨fun z => z.imp id fun ⟨j, z⟩ => ⟨j, (own j a).mp z⟩, fun z => z.imp id fun ⟨j, z⟩ => ⟨j, (own j a).mpr z⟩⟩
  have le : ∀ a o, Hr H (Mm F ρ σ) a = some o → Hr (upd H p (.lst vs)) (Mm F ρ σ) a = some o := hr_mono (fun a o n e => by
    have ne : a ≠ p := fun z => n (.inr ⟨i, by rw [z]; exact op⟩)
    rw [upd_ne ne]; exact e) fun a z => .inl z
  have kp : ∀ a, a ≠ p → upd H p (.lst vs) a = H a := fun a e => upd_ne e
  refine ⟨⟨by rw [List.length_set]; exact S.len, fun j k q a b => S.inj j k q ((own j q).mp a) ((own k q).mp b), fun j q a => S.dis j q ((own j q).mp a), fun j s z => ?_, fun a o n e => ?_, fun j q a => S.ownf j q ((own j q).mp a), fun q z => ?_, fun j q z => ?_⟩, fun a o e => by rw [mm]; exact le a o e, fun q z => kp q fun e => S.dis i p op (e ▸ z)⟩
  · rw [mm]
    by_cases hj : j = i
    · subst hj
      rw [List.getElem?_set_self hi] at z
      cases z
      rcases k with ⟨⟨x, rfl⟩, rfl⟩ | ⟨⟨x, rfl⟩, rfl⟩
      · exact ⟨p, h2, vs, upd_same, r.le le⟩
      · exact ⟨p, h2, vs, upd_same, r.le le⟩
    · rw [List.getElem?_set_ne (Ne.symm hj)] at z
      have q := S.slot j s z
      have ne : ∀ q, OwnAt ρ σ j q → q ≠ p := fun q h e => hj (S.inj j i p (e ▸ h) op)
      cases s with
      | un => trivial
      | val d => obtain ⟨v, e, q⟩ := q; exact ⟨v, e, q.le le⟩
      | own d => obtain ⟨v, e, q⟩ := q; exact ⟨v, e, q.le le (kp v (ne v ⟨⟨d, .inl z⟩, e⟩))⟩
      | io d => obtain ⟨v, e, q⟩ := q; exact ⟨v, e, q.le le (kp v (ne v ⟨⟨d, .inr z⟩, e⟩))⟩
  · rw [kp a fun z => ?_]
    · exact S.frame a o n e
    · subst z
      rcases S.ownf i a op with z | z
      · exact n z
      · rw [e] at z; cases z
  · rw [kp q fun e => S.dis i p op (e ▸ z)]
    exact S.fdom q z
  · obtain ⟨⟨x, e1⟩, e2⟩ := S.ios j q z
    refine ⟨?_, e2⟩
    by_cases hj : j = i
    · subst hj
      rw [h1] at e1; cases e1
      rcases k with ⟨⟨x, e⟩, _⟩ | ⟨_, rfl⟩
      · cases e
      · exact ⟨_, List.getElem?_set_self hi⟩
    · exact ⟨x, by rw [List.getElem?_set_ne (Ne.symm hj)]; exact e1⟩
end
end Mp

set_option maxRecDepth 100000
set_option maxHeartbeats 4000000
/-! Mp10: targets, comprehensions, statements, sound. -/
namespace Mp
open PySem PySem.Spec PyProof.Rows L2

def SGt (G : GD) (eg : D → Kd → Env → R Unit) (t : TG) : Prop := ∀ (X : Fr) (F F' : AS) (ρ : Env) (σ : L2.St) (H : Hp) (v : V) (d : D) (k : Kd) (ρ' : Env) (Q : L2.St → Hp → Prop), SR G X F' ρ σ H → VR G X σ F F' ρ H v d k → eg d k ρ = .ok () ρ' →
  (∀ σ' H', SR G X F ρ' σ' H' → (∀ a o, Hr H (Mm F' ρ σ) a = some o → Hr H' (Mm F ρ' σ') a = some o) → (∀ p, F p → H' p = H p) → Q σ' H') → t v σ H Q
def SGs (G : GD) (eg : List D → Env → R Unit) (t : TGs) : Prop := ∀ (X : Fr) (F : AS) (ρ : Env) (σ : L2.St) (H : Hp) (vs : List V) (ds : List D) (ρ' : Env) (Q : L2.St → Hp → Prop), SR G X F ρ σ H → DtA G (Hr H (Mm F ρ σ)) vs ds → eg ds ρ = .ok () ρ' →
  (∀ σ' H', PoS G X F ρ σ H ρ' σ' H' → Q σ' H') → t vs σ H Q
theorem not_io {ρ : Env} {i : Nat} (h : ∀ x, getS ρ i ≠ .io x) : ∀ x, ρ[i]? ≠ some (.io x) := fun x e => h x (getS_of e)
section
variable {G : GD}
theorem sg_name {i : Nat} : SGt G (fun d k ρ => putName ρ i d k) (gName i) := by
  intro X F F' ρ σ H v d k ρ' Q S r h q
  unfold putName at h
  have key : (∀ x, getS ρ i ≠ .io x) → (if i < ρ.length then (match k with | .fr => R.ok () (ρ.set i (.own d)) | .frz => .ok () (ρ.set i (.val d)) | .pk _ => .no) else .no) = .ok () ρ' → Q (σ.set i (some v)) H := fun n h => by
    split at h
    · rename_i hi
      cases r with
      | frz e r =>
        subst e
        cases h
        have p := put_frz S hi (not_io n) r
        exact q _ _ p.sr p.le p.keep
      | fr e n1 n2 n3 c =>
        cases h
        have p := put_fr (F := F) S (fun a => by rw [e]; exact Iff.rfl) n1 hi (not_io n) n2 c
        exact q _ _ p.1 p.2 fun _ _ => rfl
      | pk e e1 r => cases h
    · cases h
  show Q (σ.set i (some v)) H
  dsimp only at h
  cases e : getS ρ i with
  | io x => rw [e] at h; cases h
  | un => rw [e] at h; exact key (fun x z => by rw [e] at z; cases z) h
  | val y => rw [e] at h; exact key (fun x z => by rw [e] at z; cases z) h
  | own y => rw [e] at h; exact key (fun x z => by rw [e] at z; cases z) h
theorem sg_nil : SGs G (fun ds ρ => match ds with | [] => .ok () ρ | _ => .no) gNil := by
  intro X F ρ σ H vs ds ρ' Q S r h q
  cases r with
  | nil => cases h; exact ⟨rfl, q _ _ (PoS.refl S)⟩
  | cons _ _ => cases h
theorem sg_cons {et : D → Kd → Env → R Unit} {er : List D → Env → R Unit} {t : TG} {u : TGs} (h1 : SGt G et t) (h2 : SGs G er u) :
    SGs G (fun ds ρ => match ds with | d :: ds => (et d .frz ρ).bind fun _ ρ => er ds ρ | [] => .no) (gCons t u) := by
  intro X F ρ σ H vs ds ρ' Q S r h q
  cases r with
  | nil => cases h
  | @cons v d vs ds r1 r2 =>
    obtain ⟨a, ρ1, h3, h⟩ := bind_ok h
    refine ⟨v, vs, rfl, ?_⟩
    refine h1 X F F ρ σ H v d .frz ρ1 _ S (.frz rfl r1) h3 fun σ1 H1 S1 le1 k1 => ?_
    refine h2 X F ρ1 σ1 H1 vs ds ρ' _ S1 (r2.le le1) h fun σ2 H2 p => ?_
    exact q _ _ (PoS.trans ⟨S1, le1, k1⟩ p)
theorem sg_tup {er : List D → Env → R Unit} {n : Nat} {u : TGs} (hn : ∀ ds ρ ρ', er ds ρ = .ok () ρ' → ds.length = n) (h2 : SGs G er u) :
    SGt G (fun d _ ρ => match d with | .tup xs => er xs ρ | _ => .no) (gTup G.K n u) := by
  intro X F F' ρ σ H v d k ρ' Q S r h q
  cases d with
  | tup ds =>
    cases r with
    | frz e r =>
      subst e
      cases r with
      | tup s r =>
        refine ⟨_, _, rfl, sqt_le hr_sub s, r.length.trans (hn _ _ _ h), ?_⟩
        exact h2 X _ ρ σ H _ ds ρ' Q S r h fun σ' H' p => q _ _ p.sr p.le p.keep
    | fr e n1 n2 n3 c => exact c.elim
    | pk e e1 r =>
      subst e
      rcases r with r | r
      · obtain ⟨p, _, c⟩ := S.slot _ _ r; exact c.elim
      · obtain ⟨p, _, c⟩ := S.slot _ _ r; exact c.elim
  | _ => cases h
/-- x[i] = a value -/
theorem sg_idx {j : Nat} {ei : Env → R (D × Kd)} {ti : TE} (hi : SE G ei ti) :
    SGt G (fun d k ρ => match k with | .pk _ => .no | _ => if ownS (getS ρ j) = true then (ei ρ).bind fun y ρ => storeIx ρ j y.1 d else .no) (gSub (tVar j) ti rSetL) := by
  intro X F F' ρ σ H v d k ρ' Q S r h q
  -- the value is let go
  obtain ⟨S0, r0, le0, h⟩ : SR G X F ρ σ H ∧ Dt G (Hr H (Mm F ρ σ)) v d ∧ (∀ a o, Hr H (Mm F' ρ σ) a = some o → Hr H (Mm F ρ σ) a = some o) ∧ (if ownS (getS ρ j) = true then (ei ρ).bind fun y ρ => storeIx ρ j y.1 d else .no) = .ok () ρ' := by
    cases r with
    | frz e r => subst e; exact ⟨S, r, fun _ _ e => e, h⟩
    | @fr p d e n1 n2 n3 c =>
      subst e
      refine ⟨S.drop fun _ h => .inr h, c.dt (fun a z => z.imp .inr id) fun z => ?_, hr_mono (fun _ _ _ e => e) fun a z => .inl (z.imp .inr id), h⟩
      rcases z with z | ⟨i, z⟩
      · exact n1 z
      · exact S.dis i p z (.inl rfl)
    | pk e e1 r => cases h
  split at h
  · rename_i ho
    obtain ⟨p, e1⟩ : ∃ p, σ[j]? = some (some (.ref p)) := by
      cases e : getS ρ j with
      | own x => obtain ⟨p, q1, _⟩ := S.slot j _ (getS_eq e (by simp)); exact ⟨p, q1⟩
      | io x => obtain ⟨p, q1, _⟩ := S.slot j _ (getS_eq e (by simp)); exact ⟨p, q1⟩
      | _ => rw [e] at ho; cases ho
    obtain ⟨⟨d2, k2⟩, ρ1, h1, h⟩ := bind_ok h
    refine ⟨.ref p, e1, ?_⟩
    refine hi X F ρ σ H _ _ k2 ρ1 S0 h1 fun v2 H2 F2 p2 r2 => ?_
    have P := p2.drop (fun _ h => h) (sub_of p2)
    have fin : ∀ (xs : List D) (i : Int) (n : Nat) (s0 s1 : Slot), d2 = .int i → Mp.ixN xs.length i = some n → ρ1[j]? = some s0 → s0 = .own (.lst xs) ∧ s1 = .own (.lst (xs.set n d)) ∨ s0 = .io (.lst xs) ∧ s1 = .io (.lst (xs.set n d)) → ρ' = ρ1.set j s1 → rSetL (.ref p) v2 v H2 (fun H3 => Q σ H3) := fun xs i n s0 s1 e2 e3 e4 e5 e6 => by
      subst e2 e6
      have hc : OwnC G (Mm F ρ1 σ) H2 p (.lst xs) := by
        rcases e5 with ⟨rfl, _⟩ | ⟨rfl, _⟩
        · obtain ⟨p', q1, c⟩ := P.sr.slot j _ e4
          rw [e1] at q1; cases q1; exact c
        · obtain ⟨p', q1, c⟩ := P.sr.slot j _ e4
          rw [e1] at q1; cases q1; exact c
      obtain ⟨vs, hv, rv⟩ := hc
      have w := put_own (s0 := s0) (s1 := s1) P.sr e4 (e5.imp (fun z => ⟨⟨_, z.1⟩, z.2⟩) fun z => ⟨⟨_, z.1⟩, z.2⟩) e1 (rv.set (r0.le P.le) n)
      exact ⟨p, vs, i, n, rfl, r2.int p2.sr, hv, by rw [rv.length]; exact e3, q _ _ w.sr (fun a o e => w.le a o (P.le a o (le0 a o e))) fun x z => (w.keep x z).trans (P.keep x z).2⟩
    unfold storeIx at h
    dsimp only at h
    cases e : getS ρ1 j with
    | own x =>
      rw [e] at h
      cases x with
      | lst xs =>
        cases d2 with
        | int i =>
          dsimp only at h
          cases e3 : Mp.ixN xs.length i with
          | none => rw [e3] at h; cases h
          | some n =>
            rw [e3] at h
            exact fin xs i n _ _ rfl e3 (getS_eq e (by simp)) (.inl ⟨rfl, rfl⟩) (by cases h; rfl)
        | _ => cases h
      | _ => cases h
    | io x =>
      rw [e] at h
      cases x with
      | lst xs =>
        cases d2 with
        | int i =>
          dsimp only at h
          cases e3 : Mp.ixN xs.length i with
          | none => rw [e3] at h; cases h
          | some n =>
            rw [e3] at h
            exact fin xs i n _ _ rfl e3 (getS_eq e (by simp)) (.inr ⟨rfl, rfl⟩) (by cases h; rfl)
        | _ => cases h
      | _ => cases h
    | _ => rw [e] at h; cases h
  · cases h
end

/-! ### statements -/
/-- a returned value -/
structure RtR (G : GD) (X : Fr) (F : AS) (ρ' : Env) (σ' : L2.St) (H' : Hp) (v : V) (d : D) (b : Bool) : Prop where
  ex : (b = false ∧ SR G X F ρ' σ' H' ∧ Dt G (Hr H' (Mm F ρ' σ')) v d) ∨
    (b = true ∧ ∃ p, v = .ref p ∧ SR G X (addF F p) ρ' σ' H' ∧ ¬ F p ∧ X.H0 p = none ∧ ¬ X.IO p ∧ OwnC G (Mm (addF F p) ρ' σ') H' p d)
def SSt (G : GD) (ev : Env → Fl) (t : TS) : Prop := ∀ (X : Fr) (F : AS) (ρ : Env) (σ : L2.St) (H : Hp) (D : Ends) (fl : Fl), SR G X F ρ σ H → ev ρ = fl → fl ≠ .no →
  (∀ ρ', fl = .nx ρ' → ∀ σ' H', PoS G X F ρ σ H ρ' σ' H' → D.nx σ' H') →
  (∀ d b ρ', fl = .rt d b ρ' → ∀ v σ' H', RtR G X F ρ' σ' H' v d b → D.rt v H') → t D σ H
theorem fl_ok {α : Type} {r : R α} {f : α → Env → Fl} {fl : Fl} (h : r.fl f = fl) (n : fl ≠ .no) : ∃ a ρ1, r = .ok a ρ1 ∧ f a ρ1 = fl := by
  cases r with
  | ok a ρ1 => exact ⟨a, ρ1, rfl, h⟩
  | no => exact absurd h.symm n
section
variable {G : GD}
theorem ss_skip : SSt G (fun ρ => .nx ρ) tNext := by
  intro X F ρ σ H D fl S h n q1 q2
  exact q1 ρ h.symm σ H (PoS.refl S)
theorem ss_seq {ea eb : Env → Fl} {t u : TS} (ha : SSt G ea t) (hb : SSt G eb u) : SSt G (fun ρ => (ea ρ).bind fun ρ => eb ρ) (tSeq t u) := by
  intro X F ρ σ H D fl S h n q1 q2
  cases e : ea ρ with
  | no => exact absurd (show Fl.no = fl by rw [← h]; show _ = (ea ρ).bind _; rw [e]; rfl) (Ne.symm n)
  | nx ρ1 =>
    have h' : eb ρ1 = fl := by rw [← h]; show _ = (ea ρ).bind _; rw [e]; rfl
    refine ha X F ρ σ H _ _ S e (by simp) (fun ρ' e1 σ1 H1 p1 => ?_) (fun d b ρ' e1 => by cases e1)
    cases e1
    exact hb X F ρ1 σ1 H1 D fl p1.sr h' n (fun ρ' e σ' H' p => q1 ρ' e σ' H' (p1.trans p)) q2
  | rt d b ρ1 =>
    have h' : Fl.rt d b ρ1 = fl := by rw [← h]; show _ = (ea ρ).bind _; rw [e]; rfl
    refine ha X F ρ σ H _ _ S e (by simp) (fun ρ' e1 => by cases e1) (fun d' b' ρ' e1 v σ' H' r => ?_)
    exact q2 d' b' ρ' (h'.symm.trans e1) v σ' H' r
theorem keep_ok {X : Fr} {F F1 : AS} {ρ ρ1 ρ2 : Env} {σ : L2.St} {H H1 : Hp} {v : V} {d d' : D} {k k' : Kd} (p : Po G X σ F ρ H F1 ρ1 H1) (r : VR G X σ F F1 ρ1 H1 v d k) (h : keep ρ1 d k = .ok (d', k') ρ2) :
    ∃ F2, Po G X σ F ρ H F2 ρ2 H1 ∧ VR G X σ F F2 ρ2 H1 v d' k' := by
  cases k with
  | frz => cases h; exact ⟨F1, p, r⟩
  | fr => cases h; exact ⟨F1, p, r⟩
  | pk i =>
    obtain ⟨x, ρ3, h1, h⟩ := bind_ok (show (settle ρ1 d (.pk i)).bind (fun d ρ => R.ok (d, Kd.frz) ρ) = .ok (d', k') ρ2 from h)
    cases h
    obtain ⟨p2, r2⟩ := settle_ok p r h1
    exact ⟨F, p2, .frz rfl r2⟩
theorem ss_asg {ee : Env → R (D × Kd)} {eg : D → Kd → Env → R Unit} {te : TE} {g : TG} (he : SE G ee te) (hg : SGt G eg g) :
    SSt G (fun ρ => (ee ρ).fl fun x ρ => (keep ρ x.1 x.2).fl fun x ρ => (eg x.1 x.2 ρ).fl fun _ ρ => .nx ρ) (tAsg te g) := by
  intro X F ρ σ H D fl S h n q1 q2
  obtain ⟨⟨d1, k1⟩, ρ1, h1, h⟩ := fl_ok h n
  obtain ⟨⟨d2, k2⟩, ρ2, h2, h⟩ := fl_ok h n
  obtain ⟨a, ρ3, h3, h⟩ := fl_ok h n
  refine he X F ρ σ H _ d1 k1 ρ1 S h1 fun v1 H1 F1 p1 r1 => ?_
  obtain ⟨F2, p2, r2⟩ := keep_ok p1 r1 h2
  refine hg X F F2 ρ2 σ H1 v1 d2 k2 ρ3 _ p2.sr r2 h3 fun σ' H' S' le' k' => ?_
  exact q1 ρ3 h.symm σ' H' ⟨S', fun a o e => le' a o (p2.le a o e), fun x z => (k' x z).trans (p2.keep x z).2⟩
theorem ss_ex {ee : Env → R (D × Kd)} {te : TE} (he : SE G ee te) : SSt G (fun ρ => (ee ρ).fl fun _ ρ => .nx ρ) (tDrop te) := by
  intro X F ρ σ H D fl S h n q1 q2
  obtain ⟨⟨d1, k1⟩, ρ1, h1, h⟩ := fl_ok h n
  exact he X F ρ σ H _ d1 k1 ρ1 S h1 fun v1 H1 F1 p1 r1 => q1 ρ1 h.symm σ H1 (p1.drop (fun _ h => h) (sub_of p1)).s
theorem ss_ret {ee : Env → R (D × Kd)} {te : TE} (he : SE G ee te) : SSt G (fun ρ => (ee ρ).fl fun x ρ => (match x.2 with
    | .frz => .rt x.1 false ρ
    | .fr => .rt x.1 true ρ
    | .pk i => (match getS ρ i with | .own d => .rt d true (ρ.set i .un) | _ => .no))) (tRet te) := by
  intro X F ρ σ H D fl S h n q1 q2
  obtain ⟨⟨d1, k1⟩, ρ1, h1, h⟩ := fl_ok h n
  refine he X F ρ σ H _ d1 k1 ρ1 S h1 fun v1 H1 F1 p1 r1 => ?_
  cases r1 with
  | frz e r =>
    subst e
    exact q2 _ _ _ h.symm _ σ H1 ⟨.inl ⟨rfl, p1.sr, r⟩⟩
  | @fr p d e n1 n2 n3 c =>
    subst e
    exact q2 _ _ _ h.symm _ σ H1 ⟨.inr ⟨rfl, p, rfl, p1.sr, n1, n2, n3, c⟩⟩
  | @pk v d i e e1 r =>
    subst e
    dsimp only at h
    cases e : getS ρ1 i with
    | own x =>
      rw [e] at h
      have g := getS_eq e (by simp)
      have hi : i < ρ1.length := (List.getElem?_eq_some_iff.mp g).1
      obtain ⟨p, e2, c⟩ := p1.sr.slot i _ g
      rw [e1] at e2; cases e2
      have S1 := p1.sr
      have op : OwnAt ρ1 σ i p := ⟨⟨x, .inl g⟩, e1⟩
      have own : ∀ j q, OwnAt (ρ1.set i .un) σ j q → OwnAt ρ1 σ j q ∧ j ≠ i := fun j q ⟨⟨y, z⟩, w⟩ => by
        by_cases hj : j = i
        · subst hj
          rw [List.getElem?_set_self hi] at z
          rcases z with z | z <;> cases z
        · rw [List.getElem?_set_ne (Ne.symm hj)] at z
          exact ⟨⟨⟨y, z⟩, w⟩, hj⟩
      have mm : ∀ a, Mm (addF F1 p) (ρ1.set i .un) σ a → Mm F1 ρ1 σ a := fun a z => by
        rcases z with (z | z) | ⟨j, z⟩
        · rw [z]; exact .inr ⟨i, op⟩
        · exact .inl z
        · exact .inr ⟨j, (own j a z).1⟩
      have le : ∀ a o, Hr H1 (Mm F1 ρ1 σ) a = some o → Hr H1 (Mm (addF F1 p) (ρ1.set i .un) σ) a = some o := hr_mono (fun _ _ _ e => e) fun a z => .inl (mm a z)
      have nF : ¬ F1 p := S1.dis i p op
      have nio : ¬ X.IO p := fun ⟨k, z⟩ => by
        obtain ⟨⟨y, w⟩, w2⟩ := S1.ios k p z
        have := S1.inj k i p ⟨⟨y, .inr w⟩, w2⟩ op
        rw [this, g] at w; cases w
      refine q2 _ _ _ h.symm _ σ H1 ⟨.inr ⟨rfl, p, rfl, ⟨by rw [List.length_set]; exact S1.len, fun j k q a b => S1.inj j k q (own j q a).1 (own k q b).1, fun j q a z => ?_, fun j s z => ?_, S1.frame, fun j q a => S1.ownf j q (own j q a).1, fun q z => ?_, fun j q z => ?_⟩, nF, ?_, nio, c.le le rfl⟩⟩
      · rcases z with z | z
        · exact (own j q a).2 (S1.inj j i q (own j q a).1 (z ▸ op))
        · exact S1.dis j q (own j q a).1 z
      · by_cases hj : j = i
        · subst hj
          rw [List.getElem?_set_self hi] at z
          cases z
          trivial
        · rw [List.getElem?_set_ne (Ne.symm hj)] at z
          have q := S1.slot j s z
          cases s with
          | un => trivial
          | val d => obtain ⟨v, e, q⟩ := q; exact ⟨v, e, q.le le⟩
          | own d => obtain ⟨v, e, q⟩ := q; exact ⟨v, e, q.le le rfl⟩
          | io d => obtain ⟨v, e, q⟩ := q; exact ⟨v, e, q.le le rfl⟩
      · rcases z with z | z
        · rw [z]; exact c.some
        · exact S1.fdom q z
      · obtain ⟨⟨y, h1⟩, h2⟩ := S1.ios j q z
        have hj : j ≠ i := fun e => by rw [e, g] at h1; cases h1
        exact ⟨⟨y, by rw [List.getElem?_set_ne (Ne.symm hj)]; exact h1⟩, h2⟩
      · rcases S1.ownf i p op with z | z
        · exact absurd z nio
        · exact z
    | _ => rw [e] at h; exact absurd h.symm n
theorem ss_retn : SSt G (fun ρ => .rt .non false ρ) tRetN := by
  intro X F ρ σ H D fl S h n q1 q2
  exact q2 _ _ _ h.symm _ σ H ⟨.inl ⟨rfl, S, .non⟩⟩
theorem ss_ite {ec : Env → R Bool} {ea eb : Env → Fl} {tc : TT} {t u : TS} (hc : STt G ec tc) (ha : SSt G ea t) (hb : SSt G eb u) : SSt G (fun ρ => (ec ρ).fl fun k ρ => if k = true then ea ρ else eb ρ) (tIfS tc t u) := by
  intro X F ρ σ H D fl S h n q1 q2
  obtain ⟨k, ρ1, h1, h⟩ := fl_ok h n
  refine hc X F ρ σ H _ k ρ1 S h1 fun H1 p1 => ?_
  cases k with
  | true => exact ha X F ρ1 σ H1 D fl p1.sr h n (fun ρ' e σ' H' p => q1 ρ' e σ' H' (p1.s.trans p)) q2
  | false => exact hb X F ρ1 σ H1 D fl p1.sr h n (fun ρ' e σ' H' p => q1 ρ' e σ' H' (p1.s.trans p)) q2
theorem ss_never : SSt G (fun _ => .no) tNever := by
  intro X F ρ σ H D fl S h n q1 q2
  exact absurd h.symm n
end
end Mp

set_option maxRecDepth 100000
set_option maxHeartbeats 4000000
/-! Mp11: loops, append, comprehensions, sound. -/
namespace Mp
open PySem PySem.Spec PyProof.Rows L2
theorem drop_get {α : Type} {xs : List α} {i : Nat} {d : α} (h : xs[i]? = some d) : xs.drop i = d :: xs.drop (i + 1) := by
  obtain ⟨hi, e⟩ := List.getElem?_eq_some_iff.mp h
  rw [List.drop_eq_getElem_cons hi, e]
section
variable {G : GD}
/-- the next item, read -/
theorem yld_ok {X : Fr} {F : AS} {ρ : Env} {σ : L2.St} {H H' L : Hp} {J : It} {ds : List D} {i : Nat} {d : D} {x : V} (S : SR G X F ρ σ H) (it : ItOk G L J ds) (k : ∀ a o, L a = some o → Hr H (Mm F ρ σ) a = some o) (e : ds[i]? = some d) (y : J.yld i H x H') :
    Po G X σ F ρ H F ρ H' ∧ Dt G (Hr H' (Mm F ρ σ)) x d := by
  rcases it.yld H _ i d x H' k e y with ⟨rfl, r⟩ | ⟨T, vs, es, hn, rfl, rfl, rfl, r⟩
  · exact ⟨Po.refl S, r⟩
  · have p := Po.laid (o := .tup vs) S hn
    refine ⟨p, .tup (.inl (.inl (hr_some.mpr ⟨fun z => S.mdom T z hn, upd_same⟩))) (r.le p.le)⟩
theorem ss_for {ei : Env → R (List D)} {eg : D → Kd → Env → R Unit} {eb : Env → Fl} {wi : TI} {g : TG} {tb : TS} (hi : SI G ei wi) (hg : SGt G eg g) (hb : SSt G eb tb) :
    SSt G (fun ρ => (ei ρ).fl fun xs ρ => forLoop (fun d => eg d .frz) eb xs ρ) (tFor wi g tb) := by
  intro X F ρ σ H D fl S h n q1 q2
  obtain ⟨ds, ρ1, h1, h⟩ := fl_ok h n
  refine hi X F ρ σ H _ ds ρ1 S h1 fun J H1 p1 it => ?_
  refine ⟨fun i m σ' H' => m = ds.length - i ∧ i ≤ ds.length ∧ ∃ ρi, forLoop (fun d => eg d .frz) eb (ds.drop i) ρi = fl ∧ PoS G X F ρ1 σ H1 ρi σ' H', ⟨_, rfl, Nat.zero_le _, ρ1, h, PoS.refl p1.sr⟩, ?_⟩
  rintro i m σ' H' ⟨rfl, hle, ρi, hl, p⟩
  cases e : ds[i]? with
  | none =>
    have hi : i = ds.length := Nat.le_antisymm hle (List.getElem?_eq_none_iff.mp e)
    subst hi
    rw [List.drop_length] at hl
    exact .inl ⟨it.stop H' _ p.le, q1 ρi hl.symm σ' H' (p1.s.trans p)⟩
  | some d =>
    have hi : i < ds.length := (List.getElem?_eq_some_iff.mp e).1
    rw [drop_get e] at hl
    refine .inr ⟨it.go H' _ i d p.le e, fun σ2 H2 => ∃ m', m' < ds.length - i ∧ (m' = ds.length - (i + 1) ∧ i + 1 ≤ ds.length ∧ ∃ ρi, forLoop (fun d => eg d .frz) eb (ds.drop (i + 1)) ρi = fl ∧ PoS G X F ρ1 σ H1 ρi σ2 H2), fun σ2 H2 z => z, fun x H2 y => ?_⟩
    obtain ⟨p2, r2⟩ := yld_ok p.sr it p.le e y
    obtain ⟨a, ρ2, h2, h3⟩ := fl_ok (show (eg d .frz ρi).fl (fun _ ρ => (eb ρ).bind fun ρ => forLoop (fun d => eg d .frz) eb (ds.drop (i + 1)) ρ) = fl from hl) n
    refine hg X F F ρi σ' H2 x d .frz ρ2 _ p2.sr (.frz rfl r2) h2 fun σ3 H3 S3 le3 k3 => ?_
    have p3 : PoS G X F ρ1 σ H1 ρ2 σ3 H3 := (p.trans p2.s).trans ⟨S3, le3, k3⟩
    cases e4 : eb ρ2 with
    | no => exact absurd (show Fl.no = fl by rw [← h3, e4]; rfl) (Ne.symm n)
    | nx ρ3 =>
      have h5 : forLoop (fun d => eg d .frz) eb (ds.drop (i + 1)) ρ3 = fl := by rw [← h3, e4]; rfl
      refine hb X F ρ2 σ3 H3 _ _ S3 e4 (by simp) (fun ρ' e5 σ4 H4 p4 => ?_) (fun d b ρ' e5 => by cases e5)
      cases e5
      exact ⟨_, by omega, rfl, hi, ρ3, h5, p3.trans p4⟩
    | rt d2 b2 ρ3 =>
      have h5 : Fl.rt d2 b2 ρ3 = fl := by rw [← h3, e4]; rfl
      refine hb X F ρ2 σ3 H3 _ _ S3 e4 (by simp) (fun ρ' e5 => by cases e5) (fun d b ρ' e5 v σ4 H4 r => ?_)
      exact q2 d b ρ' (h5.symm.trans e5) v σ4 H4 r
theorem ss_whl {ec : Env → R Bool} {eb : Env → Fl} {c : TT} {tb : TS} (k : Nat) (hc : STt G ec c) (hb : SSt G eb tb) :
    SSt G (fun ρ => whlLoop ec eb k ρ) (tWhile c tb) := by
  intro X F ρ σ H D fl S h n q1 q2
  refine ⟨fun m σ' H' => ∃ ρi, whlLoop ec eb m ρi = fl ∧ PoS G X F ρ σ H ρi σ' H', ⟨k, ρ, h, PoS.refl S⟩, ?_⟩
  rintro m σ' H' ⟨ρi, hl, p⟩
  cases m with
  | zero => exact absurd hl.symm n
  | succ m =>
    obtain ⟨b, ρ1, h1, h⟩ := fl_ok (show (ec ρi).fl (fun k ρ => if k = true then (eb ρ).bind fun ρ => whlLoop ec eb m ρ else .nx ρ) = fl from hl) n
    refine hc X F ρi σ' H' _ b ρ1 p.sr h1 fun H1 p1 => ?_
    have p2 := p.trans p1.s
    cases b with
    | false => exact q1 ρ1 h.symm σ' H1 p2
    | true =>
      refine ⟨fun σ2 H2 => ∃ ρi, whlLoop ec eb m ρi = fl ∧ PoS G X F ρ σ H ρi σ2 H2, fun σ2 H2 z => ⟨m, Nat.lt_succ_self _, z⟩, ?_⟩
      have h3 : (eb ρ1).bind (fun ρ => whlLoop ec eb m ρ) = fl := h
      cases e4 : eb ρ1 with
      | no => exact absurd (show Fl.no = fl by rw [← h3, e4]; rfl) (Ne.symm n)
      | nx ρ3 =>
        have h5 : whlLoop ec eb m ρ3 = fl := by rw [← h3, e4]; rfl
        refine hb X F ρ1 σ' H1 _ _ p1.sr e4 (by simp) (fun ρ' e5 σ4 H4 p4 => ?_) (fun d b ρ' e5 => by cases e5)
        cases e5
        exact ⟨ρ3, h5, p2.trans p4⟩
      | rt d2 b2 ρ3 =>
        have h5 : Fl.rt d2 b2 ρ3 = fl := by rw [← h3, e4]; rfl
        refine hb X F ρ1 σ' H1 _ _ p1.sr e4 (by simp) (fun ρ' e5 => by cases e5) (fun d b ρ' e5 v σ4 H4 r => ?_)
        exact q2 d b ρ' (h5.symm.trans e5) v σ4 H4 r
/-- what append, extend leave in the environment -/
theorem appD_ok {ρ ρ' : Env} {i : Nat} {ds : List D} (h : appD ρ i ds = some ρ') : ∃ s0 s1 xs, ρ[i]? = some s0 ∧ (s0 = .own (.lst xs) ∧ s1 = .own (.lst (xs ++ ds)) ∨ s0 = .io (.lst xs) ∧ s1 = .io (.lst (xs ++ ds))) ∧ xs.length + ds.length ≤ sizeLine ∧ ρ' = ρ.set i s1 := by
  unfold appD at h
  cases e : getS ρ i with
  | own x =>
    rw [e] at h
    cases x with
    | lst xs =>
      dsimp only at h
      split at h
      · rename_i c
        cases h
        exact ⟨_, _, xs, getS_eq e (by simp), .inl ⟨rfl, rfl⟩, c, rfl⟩
      · cases h
    | _ => cases h
  | io x =>
    rw [e] at h
    cases x with
    | lst xs =>
      dsimp only at h
      split at h
      · rename_i c
        cases h
        exact ⟨_, _, xs, getS_eq e (by simp), .inr ⟨rfl, rfl⟩, c, rfl⟩
      · cases h
    | _ => cases h
  | _ => rw [e] at h; cases h
theorem own_at {X : Fr} {F : AS} {ρ : Env} {σ : L2.St} {H : Hp} {i : Nat} (S : SR G X F ρ σ H) (h : ownL (getS ρ i) = true) : ∃ p vs, σ[i]? = some (some (.ref p)) ∧ OwnAt ρ σ i p ∧ H p = some (.lst vs) := by
  cases e : getS ρ i with
  | own d =>
    have g := getS_eq e (by simp)
    obtain ⟨p, e1, c⟩ := S.slot i _ g
    rw [e] at h
    cases d with
    | lst ds => obtain ⟨vs, q, r⟩ := c; exact ⟨p, vs, e1, ⟨⟨_, .inl g⟩, e1⟩, q⟩
    | _ => cases h
  | io d =>
    have g := getS_eq e (by simp)
    obtain ⟨p, e1, c⟩ := S.slot i _ g
    rw [e] at h
    cases d with
    | lst ds => obtain ⟨vs, q, r⟩ := c; exact ⟨p, vs, e1, ⟨⟨_, .inr g⟩, e1⟩, q⟩
    | _ => cases h
  | _ => rw [e] at h; cases h
theorem ss_app {i : Nat} {ee : Env → R (D × Kd)} {te : TE} (he : SE G ee te) :
    SSt G (fun ρ => if ownL (getS ρ i) = true then (ee ρ).fl fun x ρ => (settle ρ x.1 x.2).fl fun d ρ => (match appD ρ i [d] with | some ρ => .nx ρ | none => .no) else .no) (tDrop (tBM G.K "list" rAppend (tVar i) (tCons te tNil))) := by
  intro X F ρ σ H D fl S h n q1 q2
  dsimp only at h
  split at h
  · rename_i ho
    obtain ⟨p, vs0, e1, op, hp0⟩ := own_at S ho
    obtain ⟨⟨d1, k1⟩, ρ1, h1, h⟩ := fl_ok h n
    obtain ⟨d2, ρ2, h2, h⟩ := fl_ok h n
    cases h3 : appD ρ2 i [d2] with
    | none => rw [h3] at h; exact absurd h.symm n
    | some ρ3 =>
      rw [h3] at h
      obtain ⟨s0, s1, xs, e4, e5, hz, rfl⟩ := appD_ok h3
      refine ⟨_, e1, .inl ⟨rfl, vs0, .inl (.inl hp0)⟩, ?_⟩
      refine he X F ρ σ H _ d1 k1 ρ1 S h1 fun v1 H1 F1 p1 r1 => ?_
      obtain ⟨p2, r2⟩ := settle_ok p1 r1 h2
      have hc : OwnC G (Mm F ρ2 σ) H1 p (.lst xs) := by
        rcases e5 with ⟨rfl, _⟩ | ⟨rfl, _⟩
        · obtain ⟨p', q1, c⟩ := p2.sr.slot i _ e4
          rw [e1] at q1; cases q1; exact c
        · obtain ⟨p', q1, c⟩ := p2.sr.slot i _ e4
          rw [e1] at q1; cases q1; exact c
      obtain ⟨vs, hv, rv⟩ := hc
      have w := put_own (s0 := s0) (s1 := s1) p2.sr e4 (e5.imp (fun z => ⟨⟨_, z.1⟩, z.2⟩) fun z => ⟨⟨_, z.1⟩, z.2⟩) e1 (rv.append (.cons r2 .nil))
      have hl : vs.length < sizeLine := by
        rw [rv.length]
        have : xs.length + 1 ≤ sizeLine := hz
        omega
      exact ⟨p, vs, v1, rfl, rfl, hv, hl, q1 _ h.symm σ _ (p2.s.trans w)⟩
  · exact absurd h.symm n
end

/-! ### list comprehensions -/
theorem wipe_len : ∀ (vs : List Nat) (ρ : Env), (wipe ρ vs).length = ρ.length
  | [], _ => rfl
  | v :: vs, ρ => by show ((wipe ρ vs).set v .un).length = _; rw [List.length_set, wipe_len vs]
theorem wipe_out {j : Nat} : ∀ {vs : List Nat} {ρ : Env}, j ∉ vs → (wipe ρ vs)[j]? = ρ[j]?
  | [], _, _ => rfl
  | v :: vs, ρ, h => by
    have h' : j ≠ v ∧ j ∉ vs := by simpa using h
    show ((wipe ρ vs).set v .un)[j]? = _
    rw [List.getElem?_set_ne (Ne.symm h'.1), wipe_out h'.2]
theorem wipe_in {j : Nat} : ∀ {vs : List Nat} {ρ : Env} {s : Slot}, j ∈ vs → (wipe ρ vs)[j]? = some s → s = .un
  | [], _, _, h, _ => by cases h
  | v :: vs, ρ, s, h, e => by
    have e' : ((wipe ρ vs).set v .un)[j]? = some s := e
    by_cases hj : v = j
    · subst hj
      rw [List.getElem?_set] at e'
      simp only [if_true] at e'
      split at e' <;> cases e'
      rfl
    · rw [List.getElem?_set_ne hj] at e'
      refine wipe_in (vs := vs) ?_ e'
      rcases List.mem_cons.mp h with h | h
      · exact absurd h.symm hj
      · exact h
theorem unw_len (ρ0 : Env) : ∀ (vs : List Nat) (ρ : Env), (unwipe ρ0 ρ vs).length = ρ.length
  | [], _ => rfl
  | v :: vs, ρ => by show ((unwipe ρ0 ρ vs).set v _).length = _; rw [List.length_set, unw_len ρ0 vs]
theorem unw_out {ρ0 : Env} {j : Nat} : ∀ {vs : List Nat} {ρ : Env}, j ∉ vs → (unwipe ρ0 ρ vs)[j]? = ρ[j]?
  | [], _, _ => rfl
  | v :: vs, ρ, h => by
    have h' : j ≠ v ∧ j ∉ vs := by simpa using h
    show ((unwipe ρ0 ρ vs).set v _)[j]? = _
    rw [List.getElem?_set_ne (Ne.symm h'.1), unw_out h'.2]
theorem unw_in {ρ0 : Env} {j : Nat} : ∀ {vs : List Nat} {ρ : Env} {s : Slot}, j ∈ vs → (unwipe ρ0 ρ vs)[j]? = some s → s = getS ρ0 j
  | [], _, _, h, _ => by cases h
  | v :: vs, ρ, s, h, e => by
    have e' : ((unwipe ρ0 ρ vs).set v (getS ρ0 v))[j]? = some s := e
    by_cases hj : v = j
    · subst hj
      rw [List.getElem?_set] at e'
      simp only [if_true] at e'
      split at e' <;> cases e'
      rfl
    · rw [List.getElem?_set_ne hj] at e'
      refine unw_in (vs := vs) ?_ e'
      rcases List.mem_cons.mp h with h | h
      · exact absurd h.symm hj
      · exact h
theorem unw_self (ρ0 : Env) : ∀ (vs : List Nat), unwipe ρ0 ρ0 vs = ρ0
  | [] => rfl
  | v :: vs => by
    show (unwipe ρ0 ρ0 vs).set v (getS ρ0 v) = ρ0
    rw [unw_self ρ0 vs]
    apply List.ext_getElem?
    intro j
    by_cases hj : v = j
    · subst hj
      rw [List.getElem?_set]
      simp only [if_true]
      cases e : ρ0[v]? with
      | none => rw [if_neg]; have := List.getElem?_eq_none_iff.mp e; omega
      | some s => rw [if_pos (List.getElem?_eq_some_iff.mp e).1, getS_of e]
    · rw [List.getElem?_set_ne hj]
theorem lw_out {σ : L2.St} {j : Nat} : ∀ {vs : List Nat}, j ∉ vs → (L2.wipe σ vs)[j]? = σ[j]?
  | [], _ => rfl
  | v :: vs, h => by
    have h' : j ≠ v ∧ j ∉ vs := by simpa using h
    show ((L2.wipe σ vs).set v none)[j]? = _
    rw [List.getElem?_set_ne (Ne.symm h'.1), lw_out h'.2]
theorem lw_eq {σ σ' : L2.St} {vs : List Nat} {j : Nat} (h : L2.wipe σ' vs = L2.wipe σ vs) (n : j ∉ vs) : σ'[j]? = σ[j]? := by
  rw [← lw_out (σ := σ') n, h, lw_out n]
/-- a comprehension's target: names among vs -/
def SGv (G : GD) (vs : List Nat) (eg : D → Env → R Unit) (t : TG) : Prop := ∀ (X : Fr) (F : AS) (ρ : Env) (σ : L2.St) (H : Hp) (v : V) (d : D) (ρ' : Env) (Q : L2.St → Hp → Prop), SR G X F ρ σ H → (∀ i ∈ vs, plainS (getS ρ i) = true) → Dt G (Hr H (Mm F ρ σ)) v d → eg d ρ = .ok () ρ' →
  (∀ σ', SR G X F ρ' σ' H → L2.wipe σ' vs = L2.wipe σ vs → (∀ j, j ∉ vs → ρ'[j]? = ρ[j]?) → (∀ j ∈ vs, plainS (getS ρ' j) = true) → ρ'.length = ρ.length → (∀ a o, Hr H (Mm F ρ σ) a = some o → Hr H (Mm F ρ' σ') a = some o) → Q σ' H) → t v σ H Q
def SGvs (G : GD) (vs : List Nat) (eg : List D → Env → R Unit) (t : TGs) : Prop := ∀ (X : Fr) (F : AS) (ρ : Env) (σ : L2.St) (H : Hp) (v : List V) (d : List D) (ρ' : Env) (Q : L2.St → Hp → Prop), SR G X F ρ σ H → (∀ i ∈ vs, plainS (getS ρ i) = true) → DtA G (Hr H (Mm F ρ σ)) v d → eg d ρ = .ok () ρ' →
  (∀ σ', SR G X F ρ' σ' H → L2.wipe σ' vs = L2.wipe σ vs → (∀ j, j ∉ vs → ρ'[j]? = ρ[j]?) → (∀ j ∈ vs, plainS (getS ρ' j) = true) → ρ'.length = ρ.length → (∀ a o, Hr H (Mm F ρ σ) a = some o → Hr H (Mm F ρ' σ') a = some o) → Q σ' H) → t v σ H Q
theorem lw_get (σ : L2.St) (j : Nat) : ∀ vs : List Nat, (L2.wipe σ vs)[j]? = if j ∈ vs then (if j < σ.length then some none else none) else σ[j]?
  | [] => by simp [L2.wipe]
  | v :: vs => by
    show ((L2.wipe σ vs).set v none)[j]? = _
    by_cases hj : v = j
    · subst hj
      rw [List.getElem?_set, L2.wipe_length]
      simp
    · rw [List.getElem?_set_ne hj, lw_get σ j vs]
      have : j ∈ v :: vs ↔ j ∈ vs := by simp [Ne.symm hj]
      simp only [this]
theorem lw_set {σ : L2.St} {vs : List Nat} {i : Nat} {x : Option V} (h : i ∈ vs) : L2.wipe (σ.set i x) vs = L2.wipe σ vs := by
  apply List.ext_getElem?
  intro j
  rw [lw_get, lw_get, List.length_set]
  by_cases hj : j ∈ vs
  · rw [if_pos hj, if_pos hj]
  · rw [if_neg hj, if_neg hj, List.getElem?_set_ne fun (e : i = j) => hj (e ▸ h)]
section
variable {G : GD}
theorem sgv_name {vs : List Nat} {i : Nat} (hv : i ∈ vs) : SGv G vs (fun d ρ => putName ρ i d .frz) (gName i) := by
  intro X F ρ σ H v d ρ' Q S pl r h q
  unfold putName at h
  have pi := pl i hv
  have n : ∀ x, getS ρ i ≠ .io x := fun x e => by rw [e] at pi; cases pi
  have h' : (if i < ρ.length then R.ok () (ρ.set i (.val d)) else .no) = .ok () ρ' := by
    dsimp only at h
    cases e : getS ρ i with
    | io x => exact absurd e (n x)
    | un => rw [e] at h; exact h
    | val y => rw [e] at h; exact h
    | own y => rw [e] at h; exact h
  split at h'
  · rename_i hi
    cases h'
    have p := put_frz S hi (not_io n) r
    refine q _ p.sr (lw_set hv) (fun j hj => List.getElem?_set_ne fun (e : i = j) => hj (e ▸ hv)) (fun j hj => ?_) (List.length_set ..) p.le
    by_cases e : i = j
    · subst e
      rw [getS_of (List.getElem?_set_self hi)]
      rfl
    · have : getS (ρ.set i (.val d)) j = getS ρ j := by unfold getS; rw [List.getElem?_set_ne e]
      rw [this]; exact pl j hj
  · cases h'
theorem sgv_nil {vs : List Nat} : SGvs G vs (fun ds ρ => match ds with | [] => .ok () ρ | _ => .no) gNil := by
  intro X F ρ σ H v ds ρ' Q S pl r h q
  cases r with
  | nil => cases h; exact ⟨rfl, q _ S rfl (fun _ _ => rfl) pl rfl fun _ _ e => e⟩
  | cons _ _ => cases h
theorem sgv_cons {vs : List Nat} {et : D → Env → R Unit} {er : List D → Env → R Unit} {t : TG} {u : TGs} (h1 : SGv G vs et t) (h2 : SGvs G vs er u) :
    SGvs G vs (fun ds ρ => match ds with | d :: ds => (et d ρ).bind fun _ ρ => er ds ρ | [] => .no) (gCons t u) := by
  intro X F ρ σ H v ds ρ' Q S pl r h q
  cases r with
  | nil => cases h
  | @cons v d w ds r1 r2 =>
    obtain ⟨a, ρ1, h3, h⟩ := bind_ok h
    refine ⟨v, w, rfl, ?_⟩
    refine h1 X F ρ σ H v d ρ1 _ S pl r1 h3 fun σ1 S1 w1 o1 pl1 l1 le1 => ?_
    refine h2 X F ρ1 σ1 H w ds ρ' _ S1 pl1 (r2.le le1) h fun σ2 S2 w2 o2 pl2 l2 le2 => ?_
    exact q _ S2 (w2.trans w1) (fun j hj => (o2 j hj).trans (o1 j hj)) pl2 (l2.trans l1) fun a o e => le2 a o (le1 a o e)
theorem sgv_tup {vs : List Nat} {er : List D → Env → R Unit} {n : Nat} {u : TGs} (hn : ∀ ds ρ ρ', er ds ρ = .ok () ρ' → ds.length = n) (h2 : SGvs G vs er u) :
    SGv G vs (fun d ρ => match d with | .tup xs => er xs ρ | _ => .no) (gTup G.K n u) := by
  intro X F ρ σ H v d ρ' Q S pl r h q
  cases r with
  | tup s r => exact ⟨_, _, rfl, sqt_le hr_sub s, r.length.trans (hn _ _ _ h), h2 X F ρ σ H _ _ ρ' Q S pl r h q⟩
  | _ => cases h
end
section
variable {G : GD} {X : Fr} {F : AS} {ρ0 ρ ρ' ρ2 : Env} {σ σ' : L2.St} {H H' : Hp} {vs : List Nat}
theorem getS_unw {j : Nat} (hl : ρ.length = ρ0.length) (h : j ∈ vs) : getS (unwipe ρ0 ρ vs) j = getS ρ0 j := by
  cases e : (unwipe ρ0 ρ vs)[j]? with
  | some s => rw [getS_of e, unw_in h e]
  | none =>
    have h1 := List.getElem?_eq_none_iff.mp e
    rw [unw_len, hl] at h1
    unfold getS
    rw [e, List.getElem?_eq_none_iff.mpr h1]
/-- the state ahead of a turn's target -/
theorem sr_wiped (pl : ∀ i ∈ vs, plainS (getS ρ0 i) = true) (S : SR G X F (unwipe ρ0 ρ vs) σ H) : SR G X F (wipe ρ vs) (L2.wipe σ vs) H ∧ Mm F (wipe ρ vs) (L2.wipe σ vs) = Mm F (unwipe ρ0 ρ vs) σ := by
  have nin : ∀ i p, OwnAt (unwipe ρ0 ρ vs) σ i p → i ∉ vs := fun i p ⟨⟨d, z⟩, _⟩ hi => by
    have := pl i hi
    rcases z with z | z
    · rw [← unw_in hi z] at this; cases this
    · rw [← unw_in hi z] at this; cases this
  have nin2 : ∀ i p, OwnAt (wipe ρ vs) (L2.wipe σ vs) i p → i ∉ vs := fun i p ⟨⟨d, z⟩, _⟩ hi => by
    rcases z with z | z
    · have := wipe_in hi z; cases this
    · have := wipe_in hi z; cases this
  have own : ∀ i p, OwnAt (wipe ρ vs) (L2.wipe σ vs) i p ↔ OwnAt (unwipe ρ0 ρ vs) σ i p := fun i p => by
    refine ⟨fun h => ?_, fun h => ?_⟩
    · have n := nin2 i p h
      unfold OwnAt at h ⊢
      rw [wipe_out n, lw_out n] at h
      rw [unw_out n]; exact h
    · have n := nin i p h
      unfold OwnAt at h ⊢
      rw [unw_out n] at h
      rw [wipe_out n, lw_out n]; exact h
  have mm : Mm F (wipe ρ vs) (L2.wipe σ vs) = Mm F (unwipe ρ0 ρ vs) σ := by
    funext a
    exact propext ⟨fun z => z.imp id fun ⟨j, z⟩ => ⟨j, (own j a).mp z⟩, fun z => z.imp id fun ⟨j, z⟩ => ⟨j, (own j a).mpr z⟩⟩
  refine ⟨⟨?_, fun i j p a b => S.inj i j p ((own i p).mp a) ((own j p).mp b), fun i p a => S.dis i p ((own i p).mp a), fun i s e => ?_, S.frame, fun i p a => S.ownf i p ((own i p).mp a), S.fdom, fun i p z => ?_⟩, mm⟩
  · rw [wipe_len, L2.wipe_length, ← S.len, unw_len]
  · rw [mm]
    by_cases hi : i ∈ vs
    · rw [wipe_in hi e]; trivial
    · rw [wipe_out hi] at e
      rw [lw_out hi]
      exact S.slot i s (by rw [unw_out hi]; exact e)
  · obtain ⟨⟨d, h1⟩, h2⟩ := S.ios i p z
    have n := nin i p ⟨⟨d, .inr h1⟩, h2⟩
    rw [unw_out n] at h1
    exact ⟨⟨d, by rw [wipe_out n]; exact h1⟩, by rw [lw_out n]; exact h2⟩
/-- a turn's end, seen from outside -/
theorem po_unwiped (pl : ∀ i ∈ vs, plainS (getS ρ0 i) = true) (hl0 : ρ.length = ρ0.length) (S : SR G X F (unwipe ρ0 ρ vs) σ H) (hw : L2.wipe σ' vs = L2.wipe σ vs) (o : ∀ j, j ∉ vs → ρ'[j]? = ρ[j]?) (pl' : ∀ j ∈ vs, plainS (getS ρ' j) = true) (hl : ρ'.length = ρ.length)
    (le0 : ∀ a o, Hr H (Mm F (unwipe ρ0 ρ vs) σ) a = some o → Hr H (Mm F ρ' σ') a = some o) (P : Po G X σ' F ρ' H F ρ2 H') : Po G X σ F (unwipe ρ0 ρ vs) H F (unwipe ρ0 ρ2 vs) H' ∧ Mm F (unwipe ρ0 ρ2 vs) σ = Mm F ρ2 σ' ∧ ρ2.length = ρ0.length := by
  have S2 := P.sr
  have hlσ : σ'.length = σ.length := by rw [← L2.wipe_length σ' vs, hw, L2.wipe_length]
  have hl2 : ρ2.length = ρ0.length := by
    have h1 := S2.len
    have h2 := S.len
    rw [unw_len] at h2
    omega
  have nin : ∀ i p, OwnAt (unwipe ρ0 ρ2 vs) σ i p → i ∉ vs := fun i p ⟨⟨d, z⟩, _⟩ hi => by
    have := pl i hi
    rcases z with z | z
    · rw [← unw_in hi z] at this; cases this
    · rw [← unw_in hi z] at this; cases this
  have nin2 : ∀ i p, OwnAt ρ2 σ' i p → i ∉ vs := fun i p z hi => by
    obtain ⟨⟨d, z⟩, _⟩ := P.sub i p z
    have := pl' i hi
    rcases z with z | z
    · rw [getS_of z] at this; cases this
    · rw [getS_of z] at this; cases this
  have own : ∀ i p, OwnAt (unwipe ρ0 ρ2 vs) σ i p ↔ OwnAt ρ2 σ' i p := fun i p => by
    refine ⟨fun h => ?_, fun h => ?_⟩
    · have n := nin i p h
      unfold OwnAt at h ⊢
      rw [unw_out n] at h
      rw [lw_eq hw n]; exact h
    · have n := nin2 i p h
      unfold OwnAt at h ⊢
      rw [lw_eq hw n] at h
      rw [unw_out n]; exact h
  have mm : Mm F (unwipe ρ0 ρ2 vs) σ = Mm F ρ2 σ' := by
    funext a
    exact propext ⟨fun z => z.imp id fun ⟨j, z⟩ => ⟨j, (own j a).mp z⟩, fun z => z.imp id fun ⟨j, z⟩ => ⟨j, (own j a).mpr z⟩⟩
  have le : ∀ a o, Hr H (Mm F (unwipe ρ0 ρ vs) σ) a = some o → Hr H' (Mm F (unwipe ρ0 ρ2 vs) σ) a = some o := fun a o e => by rw [mm]; exact P.le a o (le0 a o e)
  refine ⟨⟨⟨?_, fun i j p a b => S2.inj i j p ((own i p).mp a) ((own j p).mp b), fun i p a => S2.dis i p ((own i p).mp a), fun i s e => ?_, S2.frame, fun i p a => S2.ownf i p ((own i p).mp a), S2.fdom, fun i p z => ?_⟩, le, P.keep, fun i p z => ?_, fun i z => ?_⟩, mm, hl2⟩
  · rw [unw_len, hl2, ← hl0, ← S.len, unw_len]
  · by_cases hi : i ∈ vs
    · have e2 := unw_in hi e
      subst e2
      have pi := pl i hi
      cases e3 : getS ρ0 i with
      | un => trivial
      | val d =>
        have e4 : (unwipe ρ0 ρ vs)[i]? = some (.val d) := getS_eq (by rw [getS_unw hl0 hi, e3]) (by simp)
        obtain ⟨v, e5, r⟩ := S.slot i _ e4
        exact ⟨v, e5, r.le le⟩
      | own d => rw [e3] at pi; cases pi
      | io d => rw [e3] at pi; cases pi
    · rw [mm, ← lw_eq hw hi]
      rw [unw_out hi] at e
      exact S2.slot i s e
  · obtain ⟨⟨d, h1⟩, h2⟩ := S2.ios i p z
    have n := nin2 i p ⟨⟨d, .inr h1⟩, h2⟩
    exact ⟨⟨d, by rw [unw_out n]; exact h1⟩, by rw [← lw_eq hw n]; exact h2⟩
  · have n := nin i p z
    have := P.sub i p ((own i p).mp z)
    unfold OwnAt at this ⊢
    rw [o i n, lw_eq hw n] at this
    rw [unw_out n]; exact this
  · by_cases hi : i ∈ vs
    · obtain ⟨d, z⟩ := z
      have : (unwipe ρ0 ρ2 vs)[i]? = (unwipe ρ0 ρ vs)[i]? := by
        cases e : (unwipe ρ0 ρ vs)[i]? with
        | none => rw [e] at z; rcases z with z | z | z <;> cases z
        | some s =>
          have hi2 : i < (unwipe ρ0 ρ2 vs).length := by
            have := (List.getElem?_eq_some_iff.mp e).1
            rw [unw_len] at this ⊢
            omega
          rw [unw_in hi e]
          have e2 : (unwipe ρ0 ρ2 vs)[i]? = some (unwipe ρ0 ρ2 vs)[i] := List.getElem?_eq_getElem hi2
          rw [e2, ← unw_in hi e2]
      exact ⟨d, by rw [this]; exact z⟩
    · obtain ⟨d, z⟩ := z
      rw [unw_out hi, ← o i hi] at z
      obtain ⟨d', z'⟩ := P.liv i ⟨d, z⟩
      exact ⟨d', by rw [unw_out hi]; exact z'⟩
/-- a temporary's content is changed -/
theorem Po.wr {F : AS} {p : Addr} {o : HO} (P : Po G X σ F ρ H (addF F p) ρ' H') (nF : ¬ F p) (h0 : X.H0 p = none) : Po G X σ F ρ H (addF F p) ρ' (upd H' p o) := by
  have S := P.sr
  have kp : ∀ a, a ≠ p → upd H' p o a = H' a := fun a e => upd_ne e
  have le : ∀ a u, Hr H' (Mm (addF F p) ρ' σ) a = some u → Hr (upd H' p o) (Mm (addF F p) ρ' σ) a = some u := hr_mono (fun a u n e => by
    rw [kp a fun z => n (.inl (.inl z))]; exact e) fun a z => .inl z
  refine ⟨⟨S.len, S.inj, S.dis, fun i s e => ?_, fun a u n e => ?_, S.ownf, fun q z => ?_, S.ios⟩, fun a u e => le a u (P.le a u e), fun q z => ⟨(P.keep q z).1, ?_⟩, P.sub, P.liv⟩
  · have q := S.slot i s e
    have ne : ∀ q, OwnAt ρ' σ i q → q ≠ p := fun q h e => S.dis i q h (.inl e)
    cases s with
    | un => trivial
    | val d => obtain ⟨v, e, q⟩ := q; exact ⟨v, e, q.le le⟩
    | own d => obtain ⟨v, e1, q⟩ := q; exact ⟨v, e1, q.le le (kp v (ne v ⟨⟨d, .inl e⟩, e1⟩))⟩
    | io d => obtain ⟨v, e1, q⟩ := q; exact ⟨v, e1, q.le le (kp v (ne v ⟨⟨d, .inr e⟩, e1⟩))⟩
  · rw [kp a fun z => by rw [z, h0] at e; cases e]
    exact S.frame a u n e
  · by_cases hq : q = p
    · subst hq; rw [upd_same]; simp
    · rw [kp q hq]; exact S.fdom q z
  · rw [kp q fun z => nF (z ▸ ‹F q›)]
    exact (P.keep q z).2
end
section
variable {G : GD}
theorem se_lc {vs : List Nat} {ei : Env → R (List D)} {eg : D → Env → R Unit} {ec : Env → R Bool} {ee : Env → R (D × Kd)} {wi : TI} {g : TG} {tt : TT} {te : TE} (hi : SI G ei wi) (hg : SGv G vs eg g) (hc : STt G ec tt) (he : SE G ee te) :
    SE G (fun ρ => if (vs.all fun v => plainS (getS ρ v)) = true then (ei ρ).bind fun items ρ1 => (lcLoop vs eg ec ee items [] ρ1).bind fun acc ρ2 => .ok (.lst acc, .fr) (unwipe ρ1 ρ2 vs) else .no) (tLc wi g tt te vs) := by
  intro X F ρ σ H Q d k ρ' S h q
  dsimp only at h
  split at h
  · rename_i hpl0
    obtain ⟨ds, ρ1, h1, h⟩ := bind_ok h
    obtain ⟨accF, ρ2, h2, h⟩ := bind_ok h
    cases h
    have S0 := S
    refine hi X F ρ σ H _ ds ρ1 S h1 fun J H1 p1 it => ?_
    intro Da hDa
    have S1 := p1.sr
    obtain ⟨n1, n2⟩ := S1.new0 hDa
    have nF : ¬ F Da := fun z => S1.fdom Da z hDa
    have pl : ∀ i ∈ vs, plainS (getS ρ1 i) = true := by
      intro i hi
      have h0 : plainS (getS ρ i) = true := List.all_eq_true.mp hpl0 i hi
      cases e : getS ρ1 i with
      | un => rfl
      | val d => rfl
      | own d =>
        have g := getS_eq e (by simp)
        obtain ⟨p, e1, _⟩ := S1.slot i _ g
        obtain ⟨⟨d', z⟩, _⟩ := p1.sub i p ⟨⟨d, .inl g⟩, e1⟩
        rcases z with z | z
        · rw [getS_of z] at h0; cases h0
        · rw [getS_of z] at h0; cases h0
      | io d =>
        have g := getS_eq e (by simp)
        obtain ⟨p, e1, _⟩ := S1.slot i _ g
        obtain ⟨⟨d', z⟩, _⟩ := p1.sub i p ⟨⟨d, .inr g⟩, e1⟩
        rcases z with z | z
        · rw [getS_of z] at h0; cases h0
        · rw [getS_of z] at h0; cases h0
    refine ⟨fun i m H' => m = ds.length - i ∧ i ≤ ds.length ∧ ∃ ρi acc accV, lcLoop vs eg ec ee (ds.drop i) acc ρi = .ok accF ρ2 ∧ Po G X σ F ρ1 H1 (addF F Da) (unwipe ρ1 ρi vs) H' ∧ ρi.length = ρ1.length ∧ H' Da = some (.lst accV) ∧ DtA G (Hr H' (Mm (addF F Da) (unwipe ρ1 ρi vs) σ)) accV acc, ⟨_, rfl, Nat.zero_le _, ρ1, [], [], h2, ?_, rfl, upd_same, .nil⟩, ?_⟩
    · rw [unw_self]; exact Po.laidF S1 hDa
    rintro i m H' ⟨rfl, hle, ρi, acc, accV, hl, P, hlen, hA, rA⟩
    have leL : ∀ a o, Hr H1 (Mm F ρ1 σ) a = some o → Hr H' (Mm (addF F Da) (unwipe ρ1 ρi vs) σ) a = some o := P.le
    cases e : ds[i]? with
    | none =>
      have hi : i = ds.length := Nat.le_antisymm hle (List.getElem?_eq_none_iff.mp e)
      subst hi
      rw [List.drop_length] at hl
      cases hl
      exact .inl ⟨it.stop H' _ leL, q _ H' (addF F Da) (p1.trans P) (.fr rfl nF n1 n2 ⟨accV, hA, rA⟩)⟩
    | some d =>
      have hi : i < ds.length := (List.getElem?_eq_some_iff.mp e).1
      rw [drop_get e] at hl
      refine .inr ⟨it.go H' _ i d leL e, fun H2 => ∃ m', m' < ds.length - i ∧ (m' = ds.length - (i + 1) ∧ i + 1 ≤ ds.length ∧ ∃ ρi acc accV, lcLoop vs eg ec ee (ds.drop (i + 1)) acc ρi = .ok accF ρ2 ∧ Po G X σ F ρ1 H1 (addF F Da) (unwipe ρ1 ρi vs) H2 ∧ ρi.length = ρ1.length ∧ H2 Da = some (.lst accV) ∧ DtA G (Hr H2 (Mm (addF F Da) (unwipe ρ1 ρi vs) σ)) accV acc), fun H2 z => z, fun x H2 y => ?_⟩
      obtain ⟨p2, r2⟩ := yld_ok P.sr it leL e y
      have P2 := P.trans p2
      obtain ⟨S3, mm3⟩ := sr_wiped (ρ0 := ρ1) (ρ := ρi) pl p2.sr
      have hpw : ∀ j ∈ vs, plainS (getS (wipe ρi vs) j) = true := fun j hj => by
        cases e3 : (wipe ρi vs)[j]? with
        | none => unfold getS; rw [e3]; rfl
        | some s => rw [getS_of e3, wipe_in hj e3]; rfl
      obtain ⟨a, ρ3, h3, hl⟩ := bind_ok (show (eg d (wipe ρi vs)).bind (fun _ ρ => (ec ρ).bind fun k ρ => if k = true then (ee ρ).bind fun y ρ => (settle ρ y.1 y.2).bind fun d ρ => if acc.length < sizeLine then lcLoop vs eg ec ee (ds.drop (i + 1)) (acc ++ [d]) ρ else .no else lcLoop vs eg ec ee (ds.drop (i + 1)) acc ρ) = .ok accF ρ2 from hl)
      refine hg X (addF F Da) (wipe ρi vs) (L2.wipe σ vs) H2 x d ρ3 _ S3 hpw (by rw [mm3]; exact r2) h3 fun σ3 S4 hw ho pl3 hl3 le3 => ?_
      have hw2 : L2.wipe σ3 vs = L2.wipe σ vs := hw.trans (by
        apply List.ext_getElem?
        intro j
        simp only [lw_get, L2.wipe_length]
        by_cases hj : j ∈ vs
        · simp only [if_pos hj]
        · simp only [if_neg hj])
      have ho2 : ∀ j, j ∉ vs → ρ3[j]? = ρi[j]? := fun j hj => (ho j hj).trans (wipe_out hj)
      have hl4 : ρ3.length = ρi.length := hl3.trans (wipe_len vs ρi)
      refine ⟨hw2, ?_⟩
      obtain ⟨b, ρ4, h4, hl⟩ := bind_ok hl
      refine hc X (addF F Da) ρ3 σ3 H2 _ b ρ4 S4 h4 fun H3 p3 => ?_
      have unw : ∀ {ρ5 : Env} {H5 : Hp}, Po G X σ3 (addF F Da) ρ3 H2 (addF F Da) ρ5 H5 → Po G X σ F ρ1 H1 (addF F Da) (unwipe ρ1 ρ5 vs) H5 ∧ Mm (addF F Da) (unwipe ρ1 ρ5 vs) σ = Mm (addF F Da) ρ5 σ3 ∧ ρ5.length = ρ1.length ∧ H5 Da = some (.lst accV) ∧ DtA G (Hr H5 (Mm (addF F Da) (unwipe ρ1 ρ5 vs) σ)) accV acc := fun {ρ5 H5} p5 => by
        obtain ⟨q1, q2, q3⟩ := po_unwiped (ρ0 := ρ1) (ρ := ρi) pl hlen p2.sr hw2 ho2 pl3 hl4 (fun a o e => le3 a o (by rw [mm3]; exact e)) p5
        refine ⟨P2.trans q1, q2, q3, ?_, rA.le fun a o e => q1.le a o (p2.le a o e)⟩
        exact (q1.keep Da (.inl rfl)).2.trans ((p2.keep Da (.inl rfl)).2.trans hA)
      cases b with
      | false =>
        obtain ⟨u1, u2, u3, u4, u5⟩ := unw p3
        exact ⟨_, by omega, rfl, hi, ρ4, acc, accV, hl, u1, u3, u4, u5⟩
      | true =>
        obtain ⟨⟨d5, k5⟩, ρ5, h5, hl⟩ := bind_ok (show ((ee ρ4).bind fun y ρ => (settle ρ y.1 y.2).bind fun d ρ => if acc.length < sizeLine then lcLoop vs eg ec ee (ds.drop (i + 1)) (acc ++ [d]) ρ else .no) = .ok accF ρ2 from hl)
        obtain ⟨d6, ρ6, h6, hl⟩ := bind_ok hl
        split at hl
        · rename_i hz
          refine he X (addF F Da) ρ4 σ3 H3 _ d5 k5 ρ5 p3.sr h5 fun y H4 F4 p4 r4 => ?_
          obtain ⟨p5, r5⟩ := settle_ok p4 r4 h6
          obtain ⟨u1, u2, u3, u4, u5⟩ := unw (p3.trans p5)
          refine ⟨accV, u4, by rw [u5.length]; exact hz, _, by omega, rfl, hi, ρ6, acc ++ [d6], accV ++ [y], hl, u1.wr nF n1, u3, upd_same, ?_⟩
          have r6 : DtA G (Hr H4 (Mm (addF F Da) (unwipe ρ1 ρ6 vs) σ)) (accV ++ [y]) (acc ++ [d6]) := u5.append (.cons (by rw [u2]; exact r5) .nil)
          exact r6.le (hr_mono (fun a u n e => by rw [upd_ne fun z => n (.inl (.inl z))]; exact e) fun a z => .inl z)
        · cases hl
  · cases h
end
end Mp

set_option maxRecDepth 100000
set_option maxHeartbeats 4000000
/-! Mp12: enumerate over lists and tuples. -/
namespace Mp
open PySem PySem.Spec PyProof.Rows L2
open AutoSeq1 (wpAny_loadPart')
theorem meets_enum_newT (l : Addr) (items : Array Value) (n : Nat) (dct : Option Addr) (sl : Array (Option Value)) :
    Meets (Builtin.«enumerate.__new__» ⟨[.type "enumerate", .ref l], []⟩) (fun _ R s => s.heap.get? l = some { cls := .type "tuple", dict := dct, data := .seq items n, slots := sl } ∧
      R (.ok (.ret (.ref (s.heap.push { cls := .type "tuple_iterator", data := .fields #[.ref l, .int 0 0] }).objs.size)))
        { s with heap := (s.heap.push { cls := .type "tuple_iterator", data := .fields #[.ref l, .int 0 0] }).push { cls := .type "enumerate", data := .fields #[.none, .bool false, .ref s.heap.objs.size, rawInt 0, .none, .none] } }) :=
  .of_wp fun prog w A R s h => by
    obtain ⟨hp, g, d, tk, os⟩ := s; obtain ⟨hl, h⟩ := h
    have hsub := sub_enumerate
    have hL : Heap.IsTuple (Shared.heap ⟨hp, g, d, tk, os⟩) l items := ⟨_, hl, rfl, n, rfl⟩
    wp_walk using wpAny_loadPart' hl
    refine wpAny_stack_any fun st => wpAny_pure ?_
    split
    · rename_i c _ _ _ _ _
      cases (c == Value.type "enumerate")
      · wp_walk using wpAny_loadPart' hl, wpAny_pyIter_tuple hL
        exact ⟨_, rfl, h⟩
      · wp_walk using wpAny_loadPart' hl, wpAny_pyIter_tuple hL
        exact ⟨_, rfl, h⟩
    · wp_walk using wpAny_loadPart' hl, wpAny_pyIter_tuple hL
      exact ⟨_, rfl, h⟩
section
variable {prog : Program} {w : World} {A : Around} {E : Value → Shared → Prop} {s : Shared}
theorem call_enum_tuple {l : Addr} {items : Array Value} {Q : Value → Shared → Prop} (hL : s.heap.IsTuple l items)
    (h : ∀ h', IsEnum h' (s.heap.objs.size + 1) s.heap.objs.size 0 .none → h'.IsTupleIter s.heap.objs.size l 0 → h'.objs.size = s.heap.objs.size + 2 →
      (∀ b o, s.heap.get? b = some o → h'.get? b = some o) → Q (.ref (s.heap.objs.size + 1)) { s with heap := h' }) :
    wpAny (model prog w) A (call (.type "enumerate") [.ref l]) Q E s := by
  obtain ⟨⟨c, dct, dt, sl⟩, hl, hc, n, hd⟩ := hL
  replace hc : c = .type "tuple" := hc
  replace hd : dt = .seq items n := hd
  subst hc hd
  refine callType_new F.called_enumerate (by decide) (F.typeCall_enumerate_1 _) (F.newCall_enumerate_1 _) (fun obj => F.args_object_init_2 obj _) F.entry_enumerate_new
    (meets_enum_newT l items n dct sl) ⟨hl, ?_⟩
  have hz : (s.heap.push { cls := .type "tuple_iterator", data := .fields #[.ref l, .int 0 0] }).objs.size = s.heap.objs.size + 1 := Heap.size_push ..
  show _ ∧ _
  rw [hz]
  have he : IsEnum ((s.heap.push { cls := .type "tuple_iterator", data := .fields #[.ref l, .int 0 0] }).push
      { cls := .type "enumerate", data := .fields #[.none, .bool false, .ref s.heap.objs.size, rawInt 0, .none, .none] }) (s.heap.objs.size + 1) s.heap.objs.size 0 .none := by
    have := Heap.get?_push_size (s.heap.push { cls := .type "tuple_iterator", data := .fields #[.ref l, .int 0 0] })
      (o := { cls := .type "enumerate", data := .fields #[.none, .bool false, .ref s.heap.objs.size, rawInt 0, .none, .none] }) rfl
    rw [hz] at this; exact this
  refine ⟨⟨_, he, rfl⟩, h _ he ⟨_, Heap.get?_push_of_some _ (Heap.get?_push_size _ rfl), rfl, rfl⟩ (by rw [Heap.size_push, hz]) fun b o x => Heap.get?_push_of_some _ (Heap.get?_push_of_some _ x)⟩
end
/-- the tuple at a, each item in a new pair -/
def Itet (K : PySem.W.Frag) (a : Addr) : It :=
  ⟨fun i H => ∃ (xs : List V) (x : V), SqT K H a xs ∧ xs[i]? = some x, fun i H v H' => ∃ T x, v = .ref T ∧ H T = none ∧ H' = upd H T (.tup [.int (i : Nat), x]) ∧ ∀ xs, SqT K H a xs → xs[i]? = some x, fun i H => ∃ xs : List V, SqT K H a xs ∧ xs.length ≤ i⟩
theorem turn_enumT {P : Program} {w : World} {K : PySem.W.Frag} {elts : List Expr} {kk : Nat} {tpos : Pos} (a e it : Addr) :
    Turn P w K (.Tuple elts kk tpos) (Itet K a) [e, it] e (fun i h => (∃ old, IsEnum h e it ((i : Nat) : Int) old) ∧ h.IsTupleIter it a i ∧ e ≠ it) where
  mem := by simp
  obj := fun i h st b hb => by
    obtain ⟨⟨old, he⟩, ⟨o, ho, hc, hd⟩, _⟩ := st
    have e' : b = e ∨ b = it := by simpa using hb
    rcases e' with z | z
    · rw [z]; exact ⟨_, he, fun v q => nomatch q⟩
    · rw [z]; exact ⟨o, ho, fun v q => by rw [hd] at q; cases q⟩
  keep := fun i h h' st k => let ⟨⟨old, he⟩, hi, hne⟩ := st; ⟨⟨old, k e (by simp) _ he⟩, hi.at fun o q => k it (by simp) o q, hne⟩
  item := by
    intro X hP hw hK hc i pins s σ H E I hf st hg
    subst hP hw hK
    obtain ⟨⟨old, he⟩, hit, hne⟩ := st
    obtain ⟨xs, x, hq, hx⟩ := hg
    obtain ⟨its, rv, p, hz⟩ := I.tuple hq
    obtain ⟨u, hu, ru⟩ := rv.get hx
    have hel : e < s.heap.objs.size := Heap.lt_size he
    have hil : it < s.heap.objs.size := by obtain ⟨_, q, _⟩ := hit; exact Heap.lt_size q
    have pT : s.heap.IsTuple a its.toArray := p
    have hai : a ≠ it := fun z => by
      obtain ⟨o1, q1, c1, _⟩ := pT
      obtain ⟨o2, q2, c2, _⟩ := hit
      rw [z] at q1
      rw [q1] at q2; cases q2
      rw [c1] at c2; injection c2 with z; exact absurd z (by decide)
    have hae : e ≠ a := fun z => by
      obtain ⟨o1, q1, c1, _⟩ := pT
      rw [← z] at q1
      have he' : s.heap.get? e = some _ := he
      rw [q1] at he'; cases he'; injection c1 with z; exact absurd z (by decide)
    have D := Draws.tuple (prog := X.prog) (w := X.w) (A := X.A.in1) (show X.A.in1.handled = none from I.ok.hd hc) it a hai its.toArray
    refine wpAny_pyNext_enum_itemD D he ⟨hit, pT⟩ (i := i) (by have := (List.getElem?_eq_some_iff.mp hu).1; simpa using this) hne (by simp [hne, hae]) fun y h' tk hP ho hst' hT hsz hk => ?_
    have hy : y = u := by
      have h1 : its.toArray[i]? = some y := hP
      have h2 : its.toArray[i]? = some u := by simpa using hu
      rw [h1] at h2; cases h2; rfl
    subst hy
    refine ⟨_, rfl, wpAny_letOwnedTupleGo_enum (s := { s with heap := h', toks := tk + 1 }) ho fun h'' he' sb => ?_⟩
    have hT2 : h''.get? s.heap.objs.size = some { cls := .type "tuple", data := .seq #[.int i tk, y] } := (sb.2 _ (Nat.ne_of_gt hel)).trans hT
    have new : ObjOk X.prog X.w (upd H s.heap.objs.size (.tup [.int (i : Nat), x])) h'' s.heap.objs.size (.tup [.int (i : Nat), x]) :=
      ⟨by show 2 ≤ sizeLine; decide, [.int i tk, y], .cons ⟨_, rfl⟩ (.cons ru .nil), ⟨_, hT2, rfl, _, rfl⟩⟩
    have I1 : Inv X pins σ (upd H s.heap.objs.size (.tup [.int (i : Nat), x])) { s with heap := h'', toks := tk + 1 } :=
      I.turnedNew (ch := [e, it]) (fun b ob hb q => (sb.2 b (fun z => hb (by simp [z]))).trans (hk b ob (fun z => hb (by simp [z])) (fun z => hb (by simp [z])) q)) hf (Nat.le_refl _) new
    refine ⟨.ref s.heap.objs.size, _, I1, rfl, ⟨_, x, rfl, I.hok.fresh (Nat.le_refl _), rfl, fun ys hy => by rw [I.tuple_inj hy hq]; exact hx⟩, ⟨⟨y, ?_⟩, hst'.1.at fun o q => (sb.2 it (Ne.symm hne)).trans q, hne⟩, fun b hb => ?_⟩
    · have e1 : ((i + 1 : Nat) : Int) = (i : Int) + 1 := by omega
      rw [e1]; exact he'
    · have hb' : b < s.heap.objs.size := by
        have e' : b = e ∨ b = it := by simpa using hb
        rcases e' with z | z
        · rw [z]; exact hel
        · rw [z]; exact hil
      rw [upd_ne (Nat.ne_of_lt hb')]
      exact (hf b hb).1
  done := by
    intro X hP hw hK hc i pins s σ H E I hf st hg
    subst hP hw hK
    obtain ⟨⟨old, he⟩, hit, hne⟩ := st
    obtain ⟨xs, hq, hx⟩ := hg
    obtain ⟨its, rv, p, hz⟩ := I.tuple hq
    obtain ⟨f0, f1, f2, f3, f4, f5⟩ := hf it (by simp)
    have hl := rv.length
    have pT : s.heap.IsTuple a its.toArray := p
    have hT : s.TypeIs (.ref e) "enumerate" := ⟨_, he, rfl⟩
    unfold pyNext
    refine wpAny_bind (wpAny_attempt (wpAny_callSpecial?_slot (name := Str.ofString "__next__") hT F.slot_enumerate_next
      (wpAny_call_entry F.slot_enumerate_next hT F.entry_enumerate_next ?_ (F.args_enumerate_next_1 _))))
    show wpAny _ _ (field (.ref e) 2 >>= _) _ _ _
    refine wpAny_bind (wpAny_field he rfl (x := .ref it) rfl ?_)
    refine wpAny_bind (wpAny_nextOf_tuple_end (show X.A.in1.handled = none from I.ok.hd hc) hit pT (by simp; omega) fun h' x eb hx' => ?_)
    obtain ⟨o, ho, hc'⟩ := hx'
    refine wpAny_bind (wpAny_isInstance (T := "StopIteration") (b := true) ⟨o, ho, hc'⟩ isSubtype_stop ?_)
    exact wpAny_pure ⟨rfl, I.turned (t' := s.toks) (fun b o hb q => eb b o hb q) f0 f1 f3 f4 f5⟩
  self := fun A i s Q E st h => let ⟨⟨_, he⟩, _⟩ := st; wpAny_pyIter_enum he h
def iEnumS (K : PySem.W.Frag) (ta : TA) : TI := fun σ H R => ta σ H fun vs H1 => ∃ a, vs = [.ref a] ∧ (((∃ xs, SqL K H1 a xs) ∧ R (Ite K a) H1) ∨ ((∃ xs, SqT K H1 a xs) ∧ R (Itet K a) H1))
theorem pi_enumS {X : Cx} {e : Expr} {ta : TA} {p pos tpos : Pos} {elts : List Expr} {kk : Nat} (hg : Gl X "enumerate") (hm : X.mg "enumerate" = none) (ha : PA X [e] ta) (hs : starEach [e] X.env = [(false, eval e X.env)] := by rfl) :
    PI X (.Tuple elts kk tpos) (.Call (.Name "enumerate" p) [e] [] pos) (iEnumS X.K ta) := by
  refine ⟨fun pins s σ H R I h => ?_⟩
  refine Call_ (ld_blt I hg hm boot_enumerate (PyProof.Rows.callWith_type1 (thn (ha.run pos pins s σ H _ I h) fun us s1 ⟨vs, H1, I1, r1, q1⟩ => ?_) hs rfl))
  have fp : ∀ b, b ∈ [s1.heap.objs.size + 1, s1.heap.objs.size] → FpOk X pins H1 b := fun b hb => by
    have e' : b = s1.heap.objs.size + 1 ∨ b = s1.heap.objs.size := by simpa using hb
    have hle : s1.heap.objs.size ≤ b := by
      rcases e' with z | z
      · rw [z]; exact Nat.le_add_right _ _
      · rw [z]; exact Nat.le_refl _
    exact I1.fpOk hle (I1.hok.fresh hle)
  obtain ⟨a, ex, ⟨⟨xs, hq⟩, q⟩ | ⟨⟨xs, hq⟩, q⟩⟩ := q1
  · subst ex
    cases r1 with
    | cons r rr =>
      cases rr
      cases r
      obtain ⟨its, rv, p', hz⟩ := I1.list hq
      refine call_enumerate_list p'.isList fun h' he hit hsz hk => wpAny_pyIter_enum he ?_
      have I2 : Inv X pins σ H1 { s1 with heap := h' } := I1.kept (t' := s1.toks) hk
      exact ⟨s1.heap.objs.size + 1, [s1.heap.objs.size + 1, s1.heap.objs.size], _, _, H1, rfl, I2, turn_enum a (s1.heap.objs.size + 1) s1.heap.objs.size, ⟨⟨.none, he⟩, hit, Nat.succ_ne_self _⟩, fp, q⟩
  · subst ex
    cases r1 with
    | cons r rr =>
      cases rr
      cases r
      obtain ⟨its, rv, p', hz⟩ := I1.tuple hq
      refine call_enum_tuple (show s1.heap.IsTuple a its.toArray from p') fun h' he hit hsz hk => wpAny_pyIter_enum he ?_
      have I2 : Inv X pins σ H1 { s1 with heap := h' } := I1.kept (t' := s1.toks) hk
      exact ⟨s1.heap.objs.size + 1, [s1.heap.objs.size + 1, s1.heap.objs.size], _, _, H1, rfl, I2, turn_enumT a (s1.heap.objs.size + 1) s1.heap.objs.size, ⟨⟨.none, he⟩, hit, Nat.succ_ne_self _⟩, fp, q⟩
theorem enum_get {ds : List D} {i : Nat} {d : D} (h : (enumD ds)[i]? = some d) : ∃ x, ds[i]? = some x ∧ d = .tup [.int (i : Nat), x] := by
  unfold enumD at h
  rw [List.getElem?_map] at h
  cases e : ds.zipIdx[i]? with
  | none => rw [e] at h; cases h
  | some p =>
    rw [e] at h
    cases h
    rw [List.getElem?_zipIdx] at e
    cases e2 : ds[i]? with
    | none => rw [e2] at e; cases e
    | some x =>
      rw [e2] at e
      cases e
      exact ⟨x, rfl, by simp⟩
theorem enum_len (ds : List D) : (enumD ds).length = ds.length := by simp [enumD]
section
variable {G : GD}
theorem itok_enumL {L : Hp} {a : Addr} {vs : List V} {ds : List D} (h : SqL G.K L a vs) (r : DtA G L vs ds) : ItOk G L (Ite G.K a) (enumD ds) := by
  have sq : ∀ (H : Hp) (M : AS), (∀ a o, L a = some o → Hr H M a = some o) → SqL G.K H a vs := fun H M k => sql_le hr_sub (sql_le k h)
  refine ⟨fun H M k => ⟨vs, sq H M k, by rw [enum_len, r.length]; exact Nat.le_refl _⟩, fun H M i d k e => ?_, fun H M i d x H' k e y => ?_⟩
  · obtain ⟨d', e', _⟩ := enum_get e
    obtain ⟨v, h1, _⟩ := r.get e'
    exact ⟨vs, v, sq H M k, h1⟩
  · obtain ⟨d', e', rfl⟩ := enum_get e
    obtain ⟨T, v, rfl, hn, rfl, y⟩ := y
    obtain ⟨v', h1, h2⟩ := r.get e'
    have := (y vs (sq _ M k)).symm.trans h1
    cases this
    exact .inr ⟨T, _, _, hn, rfl, rfl, rfl, .cons (.int _) (.cons (h2.le k) .nil)⟩
theorem itok_enumT {L : Hp} {a : Addr} {vs : List V} {ds : List D} (h : SqT G.K L a vs) (r : DtA G L vs ds) : ItOk G L (Itet G.K a) (enumD ds) := by
  have sq : ∀ (H : Hp) (M : AS), (∀ a o, L a = some o → Hr H M a = some o) → SqT G.K H a vs := fun H M k => sqt_le hr_sub (sqt_le k h)
  refine ⟨fun H M k => ⟨vs, sq H M k, by rw [enum_len, r.length]; exact Nat.le_refl _⟩, fun H M i d k e => ?_, fun H M i d x H' k e y => ?_⟩
  · obtain ⟨d', e', _⟩ := enum_get e
    obtain ⟨v, h1, _⟩ := r.get e'
    exact ⟨vs, v, sq H M k, h1⟩
  · obtain ⟨d', e', rfl⟩ := enum_get e
    obtain ⟨T, v, rfl, hn, rfl, y⟩ := y
    obtain ⟨v', h1, h2⟩ := r.get e'
    have := (y vs (sq _ M k)).symm.trans h1
    cases this
    exact .inr ⟨T, _, _, hn, rfl, rfl, rfl, .cons (.int _) (.cons (h2.le k) .nil)⟩
theorem si_enm {ea : Env → R (D × Kd)} {ta : TE} (ha : SE G ea ta) : SI G (fun ρ => (ea ρ).bind fun x ρ => (settle ρ x.1 x.2).bind fun d ρ => R.of ((seqOf d).map enumD) ρ) (iEnumS G.K (tCons ta tNil)) := by
  intro X F ρ σ H Q ds ρ' S h q
  obtain ⟨⟨d1, k1⟩, ρ1, h1, h⟩ := bind_ok h
  obtain ⟨d2, ρ2, h2, h⟩ := bind_ok h
  obtain ⟨h3, rfl⟩ := of_ok h
  refine ha X F ρ σ H _ d1 k1 ρ1 S h1 fun v1 H1 F1 p1 r1 => ?_
  obtain ⟨p2, r2⟩ := settle_ok p1 r1 h2
  cases d2 with
  | tup xs =>
    cases h3
    cases r2 with
    | tup s r => exact ⟨_, rfl, .inr ⟨⟨_, sqt_le hr_sub s⟩, q _ _ p2 (itok_enumT s r)⟩⟩
  | lst xs =>
    cases h3
    cases r2 with
    | lst s r => exact ⟨_, rfl, .inl ⟨⟨_, .inl (rd_le hr_sub s)⟩, q _ _ p2 (itok_enumL (.inl s) r)⟩⟩
  | scr xs =>
    cases h3
    cases r2 with
    | scr s r => exact ⟨_, rfl, .inl ⟨⟨_, sql_le hr_sub s⟩, q _ _ p2 (itok_enumL s r)⟩⟩
  | _ => cases h3
end
end Mp

set_option maxRecDepth 100000
set_option maxHeartbeats 4000000
/-! Mq12: instances of own classes, extend, several names at once, sound. -/
namespace Mp
open PySem PySem.Spec PyProof.Rows L2
section
variable {G : GD} {X : Fr} {F : AS} {ρ ρ' : Env} {σ : L2.St} {H : Hp}
/-- an own object's content is changed -/
theorem put_ownG {i : Nat} {p : Addr} {s0 s1 : Slot} {d' : D} {o : HO} (S : SR G X F ρ σ H) (h1 : ρ[i]? = some s0) (k : (∃ x, s0 = .own x) ∧ s1 = .own d' ∨ (∃ x, s0 = .io x) ∧ s1 = .io d') (h2 : σ[i]? = some (some (.ref p)))
    (c : (∀ a o', Hr H (Mm F ρ σ) a = some o' → Hr (upd H p o) (Mm F ρ σ) a = some o') → OwnC G (Mm F ρ σ) (upd H p o) p d') :
    PoS G X F ρ σ H (ρ.set i s1) σ (upd H p o) := by
  have hi : i < ρ.length := (List.getElem?_eq_some_iff.mp h1).1
  have op : OwnAt ρ σ i p := by
    rcases k with ⟨⟨x, rfl⟩, _⟩ | ⟨⟨x, rfl⟩, _⟩
    · exact ⟨⟨x, .inl h1⟩, h2⟩
    · exact ⟨⟨x, .inr h1⟩, h2⟩
  have own : ∀ j q, OwnAt (ρ.set i s1) σ j q ↔ OwnAt ρ σ j q := fun j q => by
    unfold OwnAt
    by_cases hj : j = i
    · subst hj
      rw [List.getElem?_set_self hi, h1]
      rcases k with ⟨⟨x, rfl⟩, rfl⟩ | ⟨⟨x, rfl⟩, rfl⟩
      · exact ⟨fun ⟨_, w⟩ => ⟨⟨x, .inl rfl⟩, w⟩, fun ⟨_, w⟩ => ⟨⟨_, .inl rfl⟩, w⟩⟩
      · exact ⟨fun ⟨_, w⟩ => ⟨⟨x, .inr rfl⟩, w⟩, fun ⟨_, w⟩ => ⟨⟨_, .inr rfl⟩, w⟩⟩
    · rw [List.getElem?_set_ne (Ne.symm hj)]
  have mm : Mm F (ρ.set i s1) σ = Mm F ρ σ := by
    funext a
    exact propext ⟨fun z => z.imp id fun ⟨j, z⟩ => ⟨j, (own j a).mp z⟩, fun z => z.imp id fun ⟨j, z⟩ => ⟨j, (own j a).mpr z⟩⟩
  have le : ∀ a o', Hr H (Mm F ρ σ) a = some o' → Hr (upd H p o) (Mm F ρ σ) a = some o' := hr_mono (fun a o' n e => by
    have ne : a ≠ p := fun z => n (.inr ⟨i, by rw [z]; exact op⟩)
    rw [upd_ne ne]; exact e) fun a z => .inl z
  have kp : ∀ a, a ≠ p → upd H p o a = H a := fun a e => upd_ne e
  refine ⟨⟨by rw [List.length_set]; exact S.len, fun j k q a b => S.inj j k q ((own j q).mp a) ((own k q).mp b), fun j q a => S.dis j q ((own j q).mp a), fun j s z => ?_, fun a o' n e => ?_, fun j q a => S.ownf j q ((own j q).mp a), fun q z => ?_, fun j q z => ?_⟩, fun a o' e => by rw [mm]; exact le a o' e, fun q z => kp q fun e => S.dis i p op (e ▸ z)⟩
  · rw [mm]
    by_cases hj : j = i
    · subst hj
      rw [List.getElem?_set_self hi] at z
      cases z
      rcases k with ⟨⟨x, rfl⟩, rfl⟩ | ⟨⟨x, rfl⟩, rfl⟩
      · exact ⟨p, h2, c le⟩
      · exact ⟨p, h2, c le⟩
    · rw [List.getElem?_set_ne (Ne.symm hj)] at z
      have q := S.slot j s z
      have ne : ∀ q, OwnAt ρ σ j q → q ≠ p := fun q h e => hj (S.inj j i p (e ▸ h) op)
      cases s with
      | un => trivial
      | val d => obtain ⟨v, e, q⟩ := q; exact ⟨v, e, q.le le⟩
      | own d => obtain ⟨v, e, q⟩ := q; exact ⟨v, e, q.le le (kp v (ne v ⟨⟨d, .inl z⟩, e⟩))⟩
      | io d => obtain ⟨v, e, q⟩ := q; exact ⟨v, e, q.le le (kp v (ne v ⟨⟨d, .inr z⟩, e⟩))⟩
  · rw [kp a fun z => ?_]
    · exact S.frame a o' n e
    · subst z
      rcases S.ownf i a op with z | z
      · exact n z
      · rw [e] at z; cases z
  · rw [kp q fun e => S.dis i p op (e ▸ z)]
    exact S.fdom q z
  · obtain ⟨⟨x, e1⟩, e2⟩ := S.ios j q z
    refine ⟨?_, e2⟩
    by_cases hj : j = i
    · subst hj
      rw [h1] at e1; cases e1
      rcases k with ⟨⟨x, e⟩, _⟩ | ⟨_, rfl⟩
      · cases e
      · exact ⟨_, List.getElem?_set_self hi⟩
    · exact ⟨x, by rw [List.getElem?_set_ne (Ne.symm hj)]; exact e1⟩
end
section
variable {G : GD}
theorem zip_look2 {H : Hp} {x : Str} {z : D} : ∀ {fl : List (Str × V)} {ds : List D}, DtA G H (fl.map (·.2)) ds → ((fl.map (·.1)).zip ds).lookup x = some z → ∃ v, fl.lookup x = some v ∧ Dt G H v z
  | [], _, .nil, h => by cases h
  | (y, w) :: fl, d :: ds, .cons r1 r2, h => by
    have h' : ((y, d) :: (fl.map (·.1)).zip ds).lookup x = some z := h
    rw [List.lookup_cons] at h' ⊢
    cases e : x == y with
    | true =>
      rw [e] at h'
      cases h'
      exact ⟨w, rfl, r1⟩
    | false =>
      rw [e] at h'
      exact zip_look2 r2 h'
theorem lookup_in {x : Str} {z : D} : ∀ {ns : List Str} {ds : List D}, (ns.zip ds).lookup x = some z → x ∈ ns
  | [], _, h => by cases h
  | n :: ns, [], h => by cases h
  | n :: ns, d :: ds, h => by
    have h' : ((n, d) :: ns.zip ds).lookup x = some z := h
    rw [List.lookup_cons] at h'
    cases e : x == n with
    | true => rw [eq_of_beq e]; exact List.mem_cons_self
    | false => rw [e] at h'; exact List.mem_cons_of_mem _ (lookup_in h')
theorem zip_take : ∀ (ns : List Str) (ds : List D), ns.zip ds = (ns.take ds.length).zip ds
  | [], _ => by simp
  | n :: ns, [] => by simp
  | n :: ns, d :: ds => by
    show (n, d) :: ns.zip ds = (n, d) :: (ns.take ds.length).zip ds
    rw [zip_take ns ds]
theorem Sh.ins {M : AS} {H : Hp} {v : V} {c : Nat} {ns : List Str} {ds : List D} (h : Sh G M H v (.ins c ns ds)) : ∃ a dx fl, v = .ref a ∧ H a = some (.ins (G.ca c) dx fl) ∧ fl.map (·.1) = ns.take ds.length ∧ InsF G c ns ∧ DtA G (Hr H M) (fl.map (·.2)) ds := by
  rcases h with h | ⟨p, e, h⟩
  · cases h with
    | ins e z f r => exact ⟨_, _, _, rfl, hr_sub _ _ e, z, f, r⟩
  · obtain ⟨dx, fl, q, z, f, r⟩ := h
    exact ⟨p, dx, fl, e, q, z, f, r⟩
theorem se_fld {x : Str} {ea : Env → R (D × Kd)} {ta : TE} (ha : SE G ea ta) : SE G (fun ρ => (ea ρ).bind fun v ρ => (R.of (fldD x v.1) ρ).bind fun z ρ => .ok (z, .frz) ρ) (tFld G.K ta x) := by
  intro X F ρ σ H Q d k ρ' S h q
  obtain ⟨⟨d1, k1⟩, ρ1, h1, h⟩ := bind_ok h
  obtain ⟨z, h2, h⟩ := ofb_ok h
  cases h
  refine ha X F ρ σ H _ d1 k1 ρ' S h1 fun v1 H1 F1 p1 r1 => ?_
  cases d1 with
  | ins c ns ds =>
    obtain ⟨a, dx, fl, rfl, e, z1, f, r⟩ := (r1.sh p1.sr).ins
    have h2' : (ns.zip ds).lookup x = some d := h2
    obtain ⟨v, l, dt⟩ := zip_look2 r (show ((fl.map (·.1)).zip ds).lookup x = some d by rw [z1, ← zip_take]; exact h2')
    obtain ⟨F3, p3, r3⟩ := fin_op p1 (.old dt)
    exact ⟨a, G.ca c, dx, fl, v, rfl, e, f.1.cl, f.2 x (lookup_in h2'), l, q v _ F3 p3 r3⟩
  | _ => cases h2
/-- isinstance of an own class -/
theorem se_isinc {c : Nat} {ta : TE} {ea : Env → R (D × Kd)} (hk : C8.InsC G.K (G.ca c)) (hT : ∀ i, i < 6 → PySem.W.kitOne G.K (.type (dTyN i)) (.ref (G.ca c)) = some false) (ha : SE G ea ta) :
    SE G (fun ρ => (ea ρ).bind fun x ρ => (R.of (isinC c x.1) ρ).bind fun b ρ => .ok (.bl b, .frz) ρ) (tCB (rIsi G.K) (tCons ta (tCons (tC (.ref (G.ca c))) tNil))) := by
  intro X F ρ σ H Q d k ρ' S h q
  obtain ⟨⟨d1, k1⟩, ρ2, h4, h2⟩ := bind_ok h
  obtain ⟨b, h3, h5⟩ := ofb_ok h2
  cases h5
  refine ha X F ρ σ H _ d1 k1 ρ' S h4 fun v1 H1 F1 p1 r1 => ?_
  have sh := r1.sh p1.sr
  have qq : Q (.bl b) H1 := q _ _ F (p1.drop (fun _ h => h) (sub_of p1)) (.frz rfl (.bl _))
  have base : tyIx d1 < 6 → b = false → rIsi G.K [v1, .ref (G.ca c)] H1 Q := fun n e => by
    subst e
    exact ⟨v1, .ref (G.ca c), _, _, false, rfl, .own _, sh.ty n, hT _ n, qq⟩
  cases d1 with
  | ins c' ns ds =>
    have h3' : (if c' = c then some true else none) = some b := h3
    split at h3'
    · rename_i e
      cases h3'
      subst e
      obtain ⟨a, dx, fl, rfl, e, z1, f, r⟩ := sh.ins
      exact ⟨.ref a, .ref (G.ca c'), .ref (G.ca c'), .ref (G.ca c'), true, rfl, .own _, .base (.ins e f.1.cl f.1.ha f.1.hn f.1.htk f.1.hm), hk.me, qq⟩
    · cases h3'
  | non => cases h3; exact base (by decide) rfl
  | bl _ => cases h3; exact base (by show 1 < 6; decide) rfl
  | int _ => cases h3; exact base (by show 2 < 6; decide) rfl
  | str _ => cases h3; exact base (by show 3 < 6; decide) rfl
  | tup _ => cases h3; exact base (by show 4 < 6; decide) rfl
  | lst _ => cases h3; exact base (by show 5 < 6; decide) rfl
  | _ => cases h3
theorem arr_noio {σ : L2.St} {F : AS} {ρ : Env} {H : Hp} : ∀ {vs : List V} {as : List Ar} {ds : List D}, ArR G σ F ρ H vs as → iosOf as = [] → argsD ρ as = some ds → ∀ (M : AS) (H' : Hp), (∀ a o, Hr H (Mm F ρ σ) a = some o → Hr H' M a = some o) → InR G M H' (as.map Ar.isIo) vs ds []
  | _, _, _, .nil, _, e, M, H', le => by cases e; exact .nil
  | _, _, ds, .v (d := d) (as := as) h r, i, e, M, H', le => by
    have e' : (argsD ρ as).map (d :: ·) = some ds := e
    cases q : argsD ρ as with
    | none => rw [q] at e'; cases e'
    | some es =>
      rw [q] at e'
      cases e'
      exact .v (h.le le) (arr_noio r i q M H' le)
  | _, _, _, .io _ _, i, _, _, _, _ => by cases i
theorem se_mk {cl : Nat → List Bool → List D → CRes} {c f n : Nat} {fl : List Str} {ea : Env → R (List Ar)} {t : TA} {E : XK} (hn : ∀ fl ds x, cl f fl ds = some x → ds.length = n) (hF : InsF G c fl) (ha : SA G ea t) :
    SE G (fun ρ => (ea ρ).bind fun as ρ => doMk cl c f fl as ρ) (tMake (G.ca c) (spOf G (cl f) n) [] E t) := by
  intro X F ρ σ H Q d k ρ' S h q
  obtain ⟨as, ρ1, h1, h⟩ := bind_ok h
  refine ha X F ρ σ H _ as ρ1 S h1 fun vs H1 p r => ?_
  intro x dx hx hdx hne
  rw [List.append_nil]
  unfold doMk at h
  cases e1 : argsD ρ1 as with
  | none => rw [e1] at h; cases h
  | some ds =>
    rw [e1] at h
    dsimp only at h
    split at h
    · rename_i nio
      cases e2 : cl f (true :: as.map Ar.isIo) (.ins c fl [] :: ds) with
      | none => rw [e2] at h; cases h
      | some y =>
        obtain ⟨dv, b, outs⟩ := y
        rw [e2] at h
        match dv, b, outs, h, e2 with
        | .non, false, [d0], h, e2 =>
          cases h
          have P1 := p.trans (Po.laid (o := .own x) p.sr hdx)
          have hx2 : upd H1 dx (.own x) x = none := by rw [upd_ne (Ne.symm hne)]; exact hx
          have S1 := P1.sr
          have nx : ¬ Mm F ρ' σ x := fun z => S1.mdom x z hx2
          have S2 := S1.laid (o := .ins (G.ca c) dx []) hx2
          have kp : ∀ a o, H1 a = some o → upd (upd H1 dx (.own x)) x (.ins (G.ca c) dx []) a = some o := fun a o e => by
            rw [upd_ne (ne_of_none e hx), upd_ne (ne_of_none e hdx)]; exact e
          refine ⟨true :: as.map Ar.isIo, .ins c fl [] :: ds, [x], Mm F ρ' σ, .non, false, [d], e2, hn _ _ _ e2, .io ⟨dx, [], upd_same, by simp, hF, .nil⟩ (arr_noio r nio e1 _ _ (hr_mono (fun a o _ e => kp a o e) fun a z => ?_)), by simp, fun a h z => ?_, fun a z => S2.mdom a z, fun v H3 O => ?_⟩
          · rcases z with z | z
            · exact .inl z
            · right
              have : a = x := by simpa using z
              rw [this]; exact hx
          · have : a = x := by simpa using h
            exact nx (this ▸ z)
          · rcases O.val with ⟨_, dt, ol⟩ | ⟨z, _⟩
            · cases dt
              refine ⟨rfl, ?_⟩
              cases ol with
              | cons oc ol =>
                cases ol
                have O2 : OutR G (fun a => Mm F ρ' σ a ∧ a ∉ ([] : List (Nat × Addr)).map (·.2)) (([] : List (Nat × Addr)).map (·.2)) (upd H1 dx (.own x)) (.ref x) H3 d false [] := by
                  refine ⟨fun a o _ e => ?_, .inl ⟨rfl, ?_, .nil⟩⟩
                  · have ne : a ≠ x := ne_of_none e hx2
                    exact O.frame a o (by simpa using ne) (by rw [upd_ne ne]; exact e)
                  · refine oc.dt (fun a z => ?_) fun z => ?_
                    · rcases z with z | z
                      · exact .inl z.1
                      · cases z
                    · rcases z with z | z
                      · exact nx z.1
                      · cases z
                obtain ⟨F', P', R⟩ := po_call (as := []) (ps := []) S1 .nil List.nodup_nil O2
                exact q _ H3 F' (P1.trans P') R
            · cases z
    · cases h
/-! ### statements -/
theorem ss_ext {i : Nat} {ee : Env → R (D × Kd)} {te : TE} (he : SE G ee te) :
    SSt G (fun ρ => if ownL (getS ρ i) = true then (ee ρ).fl fun x ρ => (match x.2 with
      | .fr => (match lstOf x.1 with
        | some ds => (match appD ρ i ds with | some ρ => .nx ρ | none => .no)
        | none => .no)
      | _ => .no) else .no) (tDrop (tBM G.K "list" rExtend (tVar i) (tCons te tNil))) := by
  intro X F ρ σ H D fl S h n q1 q2
  dsimp only at h
  split at h
  · rename_i ho
    obtain ⟨p, vs0, e1, op, hp0⟩ := own_at S ho
    obtain ⟨⟨d1, k1⟩, ρ1, h1, h⟩ := fl_ok h n
    refine ⟨_, e1, .inl ⟨rfl, vs0, .inl (.inl hp0)⟩, ?_⟩
    refine he X F ρ σ H _ d1 k1 ρ1 S h1 fun v1 H1 F1 p1 r1 => ?_
    cases r1 with
    | frz => exact absurd h.symm n
    | pk => exact absurd h.symm n
    | @fr b _ eF nF h0 nio c =>
      subst eF
      dsimp only at h
      cases d1 with
      | lst ds =>
        have h' : (match appD ρ1 i ds with | some ρ => Fl.nx ρ | none => .no) = fl := h
        cases h3 : appD ρ1 i ds with
        | none => rw [h3] at h'; exact absurd h'.symm n
        | some ρ3 =>
          rw [h3] at h'
          obtain ⟨s0, s1, xs, e4, e5, hz, rfl⟩ := appD_ok h3
          obtain ⟨zs, hb, rz⟩ := c
          have P := p1.drop (F2 := F) (fun _ h => h) (fun _ h => .inr h)
          have le : ∀ a o, Hr H1 (Mm (addF F b) ρ1 σ) a = some o → Hr H1 (Mm F ρ1 σ) a = some o := hr_mono (fun _ _ _ e => e) fun a z => .inl (z.imp .inr id)
          have hc : OwnC G (Mm F ρ1 σ) H1 p (.lst xs) := by
            rcases e5 with ⟨rfl, _⟩ | ⟨rfl, _⟩
            · obtain ⟨p', q1, c⟩ := P.sr.slot i _ e4
              rw [e1] at q1; cases q1; exact c
            · obtain ⟨p', q1, c⟩ := P.sr.slot i _ e4
              rw [e1] at q1; cases q1; exact c
          obtain ⟨vs, hv, rv⟩ := hc
          have w := put_own (s0 := s0) (s1 := s1) P.sr e4 (e5.imp (fun z => ⟨⟨_, z.1⟩, z.2⟩) fun z => ⟨⟨_, z.1⟩, z.2⟩) e1 (rv.append (rz.le le))
          exact ⟨p, b, vs, zs, rfl, rfl, hv, hb, by rw [rv.length, rz.length]; exact hz, q1 _ h'.symm σ _ (P.s.trans w)⟩
      | _ => exact absurd h.symm n
  · exact absurd h.symm n
theorem putF_new {x : Str} {v : V} : ∀ {fl : List (Str × V)}, x ∉ fl.map (·.1) → putF x v fl = fl ++ [(x, v)]
  | [], _ => rfl
  | (g, y) :: r, h => by
    have h' : x ≠ g ∧ x ∉ r.map (·.1) := by simpa using h
    unfold putF
    rw [if_neg (Ne.symm h'.1), putF_new h'.2] <;> rfl
theorem take_snoc {α : Type} : ∀ {ns : List α} {n : Nat} {x : α}, ns[n]? = some x → ns.take (n + 1) = ns.take n ++ [x]
  | [], _, _, h => by simp at h
  | a :: ns, 0, x, h => by simp at h; subst h; simp
  | a :: ns, n + 1, x, h => by
    have := take_snoc (ns := ns) (n := n) (x := x) (by simpa using h)
    simp [this]
theorem ss_fst {i : Nat} {x : Str} {ee : Env → R (D × Kd)} {te : TE} (he : SE G ee te) :
    SSt G (fun ρ => (ee ρ).fl fun v ρ => (settle ρ v.1 v.2).fl fun d ρ => (match getS ρ i with
      | .io (.ins c ns fs) => if ns[fs.length]? = some x ∧ x ∉ ns.take fs.length ∧ fs.length < 900 then .nx (ρ.set i (.io (.ins c ns (fs ++ [d])))) else .no
      | _ => .no)) (sFld G.K (tVar i) te x) := by
  intro X F ρ σ H D fl S h n q1 q2
  obtain ⟨⟨d1, k1⟩, ρ1, h1, h⟩ := fl_ok h n
  obtain ⟨d2, ρ2, h2, h⟩ := fl_ok h n
  refine he X F ρ σ H _ d1 k1 ρ1 S h1 fun v1 H1 F1 p1 r1 => ?_
  obtain ⟨p2, r2⟩ := settle_ok p1 r1 h2
  cases e : getS ρ2 i with
  | io y =>
    rw [e] at h
    have g := getS_eq e (by simp)
    cases y with
    | ins c ns fs =>
      dsimp only at h
      split at h
      · rename_i cc
        obtain ⟨c1, c2, c3⟩ := cc
        obtain ⟨p, e1, dx, fl0, e2, z, f, r⟩ := p2.sr.slot i _ g
        have hl : fl0.length = fs.length := by
          have := r.length
          rw [List.length_map] at this
          exact this
        have hnew : putF x v1 fl0 = fl0 ++ [(x, v1)] := putF_new (by rw [z]; exact c2)
        have w := put_ownG (s1 := .io (.ins c ns (fs ++ [d2]))) (o := .ins (G.ca c) dx (putF x v1 fl0)) p2.sr g (.inr ⟨⟨_, rfl⟩, rfl⟩) e1 fun le => by
          refine ⟨dx, putF x v1 fl0, upd_same, ?_, f, ?_⟩
          · rw [hnew, List.map_append, z, List.length_append]
            exact (take_snoc c1).symm
          · have e3 : (putF x v1 fl0).map (·.2) = fl0.map (·.2) ++ [v1] := by rw [hnew, List.map_append] <;> rfl
            rw [e3]
            exact (r.le le).append (.cons (r2.le le) .nil)
        exact ⟨_, e1, p, G.ca c, dx, fl0, rfl, e2, f.1.cl, f.2 x (List.mem_of_getElem? c1), by omega, q1 _ h.symm σ _ (p2.s.trans w)⟩
      · exact absurd h.symm n
    | _ => exact absurd h.symm n
  | _ => rw [e] at h; exact absurd h.symm n
/-! ### several names at once -/
/-- values on their way to names; M: what is hidden now -/
inductive MR (G : GD) (X : Fr) (M : AS) (H : Hp) : AS → AS → List V → List (D × Kd) → Prop
  | nil {F : AS} : MR G X M H F F [] []
  | frz {F F' : AS} {v : V} {d : D} {vs : List V} {xs : List (D × Kd)} : Dt G (Hr H M) v d → MR G X M H F F' vs xs → MR G X M H F F' (v :: vs) ((d, .frz) :: xs)
  | fr {F F' : AS} {p : Addr} {d : D} {vs : List V} {xs : List (D × Kd)} : ¬ F p → X.H0 p = none → OwnC G M H p d → MR G X M H (addF F p) F' vs xs → MR G X M H F F' (.ref p :: vs) ((d, .fr) :: xs)
theorem MR.le {X : Fr} {M M' : AS} {H H' : Hp} (le : ∀ a o, Hr H M a = some o → Hr H' M' a = some o) : ∀ {F F' : AS} {vs : List V} {xs : List (D × Kd)}, (∀ p, F' p → H' p = H p) → MR G X M H F F' vs xs → MR G X M' H' F F' vs xs
  | _, _, _, _, k, .nil => .nil
  | _, _, _, _, k, .frz h r => .frz (h.le le) (r.le le k)
  | _, _, _, _, k, .fr n h0 c r => .fr n h0 (c.le le (k _ (MR.sub r _ (.inl rfl)))) (r.le le k)
where
  MR.sub {X : Fr} {M : AS} {H : Hp} : ∀ {F F' : AS} {vs : List V} {xs : List (D × Kd)}, MR G X M H F F' vs xs → ∀ p, F p → F' p
  | _, _, _, _, .nil, p, h => h
  | _, _, _, _, .frz _ r, p, h => MR.sub r p h
  | _, _, _, _, .fr _ _ _ r, p, h => MR.sub r p (.inr h)
def SMt (G : GD) (ev : Env → R (List (D × Kd))) (t : TA) : Prop := ∀ (X : Fr) (F : AS) (ρ : Env) (σ : L2.St) (H : Hp) (Q : List V → Hp → Prop) (xs : List (D × Kd)) (ρ' : Env), SR G X F ρ σ H → ev ρ = .ok xs ρ' →
  (∀ vs H' F', Po G X σ F ρ H F' ρ' H' → MR G X (Mm F' ρ' σ) H' F F' vs xs → Q vs H') → t σ H Q
theorem sm_nil : SMt G (fun ρ => .ok [] ρ) tNil := by
  intro X F ρ σ H Q xs ρ' S h q
  cases h
  exact q [] H F (Po.refl S) .nil
theorem sm_cons {ea : Env → R (D × Kd)} {er : Env → R (List (D × Kd))} {ta : TE} {tr : TA} (ha : SE G ea ta) (hr : SMt G er tr) :
    SMt G (fun ρ => (ea ρ).bind fun x ρ => (keep ρ x.1 x.2).bind fun x ρ => (er ρ).bind fun xs ρ => .ok (x :: xs) ρ) (tCons ta tr) := by
  intro X F ρ σ H Q xs ρ' S h q
  obtain ⟨⟨d1, k1⟩, ρ1, h1, h⟩ := bind_ok h
  obtain ⟨⟨d2, k2⟩, ρ2, h2, h⟩ := bind_ok h
  obtain ⟨ys, ρ3, h3, h⟩ := bind_ok h
  cases h
  refine ha X F ρ σ H _ d1 k1 ρ1 S h1 fun v1 H1 F1 p1 r1 => ?_
  obtain ⟨F2, p2, r2⟩ := keep_ok p1 r1 h2
  refine hr X F2 ρ2 σ H1 _ ys ρ' p2.sr h3 fun vs H2 F3 p3 r3 => ?_
  cases r2 with
  | frz e r =>
    subst e
    exact q _ _ F3 (p2.trans p3) (.frz (r.le p3.le) r3)
  | @fr p _ e n1 n2 n3 c =>
    subst e
    exact q _ _ F3 (p2.trans p3) (.fr n1 n2 (c.le p3.le (p3.keep p (.inl rfl)).2) r3)
  | pk e e1 r =>
    -- what is kept is no name's own
    exfalso
    cases k1 with
    | frz => cases h2
    | fr => cases h2
    | pk j =>
      obtain ⟨y, ρ4, _, h4⟩ := bind_ok (show (settle ρ1 d1 (.pk j)).bind (fun d ρ => R.ok (d, Kd.frz) ρ) = .ok (d2, .pk _) ρ2 from h2)
      cases h4
/-- the stores, from the left -/
def setAll : List Nat → List V → L2.St → L2.St
  | i :: is, v :: vs, σ => setAll is vs (σ.set i (some v))
  | _, _, σ => σ
theorem puts_ok {X : Fr} : ∀ {is : List Nat} {vs : List V} {xs : List (D × Kd)} {F F' : AS} {ρ ρ' : Env} {σ : L2.St} {H : Hp}, SR G X F' ρ σ H → MR G X (Mm F' ρ σ) H F F' vs xs → puts is xs ρ = .ok () ρ' →
    SR G X F ρ' (setAll is vs σ) H ∧ (∀ a o, Hr H (Mm F' ρ σ) a = some o → Hr H (Mm F ρ' (setAll is vs σ)) a = some o)
  | [], _, _, F, _, ρ, ρ', σ, H, S, .nil, h => by cases h; exact ⟨S, fun _ _ e => e⟩
  | [], _, _, F, F', ρ, ρ', σ, H, S, .frz _ _, h => by cases h
  | [], _, _, F, F', ρ, ρ', σ, H, S, .fr _ _ _ _, h => by cases h
  | _ :: _, _, _, F, _, ρ, ρ', σ, H, S, .nil, h => by cases h
  | i :: is, _, _, F, F', ρ, ρ', σ, H, S, .frz (v := v) (d := d) (vs := vs) (xs := xs) r rs, h => by
    obtain ⟨u, ρ1, h1, h⟩ := bind_ok (show (putName ρ i d .frz).bind (fun _ ρ => puts is xs ρ) = .ok () ρ' from h)
    have key : (∀ x, getS ρ i ≠ .io x) → (if i < ρ.length then R.ok () (ρ.set i (.val d)) else .no) = .ok () ρ1 → SR G X F ρ' (setAll is vs (σ.set i (some v))) H ∧ (∀ a o, Hr H (Mm F' ρ σ) a = some o → Hr H (Mm F ρ' (setAll is vs (σ.set i (some v)))) a = some o) := fun n h1 => by
      split at h1
      · rename_i hi
        cases h1
        have p := put_frz S hi (not_io n) r
        obtain ⟨S2, le2⟩ := puts_ok p.sr (rs.le p.le fun _ _ => rfl) h
        exact ⟨S2, fun a o e => le2 a o (p.le a o e)⟩
      · cases h1
    unfold putName at h1
    cases e : getS ρ i with
    | io x => rw [e] at h1; cases h1
    | un => rw [e] at h1; exact key (fun x z => by rw [e] at z; cases z) h1
    | val y => rw [e] at h1; exact key (fun x z => by rw [e] at z; cases z) h1
    | own y => rw [e] at h1; exact key (fun x z => by rw [e] at z; cases z) h1
  | i :: is, _, _, F, F', ρ, ρ', σ, H, S, .fr (p := p) (d := d) (vs := vs) (xs := xs) nF h0 c rs, h => by
    obtain ⟨u, ρ1, h1, h⟩ := bind_ok (show (putName ρ i d .fr).bind (fun _ ρ => puts is xs ρ) = .ok () ρ' from h)
    have key : (∀ x, getS ρ i ≠ .io x) → (if i < ρ.length then R.ok () (ρ.set i (.own d)) else .no) = .ok () ρ1 → SR G X F ρ' (setAll is vs (σ.set i (some (.ref p)))) H ∧ (∀ a o, Hr H (Mm F' ρ σ) a = some o → Hr H (Mm F ρ' (setAll is vs (σ.set i (some (.ref p))))) a = some o) := fun n h1 => by
      split at h1
      · rename_i hi
        cases h1
        have hp : F' p := MR.le.MR.sub rs p (.inl rfl)
        have pp := put_fr (F := fun a => F' a ∧ a ≠ p) S (fun a => ⟨fun z => (Classical.em (a = p)).imp id fun n => ⟨z, n⟩, fun z => z.elim (fun e => e ▸ hp) (·.1)⟩) (fun z => z.2 rfl) hi (not_io n) h0 c
        have rs2 : ∀ {F0 F1 : AS} {vs : List V} {xs : List (D × Kd)} {M : AS}, MR G X M H F0 F1 vs xs → (∀ a, F0 a ↔ a = p ∨ (F0 a ∧ a ≠ p)) → F0 p → MR G X M H (fun a => F0 a ∧ a ≠ p) (fun a => F1 a ∧ a ≠ p) vs xs := fun {F0 F1 vs xs M} m => by
          induction m with
          | nil => exact fun _ _ => .nil
          | frz r _ ih => exact fun e hp => .frz r (ih e hp)
          | @fr F0 F1 q d vs xs n h0 c _ ih =>
            intro e hp
            have hq : q ≠ p := fun z => n (z ▸ hp)
            refine .fr (fun z => n z.1) h0 c ?_
            have := ih (fun a => ⟨fun z => (Classical.em (a = p)).imp id fun n => ⟨z, n⟩, fun z => z.elim (fun e => .inr (e ▸ hp)) (·.1)⟩) (.inr hp)
            have ee : (fun a => addF F0 q a ∧ a ≠ p) = addF (fun a => F0 a ∧ a ≠ p) q := by
              funext a
              refine propext ⟨fun z => z.1.imp id fun w => ⟨w, z.2⟩, fun z => ?_⟩
              rcases z with z | z
              · exact ⟨.inl z, z ▸ hq⟩
              · exact ⟨.inr z.1, z.2⟩
            rw [ee] at this
            exact this
        have m2 := rs2 rs (fun a => ⟨fun z => (Classical.em (a = p)).imp id fun n => ⟨z, n⟩, fun z => z.elim (fun e => .inl e) (·.1)⟩) (.inl rfl)
        have ee : (fun a => addF F p a ∧ a ≠ p) = F := by
          funext a
          refine propext ⟨fun z => z.1.elim (fun e => absurd e z.2) id, fun z => ⟨.inr z, fun e => nF (e ▸ z)⟩⟩
        rw [ee] at m2
        obtain ⟨S2, le2⟩ := puts_ok pp.1 (m2.le pp.2 fun _ _ => rfl) h
        exact ⟨S2, fun a o e => le2 a o (pp.2 a o e)⟩
      · cases h1
    unfold putName at h1
    cases e : getS ρ i with
    | io x => rw [e] at h1; cases h1
    | un => rw [e] at h1; exact key (fun x z => by rw [e] at z; cases z) h1
    | val y => rw [e] at h1; exact key (fun x z => by rw [e] at z; cases z) h1
    | own y => rw [e] at h1; exact key (fun x z => by rw [e] at z; cases z) h1
theorem MR.sub {X : Fr} {M : AS} {H : Hp} {F F' : AS} {vs : List V} {xs : List (D × Kd)} (h : MR G X M H F F' vs xs) : ∀ p, F p → F' p := MR.le.MR.sub h
theorem MR.len {X : Fr} {M : AS} {H : Hp} {F F' : AS} {vs : List V} {xs : List (D × Kd)} (h : MR G X M H F F' vs xs) : vs.length = xs.length := by
  induction h with
  | nil => rfl
  | frz _ _ ih => exact congrArg (· + 1) ih
  | fr _ _ _ _ ih => exact congrArg (· + 1) ih
theorem puts_len : ∀ {is : List Nat} {xs : List (D × Kd)} {ρ ρ' : Env}, puts is xs ρ = .ok () ρ' → xs.length = is.length
  | [], [], _, _, _ => rfl
  | [], _ :: _, _, _, h => by cases h
  | _ :: _, [], _, _, h => by cases h
  | i :: is, d :: ds, ρ, ρ', h => by
    obtain ⟨u, ρ1, _, h⟩ := bind_ok (show (putName ρ i d.1 d.2).bind (fun _ ρ => puts is ds ρ) = .ok () ρ' from h)
    rw [List.length_cons, List.length_cons, puts_len h]
theorem ss_par {i j : Nat} {em : Env → R (List (D × Kd))} {ta : TA} (hm : SMt G em ta) :
    SSt G (fun ρ => (em ρ).fl fun xs ρ => (puts [i, j] xs ρ).fl fun _ ρ => .nx ρ) (tPar i j ta) := by
  intro X F ρ σ H D fl S h n q1 q2
  obtain ⟨xs, ρ1, h1, h⟩ := fl_ok h n
  obtain ⟨u, ρ2, h2, h⟩ := fl_ok h n
  refine hm X F ρ σ H _ xs ρ1 S h1 fun vs H1 F1 p1 r1 => ?_
  have hl := r1.len.trans (puts_len h2)
  match vs, hl, r1 with
  | [v, w], _, r1 =>
    obtain ⟨S2, le2⟩ := puts_ok p1.sr r1 h2
    exact ⟨v, w, rfl, q1 _ h.symm _ _ ⟨S2, fun a o e => le2 a o (p1.le a o e), fun x z => (p1.keep x z).2⟩⟩
theorem ss_par3 {i j l : Nat} {em : Env → R (List (D × Kd))} {ta : TA} (hm : SMt G em ta) :
    SSt G (fun ρ => (em ρ).fl fun xs ρ => (puts [i, j, l] xs ρ).fl fun _ ρ => .nx ρ) (tPar3 i j l ta) := by
  intro X F ρ σ H D fl S h n q1 q2
  obtain ⟨xs, ρ1, h1, h⟩ := fl_ok h n
  obtain ⟨u, ρ2, h2, h⟩ := fl_ok h n
  refine hm X F ρ σ H _ xs ρ1 S h1 fun vs H1 F1 p1 r1 => ?_
  have hl := r1.len.trans (puts_len h2)
  match vs, hl, r1 with
  | [v, w, x], _, r1 =>
    obtain ⟨S2, le2⟩ := puts_ok p1.sr r1 h2
    exact ⟨v, w, x, rfl, q1 _ h.symm _ _ ⟨S2, fun a o e => le2 a o (p1.le a o e), fun x z => (p1.keep x z).2⟩⟩
/-- several names at once, by way of a tuple -/
def gNames : List Nat → TGs
  | [] => gNil
  | i :: r => gCons (gName i) (gNames r)
theorem gNames_ok {Q : L2.St → Hp → Prop} {H : Hp} : ∀ {is : List Nat} {vs : List V} {σ : L2.St}, vs.length = is.length → Q (setAll is vs σ) H → gNames is vs σ H Q
  | [], [], _, _, q => ⟨rfl, q⟩
  | [], _ :: _, _, h, _ => by simp at h
  | _ :: _, [], _, h, _ => by simp at h
  | i :: is, v :: vs, σ, h, q => ⟨v, vs, rfl, gNames_ok (is := is) (vs := vs) (by simpa using h) q⟩
theorem ss_parN {is : List Nat} {em : Env → R (List (D × Kd))} {ta : TA} (hl : is.length ≤ 1000) (hm : SMt G em ta) :
    SSt G (fun ρ => (em ρ).fl fun xs ρ => (puts is xs ρ).fl fun _ ρ => .nx ρ) (tAsg (tTup ta) (gTup G.K is.length (gNames is))) := by
  intro X F ρ σ H D fl S h n q1 q2
  obtain ⟨xs, ρ1, h1, h⟩ := fl_ok h n
  obtain ⟨u, ρ2, h2, h⟩ := fl_ok h n
  refine hm X F ρ σ H _ xs ρ1 S h1 fun vs H1 F1 p1 r1 => ?_
  have hlen := r1.len.trans (puts_len h2)
  refine ⟨by rw [hlen, sizeLine_eq]; omega, fun a ha => ?_⟩
  have L := Po.laid (o := .tup vs) p1.sr ha
  have r2 := r1.le L.le fun p hp => (L.keep p hp).2
  obtain ⟨S2, le2⟩ := puts_ok L.sr r2 h2
  exact ⟨a, vs, rfl, .inl (.inl upd_same), hlen, gNames_ok hlen (q1 _ h.symm _ _ ⟨S2, fun b o e => le2 b o (L.le b o (p1.le b o e)), fun x z => (L.keep x (p1.keep x z).1).2.trans (p1.keep x z).2⟩)⟩
end
end Mp

set_option maxRecDepth 100000
set_option maxHeartbeats 4000000
/-! Mq14: dicts, ranges as values, list(range), pop, index, count, instances made by keyword, sound. -/
namespace Mp
open PySem PySem.Spec PyProof.Rows L2
section
variable {G : GD} {X : Fr} {F : AS} {ρ ρ' : Env} {σ : L2.St} {H : Hp}
theorem own_atS (S : SR G X F ρ σ H) {i : Nat} (h : ownS (getS ρ i) = true) : ∃ p, σ[i]? = some (some (.ref p)) ∧ OwnAt ρ σ i p := by
  cases e : getS ρ i with
  | own d =>
    have g := getS_eq e (by simp)
    obtain ⟨p, e1, c⟩ := S.slot i _ g
    exact ⟨p, e1, ⟨_, .inl g⟩, e1⟩
  | io d =>
    have g := getS_eq e (by simp)
    obtain ⟨p, e1, c⟩ := S.slot i _ g
    exact ⟨p, e1, ⟨_, .inr g⟩, e1⟩
  | _ => rw [e] at h; cases h
theorem ownD_at {i : Nat} {d : D} (h : ownD (getS ρ i) = some d) : ρ[i]? = some (.own d) ∧ setIo ρ i = (fun d' => ρ.set i (.own d')) ∨ ρ[i]? = some (.io d) ∧ setIo ρ i = fun d' => ρ.set i (.io d') := by
  cases e : getS ρ i with
  | own x =>
    rw [e] at h
    cases h
    exact .inl ⟨getS_eq e (by simp), by funext d'; unfold setIo; rw [e]⟩
  | io x =>
    rw [e] at h
    cases h
    exact .inr ⟨getS_eq e (by simp), by funext d'; unfold setIo; rw [e]⟩
  | _ => rw [e] at h; cases h
theorem ownD_c (S : SR G X F ρ σ H) {i : Nat} {d : D} {p : Addr} (h : ownD (getS ρ i) = some d) (e1 : σ[i]? = some (some (.ref p))) : OwnC G (Mm F ρ σ) H p d := by
  rcases ownD_at h with ⟨e4, _⟩ | ⟨e4, _⟩
  · obtain ⟨p', q1, c⟩ := S.slot i _ e4
    rw [e1] at q1; cases q1; exact c
  · obtain ⟨p', q1, c⟩ := S.slot i _ e4
    rw [e1] at q1; cases q1; exact c
/-- an own object's content is changed, within an expression -/
theorem po_ownG {i : Nat} {p : Addr} {d d' : D} {o : HO} (S : SR G X F ρ σ H) (h1 : ownD (getS ρ i) = some d) (h2 : σ[i]? = some (some (.ref p)))
    (c : (∀ a o', Hr H (Mm F ρ σ) a = some o' → Hr (upd H p o) (Mm F ρ σ) a = some o') → OwnC G (Mm F ρ σ) (upd H p o) p d') :
    Po G X σ F ρ H F (setIo ρ i d') (upd H p o) := by
  obtain ⟨s0, s1, e0, k, e1⟩ : ∃ s0 s1, ρ[i]? = some s0 ∧ ((∃ x, s0 = .own x) ∧ s1 = .own d' ∨ (∃ x, s0 = .io x) ∧ s1 = .io d') ∧ setIo ρ i d' = ρ.set i s1 := by
    rcases ownD_at h1 with ⟨e4, e5⟩ | ⟨e4, e5⟩
    · exact ⟨_, _, e4, .inl ⟨⟨_, rfl⟩, rfl⟩, by rw [e5]⟩
    · exact ⟨_, _, e4, .inr ⟨⟨_, rfl⟩, rfl⟩, by rw [e5]⟩
  have w := put_ownG S e0 k h2 c
  have hi : i < ρ.length := (List.getElem?_eq_some_iff.mp e0).1
  rw [e1]
  refine ⟨w.sr, w.le, fun q z => ⟨z, w.keep q z⟩, fun j q ⟨⟨x, z⟩, hw⟩ => ?_, fun j ⟨x, z⟩ => ?_⟩
  · by_cases hj : j = i
    · subst hj
      rcases k with ⟨⟨y, rfl⟩, rfl⟩ | ⟨⟨y, rfl⟩, rfl⟩
      · exact ⟨⟨y, .inl e0⟩, hw⟩
      · exact ⟨⟨y, .inr e0⟩, hw⟩
    · rw [List.getElem?_set_ne (Ne.symm hj)] at z
      exact ⟨⟨x, z⟩, hw⟩
  · by_cases hj : j = i
    · subst hj
      rcases k with ⟨_, rfl⟩ | ⟨_, rfl⟩
      · exact ⟨d', .inl (List.getElem?_set_self hi)⟩
      · exact ⟨d', .inr (.inl (List.getElem?_set_self hi))⟩
    · exact ⟨x, by rw [List.getElem?_set_ne (Ne.symm hj)]; exact z⟩
theorem dt_get : ∀ {kvs' : List (List Key × V)} {kvs : List (DK × D)} {k : DK} {d : D}, kvs'.map (·.1) = kvs.map (·.1) → DtA G H (kvs'.map (·.2)) (kvs.map (·.2)) → dGet kvs k = some d → ∃ v, valV kvs' k = some v ∧ Dt G H v d
  | [], [], k, d, _, _, h => by cases h
  | [], _ :: _, _, _, e, _, _ => by simp at e
  | _ :: _, [], _, _, e, _, _ => by simp at e
  | (a, v) :: kvs', (b, x) :: kvs, k, d, e, r, h => by
    have e' : a = b ∧ kvs'.map (·.1) = kvs.map (·.1) := by simpa using e
    obtain ⟨rfl, e2⟩ := e'
    cases r with
    | cons r1 r2 =>
      by_cases c : a = k
      · have hd : dGet ((a, x) :: kvs) k = some x := by simp [dGet, List.find?_cons, c]
        rw [hd] at h
        cases h
        exact ⟨v, valV_pos (p := (a, v)) c, r1⟩
      · have hd : dGet ((a, x) :: kvs) k = dGet kvs k := by simp [dGet, List.find?_cons, c]
        rw [hd] at h
        rw [valV_neg (p := (a, v)) c]
        exact dt_get e2 r2 h
theorem any_keys {kvs' : List (List Key × V)} {kvs : List (DK × D)} {k : DK} (e : kvs'.map (·.1) = kvs.map (·.1)) : (kvs'.any fun kv => decide (kv.1 = k)) = kvs.any fun kv => decide (kv.1 = k) := by
  have h1 : (kvs'.any fun kv => decide (kv.1 = k)) = (kvs'.map (·.1)).any fun x => decide (x = k) := by rw [List.any_map] <;> rfl
  have h2 : (kvs.any fun kv => decide (kv.1 = k)) = (kvs.map (·.1)).any fun x => decide (x = k) := by rw [List.any_map] <;> rfl
  rw [h1, h2, e]
theorem dt_put {kvs' : List (List Key × V)} {kvs : List (DK × D)} {k : DK} {v : V} {d : D} (e : kvs'.map (·.1) = kvs.map (·.1)) (r : DtA G H (kvs'.map (·.2)) (kvs.map (·.2))) (rv : Dt G H v d) :
    (putK kvs' k v).map (·.1) = (dPut kvs k d).map (·.1) ∧ DtA G H ((putK kvs' k v).map (·.2)) ((dPut kvs k d).map (·.2)) := by
  have rep : ∀ {kvs' : List (List Key × V)} {kvs : List (DK × D)}, kvs'.map (·.1) = kvs.map (·.1) → DtA G H (kvs'.map (·.2)) (kvs.map (·.2)) →
      (kvs'.map fun kv => if kv.1 = k then (kv.1, v) else kv).map (·.1) = (kvs.map fun kv => if kv.1 = k then (kv.1, d) else kv).map (·.1) ∧
      DtA G H ((kvs'.map fun kv => if kv.1 = k then (kv.1, v) else kv).map (·.2)) ((kvs.map fun kv => if kv.1 = k then (kv.1, d) else kv).map (·.2)) := by
    intro kvs'
    induction kvs' with
    | nil =>
      intro kvs e r
      cases kvs with
      | nil => exact ⟨rfl, .nil⟩
      | cons => simp at e
    | cons q kvs' ih =>
      intro kvs e r
      cases kvs with
      | nil => simp at e
      | cons p kvs =>
        obtain ⟨a, w⟩ := q
        obtain ⟨b, x⟩ := p
        have e' : a = b ∧ kvs'.map (·.1) = kvs.map (·.1) := by simpa using e
        obtain ⟨rfl, e2⟩ := e'
        cases r with
        | cons r1 r2 =>
          obtain ⟨i1, i2⟩ := ih e2 r2
          by_cases c : a = k
          · simp only [List.map_cons, if_pos c]
            exact ⟨by rw [i1], .cons rv i2⟩
          · simp only [List.map_cons, if_neg c]
            exact ⟨by rw [i1], .cons r1 i2⟩
  unfold putK dPut
  rw [any_keys e]
  by_cases c : (kvs.any fun kv => decide (kv.1 = k)) = true
  · rw [if_pos c, if_pos c]
    exact rep e r
  · rw [if_neg c, if_neg c]
    rw [List.map_append, List.map_append, List.map_append, List.map_append, e]
    exact ⟨rfl, r.append (.cons rv .nil)⟩
end
section
variable {G : GD}
theorem dix_ok {ρ ρ' : Env} {i : Nat} {a b d : D} {k : Kd} (h : vopD .dix ρ i a b = .ok (d, k) ρ') : ∃ m n kvs, a = .int m ∧ b = .int n ∧ ownD (getS ρ i) = some (.dct kvs) ∧ dGet kvs [.inl m, .inl n] = some d ∧ k = .frz ∧ ρ' = ρ := by
  cases a with
  | int m =>
    cases b with
    | int n =>
      have h' : (match ownD (getS ρ i) with
        | some (.dct kvs) => (R.of (dGet kvs [.inl m, .inl n]) ρ).bind fun z ρ => R.ok (z, Kd.frz) ρ
        | _ => .no) = .ok (d, k) ρ' := h
      cases e : ownD (getS ρ i) with
      | none => rw [e] at h'; cases h'
      | some x =>
        rw [e] at h'
        cases x with
        | dct kvs =>
          obtain ⟨z, h3, h4⟩ := ofb_ok h'
          cases h4
          exact ⟨m, n, kvs, rfl, rfl, rfl, h3, rfl, rfl⟩
        | _ => cases h'
    | _ => cases h
  | _ => cases h
theorem se_dix {i : Nat} {ea eb : Env → R (D × Kd)} {ta tb : TE} (ha : SE G ea ta) (hb : SE G eb tb) :
    SE G (fun ρ => if ownS (getS ρ i) = true then (ea ρ).bind fun x ρ => (eb ρ).bind fun y ρ => vopD .dix ρ i x.1 y.1 else .no) (tDGet (tVar i) (tTup (tCons ta (tCons tb tNil)))) := by
  intro X F ρ σ H Q d k ρ' S h q
  dsimp only at h
  split at h
  · rename_i ho
    obtain ⟨p, e1, _⟩ := own_atS S ho
    obtain ⟨⟨d1, k1⟩, ρ1, h1, h⟩ := bind_ok h
    obtain ⟨⟨d2, k2⟩, ρ2, h2, h⟩ := bind_ok h
    obtain ⟨m, n, kvs, e3, e4, e5, e6, rfl, rfl⟩ := dix_ok h
    have e3 : d1 = .int m := e3
    have e4 : d2 = .int n := e4
    subst e3 e4
    refine ⟨.ref p, e1, ?_⟩
    refine ha X F ρ σ H _ _ k1 ρ1 S h1 fun v1 H1 F1 p1 r1 => ?_
    refine hb X F1 ρ1 σ H1 _ _ k2 ρ' p1.sr h2 fun v2 H2 F2 p2 r2 => ?_
    have P := p1.trans p2
    obtain ⟨kvs', hp, hk, hr⟩ := ownD_c P.sr e5 e1
    refine ⟨by simp [sizeLine_eq], fun t ht => ?_⟩
    obtain ⟨v, hv, dt⟩ := dt_get hk hr e6
    have e1' := r1.int p1.sr
    have e2' := r2.int p2.sr
    subst e1' e2'
    have L := Po.laid (o := .tup [.int m, .int n]) P.sr ht
    have g := DGet.t (H := upd H2 t (.tup [.int m, .int n])) (a := p) (b := t) (k := [.inl m, .inl n]) (by rw [upd_ne (ne_of_none hp ht)]; exact hp) upd_same
    rw [hv] at g
    obtain ⟨F3, p3, r3⟩ := fin_op (P.trans L) (.old (dt.le L.le))
    exact ⟨p, v, rfl, g, q v _ F3 p3 r3⟩
  · cases h
theorem dst_ok {ρ ρ' : Env} {i : Nat} {a b d : D} (h : dStore ρ i a b d = some ρ') : ∃ m n kvs, a = .int m ∧ b = .int n ∧ ownD (getS ρ i) = some (.dct kvs) ∧ kvs.length < sizeLine ∧ ρ' = setIo ρ i (.dct (dPut kvs [.inl m, .inl n] d)) := by
  unfold dStore at h
  cases e : ownD (getS ρ i) with
  | none => rw [e] at h; cases h
  | some x =>
    rw [e] at h
    cases x with
    | dct kvs =>
      cases a with
      | int m =>
        cases b with
        | int n =>
          dsimp only at h
          split at h
          · rename_i c
            cases h
            exact ⟨m, n, kvs, rfl, rfl, rfl, c, rfl⟩
          · cases h
        | _ => cases h
      | _ => cases h
    | _ => cases h
theorem ss_dst {i : Nat} {ea eb ee : Env → R (D × Kd)} {ta tb te : TE} (ha : SE G ea ta) (hb : SE G eb tb) (he : SE G ee te) :
    SSt G (fun ρ => (ee ρ).fl fun v ρ => (settle ρ v.1 v.2).fl fun d ρ => if ownS (getS ρ i) = true then (ea ρ).fl fun x ρ => (eb ρ).fl fun y ρ => (match dStore ρ i x.1 y.1 d with | some ρ => .nx ρ | none => .no) else .no) (sDPut (tVar i) (tTup (tCons ta (tCons tb tNil))) te) := by
  intro X F ρ σ H D fl S h n q1 q2
  obtain ⟨⟨d0, k0⟩, ρ0, h0, h⟩ := fl_ok h n
  obtain ⟨d, ρ2, h2, h⟩ := fl_ok h n
  split at h
  · rename_i ho
    obtain ⟨⟨d1, k1⟩, ρ3, h3, h⟩ := fl_ok h n
    obtain ⟨⟨d2, k2⟩, ρ4, h4, h⟩ := fl_ok h n
    cases h5 : dStore ρ4 i d1 d2 d with
    | none => dsimp only at h; rw [h5] at h; exact absurd h.symm n
    | some ρ5 =>
      dsimp only at h
      rw [h5] at h
      obtain ⟨m, l, kvs, e3, e4, e5, e6, e7⟩ := dst_ok h5
      subst e3 e4
      refine he X F ρ σ H _ d0 k0 ρ0 S h0 fun v0 H0 F0 p0 r0 => ?_
      obtain ⟨p2, r2⟩ := settle_ok p0 r0 h2
      obtain ⟨p, e1, _⟩ := own_atS p2.sr ho
      refine ⟨.ref p, e1, ?_⟩
      refine ha X F ρ2 σ H0 _ _ k1 ρ3 p2.sr h3 fun v1 H1 F1 pa ra => ?_
      refine hb X F1 ρ3 σ H1 _ _ k2 ρ4 pa.sr h4 fun v2 H2 F2 pb rb => ?_
      have PP := pa.trans pb
      have P := PP.drop (F2 := F) (fun _ h => h) (sub_of PP)
      refine ⟨by simp [sizeLine_eq], fun t ht => ?_⟩
      have ea' := ra.int pa.sr
      have eb' := rb.int pb.sr
      subst ea' eb'
      have L := Po.laid (o := .tup [.int m, .int l]) P.sr ht
      obtain ⟨kvs', hp, hk, hr⟩ := ownD_c P.sr e5 e1
      have ne : p ≠ t := ne_of_none hp ht
      have hp2 : upd H2 t (.tup [.int m, .int l]) p = some (.dT kvs') := by rw [upd_ne ne]; exact hp
      have hl : kvs'.length = kvs.length := by
        have := congrArg List.length hk
        simpa using this
      have w := po_ownG (d' := .dct (dPut kvs [.inl m, .inl l] d)) (o := .dT (putK kvs' [.inl m, .inl l] v0)) L.sr e5 e1 fun le => by
        obtain ⟨i1, i2⟩ := dt_put (k := [.inl m, .inl l]) hk (hr.le fun a o e => le a o (L.le a o e)) (r2.le fun a o e => le a o (L.le a o (P.le a o e)))
        exact ⟨_, upd_same, i1, i2⟩
      subst e7
      exact ⟨p, _, rfl, DPut.t (k := [.inl m, .inl l]) hp2 upd_same (by rw [hl]; exact e6), q1 _ h.symm σ _ (p2.s.trans ((P.trans L).trans w).s)⟩
  · exact absurd h.symm n
theorem se_dnew : SE G (fun ρ => .ok (.dct [], .fr) ρ) tDNewT := by
  intro X F ρ σ H Q d k ρ' S h q
  cases h
  intro p hn
  have hq : ¬ F p := fun z => S.fdom p z hn
  obtain ⟨n1, n2⟩ := S.new0 hn
  exact q _ _ (addF F p) (Po.laidF S hn) (.fr rfl hq n1 n2 ⟨[], upd_same, rfl, .nil⟩)
/-- x.pop(i) -/
theorem pop_ok {ρ ρ' : Env} {i : Nat} {a d : D} {k : Kd} (h : vopD .pop ρ i a .non = .ok (d, k) ρ') : ∃ m xs j, a = .int m ∧ ownD (getS ρ i) = some (.lst xs) ∧ (-(2 ^ 63) ≤ m ∧ m < 2 ^ 63) ∧ Mp.ixN xs.length m = some j ∧ xs[j]? = some d ∧ k = .frz ∧ ρ' = setIo ρ i (.lst (xs.eraseIdx j)) := by
  cases a with
  | int m =>
    have h' : (match ownD (getS ρ i) with
      | some (.lst xs) => if -(2 ^ 63) ≤ m ∧ m < 2 ^ 63 then (match Mp.ixN xs.length m with
        | some k => (match xs[k]? with
          | some y => R.ok (y, Kd.frz) (setIo ρ i (.lst (xs.eraseIdx k)))
          | none => .no)
        | none => .no) else .no
      | _ => .no) = .ok (d, k) ρ' := h
    cases e : ownD (getS ρ i) with
    | none => rw [e] at h'; cases h'
    | some x =>
      rw [e] at h'
      cases x with
      | lst xs =>
        dsimp only at h'
        split at h'
        · rename_i c
          cases e2 : Mp.ixN xs.length m with
          | none => rw [e2] at h'; cases h'
          | some j =>
            rw [e2] at h'
            dsimp only at h'
            cases e3 : xs[j]? with
            | none => rw [e3] at h'; cases h'
            | some y =>
              rw [e3] at h'
              cases h'
              exact ⟨m, xs, j, rfl, rfl, c, e2, e3, rfl, rfl⟩
        · cases h'
      | _ => cases h'
  | _ => cases h
theorem DtA.erase {H : Hp} : ∀ {vs : List V} {ds : List D} (i : Nat), DtA G H vs ds → DtA G H (vs.eraseIdx i) (ds.eraseIdx i)
  | _, _, _, .nil => .nil
  | _, _, 0, .cons _ r => r
  | _, _, i + 1, .cons q r => .cons q (DtA.erase i r)
theorem se_pop {i : Nat} {ea : Env → R (D × Kd)} {ta : TE} (ha : SE G ea ta) :
    SE G (fun ρ => if ownL (getS ρ i) = true then (ea ρ).bind fun x ρ => vopD .pop ρ i x.1 .non else .no) (tBM G.K "list" rPopAt (tVar i) (tCons ta tNil)) := by
  intro X F ρ σ H Q d k ρ' S h q
  dsimp only at h
  split at h
  · rename_i ho
    obtain ⟨p, vs0, e1, op, hp0⟩ := own_at S ho
    obtain ⟨⟨d1, k1⟩, ρ1, h1, h⟩ := bind_ok h
    obtain ⟨m, xs, j, e3, e5, c, e6, e7, rfl, rfl⟩ := pop_ok h
    have e3 : d1 = .int m := e3
    subst e3
    refine ⟨_, e1, .inl ⟨rfl, vs0, .inl (.inl hp0)⟩, ?_⟩
    refine ha X F ρ σ H _ _ k1 ρ1 S h1 fun v1 H1 F1 p1 r1 => ?_
    have e1' := r1.int p1.sr
    subst e1'
    have P := p1.drop (F2 := F) (fun _ h => h) (sub_of p1)
    obtain ⟨vs, hp, rv⟩ := ownD_c P.sr e5 e1
    obtain ⟨y, hy, dt⟩ := rv.get e7
    have w := po_ownG (d' := .lst (xs.eraseIdx j)) (o := .lst (vs.eraseIdx j)) P.sr e5 e1 fun le => ⟨_, upd_same, (rv.le le).erase j⟩
    have e6' : L2.ixN vs.length m = some j := by rw [rv.length]; exact e6
    exact ⟨p, vs, m, j, y, rfl, rfl, hp, c.1, c.2, (ixN_seq e6').1, hy, q _ _ F (P.trans w) (.frz rfl (dt.le w.le))⟩
  · cases h
theorem rgV_dt {H : Hp} {a b : Int} : DtA G H (rgV a b) (rngD a b) := by
  unfold rgV rngD
  induction List.range (b - a).toNat with
  | nil => exact .nil
  | cons i l ih => exact .cons (.int _) ih
theorem se_lof1 {ea : Env → R (D × Kd)} {ta : TE} (ha : SE G ea ta) :
    SE G (fun ρ => (ea ρ).bind fun x ρ => (match x.1 with | .int n => if rgOk 0 n then .ok (.lst (rngD 0 n), .fr) ρ else .no | _ => .no)) (tLstRg (tRg1 ta)) := by
  intro X F ρ σ H Q d k ρ' S h q
  obtain ⟨⟨d1, k1⟩, ρ1, h1, h⟩ := bind_ok h
  cases d1 with
  | int n =>
    dsimp only at h
    split at h
    · rename_i c
      cases h
      refine ha X F ρ σ H _ _ k1 ρ' S h1 fun v1 H1 F1 p1 r1 => ?_
      refine ⟨n, r1.int p1.sr, ⟨c.1.1, c.1.2, c.2.1.1, c.2.1.2, c.2.2⟩, fun t ht => ?_⟩
      obtain ⟨F3, p3, r3⟩ := fin_op p1 (.lst ht rgV_dt)
      exact q _ _ F3 p3 r3
    · cases h
  | _ => cases h
theorem se_lof2 {ea eb : Env → R (D × Kd)} {ta tb : TE} (ha : SE G ea ta) (hb : SE G eb tb) :
    SE G (fun ρ => (ea ρ).bind fun x ρ => (eb ρ).bind fun y ρ => (match x.1, y.1 with | .int m, .int n => if rgOk m n then .ok (.lst (rngD m n), .fr) ρ else .no | _, _ => .no)) (tLstRg (tRg2 ta tb)) := by
  intro X F ρ σ H Q d k ρ' S h q
  obtain ⟨⟨d1, k1⟩, ρ1, h1, h⟩ := bind_ok h
  obtain ⟨⟨d2, k2⟩, ρ2, h2, h⟩ := bind_ok h
  cases d1 with
  | int m =>
    cases d2 with
    | int n =>
      dsimp only at h
      split at h
      · rename_i c
        cases h
        refine ha X F ρ σ H _ _ k1 ρ1 S h1 fun v1 H1 F1 p1 r1 => ?_
        refine hb X F1 ρ1 σ H1 _ _ k2 ρ' p1.sr h2 fun v2 H2 F2 p2 r2 => ?_
        refine ⟨m, n, r1.int p1.sr, r2.int p2.sr, ⟨c.1.1, c.1.2, c.2.1.1, c.2.1.2, c.2.2⟩, fun t ht => ?_⟩
        obtain ⟨F3, p3, r3⟩ := fin_op (p1.trans p2) (.lst ht rgV_dt)
        exact q _ _ F3 p3 r3
      · cases h
    | _ => cases h
  | _ => cases h
/-- range(a), range(a, b) as a value -/
def rRngV : List V → Hp → VK → Prop := fun vs H Q => (∃ j, vs = [V.int j] ∧ ∀ p, H p = none → Q (.ref p) (upd H p (.rng 0 j))) ∨ ∃ i j, vs = [V.int i, V.int j] ∧ ∀ p, H p = none → Q (.ref p) (upd H p (.rng i j))
theorem cr_rngV {X : Cx} : CallR X (.type "range") rRngV := by
  intro pins s σ H vs us Q I r h
  rcases h with ⟨j, rfl, q⟩ | h
  · obtain ⟨u1, rfl, ri⟩ := vals1 r
    obtain ⟨t, rfl⟩ := ri
    refine call_range_1 ⟨.ref s.heap.objs.size, upd H s.heap.objs.size (.rng 0 j), I.laid (fun b o e => Heap.get?_push_of_some _ e) (Nat.le_refl _) ?_, rfl, q _ (I.hok.fresh (Nat.le_refl _))⟩
    exact ⟨_, _, _, Heap.get?_push_size _ rfl⟩
  · exact cr_range2 pins s σ H vs us Q I r h
section
variable {X : Fr} {F F2 : AS} {ρ ρ2 : Env} {σ : L2.St} {H H2 : Hp}
theorem fin_rng {p : Addr} {lo hi : Int} (P : Po G X σ F ρ H F2 ρ2 H2) (hn : H2 p = none) : ∃ F3, Po G X σ F ρ H F3 ρ2 (upd H2 p (.rng lo hi)) ∧ VR G X σ F F3 ρ2 (upd H2 p (.rng lo hi)) (.ref p) (.rng lo hi) .frz := by
  have p3 := P.trans (Po.laid (o := .rng lo hi) P.sr hn)
  refine ⟨F, p3.drop (fun _ h => h) (sub_of P), .frz rfl (.rng (hr_some.mpr ⟨fun z => ?_, upd_same⟩))⟩
  exact P.sr.mdom p (z.imp (sub_of P p) id) hn
end
theorem se_rof1 {ea : Env → R (D × Kd)} {ta : TE} (ha : SE G ea ta) :
    SE G (fun ρ => (ea ρ).bind fun x ρ => (match x.1 with | .int n => .ok (.rng 0 n, .frz) ρ | _ => .no)) (tCB rRngV (tCons ta tNil)) := by
  intro X F ρ σ H Q d k ρ' S h q
  obtain ⟨⟨d1, k1⟩, ρ1, h1, h⟩ := bind_ok h
  cases d1 with
  | int n =>
    cases h
    refine ha X F ρ σ H _ _ k1 ρ' S h1 fun v1 H1 F1 p1 r1 => ?_
    refine .inl ⟨n, by rw [r1.int p1.sr], fun t ht => ?_⟩
    obtain ⟨F3, p3, r3⟩ := fin_rng (lo := 0) (hi := n) p1 ht
    exact q _ _ F3 p3 r3
  | _ => cases h
theorem se_rof2 {ea eb : Env → R (D × Kd)} {ta tb : TE} (ha : SE G ea ta) (hb : SE G eb tb) :
    SE G (fun ρ => (ea ρ).bind fun x ρ => (eb ρ).bind fun y ρ => (match x.1, y.1 with | .int m, .int n => .ok (.rng m n, .frz) ρ | _, _ => .no)) (tCB rRngV (tCons ta (tCons tb tNil))) := by
  intro X F ρ σ H Q d k ρ' S h q
  obtain ⟨⟨d1, k1⟩, ρ1, h1, h⟩ := bind_ok h
  obtain ⟨⟨d2, k2⟩, ρ2, h2, h⟩ := bind_ok h
  cases d1 with
  | int m =>
    cases d2 with
    | int n =>
      cases h
      refine ha X F ρ σ H _ _ k1 ρ1 S h1 fun v1 H1 F1 p1 r1 => ?_
      refine hb X F1 ρ1 σ H1 _ _ k2 ρ' p1.sr h2 fun v2 H2 F2 p2 r2 => ?_
      refine .inr ⟨m, n, by rw [r1.int p1.sr, r2.int p2.sr], fun t ht => ?_⟩
      obtain ⟨F3, p3, r3⟩ := fin_rng (lo := m) (hi := n) (p1.trans p2) ht
      exact q _ _ F3 p3 r3
    | _ => cases h
  | _ => cases h
/-! methods of lists that only look -/
/-- l.count(x) -/
def rCountD (K : PySem.W.Frag) : V → List V → Hp → VK → Prop := fun x xs H Q => ∃ (a : Addr) (y : V) (d : PyData) (ds : List PyData), x = V.ref a ∧ xs = [y] ∧ Dp K H (V.ref a) (.list ds) ∧ Dp K H y d ∧
  SeqAt.shaped (.list ds) = true ∧ SeqAt.shaped d = true ∧ Q (.int (ds.countP fun z => PyData.eqv z d : Nat)) H
theorem mt_countD {X : Cx} (hu : X.A.units + 65 < cLine) : MtR X "list.count" (rCountD X.K) := by
  intro pins s σ H x xs v us Q I rx rxs h
  obtain ⟨a, y, d, ds, rfl, rfl, hl, hy, sl, sd, q⟩ := h
  cases rx
  cases rxs with
  | cons ry rt =>
    rename_i uy ut
    cases rt
    obtain ⟨bs, r1⟩ := Dp.reads I d y uy hy ry
    have hxs : PyData.canLayAll0 ds = true := SeqAt.canLay_of_shaped sl
    have hroom : X.A.units + 1 + min (PyData.depthAll ds) d.depth < cLine := room_in_shaped sd hu
    cases hl with
    | lst hs ha =>
      obtain ⟨its, rv, ⟨⟨cls, dd, data, sls⟩, n, ho, hc, hdn, hdt⟩, hlen⟩ := I.list hs
      simp only at hc hdt
      subst hc hdt
      obtain ⟨as, h4⟩ := Dp.readsAll I ds _ its ha rv
      have hmap : its.map (SeqAt.readOf s.heap) = ds := SeqAt.readsAll_map ds its as hxs h4
      refine call_meets PySem.F.slot_list_count ⟨_, ho, rfl⟩ PySem.F.entry_list_count (PySem.F.args_list_count_2 _ _)
        (SeqAt.list_countAt a its.toArray n dd sls uy (fun u => PyData.eqv (SeqAt.readOf s.heap u) d)) ⟨ho, SeqAt.items_eqAt (vs := its.toArray) (show ReadsAll s.heap its.toArray.toList ds as from h4) r1 hxs (SeqAt.canLay_of_shaped sd) hroom, ?_⟩
      refine ⟨.int (ds.countP fun z => PyData.eqv z d : Nat), H, I.tok _, ⟨s.toks, ?_⟩, q⟩
      rw [← hmap, List.countP_map] <;> rfl
def bmName : Bm → Str
  | .index => "index" | .count => "count"
theorem countP_toPs (f : PyData → Bool) : ∀ xs : List D, (D.toPs xs).countP f = xs.countP fun y => f y.toP
  | [] => rfl
  | x :: xs => by rw [D.toPs, List.countP_cons, List.countP_cons, countP_toPs f xs]
theorem get_toPs : ∀ (xs : List D) (i : Nat), (D.toPs xs)[i]? = xs[i]?.map D.toP
  | [], i => by simp [D.toPs]
  | x :: xs, 0 => by simp [D.toPs]
  | x :: xs, i + 1 => by
    rw [D.toPs, List.getElem?_cons_succ, List.getElem?_cons_succ, get_toPs xs i]
/-- what a method of a list that only looks asks, and gives -/
def bmOk (G : GD) (o : Bm) (r : V → List V → Hp → VK → Prop) : Prop := ∀ (M : AS) (H : Hp) (x y : V) (a b z : D) (fr : Bool) (Q : VK), Sh G M H x a → Sh G M H y b → bmD o a b = some (z, fr) → (∀ v H', NewV G M H v H' z fr → Q v H') → r x [y] H Q
theorem bm_ok (G : GD) (o : Bm) : ∃ (id : String) (r : V → List V → Hp → VK → Prop), (∀ X : Cx, X.K = G.K → X.A.units + 65 < cLine → MtR X id r) ∧ PySem.Slot "list" (bmName o) id ∧ typeOf (.builtin id) = pure (.type "method_descriptor") ∧ bmOk G o r := by
  cases o with
  | index =>
    refine ⟨"list.index", rIndexD G.K, fun X hK hu => hK ▸ mt_indexD hu, PySem.F.slot_list_index, PySem.F.type_list_index, fun M H x y a b z fr Q ha hb h q => ?_⟩
    cases a with
    | lst xs =>
      have h' : (if ((D.lst xs).ok && b.ok && SeqAt.shaped (D.lst xs).toP && SeqAt.shaped b.toP) = true then (xs.findIdx? fun x => PyData.eqv x.toP b.toP).map fun (i : Nat) => (D.int i, false) else none) = some (z, fr) := by
        unfold bmD at h
        exact h
      split at h'
      · rename_i c
        simp only [Bool.and_eq_true] at c
        obtain ⟨⟨⟨c1, c2⟩, c3⟩, c4⟩ := c
        cases e : xs.findIdx? fun x => PyData.eqv x.toP b.toP with
        | none => rw [e] at h'; cases h'
        | some j =>
          rw [e] at h'
          cases h'
          obtain ⟨hj, e2, e3⟩ := List.findIdx?_eq_some_iff_getElem.mp e
          have dl := dp_of ha.dt c1
          have dy := dp_of hb.dt c2
          obtain ⟨p, vs, rfl, _, _⟩ := ha.lst
          refine ⟨p, y, b.toP, D.toPs xs, j, xs[j].toP, rfl, rfl, dl, dy, c3, c4, ?_, e2, fun m z' hm hz => ?_, q _ _ (.old (.int _))⟩
          · rw [get_toPs, List.getElem?_eq_getElem hj] <;> rfl
          · rw [get_toPs, List.getElem?_eq_getElem (Nat.lt_trans hm hj)] at hz
            cases hz
            simpa using e3 m hm
      · cases h'
    | _ => cases h
  | count =>
    refine ⟨"list.count", rCountD G.K, fun X hK hu => hK ▸ mt_countD hu, PySem.F.slot_list_count, PySem.F.type_list_count, fun M H x y a b z fr Q ha hb h q => ?_⟩
    cases a with
    | lst xs =>
      have h' : (if ((D.lst xs).ok && b.ok && SeqAt.shaped (D.lst xs).toP && SeqAt.shaped b.toP) = true then some (D.int ((xs.countP fun x => PyData.eqv x.toP b.toP : Nat)), false) else none) = some (z, fr) := h
      split at h'
      · rename_i c
        simp only [Bool.and_eq_true] at c
        obtain ⟨⟨⟨c1, c2⟩, c3⟩, c4⟩ := c
        cases h'
        have dl := dp_of ha.dt c1
        have dy := dp_of hb.dt c2
        obtain ⟨p, vs, rfl, _, _⟩ := ha.lst
        refine ⟨p, y, b.toP, D.toPs xs, rfl, rfl, dl, dy, c3, c4, ?_⟩
        rw [countP_toPs]
        exact q _ _ (.old (.int _))
      · cases h'
    | _ => cases h
theorem se_bm {o : Bm} {ea eb : Env → R (D × Kd)} {ta tb : TE} {r : V → List V → Hp → VK → Prop} (ha : SE G ea ta) (hb : SE G eb tb) (hr : bmOk G o r) :
    SE G (fun ρ => (ea ρ).bind fun x ρ => if isLst x.1 = true then (eb ρ).bind fun y ρ => (R.of (bmD o (cur ρ x.1 x.2) y.1) ρ).bind fun z ρ => .ok (z.1, kdOf z.2) ρ else .no) (tBM G.K "list" r ta (tCons tb tNil)) := by
  intro X F ρ σ H Q d k ρ' S h q
  obtain ⟨⟨d1, k1⟩, ρ1, h1, h⟩ := bind_ok h
  split at h
  · rename_i hl
    obtain ⟨⟨d2, k2⟩, ρ2, h2, h⟩ := bind_ok h
    obtain ⟨⟨z, fr⟩, h3, h⟩ := ofb_ok h
    cases h
    refine ha X F ρ σ H _ d1 k1 ρ1 S h1 fun v1 H1 F1 p1 r1 => ?_
    have sh := r1.sh p1.sr
    refine ⟨?_, ?_⟩
    · cases d1 with
      | lst xs =>
        obtain ⟨p, vs, rfl, s1, _⟩ := sh.lst
        exact .inl ⟨rfl, vs, s1⟩
      | _ => cases hl
    · refine hb X F1 ρ1 σ H1 _ d2 k2 ρ' p1.sr h2 fun v2 H2 F2 p2 r2 => ?_
      refine hr (Mm F2 ρ' σ) H2 v1 v2 _ d2 z fr Q (r1.held p2) (r2.sh p2.sr) h3 fun v H3 n => ?_
      obtain ⟨F3, p3, r3⟩ := fin_op (p1.trans p2) n
      exact q v H3 F3 p3 r3
  · cases h
theorem mk_core {cl : Nat → List Bool → List D → CRes} {c f n : Nat} {fl : List Str} {E : XK} {X : Fr} {F : AS} {ρ ρ1 ρ' : Env} {σ : L2.St} {H H1 : Hp} {Q : VK} {vs : List V} {as : List Ar} {d : D} {k : Kd} (hn : ∀ fl ds x, cl f fl ds = some x → ds.length = n) (hF : InsF G c fl)
    (p : Po G X σ F ρ H F ρ1 H1) (r : ArR G σ F ρ1 H1 vs as) (h : doMk cl c f fl as ρ1 = .ok (d, k) ρ') (q : ∀ v H' F', Po G X σ F ρ H F' ρ' H' → VR G X σ F F' ρ' H' v d k → Q v H') :
    ∀ x dx, H1 x = none → H1 dx = none → dx ≠ x → spOf G (cl f) n (.ref x :: vs) (upd (upd H1 dx (.own x)) x (.ins (G.ca c) dx [])) (fun v H2 => v = .non ∧ Q (.ref x) H2) E := by
  intro x dx hx hdx hne
  unfold doMk at h
  cases e1 : argsD ρ1 as with
  | none => rw [e1] at h; cases h
  | some ds =>
    rw [e1] at h
    dsimp only at h
    split at h
    · rename_i nio
      cases e2 : cl f (true :: as.map Ar.isIo) (.ins c fl [] :: ds) with
      | none => rw [e2] at h; cases h
      | some y =>
        obtain ⟨dv, b, outs⟩ := y
        rw [e2] at h
        match dv, b, outs, h, e2 with
        | .non, false, [d0], h, e2 =>
          cases h
          have P1 := p.trans (Po.laid (o := .own x) p.sr hdx)
          have hx2 : upd H1 dx (.own x) x = none := by rw [upd_ne (Ne.symm hne)]; exact hx
          have S1 := P1.sr
          have nx : ¬ Mm F ρ1 σ x := fun z => S1.mdom x z hx2
          have S2 := S1.laid (o := .ins (G.ca c) dx []) hx2
          have kp : ∀ a o, H1 a = some o → upd (upd H1 dx (.own x)) x (.ins (G.ca c) dx []) a = some o := fun a o e => by
            rw [upd_ne (ne_of_none e hx), upd_ne (ne_of_none e hdx)]; exact e
          refine ⟨true :: as.map Ar.isIo, .ins c fl [] :: ds, [x], Mm F ρ1 σ, .non, false, [d], e2, hn _ _ _ e2, .io ⟨dx, [], upd_same, by simp, hF, .nil⟩ (arr_noio r nio e1 _ _ (hr_mono (fun a o _ e => kp a o e) fun a z => ?_)), by simp, fun a h z => ?_, fun a z => S2.mdom a z, fun v H3 O => ?_⟩
          · rcases z with z | z
            · exact .inl z
            · right
              have : a = x := by simpa using z
              rw [this]; exact hx
          · have : a = x := by simpa using h
            exact nx (this ▸ z)
          · rcases O.val with ⟨_, dt, ol⟩ | ⟨z, _⟩
            · cases dt
              refine ⟨rfl, ?_⟩
              cases ol with
              | cons oc ol =>
                cases ol
                have O2 : OutR G (fun a => Mm F ρ1 σ a ∧ a ∉ ([] : List (Nat × Addr)).map (·.2)) (([] : List (Nat × Addr)).map (·.2)) (upd H1 dx (.own x)) (.ref x) H3 d false [] := by
                  refine ⟨fun a o _ e => ?_, .inl ⟨rfl, ?_, .nil⟩⟩
                  · have ne : a ≠ x := ne_of_none e hx2
                    exact O.frame a o (by simpa using ne) (by rw [upd_ne ne]; exact e)
                  · refine oc.dt (fun a z => ?_) fun z => ?_
                    · rcases z with z | z
                      · exact .inl z.1
                      · cases z
                    · rcases z with z | z
                      · exact nx z.1
                      · cases z
                obtain ⟨F', P', R⟩ := po_call (as := []) (ps := []) S1 .nil List.nodup_nil O2
                exact q _ H3 F' (P1.trans P') R
            · cases z
    · cases h
theorem se_mkk {cl : Nat → List Bool → List D → CRes} {c f n : Nat} {fl : List Str} {p : List Nat} {N M : Nat} {ea eb : Env → R (List Ar)} {t tk : TA} {E : XK} {gV : List V → List V → List V} (hn : ∀ fl ds x, cl f fl ds = some x → ds.length = n) (hF : InsF G c fl) (ha : SA G ea t) (hb : SA G eb tk)
    (hN : ∀ ρ as ρ', ea ρ = .ok as ρ' → as.length = N) (hM : ∀ ρ as ρ', eb ρ = .ok as ρ' → as.length = M) (hg : ∀ x vs zs, vs.length = N → zs.length = M → gV (x :: vs) zs = x :: pick p (vs ++ zs)) :
    SE G (fun ρ => (ea ρ).bind fun as ρ => (eb ρ).bind fun bs ρ => doMk cl c f fl (pick p (as ++ bs)) ρ) (tMakeK (G.ca c) N M (spOf G (cl f) n) gV E t tk) := by
  intro X F ρ σ H Q d k ρ' S h q
  obtain ⟨as, ρ1, h1, h⟩ := bind_ok h
  obtain ⟨bs, ρ2, h2, h⟩ := bind_ok h
  refine ha X F ρ σ H _ as ρ1 S h1 fun vs H1 p1 r1 => ?_
  refine hb X F ρ1 σ H1 _ bs ρ2 p1.sr h2 fun zs H2 p2 r2 => ?_
  have l1 := (map_perm r1).trans (hN _ _ _ h1)
  have l2 := (map_perm r2).trans (hM _ _ _ h2)
  refine ⟨l1, l2, fun x dx hx hdx hne => ?_⟩
  rw [hg _ vs zs l1 l2]
  exact mk_core hn hF (p1.trans p2) (((r1.le p2.le).append r2).pick p) h q x dx hx hdx hne
end
end Mp

set_option maxRecDepth 100000
set_option maxHeartbeats 4000000
/-! Mq15: == and != by an own __eq__. -/
namespace Mp
open PySem PySem.Spec PyProof.Rows L2
section
variable {M : Model} {prog : Program} {w : World} {A : Around} {E : Value → Shared → Prop} {s : Shared} {K : PySem.W.Frag} {x C f L : Addr} {ox : Obj} {od : Option Obj} {b tb : Value} {h₀ : Heap} {m : Str → Option Value}
theorem ifBound_objNe {args : List Value} {Q : Option Value → Shared → Prop} (X : K.In s.heap) (I : PySem.W.InstAt s.heap x ox C od) (hs : PySem.W.findIn K (.ref C) "__ne__" = some (some (.builtin "object.__ne__")))
    (h : wpAny M A (call (.builtin "object.__ne__") (.ref x :: args)) (fun v => Q (some v)) E s) : wpAny M A (callSpecialIfBound? (.ref x) "__ne__" args) Q E s := by
  simp only [callSpecialIfBound?, bindSpecialIfBound?]
  refine wpAny_holding (wpAny_bind (wpAny_bind (wpAny_bind (I.type.here ((PySem.W.looks_findIn X hs).here ?_)))))
  refine wpAny_bind (wpAny_askSetting (wpAny_ite ?_))
  have fin : wpAny M A (call (.builtin "object.__ne__") ([.ref x] ++ args) >>= fun v => pure (some v)) Q E s := wpAny_bind (wpAny_mono h (fun v s' h' => wpAny_pure h') fun _ _ h' => h')
  split
  · exact wpAny_bind (wpAny_of_eq (F.cmp_object.ne.bind _) (wpAny_pure (by exact fin)))
  · exact wpAny_tryCatch (wpAny_bind (wpAny_of_eq (F.cmp_object.ne.bind _) (wpAny_pure (by exact fin))))
theorem entry_ne {Q : Fin → Shared → Prop} (hu : A.units < cLine) (X : K.In s.heap) (I : PySem.W.InstAt s.heap x ox C od) (hs : PySem.W.findIn K (.ref C) "__eq__" = some (some (.ref f))) (hf : PySem.W.isFn K (.ref f) = true)
    (h : wpAny M A (call (.ref f) [.ref x, b]) (fun v s' => ∃ k, v = .bool k ∧ Q (.done (.ret (.bool (!k)))) s') E s) : wpAny M A (Builtin.«object.__ne__» ⟨[.ref x, b], []⟩) Q E s := by
  unfold Builtin.«object.__ne__»
  repeat (first
    | with_reducible refine wpAny_cRoomFor hu ?_
    | (refine wpAny_bind (m := callSpecialIfBound? (.ref x) (Str.ofString "__eq__") [b])
        (PySem.W.ifBound_K X I hs hf (wpAny_mono h (fun r s' hr => by
          obtain ⟨k, rfl, hq⟩ := hr
          repeat (first | exact hq | exact wpAny_pure hq | exact wpAny_truthy_bool hq | (refine wpAny_bind (m := truthy (.bool _)) (wpAny_truthy_bool ?_)) | wp_step)) fun _ _ e => e)))
    | wp_step)
theorem call_objNe {Q : Value → Shared → Prop} (hu : A.units + 1 < cLine) (X : K.In s.heap) (I : PySem.W.InstAt s.heap x ox C od) (hm : PySem.W.mroIn K C (.type "object") = some true) (hs : PySem.W.findIn K (.ref C) "__eq__" = some (some (.ref f))) (hf : PySem.W.isFn K (.ref f) = true)
    (h : wpAny (model prog w) A.in1 (call (.ref f) [.ref x, b]) (fun v s' => ∃ k, v = .bool k ∧ Q (.bool (!k)) s') E s) :
    wpAny (model prog w) A (call (.builtin "object.__ne__") [.ref x, b]) Q E s :=
  wpAny_call (codeAny_call_builtin F.cmp_object.ne.plain F.cmpEntry_ne (PySem.W.check_slot F.cmpKind_ne F.cmpSplit_ne (I.type.andThen (PySem.W.looks_mroIn X hm)) (F.cmpArgs_ne _ _) (entry_ne hu X I hs hf (wpAny_mono h (fun v s' hv => hv) fun _ _ e => e))))
theorem ne_K {Q : Value → Shared → Prop} (hu : A.units + 1 < cLine) (X : K.In s.heap) (I : PySem.W.InstAt s.heap x ox C od) (hb : PySem.W.Looks (model prog w) s.heap (typeOf b) tb) (hn : PySem.W.notFirst K C tb = true) (hm : PySem.W.mroIn K C (.type "object") = some true)
    (hne : PySem.W.findIn K (.ref C) "__ne__" = some (some (.builtin "object.__ne__"))) (hs : PySem.W.findIn K (.ref C) "__eq__" = some (some (.ref f))) (hf : PySem.W.isFn K (.ref f) = true)
    (h : wpAny (model prog w) A.in1 (call (.ref f) [.ref x, b]) (fun v s' => ∃ k, v = .bool k ∧ Q (.bool (!k)) s') E s) : wpAny (model prog w) A (richCompare .NotEq (.ref x) b) Q E s := by
  have one : wpAny (model prog w) A (tryCompare (.ref x) (cmpInfo .NotEq).2.1 b) (fun r s' => ∃ v, r = some v ∧ Q v s') E s := by
    unfold tryCompare
    refine wpAny_bind (ifBound_objNe X I hne (call_objNe hu X I hm hs hf (wpAny_mono h (fun v s' hv => ?_) fun _ _ e => e)))
    obtain ⟨k, hv, hq⟩ := hv
    exact ⟨k, hv, wpAny_pure ⟨_, rfl, hq⟩⟩
  unfold richCompare
  simp only [oneThing_ref]
  refine wpAny_holding (wpAny_bind (wpAny_cRoomFor (Nat.lt_of_succ_lt hu) ?_))
  refine wpAny_bind (I.type.here (wpAny_bind (hb.here ?_)))
  split
  · rename_i q
    have e : PySem.W.subIn K tb (.ref C) = some false := by
      rcases Bool.or_eq_true_iff.mp hn with e | e
      · rw [beq_iff_eq.mp e] at q; simp at q
      · exact beq_iff_eq.mp e
    refine wpAny_bind ((PySem.W.looks_subIn X e).here ?_)
    simp only [Bool.false_eq_true, if_false]
    refine wpAny_bind (wpAny_mono one (fun r s' z => ?_) fun _ _ e => e)
    obtain ⟨v, rfl, hq⟩ := z
    exact wpAny_pure hq
  · refine wpAny_bind (wpAny_pure ?_)
    simp only [Bool.false_eq_true, if_false]
    refine wpAny_bind (wpAny_mono one (fun r s' z => ?_) fun _ _ e => e)
    obtain ⟨v, rfl, hq⟩ := z
    exact wpAny_pure hq
theorem sub_tup : PySem.W.subIn K (.type "tuple") (.ref C) = some false := by
  have e : fastBuiltinMro "tuple" = some [.type "tuple", .type "object"] := by decide +kernel
  show (fastBuiltinMro "tuple").map (·.contains (.ref C)) = some false
  rw [e]
  first
    | rfl
    | simp
end
/-- what == of an own class's instances asks -/
structure EqK (K : PySem.W.Frag) (C f : Addr) : Prop where
  eq : PySem.W.findIn K (.ref C) "__eq__" = some (some (.ref f))
  ne : PySem.W.findIn K (.ref C) "__ne__" = some (some (.builtin "object.__ne__"))
  fn : PySem.W.isFn K (.ref f) = true
  obj : PySem.W.mroIn K C (.type "object") = some true
/-- the other side: an instance of the class, or a tuple -/
def OthE (K : PySem.W.Frag) (C : Addr) (H : Hp) (y : V) : Prop := (∃ b dy gs, y = .ref b ∧ H b = some (.ins C dy gs)) ∨ ∃ b xs, y = .ref b ∧ SqT K H b xs
def rOwnE (K : PySem.W.Frag) (C : Addr) (sp : L2.Sp) (ng : Bool) (E : XK) : R2 := fun x y H Q => ∃ a dx fl, x = .ref a ∧ H a = some (.ins C dx fl) ∧ OthE K C H y ∧ sp [x, y] H (fun z H' => ∃ k, z = .bl k ∧ Q (.bl (if ng = true then !k else k)) H') E
section
variable {X : Cx} {CX : CXT} {n : Nat} {f C : Addr} {fd : FuncData} {ps : List Str} {sp : L2.Sp} {E : XK}
theorem own_call {A : Around} {pins : List (Addr × Obj)} {s : Shared} {σ : L2.St} {H : Hp} {x y : V} {u v : Value} {Qv : VK} (sb : Sub X n A) (F : FnOk X.prog X.w X.K X.mg X.base CX n f fd ps sp) (hb : Binds X.K fd ps []) (hx : Passes CX X E)
    (I : Inv X pins σ H s) (rx : RelV x u) (ry : RelV y v) (hsp : sp [x, y] H Qv E) : wpAny (model X.prog X.w) A (call (.ref f) [u, v]) (fun r s' => ∃ z H', Inv X pins σ H' s' ∧ RelV z r ∧ Qv z H') X.xe s := by
  have e0 : Env0 X.prog X.w X.K X.mg X.base A X.stack s H := by
    have e := I.env0
    exact ⟨by rw [sb.fr]; exact e.frames, e.mod, e.bs, e.bsz, e.funs, e.frf, e.hok, e.bare⟩
  have hl := F.len _ _ _ _ hsp
  have r2 : Vals [x, y] [u, v] := .cons rx (.cons ry .nil)
  refine wpAny_call (codeAny_mono (F.run A X.stack s H ⟨[u, v], []⟩ [u, v] [x, y] _ E sb.room e0 (by
    have := hb s [u, v] I.kIn (by simpa using hl)
    simpa using this) r2 hsp) fun r s' hq => ?_)
  cases r with
  | error e => exact hx pins σ H s e s' I hq
  | ok fl =>
    cases fl with
    | ret w =>
      obtain ⟨z, H', I', rz, q⟩ := I.after hq
      exact ⟨z, H', I', rz, q⟩
    | next => exact False.elim hq
    | brk => exact False.elim hq
    | cont => exact False.elim hq
theorem oth_type {pins : List (Addr × Obj)} {s : Shared} {σ : L2.St} {H : Hp} {y : V} {v : Value} (I : Inv X pins σ H s) (ry : RelV y v) (h : OthE X.K C H y) : ∃ tb, PySem.W.Looks (model X.prog X.w) s.heap (typeOf v) tb ∧ PySem.W.notFirst X.K C tb = true := by
  rcases h with ⟨b, dy, gs, rfl, hb⟩ | ⟨b, xs, rfl, hq⟩
  · cases ry
    obtain ⟨mB, J', _⟩ := ins_get I.hok hb
    obtain ⟨od', J', _⟩ := J'.look
    exact ⟨.ref C, J'.type, by simp [PySem.W.notFirst]⟩
  · cases ry
    obtain ⟨its, rv, p, hz⟩ := I.tuple hq
    obtain ⟨o, ho, hc, _⟩ := (show s.heap.IsTuple b its.toArray from p)
    refine ⟨.type "tuple", fun A Q E s' k q => wpAny_typeOf (T := "tuple") ⟨o, k _ _ ho, hc⟩ q, ?_⟩
    unfold PySem.W.notFirst
    rw [sub_tup]
    simp
theorem op_ownE (F : FnOk X.prog X.w X.K X.mg X.base CX n f fd ps sp) (hk : EqK X.K C f) (hb : Binds X.K fd ps []) (hx : Passes CX X E) (hr : Room (n + 1) X.A) (hu : X.A.units + 1 < cLine) : OpR X (compareOp .Eq) (rOwnE X.K C sp false E) := by
  intro pins s σ H x y u v Q I rx ry h
  obtain ⟨a, dx, fl, rfl, ha, ho, hsp⟩ := h
  show wpAny (model X.prog X.w) X.A (richCompare .Eq u v) (EP X pins σ Q) X.xe s
  obtain ⟨tb, l1, l2⟩ := oth_type I ry ho
  obtain ⟨mA, J, _⟩ := ins_get I.hok ha
  obtain ⟨od, J, _⟩ := J.look
  obtain ⟨m, hF⟩ := I.fr
  cases rx
  refine PySem.W.cmp_K (op := .Eq) (tb := tb) (Nat.lt_of_succ_lt hu) hF I.ok.mod.kin J l1 l2 hk.eq hk.fn (wpAny_mono (own_call (A := X.A) ⟨hr.mono (Nat.le_succ _), rfl⟩ F hb hx I (show L2.RelV (V.ref a) (Value.ref a) from rfl) ry hsp) (fun r s' z => ?_) fun _ _ e => e)
  obtain ⟨z, H', I', rz, k, rfl, q⟩ := z
  cases rz
  exact ⟨.bl k, H', I', rfl, q⟩
theorem op_ownN (F : FnOk X.prog X.w X.K X.mg X.base CX n f fd ps sp) (hk : EqK X.K C f) (hb : Binds X.K fd ps []) (hx : Passes CX X E) (hr : Room (n + 1) X.A) (hu : X.A.units + 1 < cLine) : OpR X (compareOp .NotEq) (rOwnE X.K C sp true E) := by
  intro pins s σ H x y u v Q I rx ry h
  obtain ⟨a, dx, fl, rfl, ha, ho, hsp⟩ := h
  show wpAny (model X.prog X.w) X.A (richCompare .NotEq u v) (EP X pins σ Q) X.xe s
  obtain ⟨tb, l1, l2⟩ := oth_type I ry ho
  obtain ⟨mA, J, _⟩ := ins_get I.hok ha
  obtain ⟨od, J, _⟩ := J.look
  cases rx
  refine ne_K hu I.kIn J l1 l2 hk.obj hk.ne hk.eq hk.fn (wpAny_mono (own_call (A := X.A.in1) (Sub.in1 ⟨hr, rfl⟩) F hb hx I (show L2.RelV (V.ref a) (Value.ref a) from rfl) ry hsp) (fun r s' z => ?_) fun _ _ e => e)
  obtain ⟨z, H', I', rz, k, rfl, q⟩ := z
  cases rz
  exact ⟨k, rfl, .bl (!k), H', I', rfl, q⟩
end
theorem se_oeq {G : GD} {cl : Nat → List Bool → List D → CRes} {ng : Bool} {c f n : Nat} {ea eb : Env → R (D × Kd)} {ta tb : TE} {E : XK} (hn : ∀ fl ds x, cl f fl ds = some x → ds.length = n) (ha : SE G ea ta) (hb : SE G eb tb) :
    SE G (fun ρ => (ea ρ).bind fun x ρ => (settle ρ x.1 x.2).bind fun d ρ => (eb ρ).bind fun y ρ => (settle ρ y.1 y.2).bind fun e ρ => if insB c d = true ∧ othB c e = true then (doCall cl f [.v d, .v e] ρ).bind fun z ρ => blR ng z ρ else .no) (tOp (rOwnE G.K (G.ca c) (spOf G (cl f) n) ng E) ta tb) := by
  intro X F ρ σ H Q d k ρ' S h q
  obtain ⟨⟨d1, k1⟩, ρ1, h1, h⟩ := bind_ok h
  obtain ⟨d2, ρ2, h2, h⟩ := bind_ok h
  obtain ⟨⟨e1, k2⟩, ρ3, h3, h⟩ := bind_ok h
  obtain ⟨e2, ρ4, h4, h⟩ := bind_ok h
  split at h
  · rename_i cc
    obtain ⟨⟨z, kz⟩, ρ5, h5, h⟩ := bind_ok h
    refine ha X F ρ σ H _ d1 k1 ρ1 S h1 fun v1 H1 F1 p1 r1 => ?_
    obtain ⟨p2, r2⟩ := settle_ok p1 r1 h2
    refine hb X F ρ2 σ H1 _ e1 k2 ρ3 p2.sr h3 fun v2 H2 F2 p3 r3 => ?_
    obtain ⟨p4, r4⟩ := settle_ok p3 r3 h4
    have r2' := r2.le p4.le
    obtain ⟨c1, c2⟩ := cc
    cases d2 with
    | ins c' ns ds =>
      have ec : c' = c := of_decide_eq_true c1
      subst ec
      cases r2' with
      | ins ei z1 fi ri =>
        refine ⟨_, _, _, rfl, hr_sub _ _ ei, ?_, se_docall p4.sr (.v (.ins ei z1 fi ri) (.v r4 .nil)) hn h5 fun v H3 F3 p5 r5 => ?_⟩
        · cases e2 with
          | ins c2' ns2 ds2 =>
            have ec : c2' = c' := of_decide_eq_true c2
            subst ec
            cases r4 with
            | ins ej z2 fj rj => exact .inl ⟨_, _, _, rfl, hr_sub _ _ ej⟩
          | tup ds2 =>
            cases r4 with
            | tup sq rj => exact .inr ⟨_, _, rfl, sqt_le hr_sub sq⟩
          | _ => cases c2
        · cases z with
          | bl b =>
            cases kz with
            | frz =>
              cases h
              have P := (p2.trans p4).trans p5
              exact ⟨b, r5.bl p5.sr, q _ _ F (P.drop (fun _ h => h) (sub_of P)) (.frz rfl (.bl _))⟩
            | _ => cases h
          | _ => cases h
    | _ => cases c1
  · cases h
end Mp

set_option maxRecDepth 100000
set_option maxHeartbeats 4000000
/-! Mp13: the check of an expression, a statement against the text. -/
namespace Mp
open PySem PySem.Spec PyProof.Rows L2

mutual
def D.eqb : D → D → Bool
  | .non, .non => true
  | .bl a, .bl b => a == b
  | .int a, .int b => decide (a = b)
  | .str a, .str b => decide (a = b)
  | .tup a, .tup b => D.eqbs a b
  | .lst a, .lst b => D.eqbs a b
  | .fn a, .fn b => decide (a = b)
  | .cls a, .cls b => decide (a = b)
  | _, _ => false
def D.eqbs : List D → List D → Bool
  | [], [] => true
  | a :: r, b :: s => D.eqb a b && D.eqbs r s
  | _, _ => false
end
theorem ba2 {a b : Bool} (h : (a && b) = true) : a = true ∧ b = true := Bool.and_eq_true_iff.mp h
mutual
theorem D.eqb_ok : ∀ {a b : D}, D.eqb a b = true → a = b
  | .non, .non, _ => rfl
  | .bl a, .bl b, h => by
    have h' : (a == b) = true := h
    rw [eq_of_beq h']
  | .int a, .int b, h => congrArg D.int (of_decide_eq_true h)
  | .str a, .str b, h => congrArg D.str (of_decide_eq_true h)
  | .tup a, .tup b, h => congrArg D.tup (D.eqbs_ok h)
  | .lst a, .lst b, h => congrArg D.lst (D.eqbs_ok h)
  | .fn a, .fn b, h => congrArg D.fn (of_decide_eq_true h)
  | .cls a, .cls b, h => congrArg D.cls (of_decide_eq_true h)
theorem D.eqbs_ok : ∀ {a b : List D}, D.eqbs a b = true → a = b
  | [], [], _ => rfl
  | a :: r, b :: s, h => by
    obtain ⟨h1, h2⟩ := ba2 (show (D.eqb a b && D.eqbs r s) = true from h)
    rw [D.eqb_ok h1, D.eqbs_ok h2]
end

/-- what a def's text is read against: the frame's names, the scope, the module's names, the names that the module leaves to the built-ins -/
structure Gm where
  N : List Str
  sc : Scope
  sto : Scope
  top : Bool
  vals : List (Str × D)
  free : List Str
  pss : List (List Str)
  cls : List (List Str × Nat)
  eqs : List (Nat × Nat)
/-- a block's scope as its frame has it -/
def relS (scope sc : Scope) : Scope := { scope with names := scope.names.map fun (n, k) => if (k == .free && sc.kind == .function && sc.names.lookup n == some .cell) then (n, .cell) else (n, k) }
def cellB (sc : Scope) (x : Str) : Bool := match sc.names.lookup x with
  | some .cell => true
  | _ => false
def visB (sc : Scope) (x : Str) : Bool := match sc.names.lookup x with
  | some .local => true
  | some .cell => true
  | some .free => true
  | _ => false
def locB (sc : Scope) (x : Str) : Bool := match sc.names.lookup x with
  | some .local => true
  | some .cell => true
  | _ => false
def lclB (sc : Scope) (x : Str) : Bool := match sc.names.lookup x with
  | some .local => true
  | _ => false
def gloB (sc : Scope) (x : Str) : Bool := match sc.names.lookup x with
  | some .globalImplicit => true
  | _ => false
def okName (x : Str) : Bool := !(x == ("__debug__" : Str)) && !(x == ("__classdict__" : Str)) && !(x == ("__name__" : Str))
def varB (Γ : Gm) (i : Nat) (x : Str) : Bool := decide (Γ.N[i]? = some x) && (visB Γ.sc x && okName x)
def stvB (Γ : Gm) (i : Nat) (x : Str) : Bool := decide (Γ.N[i]? = some x) && (okName x && (lclB Γ.sc x || (locB Γ.sc x && (Γ.top || cellB Γ.sto x))))
def freeB (Γ : Gm) (x : Str) : Bool := gloB Γ.sc x && (Γ.free.contains x && okName x)
def valB (Γ : Gm) (x : Str) (d : D) : Bool := gloB Γ.sc x && okName x && (match Γ.vals.lookup x with
  | some d' => D.eqb d' d
  | none => false)
/-- no star, no slice -/
def nst : Expr → Bool
  | .Starred .. => false
  | _ => true
def nsl : Expr → Bool
  | .Slice .. => false
  | _ => true
def nset : Expr → Bool
  | .Set .. => false
  | _ => true
def ncmp : Expr → Bool
  | .ListComp .. => false
  | .SetComp .. => false
  | .DictComp .. => false
  | _ => true
/-- its test is its value's truth -/
def plainT : Expr → Bool
  | .UnaryOp .Not .. => false
  | .BoolOp .. => false
  | .IfExp .. => false
  | .Compare .. => false
  | _ => true
/-- no call of super -/
def nsup : Expr → Bool
  | .Call .. => false
  | _ => true
/-- its attributes are looked up plainly -/
def nsup2 : Expr → Bool
  | .Call (.Name _ _) [] [] _ => false
  | _ => true
/-- a target that is no name -/
def nnm : Expr → Bool
  | .Name .. => false
  | _ => true
def subT : Expr → Bool
  | .Tuple ts _ _ => ts.any nnm
  | _ => false
def bltName : Blt → Str
  | .len => "len" | .tuple => "tuple" | .list => "list" | .sorted => "sorted" | .min => "min" | .max => "max" | .int => "int" | .abs => "abs" | .divmod => "divmod" | .sum => "sum" | .all => "all" | .any => "any" | .isinst _ => "isinstance"
def bltKnown : Blt → Bool
  | .isinst _ => false
  | _ => true
def conB : D → Const → Bool
  | .int i, .int j => decide (i = j)
  | .bl a, .bool b => a == b
  | .non, .none => true
  | .str a, .str b => decide (a = b)
  | _, _ => false
def ownOf (N : List Str) (vs : List Nat) : List (Str × Nat) := vs.map fun v => ((N[v]?).getD "", v)
def isCmpE : E → Bool
  | .cmp .. => true
  | .cmp2 .. => true
  | .oeq .. => true
  | _ => false
def inScope (Γ : Gm) (sc : Scope) : Gm := { Γ with sc := relS sc Γ.sc, sto := sc, top := false }
mutual
def chkE : E → Gm → Expr → Bool
  | .var i, Γ, .Name x _ => varB Γ i x
  | .con d, _, .Constant c _ _ => conB d c
  | .glo x d, Γ, .Name y _ => decide (x = y) && valB Γ x d
  | .tup es, Γ, .Tuple l _ _ => chkL es Γ l
  | .lst es, Γ, .List l _ => chkL es Γ l
  | .neg a, Γ, .UnaryOp .USub e _ => chkE a Γ e
  | .bin o a b, Γ, .BinOp l op r _ => decide (op = bopOf o) && (chkE a Γ l && chkE b Γ r)
  | .cmp o a b, Γ, .Compare l [op] [r] _ => decide (op = copOf o) && (!behindInMarks op r && (chkE a Γ l && chkE b Γ r))
  | .cmp2 o1 o2 a b c, Γ, .Compare l [p, q] [m, r] _ => decide (p = copOf o1) && (decide (q = copOf o2) && (!lastMarks [p, q] [m, r] && (chkE a Γ l && (chkE b Γ m && chkE c Γ r))))
  | .not (.tr a), Γ, .UnaryOp .Not e _ => chkE a Γ e
  | .and a b, Γ, .BoolOp .And (x :: y :: r) p => chkE a Γ x && (match r with
    | [] => chkE b Γ y
    | _ => chkE b Γ (.BoolOp .And (y :: r) p))
  | .or a b, Γ, .BoolOp .Or (x :: y :: r) p => chkE a Γ x && (match r with
    | [] => chkE b Γ y
    | _ => chkE b Γ (.BoolOp .Or (y :: r) p))
  | .ife c a b, Γ, .IfExp t x y _ => chkT c Γ t && (chkE a Γ x && chkE b Γ y)
  | .idx a i, Γ, .Subscript x y _ => nsl y && (chkE a Γ x && chkE i Γ y)
  | .sl a lo hi, Γ, .Subscript x (.Slice l h none _) _ => chkE a Γ x && (chkO lo Γ l && chkO hi Γ h)
  | .call f es, Γ, .Call (.Name x _) args [] _ => valB Γ x (.fn f) && (!args.isEmpty && chkA es Γ args)
  | .callk f p es ks, Γ, .Call (.Name x _) args kws _ => valB Γ x (.fn f) && (chkA es Γ args && (chkK ks Γ kws && (match Γ.pss[f]?, kws.mapM (·.arg) with
    | some ps, some ns => decide (cntA es = args.length) && (decide (cntA ks = ns.length) && (kwOk ps args.length ns && decide (p = permOf ps args.length ns)))
    | _, _ => false)))
  | .calf f a es, Γ, .Call (.Name x _) (e :: args) [] _ => valB Γ x (.fn f) && (nst e && (chkE a Γ e && chkA es Γ args))
  | .fld a x, Γ, .Attribute e y _ => decide (x = y) && (nsup e && chkE a Γ e)
  | .mk c f fl es, Γ, .Call (.Name x _) args [] _ => valB Γ x (.cls c) && (!args.isEmpty && (chkA es Γ args && decide (Γ.cls[c]? = some (fl, f))))
  | .isinc c z a, Γ, .Call (.Name x _) [e, .Name y _] [] _ => freeB Γ x && (decide (x = "isinstance") && (decide (y = z) && (valB Γ y (.cls c) && (Γ.cls[c]?.isSome && (nst e && chkE a Γ e)))))
  | .calv i es, Γ, .Call (.Name x _) args [] _ => varB Γ i x && (!args.isEmpty && chkA es Γ args)
  | .blt b es, Γ, .Call (.Name x _) args [] _ => freeB Γ x && (decide (x = bltName b) && (bltKnown b && (!args.isEmpty && chkL es Γ args)))
  | .isin t a, Γ, .Call (.Name x _) [e, .Name y _] [] _ => freeB Γ x && (decide (x = "isinstance") && (freeB Γ y && (decide (t < 5) && (decide (y = Str.ofString (tyName t)) && (nst e && chkE a Γ e)))))
  | .vop .dix i a b, Γ, .Subscript (.Name x _) (.Tuple [e, f] _ _) _ => varB Γ i x && (nst e && (nst f && (chkE a Γ e && chkE b Γ f)))
  | .vop .pop i a _, Γ, .Call (.Attribute (.Name x _) m ap) [e] [] cp => varB Γ i x && (decide (m = "pop") && (decide (ap.endLine = cp.line) && (nst e && chkE a Γ e)))
  | .uop .dnew _, _, .Dict [] [] _ => true
  | .uop .lof (.rng1 a), Γ, .Call (.Name x _) [.Call (.Name y _) [e] [] _] [] _ => decide (x = "list") && (freeB Γ x && (decide (y = "range") && (freeB Γ y && (nst e && chkE a Γ e))))
  | .uop .lof (.rng2 a b), Γ, .Call (.Name x _) [.Call (.Name y _) [e, f] [] _] [] _ => decide (x = "list") && (freeB Γ x && (decide (y = "range") && (freeB Γ y && (nst e && (nst f && (chkE a Γ e && chkE b Γ f))))))
  | .uop .rof (.rng1 a), Γ, .Call (.Name y _) [e] [] _ => decide (y = "range") && (freeB Γ y && (nst e && chkE a Γ e))
  | .uop .rof (.rng2 a b), Γ, .Call (.Name y _) [e, f] [] _ => decide (y = "range") && (freeB Γ y && (nst e && (nst f && (chkE a Γ e && chkE b Γ f))))
  | .bm o a b, Γ, .Call (.Attribute ob m ap) [e] [] cp => nsup2 ob && (decide (m = bmName o) && (decide (ap.endLine = cp.line) && (nst e && (chkE a Γ ob && chkE b Γ e))))
  | .oeq ng c f a b, Γ, .Compare l [op] [r] _ => decide (op = if ng = true then .NotEq else .Eq) && (decide ((c, f) ∈ Γ.eqs) && (!behindInMarks op r && (chkE a Γ l && chkE b Γ r)))
  | .mkk c f fl p es ks, Γ, .Call (.Name x _) args kws _ => valB Γ x (.cls c) && (decide (Γ.cls[c]? = some (fl, f)) && (chkA es Γ args && (chkK ks Γ kws && (match Γ.pss[f]?, kws.mapM (·.arg) with
    | some ps, some ns => decide (cntA es = args.length) && (decide (cntA ks = ns.length) && (kwOk ps (args.length + 1) ns && decide (p = permOf (ps.drop 1) args.length ns)))
    | _, _ => false))))
  | .lc vs t it c e, Γ, .ListComp elt [⟨tg, iter, ifs, 0⟩] scope _ => blkC Γ.N Γ.sc scope (ownOf Γ.N vs) && (nset iter && (chkI it Γ tg iter && (chkV t vs (inScope Γ scope) tg && ((match c, ifs with
    | .nil, [] => true
    | c, [x] => chkT c (inScope Γ scope) x
    | _, _ => false) && chkE e (inScope Γ scope) elt))))
  | _, _, _ => false
def chkL : E → Gm → List Expr → Bool
  | .nil, _, [] => true
  | .cons a r, Γ, e :: es => nst e && (chkE a Γ e && chkL r Γ es)
  | _, _, _ => false
def chkA : E → Gm → List Expr → Bool
  | .nil, _, [] => true
  | .cons a r, Γ, e :: es => nst e && (chkE a Γ e && chkA r Γ es)
  | .ioa i r, Γ, .Name x _ :: es => varB Γ i x && chkA r Γ es
  | _, _, _ => false
def chkK : E → Gm → List Keyword → Bool
  | .nil, _, [] => true
  | .cons a r, Γ, ⟨_, e, _⟩ :: ks => chkE a Γ e && chkK r Γ ks
  | _, _, _ => false
def chkO : E → Gm → Option Expr → Bool
  | .nil, _, none => true
  | .cons a _, Γ, some e => chkE a Γ e
  | _, _, _ => false
def chkT : E → Gm → Expr → Bool
  | .not a, Γ, .UnaryOp .Not e _ => chkT a Γ e
  | .and a b, Γ, .BoolOp .And (x :: y :: r) p => chkT a Γ x && (match r with
    | [] => chkT b Γ y
    | _ => chkT b Γ (.BoolOp .And (y :: r) p))
  | .or a b, Γ, .BoolOp .Or (x :: y :: r) p => chkT a Γ x && (match r with
    | [] => chkT b Γ y
    | _ => chkT b Γ (.BoolOp .Or (y :: r) p))
  | .tr a, Γ, e => chkE a Γ e && (plainT e || isCmpE a)
  | _, _, _ => false
def chkI : E → Gm → Expr → Expr → Bool
  | .rng1 a, Γ, _, .Call (.Name x _) [e] [] _ => decide (x = "range") && (freeB Γ x && (nst e && chkE a Γ e))
  | .rng2 a b, Γ, _, .Call (.Name x _) [e, f] [] _ => decide (x = "range") && (freeB Γ x && (nst e && (nst f && (chkE a Γ e && chkE b Γ f))))
  | .enm a, Γ, .Tuple _ _ _, .Call (.Name x _) [e] [] _ => decide (x = "enumerate") && (freeB Γ x && (nst e && chkE a Γ e))
  | .it a, Γ, _, e => chkE a Γ e
  | _, _, _, _ => false
/-- a comprehension's target -/
def chkV : E → List Nat → Gm → Expr → Bool
  | .var i, vs, Γ, .Name x _ => stvB Γ i x && decide (i ∈ vs)
  | .tup ts, vs, Γ, .Tuple l _ _ => chkVs ts vs Γ l
  | _, _, _, _ => false
def chkVs : E → List Nat → Gm → List Expr → Bool
  | .nil, _, _, [] => true
  | .cons a r, vs, Γ, e :: es => nst e && (chkV a vs Γ e && chkVs r vs Γ es)
  | _, _, _, _ => false
end
mutual
/-- a target -/
def chkG : E → Gm → Expr → Bool
  | .var i, Γ, .Name x _ => stvB Γ i x
  | .idx (.var j) i, Γ, .Subscript (.Name x _) y _ => varB Γ j x && (nsl y && chkE i Γ y)
  | .tup ts, Γ, .Tuple l _ _ => chkGs ts Γ l
  | _, _, _ => false
def chkGs : E → Gm → List Expr → Bool
  | .nil, _, [] => true
  | .cons a r, Γ, e :: es => nst e && (chkG a Γ e && chkGs r Γ es)
  | _, _, _ => false
end
def ntup : Expr → Bool
  | .Tuple .. => false
  | .List .. => false
  | _ => true
/-- the names of a, b = ..: on one line, apart -/
def parNames (Γ : Gm) (is : List Nat) (ts : List Expr) : Bool := match is, ts with
  | [i, j], [.Name x px, .Name y py] => decide (Γ.N[i]? = some x) && (decide (Γ.N[j]? = some y) && (lclB Γ.sc x && (lclB Γ.sc y && (!(x == y) && (py.line == px.line && decide (i ≠ j))))))
  | [i, j, k], [.Name x px, .Name y py, .Name z pz] => decide (Γ.N[i]? = some x) && (decide (Γ.N[j]? = some y) && (decide (Γ.N[k]? = some z) && (lclB Γ.sc x && (lclB Γ.sc y && (lclB Γ.sc z && (!(x == y) && (!(x == z) && (!(y == z) && (py.line == px.line && (pz.line == px.line && (decide (i ≠ j) && (decide (i ≠ k) && decide (j ≠ k)))))))))))))
  | _, _ => false
/-- names that take a tuple's items -/
def namesB (Γ : Gm) : List Nat → List Expr → Bool
  | [], [] => true
  | i :: is, .Name x _ :: ts => stvB Γ i x && namesB Γ is ts
  | _, _ => false
def cellT (Γ : Gm) : Expr → Bool
  | .Name x _ => cellB Γ.sc x
  | _ => true
/-- name = [..]: the list is swapped with the name's frame -/
def swapB (Γ : Gm) (e tg : Expr) : Bool := match e, tg with
  | .ListComp _ _ s p, .Name x px => lclB Γ.sc x && (px.line == p.line && !(s.names.any fun (n, k) => n == x && (k == .local || k == .cell)))
  | _, _ => false
/-- name = [..]: not swapped -/
def noswap (Γ : Gm) (e tg : Expr) : Bool := ncmp e || (match e, tg with
  | .ListComp _ _ _ _, .Name x _ => cellB Γ.sc x
  | .ListComp _ _ _ _, _ => true
  | _, _ => false)
mutual
def chkS : S → Gm → Stmt → Bool
  | .never, _, _ => true
  | .skip, _, .Pass _ => true
  | .asg t e, Γ, .Assign [tg] v _ => (noswap Γ v tg || swapB Γ v tg) && ((ntup tg || ntup v || subT tg) && (chkE e Γ v && chkG t Γ tg))
  | .dst i a b e, Γ, .Assign [.Subscript (.Name x _) (.Tuple [f, g] _ _) _] v _ => varB Γ i x && (nst f && (nst g && (ncmp v && (chkE e Γ v && (chkE a Γ f && chkE b Γ g)))))
  | .fst i x e, Γ, .Assign [.Attribute (.Name y _) f _] v _ => varB Γ i y && (decide (f = x) && chkE e Γ v)
  | .par is es, Γ, .Assign [.Tuple ts _ _] (.Tuple vs _ _) _ => (parNames Γ is ts && (decide (vs.length = is.length) && (!vs.all (foldedForSure 8) && (!vs.all (constantsAlone 8) && chkL es Γ vs)))) || (namesB Γ is ts && (ts.any (cellT Γ) && (decide (vs.length = is.length) && (decide (is.length ≤ 1000) && chkL es Γ vs))))
  | .ext i e, Γ, .Expr (.Call (.Attribute (.Name x _) a ap) [v] [] cp) _ => varB Γ i x && (decide (a = "extend") && (decide (ap.endLine = cp.line) && (nst v && chkE e Γ v)))
  | .ex e, Γ, .Expr v _ => ncmp v && chkE e Γ v
  | .ret e, Γ, .Return (some v) _ => chkE e Γ v
  | .retn, _, .Return none _ => true
  | .ite c a b, Γ, .If t x y _ => chkT c Γ t && (chkSs a Γ x && chkSs b Γ y)
  | .for_ t it b, Γ, .For tg iter body [] _ => nset iter && (chkI it Γ tg iter && (chkG t Γ tg && chkSs b Γ body))
  | .whl c b, Γ, .While t body [] _ => chkT c Γ t && chkSs b Γ body
  | .app i e, Γ, .Expr (.Call (.Attribute (.Name x _) a ap) [v] [] cp) _ => varB Γ i x && (decide (a = "append") && (decide (ap.endLine = cp.line) && (nst v && chkE e Γ v)))
  | _, _, _ => false
def chkSs : S → Gm → List Stmt → Bool
  | .never, _, _ => true
  | .skip, _, [] => true
  | .seq a b, Γ, st :: r => chkS a Γ st && chkSs b Γ r
  | _, _, _ => false
end
end Mp

set_option maxRecDepth 100000
set_option maxHeartbeats 4000000
/-! Mq13: how calls bind plain parameters. -/
namespace Mp
open PySem PySem.Spec PyProof.Rows L2
theorem forIn_slots {f : Str × Value → List (Str × Value) × List (Str × Value) → Sem (ForInStep (List (Str × Value) × List (Str × Value)))} : ∀ (l : List (Str × Value)) (sl : List (Str × Value)),
    (∀ q ∈ l, ∀ sl', (List.lookup q.1 sl').isSome = false → f q (sl', []) = pure (.yield (sl' ++ [q], []))) → (l.map (·.1)).Nodup → (∀ q ∈ l, List.lookup q.1 sl = none) → forIn l (sl, []) f = pure (sl ++ l, [])
  | [], sl, _, _, _ => by rw [List.forIn_nil, List.append_nil]
  | q :: l, sl, h, nd, hs => by
    have nd' : q.1 ∉ l.map (·.1) ∧ (l.map (·.1)).Nodup := List.nodup_cons.mp nd
    rw [List.forIn_cons, h q (List.mem_cons_self) sl (by rw [hs q List.mem_cons_self]; rfl), pure_bind]
    show forIn l (sl ++ [q], []) f = _
    rw [forIn_slots l (sl ++ [q]) (fun r hr => h r (List.mem_cons_of_mem _ hr)) nd'.2 fun r hr => ?_, List.append_assoc] <;> try rfl
    rw [List.lookup_append, hs r (List.mem_cons_of_mem _ hr)]
    show List.lookup r.1 [q] = none
    rw [List.lookup_cons]
    have : (r.1 == q.1) = false := by
      cases e : r.1 == q.1 with
      | false => rfl
      | true => exact absurd (by rw [← eq_of_beq e]; exact List.mem_map_of_mem hr) nd'.1
    rw [this] <;> rfl
theorem filt_zip {slots : List (Str × Value)} : ∀ (l : List Str) (ws : List Value), l.length = ws.length → (∀ p ∈ l.zip ws, slots.lookup p.1 = some p.2) → l.filterMap (fun n => (slots.lookup n).map fun x => (n, x)) = l.zip ws
  | [], _, _, _ => by simp
  | x :: l, [], h, _ => by simp at h
  | x :: l, w :: ws, h, k => by
    have e := k (x, w) (by simp)
    have e2 : List.lookup x slots = some w := e
    rw [List.filterMap_cons, e2]
    show (x, w) :: _ = _
    rw [filt_zip l ws (by simpa using h) fun p hp => k p (List.mem_cons_of_mem _ hp)] <;> rfl
theorem bind_kw {fd : FuncData} {as : List Arg} {us ws : List Value} {kws : List (Str × Value)} (hp : fd.params = ⟨[], as, none, [], [], none, []⟩) (hd : fd.defaults = .none) (hl : us.length ≤ as.length) (hw : (as.map (·.arg)).length = ws.length)
    (H : ∀ p ∈ (as.map (·.arg)).zip ws, ((as.map (·.arg)).zip us ++ kws).lookup p.1 = some p.2) (nd : (kws.map (·.1)).Nodup) (hk : ∀ q ∈ kws, q.1 ∈ as.map (·.arg) ∧ List.lookup q.1 ((as.map (·.arg)).zip us) = none) :
    bindArgs fd ⟨us, kws⟩ = pure ((as.map (·.arg)).zip ws) := by
  unfold bindArgs
  have hs : seqItems? Value.none = pure none := rfl
  simp only [hp, hd, List.map_nil, List.nil_append, List.append_nil, List.forIn_nil, List.forIn'_nil, hs, pure_bind, Option.getD_none, List.toList_toArray, List.isEmpty_nil, List.drop_nil, List.length_nil, List.zip_nil_right, List.forIn_nil, decide_false, Bool.false_and, Bool.not_true, Bool.false_eq_true, if_false, List.length_map]
  rw [forIn_slots kws _ (fun q hq sl' hsl => ?_) nd fun q hq => (hk q hq).2]
  · have hm : (as.map (·.arg)).filter (fun n => (((as.map (·.arg)).zip us ++ kws).lookup n).isNone) = [] := by
      rw [List.filter_eq_nil_iff]
      intro x hx
      obtain ⟨i, hi⟩ := List.mem_iff_getElem?.mp hx
      have hi2 : i < ws.length := by rw [← hw]; exact (List.getElem?_eq_some_iff.mp hi).1
      have hz : (x, ws[i]) ∈ (as.map (·.arg)).zip ws := by
        apply List.mem_iff_getElem?.mpr
        refine ⟨i, ?_⟩
        rw [List.getElem?_zip_eq_some]
        exact ⟨hi, List.getElem?_eq_getElem hi2⟩
      have := H _ hz
      rw [this]
      simp
    have hg : ¬ us.length > as.length := by omega
    have ht : List.take (as.length - 0) (List.map (fun x => x.arg) as) = List.map (fun x => x.arg) as := by
      rw [List.take_of_length_le]; simp
    simp only [pure_bind, hg, decide_false, Bool.false_and, Bool.false_eq_true, if_false, ht, hm, List.isEmpty_nil, Bool.not_true]
    rw [filt_zip _ _ hw H]
  · have h1 : ((as.map (·.arg)).contains q.1 || ([] : List Str).contains q.1) = true := by
      rw [List.contains_iff_mem.mpr (hk q hq).1, Bool.true_or]
    simp only [h1, hsl, if_true, Bool.false_eq_true, if_false]
theorem zip_look {α : Type} : ∀ {ps : List Str} {us : List α} {i : Nat} {x : Str} {u : α}, ps.Nodup → ps[i]? = some x → us[i]? = some u → (ps.zip us).lookup x = some u
  | [], _, _, _, _, _, h, _ => by simp at h
  | p :: ps, [], _, _, _, _, _, h => by simp at h
  | p :: ps, v :: us, 0, x, u, nd, h1, h2 => by
    simp at h1 h2
    subst h1 h2
    simp [List.lookup_cons]
  | p :: ps, v :: us, i + 1, x, u, nd, h1, h2 => by
    have nd' : p ∉ ps ∧ ps.Nodup := List.nodup_cons.mp nd
    have h1' : ps[i]? = some x := by simpa using h1
    have h2' : us[i]? = some u := by simpa using h2
    rw [List.zip_cons_cons, List.lookup_cons]
    have : (x == p) = false := by
      cases e : x == p with
      | false => rfl
      | true => exact absurd (by rw [← eq_of_beq e]; exact List.mem_of_getElem? h1') nd'.1
    rw [this]
    exact zip_look nd'.2 h1' h2'
theorem zip_none {α : Type} : ∀ {ps : List Str} {us : List α} {x : Str}, x ∉ ps.take us.length → (ps.zip us).lookup x = none
  | [], _, _, _ => by simp
  | p :: ps, [], _, _ => by simp
  | p :: ps, v :: us, x, h => by
    have h' : x ≠ p ∧ x ∉ ps.take us.length := by simpa using h
    rw [List.zip_cons_cons, List.lookup_cons]
    have : (x == p) = false := by
      cases e : x == p with
      | false => rfl
      | true => exact absurd (eq_of_beq e) h'.1
    rw [this]
    exact zip_none h'.2
theorem bind_plain {fd : FuncData} {as : List Arg} {us : List Value} (hp : fd.params = ⟨[], as, none, [], [], none, []⟩) (hd : fd.defaults = .none) (nd : (as.map (·.arg)).Nodup) (hl : us.length = as.length) :
    bindArgs fd ⟨us, []⟩ = pure ((as.map (·.arg)).zip us) := by
  refine bind_kw hp hd (by omega) (by simp [hl]) (fun p h => ?_) List.nodup_nil fun q h => by cases h
  obtain ⟨i, hi⟩ := List.mem_iff_getElem?.mp h
  rw [List.getElem?_zip_eq_some] at hi
  rw [List.append_nil]
  exact zip_look nd hi.1 hi.2
theorem zip_keys {α : Type} : ∀ {ks : List Str} {ws : List α}, ks.length = ws.length → (ks.zip ws).map (·.1) = ks
  | [], _, _ => by simp
  | k :: ks, [], h => by simp at h
  | k :: ks, w :: ws, h => by
    show k :: (ks.zip ws).map (·.1) = _
    rw [zip_keys (by simpa using h)]
theorem pick_len {α : Type} : ∀ {p : List Nat} {l : List α}, (∀ i ∈ p, i < l.length) → (pick p l).length = p.length
  | [], _, _ => rfl
  | i :: p, l, h => by
    have hi := h i List.mem_cons_self
    have e : l[i]? = some l[i] := List.getElem?_eq_getElem hi
    unfold pick
    rw [List.filterMap_cons, e]
    show (pick p l).length + 1 = _
    rw [pick_len fun j hj => h j (List.mem_cons_of_mem _ hj)] <;> rfl
theorem pick_get {α : Type} : ∀ {p : List Nat} {l : List α} {j : Nat} {w : α}, (∀ i ∈ p, i < l.length) → (pick p l)[j]? = some w → ∃ i, p[j]? = some i ∧ l[i]? = some w
  | [], _, j, w, _, h => by simp [pick] at h
  | i :: p, l, j, w, h, e => by
    have hi := h i List.mem_cons_self
    have e1 : l[i]? = some l[i] := List.getElem?_eq_getElem hi
    unfold pick at e
    rw [List.filterMap_cons, e1] at e
    cases j with
    | zero =>
      have e' : some l[i] = some w := by simpa using e
      exact ⟨i, rfl, e1.trans e'⟩
    | succ j =>
      have e' : (pick p l)[j]? = some w := by simpa [pick] using e
      obtain ⟨k, h1, h2⟩ := pick_get (fun j hj => h j (List.mem_cons_of_mem _ hj)) e'
      exact ⟨k, by simpa using h1, h2⟩
theorem bind_perm {fd : FuncData} {as : List Arg} {us ws : List Value} {ks : List Str} (hp : fd.params = ⟨[], as, none, [], [], none, []⟩) (hd : fd.defaults = .none) (hk : kwOk (as.map (·.arg)) us.length ks = true) (hl : ws.length = ks.length) :
    bindArgs fd ⟨us, ks.zip ws⟩ = pure ((as.map (·.arg)).zip (pick (permOf (as.map (·.arg)) us.length ks) (us ++ ws))) ∧ (pick (permOf (as.map (·.arg)) us.length ks) (us ++ ws)).length = (as.map (·.arg)).length := by
  obtain ⟨k1, hk⟩ := ba2 hk
  obtain ⟨k2, hk⟩ := ba2 hk
  obtain ⟨k3, hk⟩ := ba2 hk
  obtain ⟨k4, hk⟩ := ba2 hk
  obtain ⟨k5, k6⟩ := ba2 hk
  have nd := of_decide_eq_true k1
  have ndk := of_decide_eq_true k2
  have hlen := of_decide_eq_true k3
  generalize hps : as.map (·.arg) = ps at *
  have hin : ∀ k ∈ ks, k ∈ ps.drop us.length := fun k h => of_decide_eq_true (List.all_eq_true.mp k5 k h)
  have hin2 : ∀ x ∈ ps.drop us.length, x ∈ ks := fun k h => of_decide_eq_true (List.all_eq_true.mp k6 k h)
  have hasl : as.length = ps.length := by rw [← hps]; simp
  have rng : ∀ i ∈ permOf ps us.length ks, i < (us ++ ws).length := fun i hi => by
    rw [List.length_append, hl]
    rcases List.mem_append.mp hi with h | h
    · have := List.mem_range.mp h; omega
    · obtain ⟨x, hx, e⟩ := List.mem_map.mp h
      have e : us.length + ks.idxOf x = i := e
      have := List.idxOf_lt_length_of_mem (hin2 x hx)
      omega
  have hpl : (pick (permOf ps us.length ks) (us ++ ws)).length = ps.length := by
    rw [pick_len rng]
    unfold permOf
    rw [List.length_append, List.length_range, List.length_map, List.length_drop]
    omega
  have hnt : ∀ k ∈ ps.drop us.length, k ∉ ps.take us.length := fun k h1 h2 => by
    have : (ps.take us.length ++ ps.drop us.length).Nodup := by rw [List.take_append_drop]; exact nd
    exact (List.nodup_append.mp this).2.2 k h2 k h1 rfl
  refine ⟨?_, hpl⟩
  rw [← hps]
  refine bind_kw hp hd (by omega) (by rw [hps, hpl]) ?_ (by rw [zip_keys (by omega)]; exact ndk) fun q hq => ?_
  · intro p hp
    rw [hps] at hp ⊢
    obtain ⟨x, w⟩ := p
    obtain ⟨i, hi⟩ := List.mem_iff_getElem?.mp hp
    rw [List.getElem?_zip_eq_some] at hi
    obtain ⟨hi1, hi2⟩ := hi
    have hi1 : ps[i]? = some x := hi1
    have hi2 : (pick (permOf ps us.length ks) (us ++ ws))[i]? = some w := hi2
    obtain ⟨j, h1, h2⟩ := pick_get rng hi2
    rw [List.lookup_append]
    unfold permOf at h1
    by_cases hn : i < us.length
    · rw [List.getElem?_append_left (by simpa using hn)] at h1
      rw [List.getElem?_range hn] at h1
      cases h1
      rw [List.getElem?_append_left hn] at h2
      rw [zip_look nd hi1 h2] <;> rfl
    · rw [List.getElem?_append_right (by simpa using hn), List.length_range, List.getElem?_map, List.getElem?_drop] at h1
      have e0 : us.length + (i - us.length) = i := by omega
      rw [e0, hi1] at h1
      cases h1
      have hx : x ∈ ps.drop us.length := by
        apply List.mem_iff_getElem?.mpr
        exact ⟨i - us.length, by rw [List.getElem?_drop, e0]; exact hi1⟩
      rw [zip_none (hnt x hx)]
      show (ks.zip ws).lookup x = some w
      have hxk := List.idxOf_lt_length_of_mem (hin2 x hx)
      have h2 : (us ++ ws)[us.length + ks.idxOf x]? = some w := h2
      rw [List.getElem?_append_right (by omega)] at h2
      have e1 : us.length + ks.idxOf x - us.length = ks.idxOf x := by omega
      rw [e1] at h2
      exact zip_look ndk (by rw [List.getElem?_eq_getElem hxk, List.getElem_idxOf]) h2
  · have hq' : q.1 ∈ ks := by
      have : q.1 ∈ (ks.zip ws).map (·.1) := List.mem_map_of_mem hq
      rwa [zip_keys (by omega)] at this
    rw [hps]
    exact ⟨List.mem_of_mem_drop (hin _ hq'), zip_none (hnt _ (hin _ hq'))⟩
theorem Vals.pick {vs : List V} {us : List Value} (h : Vals vs us) : ∀ p : List Nat, Vals (Mp.pick p vs) (Mp.pick p us)
  | [] => .nil
  | i :: p => by
    unfold Mp.pick
    rw [List.filterMap_cons, List.filterMap_cons]
    cases e : vs[i]? with
    | none =>
      have : us[i]? = none := by
        rw [List.getElem?_eq_none_iff] at e ⊢
        rw [← h.length]; exact e
      rw [this]
      exact Vals.pick h p
    | some v =>
      obtain ⟨u, e2, r⟩ := h.get e
      rw [e2]
      exact .cons r (Vals.pick h p)
/-- the values of a call with keywords, in the parameters' order -/
def gK {α : Type} (ps : List Str) (n : Nat) (ks : List Str) (us ws : List α) : List α := if us.length = n ∧ ws.length = ks.length then pick (permOf ps n ks) (us ++ ws) else []
theorem kbinds_of {K : PySem.W.Frag} {fd : FuncData} {as : List Arg} {ps ks : List Str} {n : Nat} (hp : fd.params = ⟨[], as, none, [], [], none, []⟩) (hd : fd.defaults = .none) (ha : as.map (·.arg) = ps) (hk : kwOk ps n ks = true) : KBinds K fd ps ks (gK ps n ks) (gK ps n ks) := by
  refine ⟨fun s us ws _ hl => ?_, fun {vs us zs ws} r r2 => ?_⟩
  · unfold gK at hl ⊢
    by_cases c : us.length = n ∧ ws.length = ks.length
    · rw [if_pos c]
      subst ha
      obtain ⟨c1, c2⟩ := c
      subst c1
      exact BindsTo.of_eq (bind_perm hp hd hk c2).1
    · rw [if_neg c] at hl
      exfalso
      obtain ⟨_, hk⟩ := ba2 hk
      obtain ⟨_, hk⟩ := ba2 hk
      obtain ⟨k3, hk⟩ := ba2 hk
      obtain ⟨k4, hk⟩ := ba2 hk
      have := of_decide_eq_true k3
      have := of_decide_eq_true k4
      have hl : (0 : Nat) = ps.length := hl
      omega
  · unfold gK
    rw [r.length, r2.length]
    split
    · exact Vals.pick (r.append r2) _
    · exact .nil
theorem permOf_succ (ps : List Str) (n : Nat) (ks : List Str) : permOf ps (n + 1) ks = 0 :: (permOf (ps.drop 1) n ks).map (· + 1) := by
  unfold permOf
  rw [List.range_succ_eq_map, List.map_append, List.drop_drop, List.map_map, Nat.add_comm 1 n]
  show 0 :: (_ ++ _) = _
  congr 2
  refine List.map_congr_left fun x _ => ?_
  show n + 1 + ks.idxOf x = n + ks.idxOf x + 1
  omega
theorem pick_succ {α : Type} (q : List Nat) (x : α) (l : List α) : pick (0 :: q.map (· + 1)) (x :: l) = x :: pick q l := by
  unfold pick
  rw [List.filterMap_cons]
  show x :: _ = _
  rw [List.filterMap_map]
  congr 1
theorem kbn_of {K : PySem.W.Frag} {fd : FuncData} {as : List Arg} {ps ks : List Str} {n : Nat} (hp : fd.params = ⟨[], as, none, [], [], none, []⟩) (hd : fd.defaults = .none) (ha : as.map (·.arg) = ps) (hk : kwOk ps n ks = true) : KBn K fd ps n ks (gK ps n ks) (gK ps n ks) := by
  refine ⟨fun s us ws _ l1 l2 => ?_, (kbinds_of (K := K) hp hd ha hk).rel⟩
  unfold gK
  rw [if_pos ⟨l1, l2⟩]
  subst ha
  subst l1
  exact BindsTo.of_eq (bind_perm hp hd hk l2).1
theorem gK_succ {α : Type} {ps ks : List Str} {n : Nat} {x : α} {vs zs : List α} (l1 : vs.length = n) (l2 : zs.length = ks.length) : gK ps (n + 1) ks (x :: vs) zs = x :: pick (permOf (ps.drop 1) n ks) (vs ++ zs) := by
  unfold gK
  rw [if_pos ⟨by rw [List.length_cons, l1], l2⟩, permOf_succ, List.cons_append, pick_succ]
theorem binds_of {K : PySem.W.Frag} {fd : FuncData} {as : List Arg} {ps : List Str} (hp : fd.params = ⟨[], as, none, [], [], none, []⟩) (hd : fd.defaults = .none) (ha : as.map (·.arg) = ps) (nd : ps.Nodup) : Binds K fd ps [] := by
  refine Binds.all fun us hl => ?_
  subst ha
  exact bind_plain hp hd nd (by simpa using hl)
/-- f(k = v, ..) -/
theorem pe_callK0 {X : Cx} {CX : CXT} {k : Nat} {f : Addr} {fd : FuncData} {ps ks : List Str} {sp : L2.Sp} {E : XK} {x : Str} {p pos : Pos} {kws : List Keyword} {tk : TA} {g : List Value → List Value → List Value} {gV : List V → List V → List V}
    (F : FnOk X.prog X.w X.K X.mg X.base CX k f fd ps sp) (hr : Room k X.A) (hg : Gl X x) (hm : X.mg x = some (.ref f)) (hk : PySem.W.keepIn X.K (.ref f) = true) (hb : KBinds X.K fd ps ks g gV) (hx : Passes CX X E)
    (hkw : PK X kws tk) (hall : (backToKw pos (keywordEach kws X.env)).all (·.1.isSome) = true) (hks : (backToKw pos (keywordEach kws X.env)).filterMap (·.1) = ks)
    (hdb : (x == ("__debug__" : Str)) = false) (hpl : ((backTo pos (starEach [] X.env)).any (·.1) || (backToKw pos (keywordEach kws X.env)).any (·.1.isNone)) = false) :
    PE X (.Call (.Name x p) [] kws pos) (tCallK sp gV E tNil tk) := by
  refine ⟨fun pins s σ H Q I h => ?_⟩
  refine wpAny_Call_Name_kw (ld_glob I hg hm ?_ hdb)
  refine PySem.W.callWith_KW0 (h₀ := X.base) I.ok.mod.kin hk hall ?_ hpl
  refine thn (hkw.run pos pins s σ H _ I h) fun ws s2 ⟨zs, H2, I2, rz, q2⟩ => ⟨I2.kIn, ?_⟩
  rw [hks]
  exact run_fnk F hr hb hx I2 .nil rz q2
theorem kw_all {pos : Pos} {env : PySem.Env} : ∀ {kws : List Keyword} {ks : List Str}, kws.mapM (·.arg) = some ks → (backToKw pos (keywordEach kws env)).all (·.1.isSome) = true ∧ (backToKw pos (keywordEach kws env)).filterMap (·.1) = ks ∧ (backToKw pos (keywordEach kws env)).any (·.1.isNone) = false
  | [], ks, h => by cases h; exact ⟨rfl, rfl, rfl⟩
  | ⟨a, e, p⟩ :: kws, ks, h => by
    rw [List.mapM_cons] at h
    cases a with
    | none => cases h
    | some a =>
      cases h2 : kws.mapM (·.arg) with
      | none => rw [h2] at h; cases h
      | some ks' =>
        rw [h2] at h
        cases h
        obtain ⟨h3, h4, h5⟩ := kw_all (pos := pos) (env := env) h2
        refine ⟨?_, ?_, ?_⟩
        · show (true && (backToKw pos (keywordEach kws env)).all (·.1.isSome)) = true
          rw [h3] <;> rfl
        · show a :: (backToKw pos (keywordEach kws env)).filterMap (·.1) = _
          rw [h4] <;> rfl
        · show (false || (backToKw pos (keywordEach kws env)).any (·.1.isNone)) = false
          rw [h5] <;> rfl
end Mp

set_option maxRecDepth 100000
set_option maxHeartbeats 4000000
/-! Mp14: what the check says of expressions. -/
namespace Mp
open PySem PySem.Spec PyProof.Rows L2

/-- a def, callable here -/
def FnR (G : GD) (cl : Nat → List Bool → List D → CRes) (ar : Nat → Nat) (k : Nat) (pss : List (List Str)) (X : Cx) (f : Nat) : Prop := ∃ fd ps as, FnOk X.prog X.w X.K X.mg X.base (fun _ _ _ _ _ _ => False) k (G.fa f) fd ps (spOf G (cl f) (ar f)) ∧ PySem.W.keepIn X.K (.ref (G.fa f)) = true ∧
  fd.params = ⟨[], as, none, [], [], none, []⟩ ∧ fd.defaults = .none ∧ as.map (·.arg) = ps ∧ ps.Nodup ∧ pss[f]? = some ps
structure CxOk (G : GD) (cl : Nat → List Bool → List D → CRes) (ar : Nat → Nat) (vf : Nat → Prop) (gv : Str → V) (lv : Nat) (Γ : Gm) (X : Cx) : Prop where
  N : X.N = Γ.N
  nd : X.N.Nodup
  sc : X.env.scope = Γ.sc
  kind : Γ.sc.kind = .function
  K : X.K = G.K
  calm : X.calm = true
  fn : Γ.top = true → ∀ x, X.fn x = true
  fnb : ∀ x, Γ.sto.names.lookup x = some .cell → X.fn x = true
  xe : X.xe = fun _ _ => False
  un : X.A.units + 65 < cLine
  glo : ∀ x d, Γ.vals.lookup x = some d → ∃ u, X.mg x = some u ∧ RelV (gv x) u
  vfn : ∀ x f, Γ.vals.lookup x = some (.fn f) → vf f ∧ X.mg x = some (.ref (G.fa f))
  fns : ∀ f, vf f → FnR G cl ar lv Γ.pss X f
  room : Room (lv + 1) X.A
  vcl : ∀ x c, Γ.vals.lookup x = some (.cls c) → X.mg x = some (.ref (G.ca c))
  mkf : ∀ c fl f, Γ.cls[c]? = some (fl, f) → vf f ∧ Mk X.K (G.ca c) (G.fa f)
  eqf : ∀ c f, (c, f) ∈ Γ.eqs → vf f ∧ EqK X.K (G.ca c) (G.fa f)
  free : ∀ x, Γ.free.contains x = true → X.mg x = none
section
variable {G : GD} {cl : Nat → List Bool → List D → CRes} {ar : Nat → Nat} {vf : Nat → Prop} {gv : Str → V} {lv : Nat} {Γ : Gm} {X : Cx}
theorem CxOk.gl (C : CxOk G cl ar vf gv lv Γ X) {x : Str} (h : gloB Γ.sc x = true) : Gl X x := by
  show X.env.scope.names.lookup x = some .globalImplicit
  rw [C.sc]
  unfold gloB at h
  split at h
  · assumption
  · cases h
theorem okN {x : Str} (h : okName x = true) : (x == ("__debug__" : Str)) = false ∧ (x == ("__classdict__" : Str)) = false ∧ x ≠ "__name__" := by
  unfold okName at h
  simp only [Bool.and_eq_true, Bool.not_eq_true'] at h
  obtain ⟨⟨h1, h2⟩, h3⟩ := h
  refine ⟨h1, h2, fun e => ?_⟩
  rw [e] at h3
  exact absurd h3 (by decide)
theorem CxOk.var (C : CxOk G cl ar vf gv lv Γ X) {i : Nat} {x : Str} {p : Pos} (h : varB Γ i x = true) : X.N[i]? = some x ∧ Vis X.env.scope x ∧ (x == ("__debug__" : Str)) = false ∧ (x == ("__classdict__" : Str)) = false ∧ PE X (.Name x p) (tVar i) := by
  obtain ⟨h1, h2⟩ := ba2 h
  obtain ⟨h2, h3⟩ := ba2 h2
  have e1 : X.N[i]? = some x := by rw [C.N]; exact of_decide_eq_true h1
  have e2 : Vis X.env.scope x := by
    unfold Vis
    rw [C.sc]
    unfold visB at h2
    split at h2
    · exact .inl (by assumption)
    · exact .inr (.inl (by assumption))
    · exact .inr (.inr (by assumption))
    · cases h2
  obtain ⟨k1, k2, _⟩ := okN h3
  exact ⟨e1, e2, k1, k2, pe_var e1 e2 k1 k2⟩
theorem CxOk.stv (C : CxOk G cl ar vf gv lv Γ X) {i : Nat} {x : Str} {p : Pos} (h : stvB Γ i x = true) : PG X (.Name x p) (gName i) := by
  obtain ⟨h1, h2⟩ := ba2 h
  obtain ⟨h2, h3⟩ := ba2 h2
  have e1 : X.N[i]? = some x := by rw [C.N]; exact of_decide_eq_true h1
  rcases Bool.or_eq_true_iff.mp h3 with h3 | h3
  · have l : X.env.scope.names.lookup x = some .local := by
      rw [C.sc]
      unfold lclB at h3
      split at h3
      · assumption
      · cases h3
    exact pg_name C.nd e1 (.inl l) (.inr l)
  · obtain ⟨h3, h4⟩ := ba2 h3
    have l : L2.Loc X.env.scope x := by
      unfold L2.Loc
      rw [C.sc]
      unfold locB at h3
      split at h3
      · exact .inl (by assumption)
      · exact .inr (by assumption)
      · cases h3
    refine pg_name C.nd e1 l (.inl ?_)
    rcases Bool.or_eq_true_iff.mp h4 with h4 | h4
    · exact C.fn h4 x
    · refine C.fnb x ?_
      unfold cellB at h4
      split at h4
      · assumption
      · cases h4
theorem CxOk.fr (C : CxOk G cl ar vf gv lv Γ X) {x : Str} (h : freeB Γ x = true) : Gl X x ∧ X.mg x = none ∧ x ≠ "__name__" ∧ (x == ("__debug__" : Str)) = false := by
  obtain ⟨h1, h2⟩ := ba2 h
  obtain ⟨h2, h3⟩ := ba2 h2
  obtain ⟨k1, _, k2⟩ := okN h3
  exact ⟨C.gl h1, C.free x h2, k2, k1⟩
theorem CxOk.val (C : CxOk G cl ar vf gv lv Γ X) {x : Str} {d : D} (h : valB Γ x d = true) : Gl X x ∧ Γ.vals.lookup x = some d ∧ (x == ("__debug__" : Str)) = false := by
  obtain ⟨h1, h2⟩ := ba2 h
  obtain ⟨h1, h3⟩ := ba2 h1
  obtain ⟨k1, _, _⟩ := okN h3
  refine ⟨C.gl h1, ?_, k1⟩
  split at h2
  · rename_i d' e
    rw [e, D.eqb_ok h2]
  · cases h2
theorem relS_eq {scope : Scope} {env : PySem.Env} {sc : Scope} (h : env.scope = sc) : relabel scope env = relS scope sc := by
  unfold relabel relS Env.kindOf
  rw [h]
theorem CxOk.blk (C : CxOk G cl ar vf gv lv Γ X) {own : List (Str × Nat)} {s : Shared} {H : Hp} {scope : Scope} {c : Addr} {cs : List (Str × Addr)} {fp : List Addr} (b : blkC Γ.N Γ.sc scope own = true) : CxOk G cl ar vf gv lv (inScope Γ scope) (X.blk s H scope (compEnvC scope cs c X.env) fp) where
  N := C.N
  nd := C.nd
  sc := relS_eq C.sc
  kind := (blkOk_by b).kind
  K := C.K
  calm := C.calm
  fn := fun h => by cases h
  fnb := fun x e => by
    show (scope.names.lookup x == some .cell) = true
    have e' : scope.names.lookup x = some .cell := e
    rw [e'] <;> rfl
  xe := rfl
  un := C.un
  glo := C.glo
  vfn := C.vfn
  fns := C.fns
  room := C.room
  vcl := C.vcl
  mkf := C.mkf
  eqf := C.eqf
  free := C.free
theorem star1 {e : Expr} {es : List Expr} {env : PySem.Env} (h : nst e = true) : starEach (e :: es) env = (false, eval e env) :: starEach es env := by
  cases e <;> first | rfl | cases h
theorem starA {env : PySem.Env} {pos : Pos} : ∀ {es : List Expr}, es.all nst = true → (backTo pos (starEach es env)).any (·.1) = false
  | [], _ => rfl
  | e :: es, h => by
    obtain ⟨h1, h2⟩ := ba2 (show (nst e && es.all nst) = true from h)
    rw [star1 h1]
    show (false || (backTo pos (starEach es env)).any (·.1)) = false
    rw [starA h2] <;> rfl
theorem plainIx {y : Expr} (h : nsl y = true) : PlainIx y := fun _ _ => by
  cases y <;> first | rfl | cases h
theorem chkL_n : ∀ (es : E) (Γ : Gm) (l : List Expr), chkL es Γ l = true → l.all nst = true
  | es, Γ, [], _ => rfl
  | es, Γ, e :: l, h => by
    cases es with
    | cons a r =>
      obtain ⟨h1, h2⟩ := ba2 (show (nst e && (chkE a Γ e && chkL r Γ l)) = true by simpa only [chkL] using h)
      obtain ⟨_, h3⟩ := ba2 h2
      show (nst e && l.all nst) = true
      rw [h1, chkL_n r Γ l h3] <;> rfl
    | _ => simp [chkL] at h
theorem chkA_n : ∀ (es : E) (Γ : Gm) (l : List Expr), chkA es Γ l = true → l.all nst = true
  | es, Γ, [], _ => rfl
  | es, Γ, e :: l, h => by
    cases es with
    | cons a r =>
      obtain ⟨h1, h2⟩ := ba2 (show (nst e && (chkE a Γ e && chkA r Γ l)) = true by simpa only [chkA] using h)
      obtain ⟨_, h3⟩ := ba2 h2
      show (nst e && l.all nst) = true
      rw [h1, chkA_n r Γ l h3] <;> rfl
    | ioa i r =>
      cases e with
      | Name x p =>
        obtain ⟨h1, h2⟩ := ba2 (show (varB Γ i x && chkA r Γ l) = true by simpa only [chkA] using h)
        show (true && l.all nst) = true
        rw [chkA_n r Γ l h2] <;> rfl
      | _ => simp [chkA] at h
    | _ => simp [chkA] at h
/-- the built-ins -/
theorem blt_pe (G : GD) (b : Blt) (hk : bltKnown b = true) : ∃ r, bltOk G b r ∧ ∀ (cl : Nat → List Bool → List D → CRes) (ar : Nat → Nat) (vf : Nat → Prop) (gv : Str → V) (lv : Nat) (Γ : Gm) (X : Cx) (p pos : Pos) (e : Expr) (es : List Expr) (t : TA), CxOk G cl ar vf gv lv Γ X → freeB Γ (bltName b) = true → (e :: es).all nst = true → PA X (e :: es) t →
    PE X (.Call (.Name (bltName b) p) (e :: es) [] pos) (tCB r t) := by
  have kB : ∀ (id : String) (r : List V → Hp → VK → Prop), (∀ X : Cx, X.K = G.K → X.calm = true → CallR X (.builtin id) r) → bootBuiltins (bltName b) = some (.builtin id) → ∀ (cl : Nat → List Bool → List D → CRes) (ar : Nat → Nat) (vf : Nat → Prop) (gv : Str → V) (lv : Nat) (Γ : Gm) (X : Cx) (p pos : Pos) (e : Expr) (es : List Expr) (t : TA), CxOk G cl ar vf gv lv Γ X → freeB Γ (bltName b) = true → (e :: es).all nst = true → PA X (e :: es) t →
    PE X (.Call (.Name (bltName b) p) (e :: es) [] pos) (tCB r t) := fun id r hr hb cl ar vf gv lv Γ X p pos e es t C f n ha => by
    obtain ⟨h1, h2, h3, h4⟩ := C.fr f
    obtain ⟨n1, n2⟩ := ba2 (show (nst e && es.all nst) = true from n)
    exact pe_callB (hr X C.K C.calm) h1 h2 hb ha h3 h4 (star1 n1) (starA n2)
  have kT : ∀ (id : String) (r : List V → Hp → VK → Prop), (∀ X : Cx, X.K = G.K → X.calm = true → CallR X (.type id) r) → bootBuiltins (bltName b) = some (.type id) → ∀ (cl : Nat → List Bool → List D → CRes) (ar : Nat → Nat) (vf : Nat → Prop) (gv : Str → V) (lv : Nat) (Γ : Gm) (X : Cx) (p pos : Pos) (e : Expr) (es : List Expr) (t : TA), CxOk G cl ar vf gv lv Γ X → freeB Γ (bltName b) = true → (e :: es).all nst = true → PA X (e :: es) t →
    PE X (.Call (.Name (bltName b) p) (e :: es) [] pos) (tCB r t) := fun id r hr hb cl ar vf gv lv Γ X p pos e es t C f n ha => by
    obtain ⟨h1, h2, h3, h4⟩ := C.fr f
    obtain ⟨n1, n2⟩ := ba2 (show (nst e && es.all nst) = true from n)
    exact pe_callTy (hr X C.K C.calm) h1 h2 hb ha h3 h4 (star1 n1) (starA n2)
  cases b with
  | len => obtain ⟨r, h1, h2⟩ := blt_len G; exact ⟨r, h2, kB _ r h1 boot_len⟩
  | tuple => obtain ⟨r, h1, h2⟩ := blt_tuple G; exact ⟨r, h2, kT _ r h1 boot_tuple⟩
  | list => obtain ⟨r, h1, h2⟩ := blt_list G; exact ⟨r, h2, kT _ r h1 boot_list⟩
  | min => obtain ⟨r, h1, h2⟩ := blt_min G; exact ⟨r, h2, kB _ r h1 boot_min⟩
  | max => obtain ⟨r, h1, h2⟩ := blt_max G; exact ⟨r, h2, kB _ r h1 boot_max⟩
  | int => obtain ⟨r, h1, h2⟩ := blt_int G; exact ⟨r, h2, kT _ r h1 boot_int⟩
  | abs => obtain ⟨r, h1, h2⟩ := blt_abs G; exact ⟨r, h2, kB _ r h1 boot_abs⟩
  | divmod => obtain ⟨r, h1, h2⟩ := blt_divmod G; exact ⟨r, h2, kB _ r h1 boot_divmod⟩
  | sum => obtain ⟨r, h1, h2⟩ := blt_sum G; exact ⟨r, h2, kB _ r h1 boot_sum⟩
  | all => obtain ⟨r, h1, h2⟩ := blt_all G; exact ⟨r, h2, kB _ r h1 boot_all⟩
  | any => obtain ⟨r, h1, h2⟩ := blt_any G; exact ⟨r, h2, kB _ r h1 boot_any⟩
  | sorted =>
    obtain ⟨r, h1, h2⟩ := blt_sorted G
    refine ⟨r, h2, fun cl ar vf gv lv Γ X p pos e es t C f n ha => ?_⟩
    obtain ⟨k1, k2, k3, k4⟩ := C.fr f
    obtain ⟨n1, n2⟩ := ba2 (show (nst e && es.all nst) = true from n)
    exact pe_callB (h1 X C.K C.un) k1 k2 boot_sorted ha k3 k4 (star1 n1) (starA n2)
  | isinst t => cases hk
end
end Mp

set_option maxRecDepth 100000
set_option maxHeartbeats 4000000
/-! Mp15: what the check says of expressions, put together. -/
namespace Mp
open PySem PySem.Spec PyProof.Rows L2
section
variable (G : GD) (cl : Nat → List Bool → List D → CRes) (ar : Nat → Nat) (vf : Nat → Prop) (hn : ∀ f fl ds x, cl f fl ds = some x → ds.length = ar f)
/-- the address's promise -/
noncomputable def spAt (a : Addr) : Option L2.Sp := open Classical in if h : ∃ f, vf f ∧ G.fa f = a then some (spOf G (cl h.choose) (ar h.choose)) else none
theorem st_trB {ea : Env → R (D × Kd)} {ta : TE} (ha : SE G ea ta) (hb : ∀ ρ d k ρ', ea ρ = .ok (d, k) ρ' → ∃ b, d = .bl b) : STt G (fun ρ => (ea ρ).bind fun x ρ => R.of (truthD x.1) ρ) (tTest ta) := by
  intro X F ρ σ H Q d ρ' S h q
  obtain ⟨⟨d1, k1⟩, ρ1, h1, h⟩ := bind_ok h
  obtain ⟨h2, rfl⟩ := of_ok h
  refine ha X F ρ σ H _ _ k1 ρ' S h1 fun v1 H1 F1 p1 r1 => ?_
  obtain ⟨b, rfl⟩ := hb _ _ _ _ h1
  cases h2
  exact ⟨d, r1.bl p1.sr, q H1 (p1.drop (fun _ h => h) (sub_of p1))⟩
theorem st_yes : STt G (fun ρ => .ok true ρ) tYes := by
  intro X F ρ σ H Q d ρ' S h q
  cases h
  exact q H (Po.refl S)
theorem se_notT {ea : Env → R (D × Kd)} {ta : TE} (ha : SE G ea ta) : SE G (fun ρ => ((ea ρ).bind fun x ρ => R.of (truthD x.1) ρ).bind fun b ρ => .ok (.bl (!b), .frz) ρ) (tNotT G.K ta) := by
  intro X F ρ σ H Q d k ρ' S h q
  obtain ⟨b, ρ1, h1, h⟩ := bind_ok h
  cases h
  exact st_tr ha X F ρ σ H (fun b H1 => Q (.bl (!b)) H1) b ρ' S h1 fun H1 p1 => q _ H1 F p1 (.frz rfl (.bl _))
theorem cmp_bl {a b : E} {o : Cop} : ∀ ρ d k ρ', evE cl (.cmp o a b) ρ = .ok (d, k) ρ' → ∃ b, d = .bl b := by
  intro ρ d k ρ' h
  obtain ⟨x, ρ1, h1, h⟩ := bind_ok (show ((evE cl a ρ).bind fun x ρ => (evE cl b ρ).bind fun y ρ => (R.of (cmpD o (cur ρ x.1 x.2) y.1) ρ).bind fun z ρ => .ok (.bl z, .frz) ρ) = .ok (d, k) ρ' from h)
  obtain ⟨y, ρ2, h2, h⟩ := bind_ok h
  obtain ⟨z, h3, h⟩ := ofb_ok h
  cases h
  exact ⟨_, rfl⟩
theorem oeq_bl {ng : Bool} {c f : Nat} {a b : E} : ∀ ρ d k ρ', evE cl (.oeq ng c f a b) ρ = .ok (d, k) ρ' → ∃ b, d = .bl b := by
  intro ρ d k ρ' h
  obtain ⟨x, ρ1, h1, h⟩ := bind_ok (show ((evE cl a ρ).bind fun x ρ => (settle ρ x.1 x.2).bind fun d ρ => (evE cl b ρ).bind fun y ρ => (settle ρ y.1 y.2).bind fun e ρ => if insB c d = true ∧ othB c e = true then (doCall cl f [.v d, .v e] ρ).bind fun z ρ => blR ng z ρ else .no) = .ok (d, k) ρ' from h)
  obtain ⟨d2, ρ2, h2, h⟩ := bind_ok h
  obtain ⟨y, ρ3, h3, h⟩ := bind_ok h
  obtain ⟨e2, ρ4, h4, h⟩ := bind_ok h
  split at h
  · obtain ⟨⟨z, kz⟩, ρ5, h5, h⟩ := bind_ok h
    cases z with
    | bl b => cases kz with
      | frz => cases h; exact ⟨_, rfl⟩
      | _ => cases h
    | _ => cases h
  · cases h
theorem cmp2_bl {a b c : E} {o p : Cop} : ∀ ρ d k ρ', evE cl (.cmp2 o p a b c) ρ = .ok (d, k) ρ' → ∃ b, d = .bl b := by
  intro ρ d k ρ' h
  obtain ⟨x, ρ1, h1, h⟩ := bind_ok (show ((evE cl a ρ).bind fun x ρ => (evE cl b ρ).bind fun y ρ => (R.of (cmpD o (cur ρ x.1 x.2) y.1) ρ).bind fun z ρ =>
      if z = true then (evE cl c ρ).bind fun w ρ => (R.of (cmpD p (cur ρ y.1 y.2) w.1) ρ).bind fun z ρ => .ok (.bl z, .frz) ρ else .ok (.bl false, .frz) ρ) = .ok (d, k) ρ' from h)
  obtain ⟨y, ρ2, h2, h⟩ := bind_ok h
  obtain ⟨z, h3, h⟩ := ofb_ok h
  cases z with
  | true =>
    obtain ⟨w, ρ3, h4, h⟩ := bind_ok h
    obtain ⟨z, h5, h⟩ := ofb_ok h
    cases h
    exact ⟨_, rfl⟩
  | false => cases h; exact ⟨_, rfl⟩
theorem plain_isTrue {e : Expr} {env : PySem.Env} (h : plainT e = true) : ∀ whole, isTrue e env whole = (do let v ← whole; standAt e.pos; holding [v] (truthy v)) := by
  intro w
  cases e with
  | UnaryOp op x p => cases op <;> first | rfl | cases h
  | BoolOp => cases h
  | IfExp => cases h
  | Compare => cases h
  | _ => rfl
theorem nset_fold {e : Expr} {env : PySem.Env} (h : nset e = true) : ∀ x, foldedSetIterable e env x = pure x := by
  intro x
  cases e <;> first | rfl | cases h
theorem evGs_len : ∀ (ts : E), ∃ n, ∀ ds ρ ρ', evGs cl ts ds ρ = .ok () ρ' → ds.length = n
  | .nil => ⟨0, fun ds ρ ρ' h => by cases ds with
    | nil => rfl
    | cons d ds => cases h⟩
  | .cons t r => by
    obtain ⟨n, hn⟩ := evGs_len r
    refine ⟨n + 1, fun ds ρ ρ' h => ?_⟩
    cases ds with
    | nil => cases h
    | cons d ds =>
      obtain ⟨u, ρ1, h1, h⟩ := bind_ok (show ((evG cl t d .frz ρ).bind fun _ ρ => evGs cl r ds ρ) = .ok () ρ' from h)
      rw [List.length_cons, hn ds ρ1 ρ' h]
  | .var _ => ⟨0, fun ds ρ ρ' h => by cases ds <;> cases h⟩
  | .con _ => ⟨0, fun ds ρ ρ' h => by cases ds <;> cases h⟩
  | .glo _ _ => ⟨0, fun ds ρ ρ' h => by cases ds <;> cases h⟩
  | .ioa _ _ => ⟨0, fun ds ρ ρ' h => by cases ds <;> cases h⟩
  | .tup _ => ⟨0, fun ds ρ ρ' h => by cases ds <;> cases h⟩
  | .lst _ => ⟨0, fun ds ρ ρ' h => by cases ds <;> cases h⟩
  | .neg _ => ⟨0, fun ds ρ ρ' h => by cases ds <;> cases h⟩
  | .bin _ _ _ => ⟨0, fun ds ρ ρ' h => by cases ds <;> cases h⟩
  | .cmp _ _ _ => ⟨0, fun ds ρ ρ' h => by cases ds <;> cases h⟩
  | .cmp2 _ _ _ _ _ => ⟨0, fun ds ρ ρ' h => by cases ds <;> cases h⟩
  | .not _ => ⟨0, fun ds ρ ρ' h => by cases ds <;> cases h⟩
  | .and _ _ => ⟨0, fun ds ρ ρ' h => by cases ds <;> cases h⟩
  | .or _ _ => ⟨0, fun ds ρ ρ' h => by cases ds <;> cases h⟩
  | .ife _ _ _ => ⟨0, fun ds ρ ρ' h => by cases ds <;> cases h⟩
  | .idx _ _ => ⟨0, fun ds ρ ρ' h => by cases ds <;> cases h⟩
  | .sl _ _ _ => ⟨0, fun ds ρ ρ' h => by cases ds <;> cases h⟩
  | .call _ _ => ⟨0, fun ds ρ ρ' h => by cases ds <;> cases h⟩
  | .callk _ _ _ _ => ⟨0, fun ds ρ ρ' h => by cases ds <;> cases h⟩
  | .fld _ _ => ⟨0, fun ds ρ ρ' h => by cases ds <;> cases h⟩
  | .mk _ _ _ _ => ⟨0, fun ds ρ ρ' h => by cases ds <;> cases h⟩
  | .isinc _ _ _ => ⟨0, fun ds ρ ρ' h => by cases ds <;> cases h⟩
  | .calf _ _ _ => ⟨0, fun ds ρ ρ' h => by cases ds <;> cases h⟩
  | .calv _ _ => ⟨0, fun ds ρ ρ' h => by cases ds <;> cases h⟩
  | .vop _ _ _ _ => ⟨0, fun ds ρ ρ' h => by cases ds <;> cases h⟩
  | .uop _ _ => ⟨0, fun ds ρ ρ' h => by cases ds <;> cases h⟩
  | .bm _ _ _ => ⟨0, fun ds ρ ρ' h => by cases ds <;> cases h⟩
  | .mkk _ _ _ _ _ _ => ⟨0, fun ds ρ ρ' h => by cases ds <;> cases h⟩
  | .oeq _ _ _ _ _ => ⟨0, fun ds ρ ρ' h => by cases ds <;> cases h⟩
  | .blt _ _ => ⟨0, fun ds ρ ρ' h => by cases ds <;> cases h⟩
  | .isin _ _ => ⟨0, fun ds ρ ρ' h => by cases ds <;> cases h⟩
  | .lc _ _ _ _ _ => ⟨0, fun ds ρ ρ' h => by cases ds <;> cases h⟩
  | .rng1 _ => ⟨0, fun ds ρ ρ' h => by cases ds <;> cases h⟩
  | .rng2 _ _ => ⟨0, fun ds ρ ρ' h => by cases ds <;> cases h⟩
  | .enm _ => ⟨0, fun ds ρ ρ' h => by cases ds <;> cases h⟩
  | .zip _ _ => ⟨0, fun ds ρ ρ' h => by cases ds <;> cases h⟩
  | .it _ => ⟨0, fun ds ρ ρ' h => by cases ds <;> cases h⟩
  | .tr _ => ⟨0, fun ds ρ ρ' h => by cases ds <;> cases h⟩
end
end Mp

set_option maxRecDepth 100000
set_option maxHeartbeats 4000000
/-! Mp16: what the check says of expressions. -/
namespace Mp
open PySem PySem.Spec PyProof.Rows L2
section
variable {G : GD} {cl : Nat → List Bool → List D → CRes} {ar : Nat → Nat} {vf : Nat → Prop} {gv : Str → V} {lv : Nat}
theorem spAt_eq (inj : ∀ f g, vf f → vf g → G.fa f = G.fa g → f = g) {f : Nat} (h : vf f) : spAt G cl ar vf (G.fa f) = some (spOf G (cl f) (ar f)) := by
  unfold spAt
  have hx : ∃ g, vf g ∧ G.fa g = G.fa f := ⟨f, h, rfl⟩
  rw [dif_pos hx]
  have := hx.choose_spec
  rw [inj _ _ this.1 h this.2]
theorem spAt_held {gv : Str → V} {lv : Nat} {Γ : Gm} {X : Cx} (C : CxOk G cl ar vf gv lv Γ X) (a : Addr) (sp : L2.Sp) (h : spAt G cl ar vf a = some sp) : Held X.prog X.w X.K X.mg X.base lv a sp := by
  unfold spAt at h
  split at h
  · rename_i hx
    cases h
    obtain ⟨h1, h2⟩ := hx.choose_spec
    obtain ⟨fd, ps, as, F, q1, q2, q3, q4, q5, _⟩ := C.fns _ h1
    rw [h2] at F q1
    exact ⟨⟨fd, ps, F, q1, binds_of q2 q3 q4 q5⟩⟩
  · cases h
end
section
variable {G : GD} {cl : Nat → List Bool → List D → CRes} {ar : Nat → Nat} {vf : Nat → Prop} {gv : Str → V} {lv : Nat}
  (hn : ∀ f fl ds x, cl f fl ds = some x → ds.length = ar f) (hv : ∀ f fl ds x, cl f fl ds = some x → vf f) (inj : ∀ f g, vf f → vf g → G.fa f = G.fa g → f = g)
/-- the module's names' values -/
structure GvOk (G : GD) (gv : Str → V) (Γ : Gm) : Prop where
  val : ∀ x d H, Γ.vals.lookup x = some d → Dt G H (gv x) d
  cls : ∀ c fl f, Γ.cls[c]? = some (fl, f) → InsF G c fl ∧ ∀ i, i < 6 → PySem.W.kitOne G.K (.type (dTyN i)) (.ref (G.ca c)) = some false
/-- what is shown of an expression -/
def OkE (G : GD) (cl : Nat → List Bool → List D → CRes) (ar : Nat → Nat) (vf : Nat → Prop) (gv : Str → V) (lv : Nat) (E : E) (Γ : Gm) (e : Expr) : Prop := ∃ t, (∀ X, CxOk G cl ar vf gv lv Γ X → PE X e t) ∧ SE G (evE cl E) t
def OkL (G : GD) (cl : Nat → List Bool → List D → CRes) (ar : Nat → Nat) (vf : Nat → Prop) (gv : Str → V) (lv : Nat) (E : E) (Γ : Gm) (l : List Expr) : Prop := ∃ t, (∀ X, CxOk G cl ar vf gv lv Γ X → PA X l t) ∧ SL G (evL cl E) t ∧ SP G (evP cl E) t
def OkA (G : GD) (cl : Nat → List Bool → List D → CRes) (ar : Nat → Nat) (vf : Nat → Prop) (gv : Str → V) (lv : Nat) (E : E) (Γ : Gm) (l : List Expr) : Prop := ∃ t, (∀ X, CxOk G cl ar vf gv lv Γ X → PA X l t) ∧ SA G (evA cl E) t
def OkK (G : GD) (cl : Nat → List Bool → List D → CRes) (ar : Nat → Nat) (vf : Nat → Prop) (gv : Str → V) (lv : Nat) (E : E) (Γ : Gm) (l : List Keyword) : Prop := ∃ t, (∀ X, CxOk G cl ar vf gv lv Γ X → PK X l t) ∧ SA G (evA cl E) t
def OkO (G : GD) (cl : Nat → List Bool → List D → CRes) (ar : Nat → Nat) (vf : Nat → Prop) (gv : Str → V) (lv : Nat) (E : E) (Γ : Gm) (e : Option Expr) : Prop := ∃ t, (∀ X, CxOk G cl ar vf gv lv Γ X → PO X e t) ∧ SO G (evO cl E) t
def OkT (G : GD) (cl : Nat → List Bool → List D → CRes) (ar : Nat → Nat) (vf : Nat → Prop) (gv : Str → V) (lv : Nat) (E : E) (Γ : Gm) (e : Expr) : Prop := ∃ t, (∀ X, CxOk G cl ar vf gv lv Γ X → PT X e t) ∧ STt G (evT cl E) t
def OkI (G : GD) (cl : Nat → List Bool → List D → CRes) (ar : Nat → Nat) (vf : Nat → Prop) (gv : Str → V) (lv : Nat) (E : E) (Γ : Gm) (tg e : Expr) : Prop := ∃ t, (∀ X, CxOk G cl ar vf gv lv Γ X → PI X tg e t) ∧ SI G (evI cl E) t
def OkV (G : GD) (cl : Nat → List Bool → List D → CRes) (ar : Nat → Nat) (vf : Nat → Prop) (gv : Str → V) (lv : Nat) (E : E) (vs : List Nat) (Γ : Gm) (e : Expr) : Prop := ∃ t, (∀ X, CxOk G cl ar vf gv lv Γ X → PG X e t) ∧ SGv G vs (fun d => evG cl E d .frz) t
def OkVs (G : GD) (cl : Nat → List Bool → List D → CRes) (ar : Nat → Nat) (vf : Nat → Prop) (gv : Str → V) (lv : Nat) (E : E) (vs : List Nat) (Γ : Gm) (l : List Expr) : Prop := ∃ t, (∀ X, CxOk G cl ar vf gv lv Γ X → PGs X l t ∧ (assignEach l X.env).findIdx? (·.1) = none) ∧ SGvs G vs (evGs cl E) t
theorem asg1 {e : Expr} {es : List Expr} {env : PySem.Env} (h : nst e = true) : assignEach (e :: es) env = (false, assign e env) :: assignEach es env := by
  cases e <;> first | rfl | cases h
theorem asgLen {env : PySem.Env} : ∀ {es : List Expr}, (assignEach es env).length = es.length
  | [] => rfl
  | e :: es => by
    have : (assignEach (e :: es) env).length = (assignEach es env).length + 1 := by cases e <;> rfl
    rw [this, asgLen, List.length_cons]
theorem chkVs_len (vs : List Nat) (Γ : Gm) : ∀ (l : List Expr) (ts : E), chkVs ts vs Γ l = true → ∀ ds ρ ρ', evGs cl ts ds ρ = .ok () ρ' → ds.length = l.length
  | [], ts, h, ds, ρ, ρ', e => by
    cases ts with
    | nil => cases ds with
      | nil => rfl
      | cons => cases e
    | _ => cases h
  | x :: l, ts, h, ds, ρ, ρ', e => by
    cases ts with
    | cons t ts =>
      obtain ⟨_, h2⟩ := ba2 (show (nst x && (chkV t vs Γ x && chkVs ts vs Γ l)) = true from h)
      obtain ⟨_, h3⟩ := ba2 h2
      cases ds with
      | nil => cases e
      | cons d ds =>
        obtain ⟨u, ρ1, _, e⟩ := bind_ok (show ((evG cl t d .frz ρ).bind fun _ ρ => evGs cl ts ds ρ) = .ok () ρ' from e)
        rw [List.length_cons, List.length_cons, chkVs_len vs Γ l ts h3 ds ρ1 ρ' e]
    | _ => cases h
theorem oeq_op {G : GD} {cl : Nat → List Bool → List D → CRes} {ar : Nat → Nat} {vf : Nat → Prop} {gv : Str → V} {lv : Nat} {Γ : Gm} {X : Cx} (C : CxOk G cl ar vf gv lv Γ X) {c f : Nat} (ng : Bool) (h : (c, f) ∈ Γ.eqs) : OpR X (compareOp (if ng = true then .NotEq else .Eq)) (rOwnE G.K (G.ca c) (spOf G (cl f) (ar f)) ng fun _ _ _ => False) := by
  obtain ⟨v1, v2⟩ := C.eqf c f h
  obtain ⟨fd, ps, as, F, hk, w1, w2, w3, w4, _⟩ := C.fns f v1
  have hu : X.A.units + 1 < cLine := by have := C.un; omega
  rw [← C.K]
  cases ng with
  | false => exact op_ownE F v2 (binds_of w1 w2 w3 w4) (fun _ _ _ _ _ _ _ z => z.elim) C.room hu
  | true => exact op_ownN F v2 (binds_of w1 w2 w3 w4) (fun _ _ _ _ _ _ _ z => z.elim) C.room hu
theorem nsup2_ok {o : Expr} {a : Str} {env : PySem.Env} {w : Sem Value} (h : nsup2 o = true) : attributeBase o a env w = w := by
  cases o with
  | Call f args kws p =>
    cases f with
    | Name x q =>
      cases args with
      | cons _ _ => rfl
      | nil =>
        cases kws with
        | cons _ _ => rfl
        | nil => cases h
    | _ => rfl
  | _ => rfl
theorem pw_of {X : Cx} {op : BoolOp} {l : List Expr} {p : Pos} {t : TT} (h : PT X (.BoolOp op l p) t) : PW X (.BoolOp op l p) t := ⟨fun _ => h.run⟩
include hn hv inj in
mutual
theorem chkE_ok : ∀ (E : E) (Γ : Gm) (e : Expr), GvOk G gv Γ → chkE E Γ e = true → OkE G cl ar vf gv lv E Γ e
  | .var i, Γ, e, hg, h => by
    cases e with
    | Name x p => exact ⟨_, fun X C => (C.var h).2.2.2.2, se_var⟩
    | _ => cases h
  | .con d, Γ, e, hg, h => by
    cases e with
    | Constant c j p =>
      have h' : conB d c = true := h
      cases d <;> cases c <;> first
        | (have e := of_decide_eq_true h'; subst e; first | exact ⟨_, fun X C => pe_int, se_con fun _ => .int _⟩ | exact ⟨_, fun X C => pe_str, se_con fun _ => .str _⟩)
        | exact ⟨_, fun X C => pe_non, se_con fun _ => .non⟩
        | (have e := eq_of_beq (show (_ == _) = true from h'); subst e; exact ⟨_, fun X C => pe_bl, se_con fun _ => .bl _⟩)
        | cases h'
    | _ => cases h
  | .glo x d, Γ, e, hg, h => by
    cases e with
    | Name y p =>
      obtain ⟨h1, h2⟩ := ba2 (show (decide (x = y) && valB Γ x d) = true from h)
      have e := of_decide_eq_true h1
      subst e
      have hl : Γ.vals.lookup x = some d := by
        obtain ⟨_, h3⟩ := ba2 h2
        split at h3
        · rename_i d' e
          rw [e, D.eqb_ok h3]
        · cases h3
      refine ⟨tC (gv x), fun X C => ?_, se_con fun H => hg.val x d H hl⟩
      obtain ⟨k1, _, k2⟩ := C.val h2
      obtain ⟨u, e1, e2⟩ := C.glo x d hl
      exact pe_glob k1 e1 e2 k2
    | _ => cases h
  | .tup es, Γ, e, hg, h => by
    cases e with
    | Tuple l k p =>
      obtain ⟨t, h1, h2, _⟩ := chkL_ok es Γ l hg h
      exact ⟨_, fun X C => pe_tup (h1 X C), se_tup h2⟩
    | _ => cases h
  | .lst es, Γ, e, hg, h => by
    cases e with
    | List l p =>
      obtain ⟨t, h1, h2, _⟩ := chkL_ok es Γ l hg h
      exact ⟨_, fun X C => pe_lst (h1 X C), se_lst h2⟩
    | _ => cases h
  | .neg a, Γ, e, hg, h => by
    cases e with
    | UnaryOp op x p =>
      cases op with
      | USub =>
        obtain ⟨t, h1, h2⟩ := chkE_ok a Γ x hg h
        exact ⟨_, fun X C => pe_un un_neg (h1 X C), se_neg h2⟩
      | _ => cases h
    | _ => cases h
  | .bin o a b, Γ, e, hg, h => by
    cases e with
    | BinOp l op r p =>
      obtain ⟨h1, h2⟩ := ba2 (show (decide (op = bopOf o) && (chkE a Γ l && chkE b Γ r)) = true from h)
      obtain ⟨h2, h3⟩ := ba2 h2
      have e := of_decide_eq_true h1
      subst e
      obtain ⟨t, p1, q1⟩ := chkE_ok a Γ l hg h2
      obtain ⟨u, p2, q2⟩ := chkE_ok b Γ r hg h3
      obtain ⟨z, r1, r2⟩ := bop_ok G o
      exact ⟨_, fun X C => pe_op (r1 X C.K) (p1 X C) (p2 X C), se_bin q1 q2 r2⟩
    | _ => cases h
  | .cmp o a b, Γ, e, hg, h => by
    cases e with
    | Compare l ops rs p =>
      cases ops with
      | nil => cases h
      | cons op ops =>
        cases ops with
        | cons _ _ => cases rs with
          | nil => cases h
          | cons _ rs => cases rs <;> cases h
        | nil =>
          cases rs with
          | nil => cases h
          | cons r rs =>
            cases rs with
            | cons _ _ => cases h
            | nil =>
              obtain ⟨h1, h2⟩ := ba2 (show (decide (op = copOf o) && (!behindInMarks op r && (chkE a Γ l && chkE b Γ r))) = true from h)
              obtain ⟨h2, h3⟩ := ba2 h2
              obtain ⟨h3, h4⟩ := ba2 h3
              have e := of_decide_eq_true h1
              subst e
              obtain ⟨t, p1, q1⟩ := chkE_ok a Γ l hg h3
              obtain ⟨u, p2, q2⟩ := chkE_ok b Γ r hg h4
              obtain ⟨z, r1, r2⟩ := cop_ok G o
              exact ⟨_, fun X C => pe_cmpR (r1 X C.K C.un) (p1 X C) (p2 X C) (by simpa using h2), se_cmp q1 q2 r2⟩
    | _ => cases h
  | .cmp2 o1 o2 a b c, Γ, e, hg, h => by
    cases e with
    | Compare l ops rs p =>
      match ops, rs, h with
      | [o, o'], [m, r], h =>
        obtain ⟨h1, h2⟩ := ba2 (show (decide (o = copOf o1) && (decide (o' = copOf o2) && (!lastMarks [o, o'] [m, r] && (chkE a Γ l && (chkE b Γ m && chkE c Γ r))))) = true from h)
        have e := of_decide_eq_true h1
        subst e
        obtain ⟨h2, h3⟩ := ba2 h2
        have e := of_decide_eq_true h2
        subst e
        obtain ⟨h3, h4⟩ := ba2 h3
        obtain ⟨h4, h5⟩ := ba2 h4
        obtain ⟨h5, h6⟩ := ba2 h5
        obtain ⟨t, p1, q1⟩ := chkE_ok a Γ l hg h4
        obtain ⟨u, p2, q2⟩ := chkE_ok b Γ m hg h5
        obtain ⟨v, p3, q3⟩ := chkE_ok c Γ r hg h6
        obtain ⟨z, r1, r2⟩ := cop_ok G o1
        obtain ⟨z', r1', r2'⟩ := cop_ok G o2
        exact ⟨_, fun X C => pe_chain (r1 X C.K C.un) (r1' X C.K C.un) (p1 X C) (p2 X C) (p3 X C) (by simpa using h3), se_cmp2 q1 q2 q3 r2 r2'⟩
    | _ => cases h
  | .not a, Γ, e, hg, h => by
    cases a with
    | tr a =>
      cases e with
      | UnaryOp op x p =>
        cases op with
        | Not =>
          obtain ⟨t, h1, h2⟩ := chkE_ok a Γ x hg h
          exact ⟨_, fun X C => C.K ▸ pe_notT (h1 X C), se_notT G h2⟩
        | _ => cases h
      | _ => cases h
    | _ => cases h
  | .and a b, Γ, e, hg, h => by
    cases e with
    | BoolOp op l p =>
      cases op with
      | Or => cases h
      | And =>
        match l, h with
        | x :: y :: r, h =>
          cases r with
          | nil =>
            obtain ⟨h1, h2⟩ := ba2 (show (chkE a Γ x && chkE b Γ y) = true from h)
            obtain ⟨t, p1, q1⟩ := chkE_ok a Γ x hg h1
            obtain ⟨u, p2, q2⟩ := chkE_ok b Γ y hg h2
            exact ⟨_, fun X C => pe_and (p1 X C) (pe_one (p2 X C)), se_and q1 q2⟩
          | cons z r =>
            obtain ⟨h1, h2⟩ := ba2 (show (chkE a Γ x && chkE b Γ (.BoolOp .And (y :: z :: r) p)) = true from h)
            obtain ⟨t, p1, q1⟩ := chkE_ok a Γ x hg h1
            obtain ⟨u, p2, q2⟩ := chkE_ok b Γ _ hg h2
            exact ⟨_, fun X C => pe_and (p1 X C) (p2 X C), se_and q1 q2⟩
    | _ => cases h
  | .or a b, Γ, e, hg, h => by
    cases e with
    | BoolOp op l p =>
      cases op with
      | And => cases h
      | Or =>
        match l, h with
        | x :: y :: r, h =>
          cases r with
          | nil =>
            obtain ⟨h1, h2⟩ := ba2 (show (chkE a Γ x && chkE b Γ y) = true from h)
            obtain ⟨t, p1, q1⟩ := chkE_ok a Γ x hg h1
            obtain ⟨u, p2, q2⟩ := chkE_ok b Γ y hg h2
            exact ⟨_, fun X C => pe_or (p1 X C) (pe_one (p2 X C)), se_or q1 q2⟩
          | cons z r =>
            obtain ⟨h1, h2⟩ := ba2 (show (chkE a Γ x && chkE b Γ (.BoolOp .Or (y :: z :: r) p)) = true from h)
            obtain ⟨t, p1, q1⟩ := chkE_ok a Γ x hg h1
            obtain ⟨u, p2, q2⟩ := chkE_ok b Γ _ hg h2
            exact ⟨_, fun X C => pe_or (p1 X C) (p2 X C), se_or q1 q2⟩
    | _ => cases h
  | .ife c a b, Γ, e, hg, h => by
    cases e with
    | IfExp t x y p =>
      obtain ⟨h1, h2⟩ := ba2 (show (chkT c Γ t && (chkE a Γ x && chkE b Γ y)) = true from h)
      obtain ⟨h2, h3⟩ := ba2 h2
      obtain ⟨t1, p1, q1⟩ := chkT_ok c Γ t hg h1
      obtain ⟨t2, p2, q2⟩ := chkE_ok a Γ x hg h2
      obtain ⟨t3, p3, q3⟩ := chkE_ok b Γ y hg h3
      exact ⟨_, fun X C => pe_ifExp (p1 X C) (p2 X C) (p3 X C), se_ife q1 q2 q3⟩
    | _ => cases h
  | .idx a i, Γ, e, hg, h => by
    cases e with
    | Subscript x y p =>
      obtain ⟨h1, h2⟩ := ba2 (show (nsl y && (chkE a Γ x && chkE i Γ y)) = true by cases y <;> exact h)
      obtain ⟨h2, h3⟩ := ba2 h2
      obtain ⟨t2, p2, q2⟩ := chkE_ok a Γ x hg h2
      obtain ⟨t3, p3, q3⟩ := chkE_ok i Γ y hg h3
      obtain ⟨r, r1, r2⟩ := ix_ok G
      exact ⟨_, fun X C => pe_ix (r1 X C.K) (p2 X C) (p3 X C) (plainIx h1), se_idx q2 q3 r2⟩
    | _ => cases h
  | .sl a lo hi, Γ, e, hg, h => by
    cases e with
    | Subscript x y p =>
      cases y with
      | Slice l u st p2 =>
        cases st with
        | some _ => cases h
        | none =>
          obtain ⟨h1, h2⟩ := ba2 (show (chkE a Γ x && (chkO lo Γ l && chkO hi Γ u)) = true from h)
          obtain ⟨h2, h3⟩ := ba2 h2
          obtain ⟨t1, p1, q1⟩ := chkE_ok a Γ x hg h1
          obtain ⟨t2, p2, q2⟩ := chkO_ok lo Γ l hg h2
          obtain ⟨t3, p3, q3⟩ := chkO_ok hi Γ u hg h3
          obtain ⟨r, r1, r2⟩ := sl_ok G
          exact ⟨_, fun X C => pe_slice (r1 X C.K) (p1 X C) (p2 X C) (p3 X C), se_sl q1 q2 q3 r2⟩
      | _ => cases h
    | _ => cases h
  | .call f es, Γ, e, hg, h => by
    cases e with
    | Call fe args kws pos =>
      cases fe with
      | Name x p =>
        cases kws with
        | cons _ _ => cases h
        | nil =>
          obtain ⟨h1, h2⟩ := ba2 (show (valB Γ x (.fn f) && (!args.isEmpty && chkA es Γ args)) = true from h)
          obtain ⟨h2, h3⟩ := ba2 h2
          cases args with
          | nil => cases h2
          | cons e0 es0 =>
            have an := chkA_n es Γ _ h3
            obtain ⟨n1, n2⟩ := ba2 (show (nst e0 && es0.all nst) = true from an)
            obtain ⟨t, p1, q1⟩ := chkA_ok es Γ _ hg h3
            refine ⟨_, fun X C => ?_, se_call (E := fun _ _ _ => False) (fun fl ds x => hn f fl ds x) q1⟩
            obtain ⟨k1, k2, k3⟩ := C.val h1
            obtain ⟨v1, v2⟩ := C.vfn x f k2
            obtain ⟨fd, ps, as, F, hk, w1, w2, w3, w4, _⟩ := C.fns f v1
            exact pe_call F (C.room.mono (Nat.le_succ _)) k1 v2 hk (binds_of w1 w2 w3 w4) .nil (fun _ _ _ _ _ _ _ z => z.elim) (p1 X C) k3 (star1 n1) (starA n2)
      | _ => cases h
    | _ => cases h
  | .callk f p es ks, Γ, e, hg, h => by
    cases e with
    | Call fe args kws pos =>
      cases fe with
      | Name x px =>
        obtain ⟨h1, h2⟩ := ba2 (show (valB Γ x (.fn f) && (chkA es Γ args && (chkK ks Γ kws && (match Γ.pss[f]?, kws.mapM (·.arg) with
          | some ps, some ns => decide (cntA es = args.length) && (decide (cntA ks = ns.length) && (kwOk ps args.length ns && decide (p = permOf ps args.length ns)))
          | _, _ => false)))) = true from h)
        obtain ⟨h2, h3⟩ := ba2 h2
        obtain ⟨h3, h4⟩ := ba2 h3
        obtain ⟨t, p1, q1, t0⟩ : ∃ t, (∀ X, CxOk G cl ar vf gv lv Γ X → PA X args t) ∧ SA G (evA cl es) t ∧ (args = [] → t = tNil) := by
          obtain ⟨t, p1, q1⟩ := chkA_ok es Γ args hg h2
          cases args with
          | cons a as => exact ⟨t, p1, q1, fun z => by cases z⟩
          | nil =>
            cases es with
            | nil => exact ⟨tNil, fun X C => pa_nil, sa_nil, fun _ => rfl⟩
            | _ => cases h2
        obtain ⟨tk, p2, q2⟩ := chkK_ok ks Γ kws hg h3
        cases ep : Γ.pss[f]? with
        | none => rw [ep] at h4; cases h4
        | some ps =>
          cases en : kws.mapM (·.arg) with
          | none => rw [ep, en] at h4; cases h4
          | some ns =>
            rw [ep, en] at h4
            obtain ⟨c1, c2⟩ := ba2 h4
            obtain ⟨c2, c3⟩ := ba2 c2
            obtain ⟨c3, c4⟩ := ba2 c3
            have c1 := of_decide_eq_true c1
            have c2 := of_decide_eq_true c2
            have c4 := of_decide_eq_true c4
            refine ⟨tCallK (spOf G (cl f) (ar f)) (gK ps args.length ns) (fun _ _ _ => False) t tk, fun X C => ?_, se_callk (p := p) (fun fl ds x => hn f fl ds x) q1 q2 (fun ρ as ρ' h => evA_len es ρ as ρ' h) (fun ρ as ρ' h => evA_len ks ρ as ρ' h) fun vs zs l1 l2 => ?_⟩
            · obtain ⟨k1, k2, k3⟩ := C.val h1
              obtain ⟨v1, v2⟩ := C.vfn x f k2
              obtain ⟨fd, ps', as, F, hk, w1, w2, w3, w4, w5⟩ := C.fns f v1
              rw [ep] at w5
              cases w5
              obtain ⟨z1, z2, z3⟩ := kw_all (pos := pos) (env := X.env) en
              have hpx : ∀ {l : List Expr}, l.all nst = true → ((backTo pos (starEach l X.env)).any (·.1) || (backToKw pos (keywordEach kws X.env)).any (·.1.isNone)) = false := fun {l} hl => by rw [starA hl, z3] <;> rfl
              cases args with
              | nil =>
                rw [t0 rfl]
                exact pe_callK0 F (C.room.mono (Nat.le_succ _)) k1 v2 hk (kbinds_of w1 w2 w3 c3) (fun _ _ _ _ _ _ _ z => z.elim) (p2 X C) z1 z2 k3 (hpx rfl)
              | cons e0 es0 =>
                have an := chkA_n es Γ _ h2
                obtain ⟨n1, n2⟩ := ba2 (show (nst e0 && es0.all nst) = true from an)
                exact pe_callK F (C.room.mono (Nat.le_succ _)) k1 v2 hk (kbinds_of w1 w2 w3 c3) (fun _ _ _ _ _ _ _ z => z.elim) (p1 X C) (p2 X C) z1 z2 k3 (star1 n1) (hpx an)
            · unfold gK
              rw [if_pos ⟨l1.trans c1, l2.trans c2⟩, c4]
      | _ => cases h
    | _ => cases h
  | .calf f a es, Γ, e, hg, h => by
    cases e with
    | Call fe args kws pos =>
      cases fe with
      | Name x p =>
        match args, kws, h with
        | e0 :: es0, [], h =>
          obtain ⟨h1, h2⟩ := ba2 (show (valB Γ x (.fn f) && (nst e0 && (chkE a Γ e0 && chkA es Γ es0))) = true from h)
          obtain ⟨h2, h3⟩ := ba2 h2
          obtain ⟨h3, h4⟩ := ba2 h3
          have an := chkA_n es Γ _ h4
          obtain ⟨ta, p0, q0⟩ := chkE_ok a Γ e0 hg h3
          obtain ⟨t, p1, q1⟩ := chkA_ok es Γ _ hg h4
          refine ⟨_, fun X C => ?_, se_calf (E := fun _ _ _ => False) (fun fl ds x => hn f fl ds x) q0 q1⟩
          obtain ⟨k1, k2, k3⟩ := C.val h1
          obtain ⟨v1, v2⟩ := C.vfn x f k2
          obtain ⟨fd, ps, as, F, hk, w1, w2, w3, w4, _⟩ := C.fns f v1
          exact pe_call F (C.room.mono (Nat.le_succ _)) k1 v2 hk (binds_of w1 w2 w3 w4) .nil (fun _ _ _ _ _ _ _ z => z.elim) (pa_cons (p0 X C) (p1 X C) (star1 h2)) k3 (star1 h2) (starA an)
      | _ => cases h
    | _ => cases h
  | .fld a x, Γ, e, hg, h => by
    cases e with
    | Attribute o y p =>
      obtain ⟨h1, h2⟩ := ba2 (show (decide (x = y) && (nsup o && chkE a Γ o)) = true from h)
      obtain ⟨h2, h3⟩ := ba2 h2
      have ex := of_decide_eq_true h1
      subst ex
      obtain ⟨t, p1, q1⟩ := chkE_ok a Γ o hg h3
      exact ⟨_, fun X C => C.K ▸ pe_fld (p1 X C) (by cases o <;> first | rfl | cases h2), se_fld q1⟩
    | _ => cases h
  | .mk c f fl es, Γ, e, hg, h => by
    cases e with
    | Call fe args kws pos =>
      cases fe with
      | Name x p =>
        cases kws with
        | cons _ _ => cases h
        | nil =>
          obtain ⟨h1, h2⟩ := ba2 (show (valB Γ x (.cls c) && (!args.isEmpty && (chkA es Γ args && decide (Γ.cls[c]? = some (fl, f))))) = true from h)
          obtain ⟨h2, h3⟩ := ba2 h2
          obtain ⟨ha, hcl⟩ := ba2 h3
          have hcl := of_decide_eq_true hcl
          cases args with
          | nil => cases h2
          | cons e0 es0 =>
            have an := chkA_n es Γ _ ha
            obtain ⟨n1, n2⟩ := ba2 (show (nst e0 && es0.all nst) = true from an)
            obtain ⟨t, p1, q1⟩ := chkA_ok es Γ _ hg ha
            refine ⟨_, fun X C => ?_, se_mk (E := fun _ _ _ => False) (fun fl ds x => hn f fl ds x) (hg.cls c fl f hcl).1 q1⟩
            obtain ⟨k1, k2, k3⟩ := C.val h1
            obtain ⟨v1, v2⟩ := C.mkf c fl f hcl
            obtain ⟨fd, ps, as, F, hk, w1, w2, w3, w4, _⟩ := C.fns f v1
            exact pe_make v2 F C.room k1 (C.vcl x c k2) (binds_of w1 w2 w3 w4) .nil (fun _ _ _ _ _ _ _ z => z.elim) (p1 X C) k3 (star1 n1) (starA n2)
      | _ => cases h
    | _ => cases h
  | .isinc c z a, Γ, e, hg, h => by
    cases e with
    | Call fe args kws pos =>
      cases fe with
      | Name x p =>
        match args, kws, h with
        | [e, .Name y py], [], h =>
          obtain ⟨h1, h2⟩ := ba2 (show (freeB Γ x && (decide (x = "isinstance") && (decide (y = z) && (valB Γ y (.cls c) && (Γ.cls[c]?.isSome && (nst e && chkE a Γ e)))))) = true from h)
          obtain ⟨h2, h3⟩ := ba2 h2
          obtain ⟨h3, h4⟩ := ba2 h3
          obtain ⟨h4, h5⟩ := ba2 h4
          obtain ⟨h5, h6⟩ := ba2 h5
          obtain ⟨h6, h7⟩ := ba2 h6
          have ex := of_decide_eq_true h2
          obtain ⟨⟨fl, f⟩, hcl⟩ := Option.isSome_iff_exists.mp h5
          obtain ⟨ta, p1, q1⟩ := chkE_ok a Γ e hg h7
          refine ⟨_, fun X C => ?_, se_isinc (hg.cls c fl f hcl).1.1 (hg.cls c fl f hcl).2 q1⟩
          obtain ⟨f1, f2, f3, f4⟩ := C.fr h1
          obtain ⟨g1, g2, g3⟩ := C.val h4
          have bx : bootBuiltins x = some (.builtin "isinstance") := by rw [ex]; exact boot_isinstance
          exact pe_callB (C.K ▸ call_isi) f1 f2 bx (pa_cons (p1 X C) (pa_cons (pe_glob g1 (C.vcl y c g2) rfl g3) pa_nil (star1 rfl)) (star1 h6)) f3 f4 (star1 h6) (starA (es := [.Name y py]) rfl)
      | _ => cases h
    | _ => cases h
  | .calv i es, Γ, e, hg, h => by
    cases e with
    | Call fe args kws pos =>
      cases fe with
      | Name x p =>
        cases kws with
        | cons _ _ => cases h
        | nil =>
          obtain ⟨h1, h2⟩ := ba2 (show (varB Γ i x && (!args.isEmpty && chkA es Γ args)) = true from h)
          obtain ⟨h2, h3⟩ := ba2 h2
          cases args with
          | nil => cases h2
          | cons e0 es0 =>
            have an := chkA_n es Γ _ h3
            obtain ⟨n1, n2⟩ := ba2 (show (nst e0 && es0.all nst) = true from an)
            obtain ⟨t, p1, q1⟩ := chkA_ok es Γ _ hg h3
            refine ⟨_, fun X C => ?_, se_calv (n := ar) (Sp := spAt G cl ar vf) hn (fun f fl ds x e => spAt_eq inj (hv f fl ds x e)) q1⟩
            obtain ⟨v1, v2, v3, v4, _⟩ := C.var (p := p) h1
            exact pe_callA (k := lv) (fun a sp e => spAt_held C a sp e) (C.room.mono (Nat.le_succ _)) v1 v2 (p1 X C) v3 v4 (star1 n1) (starA n2)
      | _ => cases h
    | _ => cases h
  | .vop o i a b, Γ, e, hg, h => by
    cases o with
    | dix =>
      cases e with
      | Subscript ob sl p =>
        match ob, sl, h with
        | .Name x px, .Tuple [e, f] k pt, h =>
          obtain ⟨h1, h2⟩ := ba2 (show (varB Γ i x && (nst e && (nst f && (chkE a Γ e && chkE b Γ f)))) = true from h)
          obtain ⟨h2, h3⟩ := ba2 h2
          obtain ⟨h3, h4⟩ := ba2 h3
          obtain ⟨h4, h5⟩ := ba2 h4
          obtain ⟨t1, p1, q1⟩ := chkE_ok a Γ e hg h4
          obtain ⟨t2, p2, q2⟩ := chkE_ok b Γ f hg h5
          exact ⟨_, fun X C => pe_dget (by have := C.un; omega) (C.var h1).2.2.2.2 (pe_tup (pa_cons (p1 X C) (pa_cons (p2 X C) pa_nil (star1 h3)) (star1 h2))) (fun _ _ => rfl), se_dix q1 q2⟩
      | _ => cases h
    | pop =>
      cases e with
      | Call fe args kws pos =>
        match fe, args, kws, h with
        | .Attribute (.Name x px) m ap, [e], [], h =>
          obtain ⟨h1, h2⟩ := ba2 (show (varB Γ i x && (decide (m = "pop") && (decide (ap.endLine = pos.line) && (nst e && chkE a Γ e)))) = true from h)
          obtain ⟨h2, h3⟩ := ba2 h2
          have em := of_decide_eq_true h2
          subst em
          obtain ⟨h3, h4⟩ := ba2 h3
          obtain ⟨h4, h5⟩ := ba2 h4
          obtain ⟨t1, p1, q1⟩ := chkE_ok a Γ e hg h5
          exact ⟨_, fun X C => C.K ▸ pe_bm PySem.F.plainAttrs_list PySem.F.slot_list_pop PySem.F.type_list_pop mt_popAt (C.var h1).2.2.2.2 (pa_cons (p1 X C) pa_nil (star1 h4)) rfl (by rw [star1 h4]; rfl) (by rw [of_decide_eq_true h3]; exact beq_self_eq_true _) (star1 h4) (starA (es := []) rfl), se_pop q1⟩
      | _ => cases h
  | .uop o a, Γ, e, hg, h => by
    cases o with
    | dnew =>
      cases e with
      | Dict ks vs p =>
        match ks, vs, h with
        | [], [], h => exact ⟨_, fun X C => pe_dnewT, se_dnew⟩
      | _ => cases h
    | rev => cases e <;> cases h
    | lof =>
      cases a with
      | rng1 a =>
        cases e with
        | Call fe args kws pos =>
          match fe, args, kws, h with
          | .Name x px, [.Call (.Name y py) [e] [] pos2], [], h =>
            obtain ⟨h1, h2⟩ := ba2 (show (decide (x = "list") && (freeB Γ x && (decide (y = "range") && (freeB Γ y && (nst e && chkE a Γ e))))) = true from h)
            have ex := of_decide_eq_true h1
            subst ex
            obtain ⟨hF, h3⟩ := ba2 h2
            obtain ⟨h3, h4⟩ := ba2 h3
            have ey := of_decide_eq_true h3
            subst ey
            obtain ⟨h4, h5⟩ := ba2 h4
            obtain ⟨h5, h6⟩ := ba2 h5
            obtain ⟨t1, p1, q1⟩ := chkE_ok a Γ e hg h6
            refine ⟨_, fun X C => ?_, se_lof1 q1⟩
            obtain ⟨f1, f2, f3, f4⟩ := C.fr hF
            obtain ⟨g1, g2, g3, g4⟩ := C.fr h4
            exact pe_listRg C.calm f1 f2 (prg_1 g1 g2 (p1 X C) (star1 h5)) (star1 rfl)
        | _ => cases h
      | rng2 a b =>
        cases e with
        | Call fe args kws pos =>
          match fe, args, kws, h with
          | .Name x px, [.Call (.Name y py) [e, f] [] pos2], [], h =>
            obtain ⟨h1, h2⟩ := ba2 (show (decide (x = "list") && (freeB Γ x && (decide (y = "range") && (freeB Γ y && (nst e && (nst f && (chkE a Γ e && chkE b Γ f))))))) = true from h)
            have ex := of_decide_eq_true h1
            subst ex
            obtain ⟨hF, h3⟩ := ba2 h2
            obtain ⟨h3, h4⟩ := ba2 h3
            have ey := of_decide_eq_true h3
            subst ey
            obtain ⟨h4, h5⟩ := ba2 h4
            obtain ⟨h5, h6⟩ := ba2 h5
            obtain ⟨h6, h7⟩ := ba2 h6
            obtain ⟨h7, h8⟩ := ba2 h7
            obtain ⟨t1, p1, q1⟩ := chkE_ok a Γ e hg h7
            obtain ⟨t2, p2, q2⟩ := chkE_ok b Γ f hg h8
            refine ⟨_, fun X C => ?_, se_lof2 q1 q2⟩
            obtain ⟨f1, f2, f3, f4⟩ := C.fr hF
            obtain ⟨g1, g2, g3, g4⟩ := C.fr h4
            exact pe_listRg C.calm f1 f2 (prg_2 g1 g2 (p1 X C) (p2 X C) (star1 h5) (star1 h6) (by rw [star1 h6]; rfl)) (star1 rfl)
        | _ => cases h
      | _ => cases e <;> cases h
    | rof =>
      cases a with
      | rng1 a =>
        cases e with
        | Call fe args kws pos =>
          match fe, args, kws, h with
          | .Name y py, [e], [], h =>
            obtain ⟨h1, h2⟩ := ba2 (show (decide (y = "range") && (freeB Γ y && (nst e && chkE a Γ e))) = true from h)
            have ey := of_decide_eq_true h1
            subst ey
            obtain ⟨h2, h3⟩ := ba2 h2
            obtain ⟨h3, h4⟩ := ba2 h3
            obtain ⟨t1, p1, q1⟩ := chkE_ok a Γ e hg h4
            refine ⟨_, fun X C => ?_, se_rof1 q1⟩
            obtain ⟨f1, f2, f3, f4⟩ := C.fr h2
            exact pe_callTy cr_rngV f1 f2 boot_range (pa_cons (p1 X C) pa_nil (star1 h3)) f3 f4 (star1 h3) (starA (es := []) rfl)
        | _ => cases h
      | rng2 a b =>
        cases e with
        | Call fe args kws pos =>
          match fe, args, kws, h with
          | .Name y py, [e, f], [], h =>
            obtain ⟨h1, h2⟩ := ba2 (show (decide (y = "range") && (freeB Γ y && (nst e && (nst f && (chkE a Γ e && chkE b Γ f))))) = true from h)
            have ey := of_decide_eq_true h1
            subst ey
            obtain ⟨h2, h3⟩ := ba2 h2
            obtain ⟨h3, h4⟩ := ba2 h3
            obtain ⟨h4, h5⟩ := ba2 h4
            obtain ⟨h5, h6⟩ := ba2 h5
            obtain ⟨t1, p1, q1⟩ := chkE_ok a Γ e hg h5
            obtain ⟨t2, p2, q2⟩ := chkE_ok b Γ f hg h6
            refine ⟨_, fun X C => ?_, se_rof2 q1 q2⟩
            obtain ⟨f1, f2, f3, f4⟩ := C.fr h2
            exact pe_callTy cr_rngV f1 f2 boot_range (pa_cons (p1 X C) (pa_cons (p2 X C) pa_nil (star1 h4)) (star1 h3)) f3 f4 (star1 h3) (starA (es := [f]) (by show (nst f && true) = true; rw [h4]; rfl))
        | _ => cases h
      | _ => cases e <;> cases h
  | .bm o a b, Γ, e, hg, h => by
    cases e with
    | Call fe args kws pos =>
      match fe, args, kws, h with
      | .Attribute ob m ap, [e], [], h =>
        obtain ⟨h1, h2⟩ := ba2 (show (nsup2 ob && (decide (m = bmName o) && (decide (ap.endLine = pos.line) && (nst e && (chkE a Γ ob && chkE b Γ e))))) = true from h)
        obtain ⟨h2, h3⟩ := ba2 h2
        have em := of_decide_eq_true h2
        subst em
        obtain ⟨h3, h4⟩ := ba2 h3
        obtain ⟨h4, h5⟩ := ba2 h4
        obtain ⟨h5, h6⟩ := ba2 h5
        obtain ⟨t1, p1, q1⟩ := chkE_ok a Γ ob hg h5
        obtain ⟨t2, p2, q2⟩ := chkE_ok b Γ e hg h6
        obtain ⟨id, r, r1, r2, r3, r4⟩ := bm_ok G o
        exact ⟨_, fun X C => C.K ▸ pe_bm PySem.F.plainAttrs_list r2 r3 (r1 X C.K C.un) (p1 X C) (pa_cons (p2 X C) pa_nil (star1 h4)) (nsup2_ok h1) (by rw [star1 h4]; rfl) (by rw [of_decide_eq_true h3]; exact beq_self_eq_true _) (star1 h4) (starA (es := []) rfl), se_bm q1 q2 r4⟩
    | _ => cases h
  | .mkk c f fl p es ks, Γ, e, hg, h => by
    cases e with
    | Call fe args kws pos =>
      cases fe with
      | Name x px =>
        obtain ⟨h1, h2⟩ := ba2 (show (valB Γ x (.cls c) && (decide (Γ.cls[c]? = some (fl, f)) && (chkA es Γ args && (chkK ks Γ kws && (match Γ.pss[f]?, kws.mapM (·.arg) with
          | some ps, some ns => decide (cntA es = args.length) && (decide (cntA ks = ns.length) && (kwOk ps (args.length + 1) ns && decide (p = permOf (ps.drop 1) args.length ns)))
          | _, _ => false))))) = true from h)
        obtain ⟨hc, h2⟩ := ba2 h2
        have hcl := of_decide_eq_true hc
        obtain ⟨h2, h3⟩ := ba2 h2
        obtain ⟨h3, h4⟩ := ba2 h3
        obtain ⟨t, p1, q1, t0⟩ : ∃ t, (∀ X, CxOk G cl ar vf gv lv Γ X → PA X args t) ∧ SA G (evA cl es) t ∧ (args = [] → t = tNil) := by
          obtain ⟨t, p1, q1⟩ := chkA_ok es Γ args hg h2
          cases args with
          | cons a as => exact ⟨t, p1, q1, fun z => by cases z⟩
          | nil =>
            cases es with
            | nil => exact ⟨tNil, fun X C => pa_nil, sa_nil, fun _ => rfl⟩
            | _ => cases h2
        obtain ⟨tk, p2, q2⟩ := chkK_ok ks Γ kws hg h3
        cases ep : Γ.pss[f]? with
        | none => rw [ep] at h4; cases h4
        | some ps =>
          cases en : kws.mapM (·.arg) with
          | none => rw [ep, en] at h4; cases h4
          | some ns =>
            rw [ep, en] at h4
            obtain ⟨c1, c2⟩ := ba2 h4
            obtain ⟨c2, c3⟩ := ba2 c2
            obtain ⟨c3, c4⟩ := ba2 c3
            have c1 := of_decide_eq_true c1
            have c2 := of_decide_eq_true c2
            have c4 := of_decide_eq_true c4
            refine ⟨tMakeK (G.ca c) args.length ns.length (spOf G (cl f) (ar f)) (gK ps (args.length + 1) ns) (fun _ _ _ => False) t tk, fun X C => ?_, se_mkk (p := p) (fun fl ds x => hn f fl ds x) (hg.cls c fl f hcl).1 q1 q2 (fun ρ as ρ' h => (evA_len es ρ as ρ' h).trans c1) (fun ρ as ρ' h => (evA_len ks ρ as ρ' h).trans c2) fun x vs zs l1 l2 => ?_⟩
            · obtain ⟨k1, k2, k3⟩ := C.val h1
              obtain ⟨v1, v2⟩ := C.mkf c fl f hcl
              obtain ⟨fd, ps', as, F, hk, w1, w2, w3, w4, w5⟩ := C.fns f v1
              rw [ep] at w5
              cases w5
              obtain ⟨z1, z2, z3⟩ := kw_all (pos := pos) (env := X.env) en
              have hpx : ∀ {l : List Expr}, l.all nst = true → ((backTo pos (starEach l X.env)).any (·.1) || (backToKw pos (keywordEach kws X.env)).any (·.1.isNone)) = false := fun {l} hl => by rw [starA hl, z3] <;> rfl
              cases args with
              | nil =>
                rw [t0 rfl]
                exact pe_makeK0 v2 F C.room k1 (C.vcl x c k2) (kbn_of w1 w2 w3 c3) (fun _ _ _ _ _ _ _ z => z.elim) (p2 X C) z1 z2 k3 (hpx rfl)
              | cons e0 es0 =>
                have an := chkA_n es Γ _ h2
                obtain ⟨n1, n2⟩ := ba2 (show (nst e0 && es0.all nst) = true from an)
                exact pe_makeK v2 F C.room k1 (C.vcl x c k2) (kbn_of w1 w2 w3 c3) (fun _ _ _ _ _ _ _ z => z.elim) (p1 X C) (p2 X C) z1 z2 k3 (star1 n1) (hpx an)
            · rw [gK_succ l1 l2, c4]
      | _ => cases h
    | _ => cases h
  | .oeq ng c f a b, Γ, e, hg, h => by
    cases e with
    | Compare l ops rs p =>
      match ops, rs, h with
      | [op], [r], h =>
        obtain ⟨h1, h2⟩ := ba2 (show (decide (op = if ng = true then .NotEq else .Eq) && (decide ((c, f) ∈ Γ.eqs) && (!behindInMarks op r && (chkE a Γ l && chkE b Γ r)))) = true from h)
        obtain ⟨hm, h3⟩ := ba2 h2
        obtain ⟨h3, h4⟩ := ba2 h3
        obtain ⟨h4, h5⟩ := ba2 h4
        have eo := of_decide_eq_true h1
        subst eo
        obtain ⟨t1, p1, q1⟩ := chkE_ok a Γ l hg h4
        obtain ⟨t2, p2, q2⟩ := chkE_ok b Γ r hg h5
        exact ⟨_, fun X C => pe_cmpR (oeq_op C ng (of_decide_eq_true hm)) (p1 X C) (p2 X C) (by simpa using h3), se_oeq (E := fun _ _ _ => False) (fun fl ds x => hn f fl ds x) q1 q2⟩
    | _ => cases h
  | .blt b es, Γ, e, hg, h => by
    cases e with
    | Call fe args kws pos =>
      cases fe with
      | Name x p =>
        cases kws with
        | cons _ _ => cases h
        | nil =>
          obtain ⟨h1, h2⟩ := ba2 (show (freeB Γ x && (decide (x = bltName b) && (bltKnown b && (!args.isEmpty && chkL es Γ args)))) = true from h)
          obtain ⟨h2, h3⟩ := ba2 h2
          obtain ⟨hk, h4⟩ := ba2 h3
          obtain ⟨h4, h5⟩ := ba2 h4
          have e := of_decide_eq_true h2
          rw [e] at h1 ⊢
          cases args with
          | nil => cases h4
          | cons e0 es0 =>
            obtain ⟨t, p1, _, q1⟩ := chkL_ok es Γ _ hg h5
            obtain ⟨r, r1, r2⟩ := blt_pe G b hk
            exact ⟨_, fun X C => r2 cl ar vf gv lv Γ X p pos e0 es0 t C h1 (chkL_n es Γ _ h5) (p1 X C), se_blt q1 r1⟩
      | _ => cases h
    | _ => cases h
  | .isin t a, Γ, e, hg, h => by
    cases e with
    | Call fe args kws pos =>
      cases fe with
      | Name x p =>
        match args, kws, h with
        | [e, .Name y py], [], h =>
          obtain ⟨h1, h2⟩ := ba2 (show (freeB Γ x && (decide (x = "isinstance") && (freeB Γ y && (decide (t < 5) && (decide (y = Str.ofString (tyName t)) && (nst e && chkE a Γ e)))))) = true from h)
          obtain ⟨h2, h3⟩ := ba2 h2
          obtain ⟨h3, h4⟩ := ba2 h3
          obtain ⟨h4, h5⟩ := ba2 h4
          obtain ⟨h5, h6⟩ := ba2 h5
          obtain ⟨h6, h7⟩ := ba2 h6
          have ex := of_decide_eq_true h2
          have ht := of_decide_eq_true h4
          have ey := of_decide_eq_true h5
          obtain ⟨ta, p1, q1⟩ := chkE_ok a Γ e hg h7
          obtain ⟨r, r1, r2⟩ := isin_ok G t
          refine ⟨_, fun X C => ?_, se_isin ht rfl q1 r2⟩
          obtain ⟨f1, f2, f3, f4⟩ := C.fr h1
          obtain ⟨g1, g2, g3, g4⟩ := C.fr h3
          have by_ : bootBuiltins y = some (.type (tyName t)) := by
            rw [ey]
            match t, ht with
            | 0, _ => exact boot_int
            | 1, _ => exact boot_bool
            | 2, _ => exact boot_str
            | 3, _ => exact boot_tuple
            | 4, _ => exact boot_list
          have bx : bootBuiltins x = some (.builtin "isinstance") := by rw [ex]; exact boot_isinstance
          exact pe_callB (r1 X C.K) f1 f2 bx (pa_cons (p1 X C) (pa_cons (pe_bltn g1 g2 by_ rfl g3 g4) pa_nil (star1 rfl)) (star1 h6)) f3 f4 (star1 h6) (starA (es := [.Name y py]) rfl)
      | _ => cases h
    | _ => cases h
  | .lc vs t it c e1, Γ, e, hg, h => by
    cases e with
    | ListComp elt gens scope pos =>
      match gens, h with
      | [⟨tg, iter, ifs, 0⟩], h =>
        have gen : blkC Γ.N Γ.sc scope (ownOf Γ.N vs) = true → nset iter = true → chkI it Γ tg iter = true → chkV t vs (inScope Γ scope) tg = true → chkE e1 (inScope Γ scope) elt = true →
            (∃ tt, (∀ X, CxOk G cl ar vf gv lv (inScope Γ scope) X → PTs X ifs tt) ∧ STt G (evT cl c) tt) → OkE G cl ar vf gv lv (.lc vs t it c e1) Γ (.ListComp elt [⟨tg, iter, ifs, 0⟩] scope pos) := fun b1 b2 b3 b4 b5 ⟨tt, p3, q3⟩ => by
          obtain ⟨wi, p1, q1⟩ := chkI_ok it Γ tg iter hg b3
          obtain ⟨g, p2, q2⟩ := chkV_ok t vs (inScope Γ scope) tg ⟨hg.val, hg.cls⟩ b4
          obtain ⟨te, p4, q4⟩ := chkE_ok e1 (inScope Γ scope) elt ⟨hg.val, hg.cls⟩ b5
          have hvs : (ownOf Γ.N vs).map (·.2) = vs := by
            unfold ownOf
            rw [List.map_map]
            exact List.map_id' vs
          refine ⟨tLc wi g tt te vs, fun X C => ?_, se_lc q1 q2 q3 q4⟩
          have ok : BlkOk X.N X.env.scope scope (ownOf Γ.N vs) := by
            rw [C.N, C.sc]
            exact blkOk_by b1
          have := pe_lc (pos := pos) C.calm C.nd (p1 X C) ok (fun s H c cs fp => p2 _ (C.blk b1)) (fun s H c cs fp => p3 _ (C.blk b1)) (fun s H c cs fp => p4 _ (C.blk b1)) (nset_fold b2)
          rw [hvs] at this
          exact this
        cases ifs with
        | nil =>
          cases c with
          | nil =>
            obtain ⟨b1, h⟩ := ba2 (show (blkC Γ.N Γ.sc scope (ownOf Γ.N vs) && (nset iter && (chkI it Γ tg iter && (chkV t vs (inScope Γ scope) tg && (true && chkE e1 (inScope Γ scope) elt))))) = true from h)
            obtain ⟨b2, h⟩ := ba2 h
            obtain ⟨b3, h⟩ := ba2 h
            obtain ⟨b4, h⟩ := ba2 h
            obtain ⟨_, b5⟩ := ba2 h
            exact gen b1 b2 b3 b4 b5 ⟨tYes, fun X C => pts_nil, st_yes G⟩
          | _ =>
            obtain ⟨b1, h⟩ := ba2 (show (blkC Γ.N Γ.sc scope (ownOf Γ.N vs) && (nset iter && (chkI it Γ tg iter && (chkV t vs (inScope Γ scope) tg && (false && chkE e1 (inScope Γ scope) elt))))) = true from h)
            obtain ⟨b2, h⟩ := ba2 h
            obtain ⟨b3, h⟩ := ba2 h
            obtain ⟨b4, h⟩ := ba2 h
            obtain ⟨b5, _⟩ := ba2 h
            cases b5
        | cons y ys =>
          cases ys with
          | cons _ _ =>
            have h' : (blkC Γ.N Γ.sc scope (ownOf Γ.N vs) && (nset iter && (chkI it Γ tg iter && (chkV t vs (inScope Γ scope) tg && (false && chkE e1 (inScope Γ scope) elt))))) = true := by cases c <;> exact h
            obtain ⟨b1, h⟩ := ba2 h'
            obtain ⟨b2, h⟩ := ba2 h
            obtain ⟨b3, h⟩ := ba2 h
            obtain ⟨b4, h⟩ := ba2 h
            obtain ⟨b5, _⟩ := ba2 h
            cases b5
          | nil =>
            have h' : (blkC Γ.N Γ.sc scope (ownOf Γ.N vs) && (nset iter && (chkI it Γ tg iter && (chkV t vs (inScope Γ scope) tg && (chkT c (inScope Γ scope) y && chkE e1 (inScope Γ scope) elt))))) = true := by cases c <;> exact h
            obtain ⟨b1, h⟩ := ba2 h'
            obtain ⟨b2, h⟩ := ba2 h
            obtain ⟨b3, h⟩ := ba2 h
            obtain ⟨b4, h⟩ := ba2 h
            obtain ⟨b6, b5⟩ := ba2 h
            obtain ⟨tt, p3, q3⟩ := chkT_ok c (inScope Γ scope) y ⟨hg.val, hg.cls⟩ b6
            exact gen b1 b2 b3 b4 b5 ⟨tt, fun X C => pts_one (p3 X C), q3⟩
    | _ => cases h
  | .nil, Γ, e, hg, h => by cases h
  | .cons _ _, Γ, e, hg, h => by cases h
  | .ioa _ _, Γ, e, hg, h => by cases h
  | .rng1 _, Γ, e, hg, h => by cases h
  | .rng2 _ _, Γ, e, hg, h => by cases h
  | .enm _, Γ, e, hg, h => by cases h
  | .zip _ _, Γ, e, hg, h => by cases h
  | .it _, Γ, e, hg, h => by cases h
  | .tr _, Γ, e, hg, h => by cases h
theorem chkL_ok : ∀ (es : E) (Γ : Gm) (l : List Expr), GvOk G gv Γ → chkL es Γ l = true → OkL G cl ar vf gv lv es Γ l
  | .nil, Γ, l, hg, h => by
    cases l with
    | nil => exact ⟨_, fun X C => pa_nil, sl_nil, sp_nil⟩
    | cons => cases h
  | .cons a r, Γ, l, hg, h => by
    cases l with
    | nil => cases h
    | cons e es =>
      obtain ⟨h1, h2⟩ := ba2 (show (nst e && (chkE a Γ e && chkL r Γ es)) = true from h)
      obtain ⟨h2, h3⟩ := ba2 h2
      obtain ⟨t, p1, q1⟩ := chkE_ok a Γ e hg h2
      obtain ⟨u, p2, q2, q3⟩ := chkL_ok r Γ es hg h3
      exact ⟨_, fun X C => pa_cons (p1 X C) (p2 X C) (star1 h1), sl_cons q1 q2, sp_cons q1 q3⟩
  | .var _, Γ, l, hg, h => by cases l <;> cases h
  | .con _, Γ, l, hg, h => by cases l <;> cases h
  | .glo _ _, Γ, l, hg, h => by cases l <;> cases h
  | .ioa _ _, Γ, l, hg, h => by cases l <;> cases h
  | .tup _, Γ, l, hg, h => by cases l <;> cases h
  | .lst _, Γ, l, hg, h => by cases l <;> cases h
  | .neg _, Γ, l, hg, h => by cases l <;> cases h
  | .bin _ _ _, Γ, l, hg, h => by cases l <;> cases h
  | .cmp _ _ _, Γ, l, hg, h => by cases l <;> cases h
  | .cmp2 _ _ _ _ _, Γ, l, hg, h => by cases l <;> cases h
  | .not _, Γ, l, hg, h => by cases l <;> cases h
  | .and _ _, Γ, l, hg, h => by cases l <;> cases h
  | .or _ _, Γ, l, hg, h => by cases l <;> cases h
  | .ife _ _ _, Γ, l, hg, h => by cases l <;> cases h
  | .idx _ _, Γ, l, hg, h => by cases l <;> cases h
  | .sl _ _ _, Γ, l, hg, h => by cases l <;> cases h
  | .call _ _, Γ, l, hg, h => by cases l <;> cases h
  | .callk _ _ _ _, Γ, l, hg, h => by cases l <;> cases h
  | .fld _ _, Γ, l, hg, h => by cases l <;> cases h
  | .mk _ _ _ _, Γ, l, hg, h => by cases l <;> cases h
  | .isinc _ _ _, Γ, l, hg, h => by cases l <;> cases h
  | .calf _ _ _, Γ, l, hg, h => by cases l <;> cases h
  | .calv _ _, Γ, l, hg, h => by cases l <;> cases h
  | .vop _ _ _ _, Γ, l, hg, h => by cases l <;> cases h
  | .uop _ _, Γ, l, hg, h => by cases l <;> cases h
  | .bm _ _ _, Γ, l, hg, h => by cases l <;> cases h
  | .mkk _ _ _ _ _ _, Γ, l, hg, h => by cases l <;> cases h
  | .oeq _ _ _ _ _, Γ, l, hg, h => by cases l <;> cases h
  | .blt _ _, Γ, l, hg, h => by cases l <;> cases h
  | .isin _ _, Γ, l, hg, h => by cases l <;> cases h
  | .lc _ _ _ _ _, Γ, l, hg, h => by cases l <;> cases h
  | .rng1 _, Γ, l, hg, h => by cases l <;> cases h
  | .rng2 _ _, Γ, l, hg, h => by cases l <;> cases h
  | .enm _, Γ, l, hg, h => by cases l <;> cases h
  | .zip _ _, Γ, l, hg, h => by cases l <;> cases h
  | .it _, Γ, l, hg, h => by cases l <;> cases h
  | .tr _, Γ, l, hg, h => by cases l <;> cases h
theorem chkA_ok : ∀ (es : E) (Γ : Gm) (l : List Expr), GvOk G gv Γ → chkA es Γ l = true → OkA G cl ar vf gv lv es Γ l
  | .nil, Γ, l, hg, h => by
    cases l with
    | nil => exact ⟨_, fun X C => pa_nil, sa_nil⟩
    | cons => cases h
  | .cons a r, Γ, l, hg, h => by
    cases l with
    | nil => cases h
    | cons e es =>
      obtain ⟨h1, h2⟩ := ba2 (show (nst e && (chkE a Γ e && chkA r Γ es)) = true from h)
      obtain ⟨h2, h3⟩ := ba2 h2
      obtain ⟨t, p1, q1⟩ := chkE_ok a Γ e hg h2
      obtain ⟨u, p2, q2⟩ := chkA_ok r Γ es hg h3
      exact ⟨_, fun X C => pa_cons (p1 X C) (p2 X C) (star1 h1), sa_cons q1 q2⟩
  | .ioa i r, Γ, l, hg, h => by
    cases l with
    | nil => cases h
    | cons e es =>
      cases e with
      | Name x p =>
        obtain ⟨h1, h2⟩ := ba2 (show (varB Γ i x && chkA r Γ es) = true from h)
        obtain ⟨u, p2, q2⟩ := chkA_ok r Γ es hg h2
        exact ⟨_, fun X C => pa_cons ((C.var h1).2.2.2.2) (p2 X C) (star1 rfl), sa_io q2⟩
      | _ => cases h
  | .var _, Γ, l, hg, h => by cases l <;> cases h
  | .con _, Γ, l, hg, h => by cases l <;> cases h
  | .glo _ _, Γ, l, hg, h => by cases l <;> cases h
  | .tup _, Γ, l, hg, h => by cases l <;> cases h
  | .lst _, Γ, l, hg, h => by cases l <;> cases h
  | .neg _, Γ, l, hg, h => by cases l <;> cases h
  | .bin _ _ _, Γ, l, hg, h => by cases l <;> cases h
  | .cmp _ _ _, Γ, l, hg, h => by cases l <;> cases h
  | .cmp2 _ _ _ _ _, Γ, l, hg, h => by cases l <;> cases h
  | .not _, Γ, l, hg, h => by cases l <;> cases h
  | .and _ _, Γ, l, hg, h => by cases l <;> cases h
  | .or _ _, Γ, l, hg, h => by cases l <;> cases h
  | .ife _ _ _, Γ, l, hg, h => by cases l <;> cases h
  | .idx _ _, Γ, l, hg, h => by cases l <;> cases h
  | .sl _ _ _, Γ, l, hg, h => by cases l <;> cases h
  | .call _ _, Γ, l, hg, h => by cases l <;> cases h
  | .callk _ _ _ _, Γ, l, hg, h => by cases l <;> cases h
  | .fld _ _, Γ, l, hg, h => by cases l <;> cases h
  | .mk _ _ _ _, Γ, l, hg, h => by cases l <;> cases h
  | .isinc _ _ _, Γ, l, hg, h => by cases l <;> cases h
  | .calf _ _ _, Γ, l, hg, h => by cases l <;> cases h
  | .calv _ _, Γ, l, hg, h => by cases l <;> cases h
  | .vop _ _ _ _, Γ, l, hg, h => by cases l <;> cases h
  | .uop _ _, Γ, l, hg, h => by cases l <;> cases h
  | .bm _ _ _, Γ, l, hg, h => by cases l <;> cases h
  | .mkk _ _ _ _ _ _, Γ, l, hg, h => by cases l <;> cases h
  | .oeq _ _ _ _ _, Γ, l, hg, h => by cases l <;> cases h
  | .blt _ _, Γ, l, hg, h => by cases l <;> cases h
  | .isin _ _, Γ, l, hg, h => by cases l <;> cases h
  | .lc _ _ _ _ _, Γ, l, hg, h => by cases l <;> cases h
  | .rng1 _, Γ, l, hg, h => by cases l <;> cases h
  | .rng2 _ _, Γ, l, hg, h => by cases l <;> cases h
  | .enm _, Γ, l, hg, h => by cases l <;> cases h
  | .zip _ _, Γ, l, hg, h => by cases l <;> cases h
  | .it _, Γ, l, hg, h => by cases l <;> cases h
  | .tr _, Γ, l, hg, h => by cases l <;> cases h
theorem chkK_ok : ∀ (es : E) (Γ : Gm) (l : List Keyword), GvOk G gv Γ → chkK es Γ l = true → OkK G cl ar vf gv lv es Γ l
  | .nil, Γ, l, hg, h => by
    cases l with
    | nil => exact ⟨_, fun X C => pk_nil, sa_nil⟩
    | cons => cases h
  | .cons a r, Γ, l, hg, h => by
    cases l with
    | nil => cases h
    | cons e es =>
      obtain ⟨nm, v, kp⟩ := e
      obtain ⟨h1, h2⟩ := ba2 (show (chkE a Γ v && chkK r Γ es) = true from h)
      obtain ⟨t, p1, q1⟩ := chkE_ok a Γ v hg h1
      obtain ⟨u, p2, q2⟩ := chkK_ok r Γ es hg h2
      exact ⟨_, fun X C => pk_cons (p1 X C) (p2 X C), sa_cons q1 q2⟩
  | .var _, Γ, l, hg, h => by cases l <;> cases h
  | .con _, Γ, l, hg, h => by cases l <;> cases h
  | .glo _ _, Γ, l, hg, h => by cases l <;> cases h
  | .ioa _ _, Γ, l, hg, h => by cases l <;> cases h
  | .tup _, Γ, l, hg, h => by cases l <;> cases h
  | .lst _, Γ, l, hg, h => by cases l <;> cases h
  | .neg _, Γ, l, hg, h => by cases l <;> cases h
  | .bin _ _ _, Γ, l, hg, h => by cases l <;> cases h
  | .cmp _ _ _, Γ, l, hg, h => by cases l <;> cases h
  | .cmp2 _ _ _ _ _, Γ, l, hg, h => by cases l <;> cases h
  | .not _, Γ, l, hg, h => by cases l <;> cases h
  | .and _ _, Γ, l, hg, h => by cases l <;> cases h
  | .or _ _, Γ, l, hg, h => by cases l <;> cases h
  | .ife _ _ _, Γ, l, hg, h => by cases l <;> cases h
  | .idx _ _, Γ, l, hg, h => by cases l <;> cases h
  | .sl _ _ _, Γ, l, hg, h => by cases l <;> cases h
  | .call _ _, Γ, l, hg, h => by cases l <;> cases h
  | .callk _ _ _ _, Γ, l, hg, h => by cases l <;> cases h
  | .fld _ _, Γ, l, hg, h => by cases l <;> cases h
  | .mk _ _ _ _, Γ, l, hg, h => by cases l <;> cases h
  | .isinc _ _ _, Γ, l, hg, h => by cases l <;> cases h
  | .calf _ _ _, Γ, l, hg, h => by cases l <;> cases h
  | .calv _ _, Γ, l, hg, h => by cases l <;> cases h
  | .vop _ _ _ _, Γ, l, hg, h => by cases l <;> cases h
  | .uop _ _, Γ, l, hg, h => by cases l <;> cases h
  | .bm _ _ _, Γ, l, hg, h => by cases l <;> cases h
  | .mkk _ _ _ _ _ _, Γ, l, hg, h => by cases l <;> cases h
  | .oeq _ _ _ _ _, Γ, l, hg, h => by cases l <;> cases h
  | .blt _ _, Γ, l, hg, h => by cases l <;> cases h
  | .isin _ _, Γ, l, hg, h => by cases l <;> cases h
  | .lc _ _ _ _ _, Γ, l, hg, h => by cases l <;> cases h
  | .rng1 _, Γ, l, hg, h => by cases l <;> cases h
  | .rng2 _ _, Γ, l, hg, h => by cases l <;> cases h
  | .enm _, Γ, l, hg, h => by cases l <;> cases h
  | .zip _ _, Γ, l, hg, h => by cases l <;> cases h
  | .it _, Γ, l, hg, h => by cases l <;> cases h
  | .tr _, Γ, l, hg, h => by cases l <;> cases h
theorem chkO_ok : ∀ (es : E) (Γ : Gm) (l : Option Expr), GvOk G gv Γ → chkO es Γ l = true → OkO G cl ar vf gv lv es Γ l
  | .nil, Γ, l, hg, h => by
    cases l with
    | none => exact ⟨_, fun X C => po_none, so_none⟩
    | some => cases h
  | .cons a r, Γ, l, hg, h => by
    cases l with
    | none => cases h
    | some e =>
      obtain ⟨t, p1, q1⟩ := chkE_ok a Γ e hg h
      exact ⟨_, fun X C => po_some (p1 X C), so_some q1⟩
  | .var _, Γ, l, hg, h => by cases l <;> cases h
  | .con _, Γ, l, hg, h => by cases l <;> cases h
  | .glo _ _, Γ, l, hg, h => by cases l <;> cases h
  | .ioa _ _, Γ, l, hg, h => by cases l <;> cases h
  | .tup _, Γ, l, hg, h => by cases l <;> cases h
  | .lst _, Γ, l, hg, h => by cases l <;> cases h
  | .neg _, Γ, l, hg, h => by cases l <;> cases h
  | .bin _ _ _, Γ, l, hg, h => by cases l <;> cases h
  | .cmp _ _ _, Γ, l, hg, h => by cases l <;> cases h
  | .cmp2 _ _ _ _ _, Γ, l, hg, h => by cases l <;> cases h
  | .not _, Γ, l, hg, h => by cases l <;> cases h
  | .and _ _, Γ, l, hg, h => by cases l <;> cases h
  | .or _ _, Γ, l, hg, h => by cases l <;> cases h
  | .ife _ _ _, Γ, l, hg, h => by cases l <;> cases h
  | .idx _ _, Γ, l, hg, h => by cases l <;> cases h
  | .sl _ _ _, Γ, l, hg, h => by cases l <;> cases h
  | .call _ _, Γ, l, hg, h => by cases l <;> cases h
  | .callk _ _ _ _, Γ, l, hg, h => by cases l <;> cases h
  | .fld _ _, Γ, l, hg, h => by cases l <;> cases h
  | .mk _ _ _ _, Γ, l, hg, h => by cases l <;> cases h
  | .isinc _ _ _, Γ, l, hg, h => by cases l <;> cases h
  | .calf _ _ _, Γ, l, hg, h => by cases l <;> cases h
  | .calv _ _, Γ, l, hg, h => by cases l <;> cases h
  | .vop _ _ _ _, Γ, l, hg, h => by cases l <;> cases h
  | .uop _ _, Γ, l, hg, h => by cases l <;> cases h
  | .bm _ _ _, Γ, l, hg, h => by cases l <;> cases h
  | .mkk _ _ _ _ _ _, Γ, l, hg, h => by cases l <;> cases h
  | .oeq _ _ _ _ _, Γ, l, hg, h => by cases l <;> cases h
  | .blt _ _, Γ, l, hg, h => by cases l <;> cases h
  | .isin _ _, Γ, l, hg, h => by cases l <;> cases h
  | .lc _ _ _ _ _, Γ, l, hg, h => by cases l <;> cases h
  | .rng1 _, Γ, l, hg, h => by cases l <;> cases h
  | .rng2 _ _, Γ, l, hg, h => by cases l <;> cases h
  | .enm _, Γ, l, hg, h => by cases l <;> cases h
  | .zip _ _, Γ, l, hg, h => by cases l <;> cases h
  | .it _, Γ, l, hg, h => by cases l <;> cases h
  | .tr _, Γ, l, hg, h => by cases l <;> cases h
theorem chkT_ok : ∀ (c : E) (Γ : Gm) (e : Expr), GvOk G gv Γ → chkT c Γ e = true → OkT G cl ar vf gv lv c Γ e
  | .not a, Γ, e, hg, h => by
    cases e with
    | UnaryOp op x p =>
      cases op with
      | Not =>
        obtain ⟨t, p1, q1⟩ := chkT_ok a Γ x hg h
        exact ⟨_, fun X C => pt_not (p1 X C), se_not q1⟩
      | _ => cases h
    | _ => cases h
  | .and a b, Γ, e, hg, h => by
    cases e with
    | BoolOp op l p =>
      cases op with
      | Or => cases h
      | And =>
        match l, h with
        | x :: y :: r, h =>
          cases r with
          | nil =>
            obtain ⟨h1, h2⟩ := ba2 (show (chkT a Γ x && chkT b Γ y) = true from h)
            obtain ⟨t, p1, q1⟩ := chkT_ok a Γ x hg h1
            obtain ⟨u, p2, q2⟩ := chkT_ok b Γ y hg h2
            exact ⟨_, fun X C => (pw_and (p1 X C) (pw_and1 (p2 X C))).pt, st_and q1 q2⟩
          | cons z r =>
            obtain ⟨h1, h2⟩ := ba2 (show (chkT a Γ x && chkT b Γ (.BoolOp .And (y :: z :: r) p)) = true from h)
            obtain ⟨t, p1, q1⟩ := chkT_ok a Γ x hg h1
            obtain ⟨u, p2, q2⟩ := chkT_ok b Γ _ hg h2
            exact ⟨_, fun X C => (pw_and (p1 X C) (pw_of (p2 X C))).pt, st_and q1 q2⟩
    | _ => cases h
  | .or a b, Γ, e, hg, h => by
    cases e with
    | BoolOp op l p =>
      cases op with
      | And => cases h
      | Or =>
        match l, h with
        | x :: y :: r, h =>
          cases r with
          | nil =>
            obtain ⟨h1, h2⟩ := ba2 (show (chkT a Γ x && chkT b Γ y) = true from h)
            obtain ⟨t, p1, q1⟩ := chkT_ok a Γ x hg h1
            obtain ⟨u, p2, q2⟩ := chkT_ok b Γ y hg h2
            exact ⟨_, fun X C => (pw_or (p1 X C) (pw_or1 (p2 X C))).pt, st_or q1 q2⟩
          | cons z r =>
            obtain ⟨h1, h2⟩ := ba2 (show (chkT a Γ x && chkT b Γ (.BoolOp .Or (y :: z :: r) p)) = true from h)
            obtain ⟨t, p1, q1⟩ := chkT_ok a Γ x hg h1
            obtain ⟨u, p2, q2⟩ := chkT_ok b Γ _ hg h2
            exact ⟨_, fun X C => (pw_or (p1 X C) (pw_of (p2 X C))).pt, st_or q1 q2⟩
    | _ => cases h
  | .tr a, Γ, e, hg, h => by
    obtain ⟨h1, h2⟩ := ba2 (show (chkE a Γ e && (plainT e || isCmpE a)) = true from h)
    obtain ⟨t, p1, q1⟩ := chkE_ok a Γ e hg h1
    by_cases hp : plainT e = true
    · exact ⟨_, fun X C => C.K ▸ pt_truth (p1 X C) (plain_isTrue hp), st_tr q1⟩
    · have hc : isCmpE a = true := (Bool.or_eq_true_iff.mp h2).resolve_left hp
      cases a with
      | cmp o a b =>
        cases e with
        | Compare l ops rs p =>
          match ops, rs, h1 with
          | [op], [r], h1 =>
            obtain ⟨k1, k2⟩ := ba2 (show (decide (op = copOf o) && (!behindInMarks op r && (chkE a Γ l && chkE b Γ r))) = true from h1)
            have e := of_decide_eq_true k1
            subst e
            obtain ⟨k2, k3⟩ := ba2 k2
            obtain ⟨k3, k4⟩ := ba2 k3
            obtain ⟨t1, p1, q1⟩ := chkE_ok a Γ l hg k3
            obtain ⟨t2, p2, q2⟩ := chkE_ok b Γ r hg k4
            obtain ⟨z, r1, r2⟩ := cop_ok G o
            exact ⟨_, fun X C => pt_cmpR (r1 X C.K C.un) (p1 X C) (p2 X C) (by simpa using k2), st_trB G (se_cmp q1 q2 r2) (cmp_bl cl)⟩
        | _ => cases h1
      | oeq ng c f a b =>
        cases e with
        | Compare l ops rs p =>
          match ops, rs, h1 with
          | [op], [r], h1 =>
            obtain ⟨k1, k2⟩ := ba2 (show (decide (op = if ng = true then .NotEq else .Eq) && (decide ((c, f) ∈ Γ.eqs) && (!behindInMarks op r && (chkE a Γ l && chkE b Γ r)))) = true from h1)
            have e := of_decide_eq_true k1
            subst e
            obtain ⟨k2, k3⟩ := ba2 k2
            obtain ⟨k3, k4⟩ := ba2 k3
            obtain ⟨k4, k5⟩ := ba2 k4
            obtain ⟨t1, p1, q1⟩ := chkE_ok a Γ l hg k4
            obtain ⟨t2, p2, q2⟩ := chkE_ok b Γ r hg k5
            exact ⟨_, fun X C => pt_cmpR (oeq_op C ng (of_decide_eq_true k2)) (p1 X C) (p2 X C) (by simpa using k3), st_trB G (se_oeq (E := fun _ _ _ => False) (fun fl ds x => hn f fl ds x) q1 q2) (oeq_bl cl)⟩
        | _ => cases h1
      | cmp2 o1 o2 a b c =>
        cases e with
        | Compare l ops rs p =>
          match ops, rs, h1 with
          | [o, o'], [m, r], h1 =>
            obtain ⟨k1, k2⟩ := ba2 (show (decide (o = copOf o1) && (decide (o' = copOf o2) && (!lastMarks [o, o'] [m, r] && (chkE a Γ l && (chkE b Γ m && chkE c Γ r))))) = true from h1)
            have e := of_decide_eq_true k1
            subst e
            obtain ⟨k2, k3⟩ := ba2 k2
            have e := of_decide_eq_true k2
            subst e
            obtain ⟨k3, k4⟩ := ba2 k3
            obtain ⟨k4, k5⟩ := ba2 k4
            obtain ⟨k5, k6⟩ := ba2 k5
            obtain ⟨t, p1, q1⟩ := chkE_ok a Γ l hg k4
            obtain ⟨u, p2, q2⟩ := chkE_ok b Γ m hg k5
            obtain ⟨v, p3, q3⟩ := chkE_ok c Γ r hg k6
            obtain ⟨z, r1, r2⟩ := cop_ok G o1
            obtain ⟨z', r1', r2'⟩ := cop_ok G o2
            exact ⟨_, fun X C => pt_chain (r1 X C.K C.un) (r1' X C.K C.un) (p1 X C) (p2 X C) (p3 X C) (by simpa using k3), st_trB G (se_cmp2 q1 q2 q3 r2 r2') (cmp2_bl cl)⟩
        | _ => cases h1
      | _ => cases hc
  | .var _, Γ, e, hg, h => by cases h
  | .con _, Γ, e, hg, h => by cases h
  | .glo _ _, Γ, e, hg, h => by cases h
  | .nil, Γ, e, hg, h => by cases h
  | .cons _ _, Γ, e, hg, h => by cases h
  | .ioa _ _, Γ, e, hg, h => by cases h
  | .tup _, Γ, e, hg, h => by cases h
  | .lst _, Γ, e, hg, h => by cases h
  | .neg _, Γ, e, hg, h => by cases h
  | .bin _ _ _, Γ, e, hg, h => by cases h
  | .cmp _ _ _, Γ, e, hg, h => by cases h
  | .cmp2 _ _ _ _ _, Γ, e, hg, h => by cases h
  | .ife _ _ _, Γ, e, hg, h => by cases h
  | .idx _ _, Γ, e, hg, h => by cases h
  | .sl _ _ _, Γ, e, hg, h => by cases h
  | .call _ _, Γ, e, hg, h => by cases h
  | .callk _ _ _ _, Γ, e, hg, h => by cases h
  | .fld _ _, Γ, e, hg, h => by cases h
  | .mk _ _ _ _, Γ, e, hg, h => by cases h
  | .isinc _ _ _, Γ, e, hg, h => by cases h
  | .calf _ _ _, Γ, e, hg, h => by cases h
  | .calv _ _, Γ, e, hg, h => by cases h
  | .vop _ _ _ _, Γ, e, hg, h => by cases h
  | .uop _ _, Γ, e, hg, h => by cases h
  | .bm _ _ _, Γ, e, hg, h => by cases h
  | .mkk _ _ _ _ _ _, Γ, e, hg, h => by cases h
  | .oeq _ _ _ _ _, Γ, e, hg, h => by cases h
  | .blt _ _, Γ, e, hg, h => by cases h
  | .isin _ _, Γ, e, hg, h => by cases h
  | .lc _ _ _ _ _, Γ, e, hg, h => by cases h
  | .rng1 _, Γ, e, hg, h => by cases h
  | .rng2 _ _, Γ, e, hg, h => by cases h
  | .enm _, Γ, e, hg, h => by cases h
  | .zip _ _, Γ, e, hg, h => by cases h
  | .it _, Γ, e, hg, h => by cases h
theorem chkI_ok : ∀ (it : E) (Γ : Gm) (tg e : Expr), GvOk G gv Γ → chkI it Γ tg e = true → OkI G cl ar vf gv lv it Γ tg e
  | .rng1 a, Γ, tg, e, hg, h => by
    cases e with
    | Call fe args kws pos =>
      cases fe with
      | Name x p =>
        match args, kws, h with
        | [e], [], h =>
          obtain ⟨h1, h2⟩ := ba2 (show (decide (x = "range") && (freeB Γ x && (nst e && chkE a Γ e))) = true from h)
          have ex := of_decide_eq_true h1
          subst ex
          obtain ⟨h2, h3⟩ := ba2 h2
          obtain ⟨h3, h4⟩ := ba2 h3
          obtain ⟨t, p1, q1⟩ := chkE_ok a Γ e hg h4
          refine ⟨_, fun X C => ?_, si_rng1 q1⟩
          obtain ⟨f1, f2, f3, f4⟩ := C.fr h2
          exact pi_range1 f1 f2 (pa_cons (p1 X C) pa_nil (star1 h3)) (star1 h3)
      | _ => cases h
    | _ => cases h
  | .rng2 a b, Γ, tg, e, hg, h => by
    cases e with
    | Call fe args kws pos =>
      cases fe with
      | Name x p =>
        match args, kws, h with
        | [e, f], [], h =>
          obtain ⟨h1, h2⟩ := ba2 (show (decide (x = "range") && (freeB Γ x && (nst e && (nst f && (chkE a Γ e && chkE b Γ f))))) = true from h)
          have ex := of_decide_eq_true h1
          subst ex
          obtain ⟨h2, h3⟩ := ba2 h2
          obtain ⟨h3, h4⟩ := ba2 h3
          obtain ⟨h4, h5⟩ := ba2 h4
          obtain ⟨h5, h6⟩ := ba2 h5
          obtain ⟨t, p1, q1⟩ := chkE_ok a Γ e hg h5
          obtain ⟨u, p2, q2⟩ := chkE_ok b Γ f hg h6
          refine ⟨_, fun X C => ?_, si_rng2 q1 q2⟩
          obtain ⟨f1, f2, f3, f4⟩ := C.fr h2
          exact pi_range2 f1 f2 (pa_cons (p1 X C) (pa_cons (p2 X C) pa_nil (star1 h4)) (star1 h3)) (by rw [star1 h3, star1 h4]; rfl) (star1 h4)
      | _ => cases h
    | _ => cases h
  | .enm a, Γ, tg, e, hg, h => by
    cases tg with
    | Tuple elts kk tp =>
      cases e with
      | Call fe args kws pos =>
        cases fe with
        | Name x p =>
          match args, kws, h with
          | [e], [], h =>
            obtain ⟨h1, h2⟩ := ba2 (show (decide (x = "enumerate") && (freeB Γ x && (nst e && chkE a Γ e))) = true from h)
            have ex := of_decide_eq_true h1
            subst ex
            obtain ⟨h2, h3⟩ := ba2 h2
            obtain ⟨h3, h4⟩ := ba2 h3
            obtain ⟨t, p1, q1⟩ := chkE_ok a Γ e hg h4
            refine ⟨_, fun X C => ?_, si_enm q1⟩
            obtain ⟨f1, f2, f3, f4⟩ := C.fr h2
            exact C.K ▸ pi_enumS f1 f2 (pa_cons (p1 X C) pa_nil (star1 h3)) (star1 h3)
        | _ => cases h
      | _ => cases h
    | _ => cases h
  | .it a, Γ, tg, e, hg, h => by
    obtain ⟨t, p1, q1⟩ := chkE_ok a Γ e hg h
    exact ⟨_, fun X C => C.K ▸ pi_seq (p1 X C), si_it q1⟩
  | .var _, Γ, tg, e, hg, h => by cases h
  | .con _, Γ, tg, e, hg, h => by cases h
  | .glo _ _, Γ, tg, e, hg, h => by cases h
  | .nil, Γ, tg, e, hg, h => by cases h
  | .cons _ _, Γ, tg, e, hg, h => by cases h
  | .ioa _ _, Γ, tg, e, hg, h => by cases h
  | .tup _, Γ, tg, e, hg, h => by cases h
  | .lst _, Γ, tg, e, hg, h => by cases h
  | .neg _, Γ, tg, e, hg, h => by cases h
  | .bin _ _ _, Γ, tg, e, hg, h => by cases h
  | .cmp _ _ _, Γ, tg, e, hg, h => by cases h
  | .cmp2 _ _ _ _ _, Γ, tg, e, hg, h => by cases h
  | .not _, Γ, tg, e, hg, h => by cases h
  | .and _ _, Γ, tg, e, hg, h => by cases h
  | .or _ _, Γ, tg, e, hg, h => by cases h
  | .ife _ _ _, Γ, tg, e, hg, h => by cases h
  | .idx _ _, Γ, tg, e, hg, h => by cases h
  | .sl _ _ _, Γ, tg, e, hg, h => by cases h
  | .call _ _, Γ, tg, e, hg, h => by cases h
  | .callk _ _ _ _, Γ, tg, e, hg, h => by cases h
  | .fld _ _, Γ, tg, e, hg, h => by cases h
  | .mk _ _ _ _, Γ, tg, e, hg, h => by cases h
  | .isinc _ _ _, Γ, tg, e, hg, h => by cases h
  | .calf _ _ _, Γ, tg, e, hg, h => by cases h
  | .calv _ _, Γ, tg, e, hg, h => by cases h
  | .vop _ _ _ _, Γ, tg, e, hg, h => by cases h
  | .uop _ _, Γ, tg, e, hg, h => by cases h
  | .bm _ _ _, Γ, tg, e, hg, h => by cases h
  | .mkk _ _ _ _ _ _, Γ, tg, e, hg, h => by cases h
  | .oeq _ _ _ _ _, Γ, tg, e, hg, h => by cases h
  | .blt _ _, Γ, tg, e, hg, h => by cases h
  | .isin _ _, Γ, tg, e, hg, h => by cases h
  | .lc _ _ _ _ _, Γ, tg, e, hg, h => by cases h
  | .zip _ _, Γ, tg, e, hg, h => by cases h
  | .tr _, Γ, tg, e, hg, h => by cases h
theorem chkV_ok : ∀ (t : E) (vs : List Nat) (Γ : Gm) (e : Expr), GvOk G gv Γ → chkV t vs Γ e = true → OkV G cl ar vf gv lv t vs Γ e
  | .var i, vs, Γ, e, hg, h => by
    cases e with
    | Name x p =>
      obtain ⟨h1, h2⟩ := ba2 (show (stvB Γ i x && decide (i ∈ vs)) = true from h)
      exact ⟨_, fun X C => C.stv h1, sgv_name (of_decide_eq_true h2)⟩
    | _ => cases h
  | .tup ts, vs, Γ, e, hg, h => by
    cases e with
    | Tuple l k p =>
      obtain ⟨u, p1, q1⟩ := chkVs_ok ts vs Γ l hg h
      refine ⟨gTup G.K l.length u, fun X C => C.K ▸ pg_tup C.calm (p1 X C).1 asgLen (p1 X C).2, ?_⟩
      have e : (fun d => evG cl (.tup ts) d .frz) = fun d ρ => match d with | .tup xs => evGs cl ts xs ρ | _ => .no := by
        funext d ρ
        cases d <;> rfl
      rw [e]
      exact sgv_tup (chkVs_len vs Γ l ts h) q1
    | _ => cases h
  | .con _, vs, Γ, e, hg, h => by cases h
  | .glo _ _, vs, Γ, e, hg, h => by cases h
  | .nil, vs, Γ, e, hg, h => by cases h
  | .cons _ _, vs, Γ, e, hg, h => by cases h
  | .ioa _ _, vs, Γ, e, hg, h => by cases h
  | .lst _, vs, Γ, e, hg, h => by cases h
  | .neg _, vs, Γ, e, hg, h => by cases h
  | .bin _ _ _, vs, Γ, e, hg, h => by cases h
  | .cmp _ _ _, vs, Γ, e, hg, h => by cases h
  | .cmp2 _ _ _ _ _, vs, Γ, e, hg, h => by cases h
  | .not _, vs, Γ, e, hg, h => by cases h
  | .and _ _, vs, Γ, e, hg, h => by cases h
  | .or _ _, vs, Γ, e, hg, h => by cases h
  | .ife _ _ _, vs, Γ, e, hg, h => by cases h
  | .idx _ _, vs, Γ, e, hg, h => by cases h
  | .sl _ _ _, vs, Γ, e, hg, h => by cases h
  | .call _ _, vs, Γ, e, hg, h => by cases h
  | .callk _ _ _ _, vs, Γ, e, hg, h => by cases h
  | .fld _ _, vs, Γ, e, hg, h => by cases h
  | .mk _ _ _ _, vs, Γ, e, hg, h => by cases h
  | .isinc _ _ _, vs, Γ, e, hg, h => by cases h
  | .calf _ _ _, vs, Γ, e, hg, h => by cases h
  | .calv _ _, vs, Γ, e, hg, h => by cases h
  | .vop _ _ _ _, vs, Γ, e, hg, h => by cases h
  | .uop _ _, vs, Γ, e, hg, h => by cases h
  | .bm _ _ _, vs, Γ, e, hg, h => by cases h
  | .mkk _ _ _ _ _ _, vs, Γ, e, hg, h => by cases h
  | .oeq _ _ _ _ _, vs, Γ, e, hg, h => by cases h
  | .blt _ _, vs, Γ, e, hg, h => by cases h
  | .isin _ _, vs, Γ, e, hg, h => by cases h
  | .lc _ _ _ _ _, vs, Γ, e, hg, h => by cases h
  | .rng1 _, vs, Γ, e, hg, h => by cases h
  | .rng2 _ _, vs, Γ, e, hg, h => by cases h
  | .enm _, vs, Γ, e, hg, h => by cases h
  | .zip _ _, vs, Γ, e, hg, h => by cases h
  | .it _, vs, Γ, e, hg, h => by cases h
  | .tr _, vs, Γ, e, hg, h => by cases h
theorem chkVs_ok : ∀ (t : E) (vs : List Nat) (Γ : Gm) (e : List Expr), GvOk G gv Γ → chkVs t vs Γ e = true → OkVs G cl ar vf gv lv t vs Γ e
  | .nil, vs, Γ, l, hg, h => by
    cases l with
    | nil =>
      refine ⟨_, fun X C => ⟨pgs_nil, rfl⟩, ?_⟩
      have e : evGs cl .nil = fun ds ρ => match ds with | [] => .ok () ρ | _ => .no := by
        funext ds ρ
        cases ds <;> rfl
      rw [e]
      exact sgv_nil
    | cons => cases h
  | .cons t ts, vs, Γ, l, hg, h => by
    cases l with
    | nil => cases h
    | cons e es =>
      obtain ⟨h1, h2⟩ := ba2 (show (nst e && (chkV t vs Γ e && chkVs ts vs Γ es)) = true from h)
      obtain ⟨h2, h3⟩ := ba2 h2
      obtain ⟨g, p1, q1⟩ := chkV_ok t vs Γ e hg h2
      obtain ⟨u, p2, q2⟩ := chkVs_ok ts vs Γ es hg h3
      refine ⟨gCons g u, fun X C => ⟨pgs_cons (p1 X C) (p2 X C).1 (by rw [asg1 h1]; rfl), by rw [asg1 h1]; simp [List.findIdx?_cons, (p2 X C).2]⟩, ?_⟩
      have e : evGs cl (.cons t ts) = fun ds ρ => match ds with | d :: ds => (evG cl t d .frz ρ).bind fun _ ρ => evGs cl ts ds ρ | [] => .no := by
        funext ds ρ
        cases ds <;> rfl
      rw [e]
      exact sgv_cons q1 q2
  | .var _, vs, Γ, l, hg, h => by cases l <;> cases h
  | .con _, vs, Γ, l, hg, h => by cases l <;> cases h
  | .glo _ _, vs, Γ, l, hg, h => by cases l <;> cases h
  | .ioa _ _, vs, Γ, l, hg, h => by cases l <;> cases h
  | .tup _, vs, Γ, l, hg, h => by cases l <;> cases h
  | .lst _, vs, Γ, l, hg, h => by cases l <;> cases h
  | .neg _, vs, Γ, l, hg, h => by cases l <;> cases h
  | .bin _ _ _, vs, Γ, l, hg, h => by cases l <;> cases h
  | .cmp _ _ _, vs, Γ, l, hg, h => by cases l <;> cases h
  | .cmp2 _ _ _ _ _, vs, Γ, l, hg, h => by cases l <;> cases h
  | .not _, vs, Γ, l, hg, h => by cases l <;> cases h
  | .and _ _, vs, Γ, l, hg, h => by cases l <;> cases h
  | .or _ _, vs, Γ, l, hg, h => by cases l <;> cases h
  | .ife _ _ _, vs, Γ, l, hg, h => by cases l <;> cases h
  | .idx _ _, vs, Γ, l, hg, h => by cases l <;> cases h
  | .sl _ _ _, vs, Γ, l, hg, h => by cases l <;> cases h
  | .call _ _, vs, Γ, l, hg, h => by cases l <;> cases h
  | .callk _ _ _ _, vs, Γ, l, hg, h => by cases l <;> cases h
  | .fld _ _, vs, Γ, l, hg, h => by cases l <;> cases h
  | .mk _ _ _ _, vs, Γ, l, hg, h => by cases l <;> cases h
  | .isinc _ _ _, vs, Γ, l, hg, h => by cases l <;> cases h
  | .calf _ _ _, vs, Γ, l, hg, h => by cases l <;> cases h
  | .calv _ _, vs, Γ, l, hg, h => by cases l <;> cases h
  | .vop _ _ _ _, vs, Γ, l, hg, h => by cases l <;> cases h
  | .uop _ _, vs, Γ, l, hg, h => by cases l <;> cases h
  | .bm _ _ _, vs, Γ, l, hg, h => by cases l <;> cases h
  | .mkk _ _ _ _ _ _, vs, Γ, l, hg, h => by cases l <;> cases h
  | .oeq _ _ _ _ _, vs, Γ, l, hg, h => by cases l <;> cases h
  | .blt _ _, vs, Γ, l, hg, h => by cases l <;> cases h
  | .isin _ _, vs, Γ, l, hg, h => by cases l <;> cases h
  | .lc _ _ _ _ _, vs, Γ, l, hg, h => by cases l <;> cases h
  | .rng1 _, vs, Γ, l, hg, h => by cases l <;> cases h
  | .rng2 _ _, vs, Γ, l, hg, h => by cases l <;> cases h
  | .enm _, vs, Γ, l, hg, h => by cases l <;> cases h
  | .zip _ _, vs, Γ, l, hg, h => by cases l <;> cases h
  | .it _, vs, Γ, l, hg, h => by cases l <;> cases h
  | .tr _, vs, Γ, l, hg, h => by cases l <;> cases h
end
end
end Mp

set_option maxRecDepth 100000
set_option maxHeartbeats 4000000
/-! Mp17: what the check says of statements. -/
namespace Mp
open PySem PySem.Spec PyProof.Rows L2
section
variable {G : GD} {cl : Nat → List Bool → List D → CRes} {ar : Nat → Nat} {vf : Nat → Prop} {gv : Str → V} {lv : Nat}
  (hn : ∀ f fl ds x, cl f fl ds = some x → ds.length = ar f) (hv : ∀ f fl ds x, cl f fl ds = some x → vf f) (inj : ∀ f g, vf f → vf g → G.fa f = G.fa g → f = g)
def OkG (G : GD) (cl : Nat → List Bool → List D → CRes) (ar : Nat → Nat) (vf : Nat → Prop) (gv : Str → V) (lv : Nat) (E : E) (Γ : Gm) (e : Expr) : Prop := ∃ t, (∀ X, CxOk G cl ar vf gv lv Γ X → PG X e t) ∧ SGt G (evG cl E) t
def OkGs (G : GD) (cl : Nat → List Bool → List D → CRes) (ar : Nat → Nat) (vf : Nat → Prop) (gv : Str → V) (lv : Nat) (E : E) (Γ : Gm) (l : List Expr) : Prop := ∃ t, (∀ X, CxOk G cl ar vf gv lv Γ X → PGs X l t ∧ (assignEach l X.env).findIdx? (·.1) = none) ∧ SGs G (evGs cl E) t
def OkS (G : GD) (cl : Nat → List Bool → List D → CRes) (ar : Nat → Nat) (vf : Nat → Prop) (gv : Str → V) (lv : Nat) (s : S) (Γ : Gm) (st : Stmt) : Prop := ∃ t, (∀ X, CxOk G cl ar vf gv lv Γ X → PS X st t) ∧ SSt G (evS cl s) t
def OkSs (G : GD) (cl : Nat → List Bool → List D → CRes) (ar : Nat → Nat) (vf : Nat → Prop) (gv : Str → V) (lv : Nat) (s : S) (Γ : Gm) (st : List Stmt) : Prop := ∃ t, (∀ X, CxOk G cl ar vf gv lv Γ X → PSs X st t) ∧ SSt G (evS cl s) t
theorem chkGs_len (Γ : Gm) : ∀ (l : List Expr) (ts : E), chkGs ts Γ l = true → ∀ ds ρ ρ', evGs cl ts ds ρ = .ok () ρ' → ds.length = l.length
  | [], ts, h, ds, ρ, ρ', e => by
    cases ts with
    | nil => cases ds with
      | nil => rfl
      | cons => cases e
    | _ => cases h
  | x :: l, ts, h, ds, ρ, ρ', e => by
    cases ts with
    | cons t ts =>
      obtain ⟨_, h2⟩ := ba2 (show (nst x && (chkG t Γ x && chkGs ts Γ l)) = true from h)
      obtain ⟨_, h3⟩ := ba2 h2
      cases ds with
      | nil => cases e
      | cons d ds =>
        obtain ⟨u, ρ1, _, e⟩ := bind_ok (show ((evG cl t d .frz ρ).bind fun _ ρ => evGs cl ts ds ρ) = .ok () ρ' from e)
        rw [List.length_cons, List.length_cons, chkGs_len Γ l ts h3 ds ρ1 ρ' e]
    | _ => cases h
include hn hv inj in
mutual
theorem chkG_ok : ∀ (t : E) (Γ : Gm) (e : Expr), GvOk G gv Γ → chkG t Γ e = true → OkG G cl ar vf gv lv t Γ e
  | .var i, Γ, e, hg, h => by
    cases e with
    | Name x p => exact ⟨_, fun X C => C.stv h, sg_name⟩
    | _ => cases h
  | .idx a i, Γ, e, hg, h => by
    cases a with
    | var j =>
      cases e with
      | Subscript o y p =>
        cases o with
        | Name x px =>
          obtain ⟨h1, h2⟩ := ba2 (show (varB Γ j x && (nsl y && chkE i Γ y)) = true from h)
          obtain ⟨hs, h2⟩ := ba2 h2
          obtain ⟨t, p1, q1⟩ := chkE_ok hn hv inj i Γ y hg h2
          refine ⟨_, fun X C => pg_sub (C.var h1).2.2.2.2 (p1 X C) set_list (by intro v; cases y <;> first | rfl | cases hs), ?_⟩
          have e : evG cl (.idx (.var j) i) = fun d k ρ => match k with | .pk _ => .no | _ => if ownS (getS ρ j) = true then (evE cl i ρ).bind fun y ρ => storeIx ρ j y.1 d else .no := by
            funext d k ρ
            cases k <;> rfl
          rw [e]
          exact sg_idx q1
        | _ => cases h
      | _ => cases h
    | _ => cases h
  | .tup ts, Γ, e, hg, h => by
    cases e with
    | Tuple l k p =>
      obtain ⟨u, p1, q1⟩ := chkGs_ok ts Γ l hg h
      refine ⟨gTup G.K l.length u, fun X C => C.K ▸ pg_tup C.calm (p1 X C).1 asgLen (p1 X C).2, ?_⟩
      have e : evG cl (.tup ts) = fun d _ ρ => match d with | .tup xs => evGs cl ts xs ρ | _ => .no := by
        funext d k ρ
        cases d <;> rfl
      rw [e]
      exact sg_tup (chkGs_len Γ l ts h) q1
    | _ => cases h
  | .con _, Γ, e, hg, h => by cases h
  | .glo _ _, Γ, e, hg, h => by cases h
  | .nil, Γ, e, hg, h => by cases h
  | .cons _ _, Γ, e, hg, h => by cases h
  | .ioa _ _, Γ, e, hg, h => by cases h
  | .lst _, Γ, e, hg, h => by cases h
  | .neg _, Γ, e, hg, h => by cases h
  | .bin _ _ _, Γ, e, hg, h => by cases h
  | .cmp _ _ _, Γ, e, hg, h => by cases h
  | .cmp2 _ _ _ _ _, Γ, e, hg, h => by cases h
  | .not _, Γ, e, hg, h => by cases h
  | .and _ _, Γ, e, hg, h => by cases h
  | .or _ _, Γ, e, hg, h => by cases h
  | .ife _ _ _, Γ, e, hg, h => by cases h
  | .sl _ _ _, Γ, e, hg, h => by cases h
  | .call _ _, Γ, e, hg, h => by cases h
  | .callk _ _ _ _, Γ, e, hg, h => by cases h
  | .fld _ _, Γ, e, hg, h => by cases h
  | .mk _ _ _ _, Γ, e, hg, h => by cases h
  | .isinc _ _ _, Γ, e, hg, h => by cases h
  | .calf _ _ _, Γ, e, hg, h => by cases h
  | .calv _ _, Γ, e, hg, h => by cases h
  | .vop _ _ _ _, Γ, e, hg, h => by cases h
  | .uop _ _, Γ, e, hg, h => by cases h
  | .bm _ _ _, Γ, e, hg, h => by cases h
  | .mkk _ _ _ _ _ _, Γ, e, hg, h => by cases h
  | .oeq _ _ _ _ _, Γ, e, hg, h => by cases h
  | .blt _ _, Γ, e, hg, h => by cases h
  | .isin _ _, Γ, e, hg, h => by cases h
  | .lc _ _ _ _ _, Γ, e, hg, h => by cases h
  | .rng1 _, Γ, e, hg, h => by cases h
  | .rng2 _ _, Γ, e, hg, h => by cases h
  | .enm _, Γ, e, hg, h => by cases h
  | .zip _ _, Γ, e, hg, h => by cases h
  | .it _, Γ, e, hg, h => by cases h
  | .tr _, Γ, e, hg, h => by cases h
theorem chkGs_ok : ∀ (t : E) (Γ : Gm) (e : List Expr), GvOk G gv Γ → chkGs t Γ e = true → OkGs G cl ar vf gv lv t Γ e
  | .nil, Γ, l, hg, h => by
    cases l with
    | nil =>
      refine ⟨_, fun X C => ⟨pgs_nil, rfl⟩, ?_⟩
      have e : evGs cl .nil = fun ds ρ => match ds with | [] => .ok () ρ | _ => .no := by
        funext ds ρ
        cases ds <;> rfl
      rw [e]
      exact sg_nil
    | cons => cases h
  | .cons t ts, Γ, l, hg, h => by
    cases l with
    | nil => cases h
    | cons e es =>
      obtain ⟨h1, h2⟩ := ba2 (show (nst e && (chkG t Γ e && chkGs ts Γ es)) = true from h)
      obtain ⟨h2, h3⟩ := ba2 h2
      obtain ⟨g, p1, q1⟩ := chkG_ok t Γ e hg h2
      obtain ⟨u, p2, q2⟩ := chkGs_ok ts Γ es hg h3
      refine ⟨gCons g u, fun X C => ⟨pgs_cons (p1 X C) (p2 X C).1 (by rw [asg1 h1]; rfl), by rw [asg1 h1]; simp [List.findIdx?_cons, (p2 X C).2]⟩, ?_⟩
      have e : evGs cl (.cons t ts) = fun ds ρ => match ds with | d :: ds => (evG cl t d .frz ρ).bind fun _ ρ => evGs cl ts ds ρ | [] => .no := by
        funext ds ρ
        cases ds <;> rfl
      rw [e]
      exact sg_cons q1 q2
  | .var _, Γ, l, hg, h => by cases l <;> cases h
  | .con _, Γ, l, hg, h => by cases l <;> cases h
  | .glo _ _, Γ, l, hg, h => by cases l <;> cases h
  | .ioa _ _, Γ, l, hg, h => by cases l <;> cases h
  | .tup _, Γ, l, hg, h => by cases l <;> cases h
  | .lst _, Γ, l, hg, h => by cases l <;> cases h
  | .neg _, Γ, l, hg, h => by cases l <;> cases h
  | .bin _ _ _, Γ, l, hg, h => by cases l <;> cases h
  | .cmp _ _ _, Γ, l, hg, h => by cases l <;> cases h
  | .cmp2 _ _ _ _ _, Γ, l, hg, h => by cases l <;> cases h
  | .not _, Γ, l, hg, h => by cases l <;> cases h
  | .and _ _, Γ, l, hg, h => by cases l <;> cases h
  | .or _ _, Γ, l, hg, h => by cases l <;> cases h
  | .ife _ _ _, Γ, l, hg, h => by cases l <;> cases h
  | .idx _ _, Γ, l, hg, h => by cases l <;> cases h
  | .sl _ _ _, Γ, l, hg, h => by cases l <;> cases h
  | .call _ _, Γ, l, hg, h => by cases l <;> cases h
  | .callk _ _ _ _, Γ, l, hg, h => by cases l <;> cases h
  | .fld _ _, Γ, l, hg, h => by cases l <;> cases h
  | .mk _ _ _ _, Γ, l, hg, h => by cases l <;> cases h
  | .isinc _ _ _, Γ, l, hg, h => by cases l <;> cases h
  | .calf _ _ _, Γ, l, hg, h => by cases l <;> cases h
  | .calv _ _, Γ, l, hg, h => by cases l <;> cases h
  | .vop _ _ _ _, Γ, l, hg, h => by cases l <;> cases h
  | .uop _ _, Γ, l, hg, h => by cases l <;> cases h
  | .bm _ _ _, Γ, l, hg, h => by cases l <;> cases h
  | .mkk _ _ _ _ _ _, Γ, l, hg, h => by cases l <;> cases h
  | .oeq _ _ _ _ _, Γ, l, hg, h => by cases l <;> cases h
  | .blt _ _, Γ, l, hg, h => by cases l <;> cases h
  | .isin _ _, Γ, l, hg, h => by cases l <;> cases h
  | .lc _ _ _ _ _, Γ, l, hg, h => by cases l <;> cases h
  | .rng1 _, Γ, l, hg, h => by cases l <;> cases h
  | .rng2 _ _, Γ, l, hg, h => by cases l <;> cases h
  | .enm _, Γ, l, hg, h => by cases l <;> cases h
  | .zip _ _, Γ, l, hg, h => by cases l <;> cases h
  | .it _, Γ, l, hg, h => by cases l <;> cases h
  | .tr _, Γ, l, hg, h => by cases l <;> cases h
end
theorem chkG_nst {t : E} {Γ : Gm} {e : Expr} (h : chkG t Γ e = true) : nst e = true := by
  cases e with
  | Starred x p => cases t with
    | idx a i => cases a <;> cases h
    | _ => cases h
  | _ => rfl
theorem sw_none {v : Expr} {line : Nat} {env : PySem.Env} {tg : Option Expr} (h : ncmp v = true) : swapsWith v tg line env = pure false := by
  cases v <;> first | rfl | cases h
theorem fm_lt {q : Expr → Bool} {f : Expr → Option Str} (hf : ∀ e, q e = true → f e = none) : ∀ {ts : List Expr}, ts.any q = true → (ts.filterMap f).length < ts.length
  | [], h => by cases h
  | e :: ts, h => by
    have le : (ts.filterMap f).length ≤ ts.length := List.length_filterMap_le _ _
    cases hn : q e with
    | true =>
      rw [List.filterMap_cons, hf e hn, List.length_cons]
      show (ts.filterMap f).length < _
      omega
    | false =>
      have h' : ts.any q = true := by
        rw [List.any_cons, hn, Bool.false_or] at h
        exact h
      have := fm_lt hf h'
      rw [List.filterMap_cons, List.length_cons]
      cases f e with
      | none => show (ts.filterMap f).length < _; omega
      | some x => show (x :: ts.filterMap f).length < _; rw [List.length_cons]; omega
theorem sub_swst {ts vs : List Expr} {k k2 : Nat} {p p2 : Pos} {env : PySem.Env} (h : ts.any nnm = true) : swappedStores [.Tuple ts k p] (.Tuple vs k2 p2) env = pure none := by
  unfold swappedStores
  dsimp only
  split
  · rfl
  · split
    · rfl
    · rw [if_pos]
      rw [Bool.or_eq_true]
      left
      rw [bne_iff_ne]
      exact Nat.ne_of_lt (fm_lt (fun e he => by cases e <;> first | (cases he; done) | rfl) h)
theorem cell_swst {Γ : Gm} {ts vs : List Expr} {k k2 : Nat} {p p2 : Pos} {env : PySem.Env} (hs : env.scope = Γ.sc) (h : ts.any (cellT Γ) = true) : swappedStores [.Tuple ts k p] (.Tuple vs k2 p2) env = pure none := by
  unfold swappedStores
  dsimp only
  split
  · rfl
  · split
    · rfl
    · rw [if_pos]
      rw [Bool.or_eq_true]
      left
      rw [bne_iff_ne]
      refine Nat.ne_of_lt (fm_lt (q := cellT Γ) (fun e he => ?_) h)
      cases e with
      | Name x px =>
        have hc : env.kindOf x = some .cell := by
          have h2 : cellB Γ.sc x = true := he
          show env.scope.names.lookup x = some .cell
          rw [hs]
          unfold cellB at h2
          split at h2
          · assumption
          · cases h2
        have e1 : (some NameKind.cell == some NameKind.local) = false := by decide
        dsimp only
        rw [hc, e1, Bool.false_and] <;> rfl
      | _ => rfl
theorem namesB_ok {Γ : Gm} {X : Cx} (C : CxOk G cl ar vf gv lv Γ X) : ∀ {is : List Nat} {ts : List Expr}, namesB Γ is ts = true → PGs X ts (gNames is) ∧ (assignEach ts X.env).findIdx? (·.1) = none ∧ ts.length = is.length
  | [], [], _ => ⟨pgs_nil, rfl, rfl⟩
  | [], _ :: _, h => by cases h
  | i :: is, [], h => by cases h
  | i :: is, t :: ts, h => by
    cases t with
    | Name x p =>
      obtain ⟨h1, h2⟩ := ba2 (show (stvB Γ i x && namesB Γ is ts) = true from h)
      obtain ⟨p1, p2, p3⟩ := namesB_ok C h2
      exact ⟨pgs_cons (C.stv h1) p1 (by rw [asg1 rfl]; rfl), by rw [asg1 rfl]; simp [List.findIdx?_cons, p2], by rw [List.length_cons, List.length_cons, p3]⟩
    | _ => cases h
theorem swst_none {tg v : Expr} {env : PySem.Env} (h : (ntup tg || ntup v || subT tg) = true) : swappedStores [tg] v env = pure none := by
  rcases Bool.or_eq_true_iff.mp h with h | h
  case inr =>
    cases tg with
    | Tuple ts k p =>
      cases v with
      | Tuple vs k2 p2 => exact sub_swst h
      | _ => rfl
    | _ => cases h
  rcases Bool.or_eq_true_iff.mp h with h | h
  · cases tg <;> first | rfl | cases h
  · cases v <;> first | (cases tg <;> rfl) | cases h
theorem noswap_ok {Γ : Gm} {v tg : Expr} {line : Nat} {env : PySem.Env} (hs : env.scope = Γ.sc) (h : noswap Γ v tg = true) : swapsWithSole [tg] v line env = pure false := by
  show swapsWith v (some tg) line env = pure false
  by_cases hn : ncmp v = true
  · exact sw_none hn
  · have h' := (Bool.or_eq_true_iff.mp h).resolve_left hn
    cases v with
    | ListComp elt gens scope pos =>
      cases tg with
      | Name x p =>
        have hc : env.scope.names.lookup x = some .cell := by
          have h2 : cellB Γ.sc x = true := h'
          rw [hs]
          unfold cellB at h2
          split at h2
          · assumption
          · cases h2
        have hk : env.kindOf x = some .cell := hc
        show (pure (env.blockKind == .function && env.kindOf x == some .local && p.line == pos.line && !(scope.names.any fun (n, k) => n == x && (k == .local || k == .cell))) : Sem Bool) = pure false
        have e1 : (some NameKind.cell == some NameKind.local) = false := by decide
        rw [hk, e1, Bool.and_false, Bool.false_and, Bool.false_and]
      | _ => rfl
    | SetComp => cases h'
    | DictComp => cases h'
    | _ => exact absurd rfl hn
theorem swap_ok {Γ : Gm} {elt : Expr} {gens : List Comprehension} {scope : Scope} {pos : Pos} {x : Str} {p : Pos} {line : Nat} {env : PySem.Env} (hs : env.scope = Γ.sc) (hk : Γ.sc.kind = .function) (h : swapB Γ (.ListComp elt gens scope pos) (.Name x p) = true) : env.scope.names.lookup x = some .local ∧ swapsWith (.ListComp elt gens scope pos) (some (.Name x p)) line env = pure true := by
  obtain ⟨h1, h2⟩ := ba2 (show (lclB Γ.sc x && (p.line == pos.line && !(scope.names.any fun (n, k) => n == x && (k == .local || k == .cell)))) = true from h)
  have hc : env.scope.names.lookup x = some .local := by
    rw [hs]
    unfold lclB at h1
    split at h1
    · assumption
    · cases h1
  refine ⟨hc, ?_⟩
  have hk1 : env.kindOf x = some .local := hc
  have hb : env.blockKind = .function := by
    unfold PySem.Env.blockKind
    rw [hs, hk] <;> rfl
  show (pure (env.blockKind == .function && env.kindOf x == some .local && p.line == pos.line && !(scope.names.any fun (n, k) => n == x && (k == .local || k == .cell))) : Sem Bool) = pure true
  have e1 : (some NameKind.local == some NameKind.local) = true := by decide
  have e2 : (ScopeKind.function == ScopeKind.function) = true := by decide
  rw [hk1, hb, e1, e2, Bool.and_true, Bool.true_and, h2]
include hn hv inj in
/-- name = [..], swapped -/
theorem setLc_ok {E t : Mp.E} {Γ : Gm} {elt : Expr} {gens : List Comprehension} {scope : Scope} {pos : Pos} {x : Str} {p spos : Pos} (hg : GvOk G gv Γ) (h : chkE E Γ (.ListComp elt gens scope pos) = true) (hs : swapB Γ (.ListComp elt gens scope pos) (.Name x p) = true) (ht : chkG t Γ (.Name x p) = true) :
    OkS G cl ar vf gv lv (.asg t E) Γ (.Assign [.Name x p] (.ListComp elt gens scope pos) spos) := by
  cases t with
  | var i =>
    cases E with
    | lc vs t it c e1 =>
      match gens, h, hs with
      | [⟨tg, iter, ifs, 0⟩], h, hs =>
        have gen : blkC Γ.N Γ.sc scope (ownOf Γ.N vs) = true → nset iter = true → chkI it Γ tg iter = true → chkV t vs (inScope Γ scope) tg = true → chkE e1 (inScope Γ scope) elt = true →
            (∃ tt, (∀ X, CxOk G cl ar vf gv lv (inScope Γ scope) X → PTs X ifs tt) ∧ STt G (evT cl c) tt) → OkS G cl ar vf gv lv (.asg (.var i) (.lc vs t it c e1)) Γ (.Assign [.Name x p] (.ListComp elt [⟨tg, iter, ifs, 0⟩] scope pos) spos) := fun b1 b2 b3 b4 b5 ⟨tt, p3, q3⟩ => by
          obtain ⟨wi, p1, q1⟩ := chkI_ok hn hv inj it Γ tg iter hg b3
          obtain ⟨g, p2, q2⟩ := chkV_ok hn hv inj t vs (inScope Γ scope) tg ⟨hg.val, hg.cls⟩ b4
          obtain ⟨te, p4, q4⟩ := chkE_ok hn hv inj e1 (inScope Γ scope) elt ⟨hg.val, hg.cls⟩ b5
          have hvs : (ownOf Γ.N vs).map (·.2) = vs := by
            unfold ownOf
            rw [List.map_map]
            exact List.map_id' vs
          refine ⟨tAsg (tLc wi g tt te vs) (gName i), fun X C => ?_, ss_asg (se_lc q1 q2 q3 q4) sg_name⟩
          have ok : BlkOk X.N X.env.scope scope (ownOf Γ.N vs) := by
            rw [C.N, C.sc]
            exact blkOk_by b1
          obtain ⟨s1, s2⟩ := swap_ok (line := spos.line) C.sc C.kind hs
          have hi : X.N[i]? = some x := by
            obtain ⟨z, _⟩ := ba2 (show (decide (Γ.N[i]? = some x) && _) = true from ht)
            rw [C.N]; exact of_decide_eq_true z
          have := ps_setLc C.calm C.nd hi s1 s2 (p1 X C) ok (fun s H c cs fp => p2 _ (C.blk b1)) (fun s H c cs fp => p3 _ (C.blk b1)) (fun s H c cs fp => p4 _ (C.blk b1)) (nset_fold b2)
          rw [hvs] at this
          exact this
        cases ifs with
        | nil =>
          cases c with
          | nil =>
            obtain ⟨b1, h⟩ := ba2 (show (blkC Γ.N Γ.sc scope (ownOf Γ.N vs) && (nset iter && (chkI it Γ tg iter && (chkV t vs (inScope Γ scope) tg && (true && chkE e1 (inScope Γ scope) elt))))) = true from h)
            obtain ⟨b2, h⟩ := ba2 h
            obtain ⟨b3, h⟩ := ba2 h
            obtain ⟨b4, h⟩ := ba2 h
            obtain ⟨_, b5⟩ := ba2 h
            exact gen b1 b2 b3 b4 b5 ⟨tYes, fun X C => pts_nil, st_yes G⟩
          | _ =>
            obtain ⟨b1, h⟩ := ba2 (show (blkC Γ.N Γ.sc scope (ownOf Γ.N vs) && (nset iter && (chkI it Γ tg iter && (chkV t vs (inScope Γ scope) tg && (false && chkE e1 (inScope Γ scope) elt))))) = true from h)
            obtain ⟨b2, h⟩ := ba2 h
            obtain ⟨b3, h⟩ := ba2 h
            obtain ⟨b4, h⟩ := ba2 h
            obtain ⟨b5, _⟩ := ba2 h
            cases b5
        | cons y ys =>
          cases ys with
          | cons _ _ =>
            have h' : (blkC Γ.N Γ.sc scope (ownOf Γ.N vs) && (nset iter && (chkI it Γ tg iter && (chkV t vs (inScope Γ scope) tg && (false && chkE e1 (inScope Γ scope) elt))))) = true := by cases c <;> exact h
            obtain ⟨b1, h⟩ := ba2 h'
            obtain ⟨b2, h⟩ := ba2 h
            obtain ⟨b3, h⟩ := ba2 h
            obtain ⟨b4, h⟩ := ba2 h
            obtain ⟨b5, _⟩ := ba2 h
            cases b5
          | nil =>
            have h' : (blkC Γ.N Γ.sc scope (ownOf Γ.N vs) && (nset iter && (chkI it Γ tg iter && (chkV t vs (inScope Γ scope) tg && (chkT c (inScope Γ scope) y && chkE e1 (inScope Γ scope) elt))))) = true := by cases c <;> exact h
            obtain ⟨b1, h⟩ := ba2 h'
            obtain ⟨b2, h⟩ := ba2 h
            obtain ⟨b3, h⟩ := ba2 h
            obtain ⟨b4, h⟩ := ba2 h
            obtain ⟨b6, b5⟩ := ba2 h
            obtain ⟨tt, p3, q3⟩ := chkT_ok hn hv inj c (inScope Γ scope) y ⟨hg.val, hg.cls⟩ b6
            exact gen b1 b2 b3 b4 b5 ⟨tt, fun X C => pts_one (p3 X C), q3⟩
    | not a => cases a <;> cases h
    | vop o i a b => cases o <;> cases h
    | uop o a => cases o <;> first | (cases h; done) | (cases a <;> cases h)
    | _ => cases h
  | idx a i => cases a <;> cases ht
  | _ => cases ht
theorem lcl_ok {Γ : Gm} {x : Str} {env : PySem.Env} (hs : env.scope = Γ.sc) (h : lclB Γ.sc x = true) : env.scope.names.lookup x = some .local := by
  rw [hs]
  unfold lclB at h
  split at h
  · assumption
  · cases h
theorem sw_two {x y : Str} {px py pt pt2 : Pos} {kt k2 : Nat} {vs : List Expr} {env : PySem.Env} (hb : env.blockKind = .function) (hx : env.scope.names.lookup x = some .local) (hy : env.scope.names.lookup y = some .local) (hxy : (x == y) = false) (hl : (py.line == px.line) = true) (hv : vs.length = 2) (hn : vs.all nst = true) (h1 : vs.all (foldedForSure 8) = false) (h2 : vs.all (constantsAlone 8) = false) :
    swappedStores [.Tuple [.Name x px, .Name y py] kt pt] (.Tuple vs k2 pt2) env = pure (some [x, y]) := by
  have hst : ¬ ∃ e, e ∈ vs ∧ (match e with | .Starred .. => true | _ => false) = true := by
    rintro ⟨e, he, z⟩
    have := List.all_eq_true.mp hn e he
    cases e <;> first | (cases z; done) | cases this
  have kx : env.kindOf x = some .local := hx
  have ky : env.kindOf y = some .local := hy
  have hyx : (y == x) = false := by rw [Bool.eq_false_iff]; intro z; rw [eq_of_beq z] at hxy; simp at hxy
  have ee : ([x, y] : List Str).eraseDups = [x, y] := by simp [List.eraseDups, List.eraseDupsBy, List.eraseDupsBy.loop, hyx]
  have hpx : Expr.pos (.Name x px) = px := rfl
  unfold swappedStores
  simp [hv, hb, hst, kx, ky, ee, h1, h2, eq_of_beq hl, hpx, List.filterMap_cons]
  all_goals
    intro e he z
    have := List.all_eq_true.mp hn e he
    cases e <;> first | (cases z; done) | cases this
theorem sw_three {x y z : Str} {px py pz pt pt2 : Pos} {kt k2 : Nat} {vs : List Expr} {env : PySem.Env} (hb : env.blockKind = .function) (hx : env.scope.names.lookup x = some .local) (hy : env.scope.names.lookup y = some .local) (hz : env.scope.names.lookup z = some .local) (hxy : (x == y) = false) (hxz : (x == z) = false) (hyz : (y == z) = false) (hl : (py.line == px.line) = true) (hl2 : (pz.line == px.line) = true) (hv : vs.length = 3) (hn : vs.all nst = true) (h1 : vs.all (foldedForSure 8) = false) (h2 : vs.all (constantsAlone 8) = false) :
    swappedStores [.Tuple [.Name x px, .Name y py, .Name z pz] kt pt] (.Tuple vs k2 pt2) env = pure (some [x, y, z]) := by
  have hst : ¬ ∃ e, e ∈ vs ∧ (match e with | .Starred .. => true | _ => false) = true := by
    rintro ⟨e, he, z⟩
    have := List.all_eq_true.mp hn e he
    cases e <;> first | (cases z; done) | cases this
  have kx : env.kindOf x = some .local := hx
  have ky : env.kindOf y = some .local := hy
  have kz : env.kindOf z = some .local := hz
  have hyx : (y == x) = false := by rw [Bool.eq_false_iff]; intro z; rw [eq_of_beq z] at hxy; simp at hxy
  have hzx : (z == x) = false := by rw [Bool.eq_false_iff]; intro w; rw [eq_of_beq w] at hxz; simp at hxz
  have hzy : (z == y) = false := by rw [Bool.eq_false_iff]; intro w; rw [eq_of_beq w] at hyz; simp at hyz
  have ee : ([x, y, z] : List Str).eraseDups = [x, y, z] := by simp [List.eraseDups, List.eraseDupsBy, List.eraseDupsBy.loop, hyx, hzx, hzy]
  have hpx : Expr.pos (.Name x px) = px := rfl
  unfold swappedStores
  simp [hv, hb, hst, kx, ky, kz, ee, h1, h2, eq_of_beq hl, eq_of_beq hl2, hpx, List.filterMap_cons]
  all_goals
    intro e he z
    have := List.all_eq_true.mp hn e he
    cases e <;> first | (cases z; done) | cases this
include hn hv inj in
theorem chkM_ok : ∀ (es : E) (Γ : Gm) (l : List Expr), GvOk G gv Γ → chkL es Γ l = true → ∃ t, (∀ X, CxOk G cl ar vf gv lv Γ X → PA X l t) ∧ SMt G (evM cl es) t
  | .nil, Γ, l, hg, h => by
    cases l with
    | nil => exact ⟨_, fun X C => pa_nil, sm_nil⟩
    | cons => cases h
  | .cons a r, Γ, l, hg, h => by
    cases l with
    | nil => cases h
    | cons e es =>
      obtain ⟨h1, h2⟩ := ba2 (show (nst e && (chkE a Γ e && chkL r Γ es)) = true from h)
      obtain ⟨h2, h3⟩ := ba2 h2
      obtain ⟨t, p1, q1⟩ := chkE_ok hn hv inj a Γ e hg h2
      obtain ⟨u, p2, q2⟩ := chkM_ok r Γ es hg h3
      exact ⟨_, fun X C => pa_cons (p1 X C) (p2 X C) (star1 h1), sm_cons q1 q2⟩
  | .var _, Γ, l, hg, h => by cases l <;> cases h
  | .con _, Γ, l, hg, h => by cases l <;> cases h
  | .glo _ _, Γ, l, hg, h => by cases l <;> cases h
  | .ioa _ _, Γ, l, hg, h => by cases l <;> cases h
  | .tup _, Γ, l, hg, h => by cases l <;> cases h
  | .lst _, Γ, l, hg, h => by cases l <;> cases h
  | .neg _, Γ, l, hg, h => by cases l <;> cases h
  | .bin _ _ _, Γ, l, hg, h => by cases l <;> cases h
  | .cmp _ _ _, Γ, l, hg, h => by cases l <;> cases h
  | .cmp2 _ _ _ _ _, Γ, l, hg, h => by cases l <;> cases h
  | .not _, Γ, l, hg, h => by cases l <;> cases h
  | .and _ _, Γ, l, hg, h => by cases l <;> cases h
  | .or _ _, Γ, l, hg, h => by cases l <;> cases h
  | .ife _ _ _, Γ, l, hg, h => by cases l <;> cases h
  | .idx _ _, Γ, l, hg, h => by cases l <;> cases h
  | .sl _ _ _, Γ, l, hg, h => by cases l <;> cases h
  | .call _ _, Γ, l, hg, h => by cases l <;> cases h
  | .callk _ _ _ _, Γ, l, hg, h => by cases l <;> cases h
  | .calf _ _ _, Γ, l, hg, h => by cases l <;> cases h
  | .fld _ _, Γ, l, hg, h => by cases l <;> cases h
  | .mk _ _ _ _, Γ, l, hg, h => by cases l <;> cases h
  | .isinc _ _ _, Γ, l, hg, h => by cases l <;> cases h
  | .calv _ _, Γ, l, hg, h => by cases l <;> cases h
  | .vop _ _ _ _, Γ, l, hg, h => by cases l <;> cases h
  | .uop _ _, Γ, l, hg, h => by cases l <;> cases h
  | .bm _ _ _, Γ, l, hg, h => by cases l <;> cases h
  | .mkk _ _ _ _ _ _, Γ, l, hg, h => by cases l <;> cases h
  | .oeq _ _ _ _ _, Γ, l, hg, h => by cases l <;> cases h
  | .blt _ _, Γ, l, hg, h => by cases l <;> cases h
  | .isin _ _, Γ, l, hg, h => by cases l <;> cases h
  | .lc _ _ _ _ _, Γ, l, hg, h => by cases l <;> cases h
  | .rng1 _, Γ, l, hg, h => by cases l <;> cases h
  | .rng2 _ _, Γ, l, hg, h => by cases l <;> cases h
  | .enm _, Γ, l, hg, h => by cases l <;> cases h
  | .zip _ _, Γ, l, hg, h => by cases l <;> cases h
  | .it _, Γ, l, hg, h => by cases l <;> cases h
  | .tr _, Γ, l, hg, h => by cases l <;> cases h
theorem blockF {Γ : Gm} {env : PySem.Env} (hs : env.scope = Γ.sc) (hk : Γ.sc.kind = .function) : env.blockKind = .function := by
  unfold PySem.Env.blockKind
  rw [hs, hk] <;> rfl
include hn hv inj in
mutual
theorem chkS_ok : ∀ (s : S) (Γ : Gm) (st : Stmt), GvOk G gv Γ → chkS s Γ st = true → OkS G cl ar vf gv lv s Γ st
  | .never, Γ, st, hg, h => ⟨_, fun X C => ps_never, ss_never⟩
  | .skip, Γ, st, hg, h => by
    cases st with
    | Pass p => exact ⟨_, fun X C => ps_pass, ss_skip⟩
    | _ => cases h
  | .seq a b, Γ, st, hg, h => by cases h
  | .par is es, Γ, st, hg, h => by
    cases st with
    | Assign tgs v pos =>
      match tgs, v, h with
      | [.Tuple ts kt pt], .Tuple vs k2 pt2, h =>
        rcases Bool.or_eq_true_iff.mp (show ((parNames Γ is ts && (decide (vs.length = is.length) && (!vs.all (foldedForSure 8) && (!vs.all (constantsAlone 8) && chkL es Γ vs)))) || (namesB Γ is ts && (ts.any (cellT Γ) && (decide (vs.length = is.length) && (decide (is.length ≤ 1000) && chkL es Γ vs))))) = true from h) with h | h
        case inr =>
          obtain ⟨h1, h2⟩ := ba2 h
          obtain ⟨h2, h3⟩ := ba2 h2
          obtain ⟨h3, h4⟩ := ba2 h3
          obtain ⟨h4, h5⟩ := ba2 h4
          obtain ⟨t, p1, q1⟩ := chkM_ok hn hv inj es Γ vs hg h5
          refine ⟨_, fun X C => ?_, ss_parN (is := is) (of_decide_eq_true h4) q1⟩
          obtain ⟨g1, g2, g3⟩ := namesB_ok C h1
          have pt := pg_tup (k := kt) (pos := pt) C.calm g1 asgLen g2
          rw [g3, C.K] at pt
          exact ps_asg (pe_tup (p1 X C)) pt (noswap_ok C.sc (Γ := Γ) (show noswap Γ (.Tuple vs k2 pt2) (.Tuple ts kt _) = true from rfl)) (cell_swst C.sc h2) rfl
        obtain ⟨h1, h2⟩ := ba2 (show (parNames Γ is ts && (decide (vs.length = is.length) && (!vs.all (foldedForSure 8) && (!vs.all (constantsAlone 8) && chkL es Γ vs)))) = true from h)
        obtain ⟨h2, h3⟩ := ba2 h2
        obtain ⟨h3, h4⟩ := ba2 h3
        obtain ⟨h4, h5⟩ := ba2 h4
        have hlen := of_decide_eq_true h2
        have f1 : vs.all (foldedForSure 8) = false := by simpa using h3
        have f2 : vs.all (constantsAlone 8) = false := by simpa using h4
        have hn2 := chkL_n es Γ vs h5
        obtain ⟨t, p1, q1⟩ := chkM_ok hn hv inj es Γ vs hg h5
        match is, ts, h1, hlen with
        | [i, j], [.Name x px, .Name y py], h1, hlen =>
          obtain ⟨a1, h1⟩ := ba2 (show (decide (Γ.N[i]? = some x) && (decide (Γ.N[j]? = some y) && (lclB Γ.sc x && (lclB Γ.sc y && (!(x == y) && (py.line == px.line && decide (i ≠ j))))))) = true from h1)
          obtain ⟨a2, h1⟩ := ba2 h1
          obtain ⟨a3, h1⟩ := ba2 h1
          obtain ⟨a4, h1⟩ := ba2 h1
          obtain ⟨a5, h1⟩ := ba2 h1
          obtain ⟨a6, a7⟩ := ba2 h1
          refine ⟨tPar i j t, fun X C => ?_, ss_par q1⟩
          have lx := lcl_ok C.sc a3
          have ly := lcl_ok C.sc a4
          have pa := p1 X C
          clear p1 h5 h
          match vs, hlen, pa, f1, f2, hn2 with
          | [a, b], hlen, pa, f1, f2, hn2 =>
            exact ps_par C.calm C.nd (by rw [C.N]; exact of_decide_eq_true a1) (by rw [C.N]; exact of_decide_eq_true a2) (of_decide_eq_true a7) lx ly pa (sw_two (blockF C.sc C.kind) lx ly (by simpa using a5) a6 rfl hn2 f1 f2) rfl
        | [i, j, k], [.Name x px, .Name y py, .Name z pz], h1, hlen =>
          obtain ⟨a1, h1⟩ := ba2 (show (decide (Γ.N[i]? = some x) && (decide (Γ.N[j]? = some y) && (decide (Γ.N[k]? = some z) && (lclB Γ.sc x && (lclB Γ.sc y && (lclB Γ.sc z && (!(x == y) && (!(x == z) && (!(y == z) && (py.line == px.line && (pz.line == px.line && (decide (i ≠ j) && (decide (i ≠ k) && decide (j ≠ k)))))))))))))) = true from h1)
          obtain ⟨a2, h1⟩ := ba2 h1
          obtain ⟨a3, h1⟩ := ba2 h1
          obtain ⟨b1, h1⟩ := ba2 h1
          obtain ⟨b2, h1⟩ := ba2 h1
          obtain ⟨b3, h1⟩ := ba2 h1
          obtain ⟨c1, h1⟩ := ba2 h1
          obtain ⟨c2, h1⟩ := ba2 h1
          obtain ⟨c3, h1⟩ := ba2 h1
          obtain ⟨l1, h1⟩ := ba2 h1
          obtain ⟨l2, h1⟩ := ba2 h1
          obtain ⟨n1, h1⟩ := ba2 h1
          obtain ⟨n2, n3⟩ := ba2 h1
          refine ⟨tPar3 i j k t, fun X C => ?_, ss_par3 q1⟩
          have lx := lcl_ok C.sc b1
          have ly := lcl_ok C.sc b2
          have lz := lcl_ok C.sc b3
          have pa := p1 X C
          clear p1 h5 h
          match vs, hlen, pa, f1, f2, hn2 with
          | [a, b, c], hlen, pa, f1, f2, hn2 =>
            exact ps_par3 C.calm C.nd (by rw [C.N]; exact of_decide_eq_true a1) (by rw [C.N]; exact of_decide_eq_true a2) (by rw [C.N]; exact of_decide_eq_true a3) (of_decide_eq_true n1) (of_decide_eq_true n2) (of_decide_eq_true n3) lx ly lz pa (sw_three (blockF C.sc C.kind) lx ly lz (by simpa using c1) (by simpa using c2) (by simpa using c3) l1 l2 rfl hn2 f1 f2) rfl
    | _ => cases h
  | .ext i e, Γ, st, hg, h => by
    cases st with
    | Expr v sp =>
      cases v with
      | Call fe args kws cp =>
        cases fe with
        | Attribute o a ap =>
          cases o with
          | Name x p =>
            match args, kws, h with
            | [v], [], h =>
              obtain ⟨h1, h2⟩ := ba2 (show (varB Γ i x && (decide (a = "extend") && (decide (ap.endLine = cp.line) && (nst v && chkE e Γ v)))) = true from h)
              obtain ⟨h2, h3⟩ := ba2 h2
              have ea := of_decide_eq_true h2
              subst ea
              obtain ⟨h3, h4⟩ := ba2 h3
              obtain ⟨h4, h5⟩ := ba2 h4
              obtain ⟨te, p1, q1⟩ := chkE_ok hn hv inj e Γ v hg h5
              refine ⟨_, fun X C => ?_, ss_ext q1⟩
              exact ps_expr (C.K ▸ pe_bm PySem.F.plainAttrs_list PySem.F.slot_list_extend PySem.F.type_list_extend mt_extend (C.var h1).2.2.2.2 (pa_cons (p1 X C) pa_nil (star1 h4)) rfl (by rw [star1 h4]; rfl) (by rw [of_decide_eq_true h3]; exact beq_self_eq_true _) (star1 h4) (starA (es := []) rfl))
          | _ => cases h
        | _ => cases h
      | _ => cases h
    | _ => cases h
  | .fst i x e, Γ, st, hg, h => by
    cases st with
    | Assign tgs v pos =>
      match tgs, h with
      | [.Attribute (.Name y py) f pf], h =>
        obtain ⟨h1, h2⟩ := ba2 (show (varB Γ i y && (decide (f = x) && chkE e Γ v)) = true from h)
        obtain ⟨h2, h3⟩ := ba2 h2
        have ef := of_decide_eq_true h2
        subst ef
        obtain ⟨te, p1, q1⟩ := chkE_ok hn hv inj e Γ v hg h3
        exact ⟨_, fun X C => C.K ▸ ps_fld (C.var h1).2.2.2.2 (p1 X C) (by cases v <;> rfl), ss_fst q1⟩
    | _ => cases h
  | .dst i a b e, Γ, st, hg, h => by
    cases st with
    | Assign tgs v pos =>
      match tgs, h with
      | [.Subscript (.Name x px) (.Tuple [f, g] kt pt) ps], h =>
        obtain ⟨h1, h2⟩ := ba2 (show (varB Γ i x && (nst f && (nst g && (ncmp v && (chkE e Γ v && (chkE a Γ f && chkE b Γ g)))))) = true from h)
        obtain ⟨h2, h3⟩ := ba2 h2
        obtain ⟨h3, h4⟩ := ba2 h3
        obtain ⟨h4, h5⟩ := ba2 h4
        obtain ⟨h5, h6⟩ := ba2 h5
        obtain ⟨h6, h7⟩ := ba2 h6
        obtain ⟨te, p1, q1⟩ := chkE_ok hn hv inj e Γ v hg h5
        obtain ⟨ta, p2, q2⟩ := chkE_ok hn hv inj a Γ f hg h6
        obtain ⟨tb, p3, q3⟩ := chkE_ok hn hv inj b Γ g hg h7
        exact ⟨_, fun X C => ps_dput (by have := C.un; omega) (C.var h1).2.2.2.2 (pe_tup (pa_cons (p2 X C) (pa_cons (p3 X C) pa_nil (star1 h3)) (star1 h2))) (p1 X C) (sw_none h4), ss_dst q2 q3 q1⟩
    | _ => cases h
  | .asg t e, Γ, st, hg, h => by
    cases st with
    | Assign tgs v pos =>
      match tgs, h with
      | [tg], h =>
        obtain ⟨h1, h2⟩ := ba2 (show ((noswap Γ v tg || swapB Γ v tg) && ((ntup tg || ntup v || subT tg) && (chkE e Γ v && chkG t Γ tg))) = true from h)
        obtain ⟨h2, hw⟩ := ba2 h2
        obtain ⟨hx, h4⟩ := ba2 hw
        clear hw
        by_cases hs : noswap Γ v tg = true
        · obtain ⟨te, p1, q1⟩ := chkE_ok hn hv inj e Γ v hg hx
          obtain ⟨g, p2, q2⟩ := chkG_ok hn hv inj t Γ tg hg h4
          exact ⟨_, fun X C => ps_asg (p1 X C) (p2 X C) (noswap_ok C.sc hs) (swst_none h2) (by rw [asg1 (chkG_nst h4)]; rfl), ss_asg q1 q2⟩
        · have hb := (Bool.or_eq_true_iff.mp h1).resolve_left hs
          cases v with
          | ListComp elt gens scope p =>
            cases tg with
            | Name x px => exact setLc_ok hn hv inj hg hx hb h4
            | _ => cases hb
          | _ => cases hb
    | _ => cases h
  | .ex e, Γ, st, hg, h => by
    cases st with
    | Expr v p =>
      obtain ⟨h1, h2⟩ := ba2 (show (ncmp v && chkE e Γ v) = true from h)
      obtain ⟨te, p1, q1⟩ := chkE_ok hn hv inj e Γ v hg h2
      exact ⟨_, fun X C => ps_expr (p1 X C) (sw_none h1), ss_ex q1⟩
    | _ => cases h
  | .ret e, Γ, st, hg, h => by
    cases st with
    | Return v p =>
      cases v with
      | none => cases h
      | some v =>
        obtain ⟨te, p1, q1⟩ := chkE_ok hn hv inj e Γ v hg h
        exact ⟨_, fun X C => ps_ret (p1 X C), ss_ret q1⟩
    | _ => cases h
  | .retn, Γ, st, hg, h => by
    cases st with
    | Return v p =>
      cases v with
      | some v => cases h
      | none => exact ⟨_, fun X C => ps_retN, ss_retn⟩
    | _ => cases h
  | .ite c a b, Γ, st, hg, h => by
    cases st with
    | If t x y p =>
      obtain ⟨h1, h2⟩ := ba2 (show (chkT c Γ t && (chkSs a Γ x && chkSs b Γ y)) = true from h)
      obtain ⟨h2, h3⟩ := ba2 h2
      obtain ⟨t1, p1, q1⟩ := chkT_ok hn hv inj c Γ t hg h1
      obtain ⟨t2, p2, q2⟩ := chkSs_ok a Γ x hg h2
      obtain ⟨t3, p3, q3⟩ := chkSs_ok b Γ y hg h3
      exact ⟨_, fun X C => ps_if (p1 X C) (p2 X C) (p3 X C), ss_ite q1 q2 q3⟩
    | _ => cases h
  | .for_ t it b, Γ, st, hg, h => by
    cases st with
    | For tg iter body orelse p =>
      cases orelse with
      | cons _ _ => cases h
      | nil =>
        obtain ⟨h1, h2⟩ := ba2 (show (nset iter && (chkI it Γ tg iter && (chkG t Γ tg && chkSs b Γ body))) = true from h)
        obtain ⟨h2, h3⟩ := ba2 h2
        obtain ⟨h3, h4⟩ := ba2 h3
        obtain ⟨wi, p1, q1⟩ := chkI_ok hn hv inj it Γ tg iter hg h2
        obtain ⟨g, p2, q2⟩ := chkG_ok hn hv inj t Γ tg hg h3
        obtain ⟨tb, p3, q3⟩ := chkSs_ok b Γ body hg h4
        exact ⟨_, fun X C => ps_for (by rw [C.xe]; exact PySem.PassesOwn.never) C.calm (p1 X C) (p2 X C) (p3 X C) (nset_fold h1), ss_for q1 q2 q3⟩
    | _ => cases h
  | .whl c b, Γ, st, hg, h => by
    cases st with
    | While t body orelse p =>
      cases orelse with
      | cons _ _ => cases h
      | nil =>
        obtain ⟨h1, h2⟩ := ba2 (show (chkT c Γ t && chkSs b Γ body) = true from h)
        obtain ⟨tc, p1, q1⟩ := chkT_ok hn hv inj c Γ t hg h1
        obtain ⟨tb, p3, q3⟩ := chkSs_ok b Γ body hg h2
        exact ⟨_, fun X C => ps_while (by rw [C.xe]; exact PySem.PassesOwn.never) (p1 X C) (p3 X C), ss_whl wFuel q1 q3⟩
    | _ => cases h
  | .app i e, Γ, st, hg, h => by
    cases st with
    | Expr v sp =>
      cases v with
      | Call fe args kws cp =>
        cases fe with
        | Attribute o a ap =>
          cases o with
          | Name x p =>
            match args, kws, h with
            | [v], [], h =>
              obtain ⟨h1, h2⟩ := ba2 (show (varB Γ i x && (decide (a = "append") && (decide (ap.endLine = cp.line) && (nst v && chkE e Γ v)))) = true from h)
              obtain ⟨h2, h3⟩ := ba2 h2
              have ea := of_decide_eq_true h2
              subst ea
              obtain ⟨h3, h4⟩ := ba2 h3
              obtain ⟨h4, h5⟩ := ba2 h4
              obtain ⟨te, p1, q1⟩ := chkE_ok hn hv inj e Γ v hg h5
              refine ⟨_, fun X C => ?_, ss_app q1⟩
              exact ps_expr (C.K ▸ pe_bm PySem.F.plainAttrs_list PySem.F.slot_list_append PySem.F.type_list_append mt_append (C.var h1).2.2.2.2 (pa_cons (p1 X C) pa_nil (star1 h4)) rfl (by rw [star1 h4]; rfl) (by rw [of_decide_eq_true h3]; exact beq_self_eq_true _) (star1 h4) (starA (es := []) rfl))
          | _ => cases h
        | _ => cases h
      | _ => cases h
    | _ => cases h
theorem chkSs_ok : ∀ (s : S) (Γ : Gm) (st : List Stmt), GvOk G gv Γ → chkSs s Γ st = true → OkSs G cl ar vf gv lv s Γ st
  | .never, Γ, st, hg, h => ⟨_, fun X C => pss_never, ss_never⟩
  | .skip, Γ, st, hg, h => by
    cases st with
    | nil => exact ⟨_, fun X C => pss_nil, ss_skip⟩
    | _ => cases h
  | .seq a b, Γ, st, hg, h => by
    cases st with
    | nil => cases h
    | cons x r =>
      obtain ⟨h1, h2⟩ := ba2 (show (chkS a Γ x && chkSs b Γ r) = true from h)
      obtain ⟨t, p1, q1⟩ := chkS_ok a Γ x hg h1
      obtain ⟨u, p2, q2⟩ := chkSs_ok b Γ r hg h2
      exact ⟨_, fun X C => pss_cons (p1 X C) (p2 X C), ss_seq q1 q2⟩
  | .asg _ _, Γ, st, hg, h => by cases st <;> cases h
  | .par _ _, Γ, st, hg, h => by cases st <;> cases h
  | .ex _, Γ, st, hg, h => by cases st <;> cases h
  | .ret _, Γ, st, hg, h => by cases st <;> cases h
  | .retn, Γ, st, hg, h => by cases st <;> cases h
  | .ite _ _ _, Γ, st, hg, h => by cases st <;> cases h
  | .for_ _ _ _, Γ, st, hg, h => by cases st <;> cases h
  | .whl _ _, Γ, st, hg, h => by cases st <;> cases h
  | .app _ _, Γ, st, hg, h => by cases st <;> cases h
  | .ext _ _, Γ, st, hg, h => by cases st <;> cases h
  | .fst _ _ _, Γ, st, hg, h => by cases st <;> cases h
  | .dst _ _ _ _, Γ, st, hg, h => by cases st <;> cases h
end
end
end Mp

set_option maxRecDepth 100000
set_option maxHeartbeats 4000000
/-! Mp18: a def keeps the evaluator's promise. -/
namespace Mp
open PySem PySem.Spec PyProof.Rows L2
/-- the addresses that the def may change, with their places -/
inductive IosR : Nat → List Bool → List V → List (Nat × Addr) → Prop
  | nil {n : Nat} : IosR n [] [] []
  | v {n : Nat} {v : V} {fl : List Bool} {vs : List V} {l : List (Nat × Addr)} : IosR (n + 1) fl vs l → IosR n (false :: fl) (v :: vs) l
  | io {n : Nat} {p : Addr} {fl : List Bool} {vs : List V} {l : List (Nat × Addr)} : IosR (n + 1) fl vs l → IosR n (true :: fl) (.ref p :: vs) ((n, p) :: l)
section
variable {G : GD} {M : AS} {H : Hp}
theorem InR.ios : ∀ {fl : List Bool} {vs : List V} {ds : List D} {io : List Addr} (n : Nat), InR G M H fl vs ds io → ∃ l, IosR n fl vs l ∧ l.map (·.2) = io
  | _, _, _, _, n, .nil => ⟨[], .nil, rfl⟩
  | _, _, _, _, n, .v _ r => by
    obtain ⟨l, h1, h2⟩ := r.ios (n + 1)
    exact ⟨l, .v h1, h2⟩
  | _, _, _, _, n, .io _ r => by
    obtain ⟨l, h1, h2⟩ := r.ios (n + 1)
    exact ⟨_, .io h1, by rw [List.map_cons, h2]⟩
/-- the slots at the entry -/
theorem InR.at_ : ∀ {fl : List Bool} {vs : List V} {ds : List D} {io : List Addr} {n : Nat} {l : List (Nat × Addr)}, InR G M H fl vs ds io → IosR n fl vs l → ∀ (i : Nat) (s : Slot), (initS fl ds)[i]? = some s →
    (∃ v d, s = .val d ∧ vs[i]? = some v ∧ Dt G (Hr H M) v d) ∨ ∃ p d, s = .io d ∧ vs[i]? = some (.ref p) ∧ OwnC G M H p d ∧ (n + i, p) ∈ l
  | _, _, _, _, _, _, .nil, .nil, i, s, e => by simp [initS] at e
  | _, _, _, _, n, _, @InR.v _ _ _ w0 d _ _ _ _ h r, .v q, i, s, e => by
    cases i with
    | zero =>
      have e' : some (Slot.val d) = some s := by simpa [initS] using e
      cases e'
      exact .inl ⟨w0, d, rfl, rfl, h⟩
    | succ i =>
      rcases r.at_ q i s (by simpa [initS] using e) with z | ⟨p, d, z1, z2, z3, z4⟩
      · exact .inl (by simpa using z)
      · exact .inr ⟨p, d, z1, by simpa using z2, z3, by rw [show n + (i + 1) = n + 1 + i by omega]; exact z4⟩
  | _, _, _, _, n, _, @InR.io _ _ _ p d _ _ _ _ h r, .io q, i, s, e => by
    cases i with
    | zero =>
      have e' : some (Slot.io d) = some s := by simpa [initS] using e
      cases e'
      exact .inr ⟨p, d, rfl, rfl, h, List.mem_cons_self⟩
    | succ i =>
      rcases r.at_ q i s (by simpa [initS] using e) with z | ⟨p, d, z1, z2, z3, z4⟩
      · exact .inl (by simpa using z)
      · exact .inr ⟨p, d, z1, by simpa using z2, z3, by rw [show n + (i + 1) = n + 1 + i by omega]; exact List.mem_cons_of_mem _ z4⟩
theorem IosR.at_ : ∀ {fl : List Bool} {vs : List V} {ds : List D} {n : Nat} {l : List (Nat × Addr)}, IosR n fl vs l → vs.length = ds.length → ∀ q ∈ l, n ≤ q.1 ∧ vs[q.1 - n]? = some (.ref q.2) ∧ ∃ d, (initS fl ds)[q.1 - n]? = some (.io d)
  | _, _, ds, n, _, .nil, _, q, h => by cases h
  | _, _, [], n, _, .v r, hl, q, h => by simp at hl
  | _, _, [], n, _, .io r, hl, q, h => by simp at hl
  | _, _, d :: ds, n, _, .v r, hl, q, h => by
    obtain ⟨h1, h2, d', h3⟩ := r.at_ (ds := ds) (by simpa using hl) q h
    refine ⟨by omega, ?_, d', ?_⟩
    · rw [show q.1 - n = (q.1 - (n + 1)) + 1 by omega]; simpa using h2
    · rw [show q.1 - n = (q.1 - (n + 1)) + 1 by omega]; simpa [initS] using h3
  | _, _, d :: ds, n, _, .io r, hl, q, h => by
    rcases List.mem_cons.mp h with rfl | h
    · exact ⟨Nat.le_refl _, by simp, d, by simp [initS]⟩
    · obtain ⟨h1, h2, d', h3⟩ := r.at_ (ds := ds) (by simpa using hl) q h
      refine ⟨by omega, ?_, d', ?_⟩
      · rw [show q.1 - n = (q.1 - (n + 1)) + 1 by omega]; simpa using h2
      · rw [show q.1 - n = (q.1 - (n + 1)) + 1 by omega]; simpa [initS] using h3
theorem initS_len : ∀ {fl : List Bool} {ds : List D}, fl.length = ds.length → (initS fl ds).length = ds.length
  | [], [], _ => rfl
  | [], _ :: _, h => by simp at h
  | _ :: _, [], h => by simp at h
  | true :: fl, d :: ds, h => by
    show (initS fl ds).length + 1 = _
    rw [initS_len (by simpa using h)] <;> rfl
  | false :: fl, d :: ds, h => by
    show (initS fl ds).length + 1 = _
    rw [initS_len (by simpa using h)] <;> rfl
theorem IosR.ge : ∀ {n : Nat} {fl : List Bool} {vs : List V} {l : List (Nat × Addr)}, IosR n fl vs l → ∀ q ∈ l, n ≤ q.1
  | _, _, _, _, .nil, q, h => by cases h
  | _, _, _, _, .v r, q, h => by have := IosR.ge r q h; omega
  | _, _, _, _, .io r, q, h => by
    rcases List.mem_cons.mp h with rfl | h
    · exact Nat.le_refl _
    · have := IosR.ge r q h; omega
/-- what the changed arguments hold at the end -/
theorem outs_ok {M : AS} {H' : Hp} : ∀ {fl : List Bool} {ρ : Env} {n : Nat} {vs : List V} {l : List (Nat × Addr)} {outs : List D}, IosR n fl vs l → outsOf fl ρ = some outs → (∀ q ∈ l, ∀ d, ρ[q.1 - n]? = some (.io d) → OwnC G M H' q.2 d) → OutL G M H' (l.map (·.2)) outs
  | _, ρ, n, _, _, outs, .nil, e, k => by cases e; exact .nil
  | _, [], n, _, _, outs, .v r, e, k => by cases e
  | _, s :: ρ, n, _, _, outs, .v (fl := fl) r, e, k => by
    have e' : outsOf fl ρ = some outs := e
    exact outs_ok r e' fun q hq d h => by
      have hn := r.ge q hq
      exact k q hq d (by rw [show q.1 - n = (q.1 - (n + 1)) + 1 by omega]; simpa using h)
  | _, [], n, _, _, outs, .io r, e, k => by cases e
  | _, s :: ρ, n, _, _, outs, .io (p := p) (fl := fl) r, e, k => by
    cases s with
    | io d =>
      have e' : (outsOf fl ρ).map (d :: ·) = some outs := e
      cases e2 : outsOf fl ρ with
      | none => rw [e2] at e'; cases e'
      | some os =>
        rw [e2] at e'
        cases e'
        refine .cons (k (n, p) List.mem_cons_self d (by simp)) (outs_ok r e2 fun q hq d h => ?_)
        have hn := r.ge q hq
        exact k q (List.mem_cons_of_mem _ hq) d (by rw [show q.1 - n = (q.1 - (n + 1)) + 1 by omega]; simpa using h)
    | _ => cases e
/-- the state at the entry -/
theorem entry_sr {fl : List Bool} {vs : List V} {ds : List D} {io : List Addr} {Z : AS} {l : List (Nat × Addr)} {N : List Str} (hin : InR G (orL Z io) H fl vs ds io) (hl : IosR 0 fl vs l) (hio : l.map (·.2) = io) (nd : io.Nodup) (hz : ∀ a ∈ io, ¬ Z a) (hd : ∀ a, Z a → H a ≠ none) (hfl : fl.length = ds.length) (hN : vs.length ≤ N.length) :
    SR G ⟨H, l⟩ Z (initS fl ds ++ List.replicate (N.length - ds.length) .un) (start N vs) H := by
  have hlen : vs.length = ds.length := hin.length
  have hil : (initS fl ds).length = ds.length := initS_len hfl
  have sv : ∀ i : Nat, i < vs.length → (start N vs)[i]? = (vs[i]?).map some := fun i hi => by
    unfold L2.start
    rw [List.getElem?_append_left (by simpa using hi), List.getElem?_map]
  have si : ∀ (i : Nat) (s : Slot), (initS fl ds ++ List.replicate (N.length - ds.length) Slot.un)[i]? = some s → s = .un ∨ ((initS fl ds)[i]? = some s ∧ i < vs.length) := fun i s e => by
    by_cases hi : i < (initS fl ds).length
    · rw [List.getElem?_append_left hi] at e
      exact .inr ⟨e, by omega⟩
    · rw [List.getElem?_append_right (by omega), List.getElem?_replicate] at e
      split at e
      · cases e; exact .inl rfl
      · cases e
  have own : ∀ (i : Nat) (p : Addr), OwnAt (initS fl ds ++ List.replicate (N.length - ds.length) Slot.un) (start N vs) i p → (i, p) ∈ l ∧ OwnC G (orL Z io) H p (match (initS fl ds)[i]? with | some (.io d) => d | _ => .non) := fun i p ⟨⟨d, h⟩, hs⟩ => by
    have key : ∀ s, (initS fl ds ++ List.replicate (N.length - ds.length) Slot.un)[i]? = some s → (s = .own d ∨ s = .io d) → (i, p) ∈ l ∧ OwnC G (orL Z io) H p (match (initS fl ds)[i]? with | some (.io d) => d | _ => .non) := fun s e hs2 => by
      rcases si i s e with z | ⟨z, hi⟩
      · rw [z] at hs2; rcases hs2 with h | h <;> cases h
      · rcases hin.at_ hl i s z with ⟨v, d', e1, _⟩ | ⟨q, d', e1, e2, e3, e4⟩
        · rw [e1] at hs2; rcases hs2 with h | h <;> cases h
        · have hq : q = p := by
            rw [sv i hi, e2] at hs
            cases hs; rfl
          subst hq
          rw [Nat.zero_add] at e4
          refine ⟨e4, ?_⟩
          rw [z, e1]
          exact e3
    rcases h with h | h
    · exact key _ h (.inl rfl)
    · exact key _ h (.inr rfl)
  have mem : ∀ a, a ∈ io → ∃ i, OwnAt (initS fl ds ++ List.replicate (N.length - ds.length) Slot.un) (start N vs) i a := fun a ha => by
    rw [← hio] at ha
    obtain ⟨q, hq, e⟩ := List.mem_map.mp ha
    obtain ⟨_, h2, d, h3⟩ := hl.at_ hlen q hq
    rw [Nat.sub_zero] at h2 h3
    have hi : q.1 < (initS fl ds).length := (List.getElem?_eq_some_iff.mp h3).1
    refine ⟨q.1, ⟨d, .inr ?_⟩, ?_⟩
    · rw [List.getElem?_append_left hi]; exact h3
    · rw [sv q.1 (by omega), h2, ← e] <;> rfl
  have eM : Mm Z (initS fl ds ++ List.replicate (N.length - ds.length) Slot.un) (start N vs) = orL Z io := by
    funext a
    refine propext ⟨fun z => z.imp id fun ⟨i, z⟩ => ?_, fun z => z.imp id (mem a)⟩
    rw [← hio]
    exact List.mem_map_of_mem (f := (·.2)) (own i a z).1
  refine ⟨?_, fun i j p a b => ?_, fun i p a z => ?_, fun i s e => ?_, fun a o _ e => e, fun i p a => .inl ⟨i, (own i p a).1⟩, hd, fun i p h => ?_⟩
  · unfold L2.start
    rw [List.length_append, List.length_append, hil, List.length_replicate, List.length_map, List.length_replicate, hlen]
  · have h1 := (own i p a).1
    have h2 := (own j p b).1
    -- io's addresses are apart
    obtain ⟨n1, e1⟩ := List.mem_iff_getElem?.mp h1
    obtain ⟨n2, e2⟩ := List.mem_iff_getElem?.mp h2
    have f1 : io[n1]? = some p := by rw [← hio, List.getElem?_map, e1] <;> rfl
    have f2 : io[n2]? = some p := by rw [← hio, List.getElem?_map, e2] <;> rfl
    have hn1 : n1 < io.length := (List.getElem?_eq_some_iff.mp f1).1
    have : n1 = n2 := (List.getElem?_inj hn1 nd).mp (f1.trans f2.symm)
    subst this
    rw [e1] at e2
    cases e2
    rfl
  · refine hz p ?_ z
    rw [← hio]
    exact List.mem_map_of_mem (f := (·.2)) (own i p a).1
  · rw [eM]
    rcases si i s e with rfl | ⟨z, hi⟩
    · trivial
    · rcases hin.at_ hl i s z with ⟨v, d, rfl, e2, e3⟩ | ⟨q, d, rfl, e2, e3, _⟩
      · exact ⟨v, by rw [sv i hi, e2] <;> rfl, e3⟩
      · exact ⟨q, by rw [sv i hi, e2] <;> rfl, e3⟩
  · obtain ⟨_, h2, d, h3⟩ := hl.at_ hlen (i, p) h
    rw [Nat.sub_zero] at h2 h3
    have hi : i < (initS fl ds).length := (List.getElem?_eq_some_iff.mp h3).1
    refine ⟨⟨d, ?_⟩, ?_⟩
    · rw [List.getElem?_append_left hi]; exact h3
    · rw [sv i (by omega), h2] <;> rfl
/-- the run's end -/
theorem exit_ok {l : List (Nat × Addr)} {io : List Addr} {Z F' : AS} {ρ' : Env} {σ' : L2.St} {H' : Hp} (hio : l.map (·.2) = io) (hz : ∀ a, Z a → F' a) (S : SR G ⟨H, l⟩ F' ρ' σ' H') : (∀ a o, a ∉ io → H a = some o → H' a = some o) ∧ ∀ a, orL Z io a → Mm F' ρ' σ' a := by
  refine ⟨fun a o n e => S.frame a o (fun ⟨i, z⟩ => n ?_) e, fun a z => ?_⟩
  · rw [← hio]
    exact List.mem_map_of_mem (f := (·.2)) z
  · rcases z with z | z
    · exact .inl (hz a z)
    · rw [← hio] at z
      obtain ⟨q, hq, e⟩ := List.mem_map.mp z
      obtain ⟨⟨d, h1⟩, h2⟩ := S.ios q.1 q.2 hq
      exact .inr ⟨q.1, ⟨d, .inr h1⟩, by rw [h2, ← e] <;> rfl⟩
end
end Mp

set_option maxRecDepth 100000
set_option maxHeartbeats 4000000
/-! Mp19: a table of defs, checked, keeps the evaluator's promises. -/
namespace Mp
open PySem PySem.Spec PyProof.Rows L2
def paramsB (a : Arguments) (ps : List Str) : Bool := match a with
  | ⟨[], as, none, [], [], none, []⟩ => decide (as.map (·.arg) = ps)
  | _ => false
def scopeB (N ps : List Str) (sc : Scope) : Bool := (match sc.kind with | .function => true | _ => false) && (!sc.isCoroutine && (!sc.isGenerator && (decide N.Nodup && (decide (N.take ps.length = ps) && (ps.all (locB sc) && (sc.names.all fun y => match y.2 with | .free => false | _ => true))))))
def chkDf (vals : List (Str × D)) (free : List Str) (pss : List (List Str)) (cs : List (List Str × Nat)) (es : List (Nat × Nat)) (df : Df) (d : He.DefD) : Bool :=
  chkSs df.body ⟨df.N, d.scope, d.scope, true, vals, free, pss, cs, es⟩ d.body && (scopeB df.N df.ps d.scope && (paramsB d.params df.ps && (decide (df.ios.length = df.ps.length) && (d.dfl.isEmpty && d.kwd.isEmpty))))
structure Tab where
  T : List Df
  DS : List He.DefD
  vals : List (Str × D)
  free : List Str
  cls : List (Str × List Str × Nat)
  eqs : List (Str × Nat × Nat)
def Tab.es (t : Tab) : List (Nat × Nat) := t.eqs.map fun q => q.2
def Tab.cs (t : Tab) : List (List Str × Nat) := t.cls.map fun q => (q.2.1, q.2.2)
def Tab.pss (t : Tab) : List (List Str) := t.T.map (·.ps)
def chkAll (vals : List (Str × D)) (free : List Str) (pss : List (List Str)) (cs : List (List Str × Nat)) (es : List (Nat × Nat)) : List Df → List He.DefD → Bool
  | [], [] => true
  | df :: r, d :: s => chkDf vals free pss cs es df d && chkAll vals free pss cs es r s
  | _, _ => false
def fnsB (DS : List He.DefD) (cl : List (Str × List Str × Nat)) (p : Str × D) : Bool := match p.2 with
  | .cls c => (match cl[c]? with
    | some q => decide (q.1 = p.1)
    | none => false)
  | .fn f => (match DS[f]? with
    | some d => decide (d.at_ = (p.1, none))
    | none => false)
  | _ => true
def initB (DS : List He.DefD) (q : Str × List Str × Nat) : Bool := match DS[q.2.2]? with
  | some d => decide (d.at_ = (q.1, some ("__init__" : Str)))
  | none => false
def eqB (DS : List He.DefD) (cl : List (Str × List Str × Nat)) (q : Str × Nat × Nat) : Bool := (match DS[q.2.2]? with
  | some d => decide (d.at_ = (q.1, some ("__eq__" : Str)))
  | none => false) && (match cl[q.2.1]? with
  | some r => decide (r.1 = q.1)
  | none => false)
def Tab.ok (t : Tab) : Bool := chkAll t.vals t.free t.pss t.cs t.es t.T t.DS && (t.vals.all (fnsB t.DS t.cls) && (t.cls.all (initB t.DS) && t.eqs.all (eqB t.DS t.cls)))
theorem chkAll_at {vals : List (Str × D)} {free : List Str} {pss : List (List Str)} {cs : List (List Str × Nat)} {es : List (Nat × Nat)} : ∀ {T : List Df} {DS : List He.DefD}, chkAll vals free pss cs es T DS = true → T.length = DS.length ∧ ∀ (f : Nat) (df : Df) (d : He.DefD), T[f]? = some df → DS[f]? = some d → chkDf vals free pss cs es df d = true
  | [], [], _ => ⟨rfl, fun f df d h => by simp at h⟩
  | [], _ :: _, h => by cases h
  | _ :: _, [], h => by cases h
  | df :: r, d :: s, h => by
    obtain ⟨h1, h2⟩ := ba2 (show (chkDf vals free pss cs es df d && chkAll vals free pss cs es r s) = true from h)
    obtain ⟨h3, h4⟩ := chkAll_at h2
    refine ⟨by simp [h3], fun f df' d' e1 e2 => ?_⟩
    cases f with
    | zero =>
      simp at e1 e2
      subst e1 e2
      exact h1
    | succ f => exact h4 f df' d' (by simpa using e1) (by simpa using e2)
/-! ### values of the module's names -/
def vOf : Value → V
  | .none => .non
  | .bool b => .bl b
  | .int i _ => .int i
  | .str s _ => .str s
  | .ref a => .ref a
  | _ => .non
mutual
def kD (K : PySem.W.Frag) : D → Value → Bool
  | .non, .none => true
  | .bl a, .bool b => a == b
  | .int i, .int j _ => decide (i = j)
  | .str a, .str b _ => decide (a = b)
  | .tup ds, .ref a => (match K.lookup a with
    | some ⟨.type c, _, .seq its _, _⟩ => decide (c = "tuple") && (decide (its.size ≤ sizeLine) && kDs K ds its.toList)
    | _ => false)
  | _, _ => false
def kDs (K : PySem.W.Frag) : List D → List Value → Bool
  | [], [] => true
  | d :: ds, u :: us => kD K d u && kDs K ds us
  | _, _ => false
end
mutual
theorem kD_ok {G : GD} {H : Hp} : ∀ {d : D} {u : Value}, kD G.K d u = true → RelV (vOf u) u ∧ Dt G H (vOf u) d
  | .non, u, h => by cases u with
    | none => exact ⟨rfl, .non⟩
    | _ => cases h
  | .bl a, u, h => by cases u with
    | bool b =>
      have e : a = b := eq_of_beq (show (a == b) = true from h)
      subst e
      exact ⟨rfl, .bl a⟩
    | _ => cases h
  | .int i, u, h => by cases u with
    | int j t =>
      have e := of_decide_eq_true h
      subst e
      exact ⟨⟨t, rfl⟩, .int i⟩
    | _ => cases h
  | .str a, u, h => by cases u with
    | str b t =>
      have e := of_decide_eq_true h
      subst e
      exact ⟨⟨t, rfl⟩, .str a⟩
    | _ => cases h
  | .tup ds, u, h => by cases u with
    | ref a =>
      have h' : (match G.K.lookup a with
        | some ⟨.type c, _, .seq its _, _⟩ => decide (c = "tuple") && (decide (its.size ≤ sizeLine) && kDs G.K ds its.toList)
        | _ => false) = true := h
      cases q : G.K.lookup a with
      | none => rw [q] at h'; cases h'
      | some o =>
        obtain ⟨oc, od, dt, osl⟩ := o
        rw [q] at h'
        cases oc with
        | type c =>
          cases dt with
          | seq its n =>
            obtain ⟨h1, h2⟩ := ba2 (show (decide (c = "tuple") && (decide (its.size ≤ sizeLine) && kDs G.K ds its.toList)) = true from h')
            obtain ⟨h3, h4⟩ := ba2 h2
            obtain ⟨r1, r2⟩ := kDs_ok (G := G) (H := H) h4
            exact ⟨rfl, .tup (.inr ⟨_, its, n, q, congrArg Value.type (of_decide_eq_true h1), rfl, of_decide_eq_true h3, r1⟩) r2⟩
          | _ => cases h'
        | _ => cases dt <;> cases h'
    | _ => cases h
theorem kDs_ok {G : GD} {H : Hp} : ∀ {ds : List D} {us : List Value}, kDs G.K ds us = true → Vals (us.map vOf) us ∧ DtA G H (us.map vOf) ds
  | [], [], _ => ⟨.nil, .nil⟩
  | [], _ :: _, h => by cases h
  | _ :: _, [], h => by cases h
  | d :: ds, u :: us, h => by
    obtain ⟨h1, h2⟩ := ba2 (show (kD G.K d u && kDs G.K ds us) = true from h)
    obtain ⟨r1, r2⟩ := kD_ok (G := G) (H := H) h1
    obtain ⟨r3, r4⟩ := kDs_ok (G := G) (H := H) h2
    exact ⟨.cons r1 r3, .cons r2 r4⟩
end
def valF (K : PySem.W.Frag) (p : Str × D) : Bool := match p.2 with
  | .fn _ => He.eqO (PySem.W.nsIn K mainGlobals p.1) (some (some (.ref (He.ga K p.1))))
  | .cls _ => He.eqO (PySem.W.nsIn K mainGlobals p.1) (some (some (.ref (He.ga K p.1))))
  | d => (match PySem.W.nsIn K mainGlobals p.1 with
    | some (some u) => kD K d u
    | _ => false)
def freeF (K : PySem.W.Frag) (x : Str) : Bool := He.eqO (PySem.W.nsIn K mainGlobals x) (some none)
/-- an own class: what its instances ask -/
def clsF (K : PySem.W.Frag) (q : Str × List Str × Nat) : Bool := (He.Fa.cls q.1).ok K && (He.eqO (PySem.W.findIn K (.ref (He.ga K q.1)) "__class__") (some (some (.builtin "object.__class__"))) && (He.eqO (PySem.W.specialIn K (.builtin "object.__class__") "__get__") (some (some (.builtin "getset_descriptor.__get__"))) &&
  (decide (PySem.W.takesIn K (.builtin "object.__class__") = some true) && (decide (PySem.W.mroIn K (He.ga K q.1) (.type "object") = some true) && (decide (PySem.W.kitOne K (.ref (He.ga K q.1)) (.ref (He.ga K q.1)) = some true) &&
  ((q.2.1.all fun x => (He.Fa.noat q.1 x).ok K) && ((He.Fa.mkr q.1).ok K && ((List.range 6).all fun i => decide (PySem.W.kitOne K (.type (dTyN i)) (.ref (He.ga K q.1)) = some false)))))))))
def eqF (K : PySem.W.Frag) (q : Str × Nat × Nat) : Bool := He.eqO (PySem.W.findIn K (.ref (He.ga K q.1)) "__eq__") (some (some (.ref (He.ma K (He.ga K q.1) "__eq__")))) && (He.eqO (PySem.W.findIn K (.ref (He.ga K q.1)) "__ne__") (some (some (.builtin "object.__ne__"))) &&
  (PySem.W.isFn K (.ref (He.ma K (He.ga K q.1) "__eq__")) && decide (PySem.W.mroIn K (He.ga K q.1) (.type "object") = some true)))
def factB0 (t : Tab) (K : PySem.W.Frag) : Bool := t.vals.all (valF K) && (t.cls.all (clsF K) && (t.free.all (freeF K) && (decide (t.DS.map fun d => He.fAd K d.at_).Nodup && t.DS.all fun d => d.ok K)))
def factB (t : Tab) (K : PySem.W.Frag) : Bool := factB0 t K && t.eqs.all (eqF K)
def obsM (t : Tab) (K : PySem.W.Frag) : He.AlD := (factB t K, t.DS.map fun d => He.fnW K d.at_)
def SaysM (t : Tab) (K : PySem.W.Frag) : Prop := obsM t K = He.valD t.DS
def obsMG (n : Nat) (t : Tab) (g : Addr → Option Obj) : He.AlD := obsM t (He.frG g (He.asD g n))
def hookM (n : Nat) (t : Tab) : PySem.W.Hook where
  α := He.AlD
  obs := fun s => obsMG n t s.heap.get?
  val := fun _ => He.valD t.DS
  says := fun _ h => ∃ K : PySem.W.Frag, K.In h ∧ SaysM t K
  of := fun _ _ e => ⟨_, He.frG_in, e⟩
  keeps := fun _ _ _ ⟨K, hK, c⟩ k => ⟨K, PySem.W.Frag.In.keeps hK k, c⟩
theorem obsMG_eq {n : Nat} {t : Tab} {g : Addr → Option Obj} {s : Shared} (h : ∀ a, g a = s.heap.get? a) : obsMG n t g = (hookM n t).obs s := by
  have e : g = s.heap.get? := funext h
  rw [e] <;> rfl
end Mp

set_option maxRecDepth 100000
set_option maxHeartbeats 4000000
/-! Mp20: the table's defs, each with its promise. -/
namespace Mp
open PySem PySem.Spec PyProof.Rows L2
def arOf (T : List Df) (f : Nat) : Nat := (T[f]?.map (·.ps.length)).getD 0
theorem callN_ar {T : List Df} {n f : Nat} {fl : List Bool} {ds : List D} {x : D × Bool × List D} (h : callN T n f fl ds = some x) : ds.length = arOf T f ∧ f < T.length := by
  cases n with
  | zero => cases h
  | succ n =>
    have h' : (match T[f]? with
      | none => none
      | some df => if df.ios = fl ∧ ds.length = df.ps.length ∧ df.ios.length = df.ps.length then finish df.ios (evS (callN T n) df.body (init df ds)) else none) = some x := h
    cases e : T[f]? with
    | none => rw [e] at h'; cases h'
    | some df =>
      rw [e] at h'
      dsimp only at h'
      split at h'
      · rename_i c
        refine ⟨?_, (List.getElem?_eq_some_iff.mp e).1⟩
        unfold arOf
        rw [e]
        exact c.2.1
      · cases h'
theorem scope_of {N ps : List Str} {sc : Scope} (h : scopeB N ps sc = true) : FnScope N ps sc := by
  obtain ⟨h1, h⟩ := ba2 h
  obtain ⟨h2, h⟩ := ba2 h
  obtain ⟨h3, h⟩ := ba2 h
  obtain ⟨h4, h⟩ := ba2 h
  obtain ⟨h5, h⟩ := ba2 h
  obtain ⟨h6, h7⟩ := ba2 h
  refine ⟨?_, by simpa using h2, by simpa using h3, of_decide_eq_true h4, of_decide_eq_true h5, fun x hx => ?_, fun y hy e => ?_⟩
  · split at h1
    · assumption
    · cases h1
  · have := List.all_eq_true.mp h6 x hx
    unfold locB at this
    split at this
    · exact .inl (by assumption)
    · exact .inr (by assumption)
    · cases this
  · have := List.all_eq_true.mp h7 y hy
    rw [e] at this
    cases this
theorem params_of {a : Arguments} {ps : List Str} (h : paramsB a ps = true) : ∃ as, a = ⟨[], as, none, [], [], none, []⟩ ∧ as.map (·.arg) = ps := by
  unfold paramsB at h
  split at h
  · exact ⟨_, rfl, of_decide_eq_true h⟩
  · cases h
section
variable (t : Tab) (K : PySem.W.Frag)
def Tab.G : GD := ⟨K, fun f => match t.DS[f]? with
  | some d => He.fAd K d.at_
  | none => 0, fun c => match t.cls[c]? with
  | some q => He.ga K q.1
  | none => 0⟩
noncomputable def gvK (x : Str) : V := match PySem.W.nsIn K mainGlobals x with
  | some (some u) => vOf u
  | _ => .non
end
section
variable {t : Tab} {K : PySem.W.Frag}
theorem SaysM.factA (c : SaysM t K) : factB t K = true := congrArg (fun z : He.AlD => z.1) c
theorem SaysM.fact (c : SaysM t K) : factB0 t K = true := (ba2 c.factA).1
theorem SaysM.def_ (c : SaysM t K) {f : Nat} {d : He.DefD} (h : t.DS[f]? = some d) : ∃ fd, FunD K d.name d.qual d.params d.body d.scope (d.dvs K) (d.kws K) (He.fAd K d.at_) fd := by
  obtain ⟨_, c1⟩ := ba2 c.fact
  obtain ⟨_, c1⟩ := ba2 c1
  obtain ⟨_, c1⟩ := ba2 c1
  obtain ⟨_, c2⟩ := ba2 c1
  have e : t.DS.map (fun d => He.fnW K d.at_) = t.DS.map He.DefD.val := congrArg (fun z : He.AlD => z.2) c
  have e2 : (t.DS.map fun d => He.fnW K d.at_)[f]? = (t.DS.map He.DefD.val)[f]? := by rw [e]
  rw [List.getElem?_map, List.getElem?_map, h] at e2
  exact He.DefD.funD (Option.some.inj e2) (List.all_eq_true.mp c2 d (List.mem_of_getElem? h))
theorem lookup_mem {x : Str} {d : D} : ∀ {l : List (Str × D)}, l.lookup x = some d → (x, d) ∈ l
  | [], h => by cases h
  | (y, e) :: l, h => by
    rw [List.lookup_cons] at h
    cases q : x == y with
    | true =>
      rw [q] at h
      cases h
      rw [eq_of_beq q]
      exact List.mem_cons_self
    | false =>
      rw [q] at h
      exact List.mem_cons_of_mem _ (lookup_mem h)
theorem Tab.inj (c : SaysM t K) (hl : t.T.length = t.DS.length) : ∀ f g, f < t.T.length → g < t.T.length → (t.G K).fa f = (t.G K).fa g → f = g := by
  intro f g hf hg e
  obtain ⟨_, c1⟩ := ba2 c.fact
  obtain ⟨_, c1⟩ := ba2 c1
  obtain ⟨_, c1⟩ := ba2 c1
  obtain ⟨c1, _⟩ := ba2 c1
  have nd := of_decide_eq_true c1
  have ef : t.DS[f]? = some t.DS[f] := List.getElem?_eq_getElem (hl ▸ hf)
  have eg : t.DS[g]? = some t.DS[g] := List.getElem?_eq_getElem (hl ▸ hg)
  have e' : (match t.DS[f]? with | some d => He.fAd K d.at_ | none => 0) = (match t.DS[g]? with | some d => He.fAd K d.at_ | none => 0) := e
  rw [ef, eg] at e'
  have h1 : (t.DS.map fun d => He.fAd K d.at_)[f]? = some (He.fAd K t.DS[f].at_) := by rw [List.getElem?_map, ef] <;> rfl
  have h2 : (t.DS.map fun d => He.fAd K d.at_)[g]? = some (He.fAd K t.DS[g].at_) := by rw [List.getElem?_map, eg] <;> rfl
  exact (List.getElem?_inj (by rw [List.length_map]; exact hl ▸ hf) nd).mp (h1.trans ((congrArg some e').trans h2.symm))
theorem fns_of (ok : t.ok = true) {x : Str} {f : Nat} (h : t.vals.lookup x = some (.fn f)) : ∃ d, t.DS[f]? = some d ∧ d.at_ = (x, none) := by
  obtain ⟨_, k⟩ := ba2 ok
  obtain ⟨k, _⟩ := ba2 k
  have := List.all_eq_true.mp k _ (lookup_mem h)
  have this : (match t.DS[f]? with
    | some d => decide (d.at_ = (x, none))
    | none => false) = true := this
  cases e : t.DS[f]? with
  | none => rw [e] at this; cases this
  | some d => rw [e] at this; exact ⟨d, rfl, of_decide_eq_true this⟩
theorem clsn_of (ok : t.ok = true) {x : Str} {n : Nat} (h : t.vals.lookup x = some (.cls n)) : ∃ q, t.cls[n]? = some q ∧ q.1 = x := by
  obtain ⟨_, k⟩ := ba2 ok
  obtain ⟨k, _⟩ := ba2 k
  have := List.all_eq_true.mp k _ (lookup_mem h)
  have this : (match t.cls[n]? with
    | some q => decide (q.1 = x)
    | none => false) = true := this
  cases e : t.cls[n]? with
  | none => rw [e] at this; cases this
  | some q => rw [e] at this; exact ⟨q, rfl, of_decide_eq_true this⟩
theorem Tab.ca_eq {n : Nat} {q : Str × List Str × Nat} (h : t.cls[n]? = some q) : (t.G K).ca n = He.ga K q.1 := by
  show (match t.cls[n]? with | some q => He.ga K q.1 | none => 0) = _
  rw [h]
theorem Tab.cls_ok (ok : t.ok = true) (c : SaysM t K) {n : Nat} {fl : List Str} {f : Nat} (h : t.cs[n]? = some (fl, f)) : InsF (t.G K) n fl ∧ (∀ i, i < 6 → PySem.W.kitOne K (.type (dTyN i)) (.ref ((t.G K).ca n)) = some false) ∧ f < t.DS.length ∧ Mk K ((t.G K).ca n) ((t.G K).fa f) := by
  obtain ⟨_, c1⟩ := ba2 c.fact
  obtain ⟨c1, _⟩ := ba2 c1
  obtain ⟨_, k⟩ := ba2 ok
  obtain ⟨_, k⟩ := ba2 k
  obtain ⟨k, _⟩ := ba2 k
  have h' : (t.cls.map fun q => (q.2.1, q.2.2))[n]? = some (fl, f) := h
  rw [List.getElem?_map] at h'
  cases e : t.cls[n]? with
  | none => rw [e] at h'; cases h'
  | some q =>
    rw [e] at h'
    obtain ⟨x, fl', f'⟩ := q
    cases h'
    have hq := List.mem_of_getElem? e
    have k1 := List.all_eq_true.mp c1 _ hq
    have k2 : (match t.DS[f']? with
      | some d => decide (d.at_ = (x, some ("__init__" : Str)))
      | none => false) = true := List.all_eq_true.mp k _ hq
    obtain ⟨a1, k1⟩ := ba2 k1
    obtain ⟨a2, k1⟩ := ba2 k1
    obtain ⟨a3, k1⟩ := ba2 k1
    obtain ⟨a4, k1⟩ := ba2 k1
    obtain ⟨a5, k1⟩ := ba2 k1
    obtain ⟨a6, k1⟩ := ba2 k1
    obtain ⟨a7, k1⟩ := ba2 k1
    obtain ⟨a8, a9⟩ := ba2 k1
    have eca : (t.G K).ca n = He.ga K x := Tab.ca_eq e
    cases ed : t.DS[f']? with
    | none => rw [ed] at k2; cases k2
    | some d =>
      rw [ed] at k2
      have eat := of_decide_eq_true k2
      have efa : (t.G K).fa f' = He.ma K (He.ga K x) "__init__" := by
        show (match t.DS[f']? with | some d => He.fAd K d.at_ | none => 0) = _
        rw [ed]
        show He.fAd K d.at_ = _
        rw [eat] <;> rfl
      refine ⟨⟨?_, fun y hy => ?_⟩, fun i hi => ?_, (List.getElem?_eq_some_iff.mp ed).1, ?_⟩
      · rw [show (t.G K).ca n = He.ga K x from eca]
        exact ⟨He.cls_ok a1, He.eqO_ok a2, He.eqO_ok a3, of_decide_eq_true a4, of_decide_eq_true a5, of_decide_eq_true a6⟩
      · rw [eca]
        exact He.noat_ok (List.all_eq_true.mp a7 y hy)
      · rw [eca]
        exact of_decide_eq_true (List.all_eq_true.mp a9 i (List.mem_range.mpr hi))
      · rw [eca, efa]
        exact He.mkr_ok a8
theorem Tab.fa_eq {x : Str} {f : Nat} {d : He.DefD} (h : t.DS[f]? = some d) : (t.G K).fa f = He.fAd K d.at_ := by
  show (match t.DS[f]? with | some d => He.fAd K d.at_ | none => 0) = _
  rw [h]
theorem Tab.eq_ok (ok : t.ok = true) (c : SaysM t K) {n f : Nat} (h : (n, f) ∈ t.es) : f < t.DS.length ∧ EqK K ((t.G K).ca n) ((t.G K).fa f) := by
  obtain ⟨_, c1⟩ := ba2 c.factA
  obtain ⟨_, k⟩ := ba2 ok
  obtain ⟨_, k⟩ := ba2 k
  obtain ⟨_, k⟩ := ba2 k
  obtain ⟨q, hq, e⟩ := List.mem_map.mp (show (n, f) ∈ t.eqs.map fun q => q.2 from h)
  obtain ⟨x, n', f'⟩ := q
  cases e
  obtain ⟨k1, k2⟩ := ba2 (List.all_eq_true.mp k _ hq)
  obtain ⟨a1, a2⟩ := ba2 (List.all_eq_true.mp c1 _ hq)
  obtain ⟨a2, a3⟩ := ba2 a2
  obtain ⟨a3, a4⟩ := ba2 a3
  have k1 : (match t.DS[f]? with
    | some d => decide (d.at_ = (x, some ("__eq__" : Str)))
    | none => false) = true := k1
  have k2 : (match t.cls[n]? with
    | some r => decide (r.1 = x)
    | none => false) = true := k2
  cases ed : t.DS[f]? with
  | none => rw [ed] at k1; cases k1
  | some d =>
    rw [ed] at k1
    cases ec : t.cls[n]? with
    | none => rw [ec] at k2; cases k2
    | some r =>
      rw [ec] at k2
      have e1 : r.1 = x := of_decide_eq_true k2
      have e2 := of_decide_eq_true k1
      have eca : (t.G K).ca n = He.ga K x := by rw [Tab.ca_eq ec, e1]
      have efa : (t.G K).fa f = He.ma K (He.ga K x) "__eq__" := by
        show (match t.DS[f]? with | some d => He.fAd K d.at_ | none => 0) = _
        rw [ed]
        show He.fAd K d.at_ = _
        rw [e2] <;> rfl
      refine ⟨(List.getElem?_eq_some_iff.mp ed).1, ?_⟩
      rw [eca, efa]
      exact ⟨He.eqO_ok a1, He.eqO_ok a2, a3, of_decide_eq_true a4⟩
theorem Tab.val_ok (ok : t.ok = true) (c : SaysM t K) {x : Str} {d : D} (h : t.vals.lookup x = some d) : ∃ u, PySem.W.nsIn K mainGlobals x = some (some u) ∧ RelV (gvK K x) u ∧ (∀ H, Dt (t.G K) H (gvK K x) d) ∧ (∀ f, d = .fn f → u = .ref ((t.G K).fa f)) ∧ ∀ n, d = .cls n → u = .ref ((t.G K).ca n) := by
  obtain ⟨c1, _⟩ := ba2 c.fact
  have k := List.all_eq_true.mp c1 _ (lookup_mem h)
  have gen : ∀ d', d = d' → (∀ f, d' ≠ .fn f) → (∀ f, d' ≠ .cls f) → (match PySem.W.nsIn K mainGlobals x with
    | some (some u) => kD K d' u
    | _ => false) = true → ∃ u, PySem.W.nsIn K mainGlobals x = some (some u) ∧ RelV (gvK K x) u ∧ (∀ H, Dt (t.G K) H (gvK K x) d) ∧ (∀ f, d = .fn f → u = .ref ((t.G K).fa f)) ∧ ∀ n, d = .cls n → u = .ref ((t.G K).ca n) := fun d' e nf nc k => by
    subst e
    unfold gvK
    cases q : PySem.W.nsIn K mainGlobals x with
    | none => rw [q] at k; cases k
    | some o =>
      cases o with
      | none => rw [q] at k; cases k
      | some u =>
        rw [q] at k
        exact ⟨u, rfl, (kD_ok (G := t.G K) (H := fun _ => none) k).1, fun H => (kD_ok (G := t.G K) k).2, fun f e => absurd e (nf f), fun f e => absurd e (nc f)⟩
  cases d with
  | fn f =>
    obtain ⟨dd, e1, e2⟩ := fns_of ok h
    have e3 : (t.G K).fa f = He.ga K x := by
      rw [Tab.fa_eq (x := x) e1, e2] <;> rfl
    have k' : PySem.W.nsIn K mainGlobals x = some (some (.ref (He.ga K x))) := He.eqO_ok k
    unfold gvK
    rw [k']
    refine ⟨_, rfl, rfl, fun H => ?_, fun g e => ?_, fun g e => by cases e⟩
    · show Dt (t.G K) H (.ref (He.ga K x)) (.fn f)
      rw [← e3]
      exact .fn f
    · cases e
      rw [e3]
  | non => exact gen _ rfl (fun f e => by cases e) (fun f e => by cases e) k
  | bl b => exact gen _ rfl (fun f e => by cases e) (fun f e => by cases e) k
  | int b => exact gen _ rfl (fun f e => by cases e) (fun f e => by cases e) k
  | str b => exact gen _ rfl (fun f e => by cases e) (fun f e => by cases e) k
  | tup b => exact gen _ rfl (fun f e => by cases e) (fun f e => by cases e) k
  | lst b => exact gen _ rfl (fun f e => by cases e) (fun f e => by cases e) k
  | dct b => exact gen _ rfl (fun f e => by cases e) (fun f e => by cases e) k
  | rng b1 b2 => exact gen _ rfl (fun f e => by cases e) (fun f e => by cases e) k
  | set b => exact gen _ rfl (fun f e => by cases e) (fun f e => by cases e) k
  | ins b => exact gen _ rfl (fun f e => by cases e) (fun f e => by cases e) k
  | cls n =>
    obtain ⟨q, e1, e2⟩ := clsn_of ok h
    have e3 : (t.G K).ca n = He.ga K x := by
      rw [Tab.ca_eq e1, e2]
    have k' : PySem.W.nsIn K mainGlobals x = some (some (.ref (He.ga K x))) := He.eqO_ok k
    unfold gvK
    rw [k']
    refine ⟨_, rfl, rfl, fun H => ?_, (fun g e => by cases e), fun g e => ?_⟩
    · show Dt (t.G K) H (.ref (He.ga K x)) (.cls n)
      rw [← e3]
      exact .cls n
    · cases e
      rw [e3]
  | scr b => exact gen _ rfl (fun f e => by cases e) (fun f e => by cases e) k
theorem free_of (c : SaysM t K) {h : Heap} {mg : Str → Option Value} (X : K.In h) (N : h.Ns mainGlobals mg) {x : Str} (k : t.free.contains x = true) : mg x = none := by
  obtain ⟨_, c1⟩ := ba2 c.fact
  obtain ⟨_, c1⟩ := ba2 c1
  obtain ⟨c1, _⟩ := ba2 c1
  exact PySem.W.mg_none_of X N (He.eqO_ok (List.all_eq_true.mp c1 x (List.contains_iff_mem.mp k)))
/-- a def's body keeps the promise -/
theorem body_ok {G : GD} {cl : Nat → List Bool → List D → CRes} {df : Df} {tb : TS} {vs : List V} {H : Hp} {Q : VK} {fl : List Bool} {ds : List D} {io : List Addr} {Z : AS} {d : D} {b : Bool} {outs : List D} (hS : SSt G (evS cl df.body) tb)
    (hf : finish df.ios (evS cl df.body (init df ds)) = some (d, b, outs)) (hfl : df.ios = fl) (hps : ds.length = df.ps.length) (hil : df.ios.length = df.ps.length) (hpN : df.ps.length ≤ df.N.length)
    (hin : InR G (orL Z io) H fl vs ds io) (nd : io.Nodup) (hz : ∀ a ∈ io, ¬ Z a) (hd : ∀ a, Z a → H a ≠ none) (hQ : ∀ v H', OutR G Z io H v H' d b outs → Q v H') :
    tb { nx := fun _ H' => Q .non H', rt := Q } (start df.N vs) H := by
  subst hfl
  obtain ⟨l, hl, hio⟩ := hin.ios 0
  have hvl : vs.length = ds.length := hin.length
  have S := entry_sr (N := df.N) hin hl hio nd hz hd (by omega) (by omega)
  have ei : init df ds = initS df.ios ds ++ List.replicate (df.N.length - ds.length) .un := by
    unfold init
    rw [hps]
  rw [← ei] at S
  have hown : ∀ {F' : AS} {ρ' : Env} {σ' : L2.St} {H' : Hp}, (∀ a, Z a → F' a) → SR G ⟨H, l⟩ F' ρ' σ' H' → ∀ (M : AS), (∀ a, M a → Mm F' ρ' σ' a) → ∀ {outs}, outsOf df.ios ρ' = some outs → OutL G M H' io outs := fun {F' ρ' σ' H'} hzF S' M hM {outs} ho => by
    rw [← hio]
    refine outs_ok hl ho fun q hq d e => ?_
    rw [Nat.sub_zero] at e
    obtain ⟨p, e1, c⟩ := S'.slot q.1 _ e
    obtain ⟨_, e2⟩ := S'.ios q.1 q.2 hq
    rw [e1] at e2
    cases e2
    exact c.le (hr_mono (fun _ _ _ e => e) fun a z => .inl (hM a z)) rfl
  refine hS ⟨H, l⟩ Z (init df ds) (start df.N vs) H _ _ S rfl (fun e => by rw [e] at hf; cases hf) (fun ρ' e σ' H' p => ?_) (fun d' b' ρ' e v σ' H' r => ?_)
  · rw [e] at hf
    have hf' : (outsOf df.ios ρ').map (fun os => (D.non, false, os)) = some (d, b, outs) := hf
    cases ho : outsOf df.ios ρ' with
    | none => rw [ho] at hf'; cases hf'
    | some os =>
      rw [ho] at hf'
      cases hf'
      obtain ⟨f1, f2⟩ := exit_ok hio (fun _ h => h) p.sr
      exact hQ .non H' ⟨f1, .inl ⟨rfl, .non, hown (fun _ h => h) p.sr _ f2 ho⟩⟩
  · rw [e] at hf
    have hf' : (outsOf df.ios ρ').map (fun os => (d', b', os)) = some (d, b, outs) := hf
    cases ho : outsOf df.ios ρ' with
    | none => rw [ho] at hf'; cases hf'
    | some os =>
      rw [ho] at hf'
      cases hf'
      rcases r.ex with ⟨rfl, S', dt⟩ | ⟨rfl, p, rfl, S', n1, n2, n3, c⟩
      · obtain ⟨f1, f2⟩ := exit_ok hio (fun _ h => h) S'
        exact hQ v H' ⟨f1, .inl ⟨rfl, dt.le (hr_mono (fun _ _ _ e => e) fun a z => .inl (f2 a z)), hown (fun _ h => h) S' _ f2 ho⟩⟩
      · obtain ⟨f1, f2⟩ := exit_ok (Z := Z) hio (fun _ h => .inr h) S'
        have f3 : ∀ a, addF (orL Z io) p a → Mm (addF Z p) ρ' σ' a := fun a z => by
          rcases z with z | z
          · exact .inl (.inl z)
          · exact f2 a z
        exact hQ _ H' ⟨f1, .inr ⟨rfl, p, rfl, n2, c.le (hr_mono (fun _ _ _ e => e) fun a z => .inl (f3 a z)) rfl, hown (fun _ h => .inr h) S' _ f3 ho⟩⟩
theorem FunD.flds {x qual : Str} {params : Arguments} {body : List Stmt} {scope : Scope} {kws : List (Str × V)} {f : Addr} {fd : FuncData} (F : FunD K x qual params body scope [] kws f fd) : fd.params = params ∧ fd.defaults = .none := by
  obtain ⟨oc, od, dV, kV, doc, pm, an, cdv, ct, osl, rfl, lk, hcd, hD, hK⟩ := F.ex
  rcases hD with ⟨_, rfl⟩ | ⟨e, _⟩
  · exact ⟨rfl, rfl⟩
  · exact absurd rfl e
/-- THE RULE: each def of the table keeps the evaluator's promise -/
theorem Tab.fn_ok (ok : t.ok = true) (c : SaysM t K) {P : Program} {w : World} {mg : Str → Option Value} {h base : Heap} (X : K.In h) (N : h.Ns mainGlobals mg) : ∀ (n f : Nat) (df : Df) (d : He.DefD), t.T[f]? = some df → t.DS[f]? = some d → ∀ fd, FunD K d.name d.qual d.params d.body d.scope [] [] (He.fAd K d.at_) fd →
    FnOk P w K mg base (fun _ _ _ _ _ _ => False) (2 * n) (He.fAd K d.at_) fd df.ps (spOf (t.G K) (callN t.T n f) df.ps.length)
  | 0, f, df, d, e1, e2, fd, F => by
    refine ⟨fun vs H Q E z => ?_, fun A outer s H args us vs Q E hr e0 hb hv z => ?_⟩
    · obtain ⟨_, _, _, _, _, _, _, h, _⟩ := z
      cases h
    · obtain ⟨_, _, _, _, _, _, _, h, _⟩ := z
      cases h
  | n + 1, f, df, d, e1, e2, fd, F => by
    have ih := Tab.fn_ok ok c (P := P) (w := w) (base := base) X N n
    obtain ⟨ok1, _⟩ := ba2 ok
    obtain ⟨hlen, hat⟩ := chkAll_at ok1
    obtain ⟨k1, k2⟩ := ba2 (hat f df d e1 e2)
    obtain ⟨k2, k3⟩ := ba2 k2
    obtain ⟨k3, k4⟩ := ba2 k3
    obtain ⟨k4, k5⟩ := ba2 k4
    have S := scope_of k2
    have hil := of_decide_eq_true k4
    have hpN : df.ps.length ≤ df.N.length := by
      have := congrArg List.length S.pre
      rw [List.length_take] at this
      omega
    have inj := Tab.inj c hlen
    have hgv : GvOk (t.G K) (gvK K) ⟨df.N, d.scope, d.scope, true, t.vals, t.free, t.pss, t.cs, t.es⟩ := ⟨fun x d H hl => by
      obtain ⟨u, _, _, q, _⟩ := Tab.val_ok ok c hl
      exact q H, fun n fl f hl => ⟨(Tab.cls_ok ok c hl).1, (Tab.cls_ok ok c hl).2.1⟩⟩
    obtain ⟨tb, hP, hS⟩ := chkSs_ok (G := t.G K) (cl := callN t.T n) (ar := arOf t.T) (vf := fun f => f < t.T.length) (gv := gvK K) (lv := 2 * n) (fun f fl ds x h => (callN_ar h).1) (fun f fl ds x h => (callN_ar h).2) inj df.body _ d.body hgv k1
    refine F.ok S (fun vs H Q E ⟨fl, ds, io, Z, dd, b, outs, hcl, hl, hin, _⟩ => hin.length.trans hl) (fun cdv A outer s H vs Q E hr hsp => ⟨tb, PSs.nox (hP _ ?_), ?_⟩)
    · refine ⟨rfl, S.nd, rfl, S.kind, rfl, rfl, fun _ _ => rfl, fun _ _ => rfl, rfl, ?_, fun x d hl => ?_, fun x f hl => ?_, fun g hg => ?_, hr, fun x n hl => ?_, fun n fl f hl => ?_, fun n f he => ⟨by rw [hlen]; exact (Tab.eq_ok ok c he).1, (Tab.eq_ok ok c he).2⟩, fun x hx => free_of c X N hx⟩
      · have := hr.un
        show (A.deeper _).units + 65 < cLine
        omega
      · obtain ⟨u, q1, q2, _, _⟩ := Tab.val_ok ok c hl
        exact ⟨u, PySem.W.mg_of X N q1, q2⟩
      · obtain ⟨u, q1, _, _, q4, _⟩ := Tab.val_ok ok c hl
        obtain ⟨dd, g1, _⟩ := fns_of ok hl
        refine ⟨by rw [hlen]; exact (List.getElem?_eq_some_iff.mp g1).1, ?_⟩
        have := PySem.W.mg_of X N q1
        rw [q4 f rfl] at this
        exact this
      · have g1 : t.T[g]? = some t.T[g] := List.getElem?_eq_getElem hg
        have g2 : t.DS[g]? = some (t.DS[g]'(hlen ▸ hg)) := List.getElem?_eq_getElem (hlen ▸ hg)
        obtain ⟨m1, m2⟩ := ba2 (hat g _ _ g1 g2)
        obtain ⟨m2, m3⟩ := ba2 m2
        obtain ⟨m3, m4⟩ := ba2 m3
        obtain ⟨m4, m5⟩ := ba2 m4
        obtain ⟨m5, m6⟩ := ba2 m5
        obtain ⟨fd', F'⟩ := c.def_ g2
        have z1 : (t.DS[g]'(hlen ▸ hg)).dvs K = [] := by
          unfold He.DefD.dvs
          rw [List.isEmpty_iff.mp m5] <;> rfl
        have z2 : (t.DS[g]'(hlen ▸ hg)).kws K = [] := by
          unfold He.DefD.kws
          rw [List.isEmpty_iff.mp m6] <;> rfl
        rw [z1, z2] at F'
        obtain ⟨as, p1, p2⟩ := params_of m3
        have S' := scope_of m2
        have ef : (t.G K).fa g = He.fAd K (t.DS[g]'(hlen ▸ hg)).at_ := Tab.fa_eq (x := "") g2
        have ea : arOf t.T g = (t.T[g]).ps.length := by
          unfold arOf
          rw [g1] <;> rfl
        have fo := ih g _ _ g1 g2 fd' F'
        obtain ⟨fp, fdl⟩ := FunD.flds F'
        refine ⟨fd', (t.T[g]).ps, as, ?_, ?_, fp.trans p1, fdl, p2, ?_, ?_⟩
        · show FnOk P w K mg base _ (2 * n) ((t.G K).fa g) fd' _ (spOf (t.G K) (callN t.T n g) (arOf t.T g))
          rw [ef, ea]
          exact fo
        · show PySem.W.keepIn K (.ref ((t.G K).fa g)) = true
          rw [ef]
          exact F'.kp
        · rw [← S'.pre]
          exact S'.nd.sublist (List.take_sublist _ _)
        · show (t.T.map (·.ps))[g]? = _
          rw [List.getElem?_map, g1] <;> rfl
      · obtain ⟨u, q1, _, _, _, q5⟩ := Tab.val_ok ok c hl
        have := PySem.W.mg_of X N q1
        rw [q5 n rfl] at this
        exact this
      · obtain ⟨_, _, q1, q2⟩ := Tab.cls_ok ok c hl
        exact ⟨by rw [hlen]; exact q1, q2⟩
    · obtain ⟨fl, ds, io, Z, dd, b, outs, hcl, hl, hin, nd, hz, hd, hQ⟩ := hsp
      have h' : (match t.T[f]? with
        | none => none
        | some df => if df.ios = fl ∧ ds.length = df.ps.length ∧ df.ios.length = df.ps.length then finish df.ios (evS (callN t.T n) df.body (init df ds)) else none) = some (dd, b, outs) := hcl
      rw [e1] at h'
      dsimp only at h'
      split at h'
      · rename_i cc
        exact body_ok hS h' cc.1 cc.2.1 hil hpN hin nd hz hd hQ
      · cases h'
end
end Mp

set_option maxRecDepth 100000
set_option maxHeartbeats 4000000
/-! Mp21: the law's def, at the end of the head. -/
namespace Mp
open PySem PySem.Spec PyProof.Rows L2
def mkD (s : Stmt) : Option He.DefD := match s with
  | .FunctionDef n a b _ _ _ sc _ _ _ => some { at_ := (n, none), name := n, qual := n, params := a, body := b, scope := sc }
  | _ => none
/-- a class's __init__ -/
def mkM (x : Str) (ss : List Stmt) : List He.DefD := ss.flatMap fun s => match s with
  | .ClassDef n _ _ b _ _ _ _ _ _ _ => if n = x then b.filterMap fun s => (match s with
    | .FunctionDef m a mb _ _ _ sc _ _ _ => if m = ("__init__" : Str) then some { at_ := (x, some m), name := m, qual := x ++ (".__init__" : Str), params := a, body := mb, scope := sc } else none
    | _ => none) else []
  | _ => []
/-- a class's __eq__ -/
def mkE (x : Str) (ss : List Stmt) : List He.DefD := ss.flatMap fun s => match s with
  | .ClassDef n _ _ b _ _ _ _ _ _ _ => if n = x then b.filterMap fun s => (match s with
    | .FunctionDef m a mb _ _ _ sc _ _ _ => if m = ("__eq__" : Str) then some { at_ := (x, some m), name := m, qual := x ++ (".__eq__" : Str), params := a, body := mb, scope := sc } else none
    | _ => none) else []
  | _ => []
theorem ints_dt {G : GD} {H : Hp} : ∀ ns : List Int, DtA G H (ns.map V.int) (ns.map D.int)
  | [] => .nil
  | n :: ns => .cons (.int n) (ints_dt ns)
theorem law_goal (t : Tab) (ok : t.ok = true) {n f0 : Nat} {df0 : Df} (e1 : t.T[f0]? = some df0) (hps : df0.ps = [("script" : Str)]) (hv : t.vals.lookup ("law" : Str) = some (D.fn f0)) (hlaw : ∀ ns : List Int, ns.length ≤ 63 → callN t.T n f0 [false] [.scr (ns.map D.int)] = some (.bl true, false, []))
    {P : Program} {w : World} {mg : Str → Option Value} {fa : Addr} {h : Heap} (Y : ∃ K : PySem.W.Frag, K.In h ∧ SaysM t K) (N : h.Ns mainGlobals mg) (hm : mg ("law" : Str) = some (.ref fa)) :
    ∃ (K : PySem.W.Frag) (fd : FuncData) (sp : L2.Sp), K.In h ∧ (∀ (s : Shared) (u : Value), BindsTo s fd ⟨[u], []⟩ [(("script" : Str), u)]) ∧
      (∀ (H : Hp) (a : Addr) (ns : List Int), ns.length ≤ 63 → Only H → SqL K H a (ns.map V.int) → sp [.ref a] H (fun v _ => v = .bl true) fun _ _ _ => False) ∧
      ∀ base : Heap, K.In base → base.Ns mainGlobals mg → FnOk P w K mg base (fun _ _ _ _ _ _ => False) (2 * n) fa fd [("script" : Str)] sp := by
  obtain ⟨K, KX, c⟩ := Y
  obtain ⟨d, e2, hat⟩ := fns_of ok hv
  obtain ⟨ok1, _⟩ := ba2 ok
  obtain ⟨hlen, hall⟩ := chkAll_at ok1
  obtain ⟨k1, k2⟩ := ba2 (hall f0 df0 d e1 e2)
  obtain ⟨k2, k3⟩ := ba2 k2
  obtain ⟨k3, k4⟩ := ba2 k3
  obtain ⟨k4, k5⟩ := ba2 k4
  obtain ⟨k5, k6⟩ := ba2 k5
  obtain ⟨fd, F⟩ := c.def_ e2
  have z1 : d.dvs K = [] := by
    unfold He.DefD.dvs
    rw [List.isEmpty_iff.mp k5] <;> rfl
  have z2 : d.kws K = [] := by
    unfold He.DefD.kws
    rw [List.isEmpty_iff.mp k6] <;> rfl
  rw [z1, z2] at F
  obtain ⟨as, p1, p2⟩ := params_of k3
  obtain ⟨fp, fdl⟩ := FunD.flds F
  have S := scope_of k2
  have nd : df0.ps.Nodup := by
    rw [← S.pre]
    exact S.nd.sublist (List.take_sublist _ _)
  have efa : fa = He.fAd K d.at_ := by
    obtain ⟨u, q1, _, _, q4, _⟩ := Tab.val_ok ok c hv
    have := PySem.W.mg_of KX N q1
    rw [hm, q4 f0 rfl, Tab.fa_eq (x := "") e2] at this
    injection this with this
    injection this
  refine ⟨K, fd, spOf (t.G K) (callN t.T n f0) df0.ps.length, KX, fun s u => ?_, fun H a ns hl _ hS => ?_, fun base _ _ => ?_⟩
  · have := bind_plain (fd := fd) (as := as) (us := [u]) (fp.trans p1) fdl (by rw [p2]; exact nd) (by have := congrArg List.length p2; rw [List.length_map, hps] at this; exact this.symm)
    rw [p2, hps] at this
    exact BindsTo.of_eq this
  · refine ⟨[false], [.scr (ns.map D.int)], [], fun _ => False, .bl true, false, [], hlaw ns hl, by rw [hps] <;> rfl, ?_, List.nodup_nil, (fun a h => by cases h), (fun a (h : False) => h.elim), fun v H' O => ?_⟩
    · refine .v (.scr (sql_le (fun b o e => hr_some.mpr ⟨fun z => ?_, e⟩) hS) (ints_dt ns)) .nil
      rcases z with z | z
      · exact z
      · cases z
    · rcases O.val with ⟨_, dt, _⟩ | ⟨z, _⟩
      · cases dt; rfl
      · cases z
  · have := Tab.fn_ok ok c (P := P) (w := w) (base := base) KX N n f0 df0 d e1 e2 fd F
    rw [efa]
    rw [hps] at this ⊢
    exact this
end Mp

set_option maxRecDepth 100000
set_option maxHeartbeats 4000000
/-! Mv1: the evaluator, step by step: equations for simp. -/
namespace Mp
open PySem
section
variable {cl : Nat → List Bool → List D → CRes} {ρ : Env}
theorem R.bind_ok' {α β : Type} {a : α} {f : α → Env → R β} : (R.ok a ρ).bind f = f a ρ := rfl
theorem R.bind_no' {α β : Type} {f : α → Env → R β} : (R.no : R α).bind f = .no := rfl
theorem R.of_some' {α : Type} {a : α} : R.of (some a) ρ = .ok a ρ := rfl
theorem R.fl_ok' {α : Type} {a : α} {f : α → Env → Fl} : (R.ok a ρ).fl f = f a ρ := rfl
theorem Fl.bind_nx {f : Env → Fl} : (Fl.nx ρ).bind f = f ρ := rfl
theorem Fl.bind_rt {f : Env → Fl} {d : D} {b : Bool} : (Fl.rt d b ρ).bind f = .rt d b ρ := rfl
def forRun (cl : Nat → List Bool → List D → CRes) (t : E) (b : S) (xs : List D) (ρ : Env) : Fl := forLoop (fun d => evG cl t d .frz) (evS cl b) xs ρ
def lcRun (cl : Nat → List Bool → List D → CRes) (vs : List Nat) (t c e : E) (xs acc : List D) (ρ : Env) : R (List D) := lcLoop vs (fun d => evG cl t d .frz) (evT cl c) (evE cl e) xs acc ρ
def whlRun (cl : Nat → List Bool → List D → CRes) (c : E) (b : S) (n : Nat) (ρ : Env) : Fl := whlLoop (evT cl c) (evS cl b) n ρ
theorem for_nil {t : E} {b : S} : forRun cl t b [] ρ = .nx ρ := rfl
theorem for_cons {t : E} {b : S} {x : D} {xs : List D} : forRun cl t b (x :: xs) ρ = (evG cl t x .frz ρ).fl fun _ ρ => (evS cl b ρ).bind fun ρ => forRun cl t b xs ρ := rfl
theorem lc_nil {vs : List Nat} {t c e : E} {acc : List D} : lcRun cl vs t c e [] acc ρ = .ok acc ρ := rfl
theorem lc_cons {vs : List Nat} {t c e : E} {acc : List D} {x : D} {xs : List D} : lcRun cl vs t c e (x :: xs) acc ρ = (evG cl t x .frz (wipe ρ vs)).bind fun _ ρ => (evT cl c ρ).bind fun k ρ =>
      if k = true then (evE cl e ρ).bind fun y ρ => (settle ρ y.1 y.2).bind fun d ρ => if acc.length < sizeLine then lcRun cl vs t c e xs (acc ++ [d]) ρ else .no
      else lcRun cl vs t c e xs acc ρ := rfl
theorem whl_succ {c : E} {b : S} {n : Nat} : whlRun cl c b (n + 1) ρ = (evT cl c ρ).fl fun k ρ => if k = true then (evS cl b ρ).bind fun ρ => whlRun cl c b n ρ else .nx ρ := rfl
theorem s_skip : evS cl .skip ρ = .nx ρ := rfl
theorem s_seq {a b : S} : evS cl (.seq a b) ρ = (evS cl a ρ).bind fun ρ => evS cl b ρ := rfl
theorem s_asg {t e : E} : evS cl (.asg t e) ρ = (evE cl e ρ).fl fun x ρ => (keep ρ x.1 x.2).fl fun x ρ => (evG cl t x.1 x.2 ρ).fl fun _ ρ => .nx ρ := rfl
theorem s_ex {e : E} : evS cl (.ex e) ρ = (evE cl e ρ).fl fun _ ρ => .nx ρ := rfl
theorem s_ret {e : E} : evS cl (.ret e) ρ = (evE cl e ρ).fl fun x ρ => (match x.2 with
    | .frz => .rt x.1 false ρ
    | .fr => .rt x.1 true ρ
    | .pk i => (match getS ρ i with | .own d => .rt d true (ρ.set i .un) | _ => .no)) := rfl
theorem s_retn : evS cl .retn ρ = .rt .non false ρ := rfl
theorem s_ite {c : E} {a b : S} : evS cl (.ite c a b) ρ = (evT cl c ρ).fl fun k ρ => if k = true then evS cl a ρ else evS cl b ρ := rfl
theorem s_for {t it : E} {b : S} : evS cl (.for_ t it b) ρ = (evI cl it ρ).fl fun xs ρ => forRun cl t b xs ρ := rfl
theorem s_whl {c : E} {b : S} : evS cl (.whl c b) ρ = whlRun cl c b wFuel ρ := rfl
theorem s_app {i : Nat} {e : E} : evS cl (.app i e) ρ = if ownL (getS ρ i) = true then (evE cl e ρ).fl fun x ρ => (settle ρ x.1 x.2).fl fun d ρ => (match appD ρ i [d] with | some ρ => .nx ρ | none => .no) else .no := rfl
theorem s_ext {i : Nat} {e : E} : evS cl (.ext i e) ρ = if ownL (getS ρ i) = true then (evE cl e ρ).fl fun x ρ => (match x.2 with
    | .fr => (match lstOf x.1 with
      | some ds => (match appD ρ i ds with | some ρ => .nx ρ | none => .no)
      | none => .no)
    | _ => .no) else .no := rfl
theorem s_fst {i : Nat} {x : Str} {e : E} : evS cl (.fst i x e) ρ = (evE cl e ρ).fl fun v ρ => (settle ρ v.1 v.2).fl fun d ρ => (match getS ρ i with
    | .io (.ins c ns fs) => if ns[fs.length]? = some x ∧ x ∉ ns.take fs.length ∧ fs.length < 900 then .nx (ρ.set i (.io (.ins c ns (fs ++ [d])))) else .no
    | _ => .no) := rfl
theorem s_par {is : List Nat} {es : E} : evS cl (.par is es) ρ = (evM cl es ρ).fl fun xs ρ => (puts is xs ρ).fl fun _ ρ => .nx ρ := rfl
theorem s_dst {i : Nat} {a b e : E} : evS cl (.dst i a b e) ρ = (evE cl e ρ).fl fun v ρ => (settle ρ v.1 v.2).fl fun d ρ => if ownS (getS ρ i) = true then (evE cl a ρ).fl fun x ρ => (evE cl b ρ).fl fun y ρ => (match dStore ρ i x.1 y.1 d with | some ρ => .nx ρ | none => .no) else .no := rfl
theorem e_dix {i : Nat} {a b : E} : evE cl (.vop .dix i a b) ρ = if ownS (getS ρ i) = true then (evE cl a ρ).bind fun x ρ => (evE cl b ρ).bind fun y ρ => vopD .dix ρ i x.1 y.1 else .no := rfl
theorem e_pop {i : Nat} {a b : E} : evE cl (.vop .pop i a b) ρ = if ownL (getS ρ i) = true then (evE cl a ρ).bind fun x ρ => vopD .pop ρ i x.1 .non else .no := rfl
theorem e_dnew {a : E} : evE cl (.uop .dnew a) ρ = .ok (.dct [], .fr) ρ := rfl
theorem e_lof1 {a : E} : evE cl (.uop .lof (.rng1 a)) ρ = (evE cl a ρ).bind fun x ρ => (match x.1 with | .int n => if rgOk 0 n then .ok (.lst (rngD 0 n), .fr) ρ else .no | _ => .no) := rfl
theorem e_lof2 {a b : E} : evE cl (.uop .lof (.rng2 a b)) ρ = (evE cl a ρ).bind fun x ρ => (evE cl b ρ).bind fun y ρ => (match x.1, y.1 with | .int m, .int n => if rgOk m n then .ok (.lst (rngD m n), .fr) ρ else .no | _, _ => .no) := rfl
theorem e_rof1 {a : E} : evE cl (.uop .rof (.rng1 a)) ρ = (evE cl a ρ).bind fun x ρ => (match x.1 with | .int n => .ok (.rng 0 n, .frz) ρ | _ => .no) := rfl
theorem e_rof2 {a b : E} : evE cl (.uop .rof (.rng2 a b)) ρ = (evE cl a ρ).bind fun x ρ => (evE cl b ρ).bind fun y ρ => (match x.1, y.1 with | .int m, .int n => .ok (.rng m n, .frz) ρ | _, _ => .no) := rfl
theorem e_bm {o : Bm} {a b : E} : evE cl (.bm o a b) ρ = (evE cl a ρ).bind fun x ρ => if isLst x.1 = true then (evE cl b ρ).bind fun y ρ => (R.of (bmD o (cur ρ x.1 x.2) y.1) ρ).bind fun z ρ => .ok (z.1, kdOf z.2) ρ else .no := rfl
theorem e_mkk {c f : Nat} {fl : List Str} {p : List Nat} {es ks : E} : evE cl (.mkk c f fl p es ks) ρ = (evA cl es ρ).bind fun as ρ => (evA cl ks ρ).bind fun bs ρ => doMk cl c f fl (pick p (as ++ bs)) ρ := rfl
theorem e_oeq {ng : Bool} {c f : Nat} {a b : E} : evE cl (.oeq ng c f a b) ρ = (evE cl a ρ).bind fun x ρ => (settle ρ x.1 x.2).bind fun d ρ => (evE cl b ρ).bind fun y ρ => (settle ρ y.1 y.2).bind fun e ρ => if insB c d = true ∧ othB c e = true then (doCall cl f [.v d, .v e] ρ).bind fun z ρ => blR ng z ρ else .no := rfl
theorem ownS_o {d : D} : ownS (.own d) = true := rfl
theorem ownS_i {d : D} : ownS (.io d) = true := rfl
theorem isLst_l {xs : List D} : isLst (.lst xs) = true := rfl
theorem m_nil : evM cl .nil ρ = .ok [] ρ := rfl
theorem m_cons {a r : E} : evM cl (.cons a r) ρ = (evE cl a ρ).bind fun x ρ => (keep ρ x.1 x.2).bind fun x ρ => (evM cl r ρ).bind fun xs ρ => .ok (x :: xs) ρ := rfl
theorem puts_n : puts [] [] ρ = .ok () ρ := rfl
theorem puts_c {i : Nat} {is : List Nat} {d : D × Kd} {ds : List (D × Kd)} : puts (i :: is) (d :: ds) ρ = (putName ρ i d.1 d.2).bind fun _ ρ => puts is ds ρ := rfl
theorem e_fld {a : E} {x : Str} : evE cl (.fld a x) ρ = (evE cl a ρ).bind fun v ρ => (R.of (fldD x v.1) ρ).bind fun z ρ => .ok (z, .frz) ρ := rfl
theorem e_mk {c f : Nat} {fl : List Str} {es : E} : evE cl (.mk c f fl es) ρ = (evA cl es ρ).bind fun as ρ => doMk cl c f fl as ρ := rfl
theorem e_isinc {c : Nat} {x : Str} {a : E} : evE cl (.isinc c x a) ρ = (evE cl a ρ).bind fun x ρ => (R.of (isinC c x.1) ρ).bind fun b ρ => .ok (.bl b, .frz) ρ := rfl
theorem isc_ins {c : Nat} {ns : List Str} {fs : List D} : isinC c (.ins c ns fs) = some true := if_pos rfl
theorem ownL_o {xs : List D} : ownL (.own (.lst xs)) = true := rfl
theorem ownL_i {xs : List D} : ownL (.io (.lst xs)) = true := rfl
theorem lst_of {xs : List D} : lstOf (.lst xs) = some xs := rfl
theorem app_o {i : Nat} {xs ds : List D} (h : getS ρ i = .own (.lst xs)) (hz : xs.length + ds.length ≤ sizeLine) : appD ρ i ds = some (ρ.set i (.own (.lst (xs ++ ds)))) := by
  unfold appD
  rw [h]
  exact if_pos hz
theorem app_i {i : Nat} {xs ds : List D} (h : getS ρ i = .io (.lst xs)) (hz : xs.length + ds.length ≤ sizeLine) : appD ρ i ds = some (ρ.set i (.io (.lst (xs ++ ds)))) := by
  unfold appD
  rw [h]
  exact if_pos hz
theorem s_never : evS cl .never ρ = .no := rfl
theorem e_var {i : Nat} : evE cl (.var i) ρ = (match getS ρ i with
    | .val d => .ok (d, .frz) ρ
    | .own d => .ok (d, .pk i) ρ
    | .io d => .ok (d, .pk i) ρ
    | .un => .no) := rfl
theorem e_con {d : D} : evE cl (.con d) ρ = .ok (d, .frz) ρ := rfl
theorem e_glo {x : Str} {d : D} : evE cl (.glo x d) ρ = .ok (d, .frz) ρ := rfl
theorem e_tup {es : E} : evE cl (.tup es) ρ = (evL cl es ρ).bind fun ds ρ => if ds.length ≤ sizeLine then .ok (.tup ds, .frz) ρ else .no := rfl
theorem e_lst {es : E} : evE cl (.lst es) ρ = (evL cl es ρ).bind fun ds ρ => if ds.length ≤ sizeLine then .ok (.lst ds, .fr) ρ else .no := rfl
theorem e_neg {a : E} : evE cl (.neg a) ρ = (evE cl a ρ).bind fun x ρ => (match x.1 with | .int i => .ok (.int (-i), .frz) ρ | _ => .no) := rfl
theorem e_bin {o : Bop} {a b : E} : evE cl (.bin o a b) ρ = (evE cl a ρ).bind fun x ρ => (evE cl b ρ).bind fun y ρ => (R.of (binD o (cur ρ x.1 x.2) y.1) ρ).bind fun z ρ => .ok (z.1, kdOf z.2) ρ := rfl
theorem e_cmp {o : Cop} {a b : E} : evE cl (.cmp o a b) ρ = (evE cl a ρ).bind fun x ρ => (evE cl b ρ).bind fun y ρ => (R.of (cmpD o (cur ρ x.1 x.2) y.1) ρ).bind fun z ρ => .ok (.bl z, .frz) ρ := rfl
theorem e_cmp2 {o1 o2 : Cop} {a b c : E} : evE cl (.cmp2 o1 o2 a b c) ρ = (evE cl a ρ).bind fun x ρ => (evE cl b ρ).bind fun y ρ => (R.of (cmpD o1 (cur ρ x.1 x.2) y.1) ρ).bind fun z ρ =>
      if z = true then (evE cl c ρ).bind fun w ρ => (R.of (cmpD o2 (cur ρ y.1 y.2) w.1) ρ).bind fun z ρ => .ok (.bl z, .frz) ρ else .ok (.bl false, .frz) ρ := rfl
theorem e_not {a : E} : evE cl (.not a) ρ = (evT cl a ρ).bind fun b ρ => .ok (.bl (!b), .frz) ρ := rfl
theorem e_and {a b : E} : evE cl (.and a b) ρ = (evE cl a ρ).bind fun x ρ => (match x.1 with
    | .bl true => evE cl b ρ
    | .bl false => .ok (.bl false, .frz) ρ
    | _ => .no) := rfl
theorem e_or {a b : E} : evE cl (.or a b) ρ = (evE cl a ρ).bind fun x ρ => (match x.1 with
    | .bl false => evE cl b ρ
    | .bl true => .ok (.bl true, .frz) ρ
    | _ => .no) := rfl
theorem e_ife {c a b : E} : evE cl (.ife c a b) ρ = (evT cl c ρ).bind fun k ρ => if k = true then evE cl a ρ else evE cl b ρ := rfl
theorem e_idx {a i : E} : evE cl (.idx a i) ρ = (evE cl a ρ).bind fun x ρ => (evE cl i ρ).bind fun y ρ => (R.of (idxD (cur ρ x.1 x.2) y.1) ρ).bind fun z ρ => .ok (z, .frz) ρ := rfl
theorem e_sl {a lo hi : E} : evE cl (.sl a lo hi) ρ = (evE cl a ρ).bind fun x ρ => (evO cl lo ρ).bind fun l ρ => (evO cl hi ρ).bind fun h ρ => (R.of (slD (cur ρ x.1 x.2) l h) ρ).bind fun z ρ => .ok (z.1, kdOf z.2) ρ := rfl
theorem e_call {f : Nat} {es : E} : evE cl (.call f es) ρ = (evA cl es ρ).bind fun as ρ => doCall cl f as ρ := rfl
theorem e_callk {f : Nat} {p : List Nat} {es ks : E} : evE cl (.callk f p es ks) ρ = (evA cl es ρ).bind fun as ρ => (evA cl ks ρ).bind fun bs ρ => doCall cl f (pick p (as ++ bs)) ρ := rfl
theorem e_calf {f : Nat} {a es : E} : evE cl (.calf f a es) ρ = (evE cl a ρ).bind fun x ρ => (match x.2 with
    | .fr => (evA cl es ρ).bind fun as ρ => doCallF cl f x.1 as ρ
    | _ => .no) := rfl
theorem e_calv {i : Nat} {es : E} : evE cl (.calv i es) ρ = (match getS ρ i with
    | .val (.fn f) => (evA cl es ρ).bind fun as ρ => doCall cl f as ρ
    | _ => .no) := rfl
theorem e_blt {b : Blt} {es : E} : evE cl (.blt b es) ρ = (evP cl es ρ).bind fun xs ρ => (R.of (bltD b (xs.map fun x => cur ρ x.1 x.2)) ρ).bind fun z ρ => .ok (z.1, kdOf z.2) ρ := rfl
theorem e_isin {t : Nat} {a : E} : evE cl (.isin t a) ρ = (evE cl a ρ).bind fun x ρ => (R.of (isinD t x.1) ρ).bind fun b ρ => .ok (.bl b, .frz) ρ := rfl
theorem e_lc {vs : List Nat} {t it c e : E} : evE cl (.lc vs t it c e) ρ = if (vs.all fun v => plainS (getS ρ v)) = true then (evI cl it ρ).bind fun items ρ1 => (lcRun cl vs t c e items [] ρ1).bind fun acc ρ2 => .ok (.lst acc, .fr) (unwipe ρ1 ρ2 vs) else .no := rfl
theorem l_nil : evL cl .nil ρ = .ok [] ρ := rfl
theorem l_cons {a r : E} : evL cl (.cons a r) ρ = (evE cl a ρ).bind fun x ρ => (settle ρ x.1 x.2).bind fun d ρ => (evL cl r ρ).bind fun ds ρ => .ok (d :: ds) ρ := rfl
theorem a_nil : evA cl .nil ρ = .ok [] ρ := rfl
theorem a_cons {a r : E} : evA cl (.cons a r) ρ = (evE cl a ρ).bind fun x ρ => (settle ρ x.1 x.2).bind fun d ρ => (evA cl r ρ).bind fun ds ρ => .ok (.v d :: ds) ρ := rfl
theorem a_ioa {i : Nat} {r : E} : evA cl (.ioa i r) ρ = (match getS ρ i with
    | .own _ => (evA cl r ρ).bind fun ds ρ => .ok (.io i :: ds) ρ
    | .io _ => (evA cl r ρ).bind fun ds ρ => .ok (.io i :: ds) ρ
    | _ => .no) := rfl
theorem p_nil : evP cl .nil ρ = .ok [] ρ := rfl
theorem p_cons {a r : E} : evP cl (.cons a r) ρ = (evE cl a ρ).bind fun x ρ => (evP cl r ρ).bind fun ds ρ => .ok (x :: ds) ρ := rfl
theorem o_nil : evO cl .nil ρ = .ok none ρ := rfl
theorem o_cons {a r : E} : evO cl (.cons a r) ρ = (evE cl a ρ).bind fun x ρ => (match x.1 with | .int i => .ok (some i) ρ | _ => .no) := rfl
theorem t_not {a : E} : evT cl (.not a) ρ = (evT cl a ρ).bind fun b ρ => .ok (!b) ρ := rfl
theorem t_and {a b : E} : evT cl (.and a b) ρ = (evT cl a ρ).bind fun k ρ => if k = true then evT cl b ρ else .ok false ρ := rfl
theorem t_or {a b : E} : evT cl (.or a b) ρ = (evT cl a ρ).bind fun k ρ => if k = true then .ok true ρ else evT cl b ρ := rfl
theorem t_nil : evT cl .nil ρ = .ok true ρ := rfl
theorem t_tr {e : E} : evT cl (.tr e) ρ = (evE cl e ρ).bind fun x ρ => R.of (truthD x.1) ρ := rfl
theorem i_rng1 {a : E} : evI cl (.rng1 a) ρ = (evE cl a ρ).bind fun x ρ => (match x.1 with | .int n => if inR n then .ok (rngD 0 n) ρ else .no | _ => .no) := rfl
theorem i_rng2 {a b : E} : evI cl (.rng2 a b) ρ = (evE cl a ρ).bind fun x ρ => (evE cl b ρ).bind fun y ρ => (match x.1, y.1 with | .int m, .int n => if inR m ∧ inR n then .ok (rngD m n) ρ else .no | _, _ => .no) := rfl
theorem i_enm {a : E} : evI cl (.enm a) ρ = (evE cl a ρ).bind fun x ρ => (settle ρ x.1 x.2).bind fun d ρ => R.of ((seqOf d).map enumD) ρ := rfl
theorem i_it {e : E} : evI cl (.it e) ρ = (evE cl e ρ).bind fun x ρ => (settle ρ x.1 x.2).bind fun d ρ => R.of (seqI d) ρ := rfl
theorem g_var {i : Nat} {d : D} {k : Kd} : evG cl (.var i) d k ρ = putName ρ i d k := rfl
theorem g_tup {ts : E} {xs : List D} {k : Kd} : evG cl (.tup ts) (.tup xs) k ρ = evGs cl ts xs ρ := rfl
theorem g_idxF {j : Nat} {i : E} {d : D} : evG cl (.idx (.var j) i) d .frz ρ = if ownS (getS ρ j) = true then (evE cl i ρ).bind fun y ρ => storeIx ρ j y.1 d else .no := rfl
theorem g_idxN {j : Nat} {i : E} {d : D} : evG cl (.idx (.var j) i) d .fr ρ = if ownS (getS ρ j) = true then (evE cl i ρ).bind fun y ρ => storeIx ρ j y.1 d else .no := rfl
theorem gs_nil : evGs cl .nil [] ρ = .ok () ρ := rfl
theorem gs_cons {t r : E} {d : D} {ds : List D} : evGs cl (.cons t r) (d :: ds) ρ = (evG cl t d .frz ρ).bind fun _ ρ => evGs cl r ds ρ := rfl
end
theorem getS0 {s : Mp.Slot} {ρ : Env} : getS (s :: ρ) 0 = s := rfl
theorem getS1 {s : Mp.Slot} {ρ : Env} {i : Nat} : getS (s :: ρ) (i + 1) = getS ρ i := by
  unfold getS
  rw [List.getElem?_cons_succ]
theorem cur_f {ρ : Env} {d : D} : cur ρ d .frz = d := rfl
theorem cur_n {ρ : Env} {d : D} : cur ρ d .fr = d := rfl
theorem cur_p {ρ : Env} {d : D} {i : Nat} : cur ρ d (.pk i) = (match getS ρ i with | .own d => d | .io d => d | .val d => d | .un => d) := rfl
theorem settle_f {ρ : Env} {d : D} : Mp.settle ρ d .frz = .ok d ρ := rfl
theorem settle_n {ρ : Env} {d : D} : Mp.settle ρ d .fr = .ok d ρ := rfl
theorem settle_p {ρ : Env} {d : D} {i : Nat} : Mp.settle ρ d (.pk i) = (match getS ρ i with | .own d => .ok d (ρ.set i (.val d)) | _ => .no) := rfl
theorem keep_f {ρ : Env} {d : D} : keep ρ d .frz = .ok (d, .frz) ρ := rfl
theorem keep_n {ρ : Env} {d : D} : keep ρ d .fr = .ok (d, .fr) ρ := rfl
theorem keep_p {ρ : Env} {d : D} {i : Nat} : keep ρ d (.pk i) = (Mp.settle ρ d (.pk i)).bind fun d ρ => .ok (d, .frz) ρ := rfl
theorem kd_t : kdOf true = .fr := rfl
theorem kd_f : kdOf false = .frz := rfl
theorem tr_non : truthD .non = some false := rfl
theorem tr_bl {b : Bool} : truthD (.bl b) = some b := rfl
theorem tr_int {i : Int} : truthD (.int i) = some (i != 0) := rfl
theorem tr_tup {xs : List D} : truthD (.tup xs) = some (!xs.isEmpty) := rfl
theorem tr_lst {xs : List D} : truthD (.lst xs) = some (!xs.isEmpty) := rfl
theorem tr_scr {xs : List D} : truthD (.scr xs) = some (!xs.isEmpty) := rfl
theorem ix_tup {xs : List D} {i : Int} : idxD (.tup xs) (.int i) = (Mp.ixN xs.length i).bind fun j => xs[j]? := rfl
theorem ix_lst {xs : List D} {i : Int} : idxD (.lst xs) (.int i) = (Mp.ixN xs.length i).bind fun j => xs[j]? := rfl
theorem sl_tup {xs : List D} {a b : Option Int} : slD (.tup xs) a b = some (.tup (cutD xs a b), false) := rfl
theorem sl_lst {xs : List D} {a b : Option Int} : slD (.lst xs) a b = some (.lst (cutD xs a b), true) := rfl
theorem b_len_t {xs : List D} : bltD .len [.tup xs] = some (.int xs.length, false) := rfl
theorem b_len_l {xs : List D} : bltD .len [.lst xs] = some (.int xs.length, false) := rfl
theorem b_len_s {xs : List D} : bltD .len [.scr xs] = some (.int xs.length, false) := rfl
theorem b_tuple_t {xs : List D} : bltD .tuple [.tup xs] = some (.tup xs, false) := rfl
theorem b_tuple_l {xs : List D} : bltD .tuple [.lst xs] = some (.tup xs, false) := rfl
theorem b_list_t {xs : List D} : bltD .list [.tup xs] = some (.lst xs, true) := rfl
theorem b_list_l {xs : List D} : bltD .list [.lst xs] = some (.lst xs, true) := rfl
theorem b_int_i {i : Int} : bltD .int [.int i] = some (.int i, false) := rfl
theorem b_int_b {k : Bool} : bltD .int [.bl k] = some (.int (if k then 1 else 0), false) := rfl
theorem b_abs {i : Int} : bltD .abs [.int i] = some (.int (if i < 0 then -i else i), false) := rfl
theorem b_max {i j : Int} : bltD .max [.int i, .int j] = some (.int (if j > i then j else i), false) := rfl
theorem b_min {i j : Int} : bltD .min [.int i, .int j] = some (.int (if j < i then j else i), false) := rfl
theorem b_sum {xs : List D} : bltD .sum [.lst xs] = (intsOf xs).map fun ns => (.int ns.sum, false) := rfl
theorem b_all {xs : List D} : bltD .all [.lst xs] = (bolsOf xs).map fun bs => (.bl (bs.all id), false) := rfl
theorem b_any {xs : List D} : bltD .any [.lst xs] = (bolsOf xs).map fun bs => (.bl (bs.any id), false) := rfl
theorem bo_nil : bolsOf [] = some [] := rfl
theorem bo_cons {b : Bool} {r : List D} : bolsOf (.bl b :: r) = (bolsOf r).map (b :: ·) := rfl
theorem in_nil : intsOf [] = some [] := rfl
theorem in_cons {b : Int} {r : List D} : intsOf (.int b :: r) = (intsOf r).map (b :: ·) := rfl
theorem isin_non {t : Nat} : isinD t .non = if t < 5 then some (isinT t 0) else none := by simp [isinD, tyIx]
theorem isin_bl {t : Nat} {b : Bool} : isinD t (.bl b) = if t < 5 then some (isinT t 1) else none := by simp [isinD, tyIx]
theorem isin_int {t : Nat} {b : Int} : isinD t (.int b) = if t < 5 then some (isinT t 2) else none := by simp [isinD, tyIx]
theorem isin_str {t : Nat} {b : Str} : isinD t (.str b) = if t < 5 then some (isinT t 3) else none := by simp [isinD, tyIx]
theorem isin_tup {t : Nat} {b : List D} : isinD t (.tup b) = if t < 5 then some (isinT t 4) else none := by simp [isinD, tyIx]
theorem isin_lst {t : Nat} {b : List D} : isinD t (.lst b) = if t < 5 then some (isinT t 5) else none := by simp [isinD, tyIx]
theorem seq_t {xs : List D} : seqOf (.tup xs) = some xs := rfl
theorem seq_l {xs : List D} : seqOf (.lst xs) = some xs := rfl
theorem seqI_t {xs : List D} : seqI (.tup xs) = some xs := rfl
theorem seqI_l {xs : List D} : seqI (.lst xs) = some xs := rfl
theorem seqI_s {xs : List D} : seqI (.scr xs) = some xs := rfl
theorem seq_s {xs : List D} : seqOf (.scr xs) = some xs := rfl
theorem own_v {d : D} : ownS (.val d) = false := rfl
theorem own_o {d : D} : ownS (.own d) = true := rfl
theorem own_i {d : D} : ownS (.io d) = true := rfl
theorem own_u : ownS .un = false := rfl
theorem pl_v {d : D} : plainS (.val d) = true := rfl
theorem pl_u : plainS .un = true := rfl
theorem wipe_n {ρ : Env} : wipe ρ [] = ρ := rfl
theorem wipe_c {ρ : Env} {v : Nat} {vs : List Nat} : wipe ρ (v :: vs) = (wipe ρ vs).set v .un := rfl
theorem unw_n {ρ0 ρ : Env} : unwipe ρ0 ρ [] = ρ := rfl
theorem unw_c {ρ0 ρ : Env} {v : Nat} {vs : List Nat} : unwipe ρ0 ρ (v :: vs) = (unwipe ρ0 ρ vs).set v (getS ρ0 v) := rfl
theorem fin_rt {ios : List Bool} {d : D} {b : Bool} {ρ : Env} : Mp.finish ios (.rt d b ρ) = (outsOf ios ρ).map fun os => (d, b, os) := rfl
theorem fin_nx {ios : List Bool} {ρ : Env} : Mp.finish ios (.nx ρ) = (outsOf ios ρ).map fun os => (.non, false, os) := rfl
theorem out_n {ρ : Env} : outsOf [] ρ = some [] := rfl
theorem out_t {r : List Bool} {d : D} {ρ : Env} : outsOf (true :: r) (.io d :: ρ) = (outsOf r ρ).map (d :: ·) := rfl
theorem out_f {r : List Bool} {s : Mp.Slot} {ρ : Env} : outsOf (false :: r) (s :: ρ) = outsOf r ρ := rfl
theorem six_none {n d : Nat} : sIx n d none = d := rfl
theorem six_some {n d : Nat} {v : Int} : sIx n d (some v) = if v < 0 then (v + (n : Int)).toNat else min v.toNat n := rfl
theorem call_eq {T : List Df} {n f : Nat} {fl : List Bool} {ds : List D} {df : Df} (h : T[f]? = some df) (h1 : df.ios = fl) (h2 : ds.length = df.ps.length) (h3 : df.ios.length = df.ps.length) :
    callN T (n + 1) f fl ds = finish df.ios (evS (callN T n) df.body (init df ds)) := by
  show (match T[f]? with
    | none => none
    | some df => if df.ios = fl ∧ ds.length = df.ps.length ∧ df.ios.length = df.ps.length then finish df.ios (evS (callN T n) df.body (init df ds)) else none) = _
  rw [h]
  show (if _ then _ else _) = _
  rw [if_pos ⟨h1, h2, h3⟩]
@[simp] theorem D.ok_int (a : Int) : (D.int a).ok = true := rfl
theorem eqD_int (a b : Int) : eqD (.int a) (.int b) = some (decide (a = b)) := by
  unfold eqD
  rw [if_pos ⟨rfl, rfl, by simp [D.toP, PyData.depth]⟩]
  rfl
theorem ltD_int (a b : Int) : ltD (.int a) (.int b) = some (decide (a < b)) := by
  unfold ltD
  rw [if_pos ⟨rfl, rfl, rfl, rfl, by simp [D.toP, PyData.depth]⟩]
  simp only [D.toP, PySem.W.dataLt_int]
theorem cmp_eq_int (a b : Int) : cmpD .eq (.int a) (.int b) = some (decide (a = b)) := eqD_int a b
theorem cmp_ne_int (a b : Int) : cmpD .ne (.int a) (.int b) = some (!decide (a = b)) := by
  simp [cmpD, eqD_int]
theorem cmp_lt_int (a b : Int) : cmpD .lt (.int a) (.int b) = some (decide (a < b)) := ltD_int a b
theorem cmp_gt_int (a b : Int) : cmpD .gt (.int a) (.int b) = some (decide (b < a)) := ltD_int b a
theorem cmp_le_int (a b : Int) : cmpD .le (.int a) (.int b) = some (decide (a ≤ b)) := by
  simp only [cmpD, ltD_int, Option.map_some]
  congr 1
  by_cases h : a ≤ b
  · rw [decide_eq_true h, decide_eq_false (by omega)] <;> rfl
  · rw [decide_eq_false h, decide_eq_true (by omega)] <;> rfl
theorem cmp_ge_int (a b : Int) : cmpD .ge (.int a) (.int b) = some (decide (b ≤ a)) := by
  simp only [cmpD, ltD_int, Option.map_some]
  congr 1
  by_cases h : b ≤ a
  · rw [decide_eq_true h, decide_eq_false (by omega)] <;> rfl
  · rw [decide_eq_false h, decide_eq_true (by omega)] <;> rfl
theorem bin_add_int (a b : Int) : binD .add (.int a) (.int b) = some (.int (a + b), false) := rfl
theorem bin_sub_int (a b : Int) : binD .sub (.int a) (.int b) = some (.int (a - b), false) := rfl
theorem bin_mul_r {a b : Int} (h : -(2 ^ 64) < b ∧ b < 2 ^ 64) : binD .mul (.int a) (.int b) = some (.int (a * b), false) := if_pos (.inr h)
theorem bin_mul_l {a b : Int} (h : -(2 ^ 64) < a ∧ a < 2 ^ 64) : binD .mul (.int a) (.int b) = some (.int (a * b), false) := if_pos (.inl h)
theorem bin_mod_int {a b : Int} (h : 0 < b) : binD .mod (.int a) (.int b) = some (.int (a % b), false) := if_pos h
theorem bin_fdiv_int {a b : Int} (h : 0 < b ∧ b < 1073741824) : binD .fdiv (.int a) (.int b) = some (.int (a / b), false) := if_pos h
theorem bin_pow_int {a b : Int} (h : 0 ≤ b ∧ b ≤ 1000000 ∧ a.natAbs < 2 ^ 64) : binD .pow (.int a) (.int b) = some (.int (a ^ b.toNat), false) := if_pos h
theorem bin_add_tup {a b : List D} (h : a.length + b.length ≤ sizeLine) : binD .add (.tup a) (.tup b) = some (.tup (a ++ b), false) := if_pos h
theorem eq_nil : cmpD .eq (.lst []) (.lst []) = some true := by
  show eqD _ _ = _
  unfold eqD
  rw [if_pos (by simp [D.ok, D.toP, D.toPs, PyData.plain, PyData.plainAll, PyData.depth, PyData.depthAll])]
  simp [D.toP, D.toPs, PyData.eqv, PyData.eqvAll]
theorem is_non {a : D} : cmpD .is_ a .non = some a.isNon := by
  cases a <;> rfl
theorem isn_non {a : D} : cmpD .isn a .non = some (!a.isNon) := by
  cases a <;> rfl
theorem isNon_int {i : Int} : (D.int i).isNon = false := rfl
theorem isNon_tup {i : List D} : (D.tup i).isNon = false := rfl
theorem isNon_lst {i : List D} : (D.lst i).isNon = false := rfl
theorem isNon_bl {i : Bool} : (D.bl i).isNon = false := rfl
theorem isNon_str {i : Str} : (D.str i).isNon = false := rfl
theorem isNon_non : D.non.isNon = true := rfl
theorem line_big : 100000 ≤ sizeLine := by decide
theorem sz_ok {n : Nat} (h : n ≤ 100000) : n ≤ sizeLine := Nat.le_trans h line_big
theorem sz_lt {n : Nat} (h : n < 100000) : n < sizeLine := Nat.lt_of_lt_of_le h line_big
theorem bin_mul_tup {a : List D} {k : Int} (h : 1 ≤ k ∧ k ≤ 1000 ∧ a.length ≤ 1000) : binD .mul (.tup a) (.int k) = some (.tup (List.replicate k.toNat a).flatten, false) := if_pos (.inr h)
theorem bin_add_lst {a b : List D} (h : a.length + b.length ≤ sizeLine) : binD .add (.lst a) (.lst b) = some (.lst (a ++ b), true) := if_pos h
theorem eq_tup_nil : cmpD .eq (.tup []) (.tup []) = some true := by
  show eqD _ _ = _
  unfold eqD
  rw [if_pos (by simp [D.ok, D.toP, D.toPs, PyData.plain, PyData.plainAll, PyData.depth, PyData.depthAll])]
  simp [D.toP, D.toPs, PyData.eqv, PyData.eqvAll]
theorem eq_cons_nil {x : D} {xs : List D} (h : (D.tup (x :: xs)).ok = true) : cmpD .eq (.tup (x :: xs)) (.tup []) = some false := by
  show eqD _ _ = _
  unfold eqD
  rw [if_pos ⟨h, by simp [D.ok, D.toP, D.toPs, PyData.plain, PyData.plainAll], by simp [D.toP, D.toPs, PyData.depth, PyData.depthAll]⟩]
  simp [D.toP, D.toPs, PyData.eqv, PyData.eqvAll]
theorem blt_divmod_int {a b : Int} (h : 0 < b ∧ b < 1073741824) : bltD .divmod [.int a, .int b] = some (.tup [.int (a / b), .int (a % b)], false) := if_pos h
theorem call1 {T : List Df} {n f : Nat} {fl : List Bool} {ds : List D} {df : Df} {r : CRes} (h : T[f]? = some df) (h1 : df.ios = fl) (h2 : ds.length = df.ps.length) (h3 : df.ios.length = df.ps.length)
    (h4 : finish df.ios (evS (callN T n) df.body (init df ds)) = r) : callN T (n + 1) f fl ds = r := (call_eq h h1 h2 h3).trans h4
/-- a place that a name's store may take -/
def notIo : Mp.Slot → Bool
  | .io _ => false
  | _ => true
theorem notIo_un : notIo .un = true := rfl
theorem notIo_val (d : D) : notIo (.val d) = true := rfl
theorem notIo_own (d : D) : notIo (.own d) = true := rfl
theorem put_val {ρ : Env} {i : Nat} {d : D} (h : notIo (getS ρ i) = true) (hi : i < ρ.length) : putName ρ i d .frz = .ok () (ρ.set i (.val d)) := by
  unfold putName
  cases e : getS ρ i with
  | un => simp [hi]
  | val x => simp [hi]
  | own x => simp [hi]
  | io x => rw [e] at h; cases h
theorem put_new {ρ : Env} {i : Nat} {d : D} (h : notIo (getS ρ i) = true) (hi : i < ρ.length) : putName ρ i d .fr = .ok () (ρ.set i (.own d)) := by
  unfold putName
  cases e : getS ρ i with
  | un => simp [hi]
  | val x => simp [hi]
  | own x => simp [hi]
  | io x => rw [e] at h; cases h
theorem idx_scr (ns : List Int) (k : Nat) (h : k < ns.length) : idxD (.scr (ns.map D.int)) (.int (k : Int)) = some (.int ns[k]) := by
  show (Mp.ixN (ns.map D.int).length (k : Int)).bind _ = _
  have e : Mp.ixN (ns.map D.int).length (k : Int) = some k := by
    unfold Mp.ixN
    rw [if_pos (by omega), if_pos (by rw [List.length_map]; omega), Int.toNat_natCast]
  rw [e]
  show (ns.map D.int)[k]? = _
  rw [List.getElem?_map, List.getElem?_eq_getElem h] <;> rfl
theorem cut_to (xs : List D) (n : Nat) : cutD xs none (some (n : Int)) = xs.take n := by
  have e : sIx xs.length xs.length (some (n : Int)) = min n xs.length := by
    show (if (n : Int) < 0 then ((n : Int) + (xs.length : Int)).toNat else min (n : Int).toNat xs.length) = _
    rw [if_neg (by omega), Int.toNat_natCast]
  unfold cutD
  rw [e]
  show (xs.drop 0).take (min n xs.length - 0) = _
  rw [List.drop_zero, Nat.sub_zero, ← List.take_eq_take_min]
end Mp

set_option maxRecDepth 100000
set_option maxHeartbeats 0
namespace K01
open PySem PySem.Spec PyProof.Rows L2 Mp
/-! the table of defs, printed by gen.py -/
def d0 : Df := ⟨"is_whole", ["value"], ["value"], [false],
  (.seq (.ret (.and (.isin 0 (.var 0)) (.not (.tr (.isin 1 (.var 0)))))) .skip)⟩
def d1 : Df := ⟨"is_between", ["value", "least", "most"], ["value", "least", "most"], [false, false, false],
  (.seq (.ret (.and (.call 0 (.cons (.var 0) .nil)) (.cmp2 .le .le (.var 1) (.var 0) (.var 2)))) .skip)⟩
def d2 : Df := ⟨"wrong_in", ["value", "least", "most", "is_right"], ["value", "least", "most", "is_right", "index", "each"], [false, false, false, false],
  (.seq (.ite (.or (.not (.tr (.isin 3 (.var 0)))) (.tr (.cmp .lt (.blt .len (.cons (.var 0) .nil)) (.var 1)))) (.seq (.ret (.lst (.cons (.con .non) .nil))) .skip) .skip) (.seq (.for_ (.tup (.cons (.var 4) (.cons (.var 5) .nil))) (.enm (.var 0)) (.seq (.ite (.or (.tr (.cmp .eq (.var 4) (.var 2))) (.not (.tr (.calv 3 (.cons (.sl (.var 0) .nil (.cons (.var 4) .nil)) (.cons (.var 5) .nil)))))) (.seq (.ret (.lst (.cons (.var 4) .nil))) .skip) .skip) .skip)) (.seq (.ret (.lst .nil)) .skip)))⟩
def d3 : Df := ⟨"are_all", ["value", "least", "most", "is_right"], ["value", "least", "most", "is_right"], [false, false, false, false],
  (.seq (.ret (.cmp .eq (.call 2 (.cons (.var 0) (.cons (.var 1) (.cons (.var 2) (.cons (.var 3) .nil))))) (.lst .nil))) .skip)⟩
def d4 : Df := ⟨"is_side", ["ahead", "value"], ["ahead", "value"], [false, false],
  (.seq (.ret (.call 1 (.cons (.var 1) (.cons (.neg (.glo "MOST_SORT" (.int 9))) (.cons (.glo "MOST_SORT" (.int 9)) .nil))))) .skip)⟩
def d5 : Df := ⟨"is_piece", ["value"], ["value"], [false],
  (.seq (.ret (.call 3 (.cons (.var 0) (.cons (.blt .len (.cons (.glo "SIDES" (.tup [(.int 0), (.int 1), (.int 2), (.int 3)])) .nil)) (.cons (.blt .len (.cons (.glo "SIDES" (.tup [(.int 0), (.int 1), (.int 2), (.int 3)])) .nil)) (.cons (.glo "is_side" (.fn 4)) .nil)))))) .skip)⟩
def d6 : Df := ⟨"is_next_piece", ["ahead", "value"], ["ahead", "value"], [false, false],
  (.seq (.ret (.and (.call 5 (.cons (.var 1) .nil)) (.or (.cmp .eq (.var 0) (.tup .nil)) (.cmp .le (.idx (.var 0) (.neg (.con (.int 1)))) (.var 1))))) .skip)⟩
def d7 : Df := ⟨"wrong_piece", ["pieces", "many"], ["pieces", "many"], [false, false],
  (.seq (.ite (.or (.not (.tr (.isin 3 (.var 0)))) (.tr (.cmp .ne (.blt .len (.cons (.var 0) .nil)) (.var 1)))) (.seq (.ret (.lst (.cons (.con .non) .nil))) .skip) .skip) (.seq (.ret (.call 2 (.cons (.var 0) (.cons (.var 1) (.cons (.var 1) (.cons (.glo "is_next_piece" (.fn 6)) .nil)))))) .skip))⟩
def d8 : Df := ⟨"check_rows", ["rows"], ["rows"], [false],
  (.seq (.ite (.not (.tr (.call 1 (.cons (.var 0) (.cons (.con (.int 1)) (.cons (.glo "MOST_CELLS" (.int 6)) .nil)))))) (.seq .never .skip) .skip) .skip)⟩
def d9 : Df := ⟨"check_columns", ["rows", "columns"], ["rows", "columns"], [false, false],
  (.seq (.ite (.or (.not (.tr (.call 1 (.cons (.var 1) (.cons (.con (.int 1)) (.cons (.glo "MOST_CELLS" (.int 6)) .nil)))))) (.tr (.cmp .gt (.bin .mul (.var 0) (.var 1)) (.glo "MOST_CELLS" (.int 6))))) (.seq .never .skip) .skip) .skip)⟩
def d10 : Df := ⟨"check_frame", ["rows", "columns"], ["rows", "columns"], [false, false],
  (.seq (.ex (.call 8 (.cons (.var 0) .nil))) (.seq (.ex (.call 9 (.cons (.var 0) (.cons (.var 1) .nil)))) .skip))⟩
def d11 : Df := ⟨"check_turning", ["turning"], ["turning"], [false],
  (.seq (.ite (.not (.tr (.isin 1 (.var 0)))) (.seq .never .skip) .skip) .skip)⟩
def d12 : Df := ⟨"_law_bowl", ["script", "lap"], ["script", "lap", "stir", "cell", "own"], [false, false],
  (.seq (.asg (.var 2) (.bin .add (.con (.int 771041)) (.bin .mul (.con (.int 8819)) (.var 1)))) (.seq (.for_ (.var 3) (.it (.sl (.var 0) .nil (.cons (.con (.int 9)) .nil))) (.seq (.asg (.var 2) (.bin .mod (.blt .int (.cons (.bin .add (.bin .add (.bin .mul (.var 2) (.con (.int 48611))) (.bin .mul (.bin .mod (.blt .int (.cons (.var 3) .nil)) (.con (.int 2147483053))) (.con (.int 19)))) (.con (.int 41))) .nil)) (.con (.int 2147483563)))) .skip)) (.seq (.asg (.var 4) (.ife (.tr (.cmp .lt (.var 1) (.blt .len (.cons (.var 0) .nil)))) (.blt .int (.cons (.idx (.var 0) (.var 1)) .nil)) (.con (.int 0)))) (.seq (.asg (.var 2) (.bin .mod (.blt .int (.cons (.bin .add (.bin .add (.bin .mul (.var 2) (.con (.int 53))) (.bin .mul (.bin .mod (.var 4) (.con (.int 2147483053))) (.con (.int 27011)))) (.con (.int 11))) .nil)) (.con (.int 2147483563)))) (.seq (.ret (.lst (.cons (.ife (.or (.tr (.cmp .lt (.var 4) (.con (.int 0)))) (.tr (.cmp .ge (.var 4) (.bin .pow (.con (.int 10)) (.con (.int 16)))))) (.blt .abs (.cons (.var 4) .nil)) (.con (.int 0))) (.cons (.var 2) (.cons (.con (.int 0)) .nil))))) .skip)))))⟩
def d13 : Df := ⟨"_law_draw", ["bowl", "many"], ["bowl", "many", "figure", "turn"], [true, false],
  (.seq (.ite (.tr (.cmp .gt (.idx (.var 0) (.con (.int 0))) (.con (.int 0)))) (.seq (.asg (.tup (.cons (.idx (.var 0) (.con (.int 0))) (.cons (.var 2) .nil))) (.blt .divmod (.cons (.idx (.var 0) (.con (.int 0))) (.cons (.var 1) .nil)))) (.seq (.ret (.var 2)) .skip)) .skip) (.seq (.asg (.idx (.var 0) (.con (.int 2))) (.bin .add (.idx (.var 0) (.con (.int 2))) (.con (.int 1)))) (.seq (.asg (.var 3) (.bin .mod (.blt .int (.cons (.bin .add (.bin .mul (.idx (.var 0) (.con (.int 1))) (.con (.int 39373))) (.bin .mul (.con (.int 17011)) (.idx (.var 0) (.con (.int 2))))) .nil)) (.con (.int 2147483563)))) (.seq (.asg (.idx (.var 0) (.con (.int 1))) (.bin .mod (.blt .int (.cons (.bin .add (.bin .mul (.var 3) (.bin .add (.bin .mod (.blt .int (.cons (.var 3) .nil)) (.con (.int 4093))) (.con (.int 30011)))) (.bin .mul (.con (.int 7)) (.idx (.var 0) (.con (.int 2))))) .nil)) (.con (.int 2147483563)))) (.seq (.ret (.bin .mod (.blt .int (.cons (.bin .fdiv (.idx (.var 0) (.con (.int 1))) (.con (.int 733))) .nil)) (.var 1))) .skip)))))⟩
def d14 : Df := ⟨"_law_of", ["bowl", "some"], ["bowl", "some"], [true, false],
  (.seq (.ret (.idx (.var 1) (.call 13 (.ioa 0 (.cons (.blt .len (.cons (.var 1) .nil)) .nil))))) .skip)⟩
def d15 : Df := ⟨"_law_same", ["told", "due"], ["told", "due", "k"], [false, false],
  (.seq (.ite (.tr (.isin 3 (.var 1))) (.seq (.ite (.or (.not (.tr (.isin 3 (.var 0)))) (.tr (.cmp .ne (.blt .len (.cons (.var 0) .nil)) (.blt .len (.cons (.var 1) .nil))))) (.seq (.ret (.con (.bl false))) .skip) .skip) (.seq (.ret (.blt .all (.cons (.lc [2] (.var 2) (.rng1 (.blt .len (.cons (.var 1) .nil))) .nil (.call 15 (.cons (.idx (.var 0) (.var 2)) (.cons (.idx (.var 1) (.var 2)) .nil)))) .nil))) .skip)) .skip) (.seq (.ite (.tr (.cmp .is_ (.var 1) (.con .non))) (.seq (.ret (.cmp .is_ (.var 0) (.con .non))) .skip) .skip) (.seq (.ite (.tr (.isin 1 (.var 1))) (.seq (.ret (.and (.isin 1 (.var 0)) (.cmp .eq (.var 0) (.var 1)))) .skip) .skip) (.seq (.ite (.tr (.isin 0 (.var 1))) (.seq (.ret (.and (.isin 0 (.var 0)) (.and (.not (.tr (.isin 1 (.var 0)))) (.cmp .eq (.var 0) (.var 1))))) .skip) .skip) (.seq (.ite (.tr (.isin 2 (.var 1))) (.seq (.ret (.and (.isin 2 (.var 0)) (.cmp .eq (.var 0) (.var 1)))) .skip) .skip) (.seq (.ret (.cmp .eq (.var 0) (.var 1))) .skip))))))⟩
def d16 : Df := ⟨"_law_turned", ["piece", "quarters"], ["piece", "quarters"], [false, false],
  (.seq (.ret (.bin .add (.sl (.var 0) (.cons (.bin .sub (.con (.int 4)) (.var 1)) .nil) .nil) (.sl (.var 0) .nil (.cons (.bin .sub (.con (.int 4)) (.var 1)) .nil)))) .skip)⟩
def d17 : Df := ⟨"_law_frame", ["bowl", "most"], ["bowl", "most", "frames", "frame"], [true, false],
  (.seq (.asg (.var 2) (.lst (.cons (.tup (.cons (.con (.int 1)) (.cons (.con (.int 1)) .nil))) (.cons (.tup (.cons (.con (.int 1)) (.cons (.con (.int 2)) .nil))) (.cons (.tup (.cons (.con (.int 2)) (.cons (.con (.int 1)) .nil))) (.cons (.tup (.cons (.con (.int 1)) (.cons (.con (.int 3)) .nil))) (.cons (.tup (.cons (.con (.int 3)) (.cons (.con (.int 1)) .nil))) (.cons (.tup (.cons (.con (.int 2)) (.cons (.con (.int 2)) .nil))) (.cons (.tup (.cons (.con (.int 2)) (.cons (.con (.int 2)) .nil))) (.cons (.tup (.cons (.con (.int 1)) (.cons (.con (.int 4)) .nil))) (.cons (.tup (.cons (.con (.int 4)) (.cons (.con (.int 1)) .nil))) (.cons (.tup (.cons (.con (.int 1)) (.cons (.con (.int 5)) .nil))) (.cons (.tup (.cons (.con (.int 5)) (.cons (.con (.int 1)) .nil))) (.cons (.tup (.cons (.con (.int 2)) (.cons (.con (.int 3)) .nil))) (.cons (.tup (.cons (.con (.int 3)) (.cons (.con (.int 2)) .nil))) (.cons (.tup (.cons (.con (.int 2)) (.cons (.con (.int 3)) .nil))) (.cons (.tup (.cons (.con (.int 6)) (.cons (.con (.int 1)) .nil))) (.cons (.tup (.cons (.con (.int 1)) (.cons (.con (.int 6)) .nil))) .nil)))))))))))))))))) (.seq (.ret (.call 14 (.ioa 0 (.cons (.lc [3] (.var 3) (.it (.var 2)) (.tr (.cmp .le (.bin .mul (.idx (.var 3) (.con (.int 0))) (.idx (.var 3) (.con (.int 1)))) (.var 1))) (.var 3)) .nil)))) .skip))⟩
def d18 : Df := ⟨"_law_whole", ["bowl", "rows", "columns", "sorts"], ["bowl", "rows", "columns", "sorts", "east", "south", "found", "i", "j", "north", "west"], [true, false, false, false],
  (.seq (.par [4, 5, 6] (.cons (.uop .dnew .nil) (.cons (.uop .dnew .nil) (.cons (.lst .nil) .nil)))) (.seq (.for_ (.var 7) (.rng1 (.var 1)) (.seq (.for_ (.var 8) (.rng1 (.var 2)) (.seq (.dst 4 (.var 7) (.var 8) (.ife (.tr (.cmp .lt (.bin .add (.var 8) (.con (.int 1))) (.var 2))) (.bin .mul (.bin .add (.con (.int 1)) (.call 13 (.ioa 0 (.cons (.var 3) .nil)))) (.call 14 (.ioa 0 (.cons (.tup (.cons (.con (.int 1)) (.cons (.bin .sub (.con (.int 0)) (.con (.int 1))) .nil))) .nil)))) (.con (.int 0)))) (.seq (.dst 5 (.var 7) (.var 8) (.ife (.tr (.cmp .lt (.bin .add (.var 7) (.con (.int 1))) (.var 1))) (.bin .mul (.bin .add (.con (.int 1)) (.call 13 (.ioa 0 (.cons (.var 3) .nil)))) (.call 14 (.ioa 0 (.cons (.tup (.cons (.con (.int 1)) (.cons (.bin .sub (.con (.int 0)) (.con (.int 1))) .nil))) .nil)))) (.con (.int 0)))) (.seq (.par [9, 10] (.cons (.ife (.tr (.cmp .gt (.var 7) (.con (.int 0)))) (.bin .sub (.con (.int 0)) (.vop .dix 5 (.bin .sub (.var 7) (.con (.int 1))) (.var 8))) (.con (.int 0))) (.cons (.ife (.tr (.cmp .gt (.var 8) (.con (.int 0)))) (.bin .sub (.con (.int 0)) (.vop .dix 4 (.var 7) (.bin .sub (.var 8) (.con (.int 1))))) (.con (.int 0))) .nil))) (.seq (.app 6 (.tup (.cons (.var 9) (.cons (.vop .dix 4 (.var 7) (.var 8)) (.cons (.vop .dix 5 (.var 7) (.var 8)) (.cons (.var 10) .nil)))))) .skip))))) .skip)) (.seq (.ret (.var 6)) .skip)))⟩
def d19 : Df := ⟨"_law_puzzle", ["bowl", "most"], ["bowl", "most", "rows", "columns", "turning", "pieces", "piece", "at", "k", "side"], [true, false],
  (.seq (.asg (.tup (.cons (.var 2) (.cons (.var 3) .nil))) (.call 17 (.ioa 0 (.cons (.var 1) .nil)))) (.seq (.par [4, 5] (.cons (.cmp .eq (.call 13 (.ioa 0 (.cons (.con (.int 2)) .nil))) (.con (.int 0))) (.cons (.call 18 (.ioa 0 (.cons (.var 2) (.cons (.var 3) (.cons (.call 14 (.ioa 0 (.cons (.tup (.cons (.con (.int 1)) (.cons (.con (.int 1)) (.cons (.con (.int 2)) (.cons (.con (.int 3)) (.cons (.con (.int 9)) .nil)))))) .nil))) .nil))))) .nil))) (.seq (.ite (.tr (.var 4)) (.seq (.asg (.var 5) (.lc [6] (.var 6) (.it (.var 5)) .nil (.call 16 (.cons (.var 6) (.cons (.call 13 (.ioa 0 (.cons (.con (.int 4)) .nil))) .nil))))) .skip) .skip) (.seq (.ite (.tr (.cmp .eq (.call 13 (.ioa 0 (.cons (.con (.int 4)) .nil))) (.con (.int 0)))) (.seq (.par [7, 8, 9] (.cons (.call 13 (.ioa 0 (.cons (.blt .len (.cons (.var 5) .nil)) .nil))) (.cons (.call 13 (.ioa 0 (.cons (.con (.int 4)) .nil))) (.cons (.call 14 (.ioa 0 (.cons (.tup (.cons (.con (.int 0)) (.cons (.con (.int 1)) (.cons (.bin .sub (.con (.int 0)) (.con (.int 1))) (.cons (.con (.int 2)) (.cons (.bin .sub (.con (.int 0)) (.con (.int 2))) .nil)))))) .nil))) .nil)))) (.seq (.asg (.idx (.var 5) (.var 7)) (.bin .add (.bin .add (.sl (.idx (.var 5) (.var 7)) .nil (.cons (.var 8) .nil)) (.tup (.cons (.var 9) .nil))) (.sl (.idx (.var 5) (.var 7)) (.cons (.bin .add (.var 8) (.con (.int 1))) .nil) .nil))) .skip)) .skip) (.seq (.ret (.tup (.cons (.var 2) (.cons (.var 3) (.cons (.blt .tuple (.cons (.blt .sorted (.cons (.var 5) .nil)) .nil)) (.cons (.var 4) .nil)))))) .skip)))))⟩
def d20 : Df := ⟨"_law_made", ["puzzle"], ["puzzle"], [false],
  (.seq (.ret (.mk 0 23 ["rows", "columns", "pieces", "turning", "parts"] (.cons (.idx (.var 0) (.con (.int 0))) (.cons (.idx (.var 0) (.con (.int 1))) (.cons (.idx (.var 0) (.con (.int 2))) (.cons (.idx (.var 0) (.con (.int 3))) .nil)))))) .skip)⟩
def d21 : Df := ⟨"_law_right", ["bowl"], ["bowl", "lap", "puzzle", "other", "made"], [true],
  (.seq (.for_ (.var 1) (.rng1 (.con (.int 8))) (.seq (.par [2, 3] (.cons (.call 19 (.ioa 0 (.cons (.con (.int 6)) .nil))) (.cons (.call 19 (.ioa 0 (.cons (.con (.int 2)) .nil))) .nil))) (.seq (.asg (.var 4) (.mkk 0 23 ["rows", "columns", "pieces", "turning", "parts"] [3, 2, 1, 0] .nil (.cons (.idx (.var 2) (.con (.int 3))) (.cons (.idx (.var 2) (.con (.int 2))) (.cons (.idx (.var 2) (.con (.int 1))) (.cons (.idx (.var 2) (.con (.int 0))) .nil)))))) (.seq (.ite (.not (.tr (.call 15 (.cons (.tup (.cons (.fld (.var 4) "rows") (.cons (.fld (.var 4) "columns") (.cons (.fld (.var 4) "pieces") (.cons (.fld (.var 4) "turning") (.cons (.fld (.var 4) "parts") .nil)))))) (.cons (.bin .add (.var 2) (.tup (.cons (.var 2) .nil))) .nil))))) (.seq (.ret (.con (.bl false))) .skip) .skip) (.seq (.ite (.not (.tr (.call 15 (.cons (.tup (.cons (.oeq false 0 24 (.var 4) (.call 20 (.cons (.var 2) .nil))) (.cons (.oeq false 0 24 (.var 4) (.call 20 (.cons (.var 3) .nil))) (.cons (.oeq false 0 24 (.var 4) (.var 2)) (.cons (.oeq true 0 24 (.var 4) (.call 20 (.cons (.var 2) .nil))) .nil))))) (.cons (.tup (.cons (.con (.bl true)) (.cons (.cmp .eq (.var 2) (.var 3)) (.cons (.con (.bl false)) (.cons (.con (.bl false)) .nil))))) .nil))))) (.seq (.ret (.con (.bl false))) .skip) .skip) (.seq (.ite (.or (.tr (.oeq false 0 24 (.var 4) (.mk 0 23 ["rows", "columns", "pieces", "turning", "parts"] (.cons (.idx (.var 2) (.con (.int 0))) (.cons (.idx (.var 2) (.con (.int 1))) (.cons (.idx (.var 2) (.con (.int 2))) (.cons (.not (.tr (.idx (.var 2) (.con (.int 3))))) .nil))))))) (.and (.tr (.cmp .ne (.idx (.var 2) (.con (.int 0))) (.idx (.var 2) (.con (.int 1))))) (.tr (.oeq false 0 24 (.var 4) (.mk 0 23 ["rows", "columns", "pieces", "turning", "parts"] (.cons (.idx (.var 2) (.con (.int 1))) (.cons (.idx (.var 2) (.con (.int 0))) (.cons (.idx (.var 2) (.con (.int 2))) (.cons (.idx (.var 2) (.con (.int 3))) .nil))))))))) (.seq (.ret (.con (.bl false))) .skip) .skip) .skip)))))) (.seq (.ret (.con (.bl true))) .skip))⟩
def d22 : Df := ⟨"law", ["script"], ["script", "lap"], [false],
  (.seq (.ret (.blt .all (.cons (.lc [1] (.var 1) (.rng1 (.blt .max (.cons (.con (.int 1)) (.cons (.blt .min (.cons (.blt .len (.cons (.var 0) .nil)) (.cons (.con (.int 3)) .nil))) .nil)))) .nil (.calf 21 (.call 12 (.cons (.var 0) (.cons (.var 1) .nil))) .nil)) .nil))) .skip)⟩
def d23 : Df := ⟨"Puzzle.__init__", ["self", "rows", "columns", "pieces", "turning"], ["self", "rows", "columns", "pieces", "turning", "index"], [true, false, false, false, false],
  (.seq (.ex (.call 10 (.cons (.var 1) (.cons (.var 2) .nil)))) (.seq (.for_ (.var 5) (.it (.call 7 (.cons (.var 3) (.cons (.bin .mul (.var 1) (.var 2)) .nil)))) (.seq .never .skip)) (.seq (.ex (.call 11 (.cons (.var 4) .nil))) (.seq (.fst 0 "rows" (.var 1)) (.seq (.fst 0 "columns" (.var 2)) (.seq (.fst 0 "pieces" (.var 3)) (.seq (.fst 0 "turning" (.var 4)) (.seq (.fst 0 "parts" (.tup (.cons (.var 1) (.cons (.var 2) (.cons (.var 3) (.cons (.var 4) .nil)))))) .skip))))))))⟩
def d24 : Df := ⟨"Puzzle.__eq__", ["self", "other"], ["self", "other"], [false, false],
  (.seq (.ret (.and (.isinc 0 "Puzzle" (.var 1)) (.cmp .eq (.fld (.var 0) "parts") (.fld (.var 1) "parts")))) .skip)⟩
def T : List Df := ([d0, d1, d2, d3, d4, d5, d6, d7, d8, d9, d10, d11, d12, d13, d14, d15, d16, d17, d18, d19, d20, d21, d22, d23, d24] : List Df)
def vals : List (Str × D) := ([("is_whole", .fn 0), ("is_between", .fn 1), ("wrong_in", .fn 2), ("are_all", .fn 3), ("is_side", .fn 4), ("is_piece", .fn 5), ("is_next_piece", .fn 6), ("wrong_piece", .fn 7), ("check_rows", .fn 8), ("check_columns", .fn 9), ("check_frame", .fn 10), ("check_turning", .fn 11), ("_law_bowl", .fn 12), ("_law_draw", .fn 13), ("_law_of", .fn 14), ("_law_same", .fn 15), ("_law_turned", .fn 16), ("_law_frame", .fn 17), ("_law_whole", .fn 18), ("_law_puzzle", .fn 19), ("_law_made", .fn 20), ("_law_right", .fn 21), ("law", .fn 22), ("Puzzle", .cls 0), ("SIDES", (.tup [(.int 0), (.int 1), (.int 2), (.int 3)]))] : List (Str × D)) ++ ([("MOST_SORT", (.int 9)), ("MOST_CELLS", (.int 6))] : List (Str × D))
def free : List Str := ["abs", "all", "bool", "divmod", "enumerate", "int", "isinstance", "len", "max", "min", "range", "sorted", "str", "tuple"]
def cls : List (Str × List Str × Nat) := [("Puzzle", ["rows", "columns", "pieces", "turning", "parts"], 23)]
def eqs : List (Str × Nat × Nat) := [("Puzzle", 0, 24)]
abbrev lev : Nat := 39
end K01

set_option maxHeartbeats 4000000
set_option maxRecDepth 10000
namespace K01
open PySem Mp
def bowl (a s c : Int) : D := .lst [.int a, .int s, .int c]
theorem draw (n : Nat) (a s c m : Int) (h0 : 0 < m) (h1 : m < 1073741824) : ∃ a' s' c' r, 0 ≤ r ∧ r < m ∧ callN T (n + 1) 13 [true, false] [bowl a s c, .int m] = some (.int r, false, [bowl a' s' c']) := by
  have key := call_eq (T := T) (n := n) (f := 13) (fl := [true, false]) (ds := [bowl a s c, .int m]) (df := d13) rfl rfl rfl rfl
  by_cases h : 0 < a
  · simp [R.bind_ok', R.bind_no', R.of_some', R.fl_ok', Fl.bind_nx, Fl.bind_rt, s_skip, s_seq, s_asg, s_ex, s_ret, s_retn, s_ite, s_for, s_app, s_never, e_var, e_con, e_glo, e_tup, e_lst, e_neg, e_bin, e_cmp, e_cmp2, e_not, e_and, e_or, e_ife, e_idx, e_sl, e_call, e_callk, e_calf, e_calv, e_blt, e_isin, e_lc, l_nil, l_cons, a_nil, a_cons, a_ioa, p_nil, p_cons, o_nil, o_cons, t_not, t_and, t_or, t_nil, t_tr, i_rng1, i_rng2, i_enm, i_it, g_var, g_tup, g_idxF, g_idxN, gs_nil, gs_cons, Mp.init, initS, getS0, getS1, cur_f, cur_n, cur_p, settle_f, settle_n, settle_p, keep_f, keep_n, keep_p, kd_t, kd_f, tr_non, tr_bl, tr_int, tr_tup, tr_lst, tr_scr, ix_tup, ix_lst, sl_tup, sl_lst, b_len_t, b_len_l, b_len_s, b_tuple_t, b_tuple_l, b_list_t, b_list_l, b_int_i, b_int_b, b_abs, b_max, b_min, b_sum, b_all, b_any, bo_nil, bo_cons, in_nil, in_cons, isin_non, isin_bl, isin_int, isin_str, isin_tup, isin_lst, isinT, seq_t, seq_l, seq_s, own_v, own_o, own_i, own_u, pl_v, pl_u, wipe_n, wipe_c, unw_n, unw_c, fin_rt, fin_nx, out_n, out_t, out_f, six_none, six_some, Mp.ixN, storeIx, put_val, put_new, notIo_un, notIo_val, notIo_own, cmp_gt_int, cmp_lt_int, cmp_le_int, cmp_ge_int, cmp_eq_int, cmp_ne_int, bin_add_int, bin_sub_int, bin_mul_r, bin_mul_l, bin_mod_int, bin_fdiv_int, doCall, doCallF, argsD, iosOf, putOuts, setIo, Ar.isIo, Ar.d, bin_pow_int, bin_add_tup, eq_nil, is_non, isn_non, isNon_int, isNon_tup, isNon_lst, isNon_bl, isNon_str, isNon_non, sz_ok, sz_lt, s_ext, s_fst, s_par, m_nil, m_cons, puts_n, puts_c, e_fld, e_mk, e_isinc, isc_ins, ownL_o, ownL_i, lst_of, app_o, app_i, bin_mul_tup, bin_add_lst, eq_tup_nil, doMk, fldD, s_dst, e_dix, e_pop, e_dnew, e_lof1, e_lof2, e_rof1, e_rof2, e_bm, e_mkk, ownS_o, ownS_i, isLst_l, seqI_t, seqI_l, seqI_s, e_oeq, insB, othB, blR, d13, bowl, h, h0, blt_divmod_int ⟨h0, h1⟩, h1] at key
    exact ⟨_, _, _, _, Int.emod_nonneg _ (by omega), Int.emod_lt_of_pos _ h0, key⟩
  · have e : ∀ t : Int, binD .mul (.int (t % 2147483563)) (.int (t % 2147483563 % 4093 + 30011)) = some (.int (t % 2147483563 * (t % 2147483563 % 4093 + 30011)), false) := fun t => bin_mul_l (by omega)
    simp [R.bind_ok', R.bind_no', R.of_some', R.fl_ok', Fl.bind_nx, Fl.bind_rt, s_skip, s_seq, s_asg, s_ex, s_ret, s_retn, s_ite, s_for, s_app, s_never, e_var, e_con, e_glo, e_tup, e_lst, e_neg, e_bin, e_cmp, e_cmp2, e_not, e_and, e_or, e_ife, e_idx, e_sl, e_call, e_callk, e_calf, e_calv, e_blt, e_isin, e_lc, l_nil, l_cons, a_nil, a_cons, a_ioa, p_nil, p_cons, o_nil, o_cons, t_not, t_and, t_or, t_nil, t_tr, i_rng1, i_rng2, i_enm, i_it, g_var, g_tup, g_idxF, g_idxN, gs_nil, gs_cons, Mp.init, initS, getS0, getS1, cur_f, cur_n, cur_p, settle_f, settle_n, settle_p, keep_f, keep_n, keep_p, kd_t, kd_f, tr_non, tr_bl, tr_int, tr_tup, tr_lst, tr_scr, ix_tup, ix_lst, sl_tup, sl_lst, b_len_t, b_len_l, b_len_s, b_tuple_t, b_tuple_l, b_list_t, b_list_l, b_int_i, b_int_b, b_abs, b_max, b_min, b_sum, b_all, b_any, bo_nil, bo_cons, in_nil, in_cons, isin_non, isin_bl, isin_int, isin_str, isin_tup, isin_lst, isinT, seq_t, seq_l, seq_s, own_v, own_o, own_i, own_u, pl_v, pl_u, wipe_n, wipe_c, unw_n, unw_c, fin_rt, fin_nx, out_n, out_t, out_f, six_none, six_some, Mp.ixN, storeIx, put_val, put_new, notIo_un, notIo_val, notIo_own, cmp_gt_int, cmp_lt_int, cmp_le_int, cmp_ge_int, cmp_eq_int, cmp_ne_int, bin_add_int, bin_sub_int, bin_mul_r, bin_mul_l, bin_mod_int, bin_fdiv_int, doCall, doCallF, argsD, iosOf, putOuts, setIo, Ar.isIo, Ar.d, bin_pow_int, bin_add_tup, eq_nil, is_non, isn_non, isNon_int, isNon_tup, isNon_lst, isNon_bl, isNon_str, isNon_non, sz_ok, sz_lt, s_ext, s_fst, s_par, m_nil, m_cons, puts_n, puts_c, e_fld, e_mk, e_isinc, isc_ins, ownL_o, ownL_i, lst_of, app_o, app_i, bin_mul_tup, bin_add_lst, eq_tup_nil, doMk, fldD, s_dst, e_dix, e_pop, e_dnew, e_lof1, e_lof2, e_rof1, e_rof2, e_bm, e_mkk, ownS_o, ownS_i, isLst_l, seqI_t, seqI_l, seqI_s, e_oeq, insB, othB, blR, d13, bowl, h, h0, e] at key
    exact ⟨_, _, _, _, Int.emod_nonneg _ (by omega), Int.emod_lt_of_pos _ h0, key⟩
theorem bowl_loop (n : Nat) (S : D) (lap : Int) : ∀ (ns : List Int) (stir : Int) (s3 : Mp.Slot), notIo s3 = true → ∃ stir' s3', notIo s3' = true ∧
    forRun (callN T n) (.var 3) (.seq (.asg (.var 2) (.bin .mod (.blt .int (.cons (.bin .add (.bin .add (.bin .mul (.var 2) (.con (.int 48611))) (.bin .mul (.bin .mod (.blt .int (.cons (.var 3) .nil)) (.con (.int 2147483053))) (.con (.int 19)))) (.con (.int 41))) .nil)) (.con (.int 2147483563)))) .skip) (ns.map D.int) [.val S, .val (.int lap), .val (.int stir), s3, .un] = .nx [.val S, .val (.int lap), .val (.int stir'), s3', .un]
  | [], stir, s3, h => ⟨stir, s3, h, rfl⟩
  | x :: ns, stir, s3, h => by
    obtain ⟨stir', s3', h', e⟩ := bowl_loop n S lap ns ((stir * 48611 + x % 2147483053 * 19 + 41) % 2147483563) (.val (.int x)) rfl
    refine ⟨stir', s3', h', ?_⟩
    rw [← e]
    simp [R.bind_ok', R.bind_no', R.of_some', R.fl_ok', Fl.bind_nx, Fl.bind_rt, s_skip, s_seq, s_asg, s_ex, s_ret, s_retn, s_ite, s_for, s_app, s_never, e_var, e_con, e_glo, e_tup, e_lst, e_neg, e_bin, e_cmp, e_cmp2, e_not, e_and, e_or, e_ife, e_idx, e_sl, e_call, e_callk, e_calf, e_calv, e_blt, e_isin, e_lc, l_nil, l_cons, a_nil, a_cons, a_ioa, p_nil, p_cons, o_nil, o_cons, t_not, t_and, t_or, t_nil, t_tr, i_rng1, i_rng2, i_enm, i_it, g_var, g_tup, g_idxF, g_idxN, gs_nil, gs_cons, Mp.init, initS, getS0, getS1, cur_f, cur_n, cur_p, settle_f, settle_n, settle_p, keep_f, keep_n, keep_p, kd_t, kd_f, tr_non, tr_bl, tr_int, tr_tup, tr_lst, tr_scr, ix_tup, ix_lst, sl_tup, sl_lst, b_len_t, b_len_l, b_len_s, b_tuple_t, b_tuple_l, b_list_t, b_list_l, b_int_i, b_int_b, b_abs, b_max, b_min, b_sum, b_all, b_any, bo_nil, bo_cons, in_nil, in_cons, isin_non, isin_bl, isin_int, isin_str, isin_tup, isin_lst, isinT, seq_t, seq_l, seq_s, own_v, own_o, own_i, own_u, pl_v, pl_u, wipe_n, wipe_c, unw_n, unw_c, fin_rt, fin_nx, out_n, out_t, out_f, six_none, six_some, Mp.ixN, storeIx, put_val, put_new, notIo_un, notIo_val, notIo_own, cmp_gt_int, cmp_lt_int, cmp_le_int, cmp_ge_int, cmp_eq_int, cmp_ne_int, bin_add_int, bin_sub_int, bin_mul_r, bin_mul_l, bin_mod_int, bin_fdiv_int, doCall, doCallF, argsD, iosOf, putOuts, setIo, Ar.isIo, Ar.d, bin_pow_int, bin_add_tup, eq_nil, is_non, isn_non, isNon_int, isNon_tup, isNon_lst, isNon_bl, isNon_str, isNon_non, sz_ok, sz_lt, s_ext, s_fst, s_par, m_nil, m_cons, puts_n, puts_c, e_fld, e_mk, e_isinc, isc_ins, ownL_o, ownL_i, lst_of, app_o, app_i, bin_mul_tup, bin_add_lst, eq_tup_nil, doMk, fldD, s_dst, e_dix, e_pop, e_dnew, e_lof1, e_lof2, e_rof1, e_rof2, e_bm, e_mkk, ownS_o, ownS_i, isLst_l, seqI_t, seqI_l, seqI_s, e_oeq, insB, othB, blR, for_cons, h]
theorem bowl_ok (n : Nat) (ns : List Int) (lap : Nat) : ∃ a s, callN T (n + 1) 12 [false, false] [.scr (ns.map D.int), .int lap] = some (bowl a s 0, true, []) := by
  obtain ⟨st, s3, h3, e⟩ := bowl_loop n (.scr (ns.map D.int)) lap (ns.take 9) (771041 + 8819 * lap) .un rfl
  have hc : cutD (ns.map D.int) none (some 9) = (ns.take 9).map D.int := by
    rw [show (9 : Int) = ((9 : Nat) : Int) from rfl, cut_to, List.map_take]
  have hs : slD (.scr (ns.map D.int)) none (some 9) = some (.lst ((ns.take 9).map D.int), true) := by
    rw [← hc] <;> rfl
  have key := call_eq (T := T) (n := n) (f := 12) (fl := [false, false]) (ds := [.scr (ns.map D.int), .int lap]) (df := d12) rfl rfl rfl rfl
  by_cases hl : lap < ns.length
  · rw [List.map_take] at e
    have hi := idx_scr ns lap hl
    have hl' : (lap : Int) < (ns.length : Int) := by omega
    by_cases h1 : ns[lap] < 0
    · rw [List.map_take] at hs
      simp [R.bind_ok', R.bind_no', R.of_some', R.fl_ok', Fl.bind_nx, Fl.bind_rt, s_skip, s_seq, s_asg, s_ex, s_ret, s_retn, s_ite, s_for, s_app, s_never, e_var, e_con, e_glo, e_tup, e_lst, e_neg, e_bin, e_cmp, e_cmp2, e_not, e_and, e_or, e_ife, e_idx, e_sl, e_call, e_callk, e_calf, e_calv, e_blt, e_isin, e_lc, l_nil, l_cons, a_nil, a_cons, a_ioa, p_nil, p_cons, o_nil, o_cons, t_not, t_and, t_or, t_nil, t_tr, i_rng1, i_rng2, i_enm, i_it, g_var, g_tup, g_idxF, g_idxN, gs_nil, gs_cons, Mp.init, initS, getS0, getS1, cur_f, cur_n, cur_p, settle_f, settle_n, settle_p, keep_f, keep_n, keep_p, kd_t, kd_f, tr_non, tr_bl, tr_int, tr_tup, tr_lst, tr_scr, ix_tup, ix_lst, sl_tup, sl_lst, b_len_t, b_len_l, b_len_s, b_tuple_t, b_tuple_l, b_list_t, b_list_l, b_int_i, b_int_b, b_abs, b_max, b_min, b_sum, b_all, b_any, bo_nil, bo_cons, in_nil, in_cons, isin_non, isin_bl, isin_int, isin_str, isin_tup, isin_lst, isinT, seq_t, seq_l, seq_s, own_v, own_o, own_i, own_u, pl_v, pl_u, wipe_n, wipe_c, unw_n, unw_c, fin_rt, fin_nx, out_n, out_t, out_f, six_none, six_some, Mp.ixN, storeIx, put_val, put_new, notIo_un, notIo_val, notIo_own, cmp_gt_int, cmp_lt_int, cmp_le_int, cmp_ge_int, cmp_eq_int, cmp_ne_int, bin_add_int, bin_sub_int, bin_mul_r, bin_mul_l, bin_mod_int, bin_fdiv_int, doCall, doCallF, argsD, iosOf, putOuts, setIo, Ar.isIo, Ar.d, bin_pow_int, bin_add_tup, eq_nil, is_non, isn_non, isNon_int, isNon_tup, isNon_lst, isNon_bl, isNon_str, isNon_non, sz_ok, sz_lt, s_ext, s_fst, s_par, m_nil, m_cons, puts_n, puts_c, e_fld, e_mk, e_isinc, isc_ins, ownL_o, ownL_i, lst_of, app_o, app_i, bin_mul_tup, bin_add_lst, eq_tup_nil, doMk, fldD, s_dst, e_dix, e_pop, e_dnew, e_lof1, e_lof2, e_rof1, e_rof2, e_bm, e_mkk, ownS_o, ownS_i, isLst_l, seqI_t, seqI_l, seqI_s, e_oeq, insB, othB, blR, d12, hs, e, hi, hl', h1, h3] at key
      exact ⟨_, _, key⟩
    · by_cases h2 : (10000000000000000 : Int) ≤ ns[lap]
      · rw [List.map_take] at hs
        simp [R.bind_ok', R.bind_no', R.of_some', R.fl_ok', Fl.bind_nx, Fl.bind_rt, s_skip, s_seq, s_asg, s_ex, s_ret, s_retn, s_ite, s_for, s_app, s_never, e_var, e_con, e_glo, e_tup, e_lst, e_neg, e_bin, e_cmp, e_cmp2, e_not, e_and, e_or, e_ife, e_idx, e_sl, e_call, e_callk, e_calf, e_calv, e_blt, e_isin, e_lc, l_nil, l_cons, a_nil, a_cons, a_ioa, p_nil, p_cons, o_nil, o_cons, t_not, t_and, t_or, t_nil, t_tr, i_rng1, i_rng2, i_enm, i_it, g_var, g_tup, g_idxF, g_idxN, gs_nil, gs_cons, Mp.init, initS, getS0, getS1, cur_f, cur_n, cur_p, settle_f, settle_n, settle_p, keep_f, keep_n, keep_p, kd_t, kd_f, tr_non, tr_bl, tr_int, tr_tup, tr_lst, tr_scr, ix_tup, ix_lst, sl_tup, sl_lst, b_len_t, b_len_l, b_len_s, b_tuple_t, b_tuple_l, b_list_t, b_list_l, b_int_i, b_int_b, b_abs, b_max, b_min, b_sum, b_all, b_any, bo_nil, bo_cons, in_nil, in_cons, isin_non, isin_bl, isin_int, isin_str, isin_tup, isin_lst, isinT, seq_t, seq_l, seq_s, own_v, own_o, own_i, own_u, pl_v, pl_u, wipe_n, wipe_c, unw_n, unw_c, fin_rt, fin_nx, out_n, out_t, out_f, six_none, six_some, Mp.ixN, storeIx, put_val, put_new, notIo_un, notIo_val, notIo_own, cmp_gt_int, cmp_lt_int, cmp_le_int, cmp_ge_int, cmp_eq_int, cmp_ne_int, bin_add_int, bin_sub_int, bin_mul_r, bin_mul_l, bin_mod_int, bin_fdiv_int, doCall, doCallF, argsD, iosOf, putOuts, setIo, Ar.isIo, Ar.d, bin_pow_int, bin_add_tup, eq_nil, is_non, isn_non, isNon_int, isNon_tup, isNon_lst, isNon_bl, isNon_str, isNon_non, sz_ok, sz_lt, s_ext, s_fst, s_par, m_nil, m_cons, puts_n, puts_c, e_fld, e_mk, e_isinc, isc_ins, ownL_o, ownL_i, lst_of, app_o, app_i, bin_mul_tup, bin_add_lst, eq_tup_nil, doMk, fldD, s_dst, e_dix, e_pop, e_dnew, e_lof1, e_lof2, e_rof1, e_rof2, e_bm, e_mkk, ownS_o, ownS_i, isLst_l, seqI_t, seqI_l, seqI_s, e_oeq, insB, othB, blR, d12, hs, e, hi, hl', h1, h2, h3] at key
        exact ⟨_, _, key⟩
      · rw [List.map_take] at hs
        simp [R.bind_ok', R.bind_no', R.of_some', R.fl_ok', Fl.bind_nx, Fl.bind_rt, s_skip, s_seq, s_asg, s_ex, s_ret, s_retn, s_ite, s_for, s_app, s_never, e_var, e_con, e_glo, e_tup, e_lst, e_neg, e_bin, e_cmp, e_cmp2, e_not, e_and, e_or, e_ife, e_idx, e_sl, e_call, e_callk, e_calf, e_calv, e_blt, e_isin, e_lc, l_nil, l_cons, a_nil, a_cons, a_ioa, p_nil, p_cons, o_nil, o_cons, t_not, t_and, t_or, t_nil, t_tr, i_rng1, i_rng2, i_enm, i_it, g_var, g_tup, g_idxF, g_idxN, gs_nil, gs_cons, Mp.init, initS, getS0, getS1, cur_f, cur_n, cur_p, settle_f, settle_n, settle_p, keep_f, keep_n, keep_p, kd_t, kd_f, tr_non, tr_bl, tr_int, tr_tup, tr_lst, tr_scr, ix_tup, ix_lst, sl_tup, sl_lst, b_len_t, b_len_l, b_len_s, b_tuple_t, b_tuple_l, b_list_t, b_list_l, b_int_i, b_int_b, b_abs, b_max, b_min, b_sum, b_all, b_any, bo_nil, bo_cons, in_nil, in_cons, isin_non, isin_bl, isin_int, isin_str, isin_tup, isin_lst, isinT, seq_t, seq_l, seq_s, own_v, own_o, own_i, own_u, pl_v, pl_u, wipe_n, wipe_c, unw_n, unw_c, fin_rt, fin_nx, out_n, out_t, out_f, six_none, six_some, Mp.ixN, storeIx, put_val, put_new, notIo_un, notIo_val, notIo_own, cmp_gt_int, cmp_lt_int, cmp_le_int, cmp_ge_int, cmp_eq_int, cmp_ne_int, bin_add_int, bin_sub_int, bin_mul_r, bin_mul_l, bin_mod_int, bin_fdiv_int, doCall, doCallF, argsD, iosOf, putOuts, setIo, Ar.isIo, Ar.d, bin_pow_int, bin_add_tup, eq_nil, is_non, isn_non, isNon_int, isNon_tup, isNon_lst, isNon_bl, isNon_str, isNon_non, sz_ok, sz_lt, s_ext, s_fst, s_par, m_nil, m_cons, puts_n, puts_c, e_fld, e_mk, e_isinc, isc_ins, ownL_o, ownL_i, lst_of, app_o, app_i, bin_mul_tup, bin_add_lst, eq_tup_nil, doMk, fldD, s_dst, e_dix, e_pop, e_dnew, e_lof1, e_lof2, e_rof1, e_rof2, e_bm, e_mkk, ownS_o, ownS_i, isLst_l, seqI_t, seqI_l, seqI_s, e_oeq, insB, othB, blR, d12, hs, e, hi, hl', h1, h2, h3] at key
        exact ⟨_, _, key⟩
  · rw [List.map_take] at e hs
    have hl' : ¬ (lap : Int) < (ns.length : Int) := by omega
    simp [R.bind_ok', R.bind_no', R.of_some', R.fl_ok', Fl.bind_nx, Fl.bind_rt, s_skip, s_seq, s_asg, s_ex, s_ret, s_retn, s_ite, s_for, s_app, s_never, e_var, e_con, e_glo, e_tup, e_lst, e_neg, e_bin, e_cmp, e_cmp2, e_not, e_and, e_or, e_ife, e_idx, e_sl, e_call, e_callk, e_calf, e_calv, e_blt, e_isin, e_lc, l_nil, l_cons, a_nil, a_cons, a_ioa, p_nil, p_cons, o_nil, o_cons, t_not, t_and, t_or, t_nil, t_tr, i_rng1, i_rng2, i_enm, i_it, g_var, g_tup, g_idxF, g_idxN, gs_nil, gs_cons, Mp.init, initS, getS0, getS1, cur_f, cur_n, cur_p, settle_f, settle_n, settle_p, keep_f, keep_n, keep_p, kd_t, kd_f, tr_non, tr_bl, tr_int, tr_tup, tr_lst, tr_scr, ix_tup, ix_lst, sl_tup, sl_lst, b_len_t, b_len_l, b_len_s, b_tuple_t, b_tuple_l, b_list_t, b_list_l, b_int_i, b_int_b, b_abs, b_max, b_min, b_sum, b_all, b_any, bo_nil, bo_cons, in_nil, in_cons, isin_non, isin_bl, isin_int, isin_str, isin_tup, isin_lst, isinT, seq_t, seq_l, seq_s, own_v, own_o, own_i, own_u, pl_v, pl_u, wipe_n, wipe_c, unw_n, unw_c, fin_rt, fin_nx, out_n, out_t, out_f, six_none, six_some, Mp.ixN, storeIx, put_val, put_new, notIo_un, notIo_val, notIo_own, cmp_gt_int, cmp_lt_int, cmp_le_int, cmp_ge_int, cmp_eq_int, cmp_ne_int, bin_add_int, bin_sub_int, bin_mul_r, bin_mul_l, bin_mod_int, bin_fdiv_int, doCall, doCallF, argsD, iosOf, putOuts, setIo, Ar.isIo, Ar.d, bin_pow_int, bin_add_tup, eq_nil, is_non, isn_non, isNon_int, isNon_tup, isNon_lst, isNon_bl, isNon_str, isNon_non, sz_ok, sz_lt, s_ext, s_fst, s_par, m_nil, m_cons, puts_n, puts_c, e_fld, e_mk, e_isinc, isc_ins, ownL_o, ownL_i, lst_of, app_o, app_i, bin_mul_tup, bin_add_lst, eq_tup_nil, doMk, fldD, s_dst, e_dix, e_pop, e_dnew, e_lof1, e_lof2, e_rof1, e_rof2, e_bm, e_mkk, ownS_o, ownS_i, isLst_l, seqI_t, seqI_l, seqI_s, e_oeq, insB, othB, blR, d12, hs, e, hl', h3] at key
    exact ⟨_, _, key⟩
/-! drawn puzzles: what the law draws is a right puzzle -/
abbrev B9 (x : Int) : Prop := -9 ≤ x ∧ x ≤ 9
abbrev P4 : Type := Int × Int × Int × Int
def pd (p : P4) : D := .tup [.int p.1, .int p.2.1, .int p.2.2.1, .int p.2.2.2]
def ok4 (p : P4) : Prop := B9 p.1 ∧ B9 p.2.1 ∧ B9 p.2.2.1 ∧ B9 p.2.2.2
theorem idx_in (xs : List D) (r : Int) (h0 : 0 ≤ r) (h1 : r < xs.length) : ∃ x, xs[r.toNat]? = some x ∧ x ∈ xs ∧ idxD (.tup xs) (.int r) = some x ∧ idxD (.lst xs) (.int r) = some x := by
  have hl : r.toNat < xs.length := by omega
  have e : Mp.ixN xs.length r = some r.toNat := by unfold Mp.ixN; rw [if_pos h0, if_pos h1]
  have e2 : xs[r.toNat]? = some xs[r.toNat] := List.getElem?_eq_getElem hl
  refine ⟨xs[r.toNat], e2, List.getElem_mem hl, ?_, ?_⟩
  · show (Mp.ixN xs.length r).bind _ = _
    rw [e]; exact e2
  · show (Mp.ixN xs.length r).bind _ = _
    rw [e]; exact e2
theorem of_ok (n : Nat) (a s c : Int) (xs : List D) (hx : xs ≠ []) (hl : xs.length < 1000000) : ∃ a' s' c' x, x ∈ xs ∧ callN T (n + 2) 14 [true, false] [bowl a s c, .tup xs] = some (x, false, [bowl a' s' c']) := by
  have hp : 0 < xs.length := List.length_pos_iff.mpr hx
  obtain ⟨a1, b1, c1, r1, l1, m1, e1⟩ := draw n a s c xs.length (by omega) (by omega)
  obtain ⟨x, _, hm, hi, _⟩ := idx_in xs r1 l1 m1
  refine ⟨a1, b1, c1, x, hm, ?_⟩
  rw [call_eq (T := T) (n := n + 1) (f := 14) (fl := [true, false]) (ds := [bowl a s c, .tup xs]) (df := d14) rfl rfl rfl rfl]
  simp [R.bind_ok', R.bind_no', R.of_some', R.fl_ok', Fl.bind_nx, Fl.bind_rt, s_skip, s_seq, s_asg, s_ex, s_ret, s_retn, s_ite, s_for, s_app, s_never, e_var, e_con, e_glo, e_tup, e_lst, e_neg, e_bin, e_cmp, e_cmp2, e_not, e_and, e_or, e_ife, e_idx, e_sl, e_call, e_callk, e_calf, e_calv, e_blt, e_isin, e_lc, l_nil, l_cons, a_nil, a_cons, a_ioa, p_nil, p_cons, o_nil, o_cons, t_not, t_and, t_or, t_nil, t_tr, i_rng1, i_rng2, i_enm, i_it, g_var, g_tup, g_idxF, g_idxN, gs_nil, gs_cons, Mp.init, initS, getS0, getS1, cur_f, cur_n, cur_p, settle_f, settle_n, settle_p, keep_f, keep_n, keep_p, kd_t, kd_f, tr_non, tr_bl, tr_int, tr_tup, tr_lst, tr_scr, sl_tup, sl_lst, b_len_t, b_len_l, b_len_s, b_tuple_t, b_tuple_l, b_list_t, b_list_l, b_int_i, b_int_b, b_abs, b_max, b_min, b_sum, b_all, b_any, bo_nil, bo_cons, in_nil, in_cons, isin_non, isin_bl, isin_int, isin_str, isin_tup, isin_lst, isinT, seq_t, seq_l, seq_s, own_v, own_o, own_i, own_u, pl_v, pl_u, wipe_n, wipe_c, unw_n, unw_c, fin_rt, fin_nx, out_n, out_t, out_f, six_none, six_some, Mp.ixN, storeIx, put_val, put_new, notIo_un, notIo_val, notIo_own, cmp_gt_int, cmp_lt_int, cmp_le_int, cmp_ge_int, cmp_eq_int, cmp_ne_int, bin_add_int, bin_sub_int, bin_mul_r, bin_mul_l, bin_mod_int, bin_fdiv_int, doCall, doCallF, argsD, iosOf, putOuts, setIo, Ar.isIo, Ar.d, bin_pow_int, bin_add_tup, eq_nil, is_non, isn_non, isNon_int, isNon_tup, isNon_lst, isNon_bl, isNon_str, isNon_non, sz_ok, sz_lt, s_ext, s_fst, s_par, m_nil, m_cons, puts_n, puts_c, e_fld, e_mk, e_isinc, isc_ins, ownL_o, ownL_i, lst_of, app_o, app_i, bin_mul_tup, bin_add_lst, eq_tup_nil, doMk, fldD, s_dst, e_dix, e_pop, e_dnew, e_lof1, e_lof2, e_rof1, e_rof2, e_bm, e_mkk, ownS_o, ownS_i, isLst_l, seqI_t, seqI_l, seqI_s, e_oeq, insB, othB, blR, d14, e1, hi]
theorem ofl_ok (n : Nat) (a s c : Int) (xs : List D) (hx : xs ≠ []) (hl : xs.length < 1000000) : ∃ a' s' c' x, x ∈ xs ∧ callN T (n + 2) 14 [true, false] [bowl a s c, .lst xs] = some (x, false, [bowl a' s' c']) := by
  have hp : 0 < xs.length := List.length_pos_iff.mpr hx
  obtain ⟨a1, b1, c1, r1, l1, m1, e1⟩ := draw n a s c xs.length (by omega) (by omega)
  obtain ⟨x, _, hm, _, hi⟩ := idx_in xs r1 l1 m1
  refine ⟨a1, b1, c1, x, hm, ?_⟩
  rw [call_eq (T := T) (n := n + 1) (f := 14) (fl := [true, false]) (ds := [bowl a s c, .lst xs]) (df := d14) rfl rfl rfl rfl]
  simp [R.bind_ok', R.bind_no', R.of_some', R.fl_ok', Fl.bind_nx, Fl.bind_rt, s_skip, s_seq, s_asg, s_ex, s_ret, s_retn, s_ite, s_for, s_app, s_never, e_var, e_con, e_glo, e_tup, e_lst, e_neg, e_bin, e_cmp, e_cmp2, e_not, e_and, e_or, e_ife, e_idx, e_sl, e_call, e_callk, e_calf, e_calv, e_blt, e_isin, e_lc, l_nil, l_cons, a_nil, a_cons, a_ioa, p_nil, p_cons, o_nil, o_cons, t_not, t_and, t_or, t_nil, t_tr, i_rng1, i_rng2, i_enm, i_it, g_var, g_tup, g_idxF, g_idxN, gs_nil, gs_cons, Mp.init, initS, getS0, getS1, cur_f, cur_n, cur_p, settle_f, settle_n, settle_p, keep_f, keep_n, keep_p, kd_t, kd_f, tr_non, tr_bl, tr_int, tr_tup, tr_lst, tr_scr, sl_tup, sl_lst, b_len_t, b_len_l, b_len_s, b_tuple_t, b_tuple_l, b_list_t, b_list_l, b_int_i, b_int_b, b_abs, b_max, b_min, b_sum, b_all, b_any, bo_nil, bo_cons, in_nil, in_cons, isin_non, isin_bl, isin_int, isin_str, isin_tup, isin_lst, isinT, seq_t, seq_l, seq_s, own_v, own_o, own_i, own_u, pl_v, pl_u, wipe_n, wipe_c, unw_n, unw_c, fin_rt, fin_nx, out_n, out_t, out_f, six_none, six_some, Mp.ixN, storeIx, put_val, put_new, notIo_un, notIo_val, notIo_own, cmp_gt_int, cmp_lt_int, cmp_le_int, cmp_ge_int, cmp_eq_int, cmp_ne_int, bin_add_int, bin_sub_int, bin_mul_r, bin_mul_l, bin_mod_int, bin_fdiv_int, doCall, doCallF, argsD, iosOf, putOuts, setIo, Ar.isIo, Ar.d, bin_pow_int, bin_add_tup, eq_nil, is_non, isn_non, isNon_int, isNon_tup, isNon_lst, isNon_bl, isNon_str, isNon_non, sz_ok, sz_lt, s_ext, s_fst, s_par, m_nil, m_cons, puts_n, puts_c, e_fld, e_mk, e_isinc, isc_ins, ownL_o, ownL_i, lst_of, app_o, app_i, bin_mul_tup, bin_add_lst, eq_tup_nil, doMk, fldD, s_dst, e_dix, e_pop, e_dnew, e_lof1, e_lof2, e_rof1, e_rof2, e_bm, e_mkk, ownS_o, ownS_i, isLst_l, seqI_t, seqI_l, seqI_s, e_oeq, insB, othB, blR, d14, e1, hi]
/-! frames -/
def fits (most : Int) : List (Int × Int) := [(1, 1), (1, 2), (2, 1), (1, 3), (3, 1), (2, 2), (2, 2), (1, 4), (4, 1), (1, 5), (5, 1), (2, 3), (3, 2), (2, 3), (6, 1), (1, 6)].filter fun f => decide (f.1 * f.2 ≤ most)
def fd (f : Int × Int) : D := .tup [.int f.1, .int f.2]
theorem fits_ok {most : Int} {f : Int × Int} (h : f ∈ fits most) : 1 ≤ f.1 ∧ 1 ≤ f.2 ∧ f.1 ≤ 6 ∧ f.2 ≤ 6 ∧ f.1 * f.2 ≤ 6 ∧ f.1 * f.2 ≤ most := by
  obtain ⟨h1, h2⟩ := List.mem_filter.mp h
  have h2 := of_decide_eq_true h2
  have h4 : ∀ g ∈ [((1 : Int), (1 : Int)), (1, 2), (2, 1), (1, 3), (3, 1), (2, 2), (2, 2), (1, 4), (4, 1), (1, 5), (5, 1), (2, 3), (3, 2), (2, 3), (6, 1), (1, 6)], 1 ≤ g.1 ∧ 1 ≤ g.2 ∧ g.1 ≤ 6 ∧ g.2 ≤ 6 ∧ g.1 * g.2 ≤ 6 := by decide
  have h3 := h4 f h1
  exact ⟨h3.1, h3.2.1, h3.2.2.1, h3.2.2.2.1, h3.2.2.2.2, h2⟩
def frameE : E := match d17.body with
  | .seq (.asg _ e) _ => e
  | _ => .nil
def frameC : E := match d17.body with
  | .seq _ (.seq (.ret (.call _ (.ioa _ (.cons e _)))) _) => e
  | _ => .nil
def frs : D := .lst ([(1, 1), (1, 2), (2, 1), (1, 3), (3, 1), (2, 2), (2, 2), (1, 4), (4, 1), (1, 5), (5, 1), (2, 3), (3, 2), (2, 3), (6, 1), (1, 6)].map fd)
theorem frame_ok (n : Nat) (a s c most : Int) (hm : most = 2 ∨ most = 4 ∨ most = 6) : ∃ a' s' c' f, f ∈ fits most ∧ callN T (n + 3) 17 [true, false] [bowl a s c, .int most] = some (fd f, false, [bowl a' s' c']) := by
  have h0 : (fits most).map fd ≠ [] ∧ ((fits most).map fd).length < 1000000 := by
    rcases hm with rfl | rfl | rfl <;> exact ⟨by simp [fits], by decide⟩
  obtain ⟨a1, b1, c1, x, hx, e1⟩ := ofl_ok n a s c ((fits most).map fd) h0.1 h0.2
  obtain ⟨f, hf, rfl⟩ := List.mem_map.mp hx
  refine ⟨a1, b1, c1, f, hf, ?_⟩
  rw [call_eq (T := T) (n := n + 2) (f := 17) (fl := [true, false]) (ds := [bowl a s c, .int most]) (df := d17) rfl rfl rfl rfl]
  have hb : d17.body = .seq (.asg (.var 2) frameE) (.seq (.ret (.call 14 (.ioa 0 (.cons frameC .nil)))) .skip) := rfl
  have hi : init d17 [bowl a s c, .int most] = [.io (bowl a s c), .val (.int most), .un, .un] := rfl
  have k1 : evE (callN T (n + 2)) frameE [.io (bowl a s c), .val (.int most), .un, .un] = .ok (frs, .fr) [.io (bowl a s c), .val (.int most), .un, .un] := by kernel_rfl
  have k2 : evE (callN T (n + 2)) frameC [.io (bowl a s c), .val (.int most), .own frs, .un] = .ok (.lst ((fits most).map fd), .fr) [.io (bowl a s c), .val (.int most), .val frs, .un] := by
    rcases hm with rfl | rfl | rfl <;> kernel_rfl
  have hios : d17.ios = [true, false] := rfl
  rw [hb, hi, hios]
  simp [R.bind_ok', R.bind_no', R.of_some', R.fl_ok', Fl.bind_nx, Fl.bind_rt, s_skip, s_seq, s_asg, s_ex, s_ret, s_retn, s_ite, s_for, s_app, s_never, e_var, e_con, e_glo, e_tup, e_lst, e_neg, e_bin, e_cmp, e_cmp2, e_not, e_and, e_or, e_ife, e_idx, e_sl, e_call, e_callk, e_calf, e_calv, e_blt, e_isin, e_lc, l_nil, l_cons, a_nil, a_cons, a_ioa, p_nil, p_cons, o_nil, o_cons, t_not, t_and, t_or, t_nil, t_tr, i_rng1, i_rng2, i_enm, i_it, g_var, g_tup, g_idxF, g_idxN, gs_nil, gs_cons, Mp.init, initS, getS0, getS1, cur_f, cur_n, cur_p, settle_f, settle_n, settle_p, keep_f, keep_n, keep_p, kd_t, kd_f, tr_non, tr_bl, tr_int, tr_tup, tr_lst, tr_scr, ix_tup, ix_lst, sl_tup, sl_lst, b_len_t, b_len_l, b_len_s, b_tuple_t, b_tuple_l, b_list_t, b_list_l, b_int_i, b_int_b, b_abs, b_max, b_min, b_sum, b_all, b_any, bo_nil, bo_cons, in_nil, in_cons, isin_non, isin_bl, isin_int, isin_str, isin_tup, isin_lst, isinT, seq_t, seq_l, seq_s, own_v, own_o, own_i, own_u, pl_v, pl_u, wipe_n, wipe_c, unw_n, unw_c, fin_rt, fin_nx, out_n, out_t, out_f, six_none, six_some, Mp.ixN, storeIx, put_val, put_new, notIo_un, notIo_val, notIo_own, cmp_gt_int, cmp_lt_int, cmp_le_int, cmp_ge_int, cmp_eq_int, cmp_ne_int, bin_add_int, bin_sub_int, bin_mul_r, bin_mul_l, bin_mod_int, bin_fdiv_int, doCall, doCallF, argsD, iosOf, putOuts, setIo, Ar.isIo, Ar.d, bin_pow_int, bin_add_tup, eq_nil, is_non, isn_non, isNon_int, isNon_tup, isNon_lst, isNon_bl, isNon_str, isNon_non, sz_ok, sz_lt, s_ext, s_fst, s_par, m_nil, m_cons, puts_n, puts_c, e_fld, e_mk, e_isinc, isc_ins, ownL_o, ownL_i, lst_of, app_o, app_i, bin_mul_tup, bin_add_lst, eq_tup_nil, doMk, fldD, s_dst, e_dix, e_pop, e_dnew, e_lof1, e_lof2, e_rof1, e_rof2, e_bm, e_mkk, ownS_o, ownS_i, isLst_l, seqI_t, seqI_l, seqI_s, e_oeq, insB, othB, blR, k1, k2, e1]
/-! dicts -/
theorem dg_nil (k : DK) : dGet [] k = none := rfl
theorem dg_pos {p : DK × D} {r : List (DK × D)} {k : DK} (e : p.1 = k) : dGet (p :: r) k = some p.2 := by simp [dGet, List.find?_cons, e]
theorem dg_neg {p : DK × D} {r : List (DK × D)} {k : DK} (e : ¬ p.1 = k) : dGet (p :: r) k = dGet r k := by simp [dGet, List.find?_cons, e]
theorem dg_map (k j : DK) (y : D) : ∀ kvs : List (DK × D), dGet (kvs.map fun kv => if kv.1 = k then (kv.1, y) else kv) j = (dGet kvs j).map fun x => if j = k then y else x
  | [] => rfl
  | p :: r => by
    have ih := dg_map k j y r
    rw [List.map_cons]
    by_cases h : p.1 = k
    · rw [if_pos h]
      by_cases e : p.1 = j
      · rw [dg_pos (p := (p.1, y)) e, dg_pos e, Option.map_some, if_pos (e.symm.trans h)]
      · rw [dg_neg (p := (p.1, y)) e, dg_neg e, ih]
    · rw [if_neg h]
      by_cases e : p.1 = j
      · rw [dg_pos (p := p) e, dg_pos e, Option.map_some, if_neg (fun z => h (e.trans z))]
      · rw [dg_neg (p := p) e, dg_neg e, ih]
theorem dg_snoc (k j : DK) (y : D) : ∀ kvs : List (DK × D), dGet kvs k = none → dGet (kvs ++ [(k, y)]) j = if j = k then some y else dGet kvs j
  | [], _ => by
    by_cases e : k = j
    · rw [if_pos e.symm]; exact dg_pos (p := (k, y)) e
    · rw [if_neg (fun z => e z.symm)]; exact dg_neg (p := (k, y)) e
  | p :: r, hn => by
    rw [List.cons_append]
    have hk : ¬ p.1 = k := fun z => by rw [dg_pos z] at hn; cases hn
    rw [dg_neg hk] at hn
    have ih := dg_snoc k j y r hn
    by_cases e : p.1 = j
    · rw [dg_pos e, dg_pos e, if_neg (fun z => hk (e.trans z))]
    · rw [dg_neg e, dg_neg e, ih]
theorem dg_any (k : DK) : ∀ kvs : List (DK × D), (kvs.any fun kv => decide (kv.1 = k)) = (dGet kvs k).isSome
  | [] => rfl
  | p :: r => by
    rw [List.any_cons]
    by_cases e : p.1 = k
    · simp only [dg_pos e, decide_eq_true e, Bool.true_or, Option.isSome_some]
    · rw [dg_neg e, decide_eq_false e, Bool.false_or]; exact dg_any k r
theorem dg_put (kvs : List (DK × D)) (k j : DK) (y : D) : dGet (dPut kvs k y) j = if j = k then some y else dGet kvs j := by
  unfold dPut
  by_cases a : (kvs.any fun kv => decide (kv.1 = k)) = true
  · rw [if_pos a, dg_map]
    rw [dg_any] at a
    by_cases e : j = k
    · obtain ⟨x, hx⟩ := Option.isSome_iff_exists.mp a
      rw [if_pos e, e, hx, Option.map_some, if_pos rfl]
    · rw [if_neg e]
      cases dGet kvs j with
      | none => rfl
      | some x => rw [Option.map_some, if_neg e]
  · rw [if_neg a]
    refine dg_snoc k j y kvs ?_
    rw [dg_any] at a
    cases q : dGet kvs k with
    | none => rfl
    | some x => rw [q] at a; exact (a rfl).elim
theorem dp_len (kvs : List (DK × D)) (k : DK) (y : D) : (dPut kvs k y).length ≤ kvs.length + 1 := by
  unfold dPut
  split
  · rw [List.length_map]; omega
  · rw [List.length_append, List.length_singleton]; exact Nat.le_refl _
/-! pieces that fit -/
def sd : E := .bin .mul (.bin .add (.con (.int 1)) (.call 13 (.ioa 0 (.cons (.var 3) .nil)))) (.call 14 (.ioa 0 (.cons (.tup (.cons (.con (.int 1)) (.cons (.bin .sub (.con (.int 0)) (.con (.int 1))) .nil))) .nil)))
theorem sd_ok (n : Nat) (a s c S : Int) (x1 x2 : Mp.Slot) (t : Mp.Env) (h1 : 1 ≤ S) (h2 : S ≤ 9) : ∃ a' s' c' v, B9 v ∧ evE (callN T (n + 2)) sd (.io (bowl a s c) :: x1 :: x2 :: .val (.int S) :: t) = .ok (.int v, .frz) (.io (bowl a' s' c') :: x1 :: x2 :: .val (.int S) :: t) := by
  obtain ⟨a1, b1, c1, r1, l1, m1, e1⟩ := draw (n + 1) a s c S (by omega) (by omega)
  obtain ⟨a2, b2, c2, x, hx, e2⟩ := of_ok n a1 b1 c1 [.int 1, .int (-1)] (by simp) (by simp)
  have hx' : x = .int 1 ∨ x = .int (-1) := by simpa using hx
  rcases hx' with rfl | rfl
  · have hm : binD .mul (.int (1 + r1)) (.int 1) = some (.int ((1 + r1) * 1), false) := bin_mul_l (by omega)
    refine ⟨a2, b2, c2, (1 + r1) * 1, by omega, ?_⟩
    simp [R.bind_ok', R.bind_no', R.of_some', R.fl_ok', Fl.bind_nx, Fl.bind_rt, s_skip, s_seq, s_asg, s_ex, s_ret, s_retn, s_ite, s_for, s_app, s_never, e_var, e_con, e_glo, e_tup, e_lst, e_neg, e_bin, e_cmp, e_cmp2, e_not, e_and, e_or, e_ife, e_idx, e_sl, e_call, e_callk, e_calf, e_calv, e_blt, e_isin, e_lc, l_nil, l_cons, a_nil, a_cons, a_ioa, p_nil, p_cons, o_nil, o_cons, t_not, t_and, t_or, t_nil, t_tr, i_rng1, i_rng2, i_enm, i_it, g_var, g_tup, g_idxF, g_idxN, gs_nil, gs_cons, Mp.init, initS, getS0, getS1, cur_f, cur_n, cur_p, settle_f, settle_n, settle_p, keep_f, keep_n, keep_p, kd_t, kd_f, tr_non, tr_bl, tr_int, tr_tup, tr_lst, tr_scr, ix_tup, ix_lst, sl_tup, sl_lst, b_len_t, b_len_l, b_len_s, b_tuple_t, b_tuple_l, b_list_t, b_list_l, b_int_i, b_int_b, b_abs, b_max, b_min, b_sum, b_all, b_any, bo_nil, bo_cons, in_nil, in_cons, isin_non, isin_bl, isin_int, isin_str, isin_tup, isin_lst, isinT, seq_t, seq_l, seq_s, own_v, own_o, own_i, own_u, pl_v, pl_u, wipe_n, wipe_c, unw_n, unw_c, fin_rt, fin_nx, out_n, out_t, out_f, six_none, six_some, Mp.ixN, storeIx, put_val, put_new, notIo_un, notIo_val, notIo_own, cmp_gt_int, cmp_lt_int, cmp_le_int, cmp_ge_int, cmp_eq_int, cmp_ne_int, bin_add_int, bin_sub_int, bin_mul_r, bin_mul_l, bin_mod_int, bin_fdiv_int, doCall, doCallF, argsD, iosOf, putOuts, setIo, Ar.isIo, Ar.d, bin_pow_int, bin_add_tup, eq_nil, is_non, isn_non, isNon_int, isNon_tup, isNon_lst, isNon_bl, isNon_str, isNon_non, sz_ok, sz_lt, s_ext, s_fst, s_par, m_nil, m_cons, puts_n, puts_c, e_fld, e_mk, e_isinc, isc_ins, ownL_o, ownL_i, lst_of, app_o, app_i, bin_mul_tup, bin_add_lst, eq_tup_nil, doMk, fldD, s_dst, e_dix, e_pop, e_dnew, e_lof1, e_lof2, e_rof1, e_rof2, e_bm, e_mkk, ownS_o, ownS_i, isLst_l, seqI_t, seqI_l, seqI_s, e_oeq, insB, othB, blR, sd, e1, e2, hm]
  · have hm : binD .mul (.int (1 + r1)) (.int (-1)) = some (.int ((1 + r1) * (-1)), false) := bin_mul_l (by omega)
    refine ⟨a2, b2, c2, (1 + r1) * (-1), by omega, ?_⟩
    simp [R.bind_ok', R.bind_no', R.of_some', R.fl_ok', Fl.bind_nx, Fl.bind_rt, s_skip, s_seq, s_asg, s_ex, s_ret, s_retn, s_ite, s_for, s_app, s_never, e_var, e_con, e_glo, e_tup, e_lst, e_neg, e_bin, e_cmp, e_cmp2, e_not, e_and, e_or, e_ife, e_idx, e_sl, e_call, e_callk, e_calf, e_calv, e_blt, e_isin, e_lc, l_nil, l_cons, a_nil, a_cons, a_ioa, p_nil, p_cons, o_nil, o_cons, t_not, t_and, t_or, t_nil, t_tr, i_rng1, i_rng2, i_enm, i_it, g_var, g_tup, g_idxF, g_idxN, gs_nil, gs_cons, Mp.init, initS, getS0, getS1, cur_f, cur_n, cur_p, settle_f, settle_n, settle_p, keep_f, keep_n, keep_p, kd_t, kd_f, tr_non, tr_bl, tr_int, tr_tup, tr_lst, tr_scr, ix_tup, ix_lst, sl_tup, sl_lst, b_len_t, b_len_l, b_len_s, b_tuple_t, b_tuple_l, b_list_t, b_list_l, b_int_i, b_int_b, b_abs, b_max, b_min, b_sum, b_all, b_any, bo_nil, bo_cons, in_nil, in_cons, isin_non, isin_bl, isin_int, isin_str, isin_tup, isin_lst, isinT, seq_t, seq_l, seq_s, own_v, own_o, own_i, own_u, pl_v, pl_u, wipe_n, wipe_c, unw_n, unw_c, fin_rt, fin_nx, out_n, out_t, out_f, six_none, six_some, Mp.ixN, storeIx, put_val, put_new, notIo_un, notIo_val, notIo_own, cmp_gt_int, cmp_lt_int, cmp_le_int, cmp_ge_int, cmp_eq_int, cmp_ne_int, bin_add_int, bin_sub_int, bin_mul_r, bin_mul_l, bin_mod_int, bin_fdiv_int, doCall, doCallF, argsD, iosOf, putOuts, setIo, Ar.isIo, Ar.d, bin_pow_int, bin_add_tup, eq_nil, is_non, isn_non, isNon_int, isNon_tup, isNon_lst, isNon_bl, isNon_str, isNon_non, sz_ok, sz_lt, s_ext, s_fst, s_par, m_nil, m_cons, puts_n, puts_c, e_fld, e_mk, e_isinc, isc_ins, ownL_o, ownL_i, lst_of, app_o, app_i, bin_mul_tup, bin_add_lst, eq_tup_nil, doMk, fldD, s_dst, e_dix, e_pop, e_dnew, e_lof1, e_lof2, e_rof1, e_rof2, e_bm, e_mkk, ownS_o, ownS_i, isLst_l, seqI_t, seqI_l, seqI_s, e_oeq, insB, othB, blR, sd, e1, e2, hm]
end K01

set_option maxHeartbeats 4000000
set_option maxRecDepth 10000
namespace K01
open PySem Mp
theorem rng_nil {lo hi : Int} (h : hi ≤ lo) : rngD lo hi = [] := by
  unfold rngD
  rw [show (hi - lo).toNat = 0 by omega] <;> rfl
theorem rng_cons {lo hi : Int} (h : lo < hi) : rngD lo hi = .int lo :: rngD (lo + 1) hi := by
  unfold rngD
  rw [show (hi - lo).toNat = (hi - (lo + 1)).toNat + 1 by omega, List.range_succ_eq_map, List.map_cons, List.map_map]
  congr 1
  · show D.int (lo + ((0 : Nat) : Int)) = _
    rw [show lo + ((0 : Nat) : Int) = lo by omega]
  · refine List.map_congr_left fun i _ => ?_
    show D.int (lo + ((i + 1 : Nat) : Int)) = D.int (lo + 1 + (i : Int))
    rw [show lo + ((i + 1 : Nat) : Int) = lo + 1 + (i : Int) by omega]
theorem dix_d {ρ : Mp.Env} {i : Nat} {m n : Int} : vopD .dix ρ i (.int m) (.int n) = (match ownD (getS ρ i) with
    | some (.dct kvs) => (R.of (dGet kvs [.inl m, .inl n]) ρ).bind fun z ρ => R.ok (z, Kd.frz) ρ
    | _ => .no) := rfl
def GoodD (e : List (DK × D)) : Prop := ∀ k z, dGet e k = some z → ∃ v, z = .int v ∧ B9 v
def Has (e : List (DK × D)) (i j : Int) : Prop := (dGet e [.inl i, .inl j]).isSome = true
theorem GoodD.at {e : List (DK × D)} {i j : Int} (g : GoodD e) (h : Has e i j) : ∃ v, B9 v ∧ dGet e [.inl i, .inl j] = some (.int v) := by
  obtain ⟨z, hz⟩ := Option.isSome_iff_exists.mp h
  obtain ⟨v, rfl, hv⟩ := g _ _ hz
  exact ⟨v, hv, hz⟩
theorem GoodD.put {e : List (DK × D)} {k : DK} {v : Int} (g : GoodD e) (h : B9 v) : GoodD (dPut e k (.int v)) := fun k' z hz => by
  rw [dg_put] at hz
  split at hz
  · cases hz; exact ⟨v, rfl, h⟩
  · exact g k' z hz
theorem Has.put {e : List (DK × D)} {k : DK} {v : D} {i j : Int} (h : Has e i j) : Has (dPut e k v) i j := by
  unfold Has
  rw [dg_put]
  split
  · rfl
  · exact h
theorem Has.put_self {e : List (DK × D)} {v : D} {i j : Int} : Has (dPut e [.inl i, .inl j] v) i j := by
  unfold Has
  rw [dg_put, if_pos rfl] <;> rfl
/-! one cell -/
abbrev wE (a s c Rw Cl So : Int) (e so : List (DK × D)) (fs : List D) (s7 s8 s9 s10 : Mp.Slot) : Mp.Env := [.io (bowl a s c), .val (.int Rw), .val (.int Cl), .val (.int So), .own (.dct e), .own (.dct so), .own (.lst fs), s7, s8, s9, s10]
theorem st1 (n : Nat) (a s c Rw Cl So i j : Int) (e so : List (DK × D)) (fs : List D) (s9 s10 : Mp.Slot) (h1 : 1 ≤ So) (h2 : So ≤ 9) (hl : e.length < sizeLine) : ∃ a' s' c' v, B9 v ∧
    evS (callN T (n + 2)) (.dst 4 (.var 7) (.var 8) (.ife (.tr (.cmp .lt (.bin .add (.var 8) (.con (.int 1))) (.var 2))) sd (.con (.int 0)))) (wE a s c Rw Cl So e so fs (.val (.int i)) (.val (.int j)) s9 s10) = .nx (wE a' s' c' Rw Cl So (dPut e [.inl i, .inl j] (.int v)) so fs (.val (.int i)) (.val (.int j)) s9 s10) := by
  by_cases h : j + 1 < Cl
  · obtain ⟨a1, b1, c1, v, hv, e1⟩ := sd_ok n a s c So (.val (.int Rw)) (.val (.int Cl)) [.own (.dct e), .own (.dct so), .own (.lst fs), .val (.int i), .val (.int j), s9, s10] h1 h2
    refine ⟨a1, b1, c1, v, hv, ?_⟩
    simp [R.bind_ok', R.bind_no', R.of_some', R.fl_ok', Fl.bind_nx, Fl.bind_rt, s_skip, s_seq, s_asg, s_ex, s_ret, s_retn, s_ite, s_for, s_app, s_never, e_var, e_con, e_glo, e_tup, e_lst, e_neg, e_bin, e_cmp, e_cmp2, e_not, e_and, e_or, e_ife, e_idx, e_sl, e_call, e_callk, e_calf, e_calv, e_blt, e_isin, e_lc, l_nil, l_cons, a_nil, a_cons, a_ioa, p_nil, p_cons, o_nil, o_cons, t_not, t_and, t_or, t_nil, t_tr, i_rng1, i_rng2, i_enm, i_it, g_var, g_tup, g_idxF, g_idxN, gs_nil, gs_cons, Mp.init, initS, getS0, getS1, cur_f, cur_n, cur_p, settle_f, settle_n, settle_p, keep_f, keep_n, keep_p, kd_t, kd_f, tr_non, tr_bl, tr_int, tr_tup, tr_lst, tr_scr, ix_tup, ix_lst, sl_tup, sl_lst, b_len_t, b_len_l, b_len_s, b_tuple_t, b_tuple_l, b_list_t, b_list_l, b_int_i, b_int_b, b_abs, b_max, b_min, b_sum, b_all, b_any, bo_nil, bo_cons, in_nil, in_cons, isin_non, isin_bl, isin_int, isin_str, isin_tup, isin_lst, isinT, seq_t, seq_l, seq_s, own_v, own_o, own_i, own_u, pl_v, pl_u, wipe_n, wipe_c, unw_n, unw_c, fin_rt, fin_nx, out_n, out_t, out_f, six_none, six_some, Mp.ixN, storeIx, put_val, put_new, notIo_un, notIo_val, notIo_own, cmp_gt_int, cmp_lt_int, cmp_le_int, cmp_ge_int, cmp_eq_int, cmp_ne_int, bin_add_int, bin_sub_int, bin_mul_r, bin_mul_l, bin_mod_int, bin_fdiv_int, doCall, doCallF, argsD, iosOf, putOuts, setIo, Ar.isIo, Ar.d, bin_pow_int, bin_add_tup, eq_nil, is_non, isn_non, isNon_int, isNon_tup, isNon_lst, isNon_bl, isNon_str, isNon_non, sz_ok, sz_lt, s_ext, s_fst, s_par, m_nil, m_cons, puts_n, puts_c, e_fld, e_mk, e_isinc, isc_ins, ownL_o, ownL_i, lst_of, app_o, app_i, bin_mul_tup, bin_add_lst, eq_tup_nil, doMk, fldD, s_dst, e_dix, e_pop, e_dnew, e_lof1, e_lof2, e_rof1, e_rof2, e_bm, e_mkk, ownS_o, ownS_i, isLst_l, seqI_t, seqI_l, seqI_s, e_oeq, insB, othB, blR, wE, h, e1, dStore, ownD, hl]
  · refine ⟨a, s, c, 0, by omega, ?_⟩
    simp [R.bind_ok', R.bind_no', R.of_some', R.fl_ok', Fl.bind_nx, Fl.bind_rt, s_skip, s_seq, s_asg, s_ex, s_ret, s_retn, s_ite, s_for, s_app, s_never, e_var, e_con, e_glo, e_tup, e_lst, e_neg, e_bin, e_cmp, e_cmp2, e_not, e_and, e_or, e_ife, e_idx, e_sl, e_call, e_callk, e_calf, e_calv, e_blt, e_isin, e_lc, l_nil, l_cons, a_nil, a_cons, a_ioa, p_nil, p_cons, o_nil, o_cons, t_not, t_and, t_or, t_nil, t_tr, i_rng1, i_rng2, i_enm, i_it, g_var, g_tup, g_idxF, g_idxN, gs_nil, gs_cons, Mp.init, initS, getS0, getS1, cur_f, cur_n, cur_p, settle_f, settle_n, settle_p, keep_f, keep_n, keep_p, kd_t, kd_f, tr_non, tr_bl, tr_int, tr_tup, tr_lst, tr_scr, ix_tup, ix_lst, sl_tup, sl_lst, b_len_t, b_len_l, b_len_s, b_tuple_t, b_tuple_l, b_list_t, b_list_l, b_int_i, b_int_b, b_abs, b_max, b_min, b_sum, b_all, b_any, bo_nil, bo_cons, in_nil, in_cons, isin_non, isin_bl, isin_int, isin_str, isin_tup, isin_lst, isinT, seq_t, seq_l, seq_s, own_v, own_o, own_i, own_u, pl_v, pl_u, wipe_n, wipe_c, unw_n, unw_c, fin_rt, fin_nx, out_n, out_t, out_f, six_none, six_some, Mp.ixN, storeIx, put_val, put_new, notIo_un, notIo_val, notIo_own, cmp_gt_int, cmp_lt_int, cmp_le_int, cmp_ge_int, cmp_eq_int, cmp_ne_int, bin_add_int, bin_sub_int, bin_mul_r, bin_mul_l, bin_mod_int, bin_fdiv_int, doCall, doCallF, argsD, iosOf, putOuts, setIo, Ar.isIo, Ar.d, bin_pow_int, bin_add_tup, eq_nil, is_non, isn_non, isNon_int, isNon_tup, isNon_lst, isNon_bl, isNon_str, isNon_non, sz_ok, sz_lt, s_ext, s_fst, s_par, m_nil, m_cons, puts_n, puts_c, e_fld, e_mk, e_isinc, isc_ins, ownL_o, ownL_i, lst_of, app_o, app_i, bin_mul_tup, bin_add_lst, eq_tup_nil, doMk, fldD, s_dst, e_dix, e_pop, e_dnew, e_lof1, e_lof2, e_rof1, e_rof2, e_bm, e_mkk, ownS_o, ownS_i, isLst_l, seqI_t, seqI_l, seqI_s, e_oeq, insB, othB, blR, wE, h, dStore, ownD, hl]
theorem st2 (n : Nat) (a s c Rw Cl So i j : Int) (e so : List (DK × D)) (fs : List D) (s9 s10 : Mp.Slot) (h1 : 1 ≤ So) (h2 : So ≤ 9) (hl : so.length < sizeLine) : ∃ a' s' c' v, B9 v ∧
    evS (callN T (n + 2)) (.dst 5 (.var 7) (.var 8) (.ife (.tr (.cmp .lt (.bin .add (.var 7) (.con (.int 1))) (.var 1))) sd (.con (.int 0)))) (wE a s c Rw Cl So e so fs (.val (.int i)) (.val (.int j)) s9 s10) = .nx (wE a' s' c' Rw Cl So e (dPut so [.inl i, .inl j] (.int v)) fs (.val (.int i)) (.val (.int j)) s9 s10) := by
  by_cases h : i + 1 < Rw
  · obtain ⟨a1, b1, c1, v, hv, e1⟩ := sd_ok n a s c So (.val (.int Rw)) (.val (.int Cl)) [.own (.dct e), .own (.dct so), .own (.lst fs), .val (.int i), .val (.int j), s9, s10] h1 h2
    refine ⟨a1, b1, c1, v, hv, ?_⟩
    simp [R.bind_ok', R.bind_no', R.of_some', R.fl_ok', Fl.bind_nx, Fl.bind_rt, s_skip, s_seq, s_asg, s_ex, s_ret, s_retn, s_ite, s_for, s_app, s_never, e_var, e_con, e_glo, e_tup, e_lst, e_neg, e_bin, e_cmp, e_cmp2, e_not, e_and, e_or, e_ife, e_idx, e_sl, e_call, e_callk, e_calf, e_calv, e_blt, e_isin, e_lc, l_nil, l_cons, a_nil, a_cons, a_ioa, p_nil, p_cons, o_nil, o_cons, t_not, t_and, t_or, t_nil, t_tr, i_rng1, i_rng2, i_enm, i_it, g_var, g_tup, g_idxF, g_idxN, gs_nil, gs_cons, Mp.init, initS, getS0, getS1, cur_f, cur_n, cur_p, settle_f, settle_n, settle_p, keep_f, keep_n, keep_p, kd_t, kd_f, tr_non, tr_bl, tr_int, tr_tup, tr_lst, tr_scr, ix_tup, ix_lst, sl_tup, sl_lst, b_len_t, b_len_l, b_len_s, b_tuple_t, b_tuple_l, b_list_t, b_list_l, b_int_i, b_int_b, b_abs, b_max, b_min, b_sum, b_all, b_any, bo_nil, bo_cons, in_nil, in_cons, isin_non, isin_bl, isin_int, isin_str, isin_tup, isin_lst, isinT, seq_t, seq_l, seq_s, own_v, own_o, own_i, own_u, pl_v, pl_u, wipe_n, wipe_c, unw_n, unw_c, fin_rt, fin_nx, out_n, out_t, out_f, six_none, six_some, Mp.ixN, storeIx, put_val, put_new, notIo_un, notIo_val, notIo_own, cmp_gt_int, cmp_lt_int, cmp_le_int, cmp_ge_int, cmp_eq_int, cmp_ne_int, bin_add_int, bin_sub_int, bin_mul_r, bin_mul_l, bin_mod_int, bin_fdiv_int, doCall, doCallF, argsD, iosOf, putOuts, setIo, Ar.isIo, Ar.d, bin_pow_int, bin_add_tup, eq_nil, is_non, isn_non, isNon_int, isNon_tup, isNon_lst, isNon_bl, isNon_str, isNon_non, sz_ok, sz_lt, s_ext, s_fst, s_par, m_nil, m_cons, puts_n, puts_c, e_fld, e_mk, e_isinc, isc_ins, ownL_o, ownL_i, lst_of, app_o, app_i, bin_mul_tup, bin_add_lst, eq_tup_nil, doMk, fldD, s_dst, e_dix, e_pop, e_dnew, e_lof1, e_lof2, e_rof1, e_rof2, e_bm, e_mkk, ownS_o, ownS_i, isLst_l, seqI_t, seqI_l, seqI_s, e_oeq, insB, othB, blR, wE, h, e1, dStore, ownD, hl]
  · refine ⟨a, s, c, 0, by omega, ?_⟩
    simp [R.bind_ok', R.bind_no', R.of_some', R.fl_ok', Fl.bind_nx, Fl.bind_rt, s_skip, s_seq, s_asg, s_ex, s_ret, s_retn, s_ite, s_for, s_app, s_never, e_var, e_con, e_glo, e_tup, e_lst, e_neg, e_bin, e_cmp, e_cmp2, e_not, e_and, e_or, e_ife, e_idx, e_sl, e_call, e_callk, e_calf, e_calv, e_blt, e_isin, e_lc, l_nil, l_cons, a_nil, a_cons, a_ioa, p_nil, p_cons, o_nil, o_cons, t_not, t_and, t_or, t_nil, t_tr, i_rng1, i_rng2, i_enm, i_it, g_var, g_tup, g_idxF, g_idxN, gs_nil, gs_cons, Mp.init, initS, getS0, getS1, cur_f, cur_n, cur_p, settle_f, settle_n, settle_p, keep_f, keep_n, keep_p, kd_t, kd_f, tr_non, tr_bl, tr_int, tr_tup, tr_lst, tr_scr, ix_tup, ix_lst, sl_tup, sl_lst, b_len_t, b_len_l, b_len_s, b_tuple_t, b_tuple_l, b_list_t, b_list_l, b_int_i, b_int_b, b_abs, b_max, b_min, b_sum, b_all, b_any, bo_nil, bo_cons, in_nil, in_cons, isin_non, isin_bl, isin_int, isin_str, isin_tup, isin_lst, isinT, seq_t, seq_l, seq_s, own_v, own_o, own_i, own_u, pl_v, pl_u, wipe_n, wipe_c, unw_n, unw_c, fin_rt, fin_nx, out_n, out_t, out_f, six_none, six_some, Mp.ixN, storeIx, put_val, put_new, notIo_un, notIo_val, notIo_own, cmp_gt_int, cmp_lt_int, cmp_le_int, cmp_ge_int, cmp_eq_int, cmp_ne_int, bin_add_int, bin_sub_int, bin_mul_r, bin_mul_l, bin_mod_int, bin_fdiv_int, doCall, doCallF, argsD, iosOf, putOuts, setIo, Ar.isIo, Ar.d, bin_pow_int, bin_add_tup, eq_nil, is_non, isn_non, isNon_int, isNon_tup, isNon_lst, isNon_bl, isNon_str, isNon_non, sz_ok, sz_lt, s_ext, s_fst, s_par, m_nil, m_cons, puts_n, puts_c, e_fld, e_mk, e_isinc, isc_ins, ownL_o, ownL_i, lst_of, app_o, app_i, bin_mul_tup, bin_add_lst, eq_tup_nil, doMk, fldD, s_dst, e_dix, e_pop, e_dnew, e_lof1, e_lof2, e_rof1, e_rof2, e_bm, e_mkk, ownS_o, ownS_i, isLst_l, seqI_t, seqI_l, seqI_s, e_oeq, insB, othB, blR, wE, h, dStore, ownD, hl]
def st3E : S := match d18.body with
  | .seq _ (.seq (.for_ _ _ (.seq (.for_ _ _ (.seq _ (.seq _ (.seq b _)))) _)) _) => b
  | _ => .skip
def st4E : S := match d18.body with
  | .seq _ (.seq (.for_ _ _ (.seq (.for_ _ _ (.seq _ (.seq _ (.seq _ (.seq b _))))) _)) _) => b
  | _ => .skip
theorem st3 (n : Nat) (a s c Rw Cl So i j : Int) (e so : List (DK × D)) (fs : List D) (s9 s10 : Mp.Slot) (ge : GoodD e) (gs : GoodD so) (he : 0 < j → Has e i (j - 1)) (hs : 0 < i → Has so (i - 1) j) (n9 : notIo s9 = true) (n10 : notIo s10 = true) : ∃ v w, B9 v ∧ B9 w ∧
    evS (callN T (n + 2)) st3E (wE a s c Rw Cl So e so fs (.val (.int i)) (.val (.int j)) s9 s10) = .nx (wE a s c Rw Cl So e so fs (.val (.int i)) (.val (.int j)) (.val (.int v)) (.val (.int w))) := by
  by_cases h1 : 0 < i
  · obtain ⟨v, hv, e1⟩ := gs.at (hs h1)
    by_cases h2 : 0 < j
    · obtain ⟨w, hw, e2⟩ := ge.at (he h2)
      refine ⟨0 - v, 0 - w, by omega, by omega, ?_⟩
      simp [R.bind_ok', R.bind_no', R.of_some', R.fl_ok', Fl.bind_nx, Fl.bind_rt, s_skip, s_seq, s_asg, s_ex, s_ret, s_retn, s_ite, s_for, s_app, s_never, e_var, e_con, e_glo, e_tup, e_lst, e_neg, e_bin, e_cmp, e_cmp2, e_not, e_and, e_or, e_ife, e_idx, e_sl, e_call, e_callk, e_calf, e_calv, e_blt, e_isin, e_lc, l_nil, l_cons, a_nil, a_cons, a_ioa, p_nil, p_cons, o_nil, o_cons, t_not, t_and, t_or, t_nil, t_tr, i_rng1, i_rng2, i_enm, i_it, g_var, g_tup, g_idxF, g_idxN, gs_nil, gs_cons, Mp.init, initS, getS0, getS1, cur_f, cur_n, cur_p, settle_f, settle_n, settle_p, keep_f, keep_n, keep_p, kd_t, kd_f, tr_non, tr_bl, tr_int, tr_tup, tr_lst, tr_scr, ix_tup, ix_lst, sl_tup, sl_lst, b_len_t, b_len_l, b_len_s, b_tuple_t, b_tuple_l, b_list_t, b_list_l, b_int_i, b_int_b, b_abs, b_max, b_min, b_sum, b_all, b_any, bo_nil, bo_cons, in_nil, in_cons, isin_non, isin_bl, isin_int, isin_str, isin_tup, isin_lst, isinT, seq_t, seq_l, seq_s, own_v, own_o, own_i, own_u, pl_v, pl_u, wipe_n, wipe_c, unw_n, unw_c, fin_rt, fin_nx, out_n, out_t, out_f, six_none, six_some, Mp.ixN, storeIx, put_val, put_new, notIo_un, notIo_val, notIo_own, cmp_gt_int, cmp_lt_int, cmp_le_int, cmp_ge_int, cmp_eq_int, cmp_ne_int, bin_add_int, bin_sub_int, bin_mul_r, bin_mul_l, bin_mod_int, bin_fdiv_int, doCall, doCallF, argsD, iosOf, putOuts, setIo, Ar.isIo, Ar.d, bin_pow_int, bin_add_tup, eq_nil, is_non, isn_non, isNon_int, isNon_tup, isNon_lst, isNon_bl, isNon_str, isNon_non, sz_ok, sz_lt, s_ext, s_fst, s_par, m_nil, m_cons, puts_n, puts_c, e_fld, e_mk, e_isinc, isc_ins, ownL_o, ownL_i, lst_of, app_o, app_i, bin_mul_tup, bin_add_lst, eq_tup_nil, doMk, fldD, s_dst, e_dix, e_pop, e_dnew, e_lof1, e_lof2, e_rof1, e_rof2, e_bm, e_mkk, ownS_o, ownS_i, isLst_l, seqI_t, seqI_l, seqI_s, e_oeq, insB, othB, blR, wE, st3E, d18, h1, h2, dix_d, ownD, e1, e2, n9, n10]
    · refine ⟨0 - v, 0, by omega, by omega, ?_⟩
      simp [R.bind_ok', R.bind_no', R.of_some', R.fl_ok', Fl.bind_nx, Fl.bind_rt, s_skip, s_seq, s_asg, s_ex, s_ret, s_retn, s_ite, s_for, s_app, s_never, e_var, e_con, e_glo, e_tup, e_lst, e_neg, e_bin, e_cmp, e_cmp2, e_not, e_and, e_or, e_ife, e_idx, e_sl, e_call, e_callk, e_calf, e_calv, e_blt, e_isin, e_lc, l_nil, l_cons, a_nil, a_cons, a_ioa, p_nil, p_cons, o_nil, o_cons, t_not, t_and, t_or, t_nil, t_tr, i_rng1, i_rng2, i_enm, i_it, g_var, g_tup, g_idxF, g_idxN, gs_nil, gs_cons, Mp.init, initS, getS0, getS1, cur_f, cur_n, cur_p, settle_f, settle_n, settle_p, keep_f, keep_n, keep_p, kd_t, kd_f, tr_non, tr_bl, tr_int, tr_tup, tr_lst, tr_scr, ix_tup, ix_lst, sl_tup, sl_lst, b_len_t, b_len_l, b_len_s, b_tuple_t, b_tuple_l, b_list_t, b_list_l, b_int_i, b_int_b, b_abs, b_max, b_min, b_sum, b_all, b_any, bo_nil, bo_cons, in_nil, in_cons, isin_non, isin_bl, isin_int, isin_str, isin_tup, isin_lst, isinT, seq_t, seq_l, seq_s, own_v, own_o, own_i, own_u, pl_v, pl_u, wipe_n, wipe_c, unw_n, unw_c, fin_rt, fin_nx, out_n, out_t, out_f, six_none, six_some, Mp.ixN, storeIx, put_val, put_new, notIo_un, notIo_val, notIo_own, cmp_gt_int, cmp_lt_int, cmp_le_int, cmp_ge_int, cmp_eq_int, cmp_ne_int, bin_add_int, bin_sub_int, bin_mul_r, bin_mul_l, bin_mod_int, bin_fdiv_int, doCall, doCallF, argsD, iosOf, putOuts, setIo, Ar.isIo, Ar.d, bin_pow_int, bin_add_tup, eq_nil, is_non, isn_non, isNon_int, isNon_tup, isNon_lst, isNon_bl, isNon_str, isNon_non, sz_ok, sz_lt, s_ext, s_fst, s_par, m_nil, m_cons, puts_n, puts_c, e_fld, e_mk, e_isinc, isc_ins, ownL_o, ownL_i, lst_of, app_o, app_i, bin_mul_tup, bin_add_lst, eq_tup_nil, doMk, fldD, s_dst, e_dix, e_pop, e_dnew, e_lof1, e_lof2, e_rof1, e_rof2, e_bm, e_mkk, ownS_o, ownS_i, isLst_l, seqI_t, seqI_l, seqI_s, e_oeq, insB, othB, blR, wE, st3E, d18, h1, h2, dix_d, ownD, e1, n9, n10]
  · by_cases h2 : 0 < j
    · obtain ⟨w, hw, e2⟩ := ge.at (he h2)
      refine ⟨0, 0 - w, by omega, by omega, ?_⟩
      simp [R.bind_ok', R.bind_no', R.of_some', R.fl_ok', Fl.bind_nx, Fl.bind_rt, s_skip, s_seq, s_asg, s_ex, s_ret, s_retn, s_ite, s_for, s_app, s_never, e_var, e_con, e_glo, e_tup, e_lst, e_neg, e_bin, e_cmp, e_cmp2, e_not, e_and, e_or, e_ife, e_idx, e_sl, e_call, e_callk, e_calf, e_calv, e_blt, e_isin, e_lc, l_nil, l_cons, a_nil, a_cons, a_ioa, p_nil, p_cons, o_nil, o_cons, t_not, t_and, t_or, t_nil, t_tr, i_rng1, i_rng2, i_enm, i_it, g_var, g_tup, g_idxF, g_idxN, gs_nil, gs_cons, Mp.init, initS, getS0, getS1, cur_f, cur_n, cur_p, settle_f, settle_n, settle_p, keep_f, keep_n, keep_p, kd_t, kd_f, tr_non, tr_bl, tr_int, tr_tup, tr_lst, tr_scr, ix_tup, ix_lst, sl_tup, sl_lst, b_len_t, b_len_l, b_len_s, b_tuple_t, b_tuple_l, b_list_t, b_list_l, b_int_i, b_int_b, b_abs, b_max, b_min, b_sum, b_all, b_any, bo_nil, bo_cons, in_nil, in_cons, isin_non, isin_bl, isin_int, isin_str, isin_tup, isin_lst, isinT, seq_t, seq_l, seq_s, own_v, own_o, own_i, own_u, pl_v, pl_u, wipe_n, wipe_c, unw_n, unw_c, fin_rt, fin_nx, out_n, out_t, out_f, six_none, six_some, Mp.ixN, storeIx, put_val, put_new, notIo_un, notIo_val, notIo_own, cmp_gt_int, cmp_lt_int, cmp_le_int, cmp_ge_int, cmp_eq_int, cmp_ne_int, bin_add_int, bin_sub_int, bin_mul_r, bin_mul_l, bin_mod_int, bin_fdiv_int, doCall, doCallF, argsD, iosOf, putOuts, setIo, Ar.isIo, Ar.d, bin_pow_int, bin_add_tup, eq_nil, is_non, isn_non, isNon_int, isNon_tup, isNon_lst, isNon_bl, isNon_str, isNon_non, sz_ok, sz_lt, s_ext, s_fst, s_par, m_nil, m_cons, puts_n, puts_c, e_fld, e_mk, e_isinc, isc_ins, ownL_o, ownL_i, lst_of, app_o, app_i, bin_mul_tup, bin_add_lst, eq_tup_nil, doMk, fldD, s_dst, e_dix, e_pop, e_dnew, e_lof1, e_lof2, e_rof1, e_rof2, e_bm, e_mkk, ownS_o, ownS_i, isLst_l, seqI_t, seqI_l, seqI_s, e_oeq, insB, othB, blR, wE, st3E, d18, h1, h2, dix_d, ownD, e2, n9, n10]
    · refine ⟨0, 0, by omega, by omega, ?_⟩
      simp [R.bind_ok', R.bind_no', R.of_some', R.fl_ok', Fl.bind_nx, Fl.bind_rt, s_skip, s_seq, s_asg, s_ex, s_ret, s_retn, s_ite, s_for, s_app, s_never, e_var, e_con, e_glo, e_tup, e_lst, e_neg, e_bin, e_cmp, e_cmp2, e_not, e_and, e_or, e_ife, e_idx, e_sl, e_call, e_callk, e_calf, e_calv, e_blt, e_isin, e_lc, l_nil, l_cons, a_nil, a_cons, a_ioa, p_nil, p_cons, o_nil, o_cons, t_not, t_and, t_or, t_nil, t_tr, i_rng1, i_rng2, i_enm, i_it, g_var, g_tup, g_idxF, g_idxN, gs_nil, gs_cons, Mp.init, initS, getS0, getS1, cur_f, cur_n, cur_p, settle_f, settle_n, settle_p, keep_f, keep_n, keep_p, kd_t, kd_f, tr_non, tr_bl, tr_int, tr_tup, tr_lst, tr_scr, ix_tup, ix_lst, sl_tup, sl_lst, b_len_t, b_len_l, b_len_s, b_tuple_t, b_tuple_l, b_list_t, b_list_l, b_int_i, b_int_b, b_abs, b_max, b_min, b_sum, b_all, b_any, bo_nil, bo_cons, in_nil, in_cons, isin_non, isin_bl, isin_int, isin_str, isin_tup, isin_lst, isinT, seq_t, seq_l, seq_s, own_v, own_o, own_i, own_u, pl_v, pl_u, wipe_n, wipe_c, unw_n, unw_c, fin_rt, fin_nx, out_n, out_t, out_f, six_none, six_some, Mp.ixN, storeIx, put_val, put_new, notIo_un, notIo_val, notIo_own, cmp_gt_int, cmp_lt_int, cmp_le_int, cmp_ge_int, cmp_eq_int, cmp_ne_int, bin_add_int, bin_sub_int, bin_mul_r, bin_mul_l, bin_mod_int, bin_fdiv_int, doCall, doCallF, argsD, iosOf, putOuts, setIo, Ar.isIo, Ar.d, bin_pow_int, bin_add_tup, eq_nil, is_non, isn_non, isNon_int, isNon_tup, isNon_lst, isNon_bl, isNon_str, isNon_non, sz_ok, sz_lt, s_ext, s_fst, s_par, m_nil, m_cons, puts_n, puts_c, e_fld, e_mk, e_isinc, isc_ins, ownL_o, ownL_i, lst_of, app_o, app_i, bin_mul_tup, bin_add_lst, eq_tup_nil, doMk, fldD, s_dst, e_dix, e_pop, e_dnew, e_lof1, e_lof2, e_rof1, e_rof2, e_bm, e_mkk, ownS_o, ownS_i, isLst_l, seqI_t, seqI_l, seqI_s, e_oeq, insB, othB, blR, wE, st3E, d18, h1, h2, n9, n10]
theorem st4 (n : Nat) (a s c Rw Cl So i j v w : Int) (e so : List (DK × D)) (qs : List P4) (ge : GoodD e) (gs : GoodD so) (he : Has e i j) (hs : Has so i j) (hv : B9 v) (hw : B9 w) (hl : qs.length < 100000) : ∃ p, ok4 p ∧
    evS (callN T (n + 2)) st4E (wE a s c Rw Cl So e so (qs.map pd) (.val (.int i)) (.val (.int j)) (.val (.int v)) (.val (.int w))) = .nx (wE a s c Rw Cl So e so ((qs ++ [p]).map pd) (.val (.int i)) (.val (.int j)) (.val (.int v)) (.val (.int w))) := by
  obtain ⟨x, hx, e1⟩ := ge.at he
  obtain ⟨y, hy, e2⟩ := gs.at hs
  refine ⟨(v, x, y, w), ⟨hv, hx, hy, hw⟩, ?_⟩
  have hz : (qs.map pd).length + 1 ≤ sizeLine := by rw [List.length_map]; exact sz_ok (by omega)
  have ha : ∀ ρ : Mp.Env, getS ρ 6 = .own (.lst (qs.map pd)) → appD ρ 6 [.tup [.int v, .int x, .int y, .int w]] = some (ρ.set 6 (.own (.lst (qs.map pd ++ [.tup [.int v, .int x, .int y, .int w]])))) := fun ρ h => by
    unfold appD
    rw [h]
    exact if_pos hz
  rw [List.map_append]
  simp [R.bind_ok', R.bind_no', R.of_some', R.fl_ok', Fl.bind_nx, Fl.bind_rt, s_skip, s_seq, s_asg, s_ex, s_ret, s_retn, s_ite, s_for, s_app, s_never, e_var, e_con, e_glo, e_tup, e_lst, e_neg, e_bin, e_cmp, e_cmp2, e_not, e_and, e_or, e_ife, e_idx, e_sl, e_call, e_callk, e_calf, e_calv, e_blt, e_isin, e_lc, l_nil, l_cons, a_nil, a_cons, a_ioa, p_nil, p_cons, o_nil, o_cons, t_not, t_and, t_or, t_nil, t_tr, i_rng1, i_rng2, i_enm, i_it, g_var, g_tup, g_idxF, g_idxN, gs_nil, gs_cons, Mp.init, initS, getS0, getS1, cur_f, cur_n, cur_p, settle_f, settle_n, settle_p, keep_f, keep_n, keep_p, kd_t, kd_f, tr_non, tr_bl, tr_int, tr_tup, tr_lst, tr_scr, ix_tup, ix_lst, sl_tup, sl_lst, b_len_t, b_len_l, b_len_s, b_tuple_t, b_tuple_l, b_list_t, b_list_l, b_int_i, b_int_b, b_abs, b_max, b_min, b_sum, b_all, b_any, bo_nil, bo_cons, in_nil, in_cons, isin_non, isin_bl, isin_int, isin_str, isin_tup, isin_lst, isinT, seq_t, seq_l, seq_s, own_v, own_o, own_i, own_u, pl_v, pl_u, wipe_n, wipe_c, unw_n, unw_c, fin_rt, fin_nx, out_n, out_t, out_f, six_none, six_some, Mp.ixN, storeIx, put_val, put_new, notIo_un, notIo_val, notIo_own, cmp_gt_int, cmp_lt_int, cmp_le_int, cmp_ge_int, cmp_eq_int, cmp_ne_int, bin_add_int, bin_sub_int, bin_mul_r, bin_mul_l, bin_mod_int, bin_fdiv_int, doCall, doCallF, argsD, iosOf, putOuts, setIo, Ar.isIo, Ar.d, bin_pow_int, bin_add_tup, eq_nil, is_non, isn_non, isNon_int, isNon_tup, isNon_lst, isNon_bl, isNon_str, isNon_non, sz_ok, sz_lt, s_ext, s_fst, s_par, m_nil, m_cons, puts_n, puts_c, e_fld, e_mk, e_isinc, isc_ins, ownL_o, ownL_i, lst_of, app_o, app_i, bin_mul_tup, bin_add_lst, eq_tup_nil, doMk, fldD, s_dst, e_dix, e_pop, e_dnew, e_lof1, e_lof2, e_rof1, e_rof2, e_bm, e_mkk, ownS_o, ownS_i, isLst_l, seqI_t, seqI_l, seqI_s, e_oeq, insB, othB, blR, wE, st4E, d18, dix_d, ownD, e1, e2, ha, pd]
def innerB : S := match d18.body with
  | .seq _ (.seq (.for_ _ _ (.seq (.for_ _ _ b) _)) _) => b
  | _ => .skip
theorem inner_ok (n : Nat) (a s c Rw Cl So i j : Int) (e so : List (DK × D)) (qs : List P4) (s9 s10 : Mp.Slot) (h1 : 1 ≤ So) (h2 : So ≤ 9) (hl : e.length < sizeLine) (hl2 : so.length < sizeLine) (hq : qs.length < 100000)
    (ge : GoodD e) (gs : GoodD so) (he : 0 < j → Has e i (j - 1)) (hs : 0 < i → Has so (i - 1) j) (n9 : notIo s9 = true) (n10 : notIo s10 = true) : ∃ a' s' c' v w p x y, B9 v ∧ B9 w ∧ ok4 p ∧
    evS (callN T (n + 2)) innerB (wE a s c Rw Cl So e so (qs.map pd) (.val (.int i)) (.val (.int j)) s9 s10) = .nx (wE a' s' c' Rw Cl So (dPut e [.inl i, .inl j] (.int v)) (dPut so [.inl i, .inl j] (.int w)) ((qs ++ [p]).map pd) (.val (.int i)) (.val (.int j)) (.val (.int x)) (.val (.int y))) := by
  obtain ⟨a1, b1, c1, v, hv, k1⟩ := st1 n a s c Rw Cl So i j e so (qs.map pd) s9 s10 h1 h2 hl
  obtain ⟨a2, b2, c2, w, hw, k2⟩ := st2 n a1 b1 c1 Rw Cl So i j (dPut e [.inl i, .inl j] (.int v)) so (qs.map pd) s9 s10 h1 h2 hl2
  have ge' := ge.put (k := [.inl i, .inl j]) hv
  have gs' := gs.put (k := [.inl i, .inl j]) hw
  obtain ⟨x, y, hx, hy, k3⟩ := st3 n a2 b2 c2 Rw Cl So i j (dPut e [.inl i, .inl j] (.int v)) (dPut so [.inl i, .inl j] (.int w)) (qs.map pd) s9 s10 ge' gs' (fun z => (he z).put) (fun z => (hs z).put) n9 n10
  obtain ⟨p, hp, k4⟩ := st4 n a2 b2 c2 Rw Cl So i j x y _ _ qs ge' gs' Has.put_self Has.put_self hx hy hq
  refine ⟨a2, b2, c2, v, w, p, x, y, hv, hw, hp, ?_⟩
  have hb : innerB = .seq (.dst 4 (.var 7) (.var 8) (.ife (.tr (.cmp .lt (.bin .add (.var 8) (.con (.int 1))) (.var 2))) sd (.con (.int 0)))) (.seq (.dst 5 (.var 7) (.var 8) (.ife (.tr (.cmp .lt (.bin .add (.var 7) (.con (.int 1))) (.var 1))) sd (.con (.int 0)))) (.seq st3E (.seq st4E .skip))) := rfl
  rw [hb, s_seq, k1, Fl.bind_nx, s_seq, k2, Fl.bind_nx, s_seq, k3, Fl.bind_nx, s_seq, k4, Fl.bind_nx, s_skip]
theorem inner_loop (n : Nat) (Rw Cl So i : Int) (h1 : 1 ≤ So) (h2 : So ≤ 9) (hC : Cl ≤ 6) : ∀ (m : Nat) (j a s c : Int) (e so : List (DK × D)) (qs : List P4) (s8 s9 s10 : Mp.Slot), (Cl - j).toNat = m → 0 ≤ j → j ≤ Cl → e.length + m < 100000 → so.length + m < 100000 → qs.length + m < 100000 → GoodD e → GoodD so → (0 < j → Has e i (j - 1)) → (0 < i → ∀ j', j ≤ j' → j' < Cl → Has so (i - 1) j') → (∀ j', 0 ≤ j' → j' < j → Has so i j') → notIo s8 = true → notIo s9 = true → notIo s10 = true →
    ∃ a' s' c' e' so' rest t8 t9 t10, GoodD e' ∧ GoodD so' ∧ (∀ j', 0 ≤ j' → j' < Cl → Has so' i j') ∧ e'.length ≤ e.length + m ∧ so'.length ≤ so.length + m ∧ (∀ p ∈ rest, ok4 p) ∧ rest.length = m ∧ notIo t8 = true ∧ notIo t9 = true ∧ notIo t10 = true ∧
    forRun (callN T (n + 2)) (.var 8) innerB (rngD j Cl) (wE a s c Rw Cl So e so (qs.map pd) (.val (.int i)) s8 s9 s10) = .nx (wE a' s' c' Rw Cl So e' so' ((qs ++ rest).map pd) (.val (.int i)) t8 t9 t10)
  | 0, j, a, s, c, e, so, qs, s8, s9, s10, hm, h0, hj, l1, l2, l3, ge, gs, he, hs, hd, n8, n9, n10 => by
    refine ⟨a, s, c, e, so, [], s8, s9, s10, ge, gs, fun j' q1 q2 => hd j' q1 (by omega), by omega, by omega, by simp, rfl, n8, n9, n10, ?_⟩
    rw [rng_nil (by omega), List.append_nil]
    rfl
  | m + 1, j, a, s, c, e, so, qs, s8, s9, s10, hm, h0, hj, l1, l2, l3, ge, gs, he, hs, hd, n8, n9, n10 => by
    have hjC : j < Cl := by omega
    obtain ⟨a1, b1, c1, v, w, p, x, y, hv, hw, hp, k1⟩ := inner_ok n a s c Rw Cl So i j e so qs s9 s10 h1 h2 (sz_lt (by omega)) (sz_lt (by omega)) (by omega) ge gs he (fun z => hs z j (Int.le_refl _) hjC) n9 n10
    have q1 := dp_len e [.inl i, .inl j] (.int v)
    have q2 := dp_len so [.inl i, .inl j] (.int w)
    obtain ⟨a2, b2, c2, e2, so2, rest, t8, t9, t10, g1, g2, g3, g4, g5, g6, g7, g8, g9, g10, k2⟩ := inner_loop n Rw Cl So i h1 h2 hC m (j + 1) a1 b1 c1 (dPut e [.inl i, .inl j] (.int v)) (dPut so [.inl i, .inl j] (.int w)) (qs ++ [p]) (.val (.int j)) (.val (.int x)) (.val (.int y)) (by omega) (by omega) (by omega) (by omega) (by omega) (by rw [List.length_append, List.length_singleton]; omega) (ge.put hv) (gs.put hw)
      (fun _ => by rw [show j + 1 - 1 = j by omega]; exact Has.put_self) (fun z j' q1 q2 => (hs z j' (by omega) q2).put) (fun j' q1 q2 => by
        by_cases ee : j' = j
        · rw [ee]; exact Has.put_self
        · exact (hd j' q1 (by omega)).put) rfl rfl rfl
    refine ⟨a2, b2, c2, e2, so2, p :: rest, t8, t9, t10, g1, g2, g3, by omega, by omega, fun z hz => ?_, by rw [List.length_cons, g7], g8, g9, g10, ?_⟩
    · rcases List.mem_cons.mp hz with rfl | hz
      · exact hp
      · exact g6 z hz
    · rw [rng_cons hjC, for_cons]
      have hg : evG (callN T (n + 2)) (.var 8) (.int j) .frz (wE a s c Rw Cl So e so (qs.map pd) (.val (.int i)) s8 s9 s10) = .ok () (wE a s c Rw Cl So e so (qs.map pd) (.val (.int i)) (.val (.int j)) s9 s10) := by
        rw [g_var]
        exact put_val (by exact n8) (show (8 : Nat) < 11 by decide)
      rw [hg, R.fl_ok', k1, Fl.bind_nx, k2, List.append_assoc] <;> rfl
def outerB : S := match d18.body with
  | .seq _ (.seq (.for_ _ _ b) _) => b
  | _ => .skip
theorem outer_loop (n : Nat) (Rw Cl So : Int) (h1 : 1 ≤ So) (h2 : So ≤ 9) (hC : Cl ≤ 6) (hC1 : 1 ≤ Cl) (hR : Rw ≤ 6) : ∀ (m : Nat) (i a s c : Int) (e so : List (DK × D)) (qs : List P4) (s7 s8 s9 s10 : Mp.Slot), (Rw - i).toNat = m → 0 ≤ i → i ≤ Rw → e.length + m * 6 < 10000 → so.length + m * 6 < 10000 → qs.length + m * 6 < 10000 → GoodD e → GoodD so → (0 < i → ∀ j', 0 ≤ j' → j' < Cl → Has so (i - 1) j') → notIo s7 = true → notIo s8 = true → notIo s9 = true → notIo s10 = true →
    ∃ a' s' c' e' so' rest t7 t8 t9 t10, (∀ p ∈ rest, ok4 p) ∧ rest.length = m * Cl.toNat ∧
    forRun (callN T (n + 2)) (.var 7) outerB (rngD i Rw) (wE a s c Rw Cl So e so (qs.map pd) s7 s8 s9 s10) = .nx (wE a' s' c' Rw Cl So e' so' ((qs ++ rest).map pd) t7 t8 t9 t10)
  | 0, i, a, s, c, e, so, qs, s7, s8, s9, s10, hm, h0, hj, l1, l2, l3, ge, gs, hs, n7, n8, n9, n10 => by
    refine ⟨a, s, c, e, so, [], s7, s8, s9, s10, by simp, by simp, ?_⟩
    rw [rng_nil (by omega), List.append_nil]
    rfl
  | m + 1, i, a, s, c, e, so, qs, s7, s8, s9, s10, hm, h0, hj, l1, l2, l3, ge, gs, hs, n7, n8, n9, n10 => by
    have hiR : i < Rw := by omega
    have hCn : Cl.toNat ≤ 6 := by omega
    obtain ⟨a1, b1, c1, e1, so1, rest, t8, t9, t10, g1, g2, g3, g4, g5, g6, g7, g8, g9, g10, k1⟩ := inner_loop n Rw Cl So i h1 h2 hC Cl.toNat 0 a s c e so qs s8 s9 s10 (by omega) (by omega) (by omega) (by omega) (by omega) (by omega) ge gs (fun z => absurd z (by omega)) (fun z j' q1 q2 => hs z j' q1 q2) (fun j' q1 q2 => absurd q1 (by omega)) n8 n9 n10
    obtain ⟨a2, b2, c2, e2, so2, rest2, u7, u8, u9, u10, f1, f2, k2⟩ := outer_loop n Rw Cl So h1 h2 hC hC1 hR m (i + 1) a1 b1 c1 e1 so1 (qs ++ rest) (.val (.int i)) t8 t9 t10 (by omega) (by omega) (by omega) (by omega) (by omega) (by rw [List.length_append]; omega) g1 g2 (fun _ j' q1 q2 => by rw [show i + 1 - 1 = i by omega]; exact g3 j' q1 q2) rfl g8 g9 g10
    refine ⟨a2, b2, c2, e2, so2, rest ++ rest2, u7, u8, u9, u10, fun z hz => ?_, by rw [List.length_append, g7, f2, Nat.succ_mul]; omega, ?_⟩
    · rcases List.mem_append.mp hz with hz | hz
      · exact g6 z hz
      · exact f1 z hz
    · rw [rng_cons hiR, for_cons]
      have hg : evG (callN T (n + 2)) (.var 7) (.int i) .frz (wE a s c Rw Cl So e so (qs.map pd) s7 s8 s9 s10) = .ok () (wE a s c Rw Cl So e so (qs.map pd) (.val (.int i)) s8 s9 s10) := by
        rw [g_var]
        exact put_val (by exact n7) (show (7 : Nat) < 11 by decide)
      have hb : outerB = .seq (.for_ (.var 8) (.rng1 (.var 2)) innerB) .skip := rfl
      have i1 : -4611686018427387904 ≤ Cl := by omega
      have i2 : Cl < 4611686018427387904 := by omega
      simp only [wE, List.map_append] at k1
      have k3 : evS (callN T (n + 2)) outerB (wE a s c Rw Cl So e so (qs.map pd) (.val (.int i)) s8 s9 s10) = .nx (wE a1 b1 c1 Rw Cl So e1 so1 ((qs ++ rest).map pd) (.val (.int i)) t8 t9 t10) := by
        rw [hb]
        simp [R.bind_ok', R.bind_no', R.of_some', R.fl_ok', Fl.bind_nx, Fl.bind_rt, s_skip, s_seq, s_asg, s_ex, s_ret, s_retn, s_ite, s_for, s_app, s_never, e_var, e_con, e_glo, e_tup, e_lst, e_neg, e_bin, e_cmp, e_cmp2, e_not, e_and, e_or, e_ife, e_idx, e_sl, e_call, e_callk, e_calf, e_calv, e_blt, e_isin, e_lc, l_nil, l_cons, a_nil, a_cons, a_ioa, p_nil, p_cons, o_nil, o_cons, t_not, t_and, t_or, t_nil, t_tr, i_rng1, i_rng2, i_enm, i_it, g_var, g_tup, g_idxF, g_idxN, gs_nil, gs_cons, Mp.init, initS, getS0, getS1, cur_f, cur_n, cur_p, settle_f, settle_n, settle_p, keep_f, keep_n, keep_p, kd_t, kd_f, tr_non, tr_bl, tr_int, tr_tup, tr_lst, tr_scr, ix_tup, ix_lst, sl_tup, sl_lst, b_len_t, b_len_l, b_len_s, b_tuple_t, b_tuple_l, b_list_t, b_list_l, b_int_i, b_int_b, b_abs, b_max, b_min, b_sum, b_all, b_any, bo_nil, bo_cons, in_nil, in_cons, isin_non, isin_bl, isin_int, isin_str, isin_tup, isin_lst, isinT, seq_t, seq_l, seq_s, own_v, own_o, own_i, own_u, pl_v, pl_u, wipe_n, wipe_c, unw_n, unw_c, fin_rt, fin_nx, out_n, out_t, out_f, six_none, six_some, Mp.ixN, storeIx, put_val, put_new, notIo_un, notIo_val, notIo_own, cmp_gt_int, cmp_lt_int, cmp_le_int, cmp_ge_int, cmp_eq_int, cmp_ne_int, bin_add_int, bin_sub_int, bin_mul_r, bin_mul_l, bin_mod_int, bin_fdiv_int, doCall, doCallF, argsD, iosOf, putOuts, setIo, Ar.isIo, Ar.d, bin_pow_int, bin_add_tup, eq_nil, is_non, isn_non, isNon_int, isNon_tup, isNon_lst, isNon_bl, isNon_str, isNon_non, sz_ok, sz_lt, s_ext, s_fst, s_par, m_nil, m_cons, puts_n, puts_c, e_fld, e_mk, e_isinc, isc_ins, ownL_o, ownL_i, lst_of, app_o, app_i, bin_mul_tup, bin_add_lst, eq_tup_nil, doMk, fldD, s_dst, e_dix, e_pop, e_dnew, e_lof1, e_lof2, e_rof1, e_rof2, e_bm, e_mkk, ownS_o, ownS_i, isLst_l, seqI_t, seqI_l, seqI_s, e_oeq, insB, othB, blR, wE, inR, i1, i2, k1]
      rw [hg, R.fl_ok', k3, Fl.bind_nx, k2, List.append_assoc] <;> rfl
theorem whole_ok (n : Nat) (a s c Rw Cl So : Int) (hR : 1 ≤ Rw) (hR6 : Rw ≤ 6) (hC : 1 ≤ Cl) (hC6 : Cl ≤ 6) (h1 : 1 ≤ So) (h2 : So ≤ 9) : ∃ a' s' c', ∃ qs : List P4, (∀ p ∈ qs, ok4 p) ∧ qs.length = Rw.toNat * Cl.toNat ∧
    callN T (n + 3) 18 [true, false, false, false] [bowl a s c, .int Rw, .int Cl, .int So] = some (.lst (qs.map pd), true, [bowl a' s' c']) := by
  obtain ⟨a1, b1, c1, e1, so1, qs, t7, t8, t9, t10, g1, g2, k⟩ := outer_loop n Rw Cl So h1 h2 hC6 hC hR6 Rw.toNat 0 a s c [] [] [] .un .un .un .un (by omega) (by omega) (by omega) (by simp; omega) (by simp; omega) (by simp; omega) (fun k z h => by rw [dg_nil] at h; cases h) (fun k z h => by rw [dg_nil] at h; cases h) (fun z => absurd z (by omega)) rfl rfl rfl rfl
  refine ⟨a1, b1, c1, qs, g1, g2, ?_⟩
  rw [call_eq (T := T) (n := n + 2) (f := 18) (fl := [true, false, false, false]) (ds := [bowl a s c, .int Rw, .int Cl, .int So]) (df := d18) rfl rfl rfl rfl]
  have hb : d18.body = .seq (.par [4, 5, 6] (.cons (.uop .dnew .nil) (.cons (.uop .dnew .nil) (.cons (.lst .nil) .nil)))) (.seq (.for_ (.var 7) (.rng1 (.var 1)) outerB) (.seq (.ret (.var 6)) .skip)) := rfl
  have hi : init d18 [bowl a s c, .int Rw, .int Cl, .int So] = [.io (bowl a s c), .val (.int Rw), .val (.int Cl), .val (.int So), .un, .un, .un, .un, .un, .un, .un] := rfl
  have hios : d18.ios = [true, false, false, false] := rfl
  have i1 : -4611686018427387904 ≤ Rw := by omega
  have i2 : Rw < 4611686018427387904 := by omega
  simp only [wE, List.map_nil, List.nil_append] at k
  rw [hb, hi, hios]
  simp [R.bind_ok', R.bind_no', R.of_some', R.fl_ok', Fl.bind_nx, Fl.bind_rt, s_skip, s_seq, s_asg, s_ex, s_ret, s_retn, s_ite, s_for, s_app, s_never, e_var, e_con, e_glo, e_tup, e_lst, e_neg, e_bin, e_cmp, e_cmp2, e_not, e_and, e_or, e_ife, e_idx, e_sl, e_call, e_callk, e_calf, e_calv, e_blt, e_isin, e_lc, l_nil, l_cons, a_nil, a_cons, a_ioa, p_nil, p_cons, o_nil, o_cons, t_not, t_and, t_or, t_nil, t_tr, i_rng1, i_rng2, i_enm, i_it, g_var, g_tup, g_idxF, g_idxN, gs_nil, gs_cons, Mp.init, initS, getS0, getS1, cur_f, cur_n, cur_p, settle_f, settle_n, settle_p, keep_f, keep_n, keep_p, kd_t, kd_f, tr_non, tr_bl, tr_int, tr_tup, tr_lst, tr_scr, ix_tup, ix_lst, sl_tup, sl_lst, b_len_t, b_len_l, b_len_s, b_tuple_t, b_tuple_l, b_list_t, b_list_l, b_int_i, b_int_b, b_abs, b_max, b_min, b_sum, b_all, b_any, bo_nil, bo_cons, in_nil, in_cons, isin_non, isin_bl, isin_int, isin_str, isin_tup, isin_lst, isinT, seq_t, seq_l, seq_s, own_v, own_o, own_i, own_u, pl_v, pl_u, wipe_n, wipe_c, unw_n, unw_c, fin_rt, fin_nx, out_n, out_t, out_f, six_none, six_some, Mp.ixN, storeIx, put_val, put_new, notIo_un, notIo_val, notIo_own, cmp_gt_int, cmp_lt_int, cmp_le_int, cmp_ge_int, cmp_eq_int, cmp_ne_int, bin_add_int, bin_sub_int, bin_mul_r, bin_mul_l, bin_mod_int, bin_fdiv_int, doCall, doCallF, argsD, iosOf, putOuts, setIo, Ar.isIo, Ar.d, bin_pow_int, bin_add_tup, eq_nil, is_non, isn_non, isNon_int, isNon_tup, isNon_lst, isNon_bl, isNon_str, isNon_non, sz_ok, sz_lt, s_ext, s_fst, s_par, m_nil, m_cons, puts_n, puts_c, e_fld, e_mk, e_isinc, isc_ins, ownL_o, ownL_i, lst_of, app_o, app_i, bin_mul_tup, bin_add_lst, eq_tup_nil, doMk, fldD, s_dst, e_dix, e_pop, e_dnew, e_lof1, e_lof2, e_rof1, e_rof2, e_bm, e_mkk, ownS_o, ownS_i, isLst_l, seqI_t, seqI_l, seqI_s, e_oeq, insB, othB, blR, inR, i1, i2, k]
end K01

set_option maxHeartbeats 4000000
set_option maxRecDepth 10000
namespace K01
open PySem Mp
/-! sorted pieces -/
theorem pd_ok (p : P4) : (pd p).ok = true := by simp [pd, D.ok, D.toP, D.toPs, PyData.plain, PyData.plainAll]
theorem pd_alike (p q : P4) : PySem.W.alike (pd p).toP (pd q).toP = true := by simp [pd, D.toP, D.toPs, PySem.W.alike, PySem.W.alikeAll]
theorem pd_depth (p : P4) : (pd p).toP.depth ≤ 60 := by simp [pd, D.toP, D.toPs, PyData.depth, PyData.depthAll]
theorem pd_ne (p : P4) : tupNE (pd p) = true := rfl
theorem sortB_ok (qs : List P4) : sortB (qs.map pd) = true := by
  unfold sortB
  rw [Bool.and_eq_true, Bool.and_eq_true, Bool.or_eq_true]
  refine ⟨List.all_eq_true.mpr fun x hx => ?_, List.all_eq_true.mpr fun x hx => List.all_eq_true.mpr fun y hy => ?_, .inl (List.all_eq_true.mpr fun x hx => ?_)⟩
  · obtain ⟨p, _, rfl⟩ := List.mem_map.mp hx
    rw [pd_ok, Bool.true_and]
    exact decide_eq_true (pd_depth p)
  · obtain ⟨p, _, rfl⟩ := List.mem_map.mp hx
    obtain ⟨q, _, rfl⟩ := List.mem_map.mp hy
    exact pd_alike p q
  · obtain ⟨p, _, rfl⟩ := List.mem_map.mp hx
    rfl
def insP (a : P4) : List P4 → List P4
  | [] => [a]
  | b :: r => if leD (pd a) (pd b) = true then a :: b :: r else b :: insP a r
def srt : List P4 → List P4
  | [] => []
  | a :: r => insP a (srt r)
theorem ins_map (a : P4) : ∀ qs : List P4, insD (pd a) (qs.map pd) = (insP a qs).map pd
  | [] => rfl
  | b :: r => by
    show (if leD (pd a) (pd b) = true then pd a :: pd b :: r.map pd else pd b :: insD (pd a) (r.map pd)) = (if leD (pd a) (pd b) = true then a :: b :: r else b :: insP a r).map pd
    by_cases h : leD (pd a) (pd b) = true
    · rw [if_pos h, if_pos h] <;> rfl
    · rw [if_neg h, if_neg h, ins_map a r] <;> rfl
theorem srt_map : ∀ qs : List P4, isortD (qs.map pd) = (srt qs).map pd
  | [] => rfl
  | a :: r => by
    show insD (pd a) (isortD (r.map pd)) = _
    rw [srt_map r, ins_map] <;> rfl
theorem ins_perm (a : P4) : ∀ qs : List P4, (insP a qs).Perm (a :: qs)
  | [] => .refl _
  | b :: r => by
    show (if leD (pd a) (pd b) = true then a :: b :: r else b :: insP a r).Perm _
    split
    · exact .refl _
    · exact ((ins_perm a r).cons b).trans (.swap a b r)
theorem srt_perm : ∀ qs : List P4, (srt qs).Perm qs
  | [] => .refl _
  | a :: r => (ins_perm a (srt r)).trans ((srt_perm r).cons a)
theorem srt_pw (qs : List P4) : (srt qs).Pairwise fun p q => leD (pd p) (pd q) = true := by
  have h := List.pairwise_mergeSort leD_trans leD_total (qs.map pd)
  rw [← isortD_eq, srt_map] at h
  exact List.pairwise_map.mp h
theorem sorted_ok (qs : List P4) : bltD .sorted [.lst (qs.map pd)] = some (.lst ((srt qs).map pd), true) := by
  show (if sortB (qs.map pd) = true then some (D.lst (isortD (qs.map pd)), true) else none) = _
  rw [if_pos (sortB_ok qs), srt_map]
theorem srt_len (qs : List P4) : (srt qs).length = qs.length := (srt_perm qs).length_eq
theorem srt_ok {qs : List P4} (h : ∀ p ∈ qs, ok4 p) : ∀ p ∈ srt qs, ok4 p := fun p hp => h p ((srt_perm qs).mem_iff.mp hp)
/-! pieces turned -/
theorem lturn_ok (n : Nat) (p : P4) (k : Int) (hp : ok4 p) (h0 : 0 ≤ k) (h4 : k < 4) : ∃ q, ok4 q ∧ callN T (n + 1) 16 [false, false] [pd p, .int k] = some (pd q, false, []) := by
  obtain ⟨x, y, z, w⟩ := p
  obtain ⟨h1, h2, h3, h5⟩ := hp
  obtain rfl | rfl | rfl | rfl : k = 0 ∨ k = 1 ∨ k = 2 ∨ k = 3 := by omega
  · exact ⟨(x, y, z, w), ⟨h1, h2, h3, h5⟩, by kernel_rfl⟩
  · exact ⟨(w, x, y, z), ⟨h5, h1, h2, h3⟩, by kernel_rfl⟩
  · exact ⟨(z, w, x, y), ⟨h3, h5, h1, h2⟩, by kernel_rfl⟩
  · exact ⟨(y, z, w, x), ⟨h2, h3, h5, h1⟩, by kernel_rfl⟩
def turnE : E := .call 16 (.cons (.var 6) (.cons (.call 13 (.ioa 0 (.cons (.con (.int 4)) .nil))) .nil))
abbrev pE (a s c : Int) (s1 s2 s3 s4 s5 s6 s7 s8 s9 : Mp.Slot) : Mp.Env := [.io (bowl a s c), s1, s2, s3, s4, s5, s6, s7, s8, s9]
theorem turn_loop (n : Nat) (s1 s2 s3 s4 s5 s7 s8 s9 : Mp.Slot) : ∀ (qs acc : List P4) (a s c : Int) (s6 : Mp.Slot), (∀ p ∈ qs, ok4 p) → acc.length + qs.length < 100000 → ∃ a' s' c' u6, ∃ rs : List P4, (∀ p ∈ rs, ok4 p) ∧ rs.length = qs.length ∧
    lcRun (callN T (n + 2)) [6] (.var 6) .nil turnE (qs.map pd) (acc.map pd) (pE a s c s1 s2 s3 s4 s5 s6 s7 s8 s9) = .ok ((acc ++ rs).map pd) (pE a' s' c' s1 s2 s3 s4 s5 u6 s7 s8 s9)
  | [], acc, a, s, c, s6, _, _ => ⟨a, s, c, s6, [], by simp, rfl, by rw [List.append_nil] <;> rfl⟩
  | p :: qs, acc, a, s, c, s6, h, hl => by
    obtain ⟨a1, b1, c1, r1, l1, m1, e1⟩ := draw (n + 1) a s c 4 (by decide) (by decide)
    obtain ⟨q, hq, e2⟩ := lturn_ok (n + 1) p r1 (h p List.mem_cons_self) l1 m1
    have hl' : acc.length + qs.length + 1 < 100000 := by rw [List.length_cons] at hl; omega
    obtain ⟨a2, b2, c2, u6, rs, g1, g2, k⟩ := turn_loop n s1 s2 s3 s4 s5 s7 s8 s9 qs (acc ++ [q]) a1 b1 c1 (.val (pd p)) (fun z hz => h z (List.mem_cons_of_mem _ hz)) (by rw [List.length_append, List.length_singleton]; omega)
    refine ⟨a2, b2, c2, u6, q :: rs, fun z hz => ?_, by rw [List.length_cons, List.length_cons, g2], ?_⟩
    · rcases List.mem_cons.mp hz with rfl | hz
      · exact hq
      · exact g1 z hz
    · have hz : acc.length < sizeLine := sz_lt (by omega)
      rw [List.map_append] at k
      rw [List.map_cons, lc_cons]
      have e3 : evE (callN T (n + 2)) turnE (pE a s c s1 s2 s3 s4 s5 (.val (pd p)) s7 s8 s9) = .ok (pd q, .frz) (pE a1 b1 c1 s1 s2 s3 s4 s5 (.val (pd p)) s7 s8 s9) := by
        simp [R.bind_ok', R.bind_no', R.of_some', R.fl_ok', Fl.bind_nx, Fl.bind_rt, s_skip, s_seq, s_asg, s_ex, s_ret, s_retn, s_ite, s_for, s_app, s_never, e_var, e_con, e_glo, e_tup, e_lst, e_neg, e_bin, e_cmp, e_cmp2, e_not, e_and, e_or, e_ife, e_idx, e_sl, e_call, e_callk, e_calf, e_calv, e_blt, e_isin, e_lc, l_nil, l_cons, a_nil, a_cons, a_ioa, p_nil, p_cons, o_nil, o_cons, t_not, t_and, t_or, t_nil, t_tr, i_rng1, i_rng2, i_enm, i_it, g_var, g_tup, g_idxF, g_idxN, gs_nil, gs_cons, Mp.init, initS, getS0, getS1, cur_f, cur_n, cur_p, settle_f, settle_n, settle_p, keep_f, keep_n, keep_p, kd_t, kd_f, tr_non, tr_bl, tr_int, tr_tup, tr_lst, tr_scr, ix_tup, ix_lst, sl_tup, sl_lst, b_len_t, b_len_l, b_len_s, b_tuple_t, b_tuple_l, b_list_t, b_list_l, b_int_i, b_int_b, b_abs, b_max, b_min, b_sum, b_all, b_any, bo_nil, bo_cons, in_nil, in_cons, isin_non, isin_bl, isin_int, isin_str, isin_tup, isin_lst, isinT, seq_t, seq_l, seq_s, own_v, own_o, own_i, own_u, pl_v, pl_u, wipe_n, wipe_c, unw_n, unw_c, fin_rt, fin_nx, out_n, out_t, out_f, six_none, six_some, Mp.ixN, storeIx, put_val, put_new, notIo_un, notIo_val, notIo_own, cmp_gt_int, cmp_lt_int, cmp_le_int, cmp_ge_int, cmp_eq_int, cmp_ne_int, bin_add_int, bin_sub_int, bin_mul_r, bin_mul_l, bin_mod_int, bin_fdiv_int, doCall, doCallF, argsD, iosOf, putOuts, setIo, Ar.isIo, Ar.d, bin_pow_int, bin_add_tup, eq_nil, is_non, isn_non, isNon_int, isNon_tup, isNon_lst, isNon_bl, isNon_str, isNon_non, sz_ok, sz_lt, s_ext, s_fst, s_par, m_nil, m_cons, puts_n, puts_c, e_fld, e_mk, e_isinc, isc_ins, ownL_o, ownL_i, lst_of, app_o, app_i, bin_mul_tup, bin_add_lst, eq_tup_nil, doMk, fldD, s_dst, e_dix, e_pop, e_dnew, e_lof1, e_lof2, e_rof1, e_rof2, e_bm, e_mkk, ownS_o, ownS_i, isLst_l, seqI_t, seqI_l, seqI_s, e_oeq, insB, othB, blR, turnE, pE, e1, e2]
      have ez : (acc ++ [q]) ++ rs = acc ++ q :: rs := by rw [List.append_assoc] <;> rfl
      rw [ez] at k
      have hw : wipe (pE a s c s1 s2 s3 s4 s5 s6 s7 s8 s9) [6] = pE a s c s1 s2 s3 s4 s5 .un s7 s8 s9 := rfl
      have hg : evG (callN T (n + 2)) (.var 6) (pd p) .frz (pE a s c s1 s2 s3 s4 s5 .un s7 s8 s9) = .ok () (pE a s c s1 s2 s3 s4 s5 (.val (pd p)) s7 s8 s9) := by
        rw [g_var]
        exact put_val rfl (show (6 : Nat) < 10 by decide)
      rw [hw, hg, R.bind_ok', t_nil, R.bind_ok', if_pos rfl, e3, R.bind_ok']
      show (R.bind (.ok (pd q) _) _) = _
      rw [R.bind_ok', if_pos (by rw [List.length_map]; exact hz)]
      exact k
/-! a puzzle that is drawn -/
def puA : S := match d19.body with
  | .seq b _ => b
  | _ => .skip
def puB : S := match d19.body with
  | .seq _ (.seq b _) => b
  | _ => .skip
def puC : S := match d19.body with
  | .seq _ (.seq _ (.seq b _)) => b
  | _ => .skip
def puD : S := match d19.body with
  | .seq _ (.seq _ (.seq _ (.seq b _))) => b
  | _ => .skip
def puF : S := match d19.body with
  | .seq _ (.seq _ (.seq _ (.seq _ b))) => b
  | _ => .skip
theorem puA_ok (n : Nat) (a s c most : Int) (hm : most = 2 ∨ most = 4 ∨ most = 6) : ∃ a' s' c' f, f ∈ fits most ∧ evS (callN T (n + 3)) puA (pE a s c (.val (.int most)) .un .un .un .un .un .un .un .un) = .nx (pE a' s' c' (.val (.int most)) (.val (.int f.1)) (.val (.int f.2)) .un .un .un .un .un .un) := by
  obtain ⟨a1, b1, c1, f, hf, e1⟩ := frame_ok n a s c most hm
  refine ⟨a1, b1, c1, f, hf, ?_⟩
  have hb : puA = .asg (.tup (.cons (.var 2) (.cons (.var 3) .nil))) (.call 17 (.ioa 0 (.cons (.var 1) .nil))) := rfl
  rw [hb]
  simp [R.bind_ok', R.bind_no', R.of_some', R.fl_ok', Fl.bind_nx, Fl.bind_rt, s_skip, s_seq, s_asg, s_ex, s_ret, s_retn, s_ite, s_for, s_app, s_never, e_var, e_con, e_glo, e_tup, e_lst, e_neg, e_bin, e_cmp, e_cmp2, e_not, e_and, e_or, e_ife, e_idx, e_sl, e_call, e_callk, e_calf, e_calv, e_blt, e_isin, e_lc, l_nil, l_cons, a_nil, a_cons, a_ioa, p_nil, p_cons, o_nil, o_cons, t_not, t_and, t_or, t_nil, t_tr, i_rng1, i_rng2, i_enm, i_it, g_var, g_tup, g_idxF, g_idxN, gs_nil, gs_cons, Mp.init, initS, getS0, getS1, cur_f, cur_n, cur_p, settle_f, settle_n, settle_p, keep_f, keep_n, keep_p, kd_t, kd_f, tr_non, tr_bl, tr_int, tr_tup, tr_lst, tr_scr, ix_tup, ix_lst, sl_tup, sl_lst, b_len_t, b_len_l, b_len_s, b_tuple_t, b_tuple_l, b_list_t, b_list_l, b_int_i, b_int_b, b_abs, b_max, b_min, b_sum, b_all, b_any, bo_nil, bo_cons, in_nil, in_cons, isin_non, isin_bl, isin_int, isin_str, isin_tup, isin_lst, isinT, seq_t, seq_l, seq_s, own_v, own_o, own_i, own_u, pl_v, pl_u, wipe_n, wipe_c, unw_n, unw_c, fin_rt, fin_nx, out_n, out_t, out_f, six_none, six_some, Mp.ixN, storeIx, put_val, put_new, notIo_un, notIo_val, notIo_own, cmp_gt_int, cmp_lt_int, cmp_le_int, cmp_ge_int, cmp_eq_int, cmp_ne_int, bin_add_int, bin_sub_int, bin_mul_r, bin_mul_l, bin_mod_int, bin_fdiv_int, doCall, doCallF, argsD, iosOf, putOuts, setIo, Ar.isIo, Ar.d, bin_pow_int, bin_add_tup, eq_nil, is_non, isn_non, isNon_int, isNon_tup, isNon_lst, isNon_bl, isNon_str, isNon_non, sz_ok, sz_lt, s_ext, s_fst, s_par, m_nil, m_cons, puts_n, puts_c, e_fld, e_mk, e_isinc, isc_ins, ownL_o, ownL_i, lst_of, app_o, app_i, bin_mul_tup, bin_add_lst, eq_tup_nil, doMk, fldD, s_dst, e_dix, e_pop, e_dnew, e_lof1, e_lof2, e_rof1, e_rof2, e_bm, e_mkk, ownS_o, ownS_i, isLst_l, seqI_t, seqI_l, seqI_s, e_oeq, insB, othB, blR, pE, e1, fd]
theorem puB_ok (n : Nat) (a s c Rw Cl : Int) (s1 : Mp.Slot) (hR : 1 ≤ Rw) (hR6 : Rw ≤ 6) (hC : 1 ≤ Cl) (hC6 : Cl ≤ 6) : ∃ a' s' c' t, ∃ qs : List P4, (∀ p ∈ qs, ok4 p) ∧ qs.length = Rw.toNat * Cl.toNat ∧ evS (callN T (n + 3)) puB (pE a s c s1 (.val (.int Rw)) (.val (.int Cl)) .un .un .un .un .un .un) = .nx (pE a' s' c' s1 (.val (.int Rw)) (.val (.int Cl)) (.val (.bl t)) (.own (.lst (qs.map pd))) .un .un .un .un) := by
  obtain ⟨a1, b1, c1, r1, l1, m1, e1⟩ := draw (n + 2) a s c 2 (by decide) (by decide)
  obtain ⟨a2, b2, c2, x, hx, e2⟩ := of_ok (n + 1) a1 b1 c1 [.int 1, .int 1, .int 2, .int 3, .int 9] (by simp) (by simp)
  obtain ⟨So, rfl, h1, h2⟩ : ∃ So : Int, x = .int So ∧ 1 ≤ So ∧ So ≤ 9 := by
    have hx' : x = .int 1 ∨ x = .int 1 ∨ x = .int 2 ∨ x = .int 3 ∨ x = .int 9 := by simpa using hx
    rcases hx' with rfl | rfl | rfl | rfl | rfl
    · exact ⟨1, rfl, by simp, by simp⟩
    · exact ⟨1, rfl, by simp, by simp⟩
    · exact ⟨2, rfl, by simp, by simp⟩
    · exact ⟨3, rfl, by simp, by simp⟩
    · exact ⟨9, rfl, by simp, by simp⟩
  obtain ⟨a3, b3, c3, qs, g1, g2, e3⟩ := whole_ok n a2 b2 c2 Rw Cl So hR hR6 hC hC6 h1 h2
  refine ⟨a3, b3, c3, decide (r1 = 0), qs, g1, g2, ?_⟩
  have hb : puB = .par [4, 5] (.cons (.cmp .eq (.call 13 (.ioa 0 (.cons (.con (.int 2)) .nil))) (.con (.int 0))) (.cons (.call 18 (.ioa 0 (.cons (.var 2) (.cons (.var 3) (.cons (.call 14 (.ioa 0 (.cons (.tup (.cons (.con (.int 1)) (.cons (.con (.int 1)) (.cons (.con (.int 2)) (.cons (.con (.int 3)) (.cons (.con (.int 9)) .nil)))))) .nil))) .nil))))) .nil)) := rfl
  rw [hb]
  simp [R.bind_ok', R.bind_no', R.of_some', R.fl_ok', Fl.bind_nx, Fl.bind_rt, s_skip, s_seq, s_asg, s_ex, s_ret, s_retn, s_ite, s_for, s_app, s_never, e_var, e_con, e_glo, e_tup, e_lst, e_neg, e_bin, e_cmp, e_cmp2, e_not, e_and, e_or, e_ife, e_idx, e_sl, e_call, e_callk, e_calf, e_calv, e_blt, e_isin, e_lc, l_nil, l_cons, a_nil, a_cons, a_ioa, p_nil, p_cons, o_nil, o_cons, t_not, t_and, t_or, t_nil, t_tr, i_rng1, i_rng2, i_enm, i_it, g_var, g_tup, g_idxF, g_idxN, gs_nil, gs_cons, Mp.init, initS, getS0, getS1, cur_f, cur_n, cur_p, settle_f, settle_n, settle_p, keep_f, keep_n, keep_p, kd_t, kd_f, tr_non, tr_bl, tr_int, tr_tup, tr_lst, tr_scr, ix_tup, ix_lst, sl_tup, sl_lst, b_len_t, b_len_l, b_len_s, b_tuple_t, b_tuple_l, b_list_t, b_list_l, b_int_i, b_int_b, b_abs, b_max, b_min, b_sum, b_all, b_any, bo_nil, bo_cons, in_nil, in_cons, isin_non, isin_bl, isin_int, isin_str, isin_tup, isin_lst, isinT, seq_t, seq_l, seq_s, own_v, own_o, own_i, own_u, pl_v, pl_u, wipe_n, wipe_c, unw_n, unw_c, fin_rt, fin_nx, out_n, out_t, out_f, six_none, six_some, Mp.ixN, storeIx, put_val, put_new, notIo_un, notIo_val, notIo_own, cmp_gt_int, cmp_lt_int, cmp_le_int, cmp_ge_int, cmp_eq_int, cmp_ne_int, bin_add_int, bin_sub_int, bin_mul_r, bin_mul_l, bin_mod_int, bin_fdiv_int, doCall, doCallF, argsD, iosOf, putOuts, setIo, Ar.isIo, Ar.d, bin_pow_int, bin_add_tup, eq_nil, is_non, isn_non, isNon_int, isNon_tup, isNon_lst, isNon_bl, isNon_str, isNon_non, sz_ok, sz_lt, s_ext, s_fst, s_par, m_nil, m_cons, puts_n, puts_c, e_fld, e_mk, e_isinc, isc_ins, ownL_o, ownL_i, lst_of, app_o, app_i, bin_mul_tup, bin_add_lst, eq_tup_nil, doMk, fldD, s_dst, e_dix, e_pop, e_dnew, e_lof1, e_lof2, e_rof1, e_rof2, e_bm, e_mkk, ownS_o, ownS_i, isLst_l, seqI_t, seqI_l, seqI_s, e_oeq, insB, othB, blR, pE, e1, e2, e3]
theorem puC_ok (n : Nat) (a s c : Int) (s1 s2 s3 : Mp.Slot) (t : Bool) (qs : List P4) (hq : ∀ p ∈ qs, ok4 p) (hl : qs.length < 1000) : ∃ a' s' c', ∃ rs : List P4, (∀ p ∈ rs, ok4 p) ∧ rs.length = qs.length ∧
    evS (callN T (n + 3)) puC (pE a s c s1 s2 s3 (.val (.bl t)) (.own (.lst (qs.map pd))) .un .un .un .un) = .nx (pE a' s' c' s1 s2 s3 (.val (.bl t)) (.own (.lst (rs.map pd))) .un .un .un .un) := by
  have hb : puC = .ite (.tr (.var 4)) (.seq (.asg (.var 5) (.lc [6] (.var 6) (.it (.var 5)) .nil turnE)) .skip) .skip := rfl
  rw [hb]
  cases t with
  | false =>
    refine ⟨a, s, c, qs, hq, rfl, ?_⟩
    simp [R.bind_ok', R.bind_no', R.of_some', R.fl_ok', Fl.bind_nx, Fl.bind_rt, s_skip, s_seq, s_asg, s_ex, s_ret, s_retn, s_ite, s_for, s_app, s_never, e_var, e_con, e_glo, e_tup, e_lst, e_neg, e_bin, e_cmp, e_cmp2, e_not, e_and, e_or, e_ife, e_idx, e_sl, e_call, e_callk, e_calf, e_calv, e_blt, e_isin, e_lc, l_nil, l_cons, a_nil, a_cons, a_ioa, p_nil, p_cons, o_nil, o_cons, t_not, t_and, t_or, t_nil, t_tr, i_rng1, i_rng2, i_enm, i_it, g_var, g_tup, g_idxF, g_idxN, gs_nil, gs_cons, Mp.init, initS, getS0, getS1, cur_f, cur_n, cur_p, settle_f, settle_n, settle_p, keep_f, keep_n, keep_p, kd_t, kd_f, tr_non, tr_bl, tr_int, tr_tup, tr_lst, tr_scr, ix_tup, ix_lst, sl_tup, sl_lst, b_len_t, b_len_l, b_len_s, b_tuple_t, b_tuple_l, b_list_t, b_list_l, b_int_i, b_int_b, b_abs, b_max, b_min, b_sum, b_all, b_any, bo_nil, bo_cons, in_nil, in_cons, isin_non, isin_bl, isin_int, isin_str, isin_tup, isin_lst, isinT, seq_t, seq_l, seq_s, own_v, own_o, own_i, own_u, pl_v, pl_u, wipe_n, wipe_c, unw_n, unw_c, fin_rt, fin_nx, out_n, out_t, out_f, six_none, six_some, Mp.ixN, storeIx, put_val, put_new, notIo_un, notIo_val, notIo_own, cmp_gt_int, cmp_lt_int, cmp_le_int, cmp_ge_int, cmp_eq_int, cmp_ne_int, bin_add_int, bin_sub_int, bin_mul_r, bin_mul_l, bin_mod_int, bin_fdiv_int, doCall, doCallF, argsD, iosOf, putOuts, setIo, Ar.isIo, Ar.d, bin_pow_int, bin_add_tup, eq_nil, is_non, isn_non, isNon_int, isNon_tup, isNon_lst, isNon_bl, isNon_str, isNon_non, sz_ok, sz_lt, s_ext, s_fst, s_par, m_nil, m_cons, puts_n, puts_c, e_fld, e_mk, e_isinc, isc_ins, ownL_o, ownL_i, lst_of, app_o, app_i, bin_mul_tup, bin_add_lst, eq_tup_nil, doMk, fldD, s_dst, e_dix, e_pop, e_dnew, e_lof1, e_lof2, e_rof1, e_rof2, e_bm, e_mkk, ownS_o, ownS_i, isLst_l, seqI_t, seqI_l, seqI_s, e_oeq, insB, othB, blR, pE]
  | true =>
    obtain ⟨a1, b1, c1, u6, rs, g1, g2, k⟩ := turn_loop (n + 1) s1 s2 s3 (.val (.bl true)) (.val (.lst (qs.map pd))) .un .un .un qs [] a s c .un hq (by simp; omega)
    refine ⟨a1, b1, c1, rs, g1, g2, ?_⟩
    simp only [pE, List.map_nil, List.nil_append] at k
    simp [R.bind_ok', R.bind_no', R.of_some', R.fl_ok', Fl.bind_nx, Fl.bind_rt, s_skip, s_seq, s_asg, s_ex, s_ret, s_retn, s_ite, s_for, s_app, s_never, e_var, e_con, e_glo, e_tup, e_lst, e_neg, e_bin, e_cmp, e_cmp2, e_not, e_and, e_or, e_ife, e_idx, e_sl, e_call, e_callk, e_calf, e_calv, e_blt, e_isin, e_lc, l_nil, l_cons, a_nil, a_cons, a_ioa, p_nil, p_cons, o_nil, o_cons, t_not, t_and, t_or, t_nil, t_tr, i_rng1, i_rng2, i_enm, i_it, g_var, g_tup, g_idxF, g_idxN, gs_nil, gs_cons, Mp.init, initS, getS0, getS1, cur_f, cur_n, cur_p, settle_f, settle_n, settle_p, keep_f, keep_n, keep_p, kd_t, kd_f, tr_non, tr_bl, tr_int, tr_tup, tr_lst, tr_scr, ix_tup, ix_lst, sl_tup, sl_lst, b_len_t, b_len_l, b_len_s, b_tuple_t, b_tuple_l, b_list_t, b_list_l, b_int_i, b_int_b, b_abs, b_max, b_min, b_sum, b_all, b_any, bo_nil, bo_cons, in_nil, in_cons, isin_non, isin_bl, isin_int, isin_str, isin_tup, isin_lst, isinT, seq_t, seq_l, seq_s, own_v, own_o, own_i, own_u, pl_v, pl_u, wipe_n, wipe_c, unw_n, unw_c, fin_rt, fin_nx, out_n, out_t, out_f, six_none, six_some, Mp.ixN, storeIx, put_val, put_new, notIo_un, notIo_val, notIo_own, cmp_gt_int, cmp_lt_int, cmp_le_int, cmp_ge_int, cmp_eq_int, cmp_ne_int, bin_add_int, bin_sub_int, bin_mul_r, bin_mul_l, bin_mod_int, bin_fdiv_int, doCall, doCallF, argsD, iosOf, putOuts, setIo, Ar.isIo, Ar.d, bin_pow_int, bin_add_tup, eq_nil, is_non, isn_non, isNon_int, isNon_tup, isNon_lst, isNon_bl, isNon_str, isNon_non, sz_ok, sz_lt, s_ext, s_fst, s_par, m_nil, m_cons, puts_n, puts_c, e_fld, e_mk, e_isinc, isc_ins, ownL_o, ownL_i, lst_of, app_o, app_i, bin_mul_tup, bin_add_lst, eq_tup_nil, doMk, fldD, s_dst, e_dix, e_pop, e_dnew, e_lof1, e_lof2, e_rof1, e_rof2, e_bm, e_mkk, ownS_o, ownS_i, isLst_l, seqI_t, seqI_l, seqI_s, e_oeq, insB, othB, blR, pE, k]
theorem mut_ok (p : P4) (hp : ok4 p) (k v : Int) (h0 : 0 ≤ k) (h4 : k < 4) (hv : B9 v) : ∃ q, ok4 q ∧ ∃ xs ys, slD (pd p) none (some k) = some (.tup xs, false) ∧ slD (pd p) (some (k + 1)) none = some (.tup ys, false) ∧ pd q = .tup (xs ++ [.int v] ++ ys) ∧ xs.length ≤ 4 ∧ ys.length ≤ 4 := by
  obtain ⟨x, y, z, w⟩ := p
  obtain ⟨h1, h2, h3, h5⟩ := hp
  obtain rfl | rfl | rfl | rfl : k = 0 ∨ k = 1 ∨ k = 2 ∨ k = 3 := by omega
  · exact ⟨(v, y, z, w), ⟨hv, h2, h3, h5⟩, [], [.int y, .int z, .int w], by kernel_rfl, by kernel_rfl, rfl, by simp, by simp⟩
  · exact ⟨(x, v, z, w), ⟨h1, hv, h3, h5⟩, [.int x], [.int z, .int w], by kernel_rfl, by kernel_rfl, rfl, by simp, by simp⟩
  · exact ⟨(x, y, v, w), ⟨h1, h2, hv, h5⟩, [.int x, .int y], [.int w], by kernel_rfl, by kernel_rfl, rfl, by simp, by simp⟩
  · exact ⟨(x, y, z, v), ⟨h1, h2, h3, hv⟩, [.int x, .int y, .int z], [], by kernel_rfl, by kernel_rfl, rfl, by simp, by simp⟩
theorem idx_pd (qs : List P4) (r : Int) (h0 : 0 ≤ r) (h1 : r < qs.length) : ∃ p, qs[r.toNat]? = some p ∧ p ∈ qs ∧ idxD (.lst (qs.map pd)) (.int r) = some (pd p) ∧ idxD (.tup (qs.map pd)) (.int r) = some (pd p) := by
  obtain ⟨x, e, hm, e1, e2⟩ := idx_in (qs.map pd) r h0 (by rw [List.length_map]; exact h1)
  have hl : r.toNat < qs.length := by omega
  have ep : qs[r.toNat]? = some qs[r.toNat] := List.getElem?_eq_getElem hl
  rw [List.getElem?_map, ep] at e
  cases e
  exact ⟨qs[r.toNat], ep, List.getElem_mem hl, e2, e1⟩
theorem set_ok {qs : List P4} {i : Nat} {q : P4} (h : ∀ p ∈ qs, ok4 p) (hq : ok4 q) : ∀ p ∈ qs.set i q, ok4 p := fun p hp => by
  rcases List.mem_or_eq_of_mem_set hp with hp | rfl
  · exact h p hp
  · exact hq
theorem puD_ok (n : Nat) (a s c : Int) (s1 s2 s3 s4 : Mp.Slot) (qs : List P4) (hq : ∀ p ∈ qs, ok4 p) (h0 : 0 < qs.length) (hl : qs.length < 1000) : ∃ a' s' c' u7 u8 u9, ∃ rs : List P4, (∀ p ∈ rs, ok4 p) ∧ rs.length = qs.length ∧
    evS (callN T (n + 3)) puD (pE a s c s1 s2 s3 s4 (.own (.lst (qs.map pd))) .un .un .un .un) = .nx (pE a' s' c' s1 s2 s3 s4 (.own (.lst (rs.map pd))) .un u7 u8 u9) := by
  obtain ⟨a1, b1, c1, r1, l1, m1, e1⟩ := draw (n + 2) a s c 4 (by decide) (by decide)
  have hb : puD = .ite (.tr (.cmp .eq (.call 13 (.ioa 0 (.cons (.con (.int 4)) .nil))) (.con (.int 0)))) (.seq (.par [7, 8, 9] (.cons (.call 13 (.ioa 0 (.cons (.blt .len (.cons (.var 5) .nil)) .nil))) (.cons (.call 13 (.ioa 0 (.cons (.con (.int 4)) .nil))) (.cons (.call 14 (.ioa 0 (.cons (.tup (.cons (.con (.int 0)) (.cons (.con (.int 1)) (.cons (.bin .sub (.con (.int 0)) (.con (.int 1))) (.cons (.con (.int 2)) (.cons (.bin .sub (.con (.int 0)) (.con (.int 2))) .nil)))))) .nil))) .nil)))) (.seq (.asg (.idx (.var 5) (.var 7)) (.bin .add (.bin .add (.sl (.idx (.var 5) (.var 7)) .nil (.cons (.var 8) .nil)) (.tup (.cons (.var 9) .nil))) (.sl (.idx (.var 5) (.var 7)) (.cons (.bin .add (.var 8) (.con (.int 1))) .nil) .nil))) .skip)) .skip := rfl
  rw [hb]
  by_cases hr : r1 = 0
  · obtain ⟨a2, b2, c2, r2, l2, m2, e2⟩ := draw (n + 2) a1 b1 c1 qs.length (by omega) (by omega)
    obtain ⟨a3, b3, c3, r3, l3, m3, e3⟩ := draw (n + 2) a2 b2 c2 4 (by decide) (by decide)
    obtain ⟨a4, b4, c4, x, hx, e4⟩ := of_ok (n + 1) a3 b3 c3 [.int 0, .int 1, .int (-1), .int 2, .int (-2)] (by simp) (by simp)
    obtain ⟨v, rfl, hv⟩ : ∃ v : Int, x = .int v ∧ B9 v := by
      have hx' : x = .int 0 ∨ x = .int 1 ∨ x = .int (-1) ∨ x = .int 2 ∨ x = .int (-2) := by simpa using hx
      rcases hx' with rfl | rfl | rfl | rfl | rfl <;> exact ⟨_, rfl, by decide⟩
    obtain ⟨p, ep, hp, ei, _⟩ := idx_pd qs r2 l2 m2
    obtain ⟨q, hq2, xs, ys, k1, k2, k3, k4, k5⟩ := mut_ok p (hq p hp) r3 v l3 m3 hv
    refine ⟨a4, b4, c4, .val (.int r2), .val (.int r3), .val (.int v), qs.set r2.toNat q, set_ok hq hq2, by rw [List.length_set], ?_⟩
    have j1 := bin_add_tup (a := xs) (b := [.int v]) (sz_ok (by simp; omega))
    have j2 := bin_add_tup (a := xs ++ [.int v]) (b := ys) (sz_ok (by simp; omega))
    rw [← k3] at j2
    have j3 : storeIx [.io (bowl a4 b4 c4), s1, s2, s3, s4, .own (.lst (qs.map pd)), .un, .val (.int r2), .val (.int r3), .val (.int v)] 5 (.int r2) (pd q) = .ok () [.io (bowl a4 b4 c4), s1, s2, s3, s4, .own (.lst ((qs.set r2.toNat q).map pd)), .un, .val (.int r2), .val (.int r3), .val (.int v)] := by
      have ex : Mp.ixN (qs.map pd).length r2 = some r2.toNat := by unfold Mp.ixN; rw [if_pos l2, if_pos (by rw [List.length_map]; exact m2)]
      rw [List.map_set]
      show (match Mp.ixN (qs.map pd).length r2 with | some n => R.ok () _ | none => R.no) = _
      rw [ex] <;> rfl
    simp [R.bind_ok', R.bind_no', R.of_some', R.fl_ok', Fl.bind_nx, Fl.bind_rt, s_skip, s_seq, s_asg, s_ex, s_ret, s_retn, s_ite, s_for, s_app, s_never, e_var, e_con, e_glo, e_tup, e_lst, e_neg, e_bin, e_cmp, e_cmp2, e_not, e_and, e_or, e_ife, e_idx, e_sl, e_call, e_callk, e_calf, e_calv, e_blt, e_isin, e_lc, l_nil, l_cons, a_nil, a_cons, a_ioa, p_nil, p_cons, o_nil, o_cons, t_not, t_and, t_or, t_nil, t_tr, i_rng1, i_rng2, i_enm, i_it, g_var, g_tup, g_idxF, g_idxN, gs_nil, gs_cons, Mp.init, initS, getS0, getS1, cur_f, cur_n, cur_p, settle_f, settle_n, settle_p, keep_f, keep_n, keep_p, kd_t, kd_f, tr_non, tr_bl, tr_int, tr_tup, tr_lst, tr_scr, sl_tup, sl_lst, b_len_t, b_len_l, b_len_s, b_tuple_t, b_tuple_l, b_list_t, b_list_l, b_int_i, b_int_b, b_abs, b_max, b_min, b_sum, b_all, b_any, bo_nil, bo_cons, in_nil, in_cons, isin_non, isin_bl, isin_int, isin_str, isin_tup, isin_lst, isinT, seq_t, seq_l, seq_s, own_v, own_o, own_i, own_u, pl_v, pl_u, wipe_n, wipe_c, unw_n, unw_c, fin_rt, fin_nx, out_n, out_t, out_f, six_none, six_some, Mp.ixN, put_val, put_new, notIo_un, notIo_val, notIo_own, cmp_gt_int, cmp_lt_int, cmp_le_int, cmp_ge_int, cmp_eq_int, cmp_ne_int, bin_add_int, bin_sub_int, bin_mul_r, bin_mul_l, bin_mod_int, bin_fdiv_int, doCall, doCallF, argsD, iosOf, putOuts, setIo, Ar.isIo, Ar.d, bin_pow_int, bin_add_tup, eq_nil, is_non, isn_non, isNon_int, isNon_tup, isNon_lst, isNon_bl, isNon_str, isNon_non, sz_ok, sz_lt, s_ext, s_fst, s_par, m_nil, m_cons, puts_n, puts_c, e_fld, e_mk, e_isinc, isc_ins, ownL_o, ownL_i, lst_of, app_o, app_i, bin_mul_tup, bin_add_lst, eq_tup_nil, doMk, fldD, s_dst, e_dix, e_pop, e_dnew, e_lof1, e_lof2, e_rof1, e_rof2, e_bm, e_mkk, ownS_o, ownS_i, isLst_l, seqI_t, seqI_l, seqI_s, e_oeq, insB, othB, blR, pE, e1, e2, e3, e4, hr, ei, k1, k2, j1, j2, j3]
  · refine ⟨a1, b1, c1, .un, .un, .un, qs, hq, rfl, ?_⟩
    simp [R.bind_ok', R.bind_no', R.of_some', R.fl_ok', Fl.bind_nx, Fl.bind_rt, s_skip, s_seq, s_asg, s_ex, s_ret, s_retn, s_ite, s_for, s_app, s_never, e_var, e_con, e_glo, e_tup, e_lst, e_neg, e_bin, e_cmp, e_cmp2, e_not, e_and, e_or, e_ife, e_idx, e_sl, e_call, e_callk, e_calf, e_calv, e_blt, e_isin, e_lc, l_nil, l_cons, a_nil, a_cons, a_ioa, p_nil, p_cons, o_nil, o_cons, t_not, t_and, t_or, t_nil, t_tr, i_rng1, i_rng2, i_enm, i_it, g_var, g_tup, g_idxF, g_idxN, gs_nil, gs_cons, Mp.init, initS, getS0, getS1, cur_f, cur_n, cur_p, settle_f, settle_n, settle_p, keep_f, keep_n, keep_p, kd_t, kd_f, tr_non, tr_bl, tr_int, tr_tup, tr_lst, tr_scr, ix_tup, ix_lst, sl_tup, sl_lst, b_len_t, b_len_l, b_len_s, b_tuple_t, b_tuple_l, b_list_t, b_list_l, b_int_i, b_int_b, b_abs, b_max, b_min, b_sum, b_all, b_any, bo_nil, bo_cons, in_nil, in_cons, isin_non, isin_bl, isin_int, isin_str, isin_tup, isin_lst, isinT, seq_t, seq_l, seq_s, own_v, own_o, own_i, own_u, pl_v, pl_u, wipe_n, wipe_c, unw_n, unw_c, fin_rt, fin_nx, out_n, out_t, out_f, six_none, six_some, Mp.ixN, storeIx, put_val, put_new, notIo_un, notIo_val, notIo_own, cmp_gt_int, cmp_lt_int, cmp_le_int, cmp_ge_int, cmp_eq_int, cmp_ne_int, bin_add_int, bin_sub_int, bin_mul_r, bin_mul_l, bin_mod_int, bin_fdiv_int, doCall, doCallF, argsD, iosOf, putOuts, setIo, Ar.isIo, Ar.d, bin_pow_int, bin_add_tup, eq_nil, is_non, isn_non, isNon_int, isNon_tup, isNon_lst, isNon_bl, isNon_str, isNon_non, sz_ok, sz_lt, s_ext, s_fst, s_par, m_nil, m_cons, puts_n, puts_c, e_fld, e_mk, e_isinc, isc_ins, ownL_o, ownL_i, lst_of, app_o, app_i, bin_mul_tup, bin_add_lst, eq_tup_nil, doMk, fldD, s_dst, e_dix, e_pop, e_dnew, e_lof1, e_lof2, e_rof1, e_rof2, e_bm, e_mkk, ownS_o, ownS_i, isLst_l, seqI_t, seqI_l, seqI_s, e_oeq, insB, othB, blR, pE, e1, hr]
structure Right (f : Int × Int) (most : Int) (qs : List P4) : Prop where
  fr : f ∈ fits most
  ok : ∀ p ∈ qs, ok4 p
  len : qs.length = f.1.toNat * f.2.toNat
  pw : qs.Pairwise fun p q => leD (pd p) (pd q) = true
theorem Right.bd {f : Int × Int} {most : Int} {qs : List P4} (h : Right f most qs) : 1 ≤ f.1 ∧ 1 ≤ f.2 ∧ f.1 ≤ 6 ∧ f.2 ≤ 6 ∧ f.1 * f.2 ≤ 6 ∧ (qs.length : Int) = f.1 * f.2 ∧ 1 ≤ qs.length ∧ qs.length ≤ 6 := by
  obtain ⟨h1, h2, h3, h4, h5, _⟩ := fits_ok h.fr
  have e : (qs.length : Int) = f.1 * f.2 := by
    rw [h.len, Int.natCast_mul, Int.toNat_of_nonneg (by omega), Int.toNat_of_nonneg (by omega)]
  have h6 : 1 ≤ f.1 * f.2 := by
    have := Int.mul_le_mul h1 h2 (by decide) (by omega)
    omega
  exact ⟨h1, h2, h3, h4, h5, e, by omega, by omega⟩
def pzD (f : Int × Int) (qs : List P4) (t : Bool) : D := .tup [.int f.1, .int f.2, .tup (qs.map pd), .bl t]
theorem puzzle_ok (n : Nat) (a s c most : Int) (hm : most = 2 ∨ most = 4 ∨ most = 6) : ∃ a' s' c' f t, ∃ qs : List P4, Right f most qs ∧ callN T (n + 4) 19 [true, false] [bowl a s c, .int most] = some (pzD f qs t, false, [bowl a' s' c']) := by
  obtain ⟨a1, b1, c1, f, hf, k1⟩ := puA_ok n a s c most hm
  obtain ⟨h1, h2, h3, h4, h5, _⟩ := fits_ok hf
  obtain ⟨a2, b2, c2, t, q1, g1, g2, k2⟩ := puB_ok n a1 b1 c1 f.1 f.2 (.val (.int most)) h1 h3 h2 h4
  have hlen : (q1.length : Int) = f.1 * f.2 := by
    rw [g2, Int.natCast_mul, Int.toNat_of_nonneg (by omega), Int.toNat_of_nonneg (by omega)]
  have h6 : 1 ≤ f.1 * f.2 := by
    have := Int.mul_le_mul h1 h2 (by decide) (by omega)
    omega
  obtain ⟨a3, b3, c3, q2, g3, g4, k3⟩ := puC_ok n a2 b2 c2 (.val (.int most)) (.val (.int f.1)) (.val (.int f.2)) t q1 g1 (by omega)
  obtain ⟨a4, b4, c4, u7, u8, u9, q3, g5, g6, k4⟩ := puD_ok n a3 b3 c3 (.val (.int most)) (.val (.int f.1)) (.val (.int f.2)) (.val (.bl t)) q2 g3 (by omega) (by omega)
  refine ⟨a4, b4, c4, f, t, srt q3, ⟨hf, srt_ok g5, by rw [srt_len, g6, g4, g2], srt_pw q3⟩, ?_⟩
  rw [call_eq (T := T) (n := n + 3) (f := 19) (fl := [true, false]) (ds := [bowl a s c, .int most]) (df := d19) rfl rfl rfl rfl]
  have hb : d19.body = .seq puA (.seq puB (.seq puC (.seq puD puF))) := rfl
  have hi : init d19 [bowl a s c, .int most] = pE a s c (.val (.int most)) .un .un .un .un .un .un .un .un := rfl
  have hios : d19.ios = [true, false] := rfl
  have hf' : puF = .seq (.ret (.tup (.cons (.var 2) (.cons (.var 3) (.cons (.blt .tuple (.cons (.blt .sorted (.cons (.var 5) .nil)) .nil)) (.cons (.var 4) .nil)))))) .skip := rfl
  rw [hb, hi, hios, s_seq, k1, Fl.bind_nx, s_seq, k2, Fl.bind_nx, s_seq, k3, Fl.bind_nx, s_seq, k4, Fl.bind_nx, hf']
  have so := sorted_ok q3
  simp [R.bind_ok', R.bind_no', R.of_some', R.fl_ok', Fl.bind_nx, Fl.bind_rt, s_skip, s_seq, s_asg, s_ex, s_ret, s_retn, s_ite, s_for, s_app, s_never, e_var, e_con, e_glo, e_tup, e_lst, e_neg, e_bin, e_cmp, e_cmp2, e_not, e_and, e_or, e_ife, e_idx, e_sl, e_call, e_callk, e_calf, e_calv, e_blt, e_isin, e_lc, l_nil, l_cons, a_nil, a_cons, a_ioa, p_nil, p_cons, o_nil, o_cons, t_not, t_and, t_or, t_nil, t_tr, i_rng1, i_rng2, i_enm, i_it, g_var, g_tup, g_idxF, g_idxN, gs_nil, gs_cons, Mp.init, initS, getS0, getS1, cur_f, cur_n, cur_p, settle_f, settle_n, settle_p, keep_f, keep_n, keep_p, kd_t, kd_f, tr_non, tr_bl, tr_int, tr_tup, tr_lst, tr_scr, ix_tup, ix_lst, sl_tup, sl_lst, b_len_t, b_len_l, b_len_s, b_tuple_t, b_tuple_l, b_list_t, b_list_l, b_int_i, b_int_b, b_abs, b_max, b_min, b_sum, b_all, b_any, bo_nil, bo_cons, in_nil, in_cons, isin_non, isin_bl, isin_int, isin_str, isin_tup, isin_lst, isinT, seq_t, seq_l, seq_s, own_v, own_o, own_i, own_u, pl_v, pl_u, wipe_n, wipe_c, unw_n, unw_c, fin_rt, fin_nx, out_n, out_t, out_f, six_none, six_some, Mp.ixN, storeIx, put_val, put_new, notIo_un, notIo_val, notIo_own, cmp_gt_int, cmp_lt_int, cmp_le_int, cmp_ge_int, cmp_eq_int, cmp_ne_int, bin_add_int, bin_sub_int, bin_mul_r, bin_mul_l, bin_mod_int, bin_fdiv_int, doCall, doCallF, argsD, iosOf, putOuts, setIo, Ar.isIo, Ar.d, bin_pow_int, bin_add_tup, eq_nil, is_non, isn_non, isNon_int, isNon_tup, isNon_lst, isNon_bl, isNon_str, isNon_non, sz_ok, sz_lt, s_ext, s_fst, s_par, m_nil, m_cons, puts_n, puts_c, e_fld, e_mk, e_isinc, isc_ins, ownL_o, ownL_i, lst_of, app_o, app_i, bin_mul_tup, bin_add_lst, eq_tup_nil, doMk, fldD, s_dst, e_dix, e_pop, e_dnew, e_lof1, e_lof2, e_rof1, e_rof2, e_bm, e_mkk, ownS_o, ownS_i, isLst_l, seqI_t, seqI_l, seqI_s, e_oeq, insB, othB, blR, pE, so, pzD]
end K01

set_option maxHeartbeats 4000000
set_option maxRecDepth 10000
namespace K01
open PySem Mp
/-! right puzzles are made -/
abbrev FL : List Str := ["rows", "columns", "pieces", "turning", "parts"]
def PZ (f : Int × Int) (qs : List P4) (t : Bool) : D := .ins 0 FL [.int f.1, .int f.2, .tup (qs.map pd), .bl t, .tup [.int f.1, .int f.2, .tup (qs.map pd), .bl t]]
theorem iswhole_ok (n : Nat) (p : Int) : callN T (n + 1) 0 [false] [.int p] = some (.bl true, false, []) := by
  have key := call_eq (T := T) (n := n) (f := 0) (fl := [false]) (ds := [.int p]) (df := d0) rfl rfl rfl rfl
  rw [key]
  simp [R.bind_ok', R.bind_no', R.of_some', R.fl_ok', Fl.bind_nx, Fl.bind_rt, s_skip, s_seq, s_asg, s_ex, s_ret, s_retn, s_ite, s_for, s_app, s_never, e_var, e_con, e_glo, e_tup, e_lst, e_neg, e_bin, e_cmp, e_cmp2, e_not, e_and, e_or, e_ife, e_idx, e_sl, e_call, e_callk, e_calf, e_calv, e_blt, e_isin, e_lc, l_nil, l_cons, a_nil, a_cons, a_ioa, p_nil, p_cons, o_nil, o_cons, t_not, t_and, t_or, t_nil, t_tr, i_rng1, i_rng2, i_enm, i_it, g_var, g_tup, g_idxF, g_idxN, gs_nil, gs_cons, Mp.init, initS, getS0, getS1, cur_f, cur_n, cur_p, settle_f, settle_n, settle_p, keep_f, keep_n, keep_p, kd_t, kd_f, tr_non, tr_bl, tr_int, tr_tup, tr_lst, tr_scr, ix_tup, ix_lst, sl_tup, sl_lst, b_len_t, b_len_l, b_len_s, b_tuple_t, b_tuple_l, b_list_t, b_list_l, b_int_i, b_int_b, b_abs, b_max, b_min, b_sum, b_all, b_any, bo_nil, bo_cons, in_nil, in_cons, isin_non, isin_bl, isin_int, isin_str, isin_tup, isin_lst, isinT, seq_t, seq_l, seq_s, own_v, own_o, own_i, own_u, pl_v, pl_u, wipe_n, wipe_c, unw_n, unw_c, fin_rt, fin_nx, out_n, out_t, out_f, six_none, six_some, Mp.ixN, storeIx, put_val, put_new, notIo_un, notIo_val, notIo_own, cmp_gt_int, cmp_lt_int, cmp_le_int, cmp_ge_int, cmp_eq_int, cmp_ne_int, bin_add_int, bin_sub_int, bin_mul_r, bin_mul_l, bin_mod_int, bin_fdiv_int, doCall, doCallF, argsD, iosOf, putOuts, setIo, Ar.isIo, Ar.d, bin_pow_int, bin_add_tup, eq_nil, is_non, isn_non, isNon_int, isNon_tup, isNon_lst, isNon_bl, isNon_str, isNon_non, sz_ok, sz_lt, s_ext, s_fst, s_par, m_nil, m_cons, puts_n, puts_c, e_fld, e_mk, e_isinc, isc_ins, ownL_o, ownL_i, lst_of, app_o, app_i, bin_mul_tup, bin_add_lst, eq_tup_nil, doMk, fldD, s_dst, e_dix, e_pop, e_dnew, e_lof1, e_lof2, e_rof1, e_rof2, e_bm, e_mkk, ownS_o, ownS_i, isLst_l, seqI_t, seqI_l, seqI_s, e_oeq, insB, othB, blR, d0]
theorem between_ok (n : Nat) (p a b : Int) (h1 : a ≤ p) (h2 : p ≤ b) : callN T (n + 2) 1 [false, false, false] [.int p, .int a, .int b] = some (.bl true, false, []) := by
  have key := call_eq (T := T) (n := n + 1) (f := 1) (fl := [false, false, false]) (ds := [.int p, .int a, .int b]) (df := d1) rfl rfl rfl rfl
  rw [key]
  simp [R.bind_ok', R.bind_no', R.of_some', R.fl_ok', Fl.bind_nx, Fl.bind_rt, s_skip, s_seq, s_asg, s_ex, s_ret, s_retn, s_ite, s_for, s_app, s_never, e_var, e_con, e_glo, e_tup, e_lst, e_neg, e_bin, e_cmp, e_cmp2, e_not, e_and, e_or, e_ife, e_idx, e_sl, e_call, e_callk, e_calf, e_calv, e_blt, e_isin, e_lc, l_nil, l_cons, a_nil, a_cons, a_ioa, p_nil, p_cons, o_nil, o_cons, t_not, t_and, t_or, t_nil, t_tr, i_rng1, i_rng2, i_enm, i_it, g_var, g_tup, g_idxF, g_idxN, gs_nil, gs_cons, Mp.init, initS, getS0, getS1, cur_f, cur_n, cur_p, settle_f, settle_n, settle_p, keep_f, keep_n, keep_p, kd_t, kd_f, tr_non, tr_bl, tr_int, tr_tup, tr_lst, tr_scr, ix_tup, ix_lst, sl_tup, sl_lst, b_len_t, b_len_l, b_len_s, b_tuple_t, b_tuple_l, b_list_t, b_list_l, b_int_i, b_int_b, b_abs, b_max, b_min, b_sum, b_all, b_any, bo_nil, bo_cons, in_nil, in_cons, isin_non, isin_bl, isin_int, isin_str, isin_tup, isin_lst, isinT, seq_t, seq_l, seq_s, own_v, own_o, own_i, own_u, pl_v, pl_u, wipe_n, wipe_c, unw_n, unw_c, fin_rt, fin_nx, out_n, out_t, out_f, six_none, six_some, Mp.ixN, storeIx, put_val, put_new, notIo_un, notIo_val, notIo_own, cmp_gt_int, cmp_lt_int, cmp_le_int, cmp_ge_int, cmp_eq_int, cmp_ne_int, bin_add_int, bin_sub_int, bin_mul_r, bin_mul_l, bin_mod_int, bin_fdiv_int, doCall, doCallF, argsD, iosOf, putOuts, setIo, Ar.isIo, Ar.d, bin_pow_int, bin_add_tup, eq_nil, is_non, isn_non, isNon_int, isNon_tup, isNon_lst, isNon_bl, isNon_str, isNon_non, sz_ok, sz_lt, s_ext, s_fst, s_par, m_nil, m_cons, puts_n, puts_c, e_fld, e_mk, e_isinc, isc_ins, ownL_o, ownL_i, lst_of, app_o, app_i, bin_mul_tup, bin_add_lst, eq_tup_nil, doMk, fldD, s_dst, e_dix, e_pop, e_dnew, e_lof1, e_lof2, e_rof1, e_rof2, e_bm, e_mkk, ownS_o, ownS_i, isLst_l, seqI_t, seqI_l, seqI_s, e_oeq, insB, othB, blR, d1, iswhole_ok, h1, h2]
theorem side_ok (n : Nat) (x : D) (p : Int) (h1 : -9 ≤ p) (h2 : p ≤ 9) : callN T (n + 3) 4 [false, false] [x, .int p] = some (.bl true, false, []) := by
  have key := call_eq (T := T) (n := n + 2) (f := 4) (fl := [false, false]) (ds := [x, .int p]) (df := d4) rfl rfl rfl rfl
  rw [key]
  simp [R.bind_ok', R.bind_no', R.of_some', R.fl_ok', Fl.bind_nx, Fl.bind_rt, s_skip, s_seq, s_asg, s_ex, s_ret, s_retn, s_ite, s_for, s_app, s_never, e_var, e_con, e_glo, e_tup, e_lst, e_neg, e_bin, e_cmp, e_cmp2, e_not, e_and, e_or, e_ife, e_idx, e_sl, e_call, e_callk, e_calf, e_calv, e_blt, e_isin, e_lc, l_nil, l_cons, a_nil, a_cons, a_ioa, p_nil, p_cons, o_nil, o_cons, t_not, t_and, t_or, t_nil, t_tr, i_rng1, i_rng2, i_enm, i_it, g_var, g_tup, g_idxF, g_idxN, gs_nil, gs_cons, Mp.init, initS, getS0, getS1, cur_f, cur_n, cur_p, settle_f, settle_n, settle_p, keep_f, keep_n, keep_p, kd_t, kd_f, tr_non, tr_bl, tr_int, tr_tup, tr_lst, tr_scr, ix_tup, ix_lst, sl_tup, sl_lst, b_len_t, b_len_l, b_len_s, b_tuple_t, b_tuple_l, b_list_t, b_list_l, b_int_i, b_int_b, b_abs, b_max, b_min, b_sum, b_all, b_any, bo_nil, bo_cons, in_nil, in_cons, isin_non, isin_bl, isin_int, isin_str, isin_tup, isin_lst, isinT, seq_t, seq_l, seq_s, own_v, own_o, own_i, own_u, pl_v, pl_u, wipe_n, wipe_c, unw_n, unw_c, fin_rt, fin_nx, out_n, out_t, out_f, six_none, six_some, Mp.ixN, storeIx, put_val, put_new, notIo_un, notIo_val, notIo_own, cmp_gt_int, cmp_lt_int, cmp_le_int, cmp_ge_int, cmp_eq_int, cmp_ne_int, bin_add_int, bin_sub_int, bin_mul_r, bin_mul_l, bin_mod_int, bin_fdiv_int, doCall, doCallF, argsD, iosOf, putOuts, setIo, Ar.isIo, Ar.d, bin_pow_int, bin_add_tup, eq_nil, is_non, isn_non, isNon_int, isNon_tup, isNon_lst, isNon_bl, isNon_str, isNon_non, sz_ok, sz_lt, s_ext, s_fst, s_par, m_nil, m_cons, puts_n, puts_c, e_fld, e_mk, e_isinc, isc_ins, ownL_o, ownL_i, lst_of, app_o, app_i, bin_mul_tup, bin_add_lst, eq_tup_nil, doMk, fldD, s_dst, e_dix, e_pop, e_dnew, e_lof1, e_lof2, e_rof1, e_rof2, e_bm, e_mkk, ownS_o, ownS_i, isLst_l, seqI_t, seqI_l, seqI_s, e_oeq, insB, othB, blR, d4, between_ok, h1, h2]
theorem wrong4_ok (n : Nat) (p q r s : Int) (hp : B9 p) (hq : B9 q) (hr : B9 r) (hs : B9 s) : callN T (n + 4) 2 [false, false, false, false] [.tup [.int p, .int q, .int r, .int s], .int 4, .int 4, .fn 4] = some (.lst [], true, []) := by
  have key := call_eq (T := T) (n := n + 3) (f := 2) (fl := [false, false, false, false]) (ds := [.tup [.int p, .int q, .int r, .int s], .int 4, .int 4, .fn 4]) (df := d2) rfl rfl rfl rfl
  rw [key]
  simp [R.bind_ok', R.bind_no', R.of_some', R.fl_ok', Fl.bind_nx, Fl.bind_rt, s_skip, s_seq, s_asg, s_ex, s_ret, s_retn, s_ite, s_for, s_app, s_never, e_var, e_con, e_glo, e_tup, e_lst, e_neg, e_bin, e_cmp, e_cmp2, e_not, e_and, e_or, e_ife, e_idx, e_sl, e_call, e_callk, e_calf, e_calv, e_blt, e_isin, e_lc, l_nil, l_cons, a_nil, a_cons, a_ioa, p_nil, p_cons, o_nil, o_cons, t_not, t_and, t_or, t_nil, t_tr, i_rng1, i_rng2, i_enm, i_it, g_var, g_tup, g_idxF, g_idxN, gs_nil, gs_cons, Mp.init, initS, getS0, getS1, cur_f, cur_n, cur_p, settle_f, settle_n, settle_p, keep_f, keep_n, keep_p, kd_t, kd_f, tr_non, tr_bl, tr_int, tr_tup, tr_lst, tr_scr, ix_tup, ix_lst, sl_tup, sl_lst, b_len_t, b_len_l, b_len_s, b_tuple_t, b_tuple_l, b_list_t, b_list_l, b_int_i, b_int_b, b_abs, b_max, b_min, b_sum, b_all, b_any, bo_nil, bo_cons, in_nil, in_cons, isin_non, isin_bl, isin_int, isin_str, isin_tup, isin_lst, isinT, seq_t, seq_l, seq_s, own_v, own_o, own_i, own_u, pl_v, pl_u, wipe_n, wipe_c, unw_n, unw_c, fin_rt, fin_nx, out_n, out_t, out_f, six_none, six_some, Mp.ixN, storeIx, put_val, put_new, notIo_un, notIo_val, notIo_own, cmp_gt_int, cmp_lt_int, cmp_le_int, cmp_ge_int, cmp_eq_int, cmp_ne_int, bin_add_int, bin_sub_int, bin_mul_r, bin_mul_l, bin_mod_int, bin_fdiv_int, doCall, doCallF, argsD, iosOf, putOuts, setIo, Ar.isIo, Ar.d, bin_pow_int, bin_add_tup, eq_nil, is_non, isn_non, isNon_int, isNon_tup, isNon_lst, isNon_bl, isNon_str, isNon_non, sz_ok, sz_lt, s_ext, s_fst, s_par, m_nil, m_cons, puts_n, puts_c, e_fld, e_mk, e_isinc, isc_ins, ownL_o, ownL_i, lst_of, app_o, app_i, bin_mul_tup, bin_add_lst, eq_tup_nil, doMk, fldD, s_dst, e_dix, e_pop, e_dnew, e_lof1, e_lof2, e_rof1, e_rof2, e_bm, e_mkk, ownS_o, ownS_i, isLst_l, seqI_t, seqI_l, seqI_s, e_oeq, insB, othB, blR, d2, side_ok, hp.1, hp.2, hq.1, hq.2, hr.1, hr.2, hs.1, hs.2, for_cons, for_nil, enumD, List.zipIdx]
theorem piece_ok (n : Nat) (p : P4) (hp : ok4 p) : callN T (n + 6) 5 [false] [pd p] = some (.bl true, false, []) := by
  obtain ⟨p, q, r, s⟩ := p
  obtain ⟨h1, h2, h3, h4⟩ := hp
  have k3 : callN T (n + 5) 3 [false, false, false, false] [.tup [.int p, .int q, .int r, .int s], .int 4, .int 4, .fn 4] = some (.bl true, false, []) := by
    rw [call_eq (T := T) (n := n + 4) (f := 3) (fl := [false, false, false, false]) (ds := [.tup [.int p, .int q, .int r, .int s], .int 4, .int 4, .fn 4]) (df := d3) rfl rfl rfl rfl]
    simp [R.bind_ok', R.bind_no', R.of_some', R.fl_ok', Fl.bind_nx, Fl.bind_rt, s_skip, s_seq, s_asg, s_ex, s_ret, s_retn, s_ite, s_for, s_app, s_never, e_var, e_con, e_glo, e_tup, e_lst, e_neg, e_bin, e_cmp, e_cmp2, e_not, e_and, e_or, e_ife, e_idx, e_sl, e_call, e_callk, e_calf, e_calv, e_blt, e_isin, e_lc, l_nil, l_cons, a_nil, a_cons, a_ioa, p_nil, p_cons, o_nil, o_cons, t_not, t_and, t_or, t_nil, t_tr, i_rng1, i_rng2, i_enm, i_it, g_var, g_tup, g_idxF, g_idxN, gs_nil, gs_cons, Mp.init, initS, getS0, getS1, cur_f, cur_n, cur_p, settle_f, settle_n, settle_p, keep_f, keep_n, keep_p, kd_t, kd_f, tr_non, tr_bl, tr_int, tr_tup, tr_lst, tr_scr, ix_tup, ix_lst, sl_tup, sl_lst, b_len_t, b_len_l, b_len_s, b_tuple_t, b_tuple_l, b_list_t, b_list_l, b_int_i, b_int_b, b_abs, b_max, b_min, b_sum, b_all, b_any, bo_nil, bo_cons, in_nil, in_cons, isin_non, isin_bl, isin_int, isin_str, isin_tup, isin_lst, isinT, seq_t, seq_l, seq_s, own_v, own_o, own_i, own_u, pl_v, pl_u, wipe_n, wipe_c, unw_n, unw_c, fin_rt, fin_nx, out_n, out_t, out_f, six_none, six_some, Mp.ixN, storeIx, put_val, put_new, notIo_un, notIo_val, notIo_own, cmp_gt_int, cmp_lt_int, cmp_le_int, cmp_ge_int, cmp_eq_int, cmp_ne_int, bin_add_int, bin_sub_int, bin_mul_r, bin_mul_l, bin_mod_int, bin_fdiv_int, doCall, doCallF, argsD, iosOf, putOuts, setIo, Ar.isIo, Ar.d, bin_pow_int, bin_add_tup, eq_nil, is_non, isn_non, isNon_int, isNon_tup, isNon_lst, isNon_bl, isNon_str, isNon_non, sz_ok, sz_lt, s_ext, s_fst, s_par, m_nil, m_cons, puts_n, puts_c, e_fld, e_mk, e_isinc, isc_ins, ownL_o, ownL_i, lst_of, app_o, app_i, bin_mul_tup, bin_add_lst, eq_tup_nil, doMk, fldD, s_dst, e_dix, e_pop, e_dnew, e_lof1, e_lof2, e_rof1, e_rof2, e_bm, e_mkk, ownS_o, ownS_i, isLst_l, seqI_t, seqI_l, seqI_s, e_oeq, insB, othB, blR, d3, wrong4_ok n p q r s h1 h2 h3 h4]
  show callN T (n + 6) 5 [false] [.tup [.int p, .int q, .int r, .int s]] = _
  rw [call_eq (T := T) (n := n + 5) (f := 5) (fl := [false]) (ds := [.tup [.int p, .int q, .int r, .int s]]) (df := d5) rfl rfl rfl rfl]
  simp [R.bind_ok', R.bind_no', R.of_some', R.fl_ok', Fl.bind_nx, Fl.bind_rt, s_skip, s_seq, s_asg, s_ex, s_ret, s_retn, s_ite, s_for, s_app, s_never, e_var, e_con, e_glo, e_tup, e_lst, e_neg, e_bin, e_cmp, e_cmp2, e_not, e_and, e_or, e_ife, e_idx, e_sl, e_call, e_callk, e_calf, e_calv, e_blt, e_isin, e_lc, l_nil, l_cons, a_nil, a_cons, a_ioa, p_nil, p_cons, o_nil, o_cons, t_not, t_and, t_or, t_nil, t_tr, i_rng1, i_rng2, i_enm, i_it, g_var, g_tup, g_idxF, g_idxN, gs_nil, gs_cons, Mp.init, initS, getS0, getS1, cur_f, cur_n, cur_p, settle_f, settle_n, settle_p, keep_f, keep_n, keep_p, kd_t, kd_f, tr_non, tr_bl, tr_int, tr_tup, tr_lst, tr_scr, ix_tup, ix_lst, sl_tup, sl_lst, b_len_t, b_len_l, b_len_s, b_tuple_t, b_tuple_l, b_list_t, b_list_l, b_int_i, b_int_b, b_abs, b_max, b_min, b_sum, b_all, b_any, bo_nil, bo_cons, in_nil, in_cons, isin_non, isin_bl, isin_int, isin_str, isin_tup, isin_lst, isinT, seq_t, seq_l, seq_s, own_v, own_o, own_i, own_u, pl_v, pl_u, wipe_n, wipe_c, unw_n, unw_c, fin_rt, fin_nx, out_n, out_t, out_f, six_none, six_some, Mp.ixN, storeIx, put_val, put_new, notIo_un, notIo_val, notIo_own, cmp_gt_int, cmp_lt_int, cmp_le_int, cmp_ge_int, cmp_eq_int, cmp_ne_int, bin_add_int, bin_sub_int, bin_mul_r, bin_mul_l, bin_mod_int, bin_fdiv_int, doCall, doCallF, argsD, iosOf, putOuts, setIo, Ar.isIo, Ar.d, bin_pow_int, bin_add_tup, eq_nil, is_non, isn_non, isNon_int, isNon_tup, isNon_lst, isNon_bl, isNon_str, isNon_non, sz_ok, sz_lt, s_ext, s_fst, s_par, m_nil, m_cons, puts_n, puts_c, e_fld, e_mk, e_isinc, isc_ins, ownL_o, ownL_i, lst_of, app_o, app_i, bin_mul_tup, bin_add_lst, eq_tup_nil, doMk, fldD, s_dst, e_dix, e_pop, e_dnew, e_lof1, e_lof2, e_rof1, e_rof2, e_bm, e_mkk, ownS_o, ownS_i, isLst_l, seqI_t, seqI_l, seqI_s, e_oeq, insB, othB, blR, d5, k3]
theorem plainAll_pd : ∀ qs : List P4, PyData.plainAll (D.toPs (qs.map pd)) = true
  | [] => rfl
  | p :: qs => by
    rw [List.map_cons, D.toPs, PyData.plainAll, plainAll_pd qs, Bool.and_true]
    exact pd_ok p
theorem tup_pd_ok (qs : List P4) : (D.tup (qs.map pd)).ok = true := by
  show PyData.plain (PyData.tuple (D.toPs (qs.map pd))) = true
  simpa [PyData.plain] using plainAll_pd qs
theorem isNon_pd (p : P4) : (pd p).isNon = false := rfl
theorem lt_pd (p q : P4) : ltD (pd p) (pd q) = some (PySem.W.dataLt (pd p).toP (pd q).toP) := by
  unfold ltD
  refine if_pos ⟨pd_ok p, pd_ok q, pd_alike p q, rfl, ?_⟩
  have := pd_depth p
  exact decide_eq_true (by have := Nat.min_le_left (pd p).toP.depth (pd q).toP.depth; omega)
theorem le_pd (p q : P4) : cmpD .le (pd p) (pd q) = some (leD (pd p) (pd q)) := by
  show (ltD (pd q) (pd p)).map (!·) = _
  rw [lt_pd] <;> rfl
theorem last_pd (bs : List P4) (b : P4) : idxD (.tup ((bs ++ [b]).map pd)) (.int (-1)) = some (pd b) := by
  show (Mp.ixN ((bs ++ [b]).map pd).length (-1)).bind _ = _
  have e : Mp.ixN ((bs ++ [b]).map pd).length (-1) = some bs.length := by
    unfold Mp.ixN
    rw [List.length_map, List.length_append, List.length_singleton, if_neg (by decide), if_pos (by omega)]
    congr 1
    omega
  rw [e]
  show ((bs ++ [b]).map pd)[bs.length]? = _
  rw [List.map_append, List.getElem?_append_right (by simp)]
  simp
theorem next_ok (n : Nat) (as : List P4) (p : P4) (hp : ok4 p) (h : ∀ bs b, as = bs ++ [b] → leD (pd b) (pd p) = true) : callN T (n + 7) 6 [false, false] [.tup (as.map pd), pd p] = some (.bl true, false, []) := by
  rw [call_eq (T := T) (n := n + 6) (f := 6) (fl := [false, false]) (ds := [.tup (as.map pd), pd p]) (df := d6) rfl rfl rfl rfl]
  have k := piece_ok n p hp
  rcases List.eq_nil_or_concat as with rfl | ⟨bs, b, rfl⟩
  · simp [R.bind_ok', R.bind_no', R.of_some', R.fl_ok', Fl.bind_nx, Fl.bind_rt, s_skip, s_seq, s_asg, s_ex, s_ret, s_retn, s_ite, s_for, s_app, s_never, e_var, e_con, e_glo, e_tup, e_lst, e_neg, e_bin, e_cmp, e_cmp2, e_not, e_and, e_or, e_ife, e_idx, e_sl, e_call, e_callk, e_calf, e_calv, e_blt, e_isin, e_lc, l_nil, l_cons, a_nil, a_cons, a_ioa, p_nil, p_cons, o_nil, o_cons, t_not, t_and, t_or, t_nil, t_tr, i_rng1, i_rng2, i_enm, i_it, g_var, g_tup, g_idxF, g_idxN, gs_nil, gs_cons, Mp.init, initS, getS0, getS1, cur_f, cur_n, cur_p, settle_f, settle_n, settle_p, keep_f, keep_n, keep_p, kd_t, kd_f, tr_non, tr_bl, tr_int, tr_tup, tr_lst, tr_scr, sl_tup, sl_lst, b_len_t, b_len_l, b_len_s, b_tuple_t, b_tuple_l, b_list_t, b_list_l, b_int_i, b_int_b, b_abs, b_max, b_min, b_sum, b_all, b_any, bo_nil, bo_cons, in_nil, in_cons, isin_non, isin_bl, isin_int, isin_str, isin_tup, isin_lst, isinT, seq_t, seq_l, seq_s, own_v, own_o, own_i, own_u, pl_v, pl_u, wipe_n, wipe_c, unw_n, unw_c, fin_rt, fin_nx, out_n, out_t, out_f, six_none, six_some, Mp.ixN, storeIx, put_val, put_new, notIo_un, notIo_val, notIo_own, cmp_gt_int, cmp_lt_int, cmp_le_int, cmp_ge_int, cmp_eq_int, cmp_ne_int, bin_add_int, bin_sub_int, bin_mul_r, bin_mul_l, bin_mod_int, bin_fdiv_int, doCall, doCallF, argsD, iosOf, putOuts, setIo, Ar.isIo, Ar.d, bin_pow_int, bin_add_tup, eq_nil, is_non, isn_non, isNon_int, isNon_tup, isNon_lst, isNon_bl, isNon_str, isNon_non, sz_ok, sz_lt, s_ext, s_fst, s_par, m_nil, m_cons, puts_n, puts_c, e_fld, e_mk, e_isinc, isc_ins, ownL_o, ownL_i, lst_of, app_o, app_i, bin_mul_tup, bin_add_lst, eq_tup_nil, doMk, fldD, s_dst, e_dix, e_pop, e_dnew, e_lof1, e_lof2, e_rof1, e_rof2, e_bm, e_mkk, ownS_o, ownS_i, isLst_l, seqI_t, seqI_l, seqI_s, e_oeq, insB, othB, blR, d6, k, eq_tup_nil]
  · rw [List.concat_eq_append] at *
    have h1 := h bs b rfl
    have h2 := last_pd bs b
    have h3 := le_pd b p
    rw [h1] at h3
    obtain ⟨x, xs, e⟩ : ∃ x xs, (bs ++ [b]).map pd = x :: xs := by
      cases bs with
      | nil => exact ⟨_, _, rfl⟩
      | cons y ys => exact ⟨_, _, rfl⟩
    have ho := tup_pd_ok (bs ++ [b])
    rw [e] at h2 ho ⊢
    have h4 := eq_cons_nil ho
    simp [R.bind_ok', R.bind_no', R.of_some', R.fl_ok', Fl.bind_nx, Fl.bind_rt, s_skip, s_seq, s_asg, s_ex, s_ret, s_retn, s_ite, s_for, s_app, s_never, e_var, e_con, e_glo, e_tup, e_lst, e_neg, e_bin, e_cmp, e_cmp2, e_not, e_and, e_or, e_ife, e_idx, e_sl, e_call, e_callk, e_calf, e_calv, e_blt, e_isin, e_lc, l_nil, l_cons, a_nil, a_cons, a_ioa, p_nil, p_cons, o_nil, o_cons, t_not, t_and, t_or, t_nil, t_tr, i_rng1, i_rng2, i_enm, i_it, g_var, g_tup, g_idxF, g_idxN, gs_nil, gs_cons, Mp.init, initS, getS0, getS1, cur_f, cur_n, cur_p, settle_f, settle_n, settle_p, keep_f, keep_n, keep_p, kd_t, kd_f, tr_non, tr_bl, tr_int, tr_tup, tr_lst, tr_scr, sl_tup, sl_lst, b_len_t, b_len_l, b_len_s, b_tuple_t, b_tuple_l, b_list_t, b_list_l, b_int_i, b_int_b, b_abs, b_max, b_min, b_sum, b_all, b_any, bo_nil, bo_cons, in_nil, in_cons, isin_non, isin_bl, isin_int, isin_str, isin_tup, isin_lst, isinT, seq_t, seq_l, seq_s, own_v, own_o, own_i, own_u, pl_v, pl_u, wipe_n, wipe_c, unw_n, unw_c, fin_rt, fin_nx, out_n, out_t, out_f, six_none, six_some, Mp.ixN, storeIx, put_val, put_new, notIo_un, notIo_val, notIo_own, cmp_gt_int, cmp_lt_int, cmp_le_int, cmp_ge_int, cmp_eq_int, cmp_ne_int, bin_add_int, bin_sub_int, bin_mul_r, bin_mul_l, bin_mod_int, bin_fdiv_int, doCall, doCallF, argsD, iosOf, putOuts, setIo, Ar.isIo, Ar.d, bin_pow_int, bin_add_tup, eq_nil, is_non, isn_non, isNon_int, isNon_tup, isNon_lst, isNon_bl, isNon_str, isNon_non, sz_ok, sz_lt, s_ext, s_fst, s_par, m_nil, m_cons, puts_n, puts_c, e_fld, e_mk, e_isinc, isc_ins, ownL_o, ownL_i, lst_of, app_o, app_i, bin_mul_tup, bin_add_lst, eq_tup_nil, doMk, fldD, s_dst, e_dix, e_pop, e_dnew, e_lof1, e_lof2, e_rof1, e_rof2, e_bm, e_mkk, ownS_o, ownS_i, isLst_l, seqI_t, seqI_l, seqI_s, e_oeq, insB, othB, blR, d6, k, h2, h3, h4]
def wrB : S := match d2.body with
  | .seq _ (.seq (.for_ _ _ b) _) => b
  | _ => .skip
abbrev wrE (qs : List P4) (L : Int) (s4 s5 : Mp.Slot) : Mp.Env := [.val (.tup (qs.map pd)), .val (.int L), .val (.int L), .val (.fn 6), s4, s5]
theorem wr_loop (n : Nat) (qs : List P4) (hq : ∀ p ∈ qs, ok4 p) (pw : qs.Pairwise fun p q => leD (pd p) (pd q) = true) : ∀ (suf pre : List P4) (s4 s5 : Mp.Slot), qs = pre ++ suf → notIo s4 = true → notIo s5 = true → ∃ u4 u5,
    forRun (callN T (n + 7)) (.tup (.cons (.var 4) (.cons (.var 5) .nil))) wrB (((suf.map pd).zipIdx pre.length).map fun p => .tup [.int (p.2 : Nat), p.1]) (wrE qs qs.length s4 s5) = .nx (wrE qs qs.length u4 u5)
  | [], pre, s4, s5, _, _, _ => ⟨s4, s5, rfl⟩
  | p :: suf, pre, s4, s5, e, n4, n5 => by
    obtain ⟨u4, u5, k⟩ := wr_loop n qs hq pw suf (pre ++ [p]) (.val (.int (pre.length : Nat))) (.val (pd p)) (by rw [e, List.append_assoc] <;> rfl) rfl rfl
    refine ⟨u4, u5, ?_⟩
    have hp : p ∈ qs := by rw [e]; simp
    have hlen : ((pre.length : Nat) : Int) < (qs.length : Int) := by rw [e, List.length_append, List.length_cons]; omega
    have hne : ¬ ((pre.length : Nat) : Int) = (qs.length : Int) := by omega
    have nx := next_ok n pre p (hq p hp) (fun bs b eb => by
      rw [e, eb] at pw
      have := List.pairwise_append.mp pw
      exact this.2.2 b (by simp) p List.mem_cons_self)
    have hs : slD (.tup (qs.map pd)) none (some ((pre.length : Nat) : Int)) = some (.tup (pre.map pd), false) := by
      show some (D.tup (cutD (qs.map pd) none (some ((pre.length : Nat) : Int))), false) = _
      rw [cut_to, ← List.map_take, e, List.take_left]
    rw [List.length_append, List.length_singleton] at k
    rw [List.map_cons, List.zipIdx_cons, List.map_cons, for_cons, ← k]
    have hb : wrB = .seq (.ite (.or (.tr (.cmp .eq (.var 4) (.var 2))) (.not (.tr (.calv 3 (.cons (.sl (.var 0) .nil (.cons (.var 4) .nil)) (.cons (.var 5) .nil)))))) (.seq (.ret (.lst (.cons (.var 4) .nil))) .skip) .skip) .skip := rfl
    rw [hb]
    simp [R.bind_ok', R.bind_no', R.of_some', R.fl_ok', Fl.bind_nx, Fl.bind_rt, s_skip, s_seq, s_asg, s_ex, s_ret, s_retn, s_ite, s_for, s_app, s_never, e_var, e_con, e_glo, e_tup, e_lst, e_neg, e_bin, e_cmp, e_cmp2, e_not, e_and, e_or, e_ife, e_idx, e_sl, e_call, e_callk, e_calf, e_calv, e_blt, e_isin, e_lc, l_nil, l_cons, a_nil, a_cons, a_ioa, p_nil, p_cons, o_nil, o_cons, t_not, t_and, t_or, t_nil, t_tr, i_rng1, i_rng2, i_enm, i_it, g_var, g_tup, g_idxF, g_idxN, gs_nil, gs_cons, Mp.init, initS, getS0, getS1, cur_f, cur_n, cur_p, settle_f, settle_n, settle_p, keep_f, keep_n, keep_p, kd_t, kd_f, tr_non, tr_bl, tr_int, tr_tup, tr_lst, tr_scr, ix_tup, ix_lst, b_len_t, b_len_l, b_len_s, b_tuple_t, b_tuple_l, b_list_t, b_list_l, b_int_i, b_int_b, b_abs, b_max, b_min, b_sum, b_all, b_any, bo_nil, bo_cons, in_nil, in_cons, isin_non, isin_bl, isin_int, isin_str, isin_tup, isin_lst, isinT, seq_t, seq_l, seq_s, own_v, own_o, own_i, own_u, pl_v, pl_u, wipe_n, wipe_c, unw_n, unw_c, fin_rt, fin_nx, out_n, out_t, out_f, six_none, six_some, Mp.ixN, storeIx, put_val, put_new, notIo_un, notIo_val, notIo_own, cmp_gt_int, cmp_lt_int, cmp_le_int, cmp_ge_int, cmp_eq_int, cmp_ne_int, bin_add_int, bin_sub_int, bin_mul_r, bin_mul_l, bin_mod_int, bin_fdiv_int, doCall, doCallF, argsD, iosOf, putOuts, setIo, Ar.isIo, Ar.d, bin_pow_int, bin_add_tup, eq_nil, is_non, isn_non, isNon_int, isNon_tup, isNon_lst, isNon_bl, isNon_str, isNon_non, sz_ok, sz_lt, s_ext, s_fst, s_par, m_nil, m_cons, puts_n, puts_c, e_fld, e_mk, e_isinc, isc_ins, ownL_o, ownL_i, lst_of, app_o, app_i, bin_mul_tup, bin_add_lst, eq_tup_nil, doMk, fldD, s_dst, e_dix, e_pop, e_dnew, e_lof1, e_lof2, e_rof1, e_rof2, e_bm, e_mkk, ownS_o, ownS_i, isLst_l, seqI_t, seqI_l, seqI_s, e_oeq, insB, othB, blR, wrE, n4, n5, hne, hs, nx]
theorem wrong_ok (n : Nat) (qs : List P4) (hq : ∀ p ∈ qs, ok4 p) (pw : qs.Pairwise fun p q => leD (pd p) (pd q) = true) : callN T (n + 8) 2 [false, false, false, false] [.tup (qs.map pd), .int qs.length, .int qs.length, .fn 6] = some (.lst [], true, []) := by
  obtain ⟨u4, u5, k⟩ := wr_loop n qs hq pw qs [] .un .un rfl rfl rfl
  have k' : forRun (callN T (n + 7)) (.tup (.cons (.var 4) (.cons (.var 5) .nil))) wrB (enumD (qs.map pd)) (wrE qs qs.length .un .un) = .nx (wrE qs qs.length u4 u5) := k
  rw [call_eq (T := T) (n := n + 7) (f := 2) (fl := [false, false, false, false]) (ds := [.tup (qs.map pd), .int qs.length, .int qs.length, .fn 6]) (df := d2) rfl rfl rfl rfl]
  have hb : d2.body = .seq (.ite (.or (.not (.tr (.isin 3 (.var 0)))) (.tr (.cmp .lt (.blt .len (.cons (.var 0) .nil)) (.var 1)))) (.seq (.ret (.lst (.cons (.con .non) .nil))) .skip) .skip) (.seq (.for_ (.tup (.cons (.var 4) (.cons (.var 5) .nil))) (.enm (.var 0)) wrB) (.seq (.ret (.lst .nil)) .skip)) := rfl
  have hi : init d2 [.tup (qs.map pd), .int qs.length, .int qs.length, .fn 6] = wrE qs qs.length .un .un := rfl
  have hios : d2.ios = [false, false, false, false] := rfl
  rw [hb, hi, hios]
  simp only [wrE] at k'
  simp [R.bind_ok', R.bind_no', R.of_some', R.fl_ok', Fl.bind_nx, Fl.bind_rt, s_skip, s_seq, s_asg, s_ex, s_ret, s_retn, s_ite, s_for, s_app, s_never, e_var, e_con, e_glo, e_tup, e_lst, e_neg, e_bin, e_cmp, e_cmp2, e_not, e_and, e_or, e_ife, e_idx, e_sl, e_call, e_callk, e_calf, e_calv, e_blt, e_isin, e_lc, l_nil, l_cons, a_nil, a_cons, a_ioa, p_nil, p_cons, o_nil, o_cons, t_not, t_and, t_or, t_nil, t_tr, i_rng1, i_rng2, i_enm, i_it, g_var, g_tup, g_idxF, g_idxN, gs_nil, gs_cons, Mp.init, initS, getS0, getS1, cur_f, cur_n, cur_p, settle_f, settle_n, settle_p, keep_f, keep_n, keep_p, kd_t, kd_f, tr_non, tr_bl, tr_int, tr_tup, tr_lst, tr_scr, ix_tup, ix_lst, sl_tup, sl_lst, b_len_t, b_len_l, b_len_s, b_tuple_t, b_tuple_l, b_list_t, b_list_l, b_int_i, b_int_b, b_abs, b_max, b_min, b_sum, b_all, b_any, bo_nil, bo_cons, in_nil, in_cons, isin_non, isin_bl, isin_int, isin_str, isin_tup, isin_lst, isinT, seq_t, seq_l, seq_s, own_v, own_o, own_i, own_u, pl_v, pl_u, wipe_n, wipe_c, unw_n, unw_c, fin_rt, fin_nx, out_n, out_t, out_f, six_none, six_some, Mp.ixN, storeIx, put_val, put_new, notIo_un, notIo_val, notIo_own, cmp_gt_int, cmp_lt_int, cmp_le_int, cmp_ge_int, cmp_eq_int, cmp_ne_int, bin_add_int, bin_sub_int, bin_mul_r, bin_mul_l, bin_mod_int, bin_fdiv_int, doCall, doCallF, argsD, iosOf, putOuts, setIo, Ar.isIo, Ar.d, bin_pow_int, bin_add_tup, eq_nil, is_non, isn_non, isNon_int, isNon_tup, isNon_lst, isNon_bl, isNon_str, isNon_non, sz_ok, sz_lt, s_ext, s_fst, s_par, m_nil, m_cons, puts_n, puts_c, e_fld, e_mk, e_isinc, isc_ins, ownL_o, ownL_i, lst_of, app_o, app_i, bin_mul_tup, bin_add_lst, eq_tup_nil, doMk, fldD, s_dst, e_dix, e_pop, e_dnew, e_lof1, e_lof2, e_rof1, e_rof2, e_bm, e_mkk, ownS_o, ownS_i, isLst_l, seqI_t, seqI_l, seqI_s, e_oeq, insB, othB, blR, wrE, k']
theorem wrongp_ok (n : Nat) (qs : List P4) (m : Int) (hq : ∀ p ∈ qs, ok4 p) (pw : qs.Pairwise fun p q => leD (pd p) (pd q) = true) (hm : (qs.length : Int) = m) : callN T (n + 9) 7 [false, false] [.tup (qs.map pd), .int m] = some (.lst [], true, []) := by
  subst hm
  rw [call_eq (T := T) (n := n + 8) (f := 7) (fl := [false, false]) (ds := [.tup (qs.map pd), .int qs.length]) (df := d7) rfl rfl rfl rfl]
  have k := wrong_ok n qs hq pw
  simp [R.bind_ok', R.bind_no', R.of_some', R.fl_ok', Fl.bind_nx, Fl.bind_rt, s_skip, s_seq, s_asg, s_ex, s_ret, s_retn, s_ite, s_for, s_app, s_never, e_var, e_con, e_glo, e_tup, e_lst, e_neg, e_bin, e_cmp, e_cmp2, e_not, e_and, e_or, e_ife, e_idx, e_sl, e_call, e_callk, e_calf, e_calv, e_blt, e_isin, e_lc, l_nil, l_cons, a_nil, a_cons, a_ioa, p_nil, p_cons, o_nil, o_cons, t_not, t_and, t_or, t_nil, t_tr, i_rng1, i_rng2, i_enm, i_it, g_var, g_tup, g_idxF, g_idxN, gs_nil, gs_cons, Mp.init, initS, getS0, getS1, cur_f, cur_n, cur_p, settle_f, settle_n, settle_p, keep_f, keep_n, keep_p, kd_t, kd_f, tr_non, tr_bl, tr_int, tr_tup, tr_lst, tr_scr, ix_tup, ix_lst, sl_tup, sl_lst, b_len_t, b_len_l, b_len_s, b_tuple_t, b_tuple_l, b_list_t, b_list_l, b_int_i, b_int_b, b_abs, b_max, b_min, b_sum, b_all, b_any, bo_nil, bo_cons, in_nil, in_cons, isin_non, isin_bl, isin_int, isin_str, isin_tup, isin_lst, isinT, seq_t, seq_l, seq_s, own_v, own_o, own_i, own_u, pl_v, pl_u, wipe_n, wipe_c, unw_n, unw_c, fin_rt, fin_nx, out_n, out_t, out_f, six_none, six_some, Mp.ixN, storeIx, put_val, put_new, notIo_un, notIo_val, notIo_own, cmp_gt_int, cmp_lt_int, cmp_le_int, cmp_ge_int, cmp_eq_int, cmp_ne_int, bin_add_int, bin_sub_int, bin_mul_r, bin_mul_l, bin_mod_int, bin_fdiv_int, doCall, doCallF, argsD, iosOf, putOuts, setIo, Ar.isIo, Ar.d, bin_pow_int, bin_add_tup, eq_nil, is_non, isn_non, isNon_int, isNon_tup, isNon_lst, isNon_bl, isNon_str, isNon_non, sz_ok, sz_lt, s_ext, s_fst, s_par, m_nil, m_cons, puts_n, puts_c, e_fld, e_mk, e_isinc, isc_ins, ownL_o, ownL_i, lst_of, app_o, app_i, bin_mul_tup, bin_add_lst, eq_tup_nil, doMk, fldD, s_dst, e_dix, e_pop, e_dnew, e_lof1, e_lof2, e_rof1, e_rof2, e_bm, e_mkk, ownS_o, ownS_i, isLst_l, seqI_t, seqI_l, seqI_s, e_oeq, insB, othB, blR, d7, k]
theorem rows_ok (n : Nat) (r : Int) (h1 : 1 ≤ r) (h2 : r ≤ 6) : callN T (n + 3) 8 [false] [.int r] = some (.non, false, []) := by
  rw [call_eq (T := T) (n := n + 2) (f := 8) (fl := [false]) (ds := [.int r]) (df := d8) rfl rfl rfl rfl]
  simp [R.bind_ok', R.bind_no', R.of_some', R.fl_ok', Fl.bind_nx, Fl.bind_rt, s_skip, s_seq, s_asg, s_ex, s_ret, s_retn, s_ite, s_for, s_app, s_never, e_var, e_con, e_glo, e_tup, e_lst, e_neg, e_bin, e_cmp, e_cmp2, e_not, e_and, e_or, e_ife, e_idx, e_sl, e_call, e_callk, e_calf, e_calv, e_blt, e_isin, e_lc, l_nil, l_cons, a_nil, a_cons, a_ioa, p_nil, p_cons, o_nil, o_cons, t_not, t_and, t_or, t_nil, t_tr, i_rng1, i_rng2, i_enm, i_it, g_var, g_tup, g_idxF, g_idxN, gs_nil, gs_cons, Mp.init, initS, getS0, getS1, cur_f, cur_n, cur_p, settle_f, settle_n, settle_p, keep_f, keep_n, keep_p, kd_t, kd_f, tr_non, tr_bl, tr_int, tr_tup, tr_lst, tr_scr, ix_tup, ix_lst, sl_tup, sl_lst, b_len_t, b_len_l, b_len_s, b_tuple_t, b_tuple_l, b_list_t, b_list_l, b_int_i, b_int_b, b_abs, b_max, b_min, b_sum, b_all, b_any, bo_nil, bo_cons, in_nil, in_cons, isin_non, isin_bl, isin_int, isin_str, isin_tup, isin_lst, isinT, seq_t, seq_l, seq_s, own_v, own_o, own_i, own_u, pl_v, pl_u, wipe_n, wipe_c, unw_n, unw_c, fin_rt, fin_nx, out_n, out_t, out_f, six_none, six_some, Mp.ixN, storeIx, put_val, put_new, notIo_un, notIo_val, notIo_own, cmp_gt_int, cmp_lt_int, cmp_le_int, cmp_ge_int, cmp_eq_int, cmp_ne_int, bin_add_int, bin_sub_int, bin_mul_r, bin_mul_l, bin_mod_int, bin_fdiv_int, doCall, doCallF, argsD, iosOf, putOuts, setIo, Ar.isIo, Ar.d, bin_pow_int, bin_add_tup, eq_nil, is_non, isn_non, isNon_int, isNon_tup, isNon_lst, isNon_bl, isNon_str, isNon_non, sz_ok, sz_lt, s_ext, s_fst, s_par, m_nil, m_cons, puts_n, puts_c, e_fld, e_mk, e_isinc, isc_ins, ownL_o, ownL_i, lst_of, app_o, app_i, bin_mul_tup, bin_add_lst, eq_tup_nil, doMk, fldD, s_dst, e_dix, e_pop, e_dnew, e_lof1, e_lof2, e_rof1, e_rof2, e_bm, e_mkk, ownS_o, ownS_i, isLst_l, seqI_t, seqI_l, seqI_s, e_oeq, insB, othB, blR, d8, between_ok n r 1 6 h1 h2]
theorem cols_ok (n : Nat) (r c : Int) (h0 : 1 ≤ r) (h1 : 1 ≤ c) (h2 : c ≤ 6) (h3 : r * c ≤ 6) : callN T (n + 3) 9 [false, false] [.int r, .int c] = some (.non, false, []) := by
  rw [call_eq (T := T) (n := n + 2) (f := 9) (fl := [false, false]) (ds := [.int r, .int c]) (df := d9) rfl rfl rfl rfl]
  have hm := bin_mul_r (a := r) (b := c) (by omega)
  have hn : ¬ 6 < r * c := by omega
  simp [R.bind_ok', R.bind_no', R.of_some', R.fl_ok', Fl.bind_nx, Fl.bind_rt, s_skip, s_seq, s_asg, s_ex, s_ret, s_retn, s_ite, s_for, s_app, s_never, e_var, e_con, e_glo, e_tup, e_lst, e_neg, e_bin, e_cmp, e_cmp2, e_not, e_and, e_or, e_ife, e_idx, e_sl, e_call, e_callk, e_calf, e_calv, e_blt, e_isin, e_lc, l_nil, l_cons, a_nil, a_cons, a_ioa, p_nil, p_cons, o_nil, o_cons, t_not, t_and, t_or, t_nil, t_tr, i_rng1, i_rng2, i_enm, i_it, g_var, g_tup, g_idxF, g_idxN, gs_nil, gs_cons, Mp.init, initS, getS0, getS1, cur_f, cur_n, cur_p, settle_f, settle_n, settle_p, keep_f, keep_n, keep_p, kd_t, kd_f, tr_non, tr_bl, tr_int, tr_tup, tr_lst, tr_scr, ix_tup, ix_lst, sl_tup, sl_lst, b_len_t, b_len_l, b_len_s, b_tuple_t, b_tuple_l, b_list_t, b_list_l, b_int_i, b_int_b, b_abs, b_max, b_min, b_sum, b_all, b_any, bo_nil, bo_cons, in_nil, in_cons, isin_non, isin_bl, isin_int, isin_str, isin_tup, isin_lst, isinT, seq_t, seq_l, seq_s, own_v, own_o, own_i, own_u, pl_v, pl_u, wipe_n, wipe_c, unw_n, unw_c, fin_rt, fin_nx, out_n, out_t, out_f, six_none, six_some, Mp.ixN, storeIx, put_val, put_new, notIo_un, notIo_val, notIo_own, cmp_gt_int, cmp_lt_int, cmp_le_int, cmp_ge_int, cmp_eq_int, cmp_ne_int, bin_add_int, bin_sub_int, bin_mul_r, bin_mul_l, bin_mod_int, bin_fdiv_int, doCall, doCallF, argsD, iosOf, putOuts, setIo, Ar.isIo, Ar.d, bin_pow_int, bin_add_tup, eq_nil, is_non, isn_non, isNon_int, isNon_tup, isNon_lst, isNon_bl, isNon_str, isNon_non, sz_ok, sz_lt, s_ext, s_fst, s_par, m_nil, m_cons, puts_n, puts_c, e_fld, e_mk, e_isinc, isc_ins, ownL_o, ownL_i, lst_of, app_o, app_i, bin_mul_tup, bin_add_lst, eq_tup_nil, doMk, fldD, s_dst, e_dix, e_pop, e_dnew, e_lof1, e_lof2, e_rof1, e_rof2, e_bm, e_mkk, ownS_o, ownS_i, isLst_l, seqI_t, seqI_l, seqI_s, e_oeq, insB, othB, blR, d9, between_ok n c 1 6 h1 h2, hm, hn]
theorem cframe_ok (n : Nat) (r c : Int) (h0 : 1 ≤ r) (h6 : r ≤ 6) (h1 : 1 ≤ c) (h2 : c ≤ 6) (h3 : r * c ≤ 6) : callN T (n + 4) 10 [false, false] [.int r, .int c] = some (.non, false, []) := by
  rw [call_eq (T := T) (n := n + 3) (f := 10) (fl := [false, false]) (ds := [.int r, .int c]) (df := d10) rfl rfl rfl rfl]
  simp [R.bind_ok', R.bind_no', R.of_some', R.fl_ok', Fl.bind_nx, Fl.bind_rt, s_skip, s_seq, s_asg, s_ex, s_ret, s_retn, s_ite, s_for, s_app, s_never, e_var, e_con, e_glo, e_tup, e_lst, e_neg, e_bin, e_cmp, e_cmp2, e_not, e_and, e_or, e_ife, e_idx, e_sl, e_call, e_callk, e_calf, e_calv, e_blt, e_isin, e_lc, l_nil, l_cons, a_nil, a_cons, a_ioa, p_nil, p_cons, o_nil, o_cons, t_not, t_and, t_or, t_nil, t_tr, i_rng1, i_rng2, i_enm, i_it, g_var, g_tup, g_idxF, g_idxN, gs_nil, gs_cons, Mp.init, initS, getS0, getS1, cur_f, cur_n, cur_p, settle_f, settle_n, settle_p, keep_f, keep_n, keep_p, kd_t, kd_f, tr_non, tr_bl, tr_int, tr_tup, tr_lst, tr_scr, ix_tup, ix_lst, sl_tup, sl_lst, b_len_t, b_len_l, b_len_s, b_tuple_t, b_tuple_l, b_list_t, b_list_l, b_int_i, b_int_b, b_abs, b_max, b_min, b_sum, b_all, b_any, bo_nil, bo_cons, in_nil, in_cons, isin_non, isin_bl, isin_int, isin_str, isin_tup, isin_lst, isinT, seq_t, seq_l, seq_s, own_v, own_o, own_i, own_u, pl_v, pl_u, wipe_n, wipe_c, unw_n, unw_c, fin_rt, fin_nx, out_n, out_t, out_f, six_none, six_some, Mp.ixN, storeIx, put_val, put_new, notIo_un, notIo_val, notIo_own, cmp_gt_int, cmp_lt_int, cmp_le_int, cmp_ge_int, cmp_eq_int, cmp_ne_int, bin_add_int, bin_sub_int, bin_mul_r, bin_mul_l, bin_mod_int, bin_fdiv_int, doCall, doCallF, argsD, iosOf, putOuts, setIo, Ar.isIo, Ar.d, bin_pow_int, bin_add_tup, eq_nil, is_non, isn_non, isNon_int, isNon_tup, isNon_lst, isNon_bl, isNon_str, isNon_non, sz_ok, sz_lt, s_ext, s_fst, s_par, m_nil, m_cons, puts_n, puts_c, e_fld, e_mk, e_isinc, isc_ins, ownL_o, ownL_i, lst_of, app_o, app_i, bin_mul_tup, bin_add_lst, eq_tup_nil, doMk, fldD, s_dst, e_dix, e_pop, e_dnew, e_lof1, e_lof2, e_rof1, e_rof2, e_bm, e_mkk, ownS_o, ownS_i, isLst_l, seqI_t, seqI_l, seqI_s, e_oeq, insB, othB, blR, d10, rows_ok n r h0 h6, cols_ok n r c h0 h1 h2 h3]
theorem cturn_ok (n : Nat) (t : Bool) : callN T (n + 1) 11 [false] [.bl t] = some (.non, false, []) := by
  rw [call_eq (T := T) (n := n) (f := 11) (fl := [false]) (ds := [.bl t]) (df := d11) rfl rfl rfl rfl]
  simp [R.bind_ok', R.bind_no', R.of_some', R.fl_ok', Fl.bind_nx, Fl.bind_rt, s_skip, s_seq, s_asg, s_ex, s_ret, s_retn, s_ite, s_for, s_app, s_never, e_var, e_con, e_glo, e_tup, e_lst, e_neg, e_bin, e_cmp, e_cmp2, e_not, e_and, e_or, e_ife, e_idx, e_sl, e_call, e_callk, e_calf, e_calv, e_blt, e_isin, e_lc, l_nil, l_cons, a_nil, a_cons, a_ioa, p_nil, p_cons, o_nil, o_cons, t_not, t_and, t_or, t_nil, t_tr, i_rng1, i_rng2, i_enm, i_it, g_var, g_tup, g_idxF, g_idxN, gs_nil, gs_cons, Mp.init, initS, getS0, getS1, cur_f, cur_n, cur_p, settle_f, settle_n, settle_p, keep_f, keep_n, keep_p, kd_t, kd_f, tr_non, tr_bl, tr_int, tr_tup, tr_lst, tr_scr, ix_tup, ix_lst, sl_tup, sl_lst, b_len_t, b_len_l, b_len_s, b_tuple_t, b_tuple_l, b_list_t, b_list_l, b_int_i, b_int_b, b_abs, b_max, b_min, b_sum, b_all, b_any, bo_nil, bo_cons, in_nil, in_cons, isin_non, isin_bl, isin_int, isin_str, isin_tup, isin_lst, isinT, seq_t, seq_l, seq_s, own_v, own_o, own_i, own_u, pl_v, pl_u, wipe_n, wipe_c, unw_n, unw_c, fin_rt, fin_nx, out_n, out_t, out_f, six_none, six_some, Mp.ixN, storeIx, put_val, put_new, notIo_un, notIo_val, notIo_own, cmp_gt_int, cmp_lt_int, cmp_le_int, cmp_ge_int, cmp_eq_int, cmp_ne_int, bin_add_int, bin_sub_int, bin_mul_r, bin_mul_l, bin_mod_int, bin_fdiv_int, doCall, doCallF, argsD, iosOf, putOuts, setIo, Ar.isIo, Ar.d, bin_pow_int, bin_add_tup, eq_nil, is_non, isn_non, isNon_int, isNon_tup, isNon_lst, isNon_bl, isNon_str, isNon_non, sz_ok, sz_lt, s_ext, s_fst, s_par, m_nil, m_cons, puts_n, puts_c, e_fld, e_mk, e_isinc, isc_ins, ownL_o, ownL_i, lst_of, app_o, app_i, bin_mul_tup, bin_add_lst, eq_tup_nil, doMk, fldD, s_dst, e_dix, e_pop, e_dnew, e_lof1, e_lof2, e_rof1, e_rof2, e_bm, e_mkk, ownS_o, ownS_i, isLst_l, seqI_t, seqI_l, seqI_s, e_oeq, insB, othB, blR, d11]
theorem init_ok (n : Nat) (f : Int × Int) (most : Int) (qs : List P4) (t : Bool) (h : Right f most qs) : callN T (n + 10) 23 [true, false, false, false, false] [.ins 0 FL [], .int f.1, .int f.2, .tup (qs.map pd), .bl t] = some (.non, false, [PZ f qs t]) := by
  obtain ⟨h1, h2, h3, h4, h5, h6, h7, h8⟩ := h.bd
  rw [call_eq (T := T) (n := n + 9) (f := 23) (fl := [true, false, false, false, false]) (ds := [.ins 0 FL [], .int f.1, .int f.2, .tup (qs.map pd), .bl t]) (df := d23) rfl rfl rfl rfl]
  have k1 := cframe_ok (n + 5) f.1 f.2 h1 h3 h2 h4 h5
  have k2 := wrongp_ok n qs (f.1 * f.2) h.ok h.pw h6
  have k3 := cturn_ok (n + 8) t
  have hm := bin_mul_r (a := f.1) (b := f.2) (by omega)
  have s10 : (Str.ofString "columns" = Str.ofString "rows") = False := eq_false (by decide +kernel)
  have s20 : (Str.ofString "pieces" = Str.ofString "rows") = False := eq_false (by decide +kernel)
  have s21 : (Str.ofString "pieces" = Str.ofString "columns") = False := eq_false (by decide +kernel)
  have s30 : (Str.ofString "turning" = Str.ofString "rows") = False := eq_false (by decide +kernel)
  have s31 : (Str.ofString "turning" = Str.ofString "columns") = False := eq_false (by decide +kernel)
  have s32 : (Str.ofString "turning" = Str.ofString "pieces") = False := eq_false (by decide +kernel)
  have s40 : (Str.ofString "parts" = Str.ofString "rows") = False := eq_false (by decide +kernel)
  have s41 : (Str.ofString "parts" = Str.ofString "columns") = False := eq_false (by decide +kernel)
  have s42 : (Str.ofString "parts" = Str.ofString "pieces") = False := eq_false (by decide +kernel)
  have s43 : (Str.ofString "parts" = Str.ofString "turning") = False := eq_false (by decide +kernel)
  simp [R.bind_ok', R.bind_no', R.of_some', R.fl_ok', Fl.bind_nx, Fl.bind_rt, s_skip, s_seq, s_asg, s_ex, s_ret, s_retn, s_ite, s_for, s_app, s_never, e_var, e_con, e_glo, e_tup, e_lst, e_neg, e_bin, e_cmp, e_cmp2, e_not, e_and, e_or, e_ife, e_idx, e_sl, e_call, e_callk, e_calf, e_calv, e_blt, e_isin, e_lc, l_nil, l_cons, a_nil, a_cons, a_ioa, p_nil, p_cons, o_nil, o_cons, t_not, t_and, t_or, t_nil, t_tr, i_rng1, i_rng2, i_enm, i_it, g_var, g_tup, g_idxF, g_idxN, gs_nil, gs_cons, Mp.init, initS, getS0, getS1, cur_f, cur_n, cur_p, settle_f, settle_n, settle_p, keep_f, keep_n, keep_p, kd_t, kd_f, tr_non, tr_bl, tr_int, tr_tup, tr_lst, tr_scr, ix_tup, ix_lst, sl_tup, sl_lst, b_len_t, b_len_l, b_len_s, b_tuple_t, b_tuple_l, b_list_t, b_list_l, b_int_i, b_int_b, b_abs, b_max, b_min, b_sum, b_all, b_any, bo_nil, bo_cons, in_nil, in_cons, isin_non, isin_bl, isin_int, isin_str, isin_tup, isin_lst, isinT, seq_t, seq_l, seq_s, own_v, own_o, own_i, own_u, pl_v, pl_u, wipe_n, wipe_c, unw_n, unw_c, fin_rt, fin_nx, out_n, out_t, out_f, six_none, six_some, Mp.ixN, storeIx, put_val, put_new, notIo_un, notIo_val, notIo_own, cmp_gt_int, cmp_lt_int, cmp_le_int, cmp_ge_int, cmp_eq_int, cmp_ne_int, bin_add_int, bin_sub_int, bin_mul_r, bin_mul_l, bin_mod_int, bin_fdiv_int, doCall, doCallF, argsD, iosOf, putOuts, setIo, Ar.isIo, Ar.d, bin_pow_int, bin_add_tup, eq_nil, is_non, isn_non, isNon_int, isNon_tup, isNon_lst, isNon_bl, isNon_str, isNon_non, sz_ok, sz_lt, s_ext, s_fst, s_par, m_nil, m_cons, puts_n, puts_c, e_fld, e_mk, e_isinc, isc_ins, ownL_o, ownL_i, lst_of, app_o, app_i, bin_mul_tup, bin_add_lst, eq_tup_nil, doMk, fldD, s_dst, e_dix, e_pop, e_dnew, e_lof1, e_lof2, e_rof1, e_rof2, e_bm, e_mkk, ownS_o, ownS_i, isLst_l, seqI_t, seqI_l, seqI_s, e_oeq, insB, othB, blR, d23, k1, k2, k3, hm, for_nil, PZ, FL, s10, s20, s21, s30, s31, s32, s40, s41, s42, s43]
theorem made_ok (n : Nat) (f : Int × Int) (most : Int) (qs : List P4) (t : Bool) (h : Right f most qs) : callN T (n + 11) 20 [false] [pzD f qs t] = some (PZ f qs t, false, []) := by
  have k := init_ok n f most qs t h
  unfold pzD
  rw [call_eq (T := T) (n := n + 10) (f := 20) (fl := [false]) (ds := [.tup [.int f.1, .int f.2, .tup (qs.map pd), .bl t]]) (df := d20) rfl rfl rfl rfl]
  simp [R.bind_ok', R.bind_no', R.of_some', R.fl_ok', Fl.bind_nx, Fl.bind_rt, s_skip, s_seq, s_asg, s_ex, s_ret, s_retn, s_ite, s_for, s_app, s_never, e_var, e_con, e_glo, e_tup, e_lst, e_neg, e_bin, e_cmp, e_cmp2, e_not, e_and, e_or, e_ife, e_idx, e_sl, e_call, e_callk, e_calf, e_calv, e_blt, e_isin, e_lc, l_nil, l_cons, a_nil, a_cons, a_ioa, p_nil, p_cons, o_nil, o_cons, t_not, t_and, t_or, t_nil, t_tr, i_rng1, i_rng2, i_enm, i_it, g_var, g_tup, g_idxF, g_idxN, gs_nil, gs_cons, Mp.init, initS, getS0, getS1, cur_f, cur_n, cur_p, settle_f, settle_n, settle_p, keep_f, keep_n, keep_p, kd_t, kd_f, tr_non, tr_bl, tr_int, tr_tup, tr_lst, tr_scr, ix_tup, ix_lst, sl_tup, sl_lst, b_len_t, b_len_l, b_len_s, b_tuple_t, b_tuple_l, b_list_t, b_list_l, b_int_i, b_int_b, b_abs, b_max, b_min, b_sum, b_all, b_any, bo_nil, bo_cons, in_nil, in_cons, isin_non, isin_bl, isin_int, isin_str, isin_tup, isin_lst, isinT, seq_t, seq_l, seq_s, own_v, own_o, own_i, own_u, pl_v, pl_u, wipe_n, wipe_c, unw_n, unw_c, fin_rt, fin_nx, out_n, out_t, out_f, six_none, six_some, Mp.ixN, storeIx, put_val, put_new, notIo_un, notIo_val, notIo_own, cmp_gt_int, cmp_lt_int, cmp_le_int, cmp_ge_int, cmp_eq_int, cmp_ne_int, bin_add_int, bin_sub_int, bin_mul_r, bin_mul_l, bin_mod_int, bin_fdiv_int, doCall, doCallF, argsD, iosOf, putOuts, setIo, Ar.isIo, Ar.d, bin_pow_int, bin_add_tup, eq_nil, is_non, isn_non, isNon_int, isNon_tup, isNon_lst, isNon_bl, isNon_str, isNon_non, sz_ok, sz_lt, s_ext, s_fst, s_par, m_nil, m_cons, puts_n, puts_c, e_fld, e_mk, e_isinc, isc_ins, ownL_o, ownL_i, lst_of, app_o, app_i, bin_mul_tup, bin_add_lst, eq_tup_nil, doMk, fldD, s_dst, e_dix, e_pop, e_dnew, e_lof1, e_lof2, e_rof1, e_rof2, e_bm, e_mkk, ownS_o, ownS_i, isLst_l, seqI_t, seqI_l, seqI_s, e_oeq, insB, othB, blR, d20, k]
end K01

set_option maxHeartbeats 4000000
set_option maxRecDepth 10000
namespace K01
open PySem Mp
/-! a comprehension whose parts change nothing -/
theorem lcR {α : Type} {cl : Nat → List Bool → List D → CRes} {vs : List Nat} {t c e : E} {enc out : α → D} {cond kd : α → Bool} {base : Mp.Env} {ρx : α → Mp.Env} : ∀ (xs : List α) (acc : List D) (ρ1 : Mp.Env), wipe ρ1 vs = base → (∀ x ∈ xs, wipe (ρx x) vs = base) → (∀ x ∈ xs, evG cl t (enc x) .frz base = .ok () (ρx x)) → (∀ x ∈ xs, evT cl c (ρx x) = .ok (cond x) (ρx x)) → (∀ x ∈ xs, cond x = true → evE cl e (ρx x) = .ok (out x, kdOf (kd x)) (ρx x)) → acc.length + xs.length < 100000 →
    ∃ ρ2, lcRun cl vs t c e (xs.map enc) acc ρ1 = .ok (acc ++ (xs.filter cond).map out) ρ2 ∧ (ρ2 = ρ1 ∨ ∃ x ∈ xs, ρ2 = ρx x)
  | [], acc, ρ1, _, _, _, _, _, _ => ⟨ρ1, by show R.ok acc ρ1 = _; simp, .inl rfl⟩
  | x :: xs, acc, ρ1, h1, h2, h3, h4, h5, h6 => by
    have m := List.mem_cons_self (a := x) (l := xs)
    rw [List.length_cons] at h6
    have rest := fun acc' hl => lcR (out := out) (kd := kd) xs acc' (ρx x) (h2 x m) (fun y hy => h2 y (List.mem_cons_of_mem _ hy)) (fun y hy => h3 y (List.mem_cons_of_mem _ hy)) (fun y hy => h4 y (List.mem_cons_of_mem _ hy)) (fun y hy => h5 y (List.mem_cons_of_mem _ hy)) hl
    rw [List.map_cons, lc_cons, h1, h3 x m, R.bind_ok', h4 x m, R.bind_ok']
    cases hc : cond x with
    | false =>
      obtain ⟨ρ2, k1, k2⟩ := rest acc (by omega)
      refine ⟨ρ2, ?_, k2.elim (fun z => .inr ⟨x, m, z⟩) fun ⟨y, hy, z⟩ => .inr ⟨y, List.mem_cons_of_mem _ hy, z⟩⟩
      rw [if_neg (by decide), List.filter_cons_of_neg (by rw [hc]; decide)]
      exact k1
    | true =>
      obtain ⟨ρ2, k1, k2⟩ := rest (acc ++ [out x]) (by rw [List.length_append, List.length_singleton]; omega)
      refine ⟨ρ2, ?_, k2.elim (fun z => .inr ⟨x, m, z⟩) fun ⟨y, hy, z⟩ => .inr ⟨y, List.mem_cons_of_mem _ hy, z⟩⟩
      rw [if_pos rfl, h5 x m hc, R.bind_ok', List.filter_cons_of_pos hc]
      have hs : ∀ ρ, Mp.settle ρ (out x) (kdOf (kd x)) = .ok (out x) ρ := fun ρ => by cases kd x <;> rfl
      show (Mp.settle (ρx x) (out x) (kdOf (kd x))).bind _ = _
      rw [hs, R.bind_ok', if_pos (sz_lt (by omega))]
      rw [List.append_assoc] at k1
      exact k1
theorem lcE {α : Type} {cl : Nat → List Bool → List D → CRes} {vs : List Nat} {t it c e : E} {xs : List α} {enc out : α → D} {cond kd : α → Bool} {ρ ρ1 base : Mp.Env} {ρx : α → Mp.Env} (hp : (vs.all fun v => plainS (getS ρ v)) = true) (hi : evI cl it ρ = .ok (xs.map enc) ρ1) (h1 : wipe ρ1 vs = base) (h2 : ∀ x ∈ xs, wipe (ρx x) vs = base) (h3 : ∀ x ∈ xs, evG cl t (enc x) .frz base = .ok () (ρx x)) (h4 : ∀ x ∈ xs, evT cl c (ρx x) = .ok (cond x) (ρx x)) (h5 : ∀ x ∈ xs, cond x = true → evE cl e (ρx x) = .ok (out x, kdOf (kd x)) (ρx x))
    (u1 : unwipe ρ1 ρ1 vs = ρ1) (u2 : ∀ x ∈ xs, unwipe ρ1 (ρx x) vs = ρ1) (hl : xs.length < 10000) : evE cl (.lc vs t it c e) ρ = .ok (.lst ((xs.filter cond).map out), .fr) ρ1 := by
  obtain ⟨ρ2, k1, k2⟩ := lcR (out := out) (kd := kd) xs [] ρ1 h1 h2 h3 h4 h5 (by rw [List.length_nil]; omega)
  rw [e_lc, if_pos hp, hi, R.bind_ok', k1, R.bind_ok']
  rcases k2 with rfl | ⟨x, hx, rfl⟩
  · rw [u1] <;> rfl
  · rw [u2 x hx] <;> rfl
/-! the same -/
theorem same_int (n : Nat) (x : Int) : callN T (n + 1) 15 [false, false] [.int x, .int x] = some (.bl true, false, []) := by
  rw [call_eq (T := T) (n := n) (f := 15) (fl := [false, false]) (ds := [.int x, .int x]) (df := d15) rfl rfl rfl rfl]
  simp [R.bind_ok', R.bind_no', R.of_some', R.fl_ok', Fl.bind_nx, Fl.bind_rt, s_skip, s_seq, s_asg, s_ex, s_ret, s_retn, s_ite, s_for, s_app, s_never, e_var, e_con, e_glo, e_tup, e_lst, e_neg, e_bin, e_cmp, e_cmp2, e_not, e_and, e_or, e_ife, e_idx, e_sl, e_call, e_callk, e_calf, e_calv, e_blt, e_isin, e_lc, l_nil, l_cons, a_nil, a_cons, a_ioa, p_nil, p_cons, o_nil, o_cons, t_not, t_and, t_or, t_nil, t_tr, i_rng1, i_rng2, i_enm, i_it, g_var, g_tup, g_idxF, g_idxN, gs_nil, gs_cons, Mp.init, initS, getS0, getS1, cur_f, cur_n, cur_p, settle_f, settle_n, settle_p, keep_f, keep_n, keep_p, kd_t, kd_f, tr_non, tr_bl, tr_int, tr_tup, tr_lst, tr_scr, ix_tup, ix_lst, sl_tup, sl_lst, b_len_t, b_len_l, b_len_s, b_tuple_t, b_tuple_l, b_list_t, b_list_l, b_int_i, b_int_b, b_abs, b_max, b_min, b_sum, b_all, b_any, bo_nil, bo_cons, in_nil, in_cons, isin_non, isin_bl, isin_int, isin_str, isin_tup, isin_lst, isinT, seq_t, seq_l, seq_s, own_v, own_o, own_i, own_u, pl_v, pl_u, wipe_n, wipe_c, unw_n, unw_c, fin_rt, fin_nx, out_n, out_t, out_f, six_none, six_some, Mp.ixN, storeIx, put_val, put_new, notIo_un, notIo_val, notIo_own, cmp_gt_int, cmp_lt_int, cmp_le_int, cmp_ge_int, cmp_eq_int, cmp_ne_int, bin_add_int, bin_sub_int, bin_mul_r, bin_mul_l, bin_mod_int, bin_fdiv_int, doCall, doCallF, argsD, iosOf, putOuts, setIo, Ar.isIo, Ar.d, bin_pow_int, bin_add_tup, eq_nil, is_non, isn_non, isNon_int, isNon_tup, isNon_lst, isNon_bl, isNon_str, isNon_non, sz_ok, sz_lt, s_ext, s_fst, s_par, m_nil, m_cons, puts_n, puts_c, e_fld, e_mk, e_isinc, isc_ins, ownL_o, ownL_i, lst_of, app_o, app_i, bin_mul_tup, bin_add_lst, eq_tup_nil, doMk, fldD, s_dst, e_dix, e_pop, e_dnew, e_lof1, e_lof2, e_rof1, e_rof2, e_bm, e_mkk, ownS_o, ownS_i, isLst_l, seqI_t, seqI_l, seqI_s, e_oeq, insB, othB, blR, d15]
theorem same_bl (n : Nat) (b : Bool) : callN T (n + 1) 15 [false, false] [.bl b, .bl b] = some (.bl true, false, []) := by
  cases b <;> kernel_rfl
theorem idx_tup_nat (xs : List D) (k : Nat) (h : k < xs.length) : idxD (.tup xs) (.int (k : Nat)) = some xs[k] := by
  show (Mp.ixN xs.length ((k : Nat) : Int)).bind _ = _
  have e : Mp.ixN xs.length ((k : Nat) : Int) = some k := by
    unfold Mp.ixN
    rw [if_pos (by omega), if_pos (by omega), Int.toNat_natCast]
  rw [e]
  exact List.getElem?_eq_getElem h
theorem bols_true : ∀ n : Nat, bolsOf ((List.range n).map fun _ => D.bl true) = some (List.replicate n true)
  | 0 => rfl
  | n + 1 => by
    rw [List.range_succ_eq_map, List.map_cons, List.map_map]
    show (bolsOf ((List.range n).map fun _ => D.bl true)).map (true :: ·) = _
    rw [bols_true n] <;> rfl
theorem rng1_ok {cl : Nat → List Bool → List D → CRes} {a : E} {m : Int} {k : Kd} {ρ ρ' : Mp.Env} (h : evE cl a ρ = .ok (.int m, k) ρ') (hm : inR m) : evI cl (.rng1 a) ρ = .ok (rngD 0 m) ρ' := by
  rw [i_rng1, h, R.bind_ok']
  exact if_pos hm
theorem fil_true {α : Type} (xs : List α) : xs.filter (fun _ => true) = xs := List.filter_eq_self.mpr fun _ _ => rfl
def smE : E := .lc [2] (.var 2) (.rng1 (.blt .len (.cons (.var 1) .nil))) .nil (.call 15 (.cons (.idx (.var 0) (.var 2)) (.cons (.idx (.var 1) (.var 2)) .nil)))
theorem same_tup (n : Nat) (xs : List D) (hl : xs.length < 1000) (h : ∀ x ∈ xs, callN T n 15 [false, false] [x, x] = some (.bl true, false, [])) : callN T (n + 1) 15 [false, false] [.tup xs, .tup xs] = some (.bl true, false, []) := by
  rw [call_eq (T := T) (n := n) (f := 15) (fl := [false, false]) (ds := [.tup xs, .tup xs]) (df := d15) rfl rfl rfl rfl]
  have hr : rngD 0 ((xs.length : Nat) : Int) = (List.range xs.length).map fun k => D.int (k : Nat) := by
    unfold rngD
    rw [show (((xs.length : Nat) : Int) - 0).toNat = xs.length by omega]
    exact List.map_congr_left fun i _ => by rw [Int.zero_add]
  have k := lcE (cl := callN T n) (vs := [2]) (t := .var 2) (it := .rng1 (.blt .len (.cons (.var 1) .nil))) (c := .nil) (e := .call 15 (.cons (.idx (.var 0) (.var 2)) (.cons (.idx (.var 1) (.var 2)) .nil))) (xs := List.range xs.length) (enc := fun k => .int (k : Nat)) (out := fun _ => .bl true) (cond := fun _ => true) (kd := fun _ => false) (ρ := [.val (.tup xs), .val (.tup xs), .un]) (ρ1 := [.val (.tup xs), .val (.tup xs), .un]) (base := [.val (.tup xs), .val (.tup xs), .un]) (ρx := fun k => [.val (.tup xs), .val (.tup xs), .val (.int (k : Nat))]) rfl (by rw [← hr]; exact rng1_ok (k := .frz) (by simp [R.bind_ok', R.bind_no', R.of_some', R.fl_ok', Fl.bind_nx, Fl.bind_rt, s_skip, s_seq, s_asg, s_ex, s_ret, s_retn, s_ite, s_for, s_app, s_never, e_var, e_con, e_glo, e_tup, e_lst, e_neg, e_bin, e_cmp, e_cmp2, e_not, e_and, e_or, e_ife, e_idx, e_sl, e_call, e_callk, e_calf, e_calv, e_blt, e_isin, e_lc, l_nil, l_cons, a_nil, a_cons, a_ioa, p_nil, p_cons, o_nil, o_cons, t_not, t_and, t_or, t_nil, t_tr, i_rng1, i_rng2, i_enm, i_it, g_var, g_tup, g_idxF, g_idxN, gs_nil, gs_cons, Mp.init, initS, getS0, getS1, cur_f, cur_n, cur_p, settle_f, settle_n, settle_p, keep_f, keep_n, keep_p, kd_t, kd_f, tr_non, tr_bl, tr_int, tr_tup, tr_lst, tr_scr, ix_tup, ix_lst, sl_tup, sl_lst, b_len_t, b_len_l, b_len_s, b_tuple_t, b_tuple_l, b_list_t, b_list_l, b_int_i, b_int_b, b_abs, b_max, b_min, b_sum, b_all, b_any, bo_nil, bo_cons, in_nil, in_cons, isin_non, isin_bl, isin_int, isin_str, isin_tup, isin_lst, isinT, seq_t, seq_l, seq_s, own_v, own_o, own_i, own_u, pl_v, pl_u, wipe_n, wipe_c, unw_n, unw_c, fin_rt, fin_nx, out_n, out_t, out_f, six_none, six_some, Mp.ixN, storeIx, put_val, put_new, notIo_un, notIo_val, notIo_own, cmp_gt_int, cmp_lt_int, cmp_le_int, cmp_ge_int, cmp_eq_int, cmp_ne_int, bin_add_int, bin_sub_int, bin_mul_r, bin_mul_l, bin_mod_int, bin_fdiv_int, doCall, doCallF, argsD, iosOf, putOuts, setIo, Ar.isIo, Ar.d, bin_pow_int, bin_add_tup, eq_nil, is_non, isn_non, isNon_int, isNon_tup, isNon_lst, isNon_bl, isNon_str, isNon_non, sz_ok, sz_lt, s_ext, s_fst, s_par, m_nil, m_cons, puts_n, puts_c, e_fld, e_mk, e_isinc, isc_ins, ownL_o, ownL_i, lst_of, app_o, app_i, bin_mul_tup, bin_add_lst, eq_tup_nil, doMk, fldD, s_dst, e_dix, e_pop, e_dnew, e_lof1, e_lof2, e_rof1, e_rof2, e_bm, e_mkk, ownS_o, ownS_i, isLst_l, seqI_t, seqI_l, seqI_s, e_oeq, insB, othB, blR]) ⟨by omega, by omega⟩) rfl (fun _ _ => rfl) (fun p _ => by rw [g_var]; exact put_val rfl (show (2 : Nat) < 3 by decide)) (fun _ _ => rfl) (fun k hk _ => by
    have hk' := List.mem_range.mp hk
    have h1 := idx_tup_nat xs k hk'
    have h2 := h xs[k] (List.getElem_mem hk')
    simp [R.bind_ok', R.bind_no', R.of_some', R.fl_ok', Fl.bind_nx, Fl.bind_rt, s_skip, s_seq, s_asg, s_ex, s_ret, s_retn, s_ite, s_for, s_app, s_never, e_var, e_con, e_glo, e_tup, e_lst, e_neg, e_bin, e_cmp, e_cmp2, e_not, e_and, e_or, e_ife, e_idx, e_sl, e_call, e_callk, e_calf, e_calv, e_blt, e_isin, e_lc, l_nil, l_cons, a_nil, a_cons, a_ioa, p_nil, p_cons, o_nil, o_cons, t_not, t_and, t_or, t_nil, t_tr, i_rng1, i_rng2, i_enm, i_it, g_var, g_tup, g_idxF, g_idxN, gs_nil, gs_cons, Mp.init, initS, getS0, getS1, cur_f, cur_n, cur_p, settle_f, settle_n, settle_p, keep_f, keep_n, keep_p, kd_t, kd_f, tr_non, tr_bl, tr_int, tr_tup, tr_lst, tr_scr, sl_tup, sl_lst, b_len_t, b_len_l, b_len_s, b_tuple_t, b_tuple_l, b_list_t, b_list_l, b_int_i, b_int_b, b_abs, b_max, b_min, b_sum, b_all, b_any, bo_nil, bo_cons, in_nil, in_cons, isin_non, isin_bl, isin_int, isin_str, isin_tup, isin_lst, isinT, seq_t, seq_l, seq_s, own_v, own_o, own_i, own_u, pl_v, pl_u, wipe_n, wipe_c, unw_n, unw_c, fin_rt, fin_nx, out_n, out_t, out_f, six_none, six_some, Mp.ixN, storeIx, put_val, put_new, notIo_un, notIo_val, notIo_own, cmp_gt_int, cmp_lt_int, cmp_le_int, cmp_ge_int, cmp_eq_int, cmp_ne_int, bin_add_int, bin_sub_int, bin_mul_r, bin_mul_l, bin_mod_int, bin_fdiv_int, doCall, doCallF, argsD, iosOf, putOuts, setIo, Ar.isIo, Ar.d, bin_pow_int, bin_add_tup, eq_nil, is_non, isn_non, isNon_int, isNon_tup, isNon_lst, isNon_bl, isNon_str, isNon_non, sz_ok, sz_lt, s_ext, s_fst, s_par, m_nil, m_cons, puts_n, puts_c, e_fld, e_mk, e_isinc, isc_ins, ownL_o, ownL_i, lst_of, app_o, app_i, bin_mul_tup, bin_add_lst, eq_tup_nil, doMk, fldD, s_dst, e_dix, e_pop, e_dnew, e_lof1, e_lof2, e_rof1, e_rof2, e_bm, e_mkk, ownS_o, ownS_i, isLst_l, seqI_t, seqI_l, seqI_s, e_oeq, insB, othB, blR, h1, h2]) rfl (fun _ _ => rfl) (by rw [List.length_range]; omega)
  rw [fil_true] at k
  have ka : bltD .all [.lst ((List.range xs.length).map fun _ => D.bl true)] = some (.bl true, false) := by
    show (bolsOf ((List.range xs.length).map fun _ => D.bl true)).map _ = _
    rw [bols_true]
    show some (D.bl ((List.replicate xs.length true).all id), false) = _
    have hall : (List.replicate xs.length true).all id = true := List.all_eq_true.mpr fun b hb => (List.mem_replicate.mp hb).2
    rw [hall]
  have hb : d15.body = .seq (.ite (.tr (.isin 3 (.var 1))) (.seq (.ite (.or (.not (.tr (.isin 3 (.var 0)))) (.tr (.cmp .ne (.blt .len (.cons (.var 0) .nil)) (.blt .len (.cons (.var 1) .nil))))) (.seq (.ret (.con (.bl false))) .skip) .skip) (.seq (.ret (.blt .all (.cons smE .nil))) .skip)) .skip) (match d15.body with | .seq _ b => b | _ => .skip) := rfl
  have hi : init d15 [.tup xs, .tup xs] = [.val (.tup xs), .val (.tup xs), .un] := rfl
  have hios : d15.ios = [false, false] := rfl
  have k' : evE (callN T n) smE [.val (.tup xs), .val (.tup xs), .un] = .ok (.lst ((List.range xs.length).map fun _ => .bl true), .fr) [.val (.tup xs), .val (.tup xs), .un] := k
  have kr : evS (callN T n) (.seq (.ret (.blt .all (.cons smE .nil))) .skip) [.val (.tup xs), .val (.tup xs), .un] = .rt (.bl true) false [.val (.tup xs), .val (.tup xs), .un] := by
    rw [s_seq, s_ret, e_blt, p_cons, k', R.bind_ok', p_nil, R.bind_ok', R.bind_ok']
    show (((R.of (bltD .all [.lst ((List.range xs.length).map fun _ => D.bl true)]) _).bind _).fl _).bind _ = _
    rw [ka] <;> rfl
  have k0 : evS (callN T n) (.ite (.or (.not (.tr (.isin 3 (.var 0)))) (.tr (.cmp .ne (.blt .len (.cons (.var 0) .nil)) (.blt .len (.cons (.var 1) .nil))))) (.seq (.ret (.con (.bl false))) .skip) .skip) [.val (.tup xs), .val (.tup xs), .un] = .nx [.val (.tup xs), .val (.tup xs), .un] := by simp [R.bind_ok', R.bind_no', R.of_some', R.fl_ok', Fl.bind_nx, Fl.bind_rt, s_skip, s_seq, s_asg, s_ex, s_ret, s_retn, s_ite, s_for, s_app, s_never, e_var, e_con, e_glo, e_tup, e_lst, e_neg, e_bin, e_cmp, e_cmp2, e_not, e_and, e_or, e_ife, e_idx, e_sl, e_call, e_callk, e_calf, e_calv, e_blt, e_isin, e_lc, l_nil, l_cons, a_nil, a_cons, a_ioa, p_nil, p_cons, o_nil, o_cons, t_not, t_and, t_or, t_nil, t_tr, i_rng1, i_rng2, i_enm, i_it, g_var, g_tup, g_idxF, g_idxN, gs_nil, gs_cons, Mp.init, initS, getS0, getS1, cur_f, cur_n, cur_p, settle_f, settle_n, settle_p, keep_f, keep_n, keep_p, kd_t, kd_f, tr_non, tr_bl, tr_int, tr_tup, tr_lst, tr_scr, ix_tup, ix_lst, sl_tup, sl_lst, b_len_t, b_len_l, b_len_s, b_tuple_t, b_tuple_l, b_list_t, b_list_l, b_int_i, b_int_b, b_abs, b_max, b_min, b_sum, b_all, b_any, bo_nil, bo_cons, in_nil, in_cons, isin_non, isin_bl, isin_int, isin_str, isin_tup, isin_lst, isinT, seq_t, seq_l, seq_s, own_v, own_o, own_i, own_u, pl_v, pl_u, wipe_n, wipe_c, unw_n, unw_c, fin_rt, fin_nx, out_n, out_t, out_f, six_none, six_some, Mp.ixN, storeIx, put_val, put_new, notIo_un, notIo_val, notIo_own, cmp_gt_int, cmp_lt_int, cmp_le_int, cmp_ge_int, cmp_eq_int, cmp_ne_int, bin_add_int, bin_sub_int, bin_mul_r, bin_mul_l, bin_mod_int, bin_fdiv_int, doCall, doCallF, argsD, iosOf, putOuts, setIo, Ar.isIo, Ar.d, bin_pow_int, bin_add_tup, eq_nil, is_non, isn_non, isNon_int, isNon_tup, isNon_lst, isNon_bl, isNon_str, isNon_non, sz_ok, sz_lt, s_ext, s_fst, s_par, m_nil, m_cons, puts_n, puts_c, e_fld, e_mk, e_isinc, isc_ins, ownL_o, ownL_i, lst_of, app_o, app_i, bin_mul_tup, bin_add_lst, eq_tup_nil, doMk, fldD, s_dst, e_dix, e_pop, e_dnew, e_lof1, e_lof2, e_rof1, e_rof2, e_bm, e_mkk, ownS_o, ownS_i, isLst_l, seqI_t, seqI_l, seqI_s, e_oeq, insB, othB, blR]
  have kt : evT (callN T n) (.tr (.isin 3 (.var 1))) [.val (.tup xs), .val (.tup xs), .un] = .ok true [.val (.tup xs), .val (.tup xs), .un] := by simp [R.bind_ok', R.bind_no', R.of_some', R.fl_ok', Fl.bind_nx, Fl.bind_rt, s_skip, s_seq, s_asg, s_ex, s_ret, s_retn, s_ite, s_for, s_app, s_never, e_var, e_con, e_glo, e_tup, e_lst, e_neg, e_bin, e_cmp, e_cmp2, e_not, e_and, e_or, e_ife, e_idx, e_sl, e_call, e_callk, e_calf, e_calv, e_blt, e_isin, e_lc, l_nil, l_cons, a_nil, a_cons, a_ioa, p_nil, p_cons, o_nil, o_cons, t_not, t_and, t_or, t_nil, t_tr, i_rng1, i_rng2, i_enm, i_it, g_var, g_tup, g_idxF, g_idxN, gs_nil, gs_cons, Mp.init, initS, getS0, getS1, cur_f, cur_n, cur_p, settle_f, settle_n, settle_p, keep_f, keep_n, keep_p, kd_t, kd_f, tr_non, tr_bl, tr_int, tr_tup, tr_lst, tr_scr, ix_tup, ix_lst, sl_tup, sl_lst, b_len_t, b_len_l, b_len_s, b_tuple_t, b_tuple_l, b_list_t, b_list_l, b_int_i, b_int_b, b_abs, b_max, b_min, b_sum, b_all, b_any, bo_nil, bo_cons, in_nil, in_cons, isin_non, isin_bl, isin_int, isin_str, isin_tup, isin_lst, isinT, seq_t, seq_l, seq_s, own_v, own_o, own_i, own_u, pl_v, pl_u, wipe_n, wipe_c, unw_n, unw_c, fin_rt, fin_nx, out_n, out_t, out_f, six_none, six_some, Mp.ixN, storeIx, put_val, put_new, notIo_un, notIo_val, notIo_own, cmp_gt_int, cmp_lt_int, cmp_le_int, cmp_ge_int, cmp_eq_int, cmp_ne_int, bin_add_int, bin_sub_int, bin_mul_r, bin_mul_l, bin_mod_int, bin_fdiv_int, doCall, doCallF, argsD, iosOf, putOuts, setIo, Ar.isIo, Ar.d, bin_pow_int, bin_add_tup, eq_nil, is_non, isn_non, isNon_int, isNon_tup, isNon_lst, isNon_bl, isNon_str, isNon_non, sz_ok, sz_lt, s_ext, s_fst, s_par, m_nil, m_cons, puts_n, puts_c, e_fld, e_mk, e_isinc, isc_ins, ownL_o, ownL_i, lst_of, app_o, app_i, bin_mul_tup, bin_add_lst, eq_tup_nil, doMk, fldD, s_dst, e_dix, e_pop, e_dnew, e_lof1, e_lof2, e_rof1, e_rof2, e_bm, e_mkk, ownS_o, ownS_i, isLst_l, seqI_t, seqI_l, seqI_s, e_oeq, insB, othB, blR]
  rw [hb, hi, hios, s_seq, s_ite, kt, R.fl_ok', if_pos rfl, s_seq, k0, Fl.bind_nx, kr]
  rfl
theorem same_pd (n : Nat) (p : P4) : callN T (n + 2) 15 [false, false] [pd p, pd p] = some (.bl true, false, []) := by
  refine same_tup (n + 1) _ (by simp) fun x hx => ?_
  have hx' : x = .int p.1 ∨ x = .int p.2.1 ∨ x = .int p.2.2.1 ∨ x = .int p.2.2.2 := by simpa using hx
  rcases hx' with rfl | rfl | rfl | rfl <;> exact same_int n _
theorem same_pds (n : Nat) (qs : List P4) (hl : qs.length < 1000) : callN T (n + 3) 15 [false, false] [.tup (qs.map pd), .tup (qs.map pd)] = some (.bl true, false, []) := by
  refine same_tup (n + 2) _ (by rw [List.length_map]; exact hl) fun x hx => ?_
  obtain ⟨p, _, rfl⟩ := List.mem_map.mp hx
  exact same_pd n p
theorem same_pz (n : Nat) (f : Int × Int) (qs : List P4) (t : Bool) (hl : qs.length < 1000) : callN T (n + 4) 15 [false, false] [pzD f qs t, pzD f qs t] = some (.bl true, false, []) := by
  refine same_tup (n + 3) _ (by simp) fun x hx => ?_
  have hx' : x = .int f.1 ∨ x = .int f.2 ∨ x = .tup (qs.map pd) ∨ x = .bl t := by simpa using hx
  rcases hx' with rfl | rfl | rfl | rfl
  · exact same_int (n + 2) _
  · exact same_int (n + 2) _
  · exact same_pds n qs hl
  · exact same_bl (n + 2) _
theorem same_five (n : Nat) (f : Int × Int) (qs : List P4) (t : Bool) (hl : qs.length < 1000) : callN T (n + 5) 15 [false, false] [.tup [.int f.1, .int f.2, .tup (qs.map pd), .bl t, pzD f qs t], .tup [.int f.1, .int f.2, .tup (qs.map pd), .bl t, pzD f qs t]] = some (.bl true, false, []) := by
  refine same_tup (n + 4) _ (by simp) fun x hx => ?_
  have hx' : x = .int f.1 ∨ x = .int f.2 ∨ x = .tup (qs.map pd) ∨ x = .bl t ∨ x = pzD f qs t := by simpa using hx
  rcases hx' with rfl | rfl | rfl | rfl | rfl
  · exact same_int (n + 3) _
  · exact same_int (n + 3) _
  · exact same_pds (n + 1) qs hl
  · exact same_bl (n + 3) _
  · exact same_pz n f qs t hl
theorem same_bools (n : Nat) (a b c d : Bool) : callN T (n + 2) 15 [false, false] [.tup [.bl a, .bl b, .bl c, .bl d], .tup [.bl a, .bl b, .bl c, .bl d]] = some (.bl true, false, []) := by
  refine same_tup (n + 1) _ (by simp) fun x hx => ?_
  have hx' : x = .bl a ∨ x = .bl b ∨ x = .bl c ∨ x = .bl d := by simpa using hx
  rcases hx' with rfl | rfl | rfl | rfl <;> exact same_bl n _
/-! puzzles compared -/
theorem fld_rows (f : Int × Int) (qs : List P4) (t : Bool) : fldD "rows" (PZ f qs t) = some (.int f.1) := by kernel_rfl
theorem fld_cols (f : Int × Int) (qs : List P4) (t : Bool) : fldD "columns" (PZ f qs t) = some (.int f.2) := by kernel_rfl
theorem fld_pcs (f : Int × Int) (qs : List P4) (t : Bool) : fldD "pieces" (PZ f qs t) = some (.tup (qs.map pd)) := by kernel_rfl
theorem fld_turn (f : Int × Int) (qs : List P4) (t : Bool) : fldD "turning" (PZ f qs t) = some (.bl t) := by kernel_rfl
theorem fld_parts (f : Int × Int) (qs : List P4) (t : Bool) : fldD "parts" (PZ f qs t) = some (pzD f qs t) := by kernel_rfl
theorem depthAll_pd : ∀ qs : List P4, PyData.depthAll (D.toPs (qs.map pd)) ≤ 4
  | [] => by simp [D.toPs, PyData.depthAll]
  | p :: qs => by
    have h1 := depthAll_pd qs
    have h2 : (pd p).toP.depth ≤ 4 := by simp [pd, D.toP, D.toPs, PyData.depth, PyData.depthAll]
    rw [List.map_cons, D.toPs, PyData.depthAll]
    omega
theorem pz_ok (f : Int × Int) (qs : List P4) (t : Bool) : (pzD f qs t).ok = true := by
  have h := plainAll_pd qs
  simp [pzD, D.ok, D.toP, D.toPs, PyData.plain, PyData.plainAll, h]
theorem pz_depth (f : Int × Int) (qs : List P4) (t : Bool) : (pzD f qs t).toP.depth ≤ 20 := by
  have h := depthAll_pd qs
  simp [pzD, D.toP, D.toPs, PyData.depth, PyData.depthAll]
  omega
def eqP (f g : Int × Int) (qs ps : List P4) (t u : Bool) : Bool := PyData.eqv (pzD f qs t).toP (pzD g ps u).toP
theorem eq_pz (f g : Int × Int) (qs ps : List P4) (t u : Bool) : cmpD .eq (pzD f qs t) (pzD g ps u) = some (eqP f g qs ps t u) := by
  show eqD _ _ = _
  unfold eqD
  rw [if_pos ⟨pz_ok f qs t, pz_ok g ps u, decide_eq_true (by have := Nat.min_le_left (pzD f qs t).toP.depth (pzD g ps u).toP.depth; have := pz_depth f qs t; omega)⟩]
  rfl
theorem eqv_pds : ∀ qs : List P4, PyData.eqvAll (D.toPs (qs.map pd)) (D.toPs (qs.map pd)) = true
  | [] => by simp [D.toPs, PyData.eqvAll]
  | p :: qs => by
    have h := eqv_pds qs
    have h2 : PyData.eqv (pd p).toP (pd p).toP = true := by simp [pd, D.toP, D.toPs, PyData.eqv, PyData.eqvAll]
    simp [D.toPs, PyData.eqvAll, h, h2]
theorem eqP_self (f : Int × Int) (qs : List P4) (t : Bool) : eqP f f qs qs t t = true := by
  have h := eqv_pds qs
  simp [eqP, pzD, D.toP, D.toPs, PyData.eqv, PyData.eqvAll, h]
theorem eqP_turn (f : Int × Int) (qs : List P4) (t : Bool) : eqP f f qs qs t (!t) = false := by
  cases t <;> simp [eqP, pzD, D.toP, D.toPs, PyData.eqv, PyData.eqvAll]
theorem eqP_swap (f : Int × Int) (qs : List P4) (t : Bool) (h : ¬ f.1 = f.2) : eqP f (f.2, f.1) qs qs t t = false := by
  simp [eqP, pzD, D.toP, D.toPs, PyData.eqv, PyData.eqvAll, h]
theorem isc_pz (f : Int × Int) (qs : List P4) (t : Bool) : isinC 0 (PZ f qs t) = some true := rfl
theorem isc_tup (f : Int × Int) (qs : List P4) (t : Bool) : isinC 0 (pzD f qs t) = some false := rfl
theorem ins_pz (f : Int × Int) (qs : List P4) (t : Bool) : insB 0 (PZ f qs t) = true := rfl
theorem oth_pz (f : Int × Int) (qs : List P4) (t : Bool) : othB 0 (PZ f qs t) = true := rfl
theorem oth_tup (f : Int × Int) (qs : List P4) (t : Bool) : othB 0 (pzD f qs t) = true := rfl
theorem eqm_ok (n : Nat) (f g : Int × Int) (qs ps : List P4) (t u : Bool) : callN T (n + 1) 24 [false, false] [PZ f qs t, PZ g ps u] = some (.bl (eqP f g qs ps t u), false, []) := by
  have k := eq_pz f g qs ps t u
  rw [call_eq (T := T) (n := n) (f := 24) (fl := [false, false]) (ds := [PZ f qs t, PZ g ps u]) (df := d24) rfl rfl rfl rfl]
  simp [R.bind_ok', R.bind_no', R.of_some', R.fl_ok', Fl.bind_nx, Fl.bind_rt, s_skip, s_seq, s_asg, s_ex, s_ret, s_retn, s_ite, s_for, s_app, s_never, e_var, e_con, e_glo, e_tup, e_lst, e_neg, e_bin, e_cmp, e_cmp2, e_not, e_and, e_or, e_ife, e_idx, e_sl, e_call, e_callk, e_calf, e_calv, e_blt, e_isin, e_lc, l_nil, l_cons, a_nil, a_cons, a_ioa, p_nil, p_cons, o_nil, o_cons, t_not, t_and, t_or, t_nil, t_tr, i_rng1, i_rng2, i_enm, i_it, g_var, g_tup, g_idxF, g_idxN, gs_nil, gs_cons, Mp.init, initS, getS0, getS1, cur_f, cur_n, cur_p, settle_f, settle_n, settle_p, keep_f, keep_n, keep_p, kd_t, kd_f, tr_non, tr_bl, tr_int, tr_tup, tr_lst, tr_scr, ix_tup, ix_lst, sl_tup, sl_lst, b_len_t, b_len_l, b_len_s, b_tuple_t, b_tuple_l, b_list_t, b_list_l, b_int_i, b_int_b, b_abs, b_max, b_min, b_sum, b_all, b_any, bo_nil, bo_cons, in_nil, in_cons, isin_non, isin_bl, isin_int, isin_str, isin_tup, isin_lst, isinT, seq_t, seq_l, seq_s, own_v, own_o, own_i, own_u, pl_v, pl_u, wipe_n, wipe_c, unw_n, unw_c, fin_rt, fin_nx, out_n, out_t, out_f, six_none, six_some, Mp.ixN, storeIx, put_val, put_new, notIo_un, notIo_val, notIo_own, cmp_gt_int, cmp_lt_int, cmp_le_int, cmp_ge_int, cmp_eq_int, cmp_ne_int, bin_add_int, bin_sub_int, bin_mul_r, bin_mul_l, bin_mod_int, bin_fdiv_int, doCall, doCallF, argsD, iosOf, putOuts, setIo, Ar.isIo, Ar.d, bin_pow_int, bin_add_tup, eq_nil, is_non, isn_non, isNon_int, isNon_tup, isNon_lst, isNon_bl, isNon_str, isNon_non, sz_ok, sz_lt, s_ext, s_fst, s_par, m_nil, m_cons, puts_n, puts_c, e_fld, e_mk, e_isinc, isc_ins, ownL_o, ownL_i, lst_of, app_o, app_i, bin_mul_tup, bin_add_lst, eq_tup_nil, doMk, s_dst, e_dix, e_pop, e_dnew, e_lof1, e_lof2, e_rof1, e_rof2, e_bm, e_mkk, ownS_o, ownS_i, isLst_l, seqI_t, seqI_l, seqI_s, e_oeq, insB, othB, blR, d24, isc_pz, fld_parts, k]
theorem eqt_ok (n : Nat) (f g : Int × Int) (qs ps : List P4) (t u : Bool) : callN T (n + 1) 24 [false, false] [PZ f qs t, pzD g ps u] = some (.bl false, false, []) := by
  rw [call_eq (T := T) (n := n) (f := 24) (fl := [false, false]) (ds := [PZ f qs t, pzD g ps u]) (df := d24) rfl rfl rfl rfl]
  simp [R.bind_ok', R.bind_no', R.of_some', R.fl_ok', Fl.bind_nx, Fl.bind_rt, s_skip, s_seq, s_asg, s_ex, s_ret, s_retn, s_ite, s_for, s_app, s_never, e_var, e_con, e_glo, e_tup, e_lst, e_neg, e_bin, e_cmp, e_cmp2, e_not, e_and, e_or, e_ife, e_idx, e_sl, e_call, e_callk, e_calf, e_calv, e_blt, e_isin, e_lc, l_nil, l_cons, a_nil, a_cons, a_ioa, p_nil, p_cons, o_nil, o_cons, t_not, t_and, t_or, t_nil, t_tr, i_rng1, i_rng2, i_enm, i_it, g_var, g_tup, g_idxF, g_idxN, gs_nil, gs_cons, Mp.init, initS, getS0, getS1, cur_f, cur_n, cur_p, settle_f, settle_n, settle_p, keep_f, keep_n, keep_p, kd_t, kd_f, tr_non, tr_bl, tr_int, tr_tup, tr_lst, tr_scr, ix_tup, ix_lst, sl_tup, sl_lst, b_len_t, b_len_l, b_len_s, b_tuple_t, b_tuple_l, b_list_t, b_list_l, b_int_i, b_int_b, b_abs, b_max, b_min, b_sum, b_all, b_any, bo_nil, bo_cons, in_nil, in_cons, isin_non, isin_bl, isin_int, isin_str, isin_tup, isin_lst, isinT, seq_t, seq_l, seq_s, own_v, own_o, own_i, own_u, pl_v, pl_u, wipe_n, wipe_c, unw_n, unw_c, fin_rt, fin_nx, out_n, out_t, out_f, six_none, six_some, Mp.ixN, storeIx, put_val, put_new, notIo_un, notIo_val, notIo_own, cmp_gt_int, cmp_lt_int, cmp_le_int, cmp_ge_int, cmp_eq_int, cmp_ne_int, bin_add_int, bin_sub_int, bin_mul_r, bin_mul_l, bin_mod_int, bin_fdiv_int, doCall, doCallF, argsD, iosOf, putOuts, setIo, Ar.isIo, Ar.d, bin_pow_int, bin_add_tup, eq_nil, is_non, isn_non, isNon_int, isNon_tup, isNon_lst, isNon_bl, isNon_str, isNon_non, sz_ok, sz_lt, s_ext, s_fst, s_par, m_nil, m_cons, puts_n, puts_c, e_fld, e_mk, e_isinc, isc_ins, ownL_o, ownL_i, lst_of, app_o, app_i, bin_mul_tup, bin_add_lst, eq_tup_nil, doMk, s_dst, e_dix, e_pop, e_dnew, e_lof1, e_lof2, e_rof1, e_rof2, e_bm, e_mkk, ownS_o, ownS_i, isLst_l, seqI_t, seqI_l, seqI_s, e_oeq, insB, othB, blR, d24, isc_tup]
theorem Right.swap {f : Int × Int} {qs : List P4} (h : Right f 6 qs) : Right (f.2, f.1) 6 qs := by
  refine ⟨?_, h.ok, by rw [h.len]; exact Nat.mul_comm _ _, h.pw⟩
  have key : ∀ g ∈ fits 6, (g.2, g.1) ∈ fits 6 := by decide
  exact key f h.fr
end K01

set_option maxHeartbeats 4000000
set_option maxRecDepth 10000
namespace K01
open PySem Mp
/-! the law -/
def rtB : S := match d21.body with
  | .seq (.for_ _ _ b) _ => b
  | _ => .skip
abbrev rE (a s c : Int) (s1 s2 s3 s4 : Mp.Slot) : Mp.Env := [.io (bowl a s c), s1, s2, s3, s4]
theorem idx_pz0 (f : Int × Int) (qs : List P4) (t : Bool) : idxD (pzD f qs t) (.int 0) = some (.int f.1) := rfl
theorem idx_pz1 (f : Int × Int) (qs : List P4) (t : Bool) : idxD (pzD f qs t) (.int 1) = some (.int f.2) := rfl
theorem idx_pz2 (f : Int × Int) (qs : List P4) (t : Bool) : idxD (pzD f qs t) (.int 2) = some (.tup (qs.map pd)) := rfl
theorem idx_pz3 (f : Int × Int) (qs : List P4) (t : Bool) : idxD (pzD f qs t) (.int 3) = some (.bl t) := rfl
theorem add_pz (f : Int × Int) (qs : List P4) (t : Bool) : binD .add (pzD f qs t) (.tup [pzD f qs t]) = some (.tup [.int f.1, .int f.2, .tup (qs.map pd), .bl t, pzD f qs t], false) := bin_add_tup (a := [.int f.1, .int f.2, .tup (qs.map pd), .bl t]) (b := [pzD f qs t]) (sz_ok (by simp))
abbrev FLs : List Str := ["rows", "columns", "pieces", "turning", "parts"]
def mkA : E := .mkk 0 23 FLs [3, 2, 1, 0] .nil (.cons (.idx (.var 2) (.con (.int 3))) (.cons (.idx (.var 2) (.con (.int 2))) (.cons (.idx (.var 2) (.con (.int 1))) (.cons (.idx (.var 2) (.con (.int 0))) .nil))))
def t1E : E := .call 15 (.cons (.tup (.cons (.fld (.var 4) "rows") (.cons (.fld (.var 4) "columns") (.cons (.fld (.var 4) "pieces") (.cons (.fld (.var 4) "turning") (.cons (.fld (.var 4) "parts") .nil)))))) (.cons (.bin .add (.var 2) (.tup (.cons (.var 2) .nil))) .nil))
def o1E : E := .oeq false 0 24 (.var 4) (.call 20 (.cons (.var 2) .nil))
def o2E : E := .oeq false 0 24 (.var 4) (.call 20 (.cons (.var 3) .nil))
def o3E : E := .oeq false 0 24 (.var 4) (.var 2)
def o4E : E := .oeq true 0 24 (.var 4) (.call 20 (.cons (.var 2) .nil))
def o5E : E := .oeq false 0 24 (.var 4) (.mk 0 23 FLs (.cons (.idx (.var 2) (.con (.int 0))) (.cons (.idx (.var 2) (.con (.int 1))) (.cons (.idx (.var 2) (.con (.int 2))) (.cons (.not (.tr (.idx (.var 2) (.con (.int 3))))) .nil)))))
def o6E : E := .oeq false 0 24 (.var 4) (.mk 0 23 FLs (.cons (.idx (.var 2) (.con (.int 1))) (.cons (.idx (.var 2) (.con (.int 0))) (.cons (.idx (.var 2) (.con (.int 2))) (.cons (.idx (.var 2) (.con (.int 3))) .nil)))))
theorem right_turn (n : Nat) (a s c x : Int) (s2 s3 s4 : Mp.Slot) (n2 : notIo s2 = true) (n3 : notIo s3 = true) (n4 : notIo s4 = true) : ∃ a' s' c' u2 u3 u4, notIo u2 = true ∧ notIo u3 = true ∧ notIo u4 = true ∧
    evS (callN T (n + 12)) rtB (rE a s c (.val (.int x)) s2 s3 s4) = .nx (rE a' s' c' (.val (.int x)) u2 u3 u4) := by
  obtain ⟨a1, b1, c1, f, t, qs, hr, e1⟩ := puzzle_ok (n + 8) a s c 6 (by decide)
  obtain ⟨a2, b2, c2, g, u, ps, hr2, e2⟩ := puzzle_ok (n + 8) a1 b1 c1 2 (by decide)
  obtain ⟨q1, q2, q3, q4, q5, q6, q7, q8⟩ := hr.bd
  have i1 := init_ok (n + 2) f 6 qs t hr
  have i2 := init_ok (n + 2) f 6 qs (!t) ⟨hr.fr, hr.ok, hr.len, hr.pw⟩
  have i3 := init_ok (n + 2) (f.2, f.1) 6 qs t hr.swap
  have m1 := made_ok (n + 1) f 6 qs t hr
  have m2 := made_ok (n + 1) g 2 ps u hr2
  have v1 := eqm_ok (n + 11) f f qs qs t t
  have v2 := eqm_ok (n + 11) f g qs ps t u
  have v3 := eqt_ok (n + 11) f f qs qs t t
  have v5 := eqm_ok (n + 11) f f qs qs t (!t)
  have v6 := eqm_ok (n + 11) f (f.2, f.1) qs qs t t
  have w1 := same_five (n + 7) f qs t (by omega)
  have w2 := same_bools (n + 10) true (eqP f g qs ps t u) false false
  have e := eq_pz f g qs ps t u
  rw [eqP_self] at v1
  rw [eqP_turn] at v5
  let ρ := rE a2 b2 c2 (.val (.int x)) (.val (pzD f qs t)) (.val (pzD g ps u)) (.val (PZ f qs t))
  have k1 : evE (callN T (n + 12)) o1E ρ = .ok (.bl true, .frz) ρ := by
    simp [R.bind_ok', R.bind_no', R.of_some', R.fl_ok', Fl.bind_nx, Fl.bind_rt, s_skip, s_seq, s_asg, s_ex, s_ret, s_retn, s_ite, s_for, s_app, s_never, e_var, e_con, e_glo, e_tup, e_lst, e_neg, e_bin, e_cmp, e_cmp2, e_not, e_and, e_or, e_ife, e_idx, e_sl, e_call, e_callk, e_calf, e_calv, e_blt, e_isin, e_lc, l_nil, l_cons, a_nil, a_cons, a_ioa, p_nil, p_cons, o_nil, o_cons, t_not, t_and, t_or, t_nil, t_tr, i_rng1, i_rng2, i_enm, i_it, g_var, g_tup, g_idxF, g_idxN, gs_nil, gs_cons, Mp.init, initS, getS0, getS1, cur_f, cur_n, cur_p, settle_f, settle_n, settle_p, keep_f, keep_n, keep_p, kd_t, kd_f, tr_non, tr_bl, tr_int, tr_tup, tr_lst, tr_scr, ix_tup, ix_lst, sl_tup, sl_lst, b_len_t, b_len_l, b_len_s, b_tuple_t, b_tuple_l, b_list_t, b_list_l, b_int_i, b_int_b, b_abs, b_max, b_min, b_sum, b_all, b_any, bo_nil, bo_cons, in_nil, in_cons, isin_non, isin_bl, isin_int, isin_str, isin_tup, isin_lst, isinT, seq_t, seq_l, seq_s, own_v, own_o, own_i, own_u, pl_v, pl_u, wipe_n, wipe_c, unw_n, unw_c, fin_rt, fin_nx, out_n, out_t, out_f, six_none, six_some, Mp.ixN, storeIx, put_val, put_new, notIo_un, notIo_val, notIo_own, cmp_gt_int, cmp_lt_int, cmp_le_int, cmp_ge_int, cmp_eq_int, cmp_ne_int, bin_add_int, bin_sub_int, bin_mul_r, bin_mul_l, bin_mod_int, bin_fdiv_int, doCall, doCallF, argsD, iosOf, putOuts, setIo, Ar.isIo, Ar.d, bin_pow_int, bin_add_tup, eq_nil, is_non, isn_non, isNon_int, isNon_tup, isNon_lst, isNon_bl, isNon_str, isNon_non, sz_ok, sz_lt, s_ext, s_fst, s_par, m_nil, m_cons, puts_n, puts_c, e_fld, e_mk, e_isinc, isc_ins, ownL_o, ownL_i, lst_of, app_o, app_i, bin_mul_tup, bin_add_lst, eq_tup_nil, doMk, s_dst, e_dix, e_pop, e_dnew, e_lof1, e_lof2, e_rof1, e_rof2, e_bm, e_mkk, ownS_o, ownS_i, isLst_l, seqI_t, seqI_l, seqI_s, e_oeq, blR, o1E, ρ, rE, m1, ins_pz, oth_pz, v1]
  have k2 : evE (callN T (n + 12)) o2E ρ = .ok (.bl (eqP f g qs ps t u), .frz) ρ := by
    simp [R.bind_ok', R.bind_no', R.of_some', R.fl_ok', Fl.bind_nx, Fl.bind_rt, s_skip, s_seq, s_asg, s_ex, s_ret, s_retn, s_ite, s_for, s_app, s_never, e_var, e_con, e_glo, e_tup, e_lst, e_neg, e_bin, e_cmp, e_cmp2, e_not, e_and, e_or, e_ife, e_idx, e_sl, e_call, e_callk, e_calf, e_calv, e_blt, e_isin, e_lc, l_nil, l_cons, a_nil, a_cons, a_ioa, p_nil, p_cons, o_nil, o_cons, t_not, t_and, t_or, t_nil, t_tr, i_rng1, i_rng2, i_enm, i_it, g_var, g_tup, g_idxF, g_idxN, gs_nil, gs_cons, Mp.init, initS, getS0, getS1, cur_f, cur_n, cur_p, settle_f, settle_n, settle_p, keep_f, keep_n, keep_p, kd_t, kd_f, tr_non, tr_bl, tr_int, tr_tup, tr_lst, tr_scr, ix_tup, ix_lst, sl_tup, sl_lst, b_len_t, b_len_l, b_len_s, b_tuple_t, b_tuple_l, b_list_t, b_list_l, b_int_i, b_int_b, b_abs, b_max, b_min, b_sum, b_all, b_any, bo_nil, bo_cons, in_nil, in_cons, isin_non, isin_bl, isin_int, isin_str, isin_tup, isin_lst, isinT, seq_t, seq_l, seq_s, own_v, own_o, own_i, own_u, pl_v, pl_u, wipe_n, wipe_c, unw_n, unw_c, fin_rt, fin_nx, out_n, out_t, out_f, six_none, six_some, Mp.ixN, storeIx, put_val, put_new, notIo_un, notIo_val, notIo_own, cmp_gt_int, cmp_lt_int, cmp_le_int, cmp_ge_int, cmp_eq_int, cmp_ne_int, bin_add_int, bin_sub_int, bin_mul_r, bin_mul_l, bin_mod_int, bin_fdiv_int, doCall, doCallF, argsD, iosOf, putOuts, setIo, Ar.isIo, Ar.d, bin_pow_int, bin_add_tup, eq_nil, is_non, isn_non, isNon_int, isNon_tup, isNon_lst, isNon_bl, isNon_str, isNon_non, sz_ok, sz_lt, s_ext, s_fst, s_par, m_nil, m_cons, puts_n, puts_c, e_fld, e_mk, e_isinc, isc_ins, ownL_o, ownL_i, lst_of, app_o, app_i, bin_mul_tup, bin_add_lst, eq_tup_nil, doMk, s_dst, e_dix, e_pop, e_dnew, e_lof1, e_lof2, e_rof1, e_rof2, e_bm, e_mkk, ownS_o, ownS_i, isLst_l, seqI_t, seqI_l, seqI_s, e_oeq, blR, o2E, ρ, rE, m2, ins_pz, oth_pz, v2]
  have k3 : evE (callN T (n + 12)) o3E ρ = .ok (.bl false, .frz) ρ := by
    simp [R.bind_ok', R.bind_no', R.of_some', R.fl_ok', Fl.bind_nx, Fl.bind_rt, s_skip, s_seq, s_asg, s_ex, s_ret, s_retn, s_ite, s_for, s_app, s_never, e_var, e_con, e_glo, e_tup, e_lst, e_neg, e_bin, e_cmp, e_cmp2, e_not, e_and, e_or, e_ife, e_idx, e_sl, e_call, e_callk, e_calf, e_calv, e_blt, e_isin, e_lc, l_nil, l_cons, a_nil, a_cons, a_ioa, p_nil, p_cons, o_nil, o_cons, t_not, t_and, t_or, t_nil, t_tr, i_rng1, i_rng2, i_enm, i_it, g_var, g_tup, g_idxF, g_idxN, gs_nil, gs_cons, Mp.init, initS, getS0, getS1, cur_f, cur_n, cur_p, settle_f, settle_n, settle_p, keep_f, keep_n, keep_p, kd_t, kd_f, tr_non, tr_bl, tr_int, tr_tup, tr_lst, tr_scr, ix_tup, ix_lst, sl_tup, sl_lst, b_len_t, b_len_l, b_len_s, b_tuple_t, b_tuple_l, b_list_t, b_list_l, b_int_i, b_int_b, b_abs, b_max, b_min, b_sum, b_all, b_any, bo_nil, bo_cons, in_nil, in_cons, isin_non, isin_bl, isin_int, isin_str, isin_tup, isin_lst, isinT, seq_t, seq_l, seq_s, own_v, own_o, own_i, own_u, pl_v, pl_u, wipe_n, wipe_c, unw_n, unw_c, fin_rt, fin_nx, out_n, out_t, out_f, six_none, six_some, Mp.ixN, storeIx, put_val, put_new, notIo_un, notIo_val, notIo_own, cmp_gt_int, cmp_lt_int, cmp_le_int, cmp_ge_int, cmp_eq_int, cmp_ne_int, bin_add_int, bin_sub_int, bin_mul_r, bin_mul_l, bin_mod_int, bin_fdiv_int, doCall, doCallF, argsD, iosOf, putOuts, setIo, Ar.isIo, Ar.d, bin_pow_int, bin_add_tup, eq_nil, is_non, isn_non, isNon_int, isNon_tup, isNon_lst, isNon_bl, isNon_str, isNon_non, sz_ok, sz_lt, s_ext, s_fst, s_par, m_nil, m_cons, puts_n, puts_c, e_fld, e_mk, e_isinc, isc_ins, ownL_o, ownL_i, lst_of, app_o, app_i, bin_mul_tup, bin_add_lst, eq_tup_nil, doMk, s_dst, e_dix, e_pop, e_dnew, e_lof1, e_lof2, e_rof1, e_rof2, e_bm, e_mkk, ownS_o, ownS_i, isLst_l, seqI_t, seqI_l, seqI_s, e_oeq, blR, o3E, ρ, rE, ins_pz, oth_tup, v3]
  have k4 : evE (callN T (n + 12)) o4E ρ = .ok (.bl false, .frz) ρ := by
    simp [R.bind_ok', R.bind_no', R.of_some', R.fl_ok', Fl.bind_nx, Fl.bind_rt, s_skip, s_seq, s_asg, s_ex, s_ret, s_retn, s_ite, s_for, s_app, s_never, e_var, e_con, e_glo, e_tup, e_lst, e_neg, e_bin, e_cmp, e_cmp2, e_not, e_and, e_or, e_ife, e_idx, e_sl, e_call, e_callk, e_calf, e_calv, e_blt, e_isin, e_lc, l_nil, l_cons, a_nil, a_cons, a_ioa, p_nil, p_cons, o_nil, o_cons, t_not, t_and, t_or, t_nil, t_tr, i_rng1, i_rng2, i_enm, i_it, g_var, g_tup, g_idxF, g_idxN, gs_nil, gs_cons, Mp.init, initS, getS0, getS1, cur_f, cur_n, cur_p, settle_f, settle_n, settle_p, keep_f, keep_n, keep_p, kd_t, kd_f, tr_non, tr_bl, tr_int, tr_tup, tr_lst, tr_scr, ix_tup, ix_lst, sl_tup, sl_lst, b_len_t, b_len_l, b_len_s, b_tuple_t, b_tuple_l, b_list_t, b_list_l, b_int_i, b_int_b, b_abs, b_max, b_min, b_sum, b_all, b_any, bo_nil, bo_cons, in_nil, in_cons, isin_non, isin_bl, isin_int, isin_str, isin_tup, isin_lst, isinT, seq_t, seq_l, seq_s, own_v, own_o, own_i, own_u, pl_v, pl_u, wipe_n, wipe_c, unw_n, unw_c, fin_rt, fin_nx, out_n, out_t, out_f, six_none, six_some, Mp.ixN, storeIx, put_val, put_new, notIo_un, notIo_val, notIo_own, cmp_gt_int, cmp_lt_int, cmp_le_int, cmp_ge_int, cmp_eq_int, cmp_ne_int, bin_add_int, bin_sub_int, bin_mul_r, bin_mul_l, bin_mod_int, bin_fdiv_int, doCall, doCallF, argsD, iosOf, putOuts, setIo, Ar.isIo, Ar.d, bin_pow_int, bin_add_tup, eq_nil, is_non, isn_non, isNon_int, isNon_tup, isNon_lst, isNon_bl, isNon_str, isNon_non, sz_ok, sz_lt, s_ext, s_fst, s_par, m_nil, m_cons, puts_n, puts_c, e_fld, e_mk, e_isinc, isc_ins, ownL_o, ownL_i, lst_of, app_o, app_i, bin_mul_tup, bin_add_lst, eq_tup_nil, doMk, s_dst, e_dix, e_pop, e_dnew, e_lof1, e_lof2, e_rof1, e_rof2, e_bm, e_mkk, ownS_o, ownS_i, isLst_l, seqI_t, seqI_l, seqI_s, e_oeq, blR, o4E, ρ, rE, m1, ins_pz, oth_pz, v1]
  have k5 : evE (callN T (n + 12)) o5E ρ = .ok (.bl false, .frz) ρ := by
    simp [R.bind_ok', R.bind_no', R.of_some', R.fl_ok', Fl.bind_nx, Fl.bind_rt, s_skip, s_seq, s_asg, s_ex, s_ret, s_retn, s_ite, s_for, s_app, s_never, e_var, e_con, e_glo, e_tup, e_lst, e_neg, e_bin, e_cmp, e_cmp2, e_not, e_and, e_or, e_ife, e_idx, e_sl, e_call, e_callk, e_calf, e_calv, e_blt, e_isin, e_lc, l_nil, l_cons, a_nil, a_cons, a_ioa, p_nil, p_cons, o_nil, o_cons, t_not, t_and, t_or, t_nil, t_tr, i_rng1, i_rng2, i_enm, i_it, g_var, g_tup, g_idxF, g_idxN, gs_nil, gs_cons, Mp.init, initS, getS0, getS1, cur_f, cur_n, cur_p, settle_f, settle_n, settle_p, keep_f, keep_n, keep_p, kd_t, kd_f, tr_non, tr_bl, tr_int, tr_tup, tr_lst, tr_scr, sl_tup, sl_lst, b_len_t, b_len_l, b_len_s, b_tuple_t, b_tuple_l, b_list_t, b_list_l, b_int_i, b_int_b, b_abs, b_max, b_min, b_sum, b_all, b_any, bo_nil, bo_cons, in_nil, in_cons, isin_non, isin_bl, isin_int, isin_str, isin_tup, isin_lst, isinT, seq_t, seq_l, seq_s, own_v, own_o, own_i, own_u, pl_v, pl_u, wipe_n, wipe_c, unw_n, unw_c, fin_rt, fin_nx, out_n, out_t, out_f, six_none, six_some, Mp.ixN, storeIx, put_val, put_new, notIo_un, notIo_val, notIo_own, cmp_gt_int, cmp_lt_int, cmp_le_int, cmp_ge_int, cmp_eq_int, cmp_ne_int, bin_add_int, bin_sub_int, bin_mul_r, bin_mul_l, bin_mod_int, bin_fdiv_int, doCall, doCallF, argsD, iosOf, putOuts, setIo, Ar.isIo, Ar.d, bin_pow_int, bin_add_tup, eq_nil, is_non, isn_non, isNon_int, isNon_tup, isNon_lst, isNon_bl, isNon_str, isNon_non, sz_ok, sz_lt, s_ext, s_fst, s_par, m_nil, m_cons, puts_n, puts_c, e_fld, e_mk, e_isinc, isc_ins, ownL_o, ownL_i, lst_of, app_o, app_i, bin_mul_tup, bin_add_lst, eq_tup_nil, doMk, s_dst, e_dix, e_pop, e_dnew, e_lof1, e_lof2, e_rof1, e_rof2, e_bm, e_mkk, ownS_o, ownS_i, isLst_l, seqI_t, seqI_l, seqI_s, e_oeq, blR, o5E, ρ, rE, i2, idx_pz0, idx_pz1, idx_pz2, idx_pz3, ins_pz, oth_pz, v5]
  have k6 : ¬ f.1 = f.2 → evE (callN T (n + 12)) o6E ρ = .ok (.bl false, .frz) ρ := fun h => by
    rw [eqP_swap f qs t h] at v6
    simp [R.bind_ok', R.bind_no', R.of_some', R.fl_ok', Fl.bind_nx, Fl.bind_rt, s_skip, s_seq, s_asg, s_ex, s_ret, s_retn, s_ite, s_for, s_app, s_never, e_var, e_con, e_glo, e_tup, e_lst, e_neg, e_bin, e_cmp, e_cmp2, e_not, e_and, e_or, e_ife, e_idx, e_sl, e_call, e_callk, e_calf, e_calv, e_blt, e_isin, e_lc, l_nil, l_cons, a_nil, a_cons, a_ioa, p_nil, p_cons, o_nil, o_cons, t_not, t_and, t_or, t_nil, t_tr, i_rng1, i_rng2, i_enm, i_it, g_var, g_tup, g_idxF, g_idxN, gs_nil, gs_cons, Mp.init, initS, getS0, getS1, cur_f, cur_n, cur_p, settle_f, settle_n, settle_p, keep_f, keep_n, keep_p, kd_t, kd_f, tr_non, tr_bl, tr_int, tr_tup, tr_lst, tr_scr, sl_tup, sl_lst, b_len_t, b_len_l, b_len_s, b_tuple_t, b_tuple_l, b_list_t, b_list_l, b_int_i, b_int_b, b_abs, b_max, b_min, b_sum, b_all, b_any, bo_nil, bo_cons, in_nil, in_cons, isin_non, isin_bl, isin_int, isin_str, isin_tup, isin_lst, isinT, seq_t, seq_l, seq_s, own_v, own_o, own_i, own_u, pl_v, pl_u, wipe_n, wipe_c, unw_n, unw_c, fin_rt, fin_nx, out_n, out_t, out_f, six_none, six_some, Mp.ixN, storeIx, put_val, put_new, notIo_un, notIo_val, notIo_own, cmp_gt_int, cmp_lt_int, cmp_le_int, cmp_ge_int, cmp_eq_int, cmp_ne_int, bin_add_int, bin_sub_int, bin_mul_r, bin_mul_l, bin_mod_int, bin_fdiv_int, doCall, doCallF, argsD, iosOf, putOuts, setIo, Ar.isIo, Ar.d, bin_pow_int, bin_add_tup, eq_nil, is_non, isn_non, isNon_int, isNon_tup, isNon_lst, isNon_bl, isNon_str, isNon_non, sz_ok, sz_lt, s_ext, s_fst, s_par, m_nil, m_cons, puts_n, puts_c, e_fld, e_mk, e_isinc, isc_ins, ownL_o, ownL_i, lst_of, app_o, app_i, bin_mul_tup, bin_add_lst, eq_tup_nil, doMk, s_dst, e_dix, e_pop, e_dnew, e_lof1, e_lof2, e_rof1, e_rof2, e_bm, e_mkk, ownS_o, ownS_i, isLst_l, seqI_t, seqI_l, seqI_s, e_oeq, blR, o6E, ρ, rE, i3, idx_pz0, idx_pz1, idx_pz2, idx_pz3, ins_pz, oth_pz, v6]
  have kt : evE (callN T (n + 12)) t1E ρ = .ok (.bl true, .frz) ρ := by
    have ha := add_pz f qs t
    simp [R.bind_ok', R.bind_no', R.of_some', R.fl_ok', Fl.bind_nx, Fl.bind_rt, s_skip, s_seq, s_asg, s_ex, s_ret, s_retn, s_ite, s_for, s_app, s_never, e_var, e_con, e_glo, e_tup, e_lst, e_neg, e_bin, e_cmp, e_cmp2, e_not, e_and, e_or, e_ife, e_idx, e_sl, e_call, e_callk, e_calf, e_calv, e_blt, e_isin, e_lc, l_nil, l_cons, a_nil, a_cons, a_ioa, p_nil, p_cons, o_nil, o_cons, t_not, t_and, t_or, t_nil, t_tr, i_rng1, i_rng2, i_enm, i_it, g_var, g_tup, g_idxF, g_idxN, gs_nil, gs_cons, Mp.init, initS, getS0, getS1, cur_f, cur_n, cur_p, settle_f, settle_n, settle_p, keep_f, keep_n, keep_p, kd_t, kd_f, tr_non, tr_bl, tr_int, tr_tup, tr_lst, tr_scr, sl_tup, sl_lst, b_len_t, b_len_l, b_len_s, b_tuple_t, b_tuple_l, b_list_t, b_list_l, b_int_i, b_int_b, b_abs, b_max, b_min, b_sum, b_all, b_any, bo_nil, bo_cons, in_nil, in_cons, isin_non, isin_bl, isin_int, isin_str, isin_tup, isin_lst, isinT, seq_t, seq_l, seq_s, own_v, own_o, own_i, own_u, pl_v, pl_u, wipe_n, wipe_c, unw_n, unw_c, fin_rt, fin_nx, out_n, out_t, out_f, six_none, six_some, Mp.ixN, storeIx, put_val, put_new, notIo_un, notIo_val, notIo_own, cmp_gt_int, cmp_lt_int, cmp_le_int, cmp_ge_int, cmp_eq_int, cmp_ne_int, bin_add_int, bin_sub_int, bin_mul_r, bin_mul_l, bin_mod_int, bin_fdiv_int, doCall, doCallF, argsD, iosOf, putOuts, setIo, Ar.isIo, Ar.d, bin_pow_int, bin_add_tup, eq_nil, is_non, isn_non, isNon_int, isNon_tup, isNon_lst, isNon_bl, isNon_str, isNon_non, sz_ok, sz_lt, s_ext, s_fst, s_par, m_nil, m_cons, puts_n, puts_c, e_fld, e_mk, e_isinc, isc_ins, ownL_o, ownL_i, lst_of, app_o, app_i, bin_mul_tup, bin_add_lst, eq_tup_nil, doMk, s_dst, e_dix, e_pop, e_dnew, e_lof1, e_lof2, e_rof1, e_rof2, e_bm, e_mkk, ownS_o, ownS_i, isLst_l, seqI_t, seqI_l, seqI_s, e_oeq, blR, t1E, ρ, rE, fld_rows, fld_cols, fld_pcs, fld_turn, fld_parts, ha, w1]
  have st1 : evS (callN T (n + 12)) (.par [2, 3] (.cons (.call 19 (.ioa 0 (.cons (.con (.int 6)) .nil))) (.cons (.call 19 (.ioa 0 (.cons (.con (.int 2)) .nil))) .nil))) (rE a s c (.val (.int x)) s2 s3 s4) = .nx (rE a2 b2 c2 (.val (.int x)) (.val (pzD f qs t)) (.val (pzD g ps u)) s4) := by
    simp [R.bind_ok', R.bind_no', R.of_some', R.fl_ok', Fl.bind_nx, Fl.bind_rt, s_skip, s_seq, s_asg, s_ex, s_ret, s_retn, s_ite, s_for, s_app, s_never, e_var, e_con, e_glo, e_tup, e_lst, e_neg, e_bin, e_cmp, e_cmp2, e_not, e_and, e_or, e_ife, e_idx, e_sl, e_call, e_callk, e_calf, e_calv, e_blt, e_isin, e_lc, l_nil, l_cons, a_nil, a_cons, a_ioa, p_nil, p_cons, o_nil, o_cons, t_not, t_and, t_or, t_nil, t_tr, i_rng1, i_rng2, i_enm, i_it, g_var, g_tup, g_idxF, g_idxN, gs_nil, gs_cons, Mp.init, initS, getS0, getS1, cur_f, cur_n, cur_p, settle_f, settle_n, settle_p, keep_f, keep_n, keep_p, kd_t, kd_f, tr_non, tr_bl, tr_int, tr_tup, tr_lst, tr_scr, ix_tup, ix_lst, sl_tup, sl_lst, b_len_t, b_len_l, b_len_s, b_tuple_t, b_tuple_l, b_list_t, b_list_l, b_int_i, b_int_b, b_abs, b_max, b_min, b_sum, b_all, b_any, bo_nil, bo_cons, in_nil, in_cons, isin_non, isin_bl, isin_int, isin_str, isin_tup, isin_lst, isinT, seq_t, seq_l, seq_s, own_v, own_o, own_i, own_u, pl_v, pl_u, wipe_n, wipe_c, unw_n, unw_c, fin_rt, fin_nx, out_n, out_t, out_f, six_none, six_some, Mp.ixN, storeIx, put_val, put_new, notIo_un, notIo_val, notIo_own, cmp_gt_int, cmp_lt_int, cmp_le_int, cmp_ge_int, cmp_eq_int, cmp_ne_int, bin_add_int, bin_sub_int, bin_mul_r, bin_mul_l, bin_mod_int, bin_fdiv_int, doCall, doCallF, argsD, iosOf, putOuts, setIo, Ar.isIo, Ar.d, bin_pow_int, bin_add_tup, eq_nil, is_non, isn_non, isNon_int, isNon_tup, isNon_lst, isNon_bl, isNon_str, isNon_non, sz_ok, sz_lt, s_ext, s_fst, s_par, m_nil, m_cons, puts_n, puts_c, e_fld, e_mk, e_isinc, isc_ins, ownL_o, ownL_i, lst_of, app_o, app_i, bin_mul_tup, bin_add_lst, eq_tup_nil, doMk, fldD, s_dst, e_dix, e_pop, e_dnew, e_lof1, e_lof2, e_rof1, e_rof2, e_bm, e_mkk, ownS_o, ownS_i, isLst_l, seqI_t, seqI_l, seqI_s, e_oeq, blR, rE, e1, e2, n2, n3]
  have st2 : evS (callN T (n + 12)) (.asg (.var 4) mkA) (rE a2 b2 c2 (.val (.int x)) (.val (pzD f qs t)) (.val (pzD g ps u)) s4) = .nx ρ := by
    simp [R.bind_ok', R.bind_no', R.of_some', R.fl_ok', Fl.bind_nx, Fl.bind_rt, s_skip, s_seq, s_asg, s_ex, s_ret, s_retn, s_ite, s_for, s_app, s_never, e_var, e_con, e_glo, e_tup, e_lst, e_neg, e_bin, e_cmp, e_cmp2, e_not, e_and, e_or, e_ife, e_idx, e_sl, e_call, e_callk, e_calf, e_calv, e_blt, e_isin, e_lc, l_nil, l_cons, a_nil, a_cons, a_ioa, p_nil, p_cons, o_nil, o_cons, t_not, t_and, t_or, t_nil, t_tr, i_rng1, i_rng2, i_enm, i_it, g_var, g_tup, g_idxF, g_idxN, gs_nil, gs_cons, Mp.init, initS, getS0, getS1, cur_f, cur_n, cur_p, settle_f, settle_n, settle_p, keep_f, keep_n, keep_p, kd_t, kd_f, tr_non, tr_bl, tr_int, tr_tup, tr_lst, tr_scr, sl_tup, sl_lst, b_len_t, b_len_l, b_len_s, b_tuple_t, b_tuple_l, b_list_t, b_list_l, b_int_i, b_int_b, b_abs, b_max, b_min, b_sum, b_all, b_any, bo_nil, bo_cons, in_nil, in_cons, isin_non, isin_bl, isin_int, isin_str, isin_tup, isin_lst, isinT, seq_t, seq_l, seq_s, own_v, own_o, own_i, own_u, pl_v, pl_u, wipe_n, wipe_c, unw_n, unw_c, fin_rt, fin_nx, out_n, out_t, out_f, six_none, six_some, Mp.ixN, storeIx, put_val, put_new, notIo_un, notIo_val, notIo_own, cmp_gt_int, cmp_lt_int, cmp_le_int, cmp_ge_int, cmp_eq_int, cmp_ne_int, bin_add_int, bin_sub_int, bin_mul_r, bin_mul_l, bin_mod_int, bin_fdiv_int, doCall, doCallF, argsD, iosOf, putOuts, setIo, Ar.isIo, Ar.d, bin_pow_int, bin_add_tup, eq_nil, is_non, isn_non, isNon_int, isNon_tup, isNon_lst, isNon_bl, isNon_str, isNon_non, sz_ok, sz_lt, s_ext, s_fst, s_par, m_nil, m_cons, puts_n, puts_c, e_fld, e_mk, e_isinc, isc_ins, ownL_o, ownL_i, lst_of, app_o, app_i, bin_mul_tup, bin_add_lst, eq_tup_nil, doMk, s_dst, e_dix, e_pop, e_dnew, e_lof1, e_lof2, e_rof1, e_rof2, e_bm, e_mkk, ownS_o, ownS_i, isLst_l, seqI_t, seqI_l, seqI_s, e_oeq, blR, mkA, ρ, rE, idx_pz0, idx_pz1, idx_pz2, idx_pz3, pick, i1, n4]
  have st3 : evS (callN T (n + 12)) (.ite (.not (.tr t1E)) (.seq (.ret (.con (.bl false))) .skip) .skip) ρ = .nx ρ := by
    rw [s_ite, t_not, t_tr, kt] <;> rfl
  have st4 : evS (callN T (n + 12)) (.ite (.not (.tr (.call 15 (.cons (.tup (.cons o1E (.cons o2E (.cons o3E (.cons o4E .nil))))) (.cons (.tup (.cons (.con (.bl true)) (.cons (.cmp .eq (.var 2) (.var 3)) (.cons (.con (.bl false)) (.cons (.con (.bl false)) .nil))))) .nil))))) (.seq (.ret (.con (.bl false))) .skip) .skip) ρ = .nx ρ := by
    have hp : getS ρ 2 = .val (pzD f qs t) := rfl
    have hq : getS ρ 3 = .val (pzD g ps u) := rfl
    simp [R.bind_ok', R.bind_no', R.of_some', R.fl_ok', Fl.bind_nx, Fl.bind_rt, s_skip, s_seq, s_asg, s_ex, s_ret, s_retn, s_ite, s_for, s_app, s_never, e_var, e_con, e_glo, e_tup, e_lst, e_neg, e_bin, e_cmp, e_cmp2, e_not, e_and, e_or, e_ife, e_idx, e_sl, e_call, e_callk, e_calf, e_calv, e_blt, e_isin, e_lc, l_nil, l_cons, a_nil, a_cons, a_ioa, p_nil, p_cons, o_nil, o_cons, t_not, t_and, t_or, t_nil, t_tr, i_rng1, i_rng2, i_enm, i_it, g_var, g_tup, g_idxF, g_idxN, gs_nil, gs_cons, Mp.init, initS, getS0, getS1, cur_f, cur_n, cur_p, settle_f, settle_n, settle_p, keep_f, keep_n, keep_p, kd_t, kd_f, tr_non, tr_bl, tr_int, tr_tup, tr_lst, tr_scr, ix_tup, ix_lst, sl_tup, sl_lst, b_len_t, b_len_l, b_len_s, b_tuple_t, b_tuple_l, b_list_t, b_list_l, b_int_i, b_int_b, b_abs, b_max, b_min, b_sum, b_all, b_any, bo_nil, bo_cons, in_nil, in_cons, isin_non, isin_bl, isin_int, isin_str, isin_tup, isin_lst, isinT, seq_t, seq_l, seq_s, own_v, own_o, own_i, own_u, pl_v, pl_u, wipe_n, wipe_c, unw_n, unw_c, fin_rt, fin_nx, out_n, out_t, out_f, six_none, six_some, Mp.ixN, storeIx, put_val, put_new, notIo_un, notIo_val, notIo_own, cmp_gt_int, cmp_lt_int, cmp_le_int, cmp_ge_int, cmp_eq_int, cmp_ne_int, bin_add_int, bin_sub_int, bin_mul_r, bin_mul_l, bin_mod_int, bin_fdiv_int, doCall, doCallF, argsD, iosOf, putOuts, setIo, Ar.isIo, Ar.d, bin_pow_int, bin_add_tup, eq_nil, is_non, isn_non, isNon_int, isNon_tup, isNon_lst, isNon_bl, isNon_str, isNon_non, sz_ok, sz_lt, s_ext, s_fst, s_par, m_nil, m_cons, puts_n, puts_c, e_fld, e_mk, e_isinc, isc_ins, ownL_o, ownL_i, lst_of, app_o, app_i, bin_mul_tup, bin_add_lst, eq_tup_nil, doMk, s_dst, e_dix, e_pop, e_dnew, e_lof1, e_lof2, e_rof1, e_rof2, e_bm, e_mkk, ownS_o, ownS_i, isLst_l, seqI_t, seqI_l, seqI_s, e_oeq, blR, k1, k2, k3, k4, hp, hq, e, w2]
  have st5 : evS (callN T (n + 12)) (.ite (.or (.tr o5E) (.and (.tr (.cmp .ne (.idx (.var 2) (.con (.int 0))) (.idx (.var 2) (.con (.int 1))))) (.tr o6E))) (.seq (.ret (.con (.bl false))) .skip) .skip) ρ = .nx ρ := by
    have hp : getS ρ 2 = .val (pzD f qs t) := rfl
    by_cases h : f.1 = f.2
    · simp [R.bind_ok', R.bind_no', R.of_some', R.fl_ok', Fl.bind_nx, Fl.bind_rt, s_skip, s_seq, s_asg, s_ex, s_ret, s_retn, s_ite, s_for, s_app, s_never, e_var, e_con, e_glo, e_tup, e_lst, e_neg, e_bin, e_cmp, e_cmp2, e_not, e_and, e_or, e_ife, e_idx, e_sl, e_call, e_callk, e_calf, e_calv, e_blt, e_isin, e_lc, l_nil, l_cons, a_nil, a_cons, a_ioa, p_nil, p_cons, o_nil, o_cons, t_not, t_and, t_or, t_nil, t_tr, i_rng1, i_rng2, i_enm, i_it, g_var, g_tup, g_idxF, g_idxN, gs_nil, gs_cons, Mp.init, initS, getS0, getS1, cur_f, cur_n, cur_p, settle_f, settle_n, settle_p, keep_f, keep_n, keep_p, kd_t, kd_f, tr_non, tr_bl, tr_int, tr_tup, tr_lst, tr_scr, sl_tup, sl_lst, b_len_t, b_len_l, b_len_s, b_tuple_t, b_tuple_l, b_list_t, b_list_l, b_int_i, b_int_b, b_abs, b_max, b_min, b_sum, b_all, b_any, bo_nil, bo_cons, in_nil, in_cons, isin_non, isin_bl, isin_int, isin_str, isin_tup, isin_lst, isinT, seq_t, seq_l, seq_s, own_v, own_o, own_i, own_u, pl_v, pl_u, wipe_n, wipe_c, unw_n, unw_c, fin_rt, fin_nx, out_n, out_t, out_f, six_none, six_some, Mp.ixN, storeIx, put_val, put_new, notIo_un, notIo_val, notIo_own, cmp_gt_int, cmp_lt_int, cmp_le_int, cmp_ge_int, cmp_eq_int, cmp_ne_int, bin_add_int, bin_sub_int, bin_mul_r, bin_mul_l, bin_mod_int, bin_fdiv_int, doCall, doCallF, argsD, iosOf, putOuts, setIo, Ar.isIo, Ar.d, bin_pow_int, bin_add_tup, eq_nil, is_non, isn_non, isNon_int, isNon_tup, isNon_lst, isNon_bl, isNon_str, isNon_non, sz_ok, sz_lt, s_ext, s_fst, s_par, m_nil, m_cons, puts_n, puts_c, e_fld, e_mk, e_isinc, isc_ins, ownL_o, ownL_i, lst_of, app_o, app_i, bin_mul_tup, bin_add_lst, eq_tup_nil, doMk, s_dst, e_dix, e_pop, e_dnew, e_lof1, e_lof2, e_rof1, e_rof2, e_bm, e_mkk, ownS_o, ownS_i, isLst_l, seqI_t, seqI_l, seqI_s, e_oeq, blR, k5, hp, idx_pz0, idx_pz1, h]
    · have k6' := k6 h
      simp [R.bind_ok', R.bind_no', R.of_some', R.fl_ok', Fl.bind_nx, Fl.bind_rt, s_skip, s_seq, s_asg, s_ex, s_ret, s_retn, s_ite, s_for, s_app, s_never, e_var, e_con, e_glo, e_tup, e_lst, e_neg, e_bin, e_cmp, e_cmp2, e_not, e_and, e_or, e_ife, e_idx, e_sl, e_call, e_callk, e_calf, e_calv, e_blt, e_isin, e_lc, l_nil, l_cons, a_nil, a_cons, a_ioa, p_nil, p_cons, o_nil, o_cons, t_not, t_and, t_or, t_nil, t_tr, i_rng1, i_rng2, i_enm, i_it, g_var, g_tup, g_idxF, g_idxN, gs_nil, gs_cons, Mp.init, initS, getS0, getS1, cur_f, cur_n, cur_p, settle_f, settle_n, settle_p, keep_f, keep_n, keep_p, kd_t, kd_f, tr_non, tr_bl, tr_int, tr_tup, tr_lst, tr_scr, sl_tup, sl_lst, b_len_t, b_len_l, b_len_s, b_tuple_t, b_tuple_l, b_list_t, b_list_l, b_int_i, b_int_b, b_abs, b_max, b_min, b_sum, b_all, b_any, bo_nil, bo_cons, in_nil, in_cons, isin_non, isin_bl, isin_int, isin_str, isin_tup, isin_lst, isinT, seq_t, seq_l, seq_s, own_v, own_o, own_i, own_u, pl_v, pl_u, wipe_n, wipe_c, unw_n, unw_c, fin_rt, fin_nx, out_n, out_t, out_f, six_none, six_some, Mp.ixN, storeIx, put_val, put_new, notIo_un, notIo_val, notIo_own, cmp_gt_int, cmp_lt_int, cmp_le_int, cmp_ge_int, cmp_eq_int, cmp_ne_int, bin_add_int, bin_sub_int, bin_mul_r, bin_mul_l, bin_mod_int, bin_fdiv_int, doCall, doCallF, argsD, iosOf, putOuts, setIo, Ar.isIo, Ar.d, bin_pow_int, bin_add_tup, eq_nil, is_non, isn_non, isNon_int, isNon_tup, isNon_lst, isNon_bl, isNon_str, isNon_non, sz_ok, sz_lt, s_ext, s_fst, s_par, m_nil, m_cons, puts_n, puts_c, e_fld, e_mk, e_isinc, isc_ins, ownL_o, ownL_i, lst_of, app_o, app_i, bin_mul_tup, bin_add_lst, eq_tup_nil, doMk, s_dst, e_dix, e_pop, e_dnew, e_lof1, e_lof2, e_rof1, e_rof2, e_bm, e_mkk, ownS_o, ownS_i, isLst_l, seqI_t, seqI_l, seqI_s, e_oeq, blR, k5, k6', hp, idx_pz0, idx_pz1, h]
  refine ⟨a2, b2, c2, .val (pzD f qs t), .val (pzD g ps u), .val (PZ f qs t), rfl, rfl, rfl, ?_⟩
  have hb : rtB = .seq (.par [2, 3] (.cons (.call 19 (.ioa 0 (.cons (.con (.int 6)) .nil))) (.cons (.call 19 (.ioa 0 (.cons (.con (.int 2)) .nil))) .nil))) (.seq (.asg (.var 4) mkA) (.seq (.ite (.not (.tr t1E)) (.seq (.ret (.con (.bl false))) .skip) .skip) (.seq (.ite (.not (.tr (.call 15 (.cons (.tup (.cons o1E (.cons o2E (.cons o3E (.cons o4E .nil))))) (.cons (.tup (.cons (.con (.bl true)) (.cons (.cmp .eq (.var 2) (.var 3)) (.cons (.con (.bl false)) (.cons (.con (.bl false)) .nil))))) .nil))))) (.seq (.ret (.con (.bl false))) .skip) .skip) (.seq (.ite (.or (.tr o5E) (.and (.tr (.cmp .ne (.idx (.var 2) (.con (.int 0))) (.idx (.var 2) (.con (.int 1))))) (.tr o6E))) (.seq (.ret (.con (.bl false))) .skip) .skip) .skip)))) := rfl
  rw [hb, s_seq, st1, Fl.bind_nx, s_seq, st2, Fl.bind_nx, s_seq, st3, Fl.bind_nx, s_seq, st4, Fl.bind_nx, s_seq, st5, Fl.bind_nx, s_skip]
theorem right_loop (n : Nat) : ∀ (ls : List Int) (a s c : Int) (s1 s2 s3 s4 : Mp.Slot), notIo s1 = true → notIo s2 = true → notIo s3 = true → notIo s4 = true →
    ∃ a' s' c' u1 u2 u3 u4, forRun (callN T (n + 12)) (.var 1) rtB (ls.map D.int) (rE a s c s1 s2 s3 s4) = .nx (rE a' s' c' u1 u2 u3 u4)
  | [], a, s, c, s1, s2, s3, s4, _, _, _, _ => ⟨a, s, c, s1, s2, s3, s4, rfl⟩
  | x :: ls, a, s, c, s1, s2, s3, s4, h1, h2, h3, h4 => by
    obtain ⟨a1, b1, c1, u2, u3, u4, g2, g3, g4, k⟩ := right_turn n a s c x s2 s3 s4 h2 h3 h4
    obtain ⟨a2, b2, c2, v1, v2, v3, v4, k2⟩ := right_loop n ls a1 b1 c1 (.val (.int x)) u2 u3 u4 rfl g2 g3 g4
    refine ⟨a2, b2, c2, v1, v2, v3, v4, ?_⟩
    have hg : evG (callN T (n + 12)) (.var 1) (.int x) .frz (rE a s c s1 s2 s3 s4) = .ok () (rE a s c (.val (.int x)) s2 s3 s4) := by
      rw [g_var]
      exact put_val (by exact h1) (show (1 : Nat) < 5 by decide)
    rw [List.map_cons, for_cons, hg, R.fl_ok', k, Fl.bind_nx, k2]
theorem right_ok (a s c : Int) : ∃ b, callN T 38 21 [true] [bowl a s c] = some (.bl true, false, [b]) := by
  obtain ⟨a', s', c', u1, u2, u3, u4, k⟩ := right_loop 25 [0, 1, 2, 3, 4, 5, 6, 7] a s c .un .un .un .un rfl rfl rfl rfl
  refine ⟨bowl a' s' c', ?_⟩
  rw [call_eq (T := T) (n := 37) (f := 21) (fl := [true]) (ds := [bowl a s c]) (df := d21) rfl rfl rfl rfl]
  have hb : d21.body = .seq (.for_ (.var 1) (.rng1 (.con (.int 8))) rtB) (.seq (.ret (.con (.bl true))) .skip) := rfl
  have hi : init d21 [bowl a s c] = rE a s c .un .un .un .un := rfl
  have hios : d21.ios = [true] := rfl
  have hI : evI (callN T 37) (.rng1 (.con (.int 8))) (rE a s c .un .un .un .un) = .ok ([(0 : Int), 1, 2, 3, 4, 5, 6, 7].map D.int) (rE a s c .un .un .un .un) := rng1_ok (m := 8) (k := .frz) rfl ⟨by decide, by decide⟩
  rw [hb, hi, hios, s_seq, s_for, hI, R.fl_ok', k]
  rfl


theorem law_ok (ns : List Int) (h : ns.length ≤ 63) : callN T 39 22 [false] [.scr (ns.map D.int)] = some (.bl true, false, []) := by
  have one : ∀ k : Nat, ∃ a s b, callN T 38 12 [false, false] [.scr (ns.map D.int), .int k] = some (bowl a s 0, true, []) ∧ callN T 38 21 [true] [bowl a s 0] = some (.bl true, false, [b]) := fun k => by
    obtain ⟨a, s, e⟩ := bowl_ok 37 ns k
    obtain ⟨b, e2⟩ := right_ok a s 0
    exact ⟨a, s, b, e, e2⟩
  obtain ⟨a0, b0, c0, e0, f0⟩ := one 0
  obtain ⟨a1, b1, c1, e1, f1⟩ := one 1
  obtain ⟨a2, b2, c2, e2, f2⟩ := one 2
  have z0 : ((0 : Nat) : Int) = 0 := rfl
  have z1 : ((1 : Nat) : Int) = 1 := rfl
  have z2 : ((2 : Nat) : Int) = 2 := rfl
  rw [z0] at e0
  rw [z1] at e1
  rw [z2] at e2
  rw [call_eq (T := T) (n := 38) (f := 22) (fl := [false]) (ds := [.scr (ns.map D.int)]) (df := d22) rfl rfl rfl rfl]
  have r1 : rngD 0 1 = [.int 0] := rfl
  have r2 : rngD 0 2 = [.int 0, .int 1] := rfl
  have r3 : rngD 0 3 = [.int 0, .int 1, .int 2] := rfl
  have hm : bltD .min [.int (ns.length : Int), .int 3] = some (.int (if (3 : Int) < (ns.length : Int) then 3 else (ns.length : Int)), false) := rfl
  have hM : bltD .max [.int 1, .int (if (3 : Int) < (ns.length : Int) then 3 else (ns.length : Int))] = some (.int 1, false) ∨ bltD .max [.int 1, .int (if (3 : Int) < (ns.length : Int) then 3 else (ns.length : Int))] = some (.int 2, false) ∨ bltD .max [.int 1, .int (if (3 : Int) < (ns.length : Int) then 3 else (ns.length : Int))] = some (.int 3, false) := by
    rw [b_max]
    by_cases h3 : (3 : Int) < (ns.length : Int)
    · rw [if_pos h3]; exact .inr (.inr rfl)
    · rw [if_neg h3]
      by_cases h2 : (ns.length : Int) > 1
      · rw [if_pos h2]
        have : (ns.length : Int) = 2 ∨ (ns.length : Int) = 3 := by omega
        rcases this with e | e <;> rw [e]
        · exact .inr (.inl rfl)
        · exact .inr (.inr rfl)
      · rw [if_neg h2]; exact .inl rfl
  rcases hM with hM | hM | hM
  · simp [R.bind_ok', R.bind_no', R.of_some', R.fl_ok', Fl.bind_nx, Fl.bind_rt, s_skip, s_seq, s_asg, s_ex, s_ret, s_retn, s_ite, s_for, s_app, s_never, e_var, e_con, e_glo, e_tup, e_lst, e_neg, e_bin, e_cmp, e_cmp2, e_not, e_and, e_or, e_ife, e_idx, e_sl, e_call, e_callk, e_calf, e_calv, e_blt, e_isin, e_lc, l_nil, l_cons, a_nil, a_cons, a_ioa, p_nil, p_cons, o_nil, o_cons, t_not, t_and, t_or, t_nil, t_tr, i_rng1, i_rng2, i_enm, i_it, g_var, g_tup, g_idxF, g_idxN, gs_nil, gs_cons, Mp.init, initS, getS0, getS1, cur_f, cur_n, cur_p, settle_f, settle_n, settle_p, keep_f, keep_n, keep_p, kd_t, kd_f, tr_non, tr_bl, tr_int, tr_tup, tr_lst, tr_scr, ix_tup, ix_lst, sl_tup, sl_lst, b_len_t, b_len_l, b_len_s, b_tuple_t, b_tuple_l, b_list_t, b_list_l, b_int_i, b_int_b, b_abs, b_sum, b_all, b_any, bo_nil, bo_cons, in_nil, in_cons, isin_non, isin_bl, isin_int, isin_str, isin_tup, isin_lst, isinT, seq_t, seq_l, seq_s, own_v, own_o, own_i, own_u, pl_v, pl_u, wipe_n, wipe_c, unw_n, unw_c, fin_rt, fin_nx, out_n, out_t, out_f, six_none, six_some, Mp.ixN, storeIx, put_val, put_new, notIo_un, notIo_val, notIo_own, cmp_gt_int, cmp_lt_int, cmp_le_int, cmp_ge_int, cmp_eq_int, cmp_ne_int, bin_add_int, bin_sub_int, bin_mul_r, bin_mul_l, bin_mod_int, bin_fdiv_int, doCall, doCallF, argsD, iosOf, putOuts, setIo, Ar.isIo, Ar.d, bin_pow_int, bin_add_tup, eq_nil, is_non, isn_non, isNon_int, isNon_tup, isNon_lst, isNon_bl, isNon_str, isNon_non, sz_ok, sz_lt, s_ext, s_fst, s_par, m_nil, m_cons, puts_n, puts_c, e_fld, e_mk, e_isinc, isc_ins, ownL_o, ownL_i, lst_of, app_o, app_i, bin_mul_tup, bin_add_lst, eq_tup_nil, doMk, fldD, s_dst, e_dix, e_pop, e_dnew, e_lof1, e_lof2, e_rof1, e_rof2, e_bm, e_mkk, ownS_o, ownS_i, isLst_l, seqI_t, seqI_l, seqI_s, e_oeq, blR, d22, hm, hM, r1, lc_cons, lc_nil, inR, e0, f0]
  · simp [R.bind_ok', R.bind_no', R.of_some', R.fl_ok', Fl.bind_nx, Fl.bind_rt, s_skip, s_seq, s_asg, s_ex, s_ret, s_retn, s_ite, s_for, s_app, s_never, e_var, e_con, e_glo, e_tup, e_lst, e_neg, e_bin, e_cmp, e_cmp2, e_not, e_and, e_or, e_ife, e_idx, e_sl, e_call, e_callk, e_calf, e_calv, e_blt, e_isin, e_lc, l_nil, l_cons, a_nil, a_cons, a_ioa, p_nil, p_cons, o_nil, o_cons, t_not, t_and, t_or, t_nil, t_tr, i_rng1, i_rng2, i_enm, i_it, g_var, g_tup, g_idxF, g_idxN, gs_nil, gs_cons, Mp.init, initS, getS0, getS1, cur_f, cur_n, cur_p, settle_f, settle_n, settle_p, keep_f, keep_n, keep_p, kd_t, kd_f, tr_non, tr_bl, tr_int, tr_tup, tr_lst, tr_scr, ix_tup, ix_lst, sl_tup, sl_lst, b_len_t, b_len_l, b_len_s, b_tuple_t, b_tuple_l, b_list_t, b_list_l, b_int_i, b_int_b, b_abs, b_sum, b_all, b_any, bo_nil, bo_cons, in_nil, in_cons, isin_non, isin_bl, isin_int, isin_str, isin_tup, isin_lst, isinT, seq_t, seq_l, seq_s, own_v, own_o, own_i, own_u, pl_v, pl_u, wipe_n, wipe_c, unw_n, unw_c, fin_rt, fin_nx, out_n, out_t, out_f, six_none, six_some, Mp.ixN, storeIx, put_val, put_new, notIo_un, notIo_val, notIo_own, cmp_gt_int, cmp_lt_int, cmp_le_int, cmp_ge_int, cmp_eq_int, cmp_ne_int, bin_add_int, bin_sub_int, bin_mul_r, bin_mul_l, bin_mod_int, bin_fdiv_int, doCall, doCallF, argsD, iosOf, putOuts, setIo, Ar.isIo, Ar.d, bin_pow_int, bin_add_tup, eq_nil, is_non, isn_non, isNon_int, isNon_tup, isNon_lst, isNon_bl, isNon_str, isNon_non, sz_ok, sz_lt, s_ext, s_fst, s_par, m_nil, m_cons, puts_n, puts_c, e_fld, e_mk, e_isinc, isc_ins, ownL_o, ownL_i, lst_of, app_o, app_i, bin_mul_tup, bin_add_lst, eq_tup_nil, doMk, fldD, s_dst, e_dix, e_pop, e_dnew, e_lof1, e_lof2, e_rof1, e_rof2, e_bm, e_mkk, ownS_o, ownS_i, isLst_l, seqI_t, seqI_l, seqI_s, e_oeq, blR, d22, hm, hM, r2, lc_cons, lc_nil, inR, e0, f0, e1, f1]
  · simp [R.bind_ok', R.bind_no', R.of_some', R.fl_ok', Fl.bind_nx, Fl.bind_rt, s_skip, s_seq, s_asg, s_ex, s_ret, s_retn, s_ite, s_for, s_app, s_never, e_var, e_con, e_glo, e_tup, e_lst, e_neg, e_bin, e_cmp, e_cmp2, e_not, e_and, e_or, e_ife, e_idx, e_sl, e_call, e_callk, e_calf, e_calv, e_blt, e_isin, e_lc, l_nil, l_cons, a_nil, a_cons, a_ioa, p_nil, p_cons, o_nil, o_cons, t_not, t_and, t_or, t_nil, t_tr, i_rng1, i_rng2, i_enm, i_it, g_var, g_tup, g_idxF, g_idxN, gs_nil, gs_cons, Mp.init, initS, getS0, getS1, cur_f, cur_n, cur_p, settle_f, settle_n, settle_p, keep_f, keep_n, keep_p, kd_t, kd_f, tr_non, tr_bl, tr_int, tr_tup, tr_lst, tr_scr, ix_tup, ix_lst, sl_tup, sl_lst, b_len_t, b_len_l, b_len_s, b_tuple_t, b_tuple_l, b_list_t, b_list_l, b_int_i, b_int_b, b_abs, b_sum, b_all, b_any, bo_nil, bo_cons, in_nil, in_cons, isin_non, isin_bl, isin_int, isin_str, isin_tup, isin_lst, isinT, seq_t, seq_l, seq_s, own_v, own_o, own_i, own_u, pl_v, pl_u, wipe_n, wipe_c, unw_n, unw_c, fin_rt, fin_nx, out_n, out_t, out_f, six_none, six_some, Mp.ixN, storeIx, put_val, put_new, notIo_un, notIo_val, notIo_own, cmp_gt_int, cmp_lt_int, cmp_le_int, cmp_ge_int, cmp_eq_int, cmp_ne_int, bin_add_int, bin_sub_int, bin_mul_r, bin_mul_l, bin_mod_int, bin_fdiv_int, doCall, doCallF, argsD, iosOf, putOuts, setIo, Ar.isIo, Ar.d, bin_pow_int, bin_add_tup, eq_nil, is_non, isn_non, isNon_int, isNon_tup, isNon_lst, isNon_bl, isNon_str, isNon_non, sz_ok, sz_lt, s_ext, s_fst, s_par, m_nil, m_cons, puts_n, puts_c, e_fld, e_mk, e_isinc, isc_ins, ownL_o, ownL_i, lst_of, app_o, app_i, bin_mul_tup, bin_add_lst, eq_tup_nil, doMk, fldD, s_dst, e_dix, e_pop, e_dnew, e_lof1, e_lof2, e_rof1, e_rof2, e_bm, e_mkk, ownS_o, ownS_i, isLst_l, seqI_t, seqI_l, seqI_s, e_oeq, blR, d22, hm, hM, r3, lc_cons, lc_nil, inR, e0, f0, e1, f1, e2, f2]
end K01

namespace K01
open PySem PySem.Spec PyProof.Rows L2 Mp
set_option maxHeartbeats 0
abbrev body : List Stmt := PySem.Challenge.pw_sidefits_k01_whole_puzzles.main.body
def names : List PySem.Str := (PySem.Challenge.pw_sidefits_k01_whole_puzzles.main.scope.names.map (·.1)).filter fun x => !(x == "law") && !(x == "__name__")
def tab : Tab := ⟨T, body.filterMap mkD ++ mkM "Puzzle" body ++ mkE "Puzzle" body, vals, free, cls, eqs⟩
abbrev R : PySem.W.OpenRow := PySem.W.OpenLaw.row PySem.Challenge.rw_sidefits_k01_whole_puzzles
abbrev hk : PySem.W.Hook := hookM 5 tab
def ob (s : PySem.W.SharedT) : He.AlD := obsMG 5 tab (HandSHeadRun.getT s)
theorem ob_eq (s : PySem.W.SharedT) : ob s = hk.obs s.abs := obsMG_eq (HandSHeadRun.getT_eq s)
theorem run (w : World) : HandSHeadRun.RunEq R (PySem.W.view R.prog [39]) hk ob 40000 names w := by
  intro os
  kernel_rfl
theorem tab_ok : tab.ok = true := by kernel_rfl

end K01
open PySem PySem.W PySem.Calls PyProof.Rows
theorem PySem.Challenge.cw_sidefits_k01_whole_puzzles_holds : PySem.Challenge.rw_sidefits_k01_whole_puzzles.Holds := by
  w_on; o_law
  refine HandSHeadRun.head_any (r := OpenLaw.row PySem.Challenge.rw_sidefits_k01_whole_puzzles) (q := view (OpenLaw.row PySem.Challenge.rw_sidefits_k01_whole_puzzles).prog [39]) (H := K01.hk) (ob := K01.ob) (M := 40000) (loose := K01.names) (d := HandSHeadRun.topDef (OpenLaw.row PySem.Challenge.rw_sidefits_k01_whole_puzzles).prog 39) (kwd := []) K01.ob_eq
    (by kernel_rfl) (fun s => by kernel_rfl) K01.run (by kernel_rfl) (by kernel_rfl) (by kernel_rfl) (by rfl) (by first | assumption | decide +kernel) (by decide +kernel) ⟨rfl, rfl, rfl, rfl, rfl, by decide +kernel⟩ ?hw ?hc
  case hw => w_witness2
  case hc =>
    refine L2.walk_ofE (l := PySem.Challenge.rw_sidefits_k01_whole_puzzles) (n := 63) (k := 2 * K01.lev) (x := "script") (CX := fun _ _ _ _ _ _ => False) rfl (by decide) (by kernel_rfl) ⟨rfl, by decide, by decide⟩ ?F (fun _ _ _ _ z => z)
    intro w mg fa h Y G hmg0
    have hmg : mg ("law" : PySem.Str) = some (.ref fa) := by
      have e : (HandSHeadRun.topDef (OpenLaw.row PySem.Challenge.rw_sidefits_k01_whole_puzzles).prog 39).name = ("law" : PySem.Str) := by kernel_rfl
      rw [← e]
      exact hmg0
    exact Mp.law_goal K01.tab K01.tab_ok (f0 := 22) rfl rfl (by rfl) K01.law_ok Y G hmg

