import PyProof.Rows.All
import Wide.All
import OpenK.AllK
import Wide.FinOn
import HandS.ForMost
import HandS.Deep
import HandS.TupAny
import HandS.Zip
import HandS.Walk
import HandS.Style
import HandS.IsInst
import HandS.TupMul
import KE.SortData
import KE.LtData
import KE.DataMinMax
import HandS.Zip0
import KE.KDictZip
import HandS.Conv
import HandS.SetKeys
import HandS.SetFor
import HandS.Strs
import PySem.Challenge.RW_leastcarry_k07_all_ways
set_option Elab.async false
set_option linter.all false
set_option maxRecDepth 100000
/-! The frame: plain data, a small language of programs over it, and what a program of it yields. -/
namespace Fw
open PySem L2

/-- plain data -/
inductive D where
  | non | bl (b : Bool) | int (i : Int) | str (x : Str)
  | lst (xs : List D) | tup (xs : List D)
  | dK (kvs : List (Key × D)) | dT (kvs : List (List Key × D))

mutual
def toPy : D → PyData
  | .non => .none
  | .bl b => .bool b
  | .int i => .int i
  | .str x => .str x
  | .lst xs => .list (toPys xs)
  | .tup xs => .tuple (toPys xs)
  | .dK _ => .dict []
  | .dT _ => .dict []
def toPys : List D → List PyData
  | [] => []
  | x :: xs => toPy x :: toPys xs
end
theorem toPys_map : ∀ xs : List D, toPys xs = xs.map toPy
  | [] => rfl
  | x :: xs => by rw [toPys, toPys_map xs]; rfl

-- nothing that may be changed, and no dict
mutual
def pureD : D → Bool
  | .non => true
  | .bl _ => true
  | .int _ => true
  | .str _ => true
  | .lst _ => false
  | .tup xs => puresD xs
  | .dK _ => false
  | .dT _ => false
def puresD : List D → Bool
  | [] => true
  | x :: xs => pureD x && puresD xs
end
-- no dict in it, and not too deep
mutual
def noD : Nat → D → Bool
  | _, .non => true
  | _, .bl _ => true
  | _, .int _ => true
  | _, .str _ => true
  | n + 1, .lst xs => nosD n xs
  | n + 1, .tup xs => nosD n xs
  | _, _ => false
def nosD : Nat → List D → Bool
  | _, [] => true
  | n, x :: xs => noD n x && nosD n xs
end
def shp (d : D) : Bool := noD 60 d

inductive R (α : Type) where
  | ok (a : α)
  | no
def R.bind {α β : Type} : R α → (α → R β) → R β
  | .ok a, f => f a
  | .no, _ => .no
def R.guard {β : Type} (c : Bool) (r : R β) : R β := if c = true then r else .no
def R.ite {β : Type} (c : Bool) (a b : R β) : R β := match c with
  | true => a
  | false => b
@[simp] theorem R.bind_ok {α β : Type} (a : α) (f : α → R β) : (R.ok a).bind f = f a := rfl
@[simp] theorem R.bind_no {α β : Type} (f : α → R β) : (R.no : R α).bind f = .no := rfl
@[simp] theorem R.guard_true {β : Type} (r : R β) : R.guard true r = r := rfl
theorem R.of_bind {α β : Type} {r : R α} {f : α → R β} {b : β} (h : r.bind f = .ok b) : ∃ a, r = .ok a ∧ f a = .ok b := by
  cases r with
  | ok a => exact ⟨a, rfl, h⟩
  | no => exact nomatch h
theorem R.of_guard {β : Type} {c : Bool} {r : R β} {b : β} (h : R.guard c r = .ok b) : c = true ∧ r = .ok b := by
  unfold R.guard at h
  by_cases e : c = true
  · rw [if_pos e] at h; exact ⟨e, h⟩
  · rw [if_neg e] at h; exact nomatch h

/-- whose a value is: anybody's, new, or that of a name that may still change it -/
inductive Kd where
  | sh | nw | bw | b2
inductive Op2 where
  | add | sub | mul | fdiv | mod | pow
inductive Cm where
  | eq | ne | lt | le | gt | ge | isin | notin | isN | notN | isB | notB
inductive Ty where
  | int | bool | str | tuple | list | dict
inductive Bi where
  | len | sum | min | max | sorted | list | tuple | abs | all | any | int | str | bool | dict | join | split | get | count | index
inductive X1 where
  | lrng | sset | dprs | dcpy | vals | upper
inductive X2 where
  | lrng2 | count | index | one
inductive X3 where
  | get
inductive M0 where
  | rev
inductive Pat where
  | v (i : Nat) | t (ps : List Pat)
mutual
inductive E where
  | k (d : D)
  | v (i : Nat)
  | tup (es : List E) | lst (es : List E)
  | op (o : Op2) (a b : E)
  | neg (a : E) | not (a : E) | and (a b : E) | or (a b : E) | ite (c a b : E)
  | cmp (o : Cm) (a b : E) | chain (o p : Cm) (a b c : E)
  | call (f : Nat) (es : List E)
  | bi (f : Bi) (es : List E)
  | isi (a : E) (t : Ty)
  | ix (a b : E) | dget (a b : E)
  | sl (a : E) (lo hi : Option E) | rev (a : E)
  | lc (own : List Nat) (elt : E) (p : Pat) (it : It) (ifs : List E)
  | dict0 (t : Bool) | din (a b : E) | dnin (a b : E) | dzip (a b : E)
  | disp (ks : List Key) (es : List E)
  | x1 (f : X1) (a : E) | x2 (f : X2) (a b : E) | x3 (f : X3) (a b c : E)
inductive It where
  | seq (e : E)
  | rng1 (a : E) | rng2 (a b : E) | rng3 (a b c : E)
  | zip (es : List E) | enum (e : E)
  | keys (i : Nat)
end
inductive S where
  | asg (p : Pat) (e : E) (own : Nat)
  | sto (i : Nat) (ix e : E)
  | dst (i : Nat) (ix e : E)
  | app (i : Nat) (e : E)
  | ext (i : Nat) (e : E)
  | appPop (i j : Nat) (e : E)
  | asgPop (i j : Nat) (e : Option E)
  | sda (i : Nat) (k e : E)
  | ex (e : E)
  | ret (e : E) | retN
  | ite (c : E) (a b : List S)
  | for_ (p : Pat) (it : It) (body : List S)
  | whl (c : E) (body : List S)
  | pass | brk | cont | never
  | frz (i : Nat)
  | m0 (f : M0) (i : Nat)

/-- a name's value, and whether the name may change it: 0 no, 1 its own object, 2 a dict of its own lists -/
structure Slot where
  val : D
  own : Nat
abbrev Env := List (Option Slot)
abbrev CallT := Nat → List D → R (D × Bool)

def line : Nat := 16777216
def isNon : D → Bool
  | .non => true
  | _ => false
def addD : D → D → R (D × Kd)
  | .int i, .int j => .ok (.int (i + j), .sh)
  | .str x, .str y => R.guard (decide (x.length + y.length ≤ line)) (.ok (.str (x ++ y), .sh))
  | .lst x, .lst y => R.guard (decide (x.length + y.length ≤ line)) (.ok (.lst (x ++ y), .nw))
  | .tup x, .tup y => R.guard (decide (x.length + y.length ≤ line)) (.ok (.tup (x ++ y), .sh))
  | _, _ => .no
def subD : D → D → R (D × Kd)
  | .int i, .int j => .ok (.int (i - j), .sh)
  | _, _ => .no
def smallI (i : Int) : Bool := decide (-18446744073709551616 < i) && decide (i < 18446744073709551616)
def mulD : D → D → R (D × Kd)
  | .int i, .int j => R.guard (smallI i || smallI j) (.ok (.int (i * j), .sh))
  | .str x, .int j => R.guard (decide (0 ≤ j) && decide (j ≤ 1000) && decide (x.length ≤ 1000)) (.ok (.str (Txt.mul x j), .sh))
  | .lst xs, .int j => R.guard (decide (-1000 ≤ j) && decide (j ≤ 1000) && decide (xs.length ≤ 1000)) (.ok (.lst (List.replicate j.toNat xs).flatten, .nw))
  | .tup xs, .int j => R.guard (decide (1 ≤ j) && decide (j ≤ 1000) && decide (xs.length ≤ 1000) && !xs.isEmpty) (.ok (.tup (List.replicate j.toNat xs).flatten, .sh))
  | _, _ => .no
def fdivD : D → D → R (D × Kd)
  | .int i, .int j => R.guard (decide (0 < j) && decide (j < 1073741824)) (.ok (.int (i / j), .sh))
  | _, _ => .no
def modD : D → D → R (D × Kd)
  | .int i, .int j => R.guard (decide (0 < j)) (.ok (.int (i % j), .sh))
  | _, _ => .no
def powD : D → D → R (D × Kd)
  | .int i, .int j => R.guard (decide (0 ≤ j) && decide (j ≤ 1000) && decide (i.natAbs < 1000000000)) (.ok (.int (i ^ j.toNat), .sh))
  | _, _ => .no
def op2D : Op2 → D → D → R (D × Kd)
  | .add => addD | .sub => subD | .mul => mulD | .fdiv => fdivD | .mod => modD | .pow => powD
def eqD (a b : D) : Bool := PyData.eqv (toPy a) (toPy b)
def ltD : D → D → R Bool
  | .int i, .int j => .ok (decide (i < j))
  | .str x, .str y => .ok (decide (x.cps.toList < y.cps.toList))
  | .tup x, .tup y => R.guard (PySem.W.alike (toPy (.tup x)) (toPy (.tup y)) && shp (.tup x) && shp (.tup y)) (.ok (PySem.W.dataLt (toPy (.tup x)) (toPy (.tup y))))
  | _, _ => .no
def leD : D → D → R Bool
  | .int i, .int j => .ok (decide (i ≤ j))
  | .str x, .str y => .ok (!decide (y.cps.toList < x.cps.toList))
  | _, _ => .no
def flatD : D → Bool
  | .non => true
  | .bl _ => true
  | .int _ => true
  | .str _ => true
  | _ => false
def gtD : D → D → R Bool
  | .int i, .int j => .ok (decide (j < i))
  | .str x, .str y => .ok (decide (y.cps.toList < x.cps.toList))
  | _, _ => .no
def geD : D → D → R Bool
  | .int i, .int j => .ok (decide (j ≤ i))
  | .str x, .str y => .ok (!decide (x.cps.toList < y.cps.toList))
  | _, _ => .no
def inD (x : D) : D → R Bool
  | .lst ys => R.guard (shp x && shp (.lst ys)) (.ok (ys.any fun y => eqD y x))
  | .tup ys => R.guard (flatD x && ys.all flatD) (.ok (ys.any fun y => eqD y x))
  | .str y => match x with
    | .str x => .ok (!(Builtin.Str.occurrences y x 0 y.length 1).isEmpty)
    | _ => .no
  | _ => .no
def isBl : D → R Bool
  | .bl b => .ok b
  | _ => .no
def cmpD : Cm → D → D → R Bool
  | .eq, a, b => R.guard (shp a && shp b) (.ok (eqD a b))
  | .ne, a, b => R.guard (shp a && shp b) (.ok (!eqD a b))
  | .lt, a, b => ltD a b
  | .gt, a, b => gtD a b
  | .le, a, b => leD a b
  | .ge, a, b => geD a b
  | .isin, a, b => inD a b
  | .notin, a, b => (inD a b).bind fun c => .ok (!c)
  | .isN, a, b => R.guard (isNon b) (.ok (isNon a))
  | .notN, a, b => R.guard (isNon b) (.ok (!isNon a))
  | .isB, a, b => (isBl a).bind fun x => (isBl b).bind fun y => .ok (decide (x = y))
  | .notB, a, b => (isBl a).bind fun x => (isBl b).bind fun y => .ok (!decide (x = y))
def tyD : Ty → D → Bool
  | .int, .int _ => true
  | .int, .bl _ => true
  | .bool, .bl _ => true
  | .str, .str _ => true
  | .tuple, .tup _ => true
  | .list, .lst _ => true
  | .dict, .dK _ => true
  | .dict, .dT _ => true
  | _, _ => false
/-- the items of a list, a tuple -/
def items : D → R (List D)
  | .lst xs => .ok xs
  | .tup xs => .ok xs
  | _ => .no
/-- .. a text sign by sign -/
def itemsI : D → R (List D)
  | .lst xs => .ok xs
  | .tup xs => .ok xs
  | .str x => .ok (x.cps.toList.map fun c => .str ⟨#[c]⟩)
  | _ => .no
def sameSeq : D → D → Bool
  | .lst _, .lst _ => true
  | .tup _, .tup _ => true
  | _, _ => false
def intsD : List D → R (List Int)
  | [] => .ok []
  | .int i :: r => (intsD r).bind fun l => .ok (i :: l)
  | _ => .no
def boolsD : List D → R (List Bool)
  | [] => .ok []
  | .bl i :: r => (boolsD r).bind fun l => .ok (i :: l)
  | _ => .no
def strsD : List D → R (List Str)
  | [] => .ok []
  | .str i :: r => (strsD r).bind fun l => .ok (i :: l)
  | _ => .no
def ixD : D → D → R D
  | .lst xs, .int i => match atI xs i with | some d => .ok d | none => .no
  | .tup xs, .int i => match atI xs i with | some d => .ok d | none => .no
  | .str x, .int i => match atI x.cps.toList i with | some c => .ok (.str ⟨#[c]⟩) | none => .no
  | _, _ => .no
def valK {κ : Type} [DecidableEq κ] (kvs : List (κ × D)) (k : κ) : Option D := (kvs.find? fun kv => decide (kv.1 = k)).map (·.2)
def putD {κ : Type} [DecidableEq κ] (kvs : List (κ × D)) (k : κ) (v : D) : List (κ × D) := if (kvs.any fun kv => decide (kv.1 = k)) = true then kvs.map (fun kv => if kv.1 = k then (kv.1, v) else kv) else kvs ++ [(k, v)]
def mergeD (kvs more : List (Key × D)) : List (Key × D) := more.foldl (fun acc kv => putD acc kv.1 kv.2) kvs
def keyD : D → R Key
  | .int i => .ok (.inl i)
  | .str x => .ok (.inr x)
  | _ => .no
def keysD : List D → R (List Key)
  | [] => .ok []
  | d :: r => (keyD d).bind fun k => (keysD r).bind fun l => .ok (k :: l)
def dgetD : D → D → R D
  | .dK kvs, k => (keyD k).bind fun k => match valK kvs k with | some d => .ok d | none => .no
  | .dT kvs, .tup ks => (keysD ks).bind fun k => match valK kvs k with | some d => .ok d | none => .no
  | _, _ => .no
def dinD : D → D → R Bool
  | .dK kvs, k => (keyD k).bind fun k => .ok (valK kvs k).isSome
  | .dT kvs, .tup ks => (keysD ks).bind fun k => .ok (valK kvs k).isSome
  | _, _ => .no
def cutL {α : Type} (xs : List α) (lo hi : Option Int) : List α := (xs.drop (HT.sIx xs.length 0 lo)).take (HT.sIx xs.length xs.length hi - HT.sIx xs.length 0 lo)
def slD : D → Option Int → Option Int → R (D × Kd)
  | .lst xs, lo, hi => .ok (.lst (cutL xs lo hi), .nw)
  | .tup xs, lo, hi => .ok (.tup (cutL xs lo hi), .sh)
  | .str x, lo, hi => .ok (.str ⟨(cutL x.cps.toList lo hi).toArray⟩, .sh)
  | _, _, _ => .no
def allAlike (xs : List D) : Bool := xs.all fun x => xs.all fun y => PySem.W.alike (toPy x) (toPy y)
def sortableD (xs : List D) : Bool := (xs.all fun x => match x with | .tup (_ :: _) => true | _ => false) || (xs.all fun x => match x with | .int _ => true | .str _ => true | _ => false)
def sortD (xs : List D) : R (D × Kd) := R.guard (allAlike xs && sortableD xs && xs.all shp) (.ok (.lst (xs.mergeSort (PySem.W.dataLe false toPy)), .nw))
def minOf (x : D) (xs : List D) : D := xs.foldl (fun a y => if PySem.W.dataLt (toPy y) (toPy a) = true then y else a) x
def maxOf (x : D) (xs : List D) : D := xs.foldl (fun a y => if PySem.W.dataLt (toPy a) (toPy y) = true then y else a) x
def bestOk (xs : List D) : Bool := allAlike xs && xs.all shp && xs.all fun x => !isNon x
def bestD (f : D → List D → D) : List D → R (D × Kd)
  | x :: xs => R.guard (bestOk (x :: xs)) (.ok (f x xs, .sh))
  | [] => .no
def countD (x : D) (ys : List D) : Int := (ys.countP fun y => eqD y x : Nat)
def lenD : List D → R (D × Kd)
  | [.lst xs] => .ok (.int xs.length, .sh)
  | [.tup xs] => .ok (.int xs.length, .sh)
  | [.str x] => .ok (.int x.length, .sh)
  | [.dK x] => .ok (.int x.length, .sh)
  | _ => .no
def sumD : List D → R (D × Kd)
  | [.lst xs] => (intsD xs).bind fun l => .ok (.int l.sum, .sh)
  | [.tup xs] => (intsD xs).bind fun l => .ok (.int l.sum, .sh)
  | _ => .no
def absD : List D → R (D × Kd)
  | [.int i] => .ok (.int (if i < 0 then -i else i), .sh)
  | _ => .no
def minD : List D → R (D × Kd)
  | [.int i, .int j] => .ok (.int (if j < i then j else i), .sh)
  | [d] => (items d).bind (bestD minOf)
  | _ => .no
def maxD : List D → R (D × Kd)
  | [.int i, .int j] => .ok (.int (if j > i then j else i), .sh)
  | [d] => (items d).bind (bestD maxOf)
  | _ => .no
def sortedD : List D → R (D × Kd)
  | [d] => (items d).bind sortD
  | _ => .no
def listD : List D → R (D × Kd)
  | [d] => (items d).bind fun xs => .ok (.lst xs, .nw)
  | _ => .no
def tupleD : List D → R (D × Kd)
  | [d] => (items d).bind fun xs => .ok (.tup xs, .sh)
  | _ => .no
def allD : List D → R (D × Kd)
  | [.lst xs] => (boolsD xs).bind fun l => .ok (.bl (l.all id), .sh)
  | _ => .no
def anyD : List D → R (D × Kd)
  | [.lst xs] => (boolsD xs).bind fun l => .ok (.bl (l.any id), .sh)
  | _ => .no
def intD : List D → R (D × Kd)
  | [.int i] => .ok (.int i, .sh)
  | [.bl b] => .ok (.int (if b then 1 else 0), .sh)
  | _ => .no
def boolD : List D → R (D × Kd)
  | [.int i] => .ok (.bl (i != 0), .sh)
  | [.bl b] => .ok (.bl b, .sh)
  | _ => .no
def strD : List D → R (D × Kd)
  | [.int i] => R.guard (decide (i.natAbs.log2 < 1000)) (.ok (.str (toString i : String), .sh))
  | _ => .no
def joinD : List D → R (D × Kd)
  | [.str s, d] => (items d).bind fun xs => (strsD xs).bind fun l => R.guard (decide ((l.map (·.length)).sum + l.length * s.length ≤ line)) (.ok (.str (Txt.join s l), .sh))
  | _ => .no
def splitD : List D → R (D × Kd)
  | [.str s, .str t] => R.guard (!(t.length == 0) && decide (s.length + 2 ≤ line)) (.ok (.lst ((Txt.split s t).map D.str), .nw))
  | _ => .no
def biD : Bi → List D → R (D × Kd)
  | .len => lenD | .sum => sumD | .abs => absD | .min => minD | .max => maxD | .sorted => sortedD | .list => listD | .tuple => tupleD | .all => allD | .any => anyD
  | .int => intD | .str => strD | .bool => boolD | .join => joinD | .split => splitD
  | .get => fun _ => .no | .count => fun _ => .no | .index => fun _ => .no | .dict => fun _ => .no

mutual
def setPat : Pat → D → Env → R Env
  | .v i, d, ρ => .ok (ρ.set i (some ⟨d, 0⟩))
  | .t ps, .tup ds, ρ => setPats ps ds ρ
  | .t _, _, _ => .no
def setPats : List Pat → List D → Env → R Env
  | [], [], ρ => .ok ρ
  | p :: ps, d :: ds, ρ => (setPat p d ρ).bind fun ρ' => setPats ps ds ρ'
  | _, _, _ => .no
end
def wipeE (ρ : Env) : List Nat → Env
  | [] => ρ
  | i :: r => (wipeE ρ r).set i none
def notBw : Kd → Bool
  | .bw => false
  | .b2 => false
  | _ => true
def notB2 : Kd → Bool
  | .b2 => false
  | _ => true
def lcGo (f : D → R (Option D)) : List D → R (List D)
  | [] => .ok []
  | d :: r => (f d).bind fun o => (lcGo f r).bind fun l => .ok (match o with | some x => x :: l | none => l)
def zips : List (List D) → List (List D)
  | [a, b] => (a.zip b).map fun p => [p.1, p.2]
  | _ => []
def rangeD (lo hi : Int) : R (List D) := R.guard (decide (-1000000 ≤ lo) && decide (lo ≤ 1000000) && decide (-1000000 ≤ hi) && decide (hi ≤ 1000000)) (.ok ((List.range (hi - lo).toNat).map fun k : Nat => D.int (lo + k)))
def keyV : Key → D
  | .inl i => .int i
  | .inr x => .str x
def keyOkB : Key → Bool
  | .inl _ => true
  | .inr x => decide (x.length ≤ 16777216) && PyData.strOk x
def pairsD : List D → R (List (Key × D))
  | [] => .ok []
  | .tup [k, v] :: r => (keyD k).bind fun k => (pairsD r).bind fun l => .ok ((k, v) :: l)
  | _ => .no
/-- what is walked of a dict -/
def keysOf : D → R (List D)
  | .dK kvs => R.guard (kvs.all fun kv => keyOkB kv.1) (.ok (kvs.map fun kv => keyV kv.1))
  | .dT kvs => R.guard (kvs.all fun kv => kv.1.all keyOkB && decide (kv.1.length ≤ 1000)) (.ok (kvs.map fun kv => .tup (kv.1.map keyV)))
  | _ => .no
/-- some numbers, rising, each once -/
def dedupI : List Int → List Int
  | [] => []
  | a :: r => if a ∈ r then dedupI r else a :: dedupI r
def sortU (l : List Int) : List Int := (dedupI l).mergeSort fun a b => decide (a ≤ b)
def x1D : X1 → D → R (D × Kd)
  | .lrng, .int j => (rangeD 0 j).bind fun l => .ok (.lst l, .nw)
  | .sset, d => (items d).bind fun xs => (intsD xs).bind fun l => R.guard (decide (l.length ≤ 60)) (.ok (.lst ((sortU l).map .int), .nw))
  | .dprs, .lst xs => (pairsD xs).bind fun l => .ok (.dK (mergeD [] l), .nw)
  | .dcpy, .dK kvs => .ok (.dK kvs, .nw)
  | .vals, .dK kvs => .ok (.lst (kvs.map (·.2)), .nw)
  | .vals, .dT kvs => .ok (.lst (kvs.map (·.2)), .nw)
  | _, _ => .no
def x2D : X2 → D → D → R (D × Kd)
  | .lrng2, .int i, .int j => (rangeD i j).bind fun l => .ok (.lst l, .nw)
  | .count, .lst xs, d => R.guard (shp d && xs.all shp) (.ok (.int (countD d xs), .sh))
  | .one, k, v => (keyD k).bind fun k => .ok (.dK [(k, v)], .nw)
  | _, _, _ => .no
def x3D : X3 → D → D → D → R (D × Kd)
  | .get, .dK kvs, k, z => (keyD k).bind fun k => .ok ((valK kvs k).getD z, .sh)
  | .get, .dT kvs, .tup ks, z => (keysD ks).bind fun k => .ok ((valK kvs k).getD z, .sh)
  | _, _, _, _ => .no
/-- a range with a step -/
def stepD (i j k : Int) : R (List D) := R.guard (decide (k ≠ 0) && decide (k.natAbs < 1073741824) && PySem.Builtin.Range.small i j k && decide (0 ≤ PySem.Builtin.Range.rangeSize i j k) && decide (PySem.Builtin.Range.rangeSize i j k ≤ 4000000))
  (.ok ((List.range (PySem.Builtin.Range.rangeSize i j k).toNat).map fun m : Nat => D.int (i + (m : Nat) * k)))
mutual
/-- without a list or dict in it -/
def noL : D → Bool
  | .lst _ => false
  | .dK _ => false
  | .dT _ => false
  | .tup xs => noLs xs
  | _ => true
def noLs : List D → Bool
  | [] => true
  | x :: r => noL x && noLs r
end
def resOk : D × Bool → Bool
  | (.lst xs, true) => noLs xs
  | (d, false) => noL d
  | _ => false
/-- d.setdefault(k, []) -/
def sdK (kvs : List (Key × D)) (k : Key) : List (Key × D) := match valK kvs k with
  | some _ => kvs
  | none => putD kvs k (.lst [])
def retK : Kd → R Bool
  | .nw => .ok true
  | .bw => .ok true
  | .sh => .ok false
  | .b2 => .no
def kdOf : Nat → Kd
  | 0 => .sh
  | 1 => .bw
  | _ => .b2
def inKd : Kd → Kd
  | .b2 => .bw
  | _ => .sh
def toKd : Bool → Kd
  | true => .nw
  | false => .sh
mutual
def evE (C : CallT) : E → Env → R (D × Kd)
  | .k d, _ => .ok (d, .sh)
  | .v i, ρ => match ρ[i]? with
    | some (some s) => .ok (s.val, kdOf s.own)
    | _ => .no
  | .tup es, ρ => (evEs C es ρ).bind fun ds => R.guard (ds.all fun d => notBw d.2) (.ok (.tup (ds.map (·.1)), .sh))
  | .lst es, ρ => (evEs C es ρ).bind fun ds => R.guard (ds.all fun d => notBw d.2) (.ok (.lst (ds.map (·.1)), .nw))
  | .op o a b, ρ => (evE C a ρ).bind fun x => (evE C b ρ).bind fun y => op2D o x.1 y.1
  | .neg a, ρ => (evE C a ρ).bind fun x => match x.1 with | .int i => .ok (.int (-i), .sh) | _ => .no
  | .not a, ρ => (evE C a ρ).bind fun x => (isBl x.1).bind fun b => .ok (.bl (!b), .sh)
  | .and a b, ρ => (evE C a ρ).bind fun x => (isBl x.1).bind fun c => R.ite c (evE C b ρ) (.ok (.bl false, .sh))
  | .or a b, ρ => (evE C a ρ).bind fun x => (isBl x.1).bind fun c => R.ite c (.ok (.bl true, .sh)) (evE C b ρ)
  | .ite c a b, ρ => (evE C c ρ).bind fun x => (isBl x.1).bind fun c => R.ite c (evE C a ρ) (evE C b ρ)
  | .cmp o a b, ρ => (evE C a ρ).bind fun x => (evE C b ρ).bind fun y => (cmpD o x.1 y.1).bind fun c => .ok (.bl c, .sh)
  | .chain o p a b c, ρ => (evE C a ρ).bind fun x => (evE C b ρ).bind fun y => (cmpD o x.1 y.1).bind fun t => R.ite t ((evE C c ρ).bind fun z => (cmpD p y.1 z.1).bind fun u => .ok (.bl u, .sh)) (.ok (.bl false, .sh))
  | .call f es, ρ => (evEs C es ρ).bind fun ds => (C f (ds.map (·.1))).bind fun r => R.guard ((ds.all fun d => notBw d.2) || ((ds.all fun d => notB2 d.2) && resOk r)) (.ok (r.1, toKd r.2))
  | .bi f es, ρ => (evEs C es ρ).bind fun ds => biD f (ds.map (·.1))
  | .isi a t, ρ => (evE C a ρ).bind fun x => .ok (.bl (tyD t x.1), .sh)
  | .ix a b, ρ => (evE C a ρ).bind fun x => (evE C b ρ).bind fun y => (ixD x.1 y.1).bind fun d => .ok (d, .sh)
  | .dget a b, ρ => (evE C a ρ).bind fun x => (evE C b ρ).bind fun y => (dgetD x.1 y.1).bind fun d => .ok (d, inKd x.2)
  | .sl a lo hi, ρ => (evE C a ρ).bind fun x => (evO C lo ρ).bind fun l => (evO C hi ρ).bind fun h => slD x.1 l h
  | .rev a, ρ => (evE C a ρ).bind fun x => match x.1 with | .lst xs => .ok (.lst xs.reverse, .nw) | .tup xs => .ok (.tup xs.reverse, .sh) | _ => .no
  | .lc own elt p it ifs, ρ => (evIt C it ρ).bind fun ds => (lcGo (fun d => (setPat p d (wipeE ρ own)).bind fun ρ' => (evTs C ifs ρ').bind fun c => R.ite c ((evE C elt ρ').bind fun x => R.guard (notBw x.2) (.ok (some x.1))) (.ok none)) ds.1).bind fun l => .ok (.lst l, .nw)
  | .din a b, ρ => (evE C a ρ).bind fun x => (evE C b ρ).bind fun y => (dinD y.1 x.1).bind fun c => .ok (.bl c, .sh)
  | .dnin a b, ρ => (evE C a ρ).bind fun x => (evE C b ρ).bind fun y => (dinD y.1 x.1).bind fun c => .ok (.bl (!c), .sh)
  | .disp ks es, ρ => (evEs C es ρ).bind fun ds => R.guard (ds.all (fun d => notBw d.2) && decide (ks.length = ds.length) && decide (ks.length ≤ 15)) (.ok (.dK (mergeD [] (ks.zip (ds.map (·.1)))), .nw))
  | .dzip a b, ρ => (evE C a ρ).bind fun x => (evE C b ρ).bind fun y => (items x.1).bind fun xs => (items y.1).bind fun ys => (keysD xs).bind fun ks => R.guard (notBw x.2 && notBw y.2 && sameSeq x.1 y.1) (.ok (.dK (mergeD [] (ks.zip ys)), .nw))
  | .dict0 t, _ => .ok (match t with | true => .dT [] | false => .dK [], .nw)
  | .x1 f a, ρ => (evE C a ρ).bind fun x => R.guard (notB2 x.2) (x1D f x.1)
  | .x2 f a b, ρ => (evE C a ρ).bind fun x => (evE C b ρ).bind fun y => R.guard (notB2 x.2 && notBw y.2) (x2D f x.1 y.1)
  | .x3 f a b c, ρ => (evE C a ρ).bind fun x => (evE C b ρ).bind fun y => (evE C c ρ).bind fun z => R.guard (notB2 x.2 && notBw z.2) (x3D f x.1 y.1 z.1)
def evEs (C : CallT) : List E → Env → R (List (D × Kd))
  | [], _ => .ok []
  | e :: es, ρ => (evE C e ρ).bind fun x => (evEs C es ρ).bind fun l => .ok (x :: l)
def evO (C : CallT) : Option E → Env → R (Option Int)
  | none, _ => .ok none
  | some e, ρ => (evE C e ρ).bind fun x => match x.1 with | .int i => .ok (some i) | _ => .no
/-- some tests, one after another -/
def evTs (C : CallT) : List E → Env → R Bool
  | [], _ => .ok true
  | e :: es, ρ => (evE C e ρ).bind fun x => (isBl x.1).bind fun c => R.ite c (evTs C es ρ) (.ok false)
def evIt (C : CallT) : It → Env → R (List D × Bool)
  | .seq e, ρ => (evE C e ρ).bind fun x => (itemsI x.1).bind fun l => .ok (l, notBw x.2)
  | .rng1 a, ρ => (evE C a ρ).bind fun x => match x.1 with | .int j => (rangeD 0 j).bind fun l => .ok (l, true) | _ => .no
  | .rng2 a b, ρ => (evE C a ρ).bind fun x => (evE C b ρ).bind fun y => match x.1, y.1 with | .int i, .int j => (rangeD i j).bind fun l => .ok (l, true) | _, _ => .no
  | .rng3 a b c, ρ => (evE C a ρ).bind fun x => (evE C b ρ).bind fun y => (evE C c ρ).bind fun z => match x.1, y.1, z.1 with | .int i, .int j, .int k => (stepD i j k).bind fun l => .ok (l, true) | _, _, _ => .no
  | .zip es, ρ => (evEs C es ρ).bind fun ds => match ds with
    | [(.lst a, k), (.lst b, l)] => .ok ((a.zip b).map fun p => .tup [p.1, p.2], notBw k && notBw l)
    | [(.tup a, _), (.tup b, _)] => .ok ((a.zip b).map fun p => .tup [p.1, p.2], true)
    | _ => .no
  | .enum e, ρ => (evE C e ρ).bind fun x => match x.1 with
    | .lst l => .ok (l.zipIdx.map fun p => .tup [.int p.2, p.1], notBw x.2)
    | _ => .no
  | .keys i, ρ => match ρ[i]? with
    | some (some ⟨d, 0⟩) => (keysOf d).bind fun l => .ok (l, true)
    | _ => .no
end

inductive Flow where
  | nx (ρ : Env) | rt (d : D) (new : Bool) | bk (ρ : Env) | ct (ρ : Env)
def forGo (p : Pat) (f : Env → R Flow) : List D → Env → R Flow
  | [], ρ => .ok (.nx ρ)
  | d :: r, ρ => (setPat p d ρ).bind fun ρ' => (f ρ').bind fun o => match o with
    | .nx ρ'' => forGo p f r ρ''
    | .ct ρ'' => forGo p f r ρ''
    | .bk ρ'' => .ok (.nx ρ'')
    | .rt d k => .ok (.rt d k)
def whlGo (c : Env → R Bool) (f : Env → R Flow) : Nat → Env → R Flow
  | 0, _ => .no
  | n + 1, ρ => (c ρ).bind fun b => match b with
    | false => .ok (.nx ρ)
    | true => (f ρ).bind fun o => match o with
      | .nx ρ'' => whlGo c f n ρ''
      | .ct ρ'' => whlGo c f n ρ''
      | .bk ρ'' => .ok (.nx ρ'')
      | .rt d k => .ok (.rt d k)
def fuel : Nat := 1000000
/-- the list that a name owns -/
def ownL (ρ : Env) (i : Nat) : R (List D) := match ρ[i]? with
  | some (some ⟨.lst xs, 1⟩) => .ok xs
  | _ => .no
def setSlot (ρ : Env) (i : Nat) (d : D) (n : Nat) : Env := ρ.set i (some ⟨d, n⟩)
def stoD (ρ : Env) (i : Nat) (ix d : D) : R Env := match ρ[i]? with
  | some (some ⟨.lst xs, 1⟩) => match ix with
    | .int k => match ixN xs.length k with | some j => .ok (setSlot ρ i (.lst (xs.set j d)) 1) | none => .no
    | _ => .no
  | _ => .no
def dstD (ρ : Env) (i : Nat) (ix d : D) : R Env := match ρ[i]? with
  | some (some ⟨.dK kvs, 1⟩) => (keyD ix).bind fun k => R.guard (decide (kvs.length < line)) (.ok (setSlot ρ i (.dK (putD kvs k d)) 1))
  | some (some ⟨.dT kvs, 1⟩) => match ix with
    | .tup ks => (keysD ks).bind fun k => R.guard (decide (kvs.length < line)) (.ok (setSlot ρ i (.dT (putD kvs k d)) 1))
    | _ => .no
  | _ => .no
def exact : Kd → Bool
  | .nw => true
  | .bw => true
  | _ => false
def ownOk : Nat → Kd → D → Bool
  | 1, .nw, .lst _ => true
  | 1, .nw, .dK _ => true
  | 1, .nw, .dT _ => true
  | 2, .nw, .dK [] => true
  | _, _, _ => false
/-- a body that changes nothing: the list that is walked may be one's own -/
def lend : List S → Bool
  | [.ite _ [.ret _] []] => true
  | _ => false
mutual
def evS (C : CallT) : S → Env → R Flow
  | .asg p e own, ρ => (evE C e ρ).bind fun x => match own, p with
    | 0, p => R.guard (notBw x.2) ((setPat p x.1 ρ).bind fun ρ' => .ok (.nx ρ'))
    | n + 1, .v i => R.guard (ownOk (n + 1) x.2 x.1) (.ok (.nx (setSlot ρ i x.1 (n + 1))))
    | _, _ => .no
  | .sto i ix e, ρ => (evE C e ρ).bind fun x => R.guard (notBw x.2) ((evE C ix ρ).bind fun y => (stoD ρ i y.1 x.1).bind fun ρ' => .ok (.nx ρ'))
  | .dst i ix e, ρ => (evE C e ρ).bind fun x => R.guard (notBw x.2) ((evE C ix ρ).bind fun y => (dstD ρ i y.1 x.1).bind fun ρ' => .ok (.nx ρ'))
  | .app i e, ρ => (ownL ρ i).bind fun xs => (evE C e ρ).bind fun x => R.guard (notBw x.2 && decide (xs.length < line)) (.ok (.nx (setSlot ρ i (.lst (xs ++ [x.1])) 1)))
  | .ext i e, ρ => (ownL ρ i).bind fun xs => (evE C e ρ).bind fun x => match x.1 with
    | .lst ys => R.guard (exact x.2 && decide (xs.length + ys.length ≤ line)) (.ok (.nx (setSlot ρ i (.lst (xs ++ ys)) 1)))
    | _ => .no
  | .appPop i j e, ρ => (ownL ρ i).bind fun xs => (ownL ρ j).bind fun ys => (evE C e ρ).bind fun k => match k.1 with
    | .int k => match (if decide (-9223372036854775808 ≤ k) && decide (k < 9223372036854775808) then seqIndex? k ys.length else none) with
      | some n => match ys[n]? with
        | some d => R.guard (!(i == j) && decide (xs.length < line)) (.ok (.nx (setSlot (setSlot ρ j (.lst (ys.eraseIdx n)) 1) i (.lst (xs ++ [d])) 1)))
        | none => .no
      | none => .no
    | _ => .no
  | .asgPop i j e, ρ => .no
  | .sda i k e, ρ => (evE C k ρ).bind fun y => match ρ[i]? with
    | some (some ⟨.dK kvs, 2⟩) => (keyD y.1).bind fun κ => R.guard (decide (kvs.length < line) && decide ((kvs.map (·.1)).Nodup)) ((evE C e (setSlot ρ i (.dK (sdK kvs κ)) 2)).bind fun x => match valK (sdK kvs κ) κ with
      | some (.lst xs) => R.guard (notBw x.2 && decide (xs.length < line)) (.ok (.nx (setSlot ρ i (.dK (putD (sdK kvs κ) κ (.lst (xs ++ [x.1])))) 2)))
      | _ => .no)
    | _ => .no
  | .ex e, ρ => (evE C e ρ).bind fun _ => .ok (.nx ρ)
  | .ret e, ρ => (evE C e ρ).bind fun x => (retK x.2).bind fun k => .ok (.rt x.1 k)
  | .retN, _ => .ok (.rt .non false)
  | .ite c a b, ρ => (evE C c ρ).bind fun x => (isBl x.1).bind fun c => R.ite c (evSs C a ρ) (evSs C b ρ)
  | .for_ p it body, ρ => (evIt C it ρ).bind fun ds => R.guard (ds.2 || lend body) (forGo p (fun ρ => evSs C body ρ) ds.1 ρ)
  | .whl c body, ρ => whlGo (fun ρ => (evE C c ρ).bind fun x => isBl x.1) (fun ρ => evSs C body ρ) fuel ρ
  | .pass, ρ => .ok (.nx ρ)
  | .never, _ => .no
  | .brk, ρ => .ok (.bk ρ)
  | .cont, ρ => .ok (.ct ρ)
  | .frz i, ρ => match ρ[i]? with
    | some (some ⟨d, 1⟩) => .ok (.nx (setSlot ρ i d 0))
    | some (some ⟨d, 2⟩) => .ok (.nx (setSlot ρ i d 0))
    | _ => .no
  | .m0 .rev i, ρ => (ownL ρ i).bind fun xs => .ok (.nx (setSlot ρ i (.lst xs.reverse) 1))
def evSs (C : CallT) : List S → Env → R Flow
  | [], ρ => .ok (.nx ρ)
  | s :: r, ρ => (evS C s ρ).bind fun o => match o with
    | .nx ρ' => evSs C r ρ'
    | .rt d k => .ok (.rt d k)
    | .bk ρ' => .ok (.bk ρ')
    | .ct ρ' => .ok (.ct ρ')
end
structure Fn where
  params : Nat
  slots : Nat
  body : List S
def start0 (ds : List D) (n : Nat) : Env := (ds.map fun d => some ⟨d, 0⟩) ++ List.replicate (n - ds.length) none
def runF (C : CallT) (f : Fn) (ds : List D) : R (D × Bool) := R.guard (ds.length == f.params) ((evSs C f.body (start0 ds f.slots)).bind fun o => match o with
  | .rt d k => .ok (d, k)
  | .nx _ => .ok (.non, false)
  | _ => .no)
def run (F : List Fn) : Nat → CallT
  | 0, _, _ => .no
  | n + 1, f, ds => match F[f]? with
    | some fn => runF (run F n) fn ds
    | none => .no
end Fw

namespace Fw
open PySem L2

/-! ### how data lies in the abstract heap -/
def StrOk (x : Str) : Prop := x.length ≤ sizeLine ∧ PyData.strOk x = true
mutual
inductive Rep (K : PySem.W.Frag) (G : Hp) : V → D → Prop
  | non : Rep K G .non .non
  | bl (b : Bool) : Rep K G (.bl b) (.bl b)
  | int (i : Int) : Rep K G (.int i) (.int i)
  | str (x : Str) : StrOk x → Rep K G (.str x) (.str x)
  | lst {a : Addr} {vs : List V} {ds : List D} : SqL K G a vs → vs.length ≤ sizeLine → Reps K G vs ds → Rep K G (.ref a) (.lst ds)
  | tup {a : Addr} {vs : List V} {ds : List D} : G a = some (.tup vs) → vs.length ≤ sizeLine → Reps K G vs ds → Rep K G (.ref a) (.tup ds)
  | dK {a : Addr} {kvs : List (Key × V)} {ds : List (Key × D)} : Rd G a (.dK kvs) → kvs.length ≤ sizeLine → RepK K G kvs ds → Rep K G (.ref a) (.dK ds)
  | dT {a : Addr} {kvs : List (List Key × V)} {ds : List (List Key × D)} : Rd G a (.dT kvs) → kvs.length ≤ sizeLine → RepT K G kvs ds → Rep K G (.ref a) (.dT ds)
inductive Reps (K : PySem.W.Frag) (G : Hp) : List V → List D → Prop
  | nil : Reps K G [] []
  | cons {v : V} {vs : List V} {d : D} {ds : List D} : Rep K G v d → Reps K G vs ds → Reps K G (v :: vs) (d :: ds)
inductive RepK (K : PySem.W.Frag) (G : Hp) : List (Key × V) → List (Key × D) → Prop
  | nil : RepK K G [] []
  | cons {k : Key} {v : V} {vs : List (Key × V)} {d : D} {ds : List (Key × D)} : Rep K G v d → RepK K G vs ds → RepK K G ((k, v) :: vs) ((k, d) :: ds)
inductive RepT (K : PySem.W.Frag) (G : Hp) : List (List Key × V) → List (List Key × D) → Prop
  | nil : RepT K G [] []
  | cons {k : List Key} {v : V} {vs : List (List Key × V)} {d : D} {ds : List (List Key × D)} : Rep K G v d → RepT K G vs ds → RepT K G ((k, v) :: vs) ((k, d) :: ds)
end
theorem Same.seqT {K : PySem.W.Frag} {H H' : Hp} {a : Addr} {xs : List V} (e : Same H H') (h : SqT K H a xs) : SqT K H' a xs := by
  rcases h with (h | ⟨o, h⟩) | h
  · exact .inl (.inl (e _ _ h))
  · exact .inl (.inr ⟨o, e _ _ h⟩)
  · exact .inr h
theorem Same.rd {H H' : Hp} {a : Addr} {u : HO} (e : Same H H') (h : Rd H a u) : Rd H' a u := by
  rcases h with h | ⟨o, h⟩
  · exact .inl (e _ _ h)
  · exact .inr ⟨o, e _ _ h⟩
mutual
theorem Rep.mono {K : PySem.W.Frag} {G G' : Hp} (s : Same G G') : ∀ {v : V} {d : D}, Rep K G v d → Rep K G' v d
  | _, _, .non => .non
  | _, _, .bl b => .bl b
  | _, _, .int i => .int i
  | _, _, .str x h => .str x h
  | _, _, .lst h1 h2 h3 => .lst (s.seq h1) h2 (Reps.mono s h3)
  | _, _, .tup h1 h2 h3 => .tup (s _ _ h1) h2 (Reps.mono s h3)
  | _, _, .dK h1 h2 h3 => .dK (Same.rd s h1) h2 (RepK.mono s h3)
  | _, _, .dT h1 h2 h3 => .dT (Same.rd s h1) h2 (RepT.mono s h3)
theorem Reps.mono {K : PySem.W.Frag} {G G' : Hp} (s : Same G G') : ∀ {vs : List V} {ds : List D}, Reps K G vs ds → Reps K G' vs ds
  | _, _, .nil => .nil
  | _, _, .cons h t => .cons (Rep.mono s h) (Reps.mono s t)
theorem RepK.mono {K : PySem.W.Frag} {G G' : Hp} (s : Same G G') : ∀ {vs : List (Key × V)} {ds : List (Key × D)}, RepK K G vs ds → RepK K G' vs ds
  | _, _, .nil => .nil
  | _, _, .cons h t => .cons (Rep.mono s h) (RepK.mono s t)
theorem RepT.mono {K : PySem.W.Frag} {G G' : Hp} (s : Same G G') : ∀ {vs : List (List Key × V)} {ds : List (List Key × D)}, RepT K G vs ds → RepT K G' vs ds
  | _, _, .nil => .nil
  | _, _, .cons h t => .cons (Rep.mono s h) (RepT.mono s t)
end
section
variable {K : PySem.W.Frag} {G H : Hp}
theorem Reps.length : ∀ {vs : List V} {ds : List D}, Reps K G vs ds → vs.length = ds.length
  | _, _, .nil => rfl
  | _, _, .cons _ t => by rw [List.length_cons, List.length_cons, t.length]
theorem RepK.length : ∀ {vs : List (Key × V)} {ds : List (Key × D)}, RepK K G vs ds → vs.length = ds.length
  | _, _, .nil => rfl
  | _, _, .cons _ t => by rw [List.length_cons, List.length_cons, t.length]
theorem RepT.length : ∀ {vs : List (List Key × V)} {ds : List (List Key × D)}, RepT K G vs ds → vs.length = ds.length
  | _, _, .nil => rfl
  | _, _, .cons _ t => by rw [List.length_cons, List.length_cons, t.length]
theorem Reps.append : ∀ {vs ws : List V} {ds es : List D}, Reps K G vs ds → Reps K G ws es → Reps K G (vs ++ ws) (ds ++ es)
  | _, _, _, _, .nil, h => h
  | _, _, _, _, .cons h t, q => .cons h (t.append q)
theorem Reps.get : ∀ {vs : List V} {ds : List D} {i : Nat} {d : D}, Reps K G vs ds → ds[i]? = some d → ∃ v, vs[i]? = some v ∧ Rep K G v d
  | _, _, _, _, .nil, e => by simp at e
  | _, _, 0, _, .cons h _, e => by simp at e; subst e; exact ⟨_, rfl, h⟩
  | _, _, i + 1, d, .cons _ t, e => by
    obtain ⟨v, h1, h2⟩ := Reps.get (i := i) (d := d) t (by simpa using e)
    exact ⟨v, by simpa using h1, h2⟩
theorem Reps.getV : ∀ {vs : List V} {ds : List D} {i : Nat} {v : V}, Reps K G vs ds → vs[i]? = some v → ∃ d, ds[i]? = some d ∧ Rep K G v d
  | _, _, _, _, .nil, e => by simp at e
  | _, _, 0, _, .cons h _, e => by simp at e; subst e; exact ⟨_, rfl, h⟩
  | _, _, i + 1, d, .cons _ t, e => by
    obtain ⟨v, h1, h2⟩ := Reps.getV (i := i) (v := d) t (by simpa using e)
    exact ⟨v, by simpa using h1, h2⟩
theorem Reps.take : ∀ {vs : List V} {ds : List D} (n : Nat), Reps K G vs ds → Reps K G (vs.take n) (ds.take n)
  | _, _, 0, _ => .nil
  | _, _, _ + 1, .nil => .nil
  | _, _, n + 1, .cons h t => .cons h (Reps.take n t)
theorem Reps.drop : ∀ {vs : List V} {ds : List D} (n : Nat), Reps K G vs ds → Reps K G (vs.drop n) (ds.drop n)
  | _, _, 0, r => r
  | _, _, _ + 1, .nil => .nil
  | _, _, n + 1, .cons _ t => Reps.drop n t
theorem Reps.set {v : V} {d : D} (r : Rep K G v d) : ∀ {vs : List V} {ds : List D} (i : Nat), Reps K G vs ds → Reps K G (vs.set i v) (ds.set i d)
  | _, _, _, .nil => .nil
  | _, _, 0, .cons _ t => .cons r t
  | _, _, i + 1, .cons q t => .cons q (Reps.set r i t)
theorem Reps.eraseIdx : ∀ {vs : List V} {ds : List D} (i : Nat), Reps K G vs ds → Reps K G (vs.eraseIdx i) (ds.eraseIdx i)
  | _, _, _, .nil => .nil
  | _, _, 0, .cons _ t => t
  | _, _, i + 1, .cons q t => .cons q (Reps.eraseIdx i t)
theorem Reps.reverse : ∀ {vs : List V} {ds : List D}, Reps K G vs ds → Reps K G vs.reverse ds.reverse
  | _, _, .nil => .nil
  | _, _, .cons h t => by rw [List.reverse_cons, List.reverse_cons]; exact t.reverse.append (.cons h .nil)
theorem Reps.flat : ∀ {vs : List V} {ds : List D} (n : Nat), Reps K G vs ds → Reps K G (List.replicate n vs).flatten (List.replicate n ds).flatten
  | _, _, 0, _ => .nil
  | vs, ds, n + 1, h => by
    rw [List.replicate_succ, List.replicate_succ, List.flatten_cons, List.flatten_cons]
    exact h.append (Reps.flat n h)
end

/-- an object of a name's own: what it holds is everybody's -/
def Cont (K : PySem.W.Frag) (G H : Hp) (p : Addr) : D → Prop
  | .lst ds => ∃ vs, H p = some (.lst vs) ∧ vs.length ≤ sizeLine ∧ Reps K G vs ds
  | .dK ds => ∃ kvs, H p = some (.dK kvs) ∧ kvs.length ≤ sizeLine ∧ RepK K G kvs ds
  | .dT ds => ∃ kvs, H p = some (.dT kvs) ∧ kvs.length ≤ sizeLine ∧ RepT K G kvs ds
  | _ => False
/-- a dict of lists: the inner ones at qs -/
inductive Own2 (K : PySem.W.Frag) (G H : Hp) : List (Key × V) → List (Key × D) → List Addr → Prop
  | nil : Own2 K G H [] [] []
  | cons {k : Key} {q : Addr} {vs : List V} {ds : List D} {kvs : List (Key × V)} {dvs : List (Key × D)} {qs : List Addr} : H q = some (.lst vs) → vs.length ≤ sizeLine → Reps K G vs ds → Own2 K G H kvs dvs qs →
      Own2 K G H ((k, .ref q) :: kvs) ((k, .lst ds) :: dvs) (q :: qs)
def Root (K : PySem.W.Frag) : Nat → Hp → Hp → Addr → D → List Addr → Prop
  | 0, _, _, _, _, _ => False
  | 1, G, H, p, d, A => A = [p] ∧ G p = none ∧ Cont K G H p d
  | _, G, H, p, d, A => ∃ kvs dvs qs, d = .dK dvs ∧ A = p :: qs ∧ A.Nodup ∧ (∀ a ∈ A, G a = none) ∧ H p = some (.dK kvs) ∧ kvs.length ≤ sizeLine ∧ Own2 K G H kvs dvs qs
structure Step (G H G' H' : Hp) : Prop where
  g : Same G G'
  h : Same H H'
  sub : Same G' H'
  new : ∀ p o, G' p = some o → G p = some o ∨ H p = none ∨ ∃ xs, o = .tup xs
theorem Step.refl {G H : Hp} (s : Same G H) : Step G H G H := ⟨Same.refl _, Same.refl _, s, fun _ _ h => .inl h⟩
theorem Step.trans {G H G1 H1 G2 H2 : Hp} (a : Step G H G1 H1) (b : Step G1 H1 G2 H2) : Step G H G2 H2 := ⟨a.g.trans b.g, a.h.trans b.h, b.sub, fun p o h => by
  rcases b.new p o h with h | h | h
  · exact a.new p o h
  · exact .inr (.inl (a.h.free h))
  · exact .inr (.inr h)⟩
theorem Step.none {G H G' H' : Hp} (s : Step G H G' H') {p : Addr} (h : G p = Option.none) (hp : ∃ o, H p = some o ∧ ∀ xs, o ≠ .tup xs) : G' p = Option.none := by
  cases q : G' p with
  | none => rfl
  | some o =>
    rcases s.new p o q with e | e | ⟨xs, e⟩
    · rw [h] at e; cases e
    · obtain ⟨u, hu, _⟩ := hp
      rw [hu] at e; cases e
    · obtain ⟨u, hu, hx⟩ := hp
      have e1 := s.sub _ _ q
      have e2 := s.h _ _ hu
      rw [e2] at e1
      cases e1
      exact (hx xs e).elim
/-- a new object, everybody's -/
theorem Step.newG {G H : Hp} (s : Same G H) {p : Addr} {o : HO} (h : H p = Option.none) : Step G H (upd G p o) (upd H p o) := by
  refine ⟨fun b u e => ?_, fun b u e => ?_, fun b u e => ?_, fun b u e => ?_⟩
  · rw [upd_ne (fun z => by subst z; rw [s.free h] at e; cases e)]; exact e
  · rw [upd_ne (fun z => by subst z; rw [h] at e; cases e)]; exact e
  · by_cases z : b = p
    · subst z; rw [upd_same] at e ⊢; exact e
    · rw [upd_ne z] at e ⊢; exact s b u e
  · by_cases z : b = p
    · subst z; exact .inr (.inl h)
    · rw [upd_ne z] at e; exact .inl e
/-- a new object, nobody's yet -/
theorem Step.newH {G H : Hp} (s : Same G H) {p : Addr} {o : HO} (h : H p = Option.none) : Step G H G (upd H p o) := by
  refine ⟨Same.refl _, fun b u e => ?_, fun b u e => ?_, fun b u e => .inl e⟩
  · rw [upd_ne (fun z => by subst z; rw [h] at e; cases e)]; exact e
  · rw [upd_ne (fun z => by subst z; rw [s.free h] at e; cases e)]; exact s b u e
theorem Cont.mono {K : PySem.W.Frag} {G H G' H' : Hp} (s : Step G H G' H') {p : Addr} : ∀ {d : D}, Cont K G H p d → Cont K G' H' p d
  | .lst _, ⟨vs, a, b, c⟩ => ⟨vs, s.h _ _ a, b, c.mono s.g⟩
  | .dK _, ⟨vs, a, b, c⟩ => ⟨vs, s.h _ _ a, b, c.mono s.g⟩
  | .dT _, ⟨vs, a, b, c⟩ => ⟨vs, s.h _ _ a, b, c.mono s.g⟩
  | .non, h => h.elim
  | .bl _, h => h.elim
  | .int _, h => h.elim
  | .str _, h => h.elim
  | .tup _, h => h.elim
theorem Cont.there {K : PySem.W.Frag} {G H : Hp} {p : Addr} : ∀ {d : D}, Cont K G H p d → ∃ o, H p = some o ∧ ∀ xs, o ≠ .tup xs
  | .lst _, ⟨vs, a, b, c⟩ => ⟨_, a, fun _ z => nomatch z⟩
  | .dK _, ⟨vs, a, b, c⟩ => ⟨_, a, fun _ z => nomatch z⟩
  | .dT _, ⟨vs, a, b, c⟩ => ⟨_, a, fun _ z => nomatch z⟩
  | .non, h => h.elim
  | .bl _, h => h.elim
  | .int _, h => h.elim
  | .str _, h => h.elim
  | .tup _, h => h.elim
/-- everybody's from now on -/
theorem Cont.rep {K : PySem.W.Frag} {G H G' : Hp} {p : Addr} (s : Same G G') (e : ∀ o, H p = some o → G' p = some o) : ∀ {d : D}, Cont K G H p d → Rep K G' (.ref p) d
  | .lst _, ⟨vs, a, b, c⟩ => .lst (.of (e _ a)) b (c.mono s)
  | .dK _, ⟨vs, a, b, c⟩ => .dK (.inl (e _ a)) b (c.mono s)
  | .dT _, ⟨vs, a, b, c⟩ => .dT (.inl (e _ a)) b (c.mono s)
  | .non, h => h.elim
  | .bl _, h => h.elim
  | .int _, h => h.elim
  | .str _, h => h.elim
  | .tup _, h => h.elim
theorem Own2.mono {K : PySem.W.Frag} {G H G' H' : Hp} (s : Step G H G' H') : ∀ {kvs : List (Key × V)} {dvs : List (Key × D)} {qs : List Addr}, Own2 K G H kvs dvs qs → Own2 K G' H' kvs dvs qs
  | _, _, _, .nil => .nil
  | _, _, _, .cons a b c t => .cons (s.h _ _ a) b (c.mono s.g) (Own2.mono s t)
theorem Own2.there {K : PySem.W.Frag} {G H : Hp} : ∀ {kvs : List (Key × V)} {dvs : List (Key × D)} {qs : List Addr}, Own2 K G H kvs dvs qs → ∀ q ∈ qs, ∃ o, H q = some o ∧ ∀ xs, o ≠ .tup xs
  | _, _, _, .nil => fun _ h => nomatch h
  | _, _, _, .cons a _ _ t => fun q h => by
    rcases List.mem_cons.mp h with e | h
    · subst e; exact ⟨_, a, fun _ z => nomatch z⟩
    · exact t.there q h
theorem Root.there {K : PySem.W.Frag} : ∀ {n : Nat} {G H : Hp} {p : Addr} {d : D} {A : List Addr}, Root K n G H p d A → ∀ a ∈ A, ∃ o, H a = some o ∧ ∀ xs, o ≠ .tup xs
  | 0, _, _, _, _, _, h => h.elim
  | 1, _, _, _, _, _, ⟨e, _, c⟩ => fun a h => by subst e; rw [List.mem_singleton] at h; subst h; exact c.there
  | _ + 2, _, _, _, _, _, ⟨kvs, dvs, qs, _, e, _, _, h, _, t⟩ => fun a m => by
    subst e
    rcases List.mem_cons.mp m with e | m
    · subst e; exact ⟨_, h, fun _ z => nomatch z⟩
    · exact t.there a m
theorem Root.mono {K : PySem.W.Frag} {G H G' H' : Hp} (s : Step G H G' H') : ∀ {n : Nat} {p : Addr} {d : D} {A : List Addr}, Root K n G H p d A → Root K n G' H' p d A
  | 0, _, _, _, h => h.elim
  | 1, _, _, _, ⟨e, n, c⟩ => ⟨e, s.none n c.there, c.mono s⟩
  | _ + 2, _, _, _, ⟨kvs, dvs, qs, a, b, c, n, h, l, t⟩ => ⟨kvs, dvs, qs, a, b, c, fun z m => s.none (n z m) (by
      subst b
      rcases List.mem_cons.mp m with e | m
      · subst e; exact ⟨_, h, fun _ z => nomatch z⟩
      · exact t.there z m), s.h _ _ h, l, t.mono s⟩
theorem Root.head {K : PySem.W.Frag} : ∀ {n : Nat} {G H : Hp} {p : Addr} {d : D} {A : List Addr}, Root K n G H p d A → p ∈ A
  | 0, _, _, _, _, _, h => h.elim
  | 1, _, _, _, _, _, ⟨e, _, _⟩ => by subst e; exact List.mem_singleton_self _
  | _ + 2, _, _, _, _, _, ⟨kvs, dvs, qs, _, e, _⟩ => by subst e; exact List.mem_cons_self

/-- the heaps at a def's entry -/
structure Bs where
  G : Hp
  H : Hp
/-- the frame's names hold such data -/
structure SimF (B : Bs) (K : PySem.W.Frag) (fp : Nat → List Addr) (ρ : Env) (σ : St) (G H : Hp) : Prop where
  sub : Same G H
  extG : Same B.G G
  extH : Same B.H H
  nG : ∀ p o, G p = some o → B.G p = some o ∨ B.H p = none ∨ ∃ xs, o = .tup xs
  len : ρ.length = σ.length
  sh : ∀ (i : Nat) (d : D), ρ[i]? = some (some (⟨d, 0⟩ : Slot)) → ∃ v, σ[i]? = some (some v) ∧ Rep K G v d
  own : ∀ (i : Nat) (d : D) (n : Nat), ρ[i]? = some (some (⟨d, n + 1⟩ : Slot)) → (∃ p, σ[i]? = some (some (.ref p)) ∧ Root K (n + 1) G H p d (fp i)) ∧ ∀ a ∈ fp i, B.H a = none
  ne : ∀ (i j : Nat) (d e : D) (n m : Nat), i ≠ j → ρ[i]? = some (some (⟨d, n + 1⟩ : Slot)) → ρ[j]? = some (some (⟨e, m + 1⟩ : Slot)) → ∀ a ∈ fp i, a ∉ fp j
def Sim (B : Bs) (K : PySem.W.Frag) (ρ : Env) (σ : St) (G H : Hp) : Prop := ∃ fp, SimF B K fp ρ σ G H
theorem SimF.step {B : Bs} {K : PySem.W.Frag} {fp : Nat → List Addr} {ρ : Env} {σ : St} {G H G' H' : Hp} (s : SimF B K fp ρ σ G H) (t : Step G H G' H') : SimF B K fp ρ σ G' H' where
  sub := t.sub
  extG := s.extG.trans t.g
  extH := s.extH.trans t.h
  nG := fun p o h => by
    rcases t.new p o h with h | h | h
    · exact s.nG p o h
    · exact .inr (.inl (s.extH.free h))
    · exact .inr (.inr h)
  len := s.len
  sh := fun i d h => by
    obtain ⟨v, e, r⟩ := s.sh i d h
    exact ⟨v, e, r.mono t.g⟩
  own := fun i d n h => by
    obtain ⟨⟨p, e, r⟩, q⟩ := s.own i d n h
    exact ⟨⟨p, e, r.mono t⟩, q⟩
  ne := s.ne
theorem Sim.step {B : Bs} {K : PySem.W.Frag} {ρ : Env} {σ : St} {G H G' H' : Hp} (s : Sim B K ρ σ G H) (t : Step G H G' H') : Sim B K ρ σ G' H' := let ⟨fp, s⟩ := s; ⟨fp, s.step t⟩
theorem Sim.sub {B : Bs} {K : PySem.W.Frag} {ρ : Env} {σ : St} {G H : Hp} (s : Sim B K ρ σ G H) : Same G H := let ⟨_, s⟩ := s; s.sub

/-- what an expression's value is -/
def Out (B : Bs) (K : PySem.W.Frag) (H : Hp) (d : D) (v : V) (G' H' : Hp) : Kd → Prop
  | .sh => Rep K G' v d
  | .nw => ∃ p, v = .ref p ∧ H p = none ∧ G' p = none ∧ Cont K G' H' p d
  | .bw => ∃ p, v = .ref p ∧ B.H p = none ∧ G' p = none ∧ Cont K G' H' p d
  | .b2 => ∃ p A, v = .ref p ∧ (∀ a ∈ A, B.H a = none) ∧ Root K 2 G' H' p d A
theorem Out.step {B : Bs} {K : PySem.W.Frag} {H : Hp} {d : D} {v : V} {G1 H1 G2 H2 : Hp} (t : Step G1 H1 G2 H2) : ∀ {k : Kd}, Out B K H d v G1 H1 k → Out B K H d v G2 H2 k
  | .sh, h => Rep.mono t.g h
  | .nw, ⟨p, e, n, g, c⟩ => ⟨p, e, n, t.none g c.there, c.mono t⟩
  | .bw, ⟨p, e, n, g, c⟩ => ⟨p, e, n, t.none g c.there, c.mono t⟩
  | .b2, ⟨p, A, e, n, r⟩ => ⟨p, A, e, n, r.mono t⟩
/-- an elder beginning -/
theorem Out.back {B : Bs} {K : PySem.W.Frag} {H0 H : Hp} {d : D} {v : V} {G1 H1 : Hp} (s : Same H0 H) : ∀ {k : Kd}, Out B K H d v G1 H1 k → Out B K H0 d v G1 H1 k
  | .sh, h => h
  | .nw, ⟨p, e, n, g, c⟩ => ⟨p, e, s.free n, g, c⟩
  | .bw, h => h
  | .b2, h => h
/-- .. as it is to be read -/
theorem Out.rep {B : Bs} {K : PySem.W.Frag} {H : Hp} {d : D} {v : V} {G' H' : Hp} (s : Same G' H') : ∀ {k : Kd}, Out B K H d v G' H' k → k ≠ .b2 → Rep K H' v d
  | .sh, h, _ => Rep.mono s h
  | .nw, ⟨p, e, n, g, c⟩, _ => by subst e; exact c.rep s fun _ h => h
  | .bw, ⟨p, e, n, g, c⟩, _ => by subst e; exact c.rep s fun _ h => h
  | .b2, _, h => (h rfl).elim
/-- .. made everybody's -/
theorem Out.share {B : Bs} {K : PySem.W.Frag} {G H : Hp} {d : D} {v : V} {G' H' : Hp} (t : Step G H G' H') : ∀ {k : Kd}, Out B K H d v G' H' k → notBw k = true → ∃ G'', Step G H G'' H' ∧ Rep K G'' v d
  | .sh, h, _ => ⟨G', t, h⟩
  | .bw, _, h => nomatch h
  | .b2, _, h => nomatch h
  | .nw, ⟨p, e, n, g, c⟩, _ => by
    subst e
    obtain ⟨o, ho, hno⟩ := c.there
    have s1 : Same G' (upd G' p o) := fun b u e => by rw [upd_ne (fun z => by subst z; rw [g] at e; cases e)]; exact e
    refine ⟨upd G' p o, ⟨t.g.trans s1, t.h, fun b u e => ?_, fun b u e => ?_⟩, c.rep s1 fun u hu => ?_⟩
    · by_cases z : b = p
      · subst z; rw [upd_same] at e; cases e; exact ho
      · rw [upd_ne z] at e; exact t.sub b u e
    · by_cases z : b = p
      · subst z; exact .inr (.inl n)
      · rw [upd_ne z] at e; exact t.new b u e
    · rw [ho] at hu; cases hu; exact upd_same

/-! ### expressions -/
/-- the expression yields what the language's one does -/
def VE (X : Cx) (C : CallT) (e : Expr) (ir : E) : Prop := ∃ t : TE, PE X e t ∧ ∀ (B : Bs) (ρ : Env) (σ : St) (G H : Hp) (Q : VK) (d : D) (k : Kd), Sim B X.K ρ σ G H → evE C ir ρ = .ok (d, k) →
  (∀ v G' H', Step G H G' H' → Out B X.K H d v G' H' k → Q v H') → t σ H Q
def shK : Kd → Kd
  | .nw => .sh
  | k => k
/-- several values, the new ones made everybody's -/
inductive Outs (B : Bs) (K : PySem.W.Frag) (H G' H' : Hp) : List V → List (D × Kd) → Prop
  | nil : Outs B K H G' H' [] []
  | cons {v : V} {vs : List V} {d : D} {k : Kd} {ds : List (D × Kd)} : Out B K H d v G' H' (shK k) → Outs B K H G' H' vs ds → Outs B K H G' H' (v :: vs) ((d, k) :: ds)
theorem Outs.step {B : Bs} {K : PySem.W.Frag} {H G1 H1 G2 H2 : Hp} (t : Step G1 H1 G2 H2) : ∀ {vs : List V} {ds : List (D × Kd)}, Outs B K H G1 H1 vs ds → Outs B K H G2 H2 vs ds
  | _, _, .nil => .nil
  | _, _, .cons a r => .cons (a.step t) (r.step t)
theorem Outs.back {B : Bs} {K : PySem.W.Frag} {H0 H G1 H1 : Hp} (s : Same H0 H) : ∀ {vs : List V} {ds : List (D × Kd)}, Outs B K H G1 H1 vs ds → Outs B K H0 G1 H1 vs ds
  | _, _, .nil => .nil
  | _, _, .cons a r => .cons (a.back s) (r.back s)
theorem Outs.length {B : Bs} {K : PySem.W.Frag} {H G1 H1 : Hp} : ∀ {vs : List V} {ds : List (D × Kd)}, Outs B K H G1 H1 vs ds → vs.length = ds.length
  | _, _, .nil => rfl
  | _, _, .cons _ r => by rw [List.length_cons, List.length_cons, r.length]
theorem Outs.reps {B : Bs} {K : PySem.W.Frag} {H G1 H1 : Hp} : ∀ {vs : List V} {ds : List (D × Kd)}, Outs B K H G1 H1 vs ds → (ds.all fun d => notBw d.2) = true → Reps K G1 vs (ds.map (·.1))
  | _, _, .nil, _ => .nil
  | _, _, .cons (k := .sh) a r, h => .cons a (r.reps (by simpa [notBw] using h))
  | _, _, .cons (k := .nw) a r, h => .cons a (r.reps (by simpa [notBw] using h))
  | _, _, .cons (k := .bw) a r, h => by simp [notBw] at h
  | _, _, .cons (k := .b2) a r, h => by simp [notBw] at h
/-- several -/
def VA (X : Cx) (C : CallT) (es : List Expr) (irs : List E) : Prop := ∃ t : TA, PA X es t ∧ ∀ (B : Bs) (ρ : Env) (σ : St) (G H : Hp) (Q : List V → Hp → Prop) (ds : List (D × Kd)), Sim B X.K ρ σ G H → evEs C irs ρ = .ok ds →
  (∀ vs G' H', Step G H G' H' → Outs B X.K H G' H' vs ds → Q vs H') → t σ H Q
/-- a test -/
def VT (X : Cx) (C : CallT) (e : Expr) (ir : E) : Prop := ∃ t : TT, PT X e t ∧ ∀ (B : Bs) (ρ : Env) (σ : St) (G H : Hp) (Q : Bool → Hp → Prop) (b : Bool) (k : Kd), Sim B X.K ρ σ G H → evE C ir ρ = .ok (.bl b, k) →
  (∀ G' H', Step G H G' H' → Q b H') → t σ H Q
section
variable {X : Cx} {C : CallT}
theorem ve_var {i : Nat} {x : Str} {pos : Pos} (hN : X.N[i]? = some x := by rfl) (hv : Vis X.env.scope x := by first | exact Or.inl rfl | exact Or.inr (Or.inl rfl) | exact Or.inr (Or.inr rfl)) (hd : (x == ("__debug__" : Str)) = false := by decide)
    (hcd : (x == ("__classdict__" : Str)) = false := by decide) : VE X C (.Name x pos) (.v i) := by
  refine ⟨_, pe_var hN hv hd hcd, fun B ρ σ G H Q d k ⟨fp, S⟩ he hq => ?_⟩
  rw [evE] at he
  cases hi : ρ[i]? with
  | none => rw [hi] at he; cases he
  | some o =>
    cases o with
    | none => rw [hi] at he; cases he
    | some s =>
      rw [hi] at he
      obtain ⟨d', n⟩ := s
      have he' : (d', kdOf n) = (d, k) := R.ok.inj he
      cases he'
      cases n with
      | zero =>
        obtain ⟨v, e, r⟩ := S.sh i d hi
        exact ⟨v, e, hq v G H (Step.refl S.sub) r⟩
      | succ n =>
        obtain ⟨⟨p, e, r⟩, q⟩ := S.own i d n hi
        refine ⟨.ref p, e, hq _ G H (Step.refl S.sub) ?_⟩
        cases n with
        | zero => exact ⟨p, rfl, q p r.head, r.2.1, r.2.2⟩
        | succ n => exact ⟨p, fp i, rfl, q, r⟩
theorem ve_c {e : Expr} {d : D} {v : V} (h : PE X e (tC v)) (hr : ∀ G, Rep X.K G v d) : VE X C e (.k d) := by
  refine ⟨_, h, fun B ρ σ G H Q d' k S he hq => ?_⟩
  rw [evE] at he
  cases he
  exact hq v G H (Step.refl S.sub) (hr G)
theorem ve_int {i : Int} {j pos} : VE X C (.Constant (.int i) j pos) (.k (.int i)) := ve_c pe_int fun _ => .int i
theorem ve_bl {i : Bool} {j pos} : VE X C (.Constant (.bool i) j pos) (.k (.bl i)) := ve_c pe_bl fun _ => .bl i
theorem ve_non {j pos} : VE X C (.Constant .none j pos) (.k .non) := ve_c pe_non fun _ => .non
theorem ve_str {x : Str} {j pos} (h : (decide (x.length ≤ 16777216) && PyData.strOk x) = true := by decide +kernel) : VE X C (.Constant (.str x) j pos) (.k (.str x)) := ve_c pe_str fun _ => .str x (by
  rw [Bool.and_eq_true, decide_eq_true_eq] at h
  exact ⟨by rw [sizeLine_eq]; exact h.1, h.2⟩)
/-- a module's constant: an int, a text -/
theorem ve_gint {x : Str} {pos : Pos} {i : Int} {u : Value} (hg : Gl X x) (hm : X.mg x = some u) (hu : ∃ t, u = .int i t) (hd : (x == ("__debug__" : Str)) = false := by decide) : VE X C (.Name x pos) (.k (.int i)) := ve_c (pe_glob (v := .int i) hg hm hu hd) fun _ => .int i
theorem ve_gstr {x y : Str} {pos : Pos} {u : Value} (hg : Gl X x) (hm : X.mg x = some u) (hu : ∃ t, u = .str y t) (h : (decide (y.length ≤ 16777216) && PyData.strOk y) = true := by decide +kernel) (hd : (x == ("__debug__" : Str)) = false := by decide) :
    VE X C (.Name x pos) (.k (.str y)) := ve_c (pe_glob (v := .str y) hg hm hu hd) fun _ => .str y (by
  rw [Bool.and_eq_true, decide_eq_true_eq] at h
  exact ⟨by rw [sizeLine_eq]; exact h.1, h.2⟩)
/-- an expression whose value is everybody's behind it -/
theorem VE.share {e : Expr} {ir : E} {t : TE} (h : ∀ (B : Bs) (ρ : Env) (σ : St) (G H : Hp) (Q : VK) (d : D) (k : Kd), Sim B X.K ρ σ G H → evE C ir ρ = .ok (d, k) → (∀ v G' H', Step G H G' H' → Out B X.K H d v G' H' k → Q v H') → t σ H Q)
    {B : Bs} {ρ : Env} {σ : St} {G H : Hp} {Q : VK} {d : D} {k : Kd} (S : Sim B X.K ρ σ G H) (he : evE C ir ρ = .ok (d, k)) (hk : notBw k = true) (hq : ∀ v G' H', Step G H G' H' → Rep X.K G' v d → Q v H') : t σ H Q :=
  h B ρ σ G H Q d k S he fun v G' H' st o => by
    obtain ⟨G'', st', r⟩ := o.share st hk
    exact hq v G'' H' st' r
theorem va_nil : VA X C [] [] := by
  refine ⟨_, pa_nil, fun B ρ σ G H Q ds S he hq => ?_⟩
  rw [evEs] at he
  cases he
  exact hq [] G H (Step.refl S.sub) .nil
theorem Out.shareK {B : Bs} {K : PySem.W.Frag} {G H : Hp} {d : D} {v : V} {G' H' : Hp} (t : Step G H G' H') : ∀ {k : Kd}, Out B K H d v G' H' k → ∃ G'', Step G H G'' H' ∧ Out B K H d v G'' H' (shK k)
  | .sh, h => ⟨G', t, h⟩
  | .bw, h => ⟨G', t, h⟩
  | .b2, h => ⟨G', t, h⟩
  | .nw, h => h.share t rfl
theorem va_cons {e : Expr} {es : List Expr} {ir : E} {irs : List E} (h : VE X C e ir) (hr : VA X C es irs) (hs : starEach (e :: es) X.env = (false, eval e X.env) :: starEach es X.env := by rfl) : VA X C (e :: es) (ir :: irs) := by
  obtain ⟨t, p, f⟩ := h
  obtain ⟨t2, p2, f2⟩ := hr
  refine ⟨_, pa_cons p p2 hs, fun B ρ σ G H Q ds S he hq => ?_⟩
  rw [evEs] at he
  obtain ⟨⟨x, k⟩, hx, he⟩ := R.of_bind he
  obtain ⟨l, hl, he⟩ := R.of_bind he
  cases he
  refine f B ρ σ G H _ x k S hx fun v G0 H1 st0 o0 => ?_
  obtain ⟨G1, st, o⟩ := o0.shareK st0
  refine f2 B ρ σ G1 H1 _ l (S.step st) hl fun vs G2 H2 st2 a => ?_
  exact hq (v :: vs) G2 H2 (st.trans st2) (.cons (o.step st2) (a.back st.h))
end
end Fw

namespace Fw
open PySem L2

/-! ### a value as an operation reads it: its own object in H, what it holds everybody's -/
def RC (K : PySem.W.Frag) (G H : Hp) (v : V) : D → Prop
  | .lst ds => ∃ a vs, v = .ref a ∧ SqL K H a vs ∧ vs.length ≤ sizeLine ∧ Reps K G vs ds
  | .tup ds => ∃ a vs, v = .ref a ∧ G a = some (.tup vs) ∧ vs.length ≤ sizeLine ∧ Reps K G vs ds
  | .dK ds => ∃ a kvs, v = .ref a ∧ Rd H a (.dK kvs) ∧ kvs.length ≤ sizeLine ∧ (RepK K G kvs ds ∨ ∃ qs, Own2 K G H kvs ds qs)
  | .dT ds => ∃ a kvs, v = .ref a ∧ Rd H a (.dT kvs) ∧ kvs.length ≤ sizeLine ∧ RepT K G kvs ds
  | .non => v = .non
  | .bl b => v = .bl b
  | .int i => v = .int i
  | .str x => v = .str x ∧ StrOk x
theorem RC.of_rep {K : PySem.W.Frag} {G H : Hp} (s : Same G H) : ∀ {v : V} {d : D}, Rep K G v d → RC K G H v d
  | _, _, .non => rfl
  | _, _, .bl b => rfl
  | _, _, .int i => rfl
  | _, _, .str x h => ⟨rfl, h⟩
  | _, _, .lst h1 h2 h3 => ⟨_, _, rfl, s.seq h1, h2, h3⟩
  | _, _, .tup h1 h2 h3 => ⟨_, _, rfl, h1, h2, h3⟩
  | _, _, .dK h1 h2 h3 => ⟨_, _, rfl, Same.rd s h1, h2, .inl h3⟩
  | _, _, .dT h1 h2 h3 => ⟨_, _, rfl, Same.rd s h1, h2, h3⟩
theorem RC.of_cont {K : PySem.W.Frag} {G H : Hp} {p : Addr} : ∀ {d : D}, Cont K G H p d → RC K G H (.ref p) d
  | .lst _, ⟨vs, a, b, c⟩ => ⟨_, _, rfl, .of a, b, c⟩
  | .dK _, ⟨vs, a, b, c⟩ => ⟨_, _, rfl, .inl a, b, .inl c⟩
  | .dT _, ⟨vs, a, b, c⟩ => ⟨_, _, rfl, .inl a, b, c⟩
  | .non, h => h.elim
  | .bl _, h => h.elim
  | .int _, h => h.elim
  | .str _, h => h.elim
  | .tup _, h => h.elim
theorem Out.rc {B : Bs} {K : PySem.W.Frag} {H : Hp} {d : D} {v : V} {G' H' : Hp} (s : Same G' H') : ∀ {k : Kd}, Out B K H d v G' H' k → RC K G' H' v d
  | .sh, h => RC.of_rep s h
  | .nw, ⟨p, e, n, g, c⟩ => by subst e; exact .of_cont c
  | .bw, ⟨p, e, n, g, c⟩ => by subst e; exact .of_cont c
  | .b2, ⟨p, A, e, _, r⟩ => by
    obtain ⟨kvs, dvs, qs, e2, _, _, _, h, l, o⟩ := r
    subst e e2
    exact ⟨_, _, rfl, .inl h, l, .inr ⟨_, o⟩⟩
theorem RC.step {K : PySem.W.Frag} {G H G' H' : Hp} (t : Step G H G' H') {v : V} : ∀ {d : D}, RC K G H v d → RC K G' H' v d
  | .lst _, ⟨a, vs, e, h, l, r⟩ => ⟨a, vs, e, t.h.seq h, l, r.mono t.g⟩
  | .tup _, ⟨a, vs, e, h, l, r⟩ => ⟨a, vs, e, t.g _ _ h, l, r.mono t.g⟩
  | .dK _, ⟨a, vs, e, h, l, .inl r⟩ => ⟨a, vs, e, Same.rd t.h h, l, .inl (r.mono t.g)⟩
  | .dK _, ⟨a, vs, e, h, l, .inr ⟨qs, r⟩⟩ => ⟨a, vs, e, Same.rd t.h h, l, .inr ⟨qs, r.mono t⟩⟩
  | .dT _, ⟨a, vs, e, h, l, r⟩ => ⟨a, vs, e, Same.rd t.h h, l, r.mono t.g⟩
  | .non, h => h
  | .bl _, h => h
  | .int _, h => h
  | .str _, h => h
theorem Own2.rep {K : PySem.W.Frag} {G H : Hp} (s : Same G H) : ∀ {kvs : List (Key × V)} {ds : List (Key × D)} {qs : List Addr}, Own2 K G H kvs ds qs → RepK K H kvs ds
  | _, _, _, .nil => .nil
  | _, _, _, .cons a b c t => .cons (.lst (.of a) b (c.mono s)) (Own2.rep s t)
theorem RC.rep {K : PySem.W.Frag} {G H : Hp} (s : Same G H) {v : V} : ∀ {d : D}, RC K G H v d → Rep K H v d
  | .lst _, ⟨a, vs, e, h, l, r⟩ => by subst e; exact .lst h l (r.mono s)
  | .tup _, ⟨a, vs, e, h, l, r⟩ => by subst e; exact .tup (s _ _ h) l (r.mono s)
  | .dK _, ⟨a, vs, e, h, l, .inl r⟩ => by subst e; exact .dK h l (r.mono s)
  | .dK _, ⟨a, vs, e, h, l, .inr ⟨qs, r⟩⟩ => by subst e; exact .dK h l (r.rep s)
  | .dT _, ⟨a, vs, e, h, l, r⟩ => by subst e; exact .dT h l (r.mono s)
  | .non, h => by cases h; exact .non
  | .bl b, h => by cases h; exact .bl b
  | .int i, h => by cases h; exact .int i
  | .str x, ⟨e, h⟩ => by subst e; exact .str x h
mutual
theorem Rep.dp {K : PySem.W.Frag} {H : Hp} : ∀ {v : V} {d : D} {n : Nat}, Rep K H v d → noD n d = true → Dp K H v (toPy d)
  | _, _, _, .non, _ => .non
  | _, _, _, .bl b, _ => .bl b
  | _, _, _, .int i, _ => .int i
  | _, _, _, .str x _, _ => .str x
  | _, _, n + 1, .lst h1 _ h3, e => .lst h1 (Reps.dp (n := n) h3 (by simpa [noD] using e))
  | _, _, n + 1, .tup h1 _ h3, e => .tup (.of h1) (Reps.dp (n := n) h3 (by simpa [noD] using e))
  | _, _, 0, .lst _ _ _, e => by simp [noD] at e
  | _, _, 0, .tup _ _ _, e => by simp [noD] at e
  | _, _, 0, .dK _ _ _, e => by simp [noD] at e
  | _, _, 0, .dT _ _ _, e => by simp [noD] at e
  | _, _, _ + 1, .dK _ _ _, e => by simp [noD] at e
  | _, _, _ + 1, .dT _ _ _, e => by simp [noD] at e
theorem Reps.dp {K : PySem.W.Frag} {H : Hp} : ∀ {vs : List V} {ds : List D} {n : Nat}, Reps K H vs ds → nosD n ds = true → DpAll K H vs (toPys ds)
  | _, _, _, .nil, _ => .nil
  | _, _, n, .cons h t, e => by
    rw [nosD, Bool.and_eq_true] at e
    exact .cons (Rep.dp h e.1) (Reps.dp t e.2)
end
mutual
theorem Rep.lay {K : PySem.W.Frag} {H : Hp} : ∀ {v : V} {d : D} {n : Nat}, Rep K H v d → noD n d = true → (toPy d).canLay0 = true ∧ (toPy d).depth ≤ n
  | _, _, _, .non, _ => ⟨by simp [toPy, PyData.canLay0], by simp [toPy, PyData.depth]⟩
  | _, _, _, .bl b, _ => ⟨by simp [toPy, PyData.canLay0], by simp [toPy, PyData.depth]⟩
  | _, _, _, .int i, _ => ⟨by simp [toPy, PyData.canLay0], by simp [toPy, PyData.depth]⟩
  | _, _, _, .str x h, _ => ⟨by simp [toPy, PyData.canLay0, h.2], by simp [toPy, PyData.depth]⟩
  | _, _, n + 1, .lst h1 _ h3, e => by
    have q := Reps.lay (n := n) h3 (by simpa [noD] using e)
    exact ⟨by simpa [toPy, PyData.canLay0] using q.1, by simpa [toPy, PyData.depth] using q.2⟩
  | _, _, n + 1, .tup h1 _ h3, e => by
    have q := Reps.lay (n := n) h3 (by simpa [noD] using e)
    exact ⟨by simpa [toPy, PyData.canLay0] using q.1, by simpa [toPy, PyData.depth] using q.2⟩
  | _, _, 0, .lst _ _ _, e => by simp [noD] at e
  | _, _, 0, .tup _ _ _, e => by simp [noD] at e
  | _, _, 0, .dK _ _ _, e => by simp [noD] at e
  | _, _, 0, .dT _ _ _, e => by simp [noD] at e
  | _, _, _ + 1, .dK _ _ _, e => by simp [noD] at e
  | _, _, _ + 1, .dT _ _ _, e => by simp [noD] at e
theorem Reps.lay {K : PySem.W.Frag} {H : Hp} : ∀ {vs : List V} {ds : List D} {n : Nat}, Reps K H vs ds → nosD n ds = true → PyData.canLayAll0 (toPys ds) = true ∧ PyData.depthAll (toPys ds) ≤ n
  | _, _, _, .nil, _ => ⟨by simp [toPys, PyData.canLayAll0], by simp [toPys, PyData.depthAll]⟩
  | _, _, n, .cons h t, e => by
    rw [nosD, Bool.and_eq_true] at e
    have a := Rep.lay h e.1
    have b := Reps.lay t e.2
    exact ⟨by simp [toPys, PyData.canLayAll0, a.1, b.1], by simp only [toPys, PyData.depthAll]; omega⟩
end
theorem Rep.shaped {K : PySem.W.Frag} {H : Hp} {v : V} {d : D} (h : Rep K H v d) (e : shp d = true) : SeqAt.shaped (toPy d) = true := by
  have q := Rep.lay h e
  unfold SeqAt.shaped
  rw [q.1, Bool.true_and, decide_eq_true_eq]
  exact Nat.le_trans q.2 (by decide)
theorem line_eq : (line : Nat) = sizeLine := by rw [sizeLine_eq]; rfl

/-! ### operators -/
section
variable {X : Cx} {C : CallT}
theorem op_catS : OpR X (binaryOp .Add) (fun x y H Q => ∃ l b xs zs, x = .ref l ∧ y = .ref b ∧ SqL X.K H l xs ∧ SqL X.K H b zs ∧ xs.length + zs.length ≤ sizeLine ∧ ∀ p, H p = none → Q (.ref p) (upd H p (.lst (xs ++ zs)))) := by
  intro pins s σ H x y v u Q I rx ry ⟨l, b, xs, zs, hx, hy, hL, hB, hz, q⟩
  subst hx hy
  cases rx
  cases ry
  obtain ⟨i1, r1, ⟨⟨c1, d1, t1, s1⟩, n1, e1, k1, m1, z1⟩, _⟩ := I.list hL
  obtain ⟨i2, r2, ⟨⟨c2, d2, t2, s2⟩, n2, e2, k2, m2, z2⟩, _⟩ := I.list hB
  simp only at k1 m1 z1 k2 m2 z2
  subst k1 m1 z1 k2 m2 z2
  have l1 := r1.length
  have l2 := r2.length
  refine concat_meets ⟨_, e1, rfl⟩ ⟨_, e2, rfl⟩ noFill_list_add seq_list_add PySem.F.slot_list_add PySem.F.entry_list_add (PySem.F.args_list_add_2 _ _)
    (PyProof.Rows.list_addW l b i1.toArray i2.toArray n1 n2 none none s1 s2 (by simp only [List.size_toArray]; omega)) ⟨e1, e2, ?_⟩
  have ea : i1.toArray ++ i2.toArray = (i1 ++ i2).toArray := by simp
  rw [ea]
  exact ⟨.ref _, _, I.lnew (t' := s.toks) (r1.append r2) (by rw [List.length_append]; omega), rfl, q _ I.fresh⟩

/-- what a rule over two read values gives -/
def Op2R (X : Cx) (f : D → D → R (D × Kd)) (r : R2) : Prop := ∀ (B : Bs) (G H : Hp) (x y : V) (a b d : D) (k : Kd) (Q : VK), Same G H → RC X.K G H x a → RC X.K G H y b → f a b = .ok (d, k) →
  (∀ v G' H', Step G H G' H' → Out B X.K H d v G' H' k → Q v H') → r x y H Q
theorem ve_op2 {op : Operator} {o : Op2} {a b : Expr} {ia ib : E} {pos : Pos} {r : R2} (ho : OpR X (binaryOp op) r) (hs : Op2R X (op2D o) r) (ha : VE X C a ia) (hb : VE X C b ib) : VE X C (.BinOp a op b pos) (.op o ia ib) := by
  obtain ⟨t, p, f⟩ := ha
  obtain ⟨t2, p2, f2⟩ := hb
  refine ⟨_, pe_op ho p p2, fun B ρ σ G H Q d k S he hq => ?_⟩
  rw [evE] at he
  obtain ⟨x, hx, he⟩ := R.of_bind he
  obtain ⟨y, hy, he⟩ := R.of_bind he
  refine f B ρ σ G H _ x.1 x.2 S hx fun v G1 H1 st o1 => ?_
  refine f2 B ρ σ G1 H1 _ y.1 y.2 (S.step st) hy fun u G2 H2 st2 o2 => ?_
  exact hs B G2 H2 v u x.1 y.1 d k Q st2.sub ((o1.rc st.sub).step st2) (o2.rc st2.sub) he fun w G3 H3 st3 o3 => hq w G3 H3 ((st.trans st2).trans st3) (o3.back (st.h.trans st2.h))
/-- a new list, nobody's yet -/
theorem out_new {B : Bs} {K : PySem.W.Frag} {G H : Hp} (s : Same G H) {Q : VK} {vs : List V} {ds : List D} (hv : vs.length ≤ sizeLine) (hr : Reps K G vs ds) (hq : ∀ v G' H', Step G H G' H' → Out B K H (.lst ds) v G' H' .nw → Q v H') :
    ∀ p, H p = none → Q (.ref p) (upd H p (.lst vs)) := fun p hp => hq (.ref p) G _ (Step.newH s hp) ⟨p, rfl, hp, s.free hp, vs, upd_same, hv, hr⟩
/-- a new tuple, everybody's -/
theorem out_tup {B : Bs} {K : PySem.W.Frag} {G H : Hp} (s : Same G H) {Q : VK} {vs : List V} {ds : List D} (hv : vs.length ≤ sizeLine) (hr : Reps K G vs ds) (hq : ∀ v G' H', Step G H G' H' → Out B K H (.tup ds) v G' H' .sh → Q v H') :
    ∀ p, H p = none → Q (.ref p) (upd H p (.tup vs)) := fun p hp => by
  have st : Step G H (upd G p (.tup vs)) (upd H p (.tup vs)) := Step.newG s hp
  exact hq (.ref p) _ _ st (.tup upd_same hv (hr.mono st.g))
/-- an unchanged heap -/
theorem out_same {B : Bs} {K : PySem.W.Frag} {G H : Hp} (s : Same G H) {Q : VK} {v : V} {d : D} (hr : Rep K G v d) (hq : ∀ v G' H', Step G H G' H' → Out B K H d v G' H' .sh → Q v H') : Q v H := hq v G H (Step.refl s) hr
theorem strOk_append {x y : Str} (h : x.length + y.length ≤ sizeLine) (hx : StrOk x) (hy : StrOk y) : StrOk (x ++ y) := by
  have e : (x ++ y : Str) = ⟨x.cps ++ y.cps⟩ := rfl
  rw [e]
  refine ⟨?_, ?_⟩
  · show (x.cps ++ y.cps).size ≤ sizeLine
    rw [Array.size_append]
    exact h
  · have h1 := hx.2
    have h2 := hy.2
    unfold PyData.strOk at *
    rw [Array.all_append, h1, h2]
    rfl
theorem spec_add : Op2R X addD (fun x y H Q => (∃ i j, x = .int i ∧ y = .int j ∧ Q (.int (i + j)) H) ∨ (∃ i j, x = .str i ∧ y = .str j ∧ i.length + j.length ≤ sizeLine ∧ Q (.str (i ++ j)) H) ∨
    (∃ l b xs zs, x = .ref l ∧ y = .ref b ∧ SqL X.K H l xs ∧ SqL X.K H b zs ∧ xs.length + zs.length ≤ sizeLine ∧ ∀ p, H p = none → Q (.ref p) (upd H p (.lst (xs ++ zs)))) ∨ rCatA X.K x y H Q) := by
  intro B G H x y a b d k Q s ra rb he hq
  cases a <;> cases b <;> (first | (cases he; done) | skip)
  case int.int i j =>
    cases he
    cases ra; cases rb
    exact .inl ⟨i, j, rfl, rfl, out_same s (.int _) hq⟩
  case str.str i j =>
    obtain ⟨hc, he⟩ := R.of_guard he
    rw [decide_eq_true_eq, line_eq] at hc
    cases he
    obtain ⟨rfl, o1⟩ := ra
    obtain ⟨rfl, o2⟩ := rb
    exact .inr (.inl ⟨i, j, rfl, rfl, hc, out_same s (.str _ (strOk_append hc o1 o2)) hq⟩)
  case lst.lst i j =>
    obtain ⟨hc, he⟩ := R.of_guard he
    rw [decide_eq_true_eq, line_eq] at hc
    cases he
    obtain ⟨l, vs, rfl, h1, h2, h3⟩ := ra
    obtain ⟨m, ws, rfl, g1, g2, g3⟩ := rb
    have hz : vs.length + ws.length ≤ sizeLine := by rw [h3.length, g3.length]; exact hc
    exact .inr (.inr (.inl ⟨l, m, vs, ws, rfl, rfl, h1, g1, hz, out_new s (by rw [List.length_append]; exact hz) (h3.append g3) hq⟩))
  case tup.tup i j =>
    obtain ⟨hc, he⟩ := R.of_guard he
    rw [decide_eq_true_eq, line_eq] at hc
    cases he
    obtain ⟨l, vs, rfl, h1, h2, h3⟩ := ra
    obtain ⟨m, ws, rfl, g1, g2, g3⟩ := rb
    have hz : vs.length + ws.length ≤ sizeLine := by rw [h3.length, g3.length]; exact hc
    refine .inr (.inr (.inr ⟨l, m, vs, ws, rfl, rfl, SqT.of (s _ _ h1), SqT.of (s _ _ g1), hz, fun e => ?_, fun _ e => ?_, fun _ _ => out_tup s (by rw [List.length_append]; exact hz) (h3.append g3) hq⟩))
    · subst e
      cases h3
      exact out_same s (.tup g1 g2 g3) hq
    · subst e
      cases g3
      rw [List.append_nil] at hq
      exact out_same s (.tup h1 h2 h3) hq
end
end Fw

namespace Fw
open PySem L2
section
variable {X : Cx} {C : CallT}
theorem spec_sub : Op2R X subD (rI0 fun i j => .int (i - j)) := by
  intro B G H x y a b d k Q s ra rb he hq
  cases a <;> cases b <;> (first | (cases he; done) | skip)
  cases he; cases ra; cases rb
  exact ⟨_, _, rfl, rfl, out_same s (.int _) hq⟩
theorem smallI_ok {i : Int} (h : smallI i = true) : -(2 ^ 64) < i ∧ i < 2 ^ 64 := by
  unfold smallI at h
  rw [Bool.and_eq_true, decide_eq_true_eq, decide_eq_true_eq] at h
  exact ⟨by omega, by omega⟩
theorem spec_fdiv : Op2R X fdivD (rI CDiv fun i j => .int (i / j)) := by
  intro B G H x y a b d k Q s ra rb he hq
  cases a <;> cases b <;> (first | (cases he; done) | skip)
  obtain ⟨hc, he⟩ := R.of_guard he
  rw [Bool.and_eq_true, decide_eq_true_eq, decide_eq_true_eq] at hc
  cases he; cases ra; cases rb
  exact ⟨_, _, rfl, rfl, hc, out_same s (.int _) hq⟩
theorem spec_mod : Op2R X modD (rI (fun _ j => 0 < j) fun i j => .int (i % j)) := by
  intro B G H x y a b d k Q s ra rb he hq
  cases a <;> cases b <;> (first | (cases he; done) | skip)
  obtain ⟨hc, he⟩ := R.of_guard he
  rw [decide_eq_true_eq] at hc
  cases he; cases ra; cases rb
  exact ⟨_, _, rfl, rfl, hc, out_same s (.int _) hq⟩
theorem spec_pow : Op2R X powD (rI CPow fun i j => .int (i ^ j.toNat)) := by
  intro B G H x y a b d k Q s ra rb he hq
  cases a <;> cases b <;> (first | (cases he; done) | skip)
  obtain ⟨hc, he⟩ := R.of_guard he
  simp only [Bool.and_eq_true, decide_eq_true_eq] at hc
  cases he; cases ra; cases rb
  exact ⟨_, _, rfl, rfl, ⟨hc.1.1, by omega, by omega⟩, out_same s (.int _) hq⟩
theorem op_mulStr : OpR X (binaryOp .Mult) (fun x y H Q => ∃ z i, x = .str z ∧ y = .int i ∧ 0 ≤ i ∧ i ≤ 1000 ∧ z.length ≤ 1000 ∧ Q (.str (Txt.mul z i)) H) := by
  intro pins s σ H x y v u Q I rx ry ⟨z, i, hx, hy, h0, h1, hz, q⟩
  subst hx hy
  obtain ⟨t, rfl⟩ := rx
  obtain ⟨t', rfl⟩ := ry
  refine SB.mul ⟨?_, fun _ _ => ?_, fun _ _ => ?_⟩ fun t2 k => ⟨.str _, H, I.tok _, ⟨_, rfl⟩, q⟩
  · rw [decide_eq_false (by omega), decide_eq_false (by omega)]
    rfl
  · intro hlt
    have hi : ¬ i < 1 := by assumption
    have h2 : (2 ^ 63 - 1 : Int) / 1000 ≤ (2 ^ 63 - 1) / i := by
      refine Int.le_ediv_of_mul_le (by omega) ?_
      have : (2 ^ 63 - 1 : Int) / 1000 * i ≤ (2 ^ 63 - 1 : Int) / 1000 * 1000 := Int.mul_le_mul_of_nonneg_left h1 (by omega)
      omega
    omega
  · show decide (z.length * i.toNat > sizeLine) = false
    refine decide_eq_false ?_
    rw [sizeLine_eq]
    have : z.length * i.toNat ≤ 1000 * 1000 := Nat.mul_le_mul hz (by omega)
    omega
theorem foldl_cat : ∀ (l : List (Array Nat)) (a : Array Nat), (l.foldl (fun x y => x ++ y) a).toList = a.toList ++ (l.map Array.toList).flatten
  | [], a => by simp
  | b :: l, a => by rw [List.foldl_cons, foldl_cat l]; simp
theorem mul_cps (z : Str) (i : Int) (h : 0 ≤ i) : (Txt.mul z i).cps.toList = (List.replicate i.toNat z.cps.toList).flatten := by
  unfold Txt.mul
  by_cases h1 : i < 1
  · have e : i.toNat = 0 := by omega
    rw [if_pos h1, e]
    rfl
  · rw [if_neg h1]
    by_cases h2 : (i == 1 || z.length == 0) = true
    · rw [if_pos h2]
      rw [Bool.or_eq_true, beq_iff_eq, beq_iff_eq] at h2
      rcases h2 with h2 | h2
      · subst h2
        show z.cps.toList = (List.replicate 1 z.cps.toList).flatten
        simp
      · have e : z.cps.toList = [] := by
          have : z.cps.size = 0 := h2
          exact List.eq_nil_of_length_eq_zero (by rw [Array.length_toList]; exact this)
        rw [e]
        simp
    · rw [if_neg h2]
      show ((List.replicate i.toNat z.cps).foldl (fun x y => x ++ y) #[]).toList = _
      rw [foldl_cat]
      simp
theorem strOk_iff (x : Str) : StrOk x ↔ x.cps.toList.length ≤ sizeLine ∧ ∀ c ∈ x.cps.toList, c < 0x110000 := by
  unfold StrOk PyData.strOk
  rw [Array.length_toList]
  constructor
  · rintro ⟨h1, h2⟩
    refine ⟨h1, fun c hc => ?_⟩
    have := Array.all_eq_true_iff_forall_mem.mp h2 c (by simpa using hc)
    simpa using this
  · rintro ⟨h1, h2⟩
    refine ⟨h1, Array.all_eq_true_iff_forall_mem.mpr fun c hc => ?_⟩
    simpa using h2 c (by simpa using hc)
theorem strOk_mul {z : Str} {i : Int} (h0 : 0 ≤ i) (h1 : i ≤ 1000) (hz : z.length ≤ 1000) (h : StrOk z) : StrOk (Txt.mul z i) := by
  rw [strOk_iff] at h ⊢
  rw [mul_cps z i h0]
  refine ⟨?_, fun c hc => ?_⟩
  · rw [List.length_flatten, List.map_replicate, List.sum_replicate_nat, Array.length_toList, sizeLine_eq]
    have : i.toNat * z.length ≤ 1000 * 1000 := Nat.mul_le_mul (by omega) hz
    show i.toNat * z.length ≤ _
    omega
  · rw [List.mem_flatten] at hc
    obtain ⟨l, hl, hc⟩ := hc
    rw [List.mem_replicate] at hl
    rw [hl.2] at hc
    exact h.2 c hc
section
open AutoSeq1 (wpAny_loadPart')
theorem tuple_mul1 (l : Addr) (items : Array Value) (n : Nat) (dd : Option Addr) (sl : Array (Option Value)) (u : Tok) :
    Meets (Builtin.«tuple.__mul__» ⟨[.ref l, .int 1 u], []⟩) (fun _ R s => s.heap.get? l = some { cls := .type "tuple", dict := dd, data := .seq items n, slots := sl } ∧ R (.ok (.ret (Value.ref l))) s) :=
  .of_wp fun prog w A R s h => by
    obtain ⟨hp, g, d, tk, os⟩ := s
    obtain ⟨hl, h⟩ := h
    have f1 := AutoSeq1.idx_int
    have hT : Shared.TypeIs ⟨hp, g, d, tk, os⟩ (.ref l) "tuple" := ⟨_, hl, rfl⟩
    wp_walk using wpAny_loadPart' hl, wpAny_typeOf hT
    exact ⟨_, rfl, h⟩
theorem int_rmul_l (a : Int) (t : Tok) (l : Addr) (items : Array Value) (n : Nat) (dd : Option Addr) (sl : Array (Option Value)) :
    Meets (Builtin.«int.__rmul__» ⟨[.int a t, .ref l], []⟩) (fun _ R s => s.heap.get? l = some { cls := .type "list", dict := dd, data := .seq items n, slots := sl } ∧ R (.ok (.ret Value.notImplemented)) s) :=
  .of_wp fun prog w A R s h => by obtain ⟨hp, g, d, tk, os⟩ := s; obtain ⟨hl, h⟩ := h; wp_walk using wpAny_loadPart' hl; exact ⟨_, rfl, h⟩
theorem list_mul_l (l : Addr) (items : Array Value) (n : Nat) (dd : Option Addr) (sl : Array (Option Value)) (x : Int) (u : Tok) (hc0 : ¬(!Builtin.List.listFitsIndex x) = true) (hc1 : ¬items.size * x.toNat > (2 ^ 63 - 1) / 8) (hc2 : ¬Builtin.List.listTooLong (items.size * x.toNat) = true)
    (hsz : (List.foldl (fun x1 x2 => x1 ++ x2) #[] (List.replicate (if items.isEmpty = true then 0 else x.toNat) items)).size ≤ sizeLine) :
    Meets (Builtin.«list.__mul__» ⟨[.ref l, .int x u], []⟩) (fun _ R s => s.heap.get? l = some { cls := .type "list", dict := dd, data := .seq items n, slots := sl } ∧
      R (.ok (.ret (Value.ref s.heap.objs.size))) { s with heap := s.heap.push { cls := Value.type "list", data := Data.seq (List.foldl (fun x1 x2 => x1 ++ x2) #[] (List.replicate (if items.isEmpty = true then 0 else x.toNat) items)) }, toks := s.toks }) :=
  .of_wp fun prog w A R s h => by
    obtain ⟨hp, g, d, tk, os⟩ := s; obtain ⟨hl, h⟩ := h
    wp_walk using wpAny_loadPart' hl
    refine wpAny_ite_false (decide_eq_false (Nat.not_lt.mpr hsz)) ?_
    wp_walk using wpAny_loadPart' hl
    exact ⟨_, rfl, h⟩
end
def rRepS (K : PySem.W.Frag) : R2 := fun x y H Q => ∃ l k xs, x = .ref l ∧ y = .int k ∧ SqL K H l xs ∧ -1000 ≤ k ∧ k ≤ 1000 ∧ xs.length ≤ 1000 ∧ ∀ p, H p = none → Q (.ref p) (upd H p (.lst (List.replicate k.toNat xs).flatten))
theorem op_repS : OpR X (binaryOp .Mult) (rRepS X.K) := by
  intro pins s σ H x y v u Q I rx ry ⟨l, k, xs, hx, hy, hL, h1, h2, hz, q⟩
  subst hx hy
  cases rx
  obtain ⟨t, rfl⟩ := ry
  obtain ⟨its, r, ⟨⟨c1, d1, t1, s1⟩, n, e, k1, m1, z1⟩, _⟩ := I.list hL
  simp only at k1 m1 z1
  subst k1 m1 z1
  have hl : xs.length = its.length := r.length
  have hm : its.toArray.size * k.toNat ≤ 1000 * 1000 := by rw [List.size_toArray, ← hl]; exact Nat.mul_le_mul hz (by omega)
  have hlen : its.toArray.size * k.toNat ≤ sizeLine := by rw [sizeLine_eq]; omega
  have hfit : ¬ (!Builtin.List.listFitsIndex k) = true := by rw [fitsIndex_both (by omega) (by omega)]; exact Bool.false_ne_true
  have hlong : ¬ Builtin.List.listTooLong (its.toArray.size * k.toNat) = true := by rw [notLongL hlen]; exact Bool.false_ne_true
  have hnew : List.foldl (fun x1 x2 => x1 ++ x2) #[] (List.replicate (if its.toArray.isEmpty = true then 0 else k.toNat) its.toArray) = (List.replicate k.toNat its).flatten.toArray := by
    have f0 : ∀ m : Nat, List.foldl (fun x1 x2 => x1 ++ x2) #[] (List.replicate m its.toArray) = (List.replicate m its).flatten.toArray := fun m => by
      have z := foldl_rep its m []; rw [List.nil_append] at z; exact z
    rw [f0]
    cases its with
    | nil => simp
    | cons a r' => rw [if_neg (by simp)]
  have flen : (List.replicate k.toNat its).flatten.toArray.size ≤ sizeLine := by
    rw [List.size_toArray, PyProof.Rows.lm_len_rep_flat, Nat.mul_comm]; rw [List.size_toArray] at hlen; exact hlen
  refine wpAny_binaryOp_repeat_ref (T := "list") (U := "int") (by decide) ⟨_, e, rfl⟩ (fun s' => typeIs_int s' k t) noFill_list_mul F.fills_int_mul F.slot_int_rmul repeat_list F.slot_int_index.lookup (call_meets F.slot_int_rmul (typeIs_int s k t) F.entry_int_rmul (F.args_int_rmul_2 _ _) (int_rmul_l k t l its.toArray n none s1) ⟨e, rfl, ⟨_, e, rfl⟩, ?_⟩)
  refine call_meets F.slot_list_mul ⟨_, e, rfl⟩ F.entry_list_mul (F.args_list_mul_2 _ _) (list_mul_l l its.toArray n none s1 k t hfit (by omega) hlong (by rw [hnew]; exact flen)) ⟨e, ?_⟩
  rw [hnew]
  exact ⟨.ref _, _, I.lnew (t' := s.toks) (r.rep k.toNat) (by rw [PyProof.Rows.lm_len_rep_flat, hl, Nat.mul_comm]; rw [List.size_toArray] at hlen; exact hlen), rfl, q _ I.fresh⟩
/-- a tuple, once -/
def rRep1 (K : PySem.W.Frag) : R2 := fun x y H Q => ∃ l xs, x = .ref l ∧ y = .int 1 ∧ SqT K H l xs ∧ Q (.ref l) H
theorem op_rep1 : OpR X (binaryOp .Mult) (rRep1 X.K) := by
  intro pins s σ H x y v u Q I rx ry ⟨l, xs, hx, hy, hL, q⟩
  subst hx hy
  cases rx
  obtain ⟨t, rfl⟩ := ry
  obtain ⟨its, r, ⟨⟨c1, d1, t1, s1⟩, e, k1, n, z1⟩, _⟩ := I.tuple hL
  simp only at k1 z1
  subst k1 z1
  refine wpAny_binaryOp_repeat_ref (T := "tuple") (U := "int") (by decide) ⟨_, e, rfl⟩ (fun s' => typeIs_int s' 1 t) noFill_tuple_mul F.fills_int_mul F.slot_int_rmul repeat_tuple F.slot_int_index.lookup (call_meets F.slot_int_rmul (typeIs_int s 1 t) F.entry_int_rmul (F.args_int_rmul_2 _ _) (int_rmul_tuple 1 t l its.toArray n d1 s1) ⟨e, rfl, ⟨_, e, rfl⟩, ?_⟩)
  exact call_meets F.slot_tuple_mul ⟨_, e, rfl⟩ F.entry_tuple_mul (F.args_tuple_mul_2 _ _) (tuple_mul1 l its.toArray n d1 s1 t) ⟨e, .ref l, H, I, rfl, q⟩
theorem Reps.rep {K : PySem.W.Frag} {G : Hp} {vs : List V} {ds : List D} (r : Reps K G vs ds) : ∀ n : Nat, Reps K G (List.replicate n vs).flatten (List.replicate n ds).flatten
  | 0 => .nil
  | n + 1 => by
    rw [List.replicate_succ, List.replicate_succ, List.flatten_cons, List.flatten_cons]
    exact r.append (Reps.rep r n)
def RMul (X : Cx) : R2 := fun x y H Q => rI CMul (fun i j => .int (i * j)) x y H Q ∨ (∃ z i, x = .str z ∧ y = .int i ∧ 0 ≤ i ∧ i ≤ 1000 ∧ z.length ≤ 1000 ∧ Q (.str (Txt.mul z i)) H) ∨ rRepS X.K x y H Q ∨ rRepT X.K x y H Q ∨ rRep1 X.K x y H Q
theorem op_mulA : OpR X (binaryOp .Mult) (RMul X) := op_mul.or (op_mulStr.or (op_repS.or (op_repT.or op_rep1)))
theorem spec_mul : Op2R X mulD (RMul X) := by
  intro B G H x y a b d k Q s ra rb he hq
  cases a <;> cases b <;> (first | (cases he; done) | skip)
  case int.int i j =>
    obtain ⟨hc, he⟩ := R.of_guard he
    rw [Bool.or_eq_true] at hc
    cases he; cases ra; cases rb
    exact .inl ⟨_, _, rfl, rfl, hc.imp smallI_ok smallI_ok, out_same s (.int _) hq⟩
  case str.int z j =>
    obtain ⟨hc, he⟩ := R.of_guard he
    simp only [Bool.and_eq_true, decide_eq_true_eq] at hc
    cases he; obtain ⟨rfl, hz⟩ := ra; cases rb
    exact .inr (.inl ⟨_, _, rfl, rfl, hc.1.1, hc.1.2, hc.2, out_same s (.str _ (strOk_mul hc.1.1 hc.1.2 hc.2 hz)) hq⟩)
  case lst.int xs j =>
    obtain ⟨hc, he⟩ := R.of_guard he
    simp only [Bool.and_eq_true, decide_eq_true_eq] at hc
    cases he; cases rb
    obtain ⟨p, vs, rfl, h1, h2, h3⟩ := ra
    have hl := h3.length
    refine .inr (.inr (.inl ⟨_, _, _, rfl, rfl, h1, hc.1.1, hc.1.2, by omega, out_new s ?_ (h3.rep _) hq⟩))
    rw [PyProof.Rows.lm_len_rep_flat, sizeLine_eq]
    have : j.toNat * vs.length ≤ 1000 * 1000 := Nat.mul_le_mul (by omega) (by omega)
    omega
  case tup.int xs j =>
    obtain ⟨hc, he⟩ := R.of_guard he
    simp only [Bool.and_eq_true, decide_eq_true_eq] at hc
    cases he; cases rb
    obtain ⟨p, vs, rfl, h1, h2, h3⟩ := ra
    have hl := h3.length
    have g1 := s _ _ h1
    by_cases hj : j = 1
    · subst hj
      refine .inr (.inr (.inr (.inr ⟨_, _, rfl, rfl, .of g1, out_same s ?_ hq⟩)))
      have e : (List.replicate (1 : Int).toNat xs).flatten = xs := by simp
      rw [e]
      exact .tup h1 h2 h3
    · refine .inr (.inr (.inr (.inl ⟨_, _, _, rfl, rfl, .of g1, ?_, by omega, hc.1.1.2, by omega, out_tup s ?_ (h3.rep _) hq⟩)))
      · intro e
        rw [e] at hl
        have : xs = [] := List.eq_nil_of_length_eq_zero hl.symm
        rw [this] at hc
        exact absurd hc.2 (by simp)
      · rw [PyProof.Rows.lm_len_rep_flat, sizeLine_eq]
        have : j.toNat * vs.length ≤ 1000 * 1000 := Nat.mul_le_mul (by omega) (by omega)
        omega
theorem ve_add {a b : Expr} {ia ib : E} {pos : Pos} (ha : VE X C a ia) (hb : VE X C b ib) : VE X C (.BinOp a .Add b pos) (.op .add ia ib) := ve_op2 (o := .add) (op_add.or (op_add_str.or (op_catS.or op_catA))) spec_add ha hb
theorem ve_sub {a b : Expr} {ia ib : E} {pos : Pos} (ha : VE X C a ia) (hb : VE X C b ib) : VE X C (.BinOp a .Sub b pos) (.op .sub ia ib) := ve_op2 (o := .sub) op_sub spec_sub ha hb
theorem ve_mul {a b : Expr} {ia ib : E} {pos : Pos} (ha : VE X C a ia) (hb : VE X C b ib) : VE X C (.BinOp a .Mult b pos) (.op .mul ia ib) := ve_op2 (o := .mul) op_mulA spec_mul ha hb
theorem ve_fdiv {a b : Expr} {ia ib : E} {pos : Pos} (ha : VE X C a ia) (hb : VE X C b ib) : VE X C (.BinOp a .FloorDiv b pos) (.op .fdiv ia ib) := ve_op2 (o := .fdiv) op_fdiv spec_fdiv ha hb
theorem ve_mod {a b : Expr} {ia ib : E} {pos : Pos} (ha : VE X C a ia) (hb : VE X C b ib) : VE X C (.BinOp a .Mod b pos) (.op .mod ia ib) := ve_op2 (o := .mod) op_mod spec_mod ha hb
theorem ve_pow {a b : Expr} {ia ib : E} {pos : Pos} (ha : VE X C a ia) (hb : VE X C b ib) : VE X C (.BinOp a .Pow b pos) (.op .pow ia ib) := ve_op2 (o := .pow) op_pow spec_pow ha hb
theorem ve_neg {a : Expr} {ia : E} {pos : Pos} (ha : VE X C a ia) : VE X C (.UnaryOp .USub a pos) (.neg ia) := by
  obtain ⟨t, p, f⟩ := ha
  refine ⟨_, pe_un un_neg p, fun B ρ σ G H Q d k S he hq => ?_⟩
  rw [evE] at he
  obtain ⟨⟨x, kx⟩, hx, he⟩ := R.of_bind he
  refine f B ρ σ G H _ x kx S hx fun v G1 H1 st o => ?_
  have r := o.rc st.sub
  cases x <;> (first | (cases he; done) | skip)
  cases he; cases r
  exact ⟨_, rfl, hq _ G1 H1 st (.int _)⟩

/-! ### comparisons -/
def CmR (X : Cx) (f : D → D → R Bool) (r : R2) : Prop := ∀ (G H : Hp) (x y : V) (a b : D) (c : Bool) (Q : VK), Same G H → RC X.K G H x a → RC X.K G H y b → f a b = .ok c → Q (.bl c) H → r x y H Q
theorem ve_cmp {op : CmpOp} {o : Cm} {a b : Expr} {ia ib : E} {pos : Pos} {r : R2} (ho : OpR X (compareOp op) r) (hs : CmR X (cmpD o) r) (hm : behindInMarks op b = false) (ha : VE X C a ia) (hb : VE X C b ib) :
    VE X C (.Compare a [op] [b] pos) (.cmp o ia ib) := by
  obtain ⟨t, p, f⟩ := ha
  obtain ⟨t2, p2, f2⟩ := hb
  refine ⟨_, pe_cmpR ho p p2 hm, fun B ρ σ G H Q d k S he hq => ?_⟩
  rw [evE] at he
  obtain ⟨x, hx, he⟩ := R.of_bind he
  obtain ⟨y, hy, he⟩ := R.of_bind he
  obtain ⟨c, hc, he⟩ := R.of_bind he
  cases he
  refine f B ρ σ G H _ x.1 x.2 S hx fun v G1 H1 st o1 => ?_
  refine f2 B ρ σ G1 H1 _ y.1 y.2 (S.step st) hy fun u G2 H2 st2 o2 => ?_
  exact hs G2 H2 v u x.1 y.1 c Q st2.sub ((o1.rc st.sub).step st2) (o2.rc st2.sub) hc (hq _ G2 H2 (st.trans st2) (.bl _))
theorem vt_cmp {op : CmpOp} {o : Cm} {a b : Expr} {ia ib : E} {pos : Pos} {r : R2} (ho : OpR X (compareOp op) r) (hs : CmR X (cmpD o) r) (hm : behindInMarks op b = false) (ha : VE X C a ia) (hb : VE X C b ib) :
    VT X C (.Compare a [op] [b] pos) (.cmp o ia ib) := by
  obtain ⟨t, p, f⟩ := ha
  obtain ⟨t2, p2, f2⟩ := hb
  refine ⟨_, pt_cmpR ho p p2 hm, fun B ρ σ G H Q d k S he hq => ?_⟩
  rw [evE] at he
  obtain ⟨x, hx, he⟩ := R.of_bind he
  obtain ⟨y, hy, he⟩ := R.of_bind he
  obtain ⟨c, hc, he⟩ := R.of_bind he
  cases he
  refine f B ρ σ G H _ x.1 x.2 S hx fun v G1 H1 st o1 => ?_
  refine f2 B ρ σ G1 H1 _ y.1 y.2 (S.step st) hy fun u G2 H2 st2 o2 => ?_
  exact hs G2 H2 v u x.1 y.1 d _ st2.sub ((o1.rc st.sub).step st2) (o2.rc st2.sub) hc ⟨_, rfl, hq G2 H2 (st.trans st2)⟩
theorem ve_chain {op op' : CmpOp} {o o' : Cm} {a b c : Expr} {ia ib ic : E} {pos : Pos} {r r' : R2} (ho : OpR X (compareOp op) r) (hs : CmR X (cmpD o) r) (ho' : OpR X (compareOp op') r') (hs' : CmR X (cmpD o') r')
    (ha : VE X C a ia) (hb : VE X C b ib) (hc : VE X C c ic) (hm : lastMarks [op, op'] [b, c] = false := by with_unfolding_all rfl) : VE X C (.Compare a [op, op'] [b, c] pos) (.chain o o' ia ib ic) := by
  obtain ⟨t, p, f⟩ := ha
  obtain ⟨t2, p2, f2⟩ := hb
  obtain ⟨t3, p3, f3⟩ := hc
  refine ⟨_, pe_chain ho ho' p p2 p3 hm, fun B ρ σ G H Q d k S he hq => ?_⟩
  rw [evE] at he
  obtain ⟨x, hx, he⟩ := R.of_bind he
  obtain ⟨y, hy, he⟩ := R.of_bind he
  obtain ⟨e, hc, he⟩ := R.of_bind he
  refine f B ρ σ G H _ x.1 x.2 S hx fun v G1 H1 st o1 => ?_
  refine f2 B ρ σ G1 H1 _ y.1 y.2 (S.step st) hy fun u G2 H2 st2 o2 => ?_
  refine hs G2 H2 v u x.1 y.1 e _ st2.sub ((o1.rc st.sub).step st2) (o2.rc st2.sub) hc ⟨e, rfl, ?_⟩
  cases e with
  | false =>
    cases he
    exact iteF (hq _ G2 H2 (st.trans st2) (.bl _))
  | true =>
    obtain ⟨z, hz, he⟩ := R.of_bind he
    obtain ⟨e2, hc2, he⟩ := R.of_bind he
    cases he
    refine iteT (f3 B ρ σ G2 H2 _ z.1 z.2 (S.step (st.trans st2)) hz fun w G3 H3 st3 o3 => ?_)
    exact hs' G3 H3 u w y.1 z.1 e2 Q st3.sub ((o2.rc st2.sub).step st3) (o3.rc st3.sub) hc2 (hq _ G3 H3 ((st.trans st2).trans st3) (.bl _))
theorem vt_chain {op op' : CmpOp} {o o' : Cm} {a b c : Expr} {ia ib ic : E} {pos : Pos} {r r' : R2} (ho : OpR X (compareOp op) r) (hs : CmR X (cmpD o) r) (ho' : OpR X (compareOp op') r') (hs' : CmR X (cmpD o') r')
    (ha : VE X C a ia) (hb : VE X C b ib) (hc : VE X C c ic) (hm : lastMarks [op, op'] [b, c] = false := by with_unfolding_all rfl) : VT X C (.Compare a [op, op'] [b, c] pos) (.chain o o' ia ib ic) := by
  obtain ⟨t, p, f⟩ := ha
  obtain ⟨t2, p2, f2⟩ := hb
  obtain ⟨t3, p3, f3⟩ := hc
  refine ⟨_, pt_chain ho ho' p p2 p3 hm, fun B ρ σ G H Q d k S he hq => ?_⟩
  rw [evE] at he
  obtain ⟨x, hx, he⟩ := R.of_bind he
  obtain ⟨y, hy, he⟩ := R.of_bind he
  obtain ⟨e, hc, he⟩ := R.of_bind he
  refine f B ρ σ G H _ x.1 x.2 S hx fun v G1 H1 st o1 => ?_
  refine f2 B ρ σ G1 H1 _ y.1 y.2 (S.step st) hy fun u G2 H2 st2 o2 => ?_
  refine hs G2 H2 v u x.1 y.1 e _ st2.sub ((o1.rc st.sub).step st2) (o2.rc st2.sub) hc ⟨e, rfl, ?_⟩
  cases e with
  | false =>
    cases he
    exact iteF ⟨_, rfl, hq G2 H2 (st.trans st2)⟩
  | true =>
    obtain ⟨z, hz, he⟩ := R.of_bind he
    obtain ⟨e2, hc2, he⟩ := R.of_bind he
    cases he
    refine iteT (f3 B ρ σ G2 H2 _ z.1 z.2 (S.step (st.trans st2)) hz fun w G3 H3 st3 o3 => ?_)
    exact hs' G3 H3 u w y.1 z.1 d _ st3.sub ((o2.rc st2.sub).step st3) (o3.rc st3.sub) hc2 ⟨_, rfl, hq G3 H3 ((st.trans st2).trans st3)⟩
end
end Fw

namespace Fw
open PySem L2
section
variable {X : Cx} {C : CallT}
theorem shp_dp {K : PySem.W.Frag} {G H : Hp} (s : Same G H) {v : V} {d : D} (r : RC K G H v d) (e : shp d = true) : Dp K H v (toPy d) ∧ SeqAt.shaped (toPy d) = true := ⟨(r.rep s).dp e, (r.rep s).shaped e⟩
theorem cm_eq : CmR X (cmpD .eq) (rEqD X.K) := by
  intro G H x y a b c Q s ra rb he hq
  obtain ⟨hc, he⟩ := R.of_guard he
  rw [Bool.and_eq_true] at hc
  cases he
  exact ⟨_, _, (shp_dp s ra hc.1).1, (shp_dp s rb hc.2).1, (shp_dp s ra hc.1).2, (shp_dp s rb hc.2).2, hq⟩
theorem cm_ne : CmR X (cmpD .ne) (rNeD X.K) := by
  intro G H x y a b c Q s ra rb he hq
  obtain ⟨hc, he⟩ := R.of_guard he
  rw [Bool.and_eq_true] at hc
  cases he
  exact ⟨_, _, (shp_dp s ra hc.1).1, (shp_dp s rb hc.2).1, (shp_dp s ra hc.1).2, (shp_dp s rb hc.2).2, hq⟩
def rLtD (K : PySem.W.Frag) : R2 := fun x y H Q => ∃ d e, Dp K H x d ∧ Dp K H y e ∧ PySem.W.alike d e = true ∧ d ≠ .none ∧ d.depth ≤ 64 ∧ Q (.bl (PySem.W.dataLt d e)) H
theorem op_ltD (hu : X.A.units + 64 < cLine) : OpR X (compareOp .Lt) (rLtD X.K) := by
  intro pins s σ H x y v u Q I rx ry ⟨d, e, h1, h2, ha, hn, hd, q⟩
  obtain ⟨as, r1⟩ := Dp.reads I d x v h1 rx
  obtain ⟨bs, r2⟩ := Dp.reads I e y u h2 ry
  have z := PySem.W.rcLt_alike d e X.A s v u as bs r1 r2 ha hn (by have := Nat.min_le_left d.depth e.depth; omega)
  exact z X.prog X.w X.xe (EP X pins σ Q) ⟨.bl _, H, I, rfl, q⟩
theorem cm_lt : CmR X (cmpD .lt) (fun x y H Q => (∃ i j, x = .int i ∧ y = .int j ∧ Q (.bl (decide (i < j))) H) ∨ (∃ i j, x = .str i ∧ y = .str j ∧ Q (.bl (decide (i.cps.toList < j.cps.toList))) H) ∨ rLtD X.K x y H Q) := by
  intro G H x y a b c Q s ra rb he hq
  cases a <;> cases b <;> (first | (cases he; done) | skip)
  case int.int i j => cases he; cases ra; cases rb; exact .inl ⟨_, _, rfl, rfl, hq⟩
  case str.str i j => cases he; obtain ⟨rfl, _⟩ := ra; obtain ⟨rfl, _⟩ := rb; exact .inr (.inl ⟨_, _, rfl, rfl, hq⟩)
  case tup.tup i j =>
    obtain ⟨hc, he⟩ := R.of_guard he
    simp only [Bool.and_eq_true] at hc
    cases he
    have h1 := shp_dp s ra hc.1.2
    have h2 := shp_dp s rb hc.2
    exact .inr (.inr ⟨_, _, h1.1, h2.1, hc.1.1, by simp [toPy], SeqAt.depth_of_shaped h1.2, hq⟩)
theorem cm_gt : CmR X (cmpD .gt) (fun x y H Q => (∃ i j, x = .int i ∧ y = .int j ∧ Q (.bl (decide (j < i))) H) ∨ ∃ i j, x = .str i ∧ y = .str j ∧ Q (.bl (decide (j.cps.toList < i.cps.toList))) H) := by
  intro G H x y a b c Q s ra rb he hq
  cases a <;> cases b <;> (first | (cases he; done) | skip)
  case int.int i j => cases he; cases ra; cases rb; exact .inl ⟨_, _, rfl, rfl, hq⟩
  case str.str i j => cases he; obtain ⟨rfl, _⟩ := ra; obtain ⟨rfl, _⟩ := rb; exact .inr ⟨_, _, rfl, rfl, hq⟩
theorem cm_le : CmR X (cmpD .le) (fun x y H Q => (∃ i j, x = .int i ∧ y = .int j ∧ Q (.bl (decide (i ≤ j))) H) ∨ ∃ i j, x = .str i ∧ y = .str j ∧ Q (.bl (!decide (j.cps.toList < i.cps.toList))) H) := by
  intro G H x y a b c Q s ra rb he hq
  cases a <;> cases b <;> (first | (cases he; done) | skip)
  case int.int i j => cases he; cases ra; cases rb; exact .inl ⟨_, _, rfl, rfl, hq⟩
  case str.str i j => cases he; obtain ⟨rfl, _⟩ := ra; obtain ⟨rfl, _⟩ := rb; exact .inr ⟨_, _, rfl, rfl, hq⟩
theorem cm_ge : CmR X (cmpD .ge) (fun x y H Q => (∃ i j, x = .int i ∧ y = .int j ∧ Q (.bl (decide (j ≤ i))) H) ∨ ∃ i j, x = .str i ∧ y = .str j ∧ Q (.bl (!decide (i.cps.toList < j.cps.toList))) H) := by
  intro G H x y a b c Q s ra rb he hq
  cases a <;> cases b <;> (first | (cases he; done) | skip)
  case int.int i j => cases he; cases ra; cases rb; exact .inl ⟨_, _, rfl, rfl, hq⟩
  case str.str i j => cases he; obtain ⟨rfl, _⟩ := ra; obtain ⟨rfl, _⟩ := rb; exact .inr ⟨_, _, rfl, rfl, hq⟩
theorem isNon_v {K : PySem.W.Frag} {G H : Hp} {v : V} {d : D} (r : RC K G H v d) : decide (v = .non) = isNon d := by
  cases d with
  | non => cases r; rfl
  | bl b => cases r; rfl
  | int i => cases r; rfl
  | str x => obtain ⟨rfl, _⟩ := r; rfl
  | lst ds => obtain ⟨a, vs, rfl, _⟩ := r; rfl
  | tup ds => obtain ⟨a, vs, rfl, _⟩ := r; rfl
  | dK ds => obtain ⟨a, vs, rfl, _⟩ := r; rfl
  | dT ds => obtain ⟨a, vs, rfl, _⟩ := r; rfl
theorem isNon_eq {K : PySem.W.Frag} {G H : Hp} {v : V} {d : D} (r : RC K G H v d) (h : isNon d = true) : v = .non := by
  rw [← isNon_v r, decide_eq_true_eq] at h; exact h
theorem cm_isN : CmR X (cmpD .isN) (fun x y H Q => y = .non ∧ Q (.bl (decide (x = .non))) H) := by
  intro G H x y a b c Q s ra rb he hq
  obtain ⟨hc, he⟩ := R.of_guard he
  cases he
  exact ⟨isNon_eq rb hc, by rw [isNon_v ra]; exact hq⟩
theorem cm_notN : CmR X (cmpD .notN) (fun x y H Q => y = .non ∧ Q (.bl (!decide (x = .non))) H) := by
  intro G H x y a b c Q s ra rb he hq
  obtain ⟨hc, he⟩ := R.of_guard he
  cases he
  exact ⟨isNon_eq rb hc, by rw [isNon_v ra]; exact hq⟩
theorem isBl_eq {K : PySem.W.Frag} {G H : Hp} {v : V} {d : D} {b : Bool} (r : RC K G H v d) (h : isBl d = .ok b) : d = .bl b ∧ v = .bl b := by
  cases d <;> (first | (cases h; done) | skip)
  cases h; cases r; exact ⟨rfl, rfl⟩
theorem cm_isB : CmR X (cmpD .isB) rIsB := by
  intro G H x y a b c Q s ra rb he hq
  obtain ⟨i, hi, he⟩ := R.of_bind he
  obtain ⟨j, hj, he⟩ := R.of_bind he
  cases he
  exact ⟨i, j, (isBl_eq ra hi).2, (isBl_eq rb hj).2, hq⟩
theorem cm_notB : CmR X (cmpD .notB) rNotB := by
  intro G H x y a b c Q s ra rb he hq
  obtain ⟨i, hi, he⟩ := R.of_bind he
  obtain ⟨j, hj, he⟩ := R.of_bind he
  cases he
  exact ⟨i, j, (isBl_eq ra hi).2, (isBl_eq rb hj).2, hq⟩
/-- flat things -/
theorem flat_v {K : PySem.W.Frag} {G : Hp} {v : V} {d : D} (r : Rep K G v d) (h : flatD d = true) : flatV v = true := by
  cases r <;> first | rfl | cases h
theorem flat_all {K : PySem.W.Frag} {G : Hp} : ∀ {vs : List V} {ds : List D}, Reps K G vs ds → ds.all flatD = true → vs.all flatV = true
  | _, _, .nil, _ => rfl
  | _, _, .cons r t, h => by
    rw [List.all_cons, Bool.and_eq_true] at h ⊢
    exact ⟨flat_v r h.1, flat_all t h.2⟩
theorem flat_eq {K : PySem.W.Frag} {G : Hp} {v u : V} {d e : D} (r : Rep K G v d) (q : Rep K G u e) (h : flatD d = true) (g : flatD e = true) : eqV v u = eqD d e := by
  cases r <;> (first | (cases h; done) | skip) <;> cases q <;> (first | (cases g; done) | skip) <;> simp [eqV, eqD, toPy, PyData.eqv]
theorem flat_in {K : PySem.W.Frag} {G : Hp} {v : V} {d : D} (r : Rep K G v d) (h : flatD d = true) : ∀ {vs : List V} {ds : List D}, Reps K G vs ds → ds.all flatD = true → inV v vs = ds.any fun y => eqD y d
  | _, _, .nil, _ => rfl
  | _, _, .cons q t, g => by
    rw [List.all_cons, Bool.and_eq_true] at g
    have ih := flat_in r h t g.2
    unfold inV at ih ⊢
    rw [List.any_cons, List.any_cons, ih, flat_eq q r g.1 h]
theorem any_py (d : D) : ∀ ds : List D, ((toPys ds).any fun z => PyData.eqv z (toPy d)) = ds.any fun y => eqD y d
  | [] => rfl
  | x :: xs => by rw [toPys, List.any_cons, List.any_cons, any_py d xs]; rfl
theorem cm_in : CmR X (cmpD .isin) (fun x y H Q => rInD X.K x y H Q ∨ rIn X.K false x y H Q ∨ ∃ i j, x = .str i ∧ y = .str j ∧ Q (.bl (!(Builtin.Str.occurrences j i 0 j.length 1).isEmpty)) H) := by
  intro G H x y a b c Q s ra rb he hq
  replace he : inD a b = .ok c := he
  cases b <;> (first | (cases he; done) | skip)
  case lst ys =>
    obtain ⟨hc, he⟩ := R.of_guard he
    rw [Bool.and_eq_true] at hc
    cases he
    have h1 := shp_dp s ra hc.1
    have h2 := shp_dp s rb hc.2
    refine .inl ⟨_, _, h1.1, h2.1, h1.2, h2.2, ?_⟩
    rw [any_py]
    exact hq
  case tup ys =>
    obtain ⟨hc, he⟩ := R.of_guard he
    rw [Bool.and_eq_true] at hc
    cases he
    obtain ⟨l, vs, rfl, h1, h2, h3⟩ := rb
    have r := ra.rep s
    refine .inr (.inl ⟨l, vs, rfl, .inr (SqT.of (s _ _ h1)), flat_v r hc.1, flat_all h3 hc.2, ?_⟩)
    rw [if_neg Bool.false_ne_true, flat_in r hc.1 (h3.mono s) hc.2]
    exact hq
  case str z =>
    cases a <;> (first | (cases he; done) | skip)
    cases he
    obtain ⟨rfl, _⟩ := ra
    obtain ⟨rfl, _⟩ := rb
    exact .inr (.inr ⟨_, _, rfl, rfl, hq⟩)
theorem cm_notin : CmR X (cmpD .notin) (fun x y H Q => rNotInD X.K x y H Q ∨ rIn X.K true x y H Q ∨ ∃ i j, x = .str i ∧ y = .str j ∧ Q (.bl (!(!(Builtin.Str.occurrences j i 0 j.length 1).isEmpty))) H) := by
  intro G H x y a b c Q s ra rb he hq
  obtain ⟨c', hin, hcc⟩ := R.of_bind (show (inD a b).bind (fun c => R.ok (!c)) = .ok c from he)
  clear he
  cases hcc
  replace he := hin
  clear hin
  cases b <;> (first | (cases he; done) | skip)
  case lst ys =>
    obtain ⟨hc, he⟩ := R.of_guard he
    rw [Bool.and_eq_true] at hc
    cases he
    have h1 := shp_dp s ra hc.1
    have h2 := shp_dp s rb hc.2
    refine .inl ⟨_, _, h1.1, h2.1, h1.2, h2.2, ?_⟩
    rw [any_py]
    exact hq
  case tup ys =>
    obtain ⟨hc, he⟩ := R.of_guard he
    rw [Bool.and_eq_true] at hc
    cases he
    obtain ⟨l, vs, rfl, h1, h2, h3⟩ := rb
    have r := ra.rep s
    refine .inr (.inl ⟨l, vs, rfl, .inr (SqT.of (s _ _ h1)), flat_v r hc.1, flat_all h3 hc.2, ?_⟩)
    rw [if_pos rfl, flat_in r hc.1 (h3.mono s) hc.2]
    exact hq
  case str z =>
    cases a <;> (first | (cases he; done) | skip)
    cases he
    obtain ⟨rfl, _⟩ := ra
    obtain ⟨rfl, _⟩ := rb
    exact .inr (.inr ⟨_, _, rfl, rfl, hq⟩)
/-! the comparisons' operators, by the room that a def has -/
structure Rm (X : Cx) : Prop where
  calm : X.calm = true
  units : X.A.units + 66 < cLine
theorem Rm.of {k : Nat} (hc : X.calm = true) (hr : Room k X.A) (hu : X.A.units + 66 < cLine := by have := hr.un; omega) : Rm X := ⟨hc, hu⟩
end
end Fw

namespace Fw
open PySem L2
section
variable {X : Cx} {C : CallT}
/-! ### tests, and, or, not -/
theorem vt_val {e : Expr} {ir : E} (h : VE X C e ir) (he : ∀ whole, isTrue e X.env whole = (do let v ← whole; standAt e.pos; holding [v] (truthy v)) := by intro _; rfl) : VT X C e ir := by
  obtain ⟨t, p, f⟩ := h
  refine ⟨_, pt_val p he, fun B ρ σ G H Q b k S hv hq => ?_⟩
  refine f B ρ σ G H _ _ k S hv fun v G1 H1 st o => ?_
  have r := o.rc st.sub
  cases r
  exact ⟨b, rfl, hq G1 H1 st⟩
theorem bl_of {x : D × Kd} {b : Bool} (h : isBl x.1 = .ok b) : x = (.bl b, x.2) := by
  obtain ⟨d, k⟩ := x
  cases d <;> (first | (cases h; done) | skip)
  cases h
  rfl
theorem vt_not {a : Expr} {ia : E} {pos : Pos} (h : VT X C a ia) : VT X C (.UnaryOp .Not a pos) (.not ia) := by
  obtain ⟨t, p, f⟩ := h
  refine ⟨_, pt_not p, fun B ρ σ G H Q b k S he hq => ?_⟩
  rw [evE] at he
  obtain ⟨x, hx, he⟩ := R.of_bind he
  obtain ⟨c, hc, he⟩ := R.of_bind he
  cases he
  rw [bl_of hc] at hx
  exact f B ρ σ G H _ c x.2 S hx fun G1 H1 st => hq G1 H1 st
theorem ve_not {a : Expr} {ia : E} {pos : Pos} (h : VE X C a ia) : VE X C (.UnaryOp .Not a pos) (.not ia) := by
  obtain ⟨t, p, f⟩ := h
  refine ⟨_, pe_not p, fun B ρ σ G H Q d k S he hq => ?_⟩
  rw [evE] at he
  obtain ⟨x, hx, he⟩ := R.of_bind he
  obtain ⟨c, hc, he⟩ := R.of_bind he
  cases he
  refine f B ρ σ G H _ x.1 x.2 S hx fun v G1 H1 st o => ?_
  exact ⟨c, (isBl_eq (o.rc st.sub) hc).2, hq _ G1 H1 st (.bl _)⟩
/-- a chain of and, or as a test -/
def VW (X : Cx) (C : CallT) (e : Expr) (ir : E) : Prop := ∃ t : TT, PW X e t ∧ ∀ (B : Bs) (ρ : Env) (σ : St) (G H : Hp) (Q : Bool → Hp → Prop) (b : Bool) (k : Kd), Sim B X.K ρ σ G H → evE C ir ρ = .ok (.bl b, k) →
  (∀ G' H', Step G H G' H' → Q b H') → t σ H Q
theorem VW.vt {e : Expr} {ir : E} (h : VW X C e ir) : VT X C e ir := let ⟨t, p, f⟩ := h; ⟨t, p.pt, f⟩
theorem vw_and1 {a : Expr} {ia : E} {pos : Pos} (h : VT X C a ia) : VW X C (.BoolOp .And [a] pos) ia := let ⟨t, p, f⟩ := h; ⟨t, pw_and1 p, f⟩
theorem vw_or1 {a : Expr} {ia : E} {pos : Pos} (h : VT X C a ia) : VW X C (.BoolOp .Or [a] pos) ia := let ⟨t, p, f⟩ := h; ⟨t, pw_or1 p, f⟩
theorem vw_and {a b : Expr} {rest : List Expr} {ia ib : E} {pos : Pos} (h : VT X C a ia) (h2 : VW X C (.BoolOp .And (b :: rest) pos) ib) : VW X C (.BoolOp .And (a :: b :: rest) pos) (.and ia ib) := by
  obtain ⟨t, p, f⟩ := h
  obtain ⟨t2, p2, f2⟩ := h2
  refine ⟨_, pw_and p p2, fun B ρ σ G H Q b k S he hq => ?_⟩
  rw [evE] at he
  obtain ⟨x, hx, he⟩ := R.of_bind he
  obtain ⟨c, hc, he⟩ := R.of_bind he
  rw [bl_of hc] at hx
  refine f B ρ σ G H _ c x.2 S hx fun G1 H1 st => ?_
  cases c with
  | true => exact iteT (f2 B ρ σ G1 H1 Q b k (S.step st) he fun G2 H2 st2 => hq G2 H2 (st.trans st2))
  | false =>
    cases he
    exact iteF (hq G1 H1 st)
theorem vw_or {a b : Expr} {rest : List Expr} {ia ib : E} {pos : Pos} (h : VT X C a ia) (h2 : VW X C (.BoolOp .Or (b :: rest) pos) ib) : VW X C (.BoolOp .Or (a :: b :: rest) pos) (.or ia ib) := by
  obtain ⟨t, p, f⟩ := h
  obtain ⟨t2, p2, f2⟩ := h2
  refine ⟨_, pw_or p p2, fun B ρ σ G H Q b k S he hq => ?_⟩
  rw [evE] at he
  obtain ⟨x, hx, he⟩ := R.of_bind he
  obtain ⟨c, hc, he⟩ := R.of_bind he
  rw [bl_of hc] at hx
  refine f B ρ σ G H _ c x.2 S hx fun G1 H1 st => ?_
  cases c with
  | false => exact iteF (f2 B ρ σ G1 H1 Q b k (S.step st) he fun G2 H2 st2 => hq G2 H2 (st.trans st2))
  | true =>
    cases he
    exact iteT (hq G1 H1 st)
theorem ve_one {a : Expr} {ia : E} {pos : Pos} {op} (h : VE X C a ia) : VE X C (.BoolOp op [a] pos) ia := let ⟨t, p, f⟩ := h; ⟨t, pe_one p, f⟩
theorem ve_and {a b : Expr} {rest : List Expr} {ia ib : E} {pos : Pos} (h : VE X C a ia) (h2 : VE X C (.BoolOp .And (b :: rest) pos) ib) : VE X C (.BoolOp .And (a :: b :: rest) pos) (.and ia ib) := by
  obtain ⟨t, p, f⟩ := h
  obtain ⟨t2, p2, f2⟩ := h2
  refine ⟨_, pe_and p p2, fun B ρ σ G H Q d k S he hq => ?_⟩
  rw [evE] at he
  obtain ⟨x, hx, he⟩ := R.of_bind he
  obtain ⟨c, hc, he⟩ := R.of_bind he
  refine f B ρ σ G H _ x.1 x.2 S hx fun v G1 H1 st o => ⟨c, (isBl_eq (o.rc st.sub) hc).2, ?_⟩
  cases c with
  | true => exact iteT (f2 B ρ σ G1 H1 Q d k (S.step st) he fun w G2 H2 st2 o2 => hq w G2 H2 (st.trans st2) (o2.back st.h))
  | false =>
    cases he
    exact iteF (hq _ G1 H1 st (.bl _))
theorem ve_or {a b : Expr} {rest : List Expr} {ia ib : E} {pos : Pos} (h : VE X C a ia) (h2 : VE X C (.BoolOp .Or (b :: rest) pos) ib) : VE X C (.BoolOp .Or (a :: b :: rest) pos) (.or ia ib) := by
  obtain ⟨t, p, f⟩ := h
  obtain ⟨t2, p2, f2⟩ := h2
  refine ⟨_, pe_or p p2, fun B ρ σ G H Q d k S he hq => ?_⟩
  rw [evE] at he
  obtain ⟨x, hx, he⟩ := R.of_bind he
  obtain ⟨c, hc, he⟩ := R.of_bind he
  refine f B ρ σ G H _ x.1 x.2 S hx fun v G1 H1 st o => ⟨c, (isBl_eq (o.rc st.sub) hc).2, ?_⟩
  cases c with
  | false => exact iteF (f2 B ρ σ G1 H1 Q d k (S.step st) he fun w G2 H2 st2 o2 => hq w G2 H2 (st.trans st2) (o2.back st.h))
  | true =>
    cases he
    exact iteT (hq _ G1 H1 st (.bl _))
theorem ve_ite {c a b : Expr} {ic ia ib : E} {pos : Pos} (h : VT X C c ic) (h1 : VE X C a ia) (h2 : VE X C b ib) : VE X C (.IfExp c a b pos) (.ite ic ia ib) := by
  obtain ⟨t, p, f⟩ := h
  obtain ⟨t1, p1, f1⟩ := h1
  obtain ⟨t2, p2, f2⟩ := h2
  refine ⟨_, pe_ifExp p p1 p2, fun B ρ σ G H Q d k S he hq => ?_⟩
  rw [evE] at he
  obtain ⟨x, hx, he⟩ := R.of_bind he
  obtain ⟨c, hc, he⟩ := R.of_bind he
  rw [bl_of hc] at hx
  refine f B ρ σ G H _ c x.2 S hx fun G1 H1 st => ?_
  cases c with
  | true => exact iteT (f1 B ρ σ G1 H1 Q d k (S.step st) he fun w G2 H2 st2 o2 => hq w G2 H2 (st.trans st2) (o2.back st.h))
  | false => exact iteF (f2 B ρ σ G1 H1 Q d k (S.step st) he fun w G2 H2 st2 o2 => hq w G2 H2 (st.trans st2) (o2.back st.h))

/-! ### displays -/
theorem evEs_length : ∀ {irs : List E} {ρ : Env} {ds : List (D × Kd)}, evEs C irs ρ = .ok ds → ds.length = irs.length
  | [], ρ, ds, h => by rw [evEs] at h; cases h; rfl
  | e :: es, ρ, ds, h => by
    rw [evEs] at h
    obtain ⟨x, hx, h⟩ := R.of_bind h
    obtain ⟨l, hl, h⟩ := R.of_bind h
    cases h
    rw [List.length_cons, List.length_cons, evEs_length hl]
theorem ve_tup {es : List Expr} {irs : List E} {x1} {pos : Pos} (h : VA X C es irs) (hl : decide (irs.length ≤ 1000) = true := by rfl) : VE X C (.Tuple es x1 pos) (.tup irs) := by
  obtain ⟨t, p, f⟩ := h
  refine ⟨_, pe_tup p, fun B ρ σ G H Q d k S he hq => ?_⟩
  rw [evE] at he
  obtain ⟨ds, hx, he⟩ := R.of_bind he
  obtain ⟨hc, he⟩ := R.of_guard he
  cases he
  refine f B ρ σ G H _ ds S hx fun vs G1 H1 st o => ?_
  have r := o.reps hc
  have hz : vs.length ≤ sizeLine := by
    rw [o.length, evEs_length hx, sizeLine_eq]
    have := of_decide_eq_true hl
    omega
  exact ⟨hz, out_tup (B := B) st.sub hz r fun v G2 H2 st2 o2 => hq v G2 H2 (st.trans st2) o2⟩
theorem ve_lst {es : List Expr} {irs : List E} {pos : Pos} (h : VA X C es irs) (hl : decide (irs.length ≤ 1000) = true := by rfl) : VE X C (.List es pos) (.lst irs) := by
  obtain ⟨t, p, f⟩ := h
  refine ⟨_, pe_lst p, fun B ρ σ G H Q d k S he hq => ?_⟩
  rw [evE] at he
  obtain ⟨ds, hx, he⟩ := R.of_bind he
  obtain ⟨hc, he⟩ := R.of_guard he
  cases he
  refine f B ρ σ G H _ ds S hx fun vs G1 H1 st o => ?_
  have r := o.reps hc
  have hz : vs.length ≤ sizeLine := by
    rw [o.length, evEs_length hx, sizeLine_eq]
    have := of_decide_eq_true hl
    omega
  exact ⟨hz, out_new (B := B) st.sub hz r fun v G2 H2 st2 o2 => hq v G2 H2 (st.trans st2) (o2.back st.h)⟩
theorem ve_dict0K {pos : Pos} : VE X C (.Dict [] [] pos) (.dict0 false) := by
  refine ⟨_, pe_dnewK, fun B ρ σ G H Q d k S he hq => ?_⟩
  rw [evE] at he
  cases he
  exact fun p hp => hq (.ref p) G _ (Step.newH S.sub hp) ⟨p, rfl, hp, S.sub.free hp, [], upd_same, Nat.zero_le _, .nil⟩
theorem ve_dict0T {pos : Pos} : VE X C (.Dict [] [] pos) (.dict0 true) := by
  refine ⟨_, pe_dnewT, fun B ρ σ G H Q d k S he hq => ?_⟩
  rw [evE] at he
  cases he
  exact fun p hp => hq (.ref p) G _ (Step.newH S.sub hp) ⟨p, rfl, hp, S.sub.free hp, [], upd_same, Nat.zero_le _, .nil⟩

/-! ### calls of the program's own -/
/-- a def's promise: it yields what C says -/
def spC (K : PySem.W.Frag) (C : CallT) (f np : Nat) : Sp := fun vs H Q _ => vs.length = np ∧ ∃ (ds : List D) (G : Hp) (d : D) (b : Bool), Same G H ∧ Reps K G vs ds ∧ C f ds = .ok (d, b) ∧
  ∀ v G' H', Step G H G' H' → Out ⟨G, H⟩ K H d v G' H' (toKd b) → Q v H'
theorem Out.base {B B' : Bs} {K : PySem.W.Frag} {H : Hp} {d : D} {v : V} {G' H' : Hp} {b : Bool} (h : Out B K H d v G' H' (toKd b)) : Out B' K H d v G' H' (toKd b) := by
  cases b <;> exact h
/-! what is lent to a call -/
def lendG (G H : Hp) (A : List Addr) : Hp := fun a => if a ∈ A then H a else G a
def backG (G : Hp) (A : List Addr) : Hp := fun a => if a ∈ A then none else G a
mutual
theorem Rep.cut {K : PySem.W.Frag} {G : Hp} {A : List Addr} (hA : ∀ a ∈ A, ∀ xs, G a ≠ some (.tup xs)) : ∀ {v : V} {d : D}, Rep K G v d → noL d = true → Rep K (backG G A) v d
  | _, _, .non, _ => .non
  | _, _, .bl b, _ => .bl b
  | _, _, .int i, _ => .int i
  | _, _, .str x h, _ => .str x h
  | _, _, .lst _ _ _, h => by rw [noL] at h; cases h
  | _, _, .tup (a := a) h1 h2 h3, h => .tup (by
    unfold backG
    rw [if_neg fun z => hA a z _ h1]
    exact h1) h2 (Reps.cut hA h3 (by rw [noL] at h; exact h))
  | _, _, .dK _ _ _, h => by rw [noL] at h; cases h
  | _, _, .dT _ _ _, h => by rw [noL] at h; cases h
theorem Reps.cut {K : PySem.W.Frag} {G : Hp} {A : List Addr} (hA : ∀ a ∈ A, ∀ xs, G a ≠ some (.tup xs)) : ∀ {vs : List V} {ds : List D}, Reps K G vs ds → noLs ds = true → Reps K (backG G A) vs ds
  | _, _, .nil, _ => .nil
  | _, _, .cons r t, h => by
    rw [noLs, Bool.and_eq_true] at h
    exact .cons (Rep.cut hA r h.1) (Reps.cut hA t h.2)
end
theorem Outs.lend {B : Bs} {K : PySem.W.Frag} {H G1 H1 : Hp} (s : Same G1 H1) : ∀ {vs : List V} {ds : List (D × Kd)}, Outs B K H G1 H1 vs ds → (ds.all fun d => notB2 d.2) = true →
    ∃ A : List Addr, (∀ a ∈ A, G1 a = none ∧ ∃ o, H1 a = some o ∧ ∀ xs, o ≠ .tup xs) ∧ ∀ G' : Hp, Same G1 G' → (∀ a ∈ A, G' a = H1 a) → Reps K G' vs (ds.map (·.1))
  | _, _, .nil, _ => ⟨[], fun a h => (nomatch h), fun _ _ _ => .nil⟩
  | _, _, .cons (d := d) (k := k) a r, h => by
    rw [List.all_cons, Bool.and_eq_true] at h
    obtain ⟨A, h1, h2⟩ := r.lend s h.2
    cases k with
    | sh => exact ⟨A, h1, fun G' t e => .cons (Rep.mono t a) (h2 G' t e)⟩
    | nw => exact ⟨A, h1, fun G' t e => .cons (Rep.mono t a) (h2 G' t e)⟩
    | bw =>
      obtain ⟨p, rfl, _, g, c⟩ := a
      obtain ⟨o, ho, hno⟩ := c.there
      refine ⟨p :: A, fun b hb => ?_, fun G' t e => ?_⟩
      · rcases List.mem_cons.mp hb with rfl | hb
        · exact ⟨g, o, ho, hno⟩
        · exact h1 b hb
      · refine .cons (c.rep t fun u hu => ?_) (h2 G' t fun b hb => e b (List.mem_cons_of_mem _ hb))
        rw [e p List.mem_cons_self]
        exact hu
    | b2 => cases h.1
theorem ve_call {f : Addr} {fd : FuncData} {ps : List Str} {x : Str} {e : Expr} {es : List Expr} {ir : E} {irs : List E} {p pos : Pos} {k fi np : Nat} (F : FnOk X.prog X.w X.K X.mg X.base CX0 k f fd ps (spC X.K C fi np)) (hr : Room k X.A) (hg : Gl X x)
    (hm : X.mg x = some (.ref f)) (hk : PySem.W.keepIn X.K (.ref f) = true) (hb : Binds X.K fd ps []) (h : VA X C (e :: es) (ir :: irs)) (hn : decide ((ir :: irs).length = np) = true := by rfl) (hdb : (x == ("__debug__" : Str)) = false := by decide)
    (he : starEach (e :: es) X.env = (false, eval e X.env) :: starEach es X.env := by rfl) (hpl : (backTo pos (starEach es X.env)).any (·.1) = false := by rfl) :
    VE X C (.Call (.Name x p) (e :: es) [] pos) (.call fi (ir :: irs)) := by
  obtain ⟨t, pa, fa⟩ := h
  refine ⟨_, pe_call F hr hg hm hk hb .nil pass0 pa hdb he hpl, fun B ρ σ G H Q d kd S hv hq => ?_⟩
  rw [evE] at hv
  obtain ⟨ds, hx, hv⟩ := R.of_bind hv
  obtain ⟨r, hr2, hv⟩ := R.of_bind hv
  obtain ⟨hc, hv⟩ := R.of_guard hv
  cases hv
  refine fa B ρ σ G H _ ds S hx fun vs G1 H1 st o => ?_
  rw [List.append_nil]
  rw [Bool.or_eq_true] at hc
  rcases hc with hc | hc
  · refine ⟨by rw [o.length, evEs_length hx]; exact of_decide_eq_true hn, ds.map (·.1), G1, r.1, r.2, st.sub, o.reps hc, hr2, fun v G2 H2 st2 o2 => ?_⟩
    exact hq v G2 H2 (st.trans st2) (o2.base.back st.h)
  · rw [Bool.and_eq_true] at hc
    obtain ⟨A, hA, hR⟩ := o.lend st.sub hc.1
    have l1 : Same G1 (lendG G1 H1 A) := fun a u e => by
      unfold lendG
      rw [if_neg fun z => by rw [(hA a z).1] at e; cases e]
      exact e
    have l2 : Same (lendG G1 H1 A) H1 := fun a u e => by
      unfold lendG at e
      split at e
      · exact e
      · exact st.sub _ _ e
    refine ⟨by rw [o.length, evEs_length hx]; exact of_decide_eq_true hn, ds.map (·.1), lendG G1 H1 A, r.1, r.2, l2, hR _ l1 (fun a ha => by unfold lendG; rw [if_pos ha]), hr2, fun v G2 H2 st2 o2 => ?_⟩
    have at2 : ∀ a ∈ A, ∀ xs, G2 a ≠ some (.tup xs) := fun a ha xs z => by
      obtain ⟨_, u, hu, hno⟩ := hA a ha
      have := st2.g a u (by unfold lendG; rw [if_pos ha]; exact hu)
      rw [z] at this
      cases this
      exact hno xs rfl
    have st3 : Step G1 H1 (backG G2 A) H2 := by
      refine ⟨fun a u e => ?_, st2.h, fun a u e => ?_, fun a u e => ?_⟩
      · unfold backG
        rw [if_neg fun z => by rw [(hA a z).1] at e; cases e]
        exact st2.g a u (l1 a u e)
      · unfold backG at e
        split at e
        · cases e
        · exact st2.sub a u e
      · unfold backG at e
        split at e
        · cases e
        · rename_i hn
          rcases st2.new a u e with h | h | h
          · unfold lendG at h
            rw [if_neg hn] at h
            exact .inl h
          · exact .inr (.inl h)
          · exact .inr (.inr h)
    refine hq v (backG G2 A) H2 (st.trans st3) ?_
    obtain ⟨d, b⟩ := r
    have hres := hc.2
    cases b with
    | false =>
      have o2' : Rep X.K G2 v d := o2
      have hd : noL d = true := by cases d <;> exact hres
      exact o2'.cut at2 hd
    | true =>
      obtain ⟨q, rfl, n, g, c⟩ := o2
      cases d <;> (first | (cases hres; done) | skip)
      rename_i xs
      obtain ⟨vs', c1, c2, c3⟩ := c
      refine ⟨q, rfl, st.h.free n, ?_, vs', c1, c2, c3.cut at2 hres⟩
      unfold backG
      split
      · rfl
      · exact g
end
end Fw

namespace Fw
open PySem L2
section
variable {X : Cx} {C : CallT}
/-! ### built-ins -/
inductive RCs (K : PySem.W.Frag) (G H : Hp) : List V → List D → Prop
  | nil : RCs K G H [] []
  | cons {v : V} {vs : List V} {d : D} {ds : List D} : RC K G H v d → RCs K G H vs ds → RCs K G H (v :: vs) (d :: ds)
theorem Outs.rcs {B : Bs} {K : PySem.W.Frag} {H G1 H1 : Hp} (s : Same G1 H1) : ∀ {vs : List V} {ds : List (D × Kd)}, Outs B K H G1 H1 vs ds → RCs K G1 H1 vs (ds.map (·.1))
  | _, _, .nil => .nil
  | _, _, .cons a r => .cons (a.rc s) (r.rcs s)
def CBR (X : Cx) (f : List D → R (D × Kd)) (r : List V → Hp → VK → Prop) : Prop := ∀ (B : Bs) (G H : Hp) (vs : List V) (ds : List D) (d : D) (k : Kd) (Q : VK), Same G H → RCs X.K G H vs ds → f ds = .ok (d, k) →
  (∀ v G' H', Step G H G' H' → Out B X.K H d v G' H' k → Q v H') → r vs H Q
theorem bi_step {r : List V → Hp → VK → Prop} {bi : Bi} {irs : List E} {t : TA} (hs : CBR X (biD bi) r) (fa : ∀ (B : Bs) (ρ : Env) (σ : St) (G H : Hp) (Q : List V → Hp → Prop) (ds : List (D × Kd)), Sim B X.K ρ σ G H → evEs C irs ρ = .ok ds →
    (∀ vs G' H', Step G H G' H' → Outs B X.K H G' H' vs ds → Q vs H') → t σ H Q) (B : Bs) (ρ : Env) (σ : St) (G H : Hp) (Q : VK) (d : D) (k : Kd) (S : Sim B X.K ρ σ G H) (he : evE C (.bi bi irs) ρ = .ok (d, k))
    (hq : ∀ v G' H', Step G H G' H' → Out B X.K H d v G' H' k → Q v H') : tCB r t σ H Q := by
  rw [evE] at he
  obtain ⟨ds, hx, he⟩ := R.of_bind he
  refine fa B ρ σ G H _ ds S hx fun vs G1 H1 st o => ?_
  exact hs B G1 H1 vs _ d k Q st.sub (o.rcs st.sub) he fun v G2 H2 st2 o2 => hq v G2 H2 (st.trans st2) (o2.back st.h)
theorem ve_bi {id : String} {r : List V → Hp → VK → Prop} {bi : Bi} {x : Str} {e : Expr} {es : List Expr} {irs : List E} {p pos : Pos} (hc : CallR X (.builtin id) r) (hs : CBR X (biD bi) r) (hg : Gl X x) (hm : X.mg x = none)
    (hv : bootBuiltins x = some (.builtin id)) (h : VA X C (e :: es) irs) (hn : x ≠ "__name__" := by decide) (hdb : (x == ("__debug__" : Str)) = false := by decide)
    (he : starEach (e :: es) X.env = (false, eval e X.env) :: starEach es X.env := by rfl) (hpl : (backTo pos (starEach es X.env)).any (·.1) = false := by rfl) : VE X C (.Call (.Name x p) (e :: es) [] pos) (.bi bi irs) := by
  obtain ⟨t, pa, fa⟩ := h
  exact ⟨_, pe_callB hc hg hm hv pa hn hdb he hpl, bi_step hs fa⟩
theorem ve_ty {T : String} {r : List V → Hp → VK → Prop} {bi : Bi} {x : Str} {e : Expr} {es : List Expr} {irs : List E} {p pos : Pos} (hc : CallR X (.type T) r) (hs : CBR X (biD bi) r) (hg : Gl X x) (hm : X.mg x = none)
    (hv : bootBuiltins x = some (.type T)) (h : VA X C (e :: es) irs) (hn : x ≠ "__name__" := by decide) (hdb : (x == ("__debug__" : Str)) = false := by decide)
    (he : starEach (e :: es) X.env = (false, eval e X.env) :: starEach es X.env := by rfl) (hpl : (backTo pos (starEach es X.env)).any (·.1) = false := by rfl) : VE X C (.Call (.Name x p) (e :: es) [] pos) (.bi bi irs) := by
  obtain ⟨t, pa, fa⟩ := h
  exact ⟨_, pe_callTy hc hg hm hv pa hn hdb he hpl, bi_step hs fa⟩
theorem CallR.or {f : Value} {r r' : List V → Hp → VK → Prop} (h : CallR X f r) (h' : CallR X f r') : CallR X f (fun vs H Q => r vs H Q ∨ r' vs H Q) := fun pins s σ H xs us Q I rv q => q.elim (h pins s σ H xs us Q I rv) (h' pins s σ H xs us Q I rv)
theorem rc1 {K : PySem.W.Frag} {G H : Hp} {vs : List V} {d : D} (h : RCs K G H vs [d]) : ∃ v, vs = [v] ∧ RC K G H v d := by
  cases h with | cons a t => cases t; exact ⟨_, rfl, a⟩
theorem rc2 {K : PySem.W.Frag} {G H : Hp} {vs : List V} {d e : D} (h : RCs K G H vs [d, e]) : ∃ v u, vs = [v, u] ∧ RC K G H v d ∧ RC K G H u e := by
  cases h with | cons a t => cases t with | cons b t => cases t; exact ⟨_, _, rfl, a, b⟩
theorem call_lenDR : CallR X (.builtin "len") (fun xs H Q => ∃ a kvs, xs = [V.ref a] ∧ Rd H a (.dK kvs) ∧ Q (.int kvs.length) H) := by
  intro pins s σ H xs us Q I r h
  obtain ⟨a, kvs, rfl, ha, q⟩ := h
  obtain ⟨u, rfl, ru⟩ := vals1 r
  cases ru
  exact d_len I ha fun t s' I' => ⟨.int kvs.length, H, I', ⟨t, rfl⟩, q⟩
/-- a built-in of one argument -/
theorem cb_len : CBR X (biD .len) (fun vs H Q => (∃ x n, vs = [x] ∧ LenV X.K x H n ∧ Q (.int n) H) ∨ ∃ a kvs, vs = [V.ref a] ∧ Rd H a (.dK kvs) ∧ Q (.int kvs.length) H) := by
  intro B G H vs ds d k Q s rc he hq
  replace he : lenD ds = .ok (d, k) := he
  unfold lenD at he
  split at he
  · rename_i xs
    cases he
    obtain ⟨v, rfl, r⟩ := rc1 rc
    obtain ⟨a, ws, rfl, h1, h2, h3⟩ := r
    exact .inl ⟨_, xs.length, rfl, .inl ⟨_, h1, by rw [h3.length]⟩, out_same s (.int _) hq⟩
  · rename_i xs
    cases he
    obtain ⟨v, rfl, r⟩ := rc1 rc
    obtain ⟨a, ws, rfl, h1, h2, h3⟩ := r
    exact .inl ⟨_, xs.length, rfl, .inr ⟨_, .of (s _ _ h1), by rw [h3.length]⟩, out_same s (.int _) hq⟩
  · rename_i x
    cases he
    obtain ⟨v, rfl, r⟩ := rc1 rc
    obtain ⟨rfl, o⟩ := r
    exact .inl ⟨_, x.length, rfl, ⟨o.1, rfl⟩, out_same s (.int _) hq⟩
  · rename_i xs
    cases he
    obtain ⟨v, rfl, r⟩ := rc1 rc
    obtain ⟨a, ws, rfl, h1, h2, h3⟩ := r
    have hl : ws.length = xs.length := by
      rcases h3 with h3 | ⟨qs, h3⟩
      · exact h3.length
      · exact (h3.rep s).length
    refine .inr ⟨a, ws, rfl, h1, ?_⟩
    rw [hl]
    exact out_same s (.int _) hq
  · cases he
theorem ints_of {K : PySem.W.Frag} {G : Hp} : ∀ {vs : List V} {ds : List D} {l : List Int}, Reps K G vs ds → intsD ds = .ok l → vs = l.map V.int
  | _, _, l, .nil, h => by cases h; rfl
  | _, _, l, .cons (d := d) r t, h => by
    cases d <;> (first | (cases h; done) | skip)
    obtain ⟨l2, h2, h⟩ := R.of_bind h
    cases h
    cases r
    rw [ints_of t h2]
    rfl
theorem bools_of {K : PySem.W.Frag} {G : Hp} : ∀ {vs : List V} {ds : List D} {l : List Bool}, Reps K G vs ds → boolsD ds = .ok l → vs = l.map V.bl
  | _, _, l, .nil, h => by cases h; rfl
  | _, _, l, .cons (d := d) r t, h => by
    cases d <;> (first | (cases h; done) | skip)
    obtain ⟨l2, h2, h⟩ := R.of_bind h
    cases h
    cases r
    rw [bools_of t h2]
    rfl
theorem strs_of {K : PySem.W.Frag} {G : Hp} : ∀ {vs : List V} {ds : List D} {l : List Str}, Reps K G vs ds → strsD ds = .ok l → vs = l.map V.str ∧ ∀ x ∈ l, StrOk x
  | _, _, l, .nil, h => by cases h; exact ⟨rfl, fun _ h => nomatch h⟩
  | _, _, l, .cons (d := d) r t, h => by
    cases d <;> (first | (cases h; done) | skip)
    obtain ⟨l2, h2, h⟩ := R.of_bind h
    cases h
    cases r with
    | str x o =>
      obtain ⟨e, q⟩ := strs_of t h2
      rw [e]
      exact ⟨rfl, fun y hy => (List.mem_cons.mp hy).elim (fun z => by subst z; exact o) (q y)⟩
theorem cb_all : CBR X (biD .all) (rAll X.K) := by
  intro B G H vs ds d k Q s rc he hq
  replace he : allD ds = .ok (d, k) := he
  unfold allD at he
  split at he <;> (first | (cases he; done) | skip)
  obtain ⟨l, hl, he⟩ := R.of_bind he
  cases he
  obtain ⟨v, rfl, a, ws, rfl, h1, h2, h3⟩ := rc1 rc
  have e := bools_of h3 hl
  subst e
  exact ⟨a, l, rfl, h1, out_same s (.bl _) hq⟩
theorem cb_any : CBR X (biD .any) (rAny X.K) := by
  intro B G H vs ds d k Q s rc he hq
  replace he : anyD ds = .ok (d, k) := he
  unfold anyD at he
  split at he <;> (first | (cases he; done) | skip)
  obtain ⟨l, hl, he⟩ := R.of_bind he
  cases he
  obtain ⟨v, rfl, a, ws, rfl, h1, h2, h3⟩ := rc1 rc
  have e := bools_of h3 hl
  subst e
  exact ⟨a, l, rfl, h1, out_same s (.bl _) hq⟩
end
end Fw

namespace Fw
open PySem L2
section
variable {X : Cx} {C : CallT}
theorem cb_abs : CBR X (biD .abs) (fun xs H Q => ∃ i, xs = [.int i] ∧ Q (.int (if i < 0 then -i else i)) H) := by
  intro B G H vs ds d k Q s rc he hq
  replace he : absD ds = .ok (d, k) := he
  unfold absD at he
  split at he <;> (first | (cases he; done) | skip)
  cases he
  obtain ⟨v, rfl, r⟩ := rc1 rc
  cases r
  exact ⟨_, rfl, out_same s (.int _) hq⟩
theorem cb_int : CBR X (biD .int) (fun xs H Q => (∃ i, xs = [.int i] ∧ Q (.int i) H) ∨ ∃ k, xs = [.bl k] ∧ Q (.int (if k then 1 else 0)) H) := by
  intro B G H vs ds d k Q s rc he hq
  replace he : intD ds = .ok (d, k) := he
  unfold intD at he
  split at he <;> (first | (cases he; done) | skip)
  all_goals
    cases he
    obtain ⟨v, rfl, r⟩ := rc1 rc
    cases r
  · exact .inl ⟨_, rfl, out_same s (.int _) hq⟩
  · exact .inr ⟨_, rfl, out_same s (.int _) hq⟩
theorem cb_bool : CBR X (biD .bool) (fun xs H Q => (∃ i, xs = [.int i] ∧ Q (.bl (i != 0)) H) ∨ ∃ k, xs = [.bl k] ∧ Q (.bl k) H) := by
  intro B G H vs ds d k Q s rc he hq
  replace he : boolD ds = .ok (d, k) := he
  unfold boolD at he
  split at he <;> (first | (cases he; done) | skip)
  all_goals
    cases he
    obtain ⟨v, rfl, r⟩ := rc1 rc
    cases r
  · exact .inl ⟨_, rfl, out_same s (.bl _) hq⟩
  · exact .inr ⟨_, rfl, out_same s (.bl _) hq⟩
theorem seq_of {K : PySem.W.Frag} {G H : Hp} (s : Same G H) {v : V} {d : D} {xs : List D} (r : RC K G H v d) (h : items d = .ok xs) : ∃ a vs, v = .ref a ∧ (SqL K H a vs ∨ SqT K H a vs) ∧ vs.length ≤ sizeLine ∧ Reps K G vs xs := by
  cases d <;> (first | (cases h; done) | skip)
  · cases h
    obtain ⟨a, vs, e, h1, h2, h3⟩ := r
    exact ⟨a, vs, e, .inl h1, h2, h3⟩
  · cases h
    obtain ⟨a, vs, e, h1, h2, h3⟩ := r
    exact ⟨a, vs, e, .inr (.of (s _ _ h1)), h2, h3⟩
theorem cb_list : CBR X (biD .list) (fun xs H Q => ∃ p ys, xs = [.ref p] ∧ (SqL X.K H p ys ∨ SqT X.K H p ys) ∧ ∀ l, H l = none → Q (.ref l) (upd H l (.lst ys))) := by
  intro B G H vs ds d k Q s rc he hq
  replace he : listD ds = .ok (d, k) := he
  unfold listD at he
  split at he <;> (first | (cases he; done) | skip)
  obtain ⟨xs, hx, he⟩ := R.of_bind he
  cases he
  obtain ⟨v, rfl, r⟩ := rc1 rc
  obtain ⟨a, ws, rfl, h1, h2, h3⟩ := seq_of s r hx
  exact ⟨a, ws, rfl, h1, out_new s h2 h3 hq⟩
theorem cb_tuple : CBR X (biD .tuple) (fun xs H Q => ∃ p ys, xs = [.ref p] ∧ ((SqL X.K H p ys ∧ ∀ l, H l = none → Q (.ref l) (upd H l (.tup ys))) ∨ (SqT X.K H p ys ∧ Q (.ref p) H))) := by
  intro B G H vs ds d k Q s rc he hq
  replace he : tupleD ds = .ok (d, k) := he
  unfold tupleD at he
  split at he <;> (first | (cases he; done) | skip)
  rename_i d0
  obtain ⟨xs, hx, he⟩ := R.of_bind he
  cases he
  obtain ⟨v, rfl, r⟩ := rc1 rc
  cases d0 <;> (first | (cases hx; done) | skip)
  · cases hx
    obtain ⟨a, ws, rfl, h1, h2, h3⟩ := r
    exact ⟨a, ws, rfl, .inl ⟨h1, out_tup s h2 h3 hq⟩⟩
  · cases hx
    obtain ⟨a, ws, rfl, h1, h2, h3⟩ := r
    exact ⟨a, ws, rfl, .inr ⟨.of (s _ _ h1), out_same s (.tup h1 h2 h3) hq⟩⟩
open PyProof.Rows in
theorem cr_sumT (hc : X.calm = true) : CallR X (.builtin "sum") (fun vs H Q => ∃ (a : Addr) (ns : List Int), vs = [V.ref a] ∧ SqT X.K H a (ns.map V.int) ∧ Q (.int ns.sum) H) := by
  intro pins s σ H vs us Q I r ⟨a, ns, e, hs, q⟩
  subst e
  obtain ⟨its, rv, hl, _⟩ := I.tuple hs
  obtain ⟨xs, hx⟩ := rv.ints.allInts.items
  have hn : numsOf (intItems xs).toList = ns := by rw [← hx]; exact rv.ints.numsOf
  rw [nums_intItems] at hn
  rw [hx] at hl
  rw [Vals.ref1 r]
  refine PySem.W.ktm_sumG (I.ok.hd hc) hl fun h' tk t' hk => ?_
  rw [preSum_eq, List.take_of_length_le (by simp), hn]
  exact ⟨.int _, H, I.kept hk, ⟨_, rfl⟩, q⟩
theorem cb_sum : CBR X (biD .sum) (fun vs H Q => rSum X.K vs H Q ∨ ∃ (a : Addr) (ns : List Int), vs = [V.ref a] ∧ SqT X.K H a (ns.map V.int) ∧ Q (.int ns.sum) H) := by
  intro B G H vs ds d k Q s rc he hq
  replace he : sumD ds = .ok (d, k) := he
  unfold sumD at he
  split at he <;> (first | (cases he; done) | skip)
  all_goals
    obtain ⟨l, hl, he⟩ := R.of_bind he
    cases he
    obtain ⟨v, rfl, a, ws, rfl, h1, h2, h3⟩ := rc1 rc
    have e := ints_of h3 hl
    subst e
  · exact .inl ⟨a, l, rfl, h1, out_same s (.int _) hq⟩
  · exact .inr ⟨a, l, rfl, .of (s _ _ h1), out_same s (.int _) hq⟩
/-! ### isinstance -/
def nameD : D → String
  | .non => "NoneType" | .bl _ => "bool" | .int _ => "int" | .str _ => "str" | .lst _ => "list" | .tup _ => "tuple" | .dK _ => "dict" | .dT _ => "dict"
def nameT : Ty → String
  | .int => "int" | .bool => "bool" | .str => "str" | .tuple => "tuple" | .list => "list" | .dict => "dict"
def isTab : Bool := [Ty.int, .bool, .str, .tuple, .list, .dict].all fun t => [D.non, .bl true, .int 0, .str Str.empty, .lst [], .tup [], .dK [], .dT []].all fun d => decide (kitB (nameD d) (nameT t) = some (tyD t d))
theorem isTab_ok : isTab = true := by decide +kernel
theorem isTab_at (t : Ty) (d : D) (hd : d ∈ [D.non, .bl true, .int 0, .str Str.empty, .lst [], .tup [], .dK [], .dT []]) : kitB (nameD d) (nameT t) = some (tyD t d) := by
  have h := isTab_ok
  unfold isTab at h
  rw [List.all_eq_true] at h
  have h2 := h t (by cases t <;> simp)
  rw [List.all_eq_true] at h2
  exact of_decide_eq_true (h2 d hd)
theorem kit_all (t : Ty) (d : D) : kitB (nameD d) (nameT t) = some (tyD t d) := by
  cases d with
  | non => exact isTab_at t .non (by simp)
  | bl b => have h := isTab_at t (.bl true) (by simp); cases t <;> exact h
  | int i => have h := isTab_at t (.int 0) (by simp); cases t <;> exact h
  | str i => have h := isTab_at t (.str Str.empty) (by simp); cases t <;> exact h
  | lst i => have h := isTab_at t (.lst []) (by simp); cases t <;> exact h
  | tup i => have h := isTab_at t (.tup []) (by simp); cases t <;> exact h
  | dK i => have h := isTab_at t (.dK []) (by simp); cases t <;> exact h
  | dT i => have h := isTab_at t (.dT []) (by simp); cases t <;> exact h
theorem call_isiF : CallR X (.builtin "isinstance") (fun xs H Q => ∃ a o kvs n b, xs = [V.ref a, .ty n] ∧ H a = some (.frz o (.dT kvs)) ∧ PySem.W.kitOne X.K (.type "dict") (.type n) = some b ∧ Q (.bl b) H) := by
  intro pins s σ H xs us Q I r h
  obtain ⟨a, ob, kvs, n, b, rfl, ea, e, q⟩ := h
  obtain ⟨u1, u2, rfl, r1, r2⟩ := vals2 r
  cases (show u1 = Value.ref a from r1)
  cases (show u2 = Value.type n from r2)
  obtain ⟨_, _, _, xs, _, o, es, ep, h1, h2, _⟩ := (show ObjOk X.prog X.w H s.heap a (.frz ob (.dT kvs)) from I.hok a _ ea)
  exact PySem.W.kia_one PySem.W.kitx_dict I.kIn ⟨o, h1, h2.1⟩ e (fun z => nomatch z) fun tk => ⟨.bl b, H, I.tok tk, rfl, q⟩
theorem ty_of {K : PySem.W.Frag} {G H : Hp} (s : Same G H) {v : V} : ∀ {d : D}, RC K G H v d → TyX K H v (.type (nameD d)) ∨ ∃ a o kvs, v = .ref a ∧ H a = some (.frz o (.dT kvs)) ∧ nameD d = "dict"
  | .non, h => by cases h; exact .inl (.base .non)
  | .bl b, h => by cases h; exact .inl (.base (.bl b))
  | .int i, h => by cases h; exact .inl (.base (.int i))
  | .str x, ⟨e, _⟩ => by subst e; exact .inl (.base (.str x))
  | .lst ds, ⟨a, vs, e, h, _⟩ => by
    subst e
    rcases h with (h | ⟨o, h⟩) | ⟨o, its, n, h1, h2, _⟩
    · exact .inl (.base (.lst h))
    · exact .inl (.base (.frz h))
    · exact .inl (.kList h1 h2)
  | .tup ds, ⟨a, vs, e, h, _⟩ => by subst e; exact .inl (.base (.tup (s _ _ h)))
  | .dK ds, ⟨a, vs, e, h, _⟩ => by
    subst e
    rcases h with h | ⟨o, h⟩
    · exact .inl (.base (.dK h))
    · exact .inl (.fDict h)
  | .dT ds, ⟨a, vs, e, h, _⟩ => by
    subst e
    rcases h with h | ⟨o, h⟩
    · exact .inl (.base (.dT h))
    · exact .inr ⟨a, o, vs, rfl, h, rfl⟩
theorem ve_isi {a : Expr} {ia : E} {T : Ty} {x : Str} {p p2 pos : Pos} (hg : Gl X "isinstance") (hm : X.mg "isinstance" = none) (hg2 : Gl X x) (hm2 : X.mg x = none) (hv2 : bootBuiltins x = some (.type (nameT T))) (h : VE X C a ia)
    (hn2 : x ≠ "__name__" := by decide) (hd2 : (x == ("__debug__" : Str)) = false := by decide) (hv : bootBuiltins "isinstance" = some (.builtin "isinstance") := by decide +kernel)
    (he : starEach [a, .Name x p2] X.env = (false, eval a X.env) :: starEach [.Name x p2] X.env := by rfl) (he2 : starEach [.Name x p2] X.env = (false, eval (.Name x p2) X.env) :: starEach [] X.env := by rfl)
    (hpl : (backTo pos (starEach [.Name x p2] X.env)).any (·.1) = false := by rfl) : VE X C (.Call (.Name "isinstance" p) [a, .Name x p2] [] pos) (.isi ia T) := by
  obtain ⟨t, pa, f⟩ := h
  refine ⟨_, pe_callB (CallR.or call_isi call_isiF) hg hm hv (pa_cons pa (pa_cons (pe_bltn (v := .ty (nameT T)) hg2 hm2 hv2 rfl hn2 hd2) pa_nil he2) he) (by decide) (by decide) he hpl, fun B ρ σ G H Q d k S hv hq => ?_⟩
  rw [evE] at hv
  obtain ⟨x, hx, hv⟩ := R.of_bind hv
  cases hv
  refine f B ρ σ G H _ x.1 x.2 S hx fun v G1 H1 st o => ?_
  rcases ty_of st.sub (o.rc st.sub) with z | ⟨a, ob, kvs, e, h1, e2⟩
  · exact .inl ⟨v, .ty (nameT T), .type (nameD x.1), .type (nameT T), tyD T x.1, rfl, .ty _, z, kit_ty (kit_all T x.1), hq _ G1 H1 st (.bl _)⟩
  · subst e
    have kt := kit_all T x.1
    rw [e2] at kt
    exact .inr ⟨a, ob, kvs, nameT T, tyD T x.1, rfl, h1, kit_ty kt, hq _ G1 H1 st (.bl _)⟩
/-! ### subscripts -/
theorem atI_reps {K : PySem.W.Frag} {G : Hp} {vs : List V} {ds : List D} {i : Int} {d : D} (r : Reps K G vs ds) (h : atI ds i = some d) : ∃ v, atI vs i = some v ∧ Rep K G v d := by
  unfold atI at h ⊢
  rw [r.length]
  cases e : ixN ds.length i with
  | none => rw [e] at h; cases h
  | some j =>
    rw [e] at h
    exact r.get h
theorem strOk_one {x : Str} {i : Int} {c : Nat} (h : StrOk x) (e : atI x.cps.toList i = some c) : StrOk ⟨#[c]⟩ := by
  rw [strOk_iff] at h ⊢
  refine ⟨by rw [sizeLine_eq]; show 1 ≤ _; omega, fun z hz => ?_⟩
  have hz' : z = c := by simpa using hz
  subst hz'
  unfold atI at e
  cases q : ixN x.cps.toList.length i with
  | none => rw [q] at e; cases e
  | some j =>
    rw [q] at e
    exact h.2 z (List.mem_of_getElem? e)
theorem ve_ix {a b : Expr} {ia ib : E} {pos : Pos} (ha : VE X C a ia) (hb : VE X C b ib) (hs : PlainIx b := by exact fun _ _ => rfl) : VE X C (.Subscript a b pos) (.ix ia ib) := by
  obtain ⟨t, p, f⟩ := ha
  obtain ⟨t2, p2, f2⟩ := hb
  refine ⟨_, pe_ix ix_seq p p2 hs, fun B ρ σ G H Q d k S he hq => ?_⟩
  rw [evE] at he
  obtain ⟨x, hx, he⟩ := R.of_bind he
  obtain ⟨y, hy, he⟩ := R.of_bind he
  obtain ⟨e, hc, he⟩ := R.of_bind he
  cases he
  refine f B ρ σ G H _ x.1 x.2 S hx fun v G1 H1 st o1 => ?_
  refine f2 B ρ σ G1 H1 _ y.1 y.2 (S.step st) hy fun u G2 H2 st2 o2 => ?_
  have ra := (o1.rc st.sub).step st2
  have rb := o2.rc st2.sub
  obtain ⟨x, kx⟩ := x
  obtain ⟨y, ky⟩ := y
  have fin : ∀ w, Rep X.K G2 w d → Q w H2 := fun w r => hq w G2 H2 (st.trans st2) r
  replace hc : ixD x y = .ok d := hc
  unfold ixD at hc
  split at hc
  · split at hc <;> cases hc
    obtain ⟨l, ws, rfl, h1, h2, h3⟩ := ra
    cases rb
    obtain ⟨w, e1, e2⟩ := atI_reps h3 (by assumption)
    exact .inl ⟨l, ws, _, w, rfl, rfl, h1, e1, fin w e2⟩
  · split at hc <;> cases hc
    obtain ⟨l, ws, rfl, h1, h2, h3⟩ := ra
    cases rb
    obtain ⟨w, e1, e2⟩ := atI_reps h3 (by assumption)
    exact .inr (.inl ⟨l, ws, _, w, rfl, rfl, .of (st2.sub _ _ h1), e1, fin w e2⟩)
  · split at hc
    · rename_i hcc
      cases hc
      obtain ⟨rfl, o⟩ := ra
      cases rb
      exact .inr (.inr ⟨_, _, _, rfl, rfl, o.1, hcc, fin _ (.str _ (strOk_one o hcc))⟩)
    · cases hc
  · cases hc
theorem cut_reps {K : PySem.W.Frag} {G : Hp} {vs : List V} {ds : List D} (lo hi : Option Int) (r : Reps K G vs ds) : Reps K G (cutV vs lo hi) (cutL ds lo hi) := by
  unfold cutV cutL
  rw [r.length]
  exact (r.drop _).take _
theorem cutV_le {vs : List V} {lo hi : Option Int} (h : vs.length ≤ sizeLine) : (cutV vs lo hi).length ≤ sizeLine := by
  unfold cutV
  rw [List.length_take, List.length_drop]
  omega
theorem SlR.or {r r' : V → Option Int → Option Int → Hp → VK → Prop} (h : SlR X r) (h' : SlR X r') : SlR X (fun x lo hi H Q => r x lo hi H Q ∨ r' x lo hi H Q) := fun pins s σ H x v vl vu lo hi sl Q I rv a b c q =>
  q.elim (h pins s σ H x v vl vu lo hi sl Q I rv a b c) (h' pins s σ H x v vl vu lo hi sl Q I rv a b c)
/-- a part of a slice -/
def VO (X : Cx) (C : CallT) (e : Option Expr) (ir : Option E) : Prop := ∃ t : TO, PO X e t ∧ ∀ (B : Bs) (ρ : Env) (σ : St) (G H : Hp) (Q : Option Int → Hp → Prop) (o : Option Int), Sim B X.K ρ σ G H → evO C ir ρ = .ok o →
  (∀ G' H', Step G H G' H' → Q o H') → t σ H Q
theorem vo_none : VO X C none none := ⟨_, po_none, fun B ρ σ G H Q o S he hq => by
  rw [evO] at he
  cases he
  exact hq G H (Step.refl S.sub)⟩
theorem vo_some {e : Expr} {ir : E} (h : VE X C e ir) : VO X C (some e) (some ir) := by
  obtain ⟨t, p, f⟩ := h
  refine ⟨_, po_some p, fun B ρ σ G H Q o S he hq => ?_⟩
  rw [evO] at he
  obtain ⟨⟨x, k⟩, hx, he⟩ := R.of_bind he
  cases x <;> (first | (cases he; done) | skip)
  cases he
  refine f B ρ σ G H _ _ k S hx fun v G1 H1 st o1 => ?_
  have r := o1.rc st.sub
  cases r
  exact ⟨_, rfl, hq G1 H1 st⟩
theorem strOk_cut {x : Str} {lo hi : Option Int} (h : StrOk x) : StrOk (cutS x lo hi) := by
  rw [strOk_iff] at h ⊢
  unfold cutS
  refine ⟨?_, fun c hc => ?_⟩
  · simp only [List.length_take, List.length_drop]
    omega
  · simp only at hc
    exact h.2 c (List.mem_of_mem_drop (List.mem_of_mem_take hc))
theorem ve_sl {a : Expr} {lo hi : Option Expr} {ia : E} {il ih : Option E} {p2 pos : Pos} (ha : VE X C a ia) (hl : VO X C lo il) (hh : VO X C hi ih) : VE X C (.Subscript a (.Slice lo hi none p2) pos) (.sl ia il ih) := by
  obtain ⟨t, p, f⟩ := ha
  obtain ⟨t2, q2, f2⟩ := hl
  obtain ⟨t3, q3, f3⟩ := hh
  refine ⟨_, pe_slice (SlR.or sl_list (SlR.or sl_tupA sl_str)) p q2 q3, fun B ρ σ G H Q d k S he hq => ?_⟩
  rw [evE] at he
  obtain ⟨⟨x, kx⟩, hx, he⟩ := R.of_bind he
  obtain ⟨l, hl, he⟩ := R.of_bind he
  obtain ⟨h, hh, he⟩ := R.of_bind he
  refine f B ρ σ G H _ x kx S hx fun v G1 H1 st o1 => ?_
  refine f2 B ρ σ G1 H1 _ l (S.step st) hl fun G2 H2 st2 => ?_
  refine f3 B ρ σ G2 H2 _ h (S.step (st.trans st2)) hh fun G3 H3 st3 => ?_
  have ra := ((o1.rc st.sub).step st2).step st3
  have st' := (st.trans st2).trans st3
  cases x <;> (first | (cases he; done) | skip)
  · cases he
    obtain ⟨rfl, o⟩ := ra
    refine .inr (.inr ⟨_, rfl, o.1, hq _ G3 H3 st' (.str _ (strOk_cut (lo := l) (hi := h) o))⟩)
  · cases he
    obtain ⟨b, ws, rfl, h1, h2, h3⟩ := ra
    exact .inl ⟨b, ws, rfl, h1, out_new (B := B) st3.sub (cutV_le h2) (cut_reps l h h3) fun v G4 H4 st4 o4 => hq v G4 H4 (st'.trans st4) (o4.back st'.h)⟩
  · cases he
    obtain ⟨b, ws, rfl, h1, h2, h3⟩ := ra
    refine .inr (.inl ⟨b, ws, rfl, .of (st3.sub _ _ h1), fun e => ?_, fun _ => out_tup (B := B) st3.sub (cutV_le h2) (cut_reps l h h3) fun v G4 H4 st4 o4 => hq v G4 H4 (st'.trans st4) o4⟩)
    refine hq _ G3 H3 st' (.tup h1 h2 ?_)
    have z := cut_reps l h h3
    have e2 : cutV ws l h = ws := by
      unfold cutV
      rw [e.1, e.2]
      simp
    rw [e2] at z
    exact z
end
end Fw

namespace Fw
open PySem L2
/-! ### what is walked -/
def ItOk (K : PySem.W.Frag) (G H : Hp) (ds : List D) (b : Bool) (J : L2.It) : Prop := ds.length ≤ sizeLine ∧ ∃ (Gp : Hp → Prop) (Y : Nat → Hp → V → Hp → Prop), Walk J ds.length Gp Y ∧ (∀ H1, Same H H1 → Gp H1) ∧ (b = true → ∀ H1, Same G H1 → Gp H1) ∧
  ∀ (i : Nat) H1 x H2 G1, Y i H1 x H2 → i < ds.length → Same G G1 → Same G1 H1 → ∃ d G2, ds[i]? = some d ∧ Step G1 H1 G2 H2 ∧ Rep K G2 x d
def VI (X : Cx) (C : CallT) (tg e : Expr) (it : It) : Prop := ∃ wi : TI, PI X tg e wi ∧ ∀ (B : Bs) (ρ : Env) (σ : St) (G H : Hp) (R : L2.It → Hp → Prop) (ds : List D) (b : Bool), Sim B X.K ρ σ G H → evIt C it ρ = .ok (ds, b) →
  (∀ J G' H', Step G H G' H' → ItOk X.K G' H' ds b J → R J H') → wi σ H R
section
variable {X : Cx} {C : CallT}
def iSeq (K : PySem.W.Frag) (te : TE) : TI := fun σ H R => te σ H fun x H1 => (∃ a xs, x = .ref a ∧ SqL K H1 a xs ∧ R (Itl K a) H1) ∨ (∃ a xs, x = .ref a ∧ SqT K H1 a xs ∧ R (Itt K a) H1) ∨ ∃ z, x = .str z ∧ R (Its z) H1
theorem pi_seq {tg e : Expr} {te : TE} (he : PE X e te) : PI X tg e (iSeq X.K te) := by
  refine ⟨fun pins s σ H R I h => thn (he.run pins s σ H _ I h) fun v s1 ⟨x, H1, I1, r1, q⟩ => ?_⟩
  rcases q with ⟨a, xs, e, hs, q⟩ | ⟨a, xs, e, hs, q⟩ | ⟨z, e, q⟩
  · subst e
    cases r1
    obtain ⟨its, _, p, _⟩ := I1.list hs
    exact wpAny_pyIter_list p.isList (pi_one (tk := s1.toks) I1 _ (turn_list a _) ⟨_, Heap.get?_push_size _ rfl, rfl, rfl⟩ q)
  · subst e
    cases r1
    obtain ⟨its, _, p, _⟩ := I1.tuple hs
    exact wpAny_pyIter_tuple (show s1.heap.IsTuple a its.toArray from p) (pi_one (tk := s1.toks) I1 _ (turn_tuple a _) ⟨_, Heap.get?_push_size _ rfl, rfl, rfl⟩ q)
  · subst e
    obtain ⟨t, rfl⟩ := r1
    by_cases ha : z.cps.all (· < 128) = true
    · exact wpAny_pyIter_ascii ha (pi_one (tk := s1.toks) I1 _ (turn_str _ z t "str_ascii_iterator" (.inl rfl)) ⟨_, Heap.get?_push_size _ rfl, rfl, rfl⟩ q)
    · exact wpAny_pyIter_wide (by simpa using ha) (pi_one (tk := s1.toks) I1 _ (turn_str _ z t "str_iterator" (.inr rfl)) ⟨_, Heap.get?_push_size _ rfl, rfl, rfl⟩ q)
theorem it_list {K : PySem.W.Frag} {G H : Hp} {a : Addr} {vs : List V} {ds : List D} {b : Bool} (h : SqL K H a vs) (hb : b = true → SqL K G a vs) (r : Reps K G vs ds) (hz : vs.length ≤ sizeLine) : ItOk K G H ds b (Itl K a) := by
  refine ⟨by rw [← r.length]; exact hz, fun H1 => SqL K H1 a vs, YAt vs, by rw [← r.length]; exact walk_list, fun H1 s => s.seq h, fun e H1 s => s.seq (hb e), fun i H1 x H2 G1 y hi s1 s2 => ?_⟩
  obtain ⟨rfl, e⟩ := y
  obtain ⟨d, e1, e2⟩ := r.getV e
  exact ⟨d, G1, e1, Step.refl s2, e2.mono s1⟩
theorem it_tup {K : PySem.W.Frag} {G H : Hp} {a : Addr} {vs : List V} {ds : List D} {b : Bool} (s : Same G H) (h : G a = some (.tup vs)) (r : Reps K G vs ds) (hz : vs.length ≤ sizeLine) : ItOk K G H ds b (Itt K a) := by
  refine ⟨by rw [← r.length]; exact hz, fun H1 => SqT K H1 a vs, YAt vs, by rw [← r.length]; exact walk_tup, fun H1 s1 => SqT.of (s1 _ _ (s _ _ h)), fun e H1 s => SqT.of (s _ _ h), fun i H1 x H2 G1 y hi s1 s2 => ?_⟩
  obtain ⟨rfl, e⟩ := y
  obtain ⟨d, e1, e2⟩ := r.getV e
  exact ⟨d, G1, e1, Step.refl s2, e2.mono s1⟩
theorem it_str {K : PySem.W.Frag} {G H : Hp} {z : Str} {b : Bool} (o : StrOk z) : ItOk K G H (z.cps.toList.map fun c => D.str ⟨#[c]⟩) b (Its z) := by
  refine ⟨by rw [List.length_map]; exact ((strOk_iff z).mp o).1, _, _, by rw [List.length_map, Array.length_toList]; exact walk_str, fun _ _ => trivial, fun _ _ _ => trivial, fun i H1 x H2 G1 y hi s1 s2 => ?_⟩
  obtain ⟨rfl, c, e, rfl⟩ := y
  refine ⟨.str ⟨#[c]⟩, G1, by rw [List.getElem?_map, Array.getElem?_toList, e]; rfl, Step.refl s2, .str _ ?_⟩
  rw [strOk_iff] at o ⊢
  refine ⟨by rw [sizeLine_eq]; show 1 ≤ _; omega, fun y hy => ?_⟩
  have hy' : y = c := by simpa using hy
  subst hy'
  exact o.2 y (by rw [← Array.getElem?_toList] at e; exact List.mem_of_getElem? e)
theorem it_range {K : PySem.W.Frag} {G H : Hp} {lo : Int} {n : Nat} {b : Bool} (hn : n ≤ 4000000) : ItOk K G H ((List.range n).map fun k : Nat => D.int (lo + k)) b (Itr lo n) := by
  refine ⟨by rw [List.length_map, List.length_range, sizeLine_eq]; omega, _, _, by rw [List.length_map, List.length_range]; exact walk_range, fun _ _ => trivial, fun _ _ _ => trivial, fun i H1 x H2 G1 y hi s1 s2 => ?_⟩
  obtain ⟨rfl, rfl⟩ := y
  rw [List.length_map, List.length_range] at hi
  exact ⟨.int (lo + i), G1, by simp [hi], Step.refl s2, .int _⟩
theorem Out.listK {B : Bs} {K : PySem.W.Frag} {H0 G H : Hp} (s : Same G H) {v : V} {k : Kd} {ds : List D} (o : Out B K H0 (.lst ds) v G H (shK k)) : ∃ a vs, v = .ref a ∧ SqL K H a vs ∧ (notBw k = true → SqL K G a vs) ∧ Reps K G vs ds ∧ vs.length ≤ sizeLine := by
  by_cases hk : notBw k = true
  · have o' : Rep K G v (.lst ds) := by cases k <;> first | exact o | cases hk
    cases o' with
    | lst g1 g2 g3 => exact ⟨_, _, rfl, s.seq g1, fun _ => g1, g3, g2⟩
  · obtain ⟨a, vs, rfl, h1, h2, h3⟩ := o.rc s
    exact ⟨a, vs, rfl, h1, fun e => absurd e hk, h3, h2⟩
theorem vi_seq {tg e : Expr} {ir : E} (h : VE X C e ir) : VI X C tg e (.seq ir) := by
  obtain ⟨t, p, f⟩ := h
  refine ⟨_, pi_seq p, fun B ρ σ G H Rr ds b S he hq => ?_⟩
  rw [evIt] at he
  obtain ⟨⟨x, k⟩, hx, he⟩ := R.of_bind he
  obtain ⟨l, hl, he⟩ := R.of_bind he
  cases he
  refine f B ρ σ G H _ x k S hx fun v G0 H1 st0 o0 => ?_
  obtain ⟨G1, st, o⟩ := o0.shareK st0
  have r := o.rc st.sub
  cases x <;> (first | (cases hl; done) | skip)
  · cases hl
    obtain ⟨rfl, oo⟩ := r
    exact .inr (.inr ⟨_, rfl, hq _ G1 H1 st (it_str oo)⟩)
  · cases hl
    obtain ⟨a, vs, rfl, h1, h2, h3, h4⟩ := o.listK st.sub
    exact .inl ⟨a, vs, rfl, h1, hq _ G1 H1 st (it_list h1 h2 h3 h4)⟩
  · cases hl
    obtain ⟨a, vs, rfl, h1, h2, h3⟩ := r
    exact .inr (.inl ⟨a, vs, rfl, .of (st.sub _ _ h1), hq _ G1 H1 st (it_tup st.sub h1 h3 h2)⟩)
theorem range_of {lo hi : Int} {l : List D} (h : rangeD lo hi = .ok l) : (hi - lo).toNat ≤ 4000000 ∧ -(2 ^ 62) ≤ lo ∧ lo < 2 ^ 62 ∧ -(2 ^ 62) ≤ hi ∧ hi < 2 ^ 62 ∧ l = (List.range (hi - lo).toNat).map fun k : Nat => D.int (lo + k) := by
  obtain ⟨hc, h⟩ := R.of_guard h
  simp only [Bool.and_eq_true, decide_eq_true_eq] at hc
  cases h
  exact ⟨by omega, by omega, by omega, by omega, by omega, rfl⟩
theorem vi_rng1 {tg a : Expr} {ia : E} {p pos : Pos} (hg : Gl X "range") (hm : X.mg "range" = none) (h : VE X C a ia) (hs0 : starEach [a] X.env = (false, eval a X.env) :: starEach [] X.env := by rfl)
    (hs : starEach [a] X.env = [(false, eval a X.env)] := by rfl) : VI X C tg (.Call (.Name "range" p) [a] [] pos) (.rng1 ia) := by
  obtain ⟨t, pa, f⟩ := h
  refine ⟨_, pi_range1 hg hm (pa_cons pa pa_nil hs0) hs, fun B ρ σ G H Rr ds b S he hq => ?_⟩
  rw [evIt] at he
  obtain ⟨⟨x, k⟩, hx, he⟩ := R.of_bind he
  cases x <;> (first | (cases he; done) | skip)
  rename_i j
  obtain ⟨l, hl, he⟩ := R.of_bind he
  cases he
  obtain ⟨hn, -, -, h1, h2, rfl⟩ := range_of hl
  refine f B ρ σ G H _ _ k S hx fun v G1 H1 st o => ?_
  have r := o.rc st.sub
  cases r
  refine ⟨_, rfl, h1, h2, hq _ G1 H1 st ?_⟩
  have z := it_range (K := X.K) (G := G1) (H := H1) (lo := 0) (n := (j - 0).toNat) (b := true) hn
  rw [Int.sub_zero] at z ⊢
  exact z
theorem vi_rng2 {tg a c : Expr} {ia ic : E} {p pos : Pos} (hg : Gl X "range") (hm : X.mg "range" = none) (h : VE X C a ia) (h2 : VE X C c ic) (hs0 : starEach [a, c] X.env = (false, eval a X.env) :: starEach [c] X.env := by rfl)
    (hs1 : starEach [c] X.env = (false, eval c X.env) :: starEach [] X.env := by rfl)
    (hs : starEach [a, c] X.env = [(false, eval a X.env), (false, eval c X.env)] := by rfl) (hs2 : starEach [c] X.env = [(false, eval c X.env)] := by rfl) : VI X C tg (.Call (.Name "range" p) [a, c] [] pos) (.rng2 ia ic) := by
  obtain ⟨t, pa, f⟩ := h
  obtain ⟨t2, pa2, f2⟩ := h2
  refine ⟨_, pi_range2 hg hm (pa_cons pa (pa_cons pa2 pa_nil hs1) hs0) hs hs2, fun B ρ σ G H Rr ds b S he hq => ?_⟩
  rw [evIt] at he
  obtain ⟨⟨x, k⟩, hx, he⟩ := R.of_bind he
  obtain ⟨⟨y, k2⟩, hy, he⟩ := R.of_bind he
  cases x <;> (first | (cases he; done) | skip)
  cases y <;> (first | (cases he; done) | skip)
  obtain ⟨l, hl, he⟩ := R.of_bind he
  cases he
  obtain ⟨hn, g1, g2, g3, g4, rfl⟩ := range_of hl
  refine f B ρ σ G H _ _ k S hx fun v G1 H1 st o => ?_
  refine f2 B ρ σ G1 H1 _ _ k2 (S.step st) hy fun u G2 H2 st2 o2 => ?_
  have r := o.rc st.sub
  cases r
  have r2 := o2.rc st2.sub
  cases r2
  exact ⟨_, _, rfl, ⟨g1, g2, g3, g4⟩, hq _ G2 H2 (st.trans st2) (it_range hn)⟩
theorem it_rangeC {K : PySem.W.Frag} {G H : Hp} {lo c : Int} {n : Nat} {b : Bool} (hn : n ≤ 4000000) : ItOk K G H ((List.range n).map fun k : Nat => D.int (lo + (k : Nat) * c)) b (Itc lo c n) := by
  refine ⟨by rw [List.length_map, List.length_range, sizeLine_eq]; omega, _, _, by rw [List.length_map, List.length_range]; exact walk_rangeC, fun _ _ => trivial, fun _ _ _ => trivial, fun i H1 x H2 G1 y hi s1 s2 => ?_⟩
  obtain ⟨rfl, rfl⟩ := y
  rw [List.length_map, List.length_range] at hi
  exact ⟨.int (lo + (i : Nat) * c), G1, by simp [hi], Step.refl s2, .int _⟩
theorem vi_rng3 {tg a c e : Expr} {ia ic ie : E} {p pos : Pos} (hg : Gl X "range") (hm : X.mg "range" = none) (h : VE X C a ia) (h2 : VE X C c ic) (h3 : VE X C e ie) (hs0 : starEach [a, c, e] X.env = (false, eval a X.env) :: starEach [c, e] X.env)
    (hs1 : starEach [c, e] X.env = (false, eval c X.env) :: starEach [e] X.env) (hs2 : starEach [e] X.env = (false, eval e X.env) :: starEach [] X.env) (hpl : (backTo pos (starEach [c, e] X.env)).any (·.1) = false) : VI X C tg (.Call (.Name "range" p) [a, c, e] [] pos) (.rng3 ia ic ie) := by
  obtain ⟨t, pa, f⟩ := h
  obtain ⟨t2, pa2, f2⟩ := h2
  obtain ⟨t3, pa3, f3⟩ := h3
  refine ⟨_, pi_range3 hg hm (pa_cons pa (pa_cons pa2 (pa_cons pa3 pa_nil hs2) hs1) hs0) hs0 hpl, fun B ρ σ G H Rr ds b S he hq => ?_⟩
  rw [evIt] at he
  obtain ⟨⟨x, k⟩, hx, he⟩ := R.of_bind he
  obtain ⟨⟨y, k2⟩, hy, he⟩ := R.of_bind he
  obtain ⟨⟨z, k3⟩, hz, he⟩ := R.of_bind he
  cases x <;> (first | (cases he; done) | skip)
  cases y <;> (first | (cases he; done) | skip)
  cases z <;> (first | (cases he; done) | skip)
  obtain ⟨l, hl, he⟩ := R.of_bind he
  cases he
  obtain ⟨hc, hl⟩ := R.of_guard hl
  cases hl
  simp only [Bool.and_eq_true, decide_eq_true_eq] at hc
  obtain ⟨⟨⟨⟨c1, c2⟩, c3⟩, c4⟩, c5⟩ := hc
  refine f B ρ σ G H _ _ k S hx fun v G1 H1 st o => ?_
  refine f2 B ρ σ G1 H1 _ _ k2 (S.step st) hy fun u G2 H2 st2 o2 => ?_
  refine f3 B ρ σ G2 H2 _ _ k3 ((S.step st).step st2) hz fun w G3 H3 st3 o3 => ?_
  have r := o.rc st.sub
  cases r
  have r2 := o2.rc st2.sub
  cases r2
  have r3 := o3.rc st3.sub
  cases r3
  exact ⟨_, _, _, _, rfl, ⟨c1, c2, c3, (Int.toNat_of_nonneg c4).symm⟩, hq _ G3 H3 ((st.trans st2).trans st3) (it_rangeC (by omega))⟩
theorem pair_step {K : PySem.W.Frag} {G1 H1 : Hp} {T : Addr} {x y : V} {d e : D} (s : Same G1 H1) (h : H1 T = none) (rx : Rep K G1 x d) (ry : Rep K G1 y e) : ∃ G2, Step G1 H1 G2 (upd H1 T (.tup [x, y])) ∧ Rep K G2 (.ref T) (.tup [d, e]) := by
  have st : Step G1 H1 (upd G1 T (.tup [x, y])) (upd H1 T (.tup [x, y])) := Step.newG s h
  exact ⟨_, st, .tup upd_same (by rw [sizeLine_eq]; show 2 ≤ _; omega) (.cons (rx.mono st.g) (.cons (ry.mono st.g) .nil))⟩
theorem vi_enum {a : Expr} {ia : E} {p pos tpos : Pos} {elts : List Expr} {kk : Nat} (hg : Gl X "enumerate") (hm : X.mg "enumerate" = none) (h : VE X C a ia) (hs0 : starEach [a] X.env = (false, eval a X.env) :: starEach [] X.env := by rfl)
    (hs : starEach [a] X.env = [(false, eval a X.env)] := by rfl) : VI X C (.Tuple elts kk tpos) (.Call (.Name "enumerate" p) [a] [] pos) (.enum ia) := by
  obtain ⟨t, pa, f⟩ := h
  refine ⟨_, pi_enum hg hm (pa_cons pa pa_nil hs0) hs, fun B ρ σ G H Rr ds b S he hq => ?_⟩
  rw [evIt] at he
  obtain ⟨⟨x, k⟩, hx, he⟩ := R.of_bind he
  cases x <;> (first | (cases he; done) | skip)
  cases he
  refine f B ρ σ G H _ _ k S hx fun v G0 H1 st0 o0 => ?_
  obtain ⟨G1, st, o⟩ := o0.shareK st0
  have fin : ∀ {a vs xs}, SqL X.K H1 a vs → (notBw k = true → SqL X.K G1 a vs) → Reps X.K G1 vs xs → vs.length ≤ sizeLine → ItOk X.K G1 H1 (xs.zipIdx.map fun p => D.tup [.int p.2, p.1]) (notBw k) (Ite X.K a) := by
    intro a vs xs h1 h2 r hz
    refine ⟨by rw [List.length_map, List.length_zipIdx, ← r.length]; exact hz, fun H1 => SqL X.K H1 a vs, _, by rw [List.length_map, List.length_zipIdx, ← r.length]; exact walk_enum, fun H2 s => s.seq h1, fun e H2 s => s.seq (h2 e), fun i H2 x H3 G2 y hi s1 s2 => ?_⟩
    obtain ⟨T, u, w, rfl, hT, rfl, e1, e2⟩ := y
    cases e1
    obtain ⟨d, e3, e4⟩ := r.getV e2
    obtain ⟨G3, st3, r3⟩ := pair_step (K := X.K) s2 hT (.int (i : Nat)) (e4.mono s1)
    exact ⟨_, G3, by simp [e3], st3, r3⟩
  obtain ⟨a, vs, rfl, h1, h2, h3, h4⟩ := o.listK st.sub
  exact ⟨a, vs, rfl, h1, hq _ G1 H1 st (fin h1 h2 h3 h4)⟩
theorem it_zip {K : PySem.W.Frag} {G H : Hp} {a b : Addr} {xs ys : List V} {ds es : List D} {c : Bool} {J : L2.It} (Gp : Hp → Prop) (hn : ∀ n, n = min xs.length ys.length → Walk J n Gp (YPair (fun i => xs[i]?) (fun i => ys[i]?)))
    (h1 : ∀ H1, Same H H1 → Gp H1) (h2 : c = true → ∀ H1, Same G H1 → Gp H1) (r1 : Reps K G xs ds) (r2 : Reps K G ys es) (hz : xs.length ≤ sizeLine) : ItOk K G H ((ds.zip es).map fun p => D.tup [p.1, p.2]) c J := by
  refine ⟨by rw [List.length_map, List.length_zip, ← r1.length]; omega, Gp, _, hn _ ?_, h1, h2, fun i H2 x H3 G2 y hi s1 s2 => ?_⟩
  · rw [List.length_map, List.length_zip, r1.length, r2.length]
  · obtain ⟨T, u, w, rfl, hT, rfl, e1, e2⟩ := y
    obtain ⟨d, e3, e4⟩ := r1.getV e1
    obtain ⟨e, e5, e6⟩ := r2.getV e2
    obtain ⟨G3, st3, r3⟩ := pair_step (K := K) s2 hT (e4.mono s1) (e6.mono s1)
    exact ⟨.tup [d, e], G3, by rw [List.getElem?_map, (List.getElem?_zip_eq_some (z := (d, e))).mpr ⟨e3, e5⟩]; rfl, st3, r3⟩
theorem walk_zipT {K : PySem.W.Frag} {a b : Addr} {xs ys : List V} {n : Nat} (hn : n = min xs.length ys.length) : Walk (RZ.ItzT K a b) n (fun H => SqT K H a xs ∧ SqT K H b ys) (YPair (fun i => xs[i]?) (fun i => ys[i]?)) := by
  subst hn
  refine ⟨fun i H hi q => ⟨xs, ys, xs[i]'(by omega), ys[i]'(by omega), q.1, q.2, ?_, ?_⟩, fun H q => ⟨xs, ys, q.1, q.2, by omega⟩, fun i H v H' hi q y => ?_⟩
  · exact List.getElem?_eq_getElem _
  · exact List.getElem?_eq_getElem _
  · obtain ⟨T, x, z, h1, h2, h3, h4, h5⟩ := y
    exact ⟨T, x, z, h1, h2, h3, h4 xs q.1, h5 ys q.2⟩
theorem vi_zip {a c : Expr} {ia ic : E} {p pos tpos : Pos} {elts : List Expr} {kk : Nat} (hg : Gl X "zip") (hm : X.mg "zip" = none) (h : VA X C [a, c] [ia, ic])
    (hs : starEach [a, c] X.env = (false, eval a X.env) :: starEach [c] X.env := by rfl) (hpl : (backTo pos (starEach [c] X.env)).any (·.1) = false := by rfl) :
    VI X C (.Tuple elts kk tpos) (.Call (.Name "zip" p) [a, c] [] pos) (.zip [ia, ic]) := by
  obtain ⟨t, pa, f⟩ := h
  refine ⟨_, RZ.pi_zipA hg hm pa hs hpl, fun B ρ σ G H Rr ds b S he hq => ?_⟩
  rw [evIt] at he
  obtain ⟨l, hx, he⟩ := R.of_bind he
  refine f B ρ σ G H _ l S hx fun vs G1 H1 st o => ?_
  split at he
  · cases he
    cases o with
    | cons o1 o =>
    cases o with
    | cons o2 o =>
    cases o
    obtain ⟨a1, w1, rfl, q1, q2, q3, q7⟩ := o1.listK st.sub
    obtain ⟨a2, w2, rfl, q4, q5, q6, _⟩ := o2.listK st.sub
    refine ⟨a1, a2, w1, w2, rfl, .inl ⟨q1, q4, hq _ G1 H1 st (it_zip (a := a1) (b := a2) (fun H => SqL X.K H a1 w1 ∧ SqL X.K H a2 w2) (fun n hn => walk_zip hn) (fun H2 s => ⟨s.seq q1, s.seq q4⟩) (fun e H2 s => ?_) q3 q6 q7)⟩⟩
    rw [Bool.and_eq_true] at e
    exact ⟨s.seq (q2 e.1), s.seq (q5 e.2)⟩
  · cases he
    cases o with
    | cons o1 o =>
    cases o with
    | cons o2 o =>
    cases o
    obtain ⟨a1, w1, rfl, q1, q2, q3⟩ := o1.rc st.sub
    obtain ⟨a2, w2, rfl, q4, q5, q6⟩ := o2.rc st.sub
    have g1 := st.sub _ _ q1
    have g2 := st.sub _ _ q4
    exact ⟨a1, a2, w1, w2, rfl, .inr ⟨.of g1, .of g2, hq _ G1 H1 st (it_zip (a := a1) (b := a2) (fun H => SqT X.K H a1 w1 ∧ SqT X.K H a2 w2) (fun n hn => walk_zipT hn) (fun H2 s => ⟨.of (s _ _ g1), .of (s _ _ g2)⟩) (fun e H2 s => ⟨.of (s _ _ q1), .of (s _ _ q4)⟩) q3 q6 q2)⟩⟩
  · cases he
end
end Fw

namespace Fw
open PySem L2
/-! ### targets -/
mutual
def pvars : Pat → List Nat
  | .v i => [i]
  | .t ps => pvarss ps
def pvarss : List Pat → List Nat
  | [] => []
  | p :: ps => pvars p ++ pvarss ps
end
theorem wipe_get (σ : St) : ∀ (vs : List Nat) (i : Nat), (wipe σ vs)[i]? = if i ∈ vs then (σ[i]?).map (fun _ => none) else σ[i]?
  | [], i => by simp [wipe]
  | v :: vs, i => by
    rw [wipe, List.getElem?_set, wipe_length]
    by_cases h : v = i
    · subst h
      rw [if_pos rfl, if_pos List.mem_cons_self]
      by_cases hl : v < σ.length
      · rw [if_pos hl, List.getElem?_eq_getElem hl]; rfl
      · rw [if_neg hl, List.getElem?_eq_none (Nat.le_of_not_lt hl)]; rfl
    · rw [if_neg h, wipe_get σ vs i]
      by_cases h2 : i ∈ vs
      · rw [if_pos h2, if_pos (List.mem_cons_of_mem _ h2)]
      · rw [if_neg h2, if_neg (by rw [List.mem_cons]; rintro (e | e); exact h e.symm; exact h2 e)]
theorem wipeE_length (ρ : Env) : ∀ vs : List Nat, (wipeE ρ vs).length = ρ.length
  | [] => rfl
  | v :: vs => by rw [wipeE, List.length_set, wipeE_length ρ vs]
theorem wipeE_get (σ : Env) : ∀ (vs : List Nat) (i : Nat), (wipeE σ vs)[i]? = if i ∈ vs then (σ[i]?).map (fun _ => none) else σ[i]?
  | [], i => by simp [wipeE]
  | v :: vs, i => by
    rw [wipeE, List.getElem?_set, wipeE_length]
    by_cases h : v = i
    · subst h
      rw [if_pos rfl, if_pos List.mem_cons_self]
      by_cases hl : v < σ.length
      · rw [if_pos hl, List.getElem?_eq_getElem hl]; rfl
      · rw [if_neg hl, List.getElem?_eq_none (Nat.le_of_not_lt hl)]; rfl
    · rw [if_neg h, wipeE_get σ vs i]
      by_cases h2 : i ∈ vs
      · rw [if_pos h2, if_pos (List.mem_cons_of_mem _ h2)]
      · rw [if_neg h2, if_neg (by rw [List.mem_cons]; rintro (e | e); exact h e.symm; exact h2 e)]
theorem wipe_wipe (σ : St) (vs : List Nat) : wipe (wipe σ vs) vs = wipe σ vs := by
  apply List.ext_getElem?
  intro i
  rw [wipe_get, wipe_get]
  by_cases h : i ∈ vs
  · rw [if_pos h, if_pos h]
    cases σ[i]? <;> rfl
  · rw [if_neg h, if_neg h]
theorem wipe_set {σ : St} {i : Nat} {x : Option V} {vs : List Nat} (h : i ∈ vs) : wipe (σ.set i x) vs = wipe σ vs := by
  apply List.ext_getElem?
  intro j
  rw [wipe_get, wipe_get]
  by_cases hj : j ∈ vs
  · rw [if_pos hj, if_pos hj, List.getElem?_set]
    by_cases e : i = j
    · subst e
      rw [if_pos rfl]
      by_cases hl : i < σ.length
      · rw [if_pos hl, List.getElem?_eq_getElem hl]; rfl
      · rw [if_neg hl, List.getElem?_eq_none (Nat.le_of_not_lt hl)]
    · rw [if_neg e]
  · rw [if_neg hj, if_neg hj, List.getElem?_set_ne (fun e => hj (by rw [← e]; exact h))]
section
variable {B : Bs} {K : PySem.W.Frag} {fp : Nat → List Addr} {ρ : Env} {σ : St} {G H : Hp}
theorem SimF.wipe (s : SimF B K fp ρ σ G H) (vs : List Nat) : SimF B K fp (wipeE ρ vs) (L2.wipe σ vs) G H where
  sub := s.sub
  extG := s.extG
  extH := s.extH
  nG := s.nG
  len := by rw [wipeE_length, wipe_length, s.len]
  sh := fun i d h => by
    rw [wipeE_get] at h
    by_cases hi : i ∈ vs
    · rw [if_pos hi] at h
      cases e : ρ[i]? <;> rw [e] at h <;> cases h
    · rw [if_neg hi] at h
      rw [wipe_get, if_neg hi]
      exact s.sh i d h
  own := fun i d n h => by
    rw [wipeE_get] at h
    by_cases hi : i ∈ vs
    · rw [if_pos hi] at h
      cases e : ρ[i]? <;> rw [e] at h <;> cases h
    · rw [if_neg hi] at h
      rw [wipe_get, if_neg hi]
      exact s.own i d n h
  ne := fun i j d e n m hij h1 h2 => by
    rw [wipeE_get] at h1 h2
    by_cases hi : i ∈ vs
    · rw [if_pos hi] at h1
      cases e : ρ[i]? <;> rw [e] at h1 <;> cases h1
    · by_cases hj : j ∈ vs
      · rw [if_pos hj] at h2
        cases e : ρ[j]? <;> rw [e] at h2 <;> cases h2
      · rw [if_neg hi] at h1
        rw [if_neg hj] at h2
        exact s.ne i j d e n m hij h1 h2
/-- a name is bound to what is everybody's -/
theorem SimF.set (s : SimF B K fp ρ σ G H) {v : V} {d : D} (i : Nat) (r : Rep K G v d) : SimF B K fp (ρ.set i (some ⟨d, 0⟩)) (σ.set i (some v)) G H where
  sub := s.sub
  extG := s.extG
  extH := s.extH
  nG := s.nG
  len := by rw [List.length_set, List.length_set, s.len]
  sh := fun j e h => by
    by_cases hij : i = j
    · subst hij
      by_cases hl : i < ρ.length
      · rw [List.getElem?_set_self hl] at h
        rw [List.getElem?_set_self (by rw [← s.len]; exact hl)]
        cases h
        exact ⟨v, rfl, r⟩
      · rw [List.getElem?_eq_none (by rw [List.length_set]; omega)] at h
        cases h
    · rw [List.getElem?_set_ne hij] at h ⊢
      exact s.sh j e h
  own := fun j e n h => by
    by_cases hij : i = j
    · subst hij
      by_cases hl : i < ρ.length
      · rw [List.getElem?_set_self hl] at h
        cases h
      · rw [List.getElem?_eq_none (by rw [List.length_set]; omega)] at h
        cases h
    · rw [List.getElem?_set_ne hij] at h ⊢
      exact s.own j e n h
  ne := fun j l d' e n m hjl h1 h2 => by
    by_cases hij : i = j
    · subst hij
      by_cases hl : i < ρ.length
      · rw [List.getElem?_set_self hl] at h1
        cases h1
      · rw [List.getElem?_eq_none (by rw [List.length_set]; omega)] at h1
        cases h1
    · by_cases hil : i = l
      · subst hil
        by_cases hl : i < ρ.length
        · rw [List.getElem?_set_self hl] at h2
          cases h2
        · rw [List.getElem?_eq_none (by rw [List.length_set]; omega)] at h2
          cases h2
      · rw [List.getElem?_set_ne hij] at h1
        rw [List.getElem?_set_ne hil] at h2
        exact s.ne j l d' e n m hjl h1 h2
/-- an object that is nobody's but one's own is changed -/
theorem Own2.keep {H' : Hp} : ∀ {kvs : List (Key × V)} {dvs : List (Key × D)} {qs : List Addr}, Own2 K G H kvs dvs qs → (∀ a ∈ qs, H' a = H a) → Own2 K G H' kvs dvs qs
  | _, _, _, .nil, _ => .nil
  | _, _, _, .cons a b c t, h => .cons (by rw [h _ List.mem_cons_self]; exact a) b c (t.keep fun x hx => h x (List.mem_cons_of_mem _ hx))
theorem Cont.keep {H' : Hp} {p : Addr} (h : H' p = H p) : ∀ {d : D}, Cont K G H p d → Cont K G H' p d
  | .lst _, ⟨vs, a, b, c⟩ => ⟨vs, h.trans a, b, c⟩
  | .dK _, ⟨vs, a, b, c⟩ => ⟨vs, h.trans a, b, c⟩
  | .dT _, ⟨vs, a, b, c⟩ => ⟨vs, h.trans a, b, c⟩
  | .non, h => h.elim
  | .bl _, h => h.elim
  | .int _, h => h.elim
  | .str _, h => h.elim
  | .tup _, h => h.elim
theorem Root.keep {H' : Hp} : ∀ {n : Nat} {p : Addr} {d : D} {A : List Addr}, Root K n G H p d A → (∀ a ∈ A, H' a = H a) → Root K n G H' p d A
  | 0, _, _, _, h, _ => h.elim
  | 1, _, _, _, ⟨e, n, c⟩, h => ⟨e, n, c.keep (h _ (by subst e; exact List.mem_singleton_self _))⟩
  | _ + 2, _, _, _, ⟨kvs, dvs, qs, a, b, c, n, g, l, t⟩, h => ⟨kvs, dvs, qs, a, b, c, n, (h _ (by subst b; exact List.mem_cons_self)).trans g, l, t.keep fun x hx => h x (by subst b; exact List.mem_cons_of_mem _ hx)⟩
theorem SimF.upd (s : SimF B K fp ρ σ G H) {D : Addr} {o : HO} (hG : G D = none) (hB : B.H D = none) (hf : ∀ (i : Nat) (d : Fw.D) (n : Nat), ρ[i]? = some (some (⟨d, n + 1⟩ : Slot)) → D ∉ fp i) : SimF B K fp ρ σ G (upd H D o) where
  sub := fun b u e => by rw [upd_ne (fun z => by subst z; rw [hG] at e; cases e)]; exact s.sub b u e
  extG := s.extG
  extH := fun b u e => by rw [upd_ne (fun z => by subst z; rw [hB] at e; cases e)]; exact s.extH b u e
  nG := s.nG
  len := s.len
  sh := s.sh
  own := fun i d n h => by
    obtain ⟨⟨p, e, r⟩, q⟩ := s.own i d n h
    exact ⟨⟨p, e, r.keep fun a ha => upd_ne (fun z => hf i d n h (z ▸ ha))⟩, q⟩
  ne := s.ne
end
def VG (X : Cx) (p : Pat) (tg : Expr) : Prop := ∃ g : TG, PG X tg g ∧ ∀ (B : Bs) (fp : Nat → List Addr) (ρ : Env) (σ : St) (G H : Hp) (Q : St → Hp → Prop) (v : V) (d : D) (ρ' : Env), SimF B X.K fp ρ σ G H → Rep X.K G v d → setPat p d ρ = .ok ρ' →
  (∀ σ', SimF B X.K fp ρ' σ' G H → (∀ vs : List Nat, (∀ i ∈ pvars p, i ∈ vs) → wipe σ' vs = wipe σ vs) → Q σ' H) → g v σ H Q
def VGs (X : Cx) (ps : List Pat) (ts : List Expr) : Prop := ∃ g : TGs, PGs X ts g ∧ ∀ (B : Bs) (fp : Nat → List Addr) (ρ : Env) (σ : St) (G H : Hp) (Q : St → Hp → Prop) (vs : List V) (ds : List D) (ρ' : Env), SimF B X.K fp ρ σ G H → Reps X.K G vs ds → setPats ps ds ρ = .ok ρ' →
  (∀ σ', SimF B X.K fp ρ' σ' G H → (∀ vs : List Nat, (∀ i ∈ pvarss ps, i ∈ vs) → wipe σ' vs = wipe σ vs) → Q σ' H) → g vs σ H Q
section
variable {X : Cx} {C : CallT}
theorem vg_name {i : Nat} {x : Str} {pos : Pos} (hN : X.N.Nodup) (hi : X.N[i]? = some x := by rfl) (hx : Loc X.env.scope x := by first | exact Or.inl rfl | exact Or.inr rfl) (hf : X.fn x = true ∨ X.env.scope.names.lookup x = some .local := by first | exact .inl rfl | exact .inr rfl) :
    VG X (.v i) (.Name x pos) := by
  refine ⟨_, pg_name hN hi hx hf, fun B fp ρ σ G H Q v d ρ' S r he hq => ?_⟩
  rw [setPat] at he
  cases he
  exact hq _ (S.set i r) fun vs h => wipe_set (h i (by rw [pvars]; exact List.mem_singleton_self _))
theorem vgs_nil : VGs X [] [] := by
  refine ⟨_, pgs_nil, fun B fp ρ σ G H Q vs ds ρ' S r he hq => ?_⟩
  cases ds with
  | nil =>
    rw [setPats] at he
    cases he
    cases r
    exact ⟨rfl, hq σ S fun _ _ => rfl⟩
  | cons d ds => rw [setPats] at he; cases he; all_goals simp
theorem vgs_cons {p : Pat} {ps : List Pat} {e : Expr} {es : List Expr} (h : VG X p e) (h2 : VGs X ps es) (hs : (assignEach (e :: es) X.env).map (·.2) = assign e X.env :: (assignEach es X.env).map (·.2) := by rfl) : VGs X (p :: ps) (e :: es) := by
  obtain ⟨g, q, f⟩ := h
  obtain ⟨g2, q2, f2⟩ := h2
  refine ⟨_, pgs_cons q q2 hs, fun B fp ρ σ G H Q vs ds ρ' S r he hq => ?_⟩
  cases r with
  | nil => rw [setPats] at he; cases he; all_goals simp
  | cons r t =>
    rw [setPats] at he
    obtain ⟨ρ1, h1, he⟩ := R.of_bind he
    refine ⟨_, _, rfl, f B fp ρ σ G H _ _ _ ρ1 S r h1 fun σ1 S1 w1 => f2 B fp ρ1 σ1 G H Q _ _ ρ' S1 t he fun σ2 S2 w2 => hq σ2 S2 fun vs hv => ?_⟩
    rw [pvarss] at hv
    rw [w2 vs fun i hi => hv i (List.mem_append_right _ hi), w1 vs fun i hi => hv i (List.mem_append_left _ hi)]
theorem setPats_len : ∀ {ps : List Pat} {ds : List D} {ρ ρ' : Env}, setPats ps ds ρ = .ok ρ' → ds.length = ps.length
  | [], [], _, _, _ => rfl
  | [], _ :: _, _, _, h => by rw [setPats] at h; cases h; all_goals simp
  | _ :: _, [], _, _, h => by rw [setPats] at h; cases h; all_goals simp
  | p :: ps, d :: ds, ρ, ρ', h => by
    rw [setPats] at h
    obtain ⟨ρ1, _, h⟩ := R.of_bind h
    rw [List.length_cons, List.length_cons, setPats_len h]
theorem vg_tup {ps : List Pat} {es : List Expr} {k n : Nat} {pos : Pos} (hc : X.calm = true) (h : VGs X ps es) (hp : ps.length = n := by rfl) (hn : (assignEach es X.env).length = n := by rfl) (hst : (assignEach es X.env).findIdx? (·.1) = none := by rfl) :
    VG X (.t ps) (.Tuple es k pos) := by
  obtain ⟨g, q, f⟩ := h
  refine ⟨_, pg_tup hc q hn hst, fun B fp ρ σ G H Q v d ρ' S r he hq => ?_⟩
  cases r <;> (first | (rw [setPat] at he; cases he; done) | (rw [setPat] at he; cases he; simp; done) | skip)
  rename_i a vs ds h1 h2 h3
  rw [setPat] at he
  refine ⟨a, vs, rfl, .of (S.sub _ _ h1), ?_, f B fp ρ σ G H Q vs ds ρ' S h3 he fun σ' S' w => hq σ' S' fun vs hv => w vs (by rw [pvars] at hv; exact hv)⟩
  rw [h3.length, setPats_len he, hp]
end
end Fw

namespace Fw
open PySem L2
/-! ### comprehensions -/
def tCan (K : PySem.W.Frag) (C : CallT) (ir : E) : TE := fun σ H Q => ∃ (B : Bs) (ρ : Env) (G : Hp) (d : D) (k : Kd), Sim B K ρ σ G H ∧ evE C ir ρ = .ok (d, k) ∧ ∀ v G' H', Step G H G' H' → Out B K H d v G' H' k → Q v H'
def ttCan (K : PySem.W.Frag) (C : CallT) (irs : List E) : TT := fun σ H Q => ∃ (B : Bs) (ρ : Env) (G : Hp) (b : Bool), Sim B K ρ σ G H ∧ evTs C irs ρ = .ok b ∧ ∀ G' H', Step G H G' H' → Q b H'
def gCan (K : PySem.W.Frag) (p : Pat) : TG := fun v σ H Q => ∃ (B : Bs) (fp : Nat → List Addr) (ρ : Env) (G : Hp) (d : D) (ρ' : Env), SimF B K fp ρ σ G H ∧ Rep K G v d ∧ setPat p d ρ = .ok ρ' ∧
  ∀ σ', SimF B K fp ρ' σ' G H → (∀ vs : List Nat, (∀ i ∈ pvars p, i ∈ vs) → wipe σ' vs = wipe σ vs) → Q σ' H
def VTs (X : Cx) (C : CallT) (es : List Expr) (irs : List E) : Prop := ∃ t : TT, PTs X es t ∧ ∀ (B : Bs) (ρ : Env) (σ : St) (G H : Hp) (Q : Bool → Hp → Prop) (b : Bool), Sim B X.K ρ σ G H → evTs C irs ρ = .ok b →
  (∀ G' H', Step G H G' H' → Q b H') → t σ H Q
section
variable {X : Cx} {C : CallT}
theorem VE.can {e : Expr} {ir : E} (h : VE X C e ir) : PE X e (tCan X.K C ir) := by
  obtain ⟨t, p, f⟩ := h
  exact ⟨fun pins s σ H Q I ⟨B, ρ, G, d, k, S, he, hq⟩ => p.run pins s σ H Q I (f B ρ σ G H Q d k S he hq)⟩
theorem VTs.can {es : List Expr} {irs : List E} (h : VTs X C es irs) : PTs X es (ttCan X.K C irs) := by
  obtain ⟨t, p, f⟩ := h
  exact ⟨fun pins s σ H Q I ⟨B, ρ, G, b, S, he, hq⟩ => p.run pins s σ H Q I (f B ρ σ G H Q b S he hq)⟩
theorem VG.can {p : Pat} {e : Expr} (h : VG X p e) : PG X e (gCan X.K p) := by
  obtain ⟨g, q, f⟩ := h
  exact ⟨fun pins s σ H v u Q I r ⟨B, fp, ρ, G, d, ρ', S, hr, he, hq⟩ => q.run pins s σ H v u Q I r (f B fp ρ σ G H Q v d ρ' S hr he hq)⟩
theorem vts_nil : VTs X C [] [] := ⟨_, pts_nil, fun B ρ σ G H Q b S he hq => by
  rw [evTs] at he
  cases he
  exact hq G H (Step.refl S.sub)⟩
theorem vts_one {e : Expr} {ir : E} (h : VT X C e ir) : VTs X C [e] [ir] := by
  obtain ⟨t, p, f⟩ := h
  refine ⟨_, pts_one p, fun B ρ σ G H Q b S he hq => ?_⟩
  rw [evTs] at he
  obtain ⟨x, hx, he⟩ := R.of_bind he
  obtain ⟨c, hc, he⟩ := R.of_bind he
  rw [bl_of hc] at hx
  have e : c = b := by
    cases c with
    | true => rw [evTs] at he; cases he; rfl
    | false => cases he; rfl
  subst e
  exact f B ρ σ G H Q c x.2 S hx hq
/-- one turn of a comprehension -/
def lcF (C : CallT) (own : List Nat) (elt : E) (p : Pat) (ifs : List E) (ρ : Env) (d : D) : R (Option D) := (setPat p d (wipeE ρ own)).bind fun ρ' => (evTs C ifs ρ').bind fun c => match c with
  | true => (evE C elt ρ').bind fun x => R.guard (notBw x.2) (.ok (some x.1))
  | false => .ok none
theorem evE_lc (C : CallT) (own : List Nat) (elt : E) (p : Pat) (it : It) (ifs : List E) (ρ : Env) : evE C (.lc own elt p it ifs) ρ = (evIt C it ρ).bind fun ds => (lcGo (lcF C own elt p ifs ρ) ds.1).bind fun l => .ok (.lst l, .nw) := by
  rw [evE]
  rfl
theorem lc_prop {p : Pat} {it : It} {iifs : List E} {ielt : E} {own : List Nat} {wi : TI}
    (hp : ∀ i ∈ pvars p, i ∈ own) (B : Bs) (ρ : Env) (σ : St) (G H : Hp) (Q : VK) (d : D) (k : Kd) (S : Sim B X.K ρ σ G H)
    (fi : ∀ (Rr : L2.It → Hp → Prop) (ds : List D) (b : Bool), evIt C it ρ = .ok (ds, b) → (∀ J G' H', Step G H G' H' → ItOk X.K G' H' ds b J → Rr J H') → wi σ H Rr)
    (he : evE C (.lc own ielt p it iifs) ρ = .ok (d, k))
    (hq : ∀ v G' H', Step G H G' H' → Out B X.K H d v G' H' k → Q v H') : tLc wi (gCan X.K p) (ttCan X.K C iifs) (tCan X.K C ielt) own σ H Q := by
  rw [evE_lc] at he
  obtain ⟨⟨ds, b⟩, hds, he⟩ := R.of_bind he
  obtain ⟨l, hl, he⟩ := R.of_bind he
  cases he
  obtain ⟨fp, S⟩ := S
  refine fi _ ds b hds fun J G1 H1 st ⟨hz, Gp, Y, w, st1, st2, hy⟩ => fun D hD => ?_
  have S1 := S.step st
  have hDf : ∀ (i : Nat) (d : Fw.D) (n : Nat), (wipeE ρ own)[i]? = some (some (⟨d, n + 1⟩ : Slot)) → D ∉ fp i := fun i d n h hm => by
    obtain ⟨⟨q, e, r⟩, _⟩ := (S1.wipe own).own i d n h
    obtain ⟨o, ho, _⟩ := r.there D hm
    rw [hD] at ho
    cases ho
  have hDB : B.H D = none := S1.extH.free hD
  have hDG : G1 D = none := S1.sub.free hD
  refine lc_it w (fun i Hx => ∃ Gx accv accd rest, SimF B X.K fp (wipeE ρ own) (wipe σ own) Gx Hx ∧ Same G1 Gx ∧ Same H1 Hx ∧ (∀ p o, Gx p = some o → G1 p = some o ∨ H1 p = none ∨ ∃ xs, o = .tup xs) ∧ Hx D = some (.lst accv) ∧ Gx D = none ∧
    Reps X.K Gx accv accd ∧ accv.length ≤ i ∧ lcGo (lcF C own ielt p iifs ρ) (ds.drop i) = .ok rest ∧ accd ++ rest = l) ?_ ?_ ?_ ?_
  · refine ⟨G1, [], [], l, (S1.wipe own).upd hDG hDB hDf, Same.refl _, ?_, fun _ _ h => .inl h, upd_same, hDG, .nil, Nat.le_refl _, hl, rfl⟩
    intro a o h
    rw [upd_ne (fun z => by subst z; rw [hD] at h; cases h)]
    exact h
  · rintro i Hx _ ⟨Gx, accv, accd, rest, _, _, h, _⟩
    exact st1 Hx h
  · rintro i x Hx Hx' hi ⟨Gx, accv, accd, rest, Sx, s1, s2, nx, hxD, hgD, ra, la, hr, el⟩ y
    obtain ⟨d, G2, e1, stp, rd⟩ := hy i Hx x Hx' Gx y hi s1 Sx.sub
    have ed : ds.drop i = d :: ds.drop (i + 1) := by
      obtain ⟨hlt, e⟩ := List.getElem?_eq_some_iff.mp e1
      rw [List.drop_eq_getElem_cons hlt, e]
    rw [ed, lcGo] at hr
    obtain ⟨o, ho, hr⟩ := R.of_bind hr
    obtain ⟨rest', hr', hr⟩ := R.of_bind hr
    cases hr
    unfold lcF at ho
    obtain ⟨ρ2, hρ2, ho⟩ := R.of_bind ho
    obtain ⟨c, hc, ho⟩ := R.of_bind ho
    have S2 := Sx.step stp
    refine ⟨B, fp, wipeE ρ own, G2, d, ρ2, S2, rd, hρ2, fun σ2 S3 wq => ⟨by rw [wq own hp, wipe_wipe], B, ρ2, G2, c, ⟨fp, S3⟩, hc, fun G3 H3 st3 => ?_⟩⟩
    have new : ∀ {Gy Hy}, Step Gx Hx Gy Hy → (∀ p o, Gy p = some o → G1 p = some o ∨ H1 p = none ∨ ∃ xs, o = .tup xs) := fun {Gy Hy} sy p o h => by
      rcases sy.new p o h with h | h | h
      · exact nx p o h
      · exact .inr (.inl (s2.free h))
      · exact .inr (.inr h)
    cases c with
    | true =>
      obtain ⟨⟨yd, ky⟩, hyd, ho⟩ := R.of_bind ho
      obtain ⟨hk, ho⟩ := R.of_guard ho
      cases ho
      refine iteT ⟨B, ρ2, G3, yd, ky, ⟨fp, S3.step st3⟩, hyd, fun v G4 H4 st4 o4 => ?_⟩
      obtain ⟨G5, st5, rv⟩ := o4.share st4 hk
      have tot : Step Gx Hx G5 H4 := (stp.trans st3).trans st5
      have h4D : H4 D = some (.lst accv) := tot.h _ _ hxD
      have g5D : G5 D = none := tot.none hgD ⟨_, hxD, fun _ z => nomatch z⟩
      refine ⟨accv, h4D, by omega, G5, accv ++ [v], accd ++ [yd], rest', (Sx.step tot).upd g5D hDB hDf, s1.trans tot.g, fun a o h => ?_, new tot, upd_same, g5D, (ra.mono tot.g).append (.cons rv .nil), by rw [List.length_append]; simp; omega, hr', by rw [← el]; simp⟩
      rw [upd_ne (fun z => by subst z; rw [hD] at h; cases h)]
      exact tot.h _ _ (s2 a o h)
    | false =>
      cases ho
      have tot : Step Gx Hx G3 H3 := stp.trans st3
      exact iteF ⟨G3, accv, accd, rest', Sx.step tot, s1.trans tot.g, s2.trans tot.h, new tot, tot.h _ _ hxD, tot.none hgD ⟨_, hxD, fun _ z => nomatch z⟩, ra.mono tot.g, by omega, hr', el⟩
  · rintro Hx ⟨Gx, accv, accd, rest, Sx, s1, s2, nx, hxD, hgD, ra, la, hr, el⟩
    rw [List.drop_length, lcGo] at hr
    cases hr
    rw [List.append_nil] at el
    subst el
    exact hq (.ref D) Gx Hx (st.trans ⟨s1, s2, Sx.sub, nx⟩) ⟨D, rfl, st.h.free hD, hgD, accv, hxD, by omega, ra⟩
theorem ve_lc {elt tg iter : Expr} {ifs : List Expr} {scope : Scope} {own : List (Str × Nat)} {pos : Pos} {p : Pat} {it : It} {iifs : List E} {ielt : E} (hc : X.calm = true) (hN : X.N.Nodup) (hi : VI X C tg iter it) (ok : BlkOk X.N X.env.scope scope own)
    (hg : ∀ (s : Shared) (H : Hp) (Ca : Addr) (cl : List (Str × Addr)) (fp : List Addr), VG (X.blk s H scope (compEnvC scope cl Ca X.env) fp) p tg) (ht : ∀ (s : Shared) (H : Hp) (Ca : Addr) (cl : List (Str × Addr)) (fp : List Addr), VTs (X.blk s H scope (compEnvC scope cl Ca X.env) fp) C ifs iifs)
    (he : ∀ (s : Shared) (H : Hp) (Ca : Addr) (cl : List (Str × Addr)) (fp : List Addr), VE (X.blk s H scope (compEnvC scope cl Ca X.env) fp) C elt ielt) (hp : ∀ i ∈ pvars p, i ∈ own.map (·.2) := by decide)
    (hs : ∀ x, foldedSetIterable iter X.env x = pure x := by intro _; rfl) : VE X C (.ListComp elt [⟨tg, iter, ifs, 0⟩] scope pos) (.lc (own.map (·.2)) ielt p it iifs) := by
  obtain ⟨wi, pi, fi⟩ := hi
  exact ⟨_, pe_lc hc hN pi ok (fun s H Ca cl fp => (hg s H Ca cl fp).can) (fun s H Ca cl fp => (ht s H Ca cl fp).can) (fun s H Ca cl fp => (he s H Ca cl fp).can) hs, fun B ρ σ G H Q d k S he hq => lc_prop hp B ρ σ G H Q d k S (fun Rr ds b h1 h2 => fi B ρ σ G H Rr ds b S h1 h2) he hq⟩
end
end Fw

namespace Fw
open PySem L2
/-! ### statements -/
/-- what is to hold behind a flow -/
def FlowP (B : Bs) (K : PySem.W.Frag) (G : Hp) (D : Ends) : Flow → Prop
  | .nx ρ' => ∀ σ' G' H', Same G G' → Sim B K ρ' σ' G' H' → D.nx σ' H'
  | .bk ρ' => ∀ σ' G' H', Same G G' → Sim B K ρ' σ' G' H' → D.bk σ' H'
  | .ct ρ' => ∀ σ' G' H', Same G G' → Sim B K ρ' σ' G' H' → D.ct σ' H'
  | .rt d b => ∀ v G' H', Step B.G B.H G' H' → Out B K B.H d v G' H' (toKd b) → D.rt v H'
theorem FlowP.mono {B : Bs} {K : PySem.W.Frag} {G G1 : Hp} {D : Ends} (s : Same G G1) : ∀ {o : Flow}, FlowP B K G D o → FlowP B K G1 D o
  | .nx _, h => fun σ' G' H' s' S => h σ' G' H' (s.trans s') S
  | .bk _, h => fun σ' G' H' s' S => h σ' G' H' (s.trans s') S
  | .ct _, h => fun σ' G' H' s' S => h σ' G' H' (s.trans s') S
  | .rt _ _, h => h
def StP (K : PySem.W.Frag) (f : Env → R Flow) (t : TS) : Prop := ∀ (B : Bs) (ρ : Env) (σ : St) (G H : Hp) (D : Ends) (o : Flow), Sim B K ρ σ G H → f ρ = .ok o → FlowP B K G D o → t D σ H
def VS (X : Cx) (C : CallT) (st : Stmt) (ir : S) : Prop := ∃ t : TS, PS X st t ∧ StP X.K (evS C ir) t
def VSs (X : Cx) (C : CallT) (sts : List Stmt) (irs : List S) : Prop := ∃ t : TS, PSs X sts t ∧ StP X.K (evSs C irs) t
section
variable {X : Cx} {C : CallT}
theorem vss_nil : VSs X C [] [] := ⟨_, pss_nil, fun B ρ σ G H D o S he hq => by
  rw [evSs] at he
  cases he
  exact hq σ G H (Same.refl _) S⟩
theorem vss_cons {st : Stmt} {sts : List Stmt} {ir : S} {irs : List S} (h : VS X C st ir) (h2 : VSs X C sts irs) : VSs X C (st :: sts) (ir :: irs) := by
  obtain ⟨t, p, f⟩ := h
  obtain ⟨t2, p2, f2⟩ := h2
  refine ⟨_, pss_cons p p2, fun B ρ σ G H D o S he hq => ?_⟩
  rw [evSs] at he
  obtain ⟨o1, h1, he⟩ := R.of_bind he
  refine f B ρ σ G H _ o1 S h1 ?_
  cases o1 with
  | nx ρ' => exact fun σ' G' H' s S' => f2 B ρ' σ' G' H' D o S' he (hq.mono s)
  | rt d k => cases he; exact hq
  | bk ρ' => cases he; exact hq
  | ct ρ' => cases he; exact hq
end
section
variable {B : Bs} {K : PySem.W.Frag} {fp : Nat → List Addr} {ρ : Env} {σ : St} {G H : Hp}
theorem get_set_none {i j : Nat} {s : Slot} (h : (ρ.set i none)[j]? = some (some s)) : j ≠ i ∧ ρ[j]? = some (some s) := by
  by_cases e : i = j
  · subst e
    rw [List.getElem?_set] at h
    simp only [↓reduceIte] at h
    split at h <;> cases h
  · rw [List.getElem?_set_ne e] at h
    exact ⟨fun z => e z.symm, h⟩
theorem get_set_some {i j : Nat} {s s' : Slot} (h : (ρ.set i (some s))[j]? = some (some s')) : (j = i ∧ s' = s ∧ i < ρ.length) ∨ (j ≠ i ∧ ρ[j]? = some (some s')) := by
  by_cases e : i = j
  · subst e
    by_cases hl : i < ρ.length
    · rw [List.getElem?_set_self hl] at h
      cases h
      exact .inl ⟨rfl, rfl, hl⟩
    · rw [List.getElem?_eq_none (by rw [List.length_set]; omega)] at h
      cases h
  · rw [List.getElem?_set_ne e] at h
    exact .inr ⟨fun z => e z.symm, h⟩
theorem SimF.drop (s : SimF B K fp ρ σ G H) (i : Nat) (x : Option V) : SimF B K fp (ρ.set i none) (σ.set i x) G H where
  sub := s.sub
  extG := s.extG
  extH := s.extH
  nG := s.nG
  len := by rw [List.length_set, List.length_set, s.len]
  sh := fun j d h => by
    obtain ⟨hj, h⟩ := get_set_none h
    rw [List.getElem?_set_ne (Ne.symm hj)]
    exact s.sh j d h
  own := fun j d n h => by
    obtain ⟨hj, h⟩ := get_set_none h
    rw [List.getElem?_set_ne (Ne.symm hj)]
    exact s.own j d n h
  ne := fun j l d e n m hjl h1 h2 => s.ne j l d e n m hjl (get_set_none h1).2 (get_set_none h2).2
theorem SimF.dropS (s : SimF B K fp ρ σ G H) (i : Nat) : SimF B K fp (ρ.set i none) σ G H where
  sub := s.sub
  extG := s.extG
  extH := s.extH
  nG := s.nG
  len := by rw [List.length_set, s.len]
  sh := fun j d h => s.sh j d (get_set_none h).2
  own := fun j d n h => s.own j d n (get_set_none h).2
  ne := fun j l d e n m hjl h1 h2 => s.ne j l d e n m hjl (get_set_none h1).2 (get_set_none h2).2
/-- a name gets an object of its own -/
theorem SimF.put {i n : Nat} {p : Addr} {d : D} {A : List Addr} (s : SimF B K fp (ρ.set i none) σ G H) (hσ : σ[i]? = some (some (.ref p))) (r : Root K (n + 1) G H p d A) (hB : ∀ a ∈ A, B.H a = none)
    (hd : ∀ (j : Nat) (e : D) (m : Nat), (ρ.set i none)[j]? = some (some (⟨e, m + 1⟩ : Slot)) → ∀ a ∈ A, a ∉ fp j) : SimF B K (fun j => if j = i then A else fp j) (ρ.set i (some ⟨d, n + 1⟩)) σ G H := by
  have up : ∀ {j : Nat} {e : D} {m : Nat}, j ≠ i → ρ[j]? = some (some (⟨e, m⟩ : Slot)) → (ρ.set i none)[j]? = some (some (⟨e, m⟩ : Slot)) := fun {j e m} hj h => by rw [List.getElem?_set_ne (Ne.symm hj)]; exact h
  refine ⟨s.sub, s.extG, s.extH, s.nG, by rw [List.length_set]; have := s.len; rw [List.length_set] at this; exact this, fun j e h => ?_, fun j e m h => ?_, fun j l e f m k hjl h1 h2 => ?_⟩
  · rcases get_set_some h with ⟨_, h, _⟩ | ⟨hj, h⟩
    · cases h
    · exact s.sh j e (up hj h)
  · rcases get_set_some h with ⟨rfl, h, _⟩ | ⟨hj, h⟩
    · cases h
      rw [if_pos rfl]
      exact ⟨⟨p, hσ, r⟩, hB⟩
    · rw [if_neg hj]
      exact s.own j e m (up hj h)
  · rcases get_set_some h1 with ⟨hj, _, _⟩ | ⟨hj, g1⟩
    · rcases get_set_some h2 with ⟨hl, _, _⟩ | ⟨hl, g2⟩
      · exact (hjl (hj.trans hl.symm)).elim
      · rw [if_pos hj, if_neg hl]
        exact hd l f k (up hl g2)
    · rcases get_set_some h2 with ⟨hl, _, _⟩ | ⟨hl, g2⟩
      · rw [if_neg hj, if_pos hl]
        exact fun a ha hb => hd j e m (up hj g1) a hb ha
      · rw [if_neg hj, if_neg hl]
        exact s.ne j l e f m k hjl (up hj g1) (up hl g2)
theorem Cont.growG {G' : Hp} (s : Same G G') {p : Addr} : ∀ {d : D}, Cont K G H p d → Cont K G' H p d
  | .lst _, ⟨vs, a, b, c⟩ => ⟨vs, a, b, c.mono s⟩
  | .dK _, ⟨vs, a, b, c⟩ => ⟨vs, a, b, c.mono s⟩
  | .dT _, ⟨vs, a, b, c⟩ => ⟨vs, a, b, c.mono s⟩
  | .non, h => h.elim
  | .bl _, h => h.elim
  | .int _, h => h.elim
  | .str _, h => h.elim
  | .tup _, h => h.elim
theorem Root.growG {G' : Hp} (s : Same G G') : ∀ {n : Nat} {p : Addr} {d : D} {A : List Addr}, Root K n G H p d A → (∀ a ∈ A, G' a = none) → Root K n G' H p d A
  | 0, _, _, _, h, _ => h.elim
  | 1, _, _, _, ⟨e, n, c⟩, h => ⟨e, h _ (by subst e; exact List.mem_singleton_self _), c.growG s⟩
  | _ + 2, _, _, _, ⟨kvs, dvs, qs, a, b, c, n, g, l, t⟩, h => ⟨kvs, dvs, qs, a, b, c, h, g, l, by
    have go : ∀ {kvs : List (Key × V)} {dvs : List (Key × D)} {qs : List Addr}, Own2 K G H kvs dvs qs → Own2 K G' H kvs dvs qs := by
      intro kvs dvs qs o
      induction o with
      | nil => exact .nil
      | cons a b c _ ih => exact .cons a b (c.mono s) ih
    exact go t⟩
/-- an object that no name owns becomes everybody's -/
theorem SimF.growG (s : SimF B K fp ρ σ G H) {p : Addr} {o : HO} (hG : G p = none) (hH : H p = some o) (hB : B.H p = none) (hf : ∀ (i : Nat) (d : D) (n : Nat), ρ[i]? = some (some (⟨d, n + 1⟩ : Slot)) → p ∉ fp i) : Same G (L2.upd G p o) ∧ SimF B K fp ρ σ (L2.upd G p o) H := by
  have s1 : Same G (L2.upd G p o) := fun b u e => by rw [upd_ne (fun z => by subst z; rw [hG] at e; cases e)]; exact e
  refine ⟨s1, fun b u e => ?_, s.extG.trans s1, s.extH, fun b u e => ?_, s.len, fun i d h => ?_, fun i d n h => ?_, s.ne⟩
  · by_cases z : b = p
    · subst z; rw [upd_same] at e; cases e; exact hH
    · rw [upd_ne z] at e; exact s.sub b u e
  · by_cases z : b = p
    · subst z; exact .inr (.inl hB)
    · rw [upd_ne z] at e; exact s.nG b u e
  · obtain ⟨v, e, r⟩ := s.sh i d h
    exact ⟨v, e, r.mono s1⟩
  · obtain ⟨⟨q, e, r⟩, hq⟩ := s.own i d n h
    refine ⟨⟨q, e, r.growG s1 fun a ha => ?_⟩, hq⟩
    rw [upd_ne (fun z => hf i d n h (by rw [← z]; exact ha))]
    have : ∀ a ∈ fp i, G a = none := by
      cases n with
      | zero => intro a ha; obtain ⟨e, g, _⟩ := r; rw [e, List.mem_singleton] at ha; subst ha; exact g
      | succ n => obtain ⟨_, _, _, _, _, _, g, _⟩ := r; exact g
    exact this a ha
/-- a name is no more one's own -/
theorem Sim.freeze (s : Sim B K ρ σ G H) {i : Nat} {d : D} (h : ρ[i]? = some (some (⟨d, 1⟩ : Slot))) : ∃ G', Same G G' ∧ Sim B K (setSlot ρ i d 0) σ G' H := by
  obtain ⟨fp, s⟩ := s
  obtain ⟨⟨p, e, hA, n, c⟩, q⟩ := s.own i d 0 h
  obtain ⟨o, ho, _⟩ := c.there
  obtain ⟨s1, S1⟩ := (s.dropS i).growG n ho (q p (by rw [hA]; exact List.mem_singleton_self _)) fun j e m hj hm => by
    obtain ⟨hne, hj⟩ := get_set_none hj
    exact s.ne i j d e 0 m (Ne.symm hne) h hj p (by rw [hA]; exact List.mem_singleton_self _) hm
  refine ⟨_, s1, fp, ?_⟩
  have S2 := S1.set i (c.rep (G' := L2.upd G p o) s1 fun u hu => by rw [ho] at hu; cases hu; exact upd_same)
  rw [List.set_set] at S2
  have e2 : σ.set i (some (.ref p)) = σ := by
    apply List.ext_getElem?
    intro j
    by_cases z : i = j
    · subst z
      rw [List.getElem?_set_self (List.getElem?_eq_some_iff.mp e).1, e]
    · rw [List.getElem?_set_ne z]
  rw [e2] at S2
  exact S2
theorem SimF.growAll : ∀ (A : List Addr) {G : Hp}, SimF B K fp ρ σ G H → A.Nodup → (∀ a ∈ A, G a = none) → (∀ a ∈ A, ∃ o, H a = some o) → (∀ a ∈ A, B.H a = none) → (∀ a ∈ A, ∀ (i : Nat) (d : D) (n : Nat), ρ[i]? = some (some (⟨d, n + 1⟩ : Slot)) → a ∉ fp i) → ∃ G', Same G G' ∧ SimF B K fp ρ σ G' H ∧ ∀ a ∈ A, G' a = H a
  | [], G, s, _, _, _, _, _ => ⟨G, Same.refl _, s, fun _ h => nomatch h⟩
  | a :: A, G, s, hn, hG, hH, hB, hf => by
    rw [List.nodup_cons] at hn
    obtain ⟨o, ho⟩ := hH a List.mem_cons_self
    obtain ⟨s1, S1⟩ := s.growG (hG a List.mem_cons_self) ho (hB a List.mem_cons_self) (hf a List.mem_cons_self)
    obtain ⟨G', s2, S2, h2⟩ := SimF.growAll A S1 hn.2 (fun b hb => by
      have hne : b ≠ a := fun z => by subst z; exact hn.1 hb
      rw [upd_ne hne]
      exact hG b (List.mem_cons_of_mem _ hb)) (fun b hb => hH b (List.mem_cons_of_mem _ hb)) (fun b hb => hB b (List.mem_cons_of_mem _ hb)) (fun b hb => hf b (List.mem_cons_of_mem _ hb))
    refine ⟨G', s1.trans s2, S2, fun b hb => ?_⟩
    rcases List.mem_cons.mp hb with e | hb
    · subst e
      rw [ho]
      exact s2 _ _ upd_same
    · exact h2 b hb
theorem Own2.repG {G' : Hp} (s : Same G G') : ∀ {kvs : List (Key × V)} {ds : List (Key × D)} {qs : List Addr}, Own2 K G H kvs ds qs → (∀ q ∈ qs, G' q = H q) → RepK K G' kvs ds
  | _, _, _, .nil, _ => .nil
  | _, _, _, .cons a b c t, h => .cons (.lst (.of ((h _ List.mem_cons_self).trans a)) b (c.mono s)) (Own2.repG s t fun x hx => h x (List.mem_cons_of_mem _ hx))
/-- .. a dict of lists -/
theorem Sim.freeze2 (s : Sim B K ρ σ G H) {i : Nat} {d : D} (h : ρ[i]? = some (some (⟨d, 2⟩ : Slot))) : ∃ G', Same G G' ∧ Sim B K (setSlot ρ i d 0) σ G' H := by
  obtain ⟨fp, s⟩ := s
  obtain ⟨⟨p, e, r⟩, q⟩ := s.own i d 1 h
  have r0 := r
  obtain ⟨kvs, dvs, qs, rfl, hA, hn, hg, hp, hl, o2⟩ := r
  obtain ⟨G', s1, S1, h1⟩ := (s.dropS i).growAll (fp i) hn hg (fun a ha => let ⟨o, ho, _⟩ := r0.there a ha; ⟨o, ho⟩) q fun a ha j f m hj hm => by
    obtain ⟨hne, hj⟩ := get_set_none hj
    exact s.ne i j _ f 1 m (Ne.symm hne) h hj a ha hm
  refine ⟨G', s1, fp, ?_⟩
  have hG' : G' p = some (.dK kvs) := (h1 p (by rw [hA]; exact List.mem_cons_self)).trans hp
  have S2 := S1.set i (Rep.dK (.inl hG') hl (o2.repG s1 fun x hx => h1 x (by rw [hA]; exact List.mem_cons_of_mem _ hx)))
  rw [List.set_set] at S2
  have e2 : σ.set i (some (.ref p)) = σ := by
    apply List.ext_getElem?
    intro j
    by_cases z : i = j
    · subst z
      rw [List.getElem?_set_self (List.getElem?_eq_some_iff.mp e).1, e]
    · rw [List.getElem?_set_ne z]
  rw [e2] at S2
  exact S2
/-- a name gets a new object of its own -/
theorem Sim.own1 (s : Sim B K ρ σ G H) {G' H' : Hp} (t : Step G H G' H') {v : V} {d : D} (o : Out B K H d v G' H' .nw) (i : Nat) : Sim B K (setSlot ρ i d 1) (σ.set i (some v)) G' H' := by
  obtain ⟨fp, s⟩ := s
  obtain ⟨p, rfl, hp, hg, c⟩ := o
  have s1 := (s.step t).drop i (some (.ref p))
  by_cases hl : i < σ.length
  · exact ⟨_, s1.put (d := d) (n := 0) (A := [p]) (List.getElem?_set_self hl) ⟨rfl, hg, c⟩ (fun a ha => by rw [List.mem_singleton] at ha; subst ha; exact s.extH.free hp) fun j e m hj a ha hm => by
      rw [List.mem_singleton] at ha
      subst ha
      obtain ⟨hne, hj⟩ := get_set_none hj
      obtain ⟨⟨q, _, r⟩, _⟩ := s.own j e m hj
      obtain ⟨u, hu, _⟩ := r.there a hm
      rw [hp] at hu
      cases hu⟩
  · have e1 : setSlot ρ i d 1 = ρ.set i none := by
      unfold setSlot
      rw [List.set_eq_of_length_le (by rw [s.len]; omega), List.set_eq_of_length_le (by rw [s.len]; omega)]
    rw [e1]
    exact ⟨fp, s1⟩
/-- a name's own object is changed -/
theorem SimF.change (s : SimF B K fp ρ σ G H) {i : Nat} {p : Addr} {d d' : D} {o : HO} (h : ρ[i]? = some (some (⟨d, 1⟩ : Slot))) (e : σ[i]? = some (some (.ref p))) (hA : fp i = [p]) (hG : G p = none) (hB : B.H p = none)
    (c : Cont K G (L2.upd H p o) p d') : Sim B K (setSlot ρ i d' 1) σ G (L2.upd H p o) := by
  have off : ∀ (j : Nat) (e : D) (m : Nat), (ρ.set i none)[j]? = some (some (⟨e, m + 1⟩ : Slot)) → p ∉ fp j := fun j e m hj hm => by
    obtain ⟨hne, hj⟩ := get_set_none hj
    exact s.ne i j d e 0 m (Ne.symm hne) h hj p (by rw [hA]; exact List.mem_singleton_self _) hm
  exact ⟨_, ((s.dropS i).upd (o := o) hG hB off).put (d := d') (n := 0) (A := [p]) e ⟨rfl, hG, c⟩ (fun a ha => by rw [List.mem_singleton] at ha; subst ha; exact hB) fun j f m hj a ha => by
    rw [List.mem_singleton] at ha
    subst ha
    exact off j f m hj⟩
end
end Fw

namespace Fw
open PySem L2
section
variable {X : Cx} {C : CallT}
theorem R.ok_of {α : Type} {a b : α} (h : R.ok a = R.ok b) : a = b := R.ok.inj h
/-- a step of expressions, as a statement's -/
theorem FlowP.nx_of {B : Bs} {K : PySem.W.Frag} {ρ ρ' : Env} {σ σ' : St} {G H G' H' : Hp} {D : Ends} (q : FlowP B K G D (.nx ρ')) (s : Same G G') (S : Sim B K ρ' σ' G' H') : D.nx σ' H' := q σ' G' H' s S
theorem vs_asg {p : Pat} {tg e : Expr} {ir : E} {pos : Pos} (h : VE X C e ir) (hg : VG X p tg) (hs : swapsWithSole [tg] e pos.line X.env = pure false := by rfl) (hw : swappedStores [tg] e X.env = pure none := by rfl)
    (h1 : (assignEach [tg] X.env).map (·.2) = [assign tg X.env] := by rfl) : VS X C (.Assign [tg] e pos) (.asg p ir 0) := by
  obtain ⟨t, pe, f⟩ := h
  obtain ⟨g, pg, fg⟩ := hg
  refine ⟨_, ps_asg pe pg hs hw h1, fun B ρ σ G H D o S he hq => ?_⟩
  rw [evS] at he
  obtain ⟨x, hx, he⟩ := R.of_bind he
  obtain ⟨hk, he⟩ := R.of_guard he
  obtain ⟨ρ', hρ, he⟩ := R.of_bind he
  cases he
  obtain ⟨fp, S⟩ := S
  refine f B ρ σ G H _ x.1 x.2 ⟨fp, S⟩ hx fun v G0 H1 st0 o0 => ?_
  obtain ⟨G1, st, r⟩ := o0.share st0 hk
  exact fg B fp ρ σ G1 H1 _ v x.1 ρ' (S.step st) r hρ fun σ' S' _ => hq σ' G1 H1 st.g ⟨fp, S'⟩
/-- .. of its own -/
theorem vs_own {i : Nat} {x : Str} {e : Expr} {ir : E} {pos pos' : Pos} (h : VE X C e ir) (hN : X.N.Nodup) (hi : X.N[i]? = some x := by rfl) (hx : Loc X.env.scope x := by first | exact Or.inl rfl | exact Or.inr rfl)
    (hf : X.fn x = true ∨ X.env.scope.names.lookup x = some .local := by first | exact .inl rfl | exact .inr rfl) (hs : swapsWithSole [.Name x pos'] e pos.line X.env = pure false := by rfl) (hw : swappedStores [.Name x pos'] e X.env = pure none := by rfl)
    (h1 : (assignEach [.Name x pos'] X.env).map (·.2) = [assign (.Name x pos') X.env] := by rfl) : VS X C (.Assign [.Name x pos'] e pos) (.asg (.v i) ir 1) := by
  obtain ⟨t, pe, f⟩ := h
  refine ⟨_, ps_asg pe (pg_name hN hi hx hf) hs hw h1, fun B ρ σ G H D o S he hq => ?_⟩
  rw [evS] at he
  obtain ⟨⟨d, k⟩, hx, he⟩ := R.of_bind he
  obtain ⟨hk, he⟩ := R.of_guard he
  cases he
  refine f B ρ σ G H _ d k S hx fun v G1 H1 st o => ?_
  have e2 : k = .nw := by
    cases k <;> first | rfl | (cases d <;> cases hk)
  subst e2
  exact hq _ G1 H1 st.g (S.own1 st o i)
theorem vs_ex {e : Expr} {ir : E} {pos : Pos} (h : VE X C e ir) (hs : swapsWith e none pos.line X.env = pure false := by rfl) : VS X C (.Expr e pos) (.ex ir) := by
  obtain ⟨t, pe, f⟩ := h
  refine ⟨_, ps_expr pe hs, fun B ρ σ G H D o S he hq => ?_⟩
  rw [evS] at he
  obtain ⟨x, hx, he⟩ := R.of_bind he
  cases he
  exact f B ρ σ G H _ x.1 x.2 S hx fun v G1 H1 st _ => hq σ G1 H1 st.g (S.step st)
theorem Sim.all {B : Bs} {K : PySem.W.Frag} {ρ : Env} {σ : St} {G H : Hp} (s : Sim B K ρ σ G H) : Step B.G B.H G H := let ⟨_, s⟩ := s; ⟨s.extG, s.extH, s.sub, s.nG⟩
theorem vs_ret {e : Expr} {ir : E} {pos : Pos} (h : VE X C e ir) : VS X C (.Return (some e) pos) (.ret ir) := by
  obtain ⟨t, pe, f⟩ := h
  refine ⟨_, ps_ret pe, fun B ρ σ G H D o S he hq => ?_⟩
  rw [evS] at he
  obtain ⟨⟨d, k⟩, hx, he⟩ := R.of_bind he
  obtain ⟨b, hb, he⟩ := R.of_bind he
  cases he
  refine f B ρ σ G H _ d k S hx fun v G1 H1 st o => hq v G1 H1 (S.step st).all ?_
  obtain ⟨fp, S⟩ := S
  cases k with
  | sh => cases hb; exact o
  | nw =>
    cases hb
    obtain ⟨p, e, n, g, c⟩ := o
    exact ⟨p, e, S.extH.free n, g, c⟩
  | bw => cases hb; exact o
  | b2 => cases hb
theorem vs_retN {pos : Pos} : VS X C (.Return none pos) .retN := by
  refine ⟨_, ps_retN, fun B ρ σ G H D o S he hq => ?_⟩
  rw [evS] at he
  cases he
  exact hq _ G H S.all .non
theorem vs_pass {pos : Pos} : VS X C (.Pass pos) .pass := ⟨_, ps_pass, fun B ρ σ G H D o S he hq => by
  rw [evS] at he
  cases he
  exact hq σ G H (Same.refl _) S⟩
theorem vs_brk {pos : Pos} : VS X C (.Break pos) .brk := ⟨_, ps_break, fun B ρ σ G H D o S he hq => by
  rw [evS] at he
  cases he
  exact hq σ G H (Same.refl _) S⟩
theorem vs_cont {pos : Pos} : VS X C (.Continue pos) .cont := ⟨_, ps_continue, fun B ρ σ G H D o S he hq => by
  rw [evS] at he
  cases he
  exact hq σ G H (Same.refl _) S⟩
/-- a statement that is never come to with an answer -/
theorem vs_never {st : Stmt} {ir : S} (h : ∀ ρ, evS C ir ρ = .no) : VS X C st ir := ⟨_, ps_never, fun B ρ σ G H D o S he hq => by
  rw [h] at he
  cases he⟩
theorem vs_if {c : Expr} {a b : List Stmt} {ic : E} {ia ib : List S} {pos : Pos} (h : VT X C c ic) (ha : VSs X C a ia) (hb : VSs X C b ib) : VS X C (.If c a b pos) (.ite ic ia ib) := by
  obtain ⟨t, p, f⟩ := h
  obtain ⟨t1, p1, f1⟩ := ha
  obtain ⟨t2, p2, f2⟩ := hb
  refine ⟨_, ps_if p p1 p2, fun B ρ σ G H D o S he hq => ?_⟩
  rw [evS] at he
  obtain ⟨x, hx, he⟩ := R.of_bind he
  obtain ⟨d, hd, he⟩ := R.of_bind he
  rw [bl_of hd] at hx
  refine f B ρ σ G H _ d x.2 S hx fun G1 H1 st => ?_
  cases d with
  | true => exact iteT (f1 B ρ σ G1 H1 D o (S.step st) he (hq.mono st.g))
  | false => exact iteF (f2 B ρ σ G1 H1 D o (S.step st) he (hq.mono st.g))
theorem for_core {p : Pat} {it : It} {irs : List S} {wi : TI} {g : TG} {t : TS} (fg : ∀ (B : Bs) (fp : Nat → List Addr) (ρ : Env) (σ : St) (G H : Hp) (Q : St → Hp → Prop) (v : V) (d : D) (ρ' : Env), SimF B X.K fp ρ σ G H → Rep X.K G v d → setPat p d ρ = .ok ρ' →
  (∀ σ', SimF B X.K fp ρ' σ' G H → (∀ vs : List Nat, (∀ i ∈ pvars p, i ∈ vs) → wipe σ' vs = wipe σ vs) → Q σ' H) → g v σ H Q) (fb : StP X.K (evSs C irs) t)
    (B : Bs) (ρ : Env) (σ : St) (G H : Hp) (D : Ends) (o : Flow) (S : Sim B X.K ρ σ G H)
    (fi : ∀ (Rr : L2.It → Hp → Prop) (ds : List Fw.D) (b : Bool), evIt C it ρ = .ok (ds, b) → (∀ J G' H', Step G H G' H' → ItOk X.K G' H' ds b J → Rr J H') → wi σ H Rr)
    (hl : lend irs = true → ∀ (ds : List Fw.D) (b : Bool), evIt C it ρ = .ok (ds, b) → b = true) (he : evS C (.for_ p it irs) ρ = .ok o) (hq : FlowP B X.K G D o) : tFor wi g t D σ H := by
  rw [evS] at he
  obtain ⟨⟨ds, b⟩, hds, he⟩ := R.of_bind he
  obtain ⟨hb, he⟩ := R.of_guard he
  have hb : b = true := by
    rw [Bool.or_eq_true] at hb
    exact hb.elim id fun z => hl z ds b hds
  refine fi _ ds b hds fun J G1 H1 st ⟨hz, Gp, Y, w, st1, st2, hy⟩ => ?_
  refine for_it w (fun i σ' H' => ∃ ρi Gi, Sim B X.K ρi σ' Gi H' ∧ Same G1 Gi ∧ forGo p (fun ρ => evSs C irs ρ) (ds.drop i) ρi = .ok o) ⟨ρ, G1, S.step st, Same.refl _, he⟩ ?_ ?_ ?_
  · rintro i σ' H' _ ⟨ρi, Gi, Si, s1, _⟩
    exact st2 hb H' (s1.trans Si.sub)
  · rintro i x σ' Hx Hx' hi ⟨ρi, Gi, Si, s1, hr⟩ y
    obtain ⟨d, G2, e1, stp, rd⟩ := hy i Hx x Hx' Gi y hi s1 Si.sub
    have ed : ds.drop i = d :: ds.drop (i + 1) := by
      obtain ⟨hlt, e⟩ := List.getElem?_eq_some_iff.mp e1
      rw [List.drop_eq_getElem_cons hlt, e]
    rw [ed, forGo] at hr
    obtain ⟨ρ2, hρ2, hr⟩ := R.of_bind hr
    obtain ⟨o2, ho2, hr⟩ := R.of_bind hr
    obtain ⟨fp, Si⟩ := Si
    refine fg B fp ρi σ' G2 Hx' _ x d ρ2 (Si.step stp) rd hρ2 fun σ2 S2 _ => fb B ρ2 σ2 G2 Hx' _ o2 ⟨fp, S2⟩ ho2 ?_
    cases o2 with
    | nx ρ'' => exact fun σ3 G3 H3 s3 S3 => ⟨ρ'', G3, S3, (s1.trans stp.g).trans s3, hr⟩
    | ct ρ'' => exact fun σ3 G3 H3 s3 S3 => ⟨ρ'', G3, S3, (s1.trans stp.g).trans s3, hr⟩
    | bk ρ'' =>
      cases hr
      exact fun σ3 G3 H3 s3 S3 => hq σ3 G3 H3 (((st.g.trans s1).trans stp.g).trans s3) S3
    | rt d k =>
      cases hr
      exact hq
  · rintro σ' H' ⟨ρi, Gi, Si, s1, hr⟩
    rw [List.drop_length, forGo] at hr
    cases hr
    exact hq σ' Gi H' (st.g.trans s1) Si
/-- a walk whose body changes nothing -/
theorem vs_forL {tg iter t r : Expr} {p : Pat} {it : It} {ic ie : E} {pos pos2 pos3 : Pos} (hp : PassesOwn (model X.prog X.w) X.A X.env X.xe) (hc : X.calm = true) (hi : VI X C tg iter it) (hg : VG X p tg) (ht : VT X C t ic) (hr : VE X C r ie)
    (hs : ∀ x, foldedSetIterable iter X.env x = pure x) : VS X C (.For tg iter [.If t [.Return (some r) pos3] [] pos2] [] pos) (.for_ p it [.ite ic [.ret ie] []]) := by
  obtain ⟨wi, pi, fi⟩ := hi
  obtain ⟨g, pg, fg⟩ := hg
  obtain ⟨tt, pt, ft⟩ := ht
  obtain ⟨t1, p1, f1⟩ := vss_cons (vs_ret (pos := pos3) hr) (vss_nil (X := X) (C := C))
  refine ⟨_, ps_for hp hc pi pg (pss_cons (ps_if pt p1 pss_nil) pss_nil) hs, fun B ρ σ G H D o S he hq => ?_⟩
  rw [evS] at he
  obtain ⟨⟨ds, b⟩, hds, he⟩ := R.of_bind he
  obtain ⟨_, he⟩ := R.of_guard he
  refine fi B ρ σ G H _ ds b S hds fun J G1 H1 st ⟨hz, Gp, Y, w, st1, st2, hy⟩ => ?_
  refine for_it w (fun i σ' H' => Same H1 H' ∧ ∃ ρi Gi, Sim B X.K ρi σ' Gi H' ∧ Same G1 Gi ∧ forGo p (fun ρ => evSs C [.ite ic [.ret ie] []] ρ) (ds.drop i) ρi = .ok o) ⟨Same.refl _, ρ, G1, S.step st, Same.refl _, he⟩ ?_ ?_ ?_
  · rintro i σ' H' _ ⟨h1, _⟩
    exact st1 H' h1
  · rintro i x σ' Hx Hx' hi ⟨h1, ρi, Gi, Si, s1, hr⟩ y
    obtain ⟨d, G2, e1, stp, rd⟩ := hy i Hx x Hx' Gi y hi s1 Si.sub
    have ed : ds.drop i = d :: ds.drop (i + 1) := by
      obtain ⟨hlt, e⟩ := List.getElem?_eq_some_iff.mp e1
      rw [List.drop_eq_getElem_cons hlt, e]
    rw [ed, forGo] at hr
    obtain ⟨ρ2, hρ2, hr⟩ := R.of_bind hr
    obtain ⟨o2, ho2, hr⟩ := R.of_bind hr
    obtain ⟨fp, Si⟩ := Si
    refine fg B fp ρi σ' G2 Hx' _ x d ρ2 (Si.step stp) rd hρ2 fun σ2 S2 _ => ?_
    rw [evSs, evS] at ho2
    obtain ⟨o3, ho3, ho2⟩ := R.of_bind ho2
    obtain ⟨xv, hx, ho3⟩ := R.of_bind ho3
    obtain ⟨bb, hbb, ho3⟩ := R.of_bind ho3
    rw [bl_of hbb] at hx
    refine ft B ρ2 σ2 G2 Hx' _ bb xv.2 ⟨fp, S2⟩ hx fun G3 H3 st3 => ?_
    cases bb with
    | true =>
      refine iteT (f1 B ρ2 σ2 G3 H3 _ o3 (Sim.step ⟨fp, S2⟩ st3) ho3 ?_)
      rw [show (R.ite true (evSs C [.ret ie] ρ2) (evSs C [] ρ2)) = evSs C [.ret ie] ρ2 from rfl, evSs, evS] at ho3
      obtain ⟨o4, h4, ho3⟩ := R.of_bind ho3
      obtain ⟨y4, hy4, h4⟩ := R.of_bind h4
      obtain ⟨k4, hk4, h4⟩ := R.of_bind h4
      cases h4
      cases ho3
      cases ho2
      cases hr
      exact hq
    | false =>
      rw [show (R.ite false (evSs C [.ret ie] ρ2) (evSs C [] ρ2)) = evSs C [] ρ2 from rfl, evSs] at ho3
      cases ho3
      have ho2 : evSs C [] ρ2 = .ok o2 := ho2
      rw [evSs] at ho2
      cases ho2
      exact iteF ⟨(h1.trans stp.h).trans st3.h, ρ2, G3, Sim.step ⟨fp, S2⟩ st3, (s1.trans stp.g).trans st3.g, hr⟩
  · rintro σ' H' ⟨_, ρi, Gi, Si, s1, hr⟩
    rw [List.drop_length, forGo] at hr
    cases hr
    exact hq σ' Gi H' (st.g.trans s1) Si
theorem vs_for {tg iter : Expr} {body : List Stmt} {p : Pat} {it : It} {irs : List S} {pos : Pos} (hp : PassesOwn (model X.prog X.w) X.A X.env X.xe) (hc : X.calm = true) (hi : VI X C tg iter it) (hg : VG X p tg) (hb : VSs X C body irs) (hL : lend irs = false)
    (hs : ∀ x, foldedSetIterable iter X.env x = pure x := by intro _; rfl) : VS X C (.For tg iter body [] pos) (.for_ p it irs) := by
  obtain ⟨wi, pi, fi⟩ := hi
  obtain ⟨g, pg, fg⟩ := hg
  obtain ⟨t, pb, fb⟩ := hb
  exact ⟨_, ps_for hp hc pi pg pb hs, fun B ρ σ G H D o S he hq => for_core fg fb B ρ σ G H D o S (fun Rr ds b h1 h2 => fi B ρ σ G H Rr ds b S h1 h2) (fun z => by rw [hL] at z; cases z) he hq⟩
theorem vs_while {c : Expr} {body : List Stmt} {ic : E} {irs : List S} {pos : Pos} (hp : PassesOwn (model X.prog X.w) X.A X.env X.xe) (hc : VT X C c ic) (hb : VSs X C body irs) : VS X C (.While c body [] pos) (.whl ic irs) := by
  obtain ⟨t, pc, fc⟩ := hc
  obtain ⟨t2, pb, fb⟩ := hb
  refine ⟨_, ps_while hp pc pb, fun B ρ σ G H D o S he hq => ?_⟩
  rw [evS] at he
  refine ⟨fun m σ' H' => ∃ ρi Gi, Sim B X.K ρi σ' Gi H' ∧ Same G Gi ∧ whlGo (fun ρ => (evE C ic ρ).bind fun x => isBl x.1) (fun ρ => evSs C irs ρ) m ρi = .ok o, ⟨fuel, ρ, G, S, Same.refl _, he⟩, ?_⟩
  rintro m σ' H' ⟨ρi, Gi, Si, s1, hr⟩
  cases m with
  | zero => rw [whlGo] at hr; cases hr
  | succ n =>
    rw [whlGo] at hr
    obtain ⟨b, hb, hr⟩ := R.of_bind hr
    obtain ⟨x, hx, hb⟩ := R.of_bind hb
    rw [bl_of hb] at hx
    refine fc B ρi σ' Gi H' _ b x.2 Si hx fun G1 H1 st => ?_
    cases b with
    | false =>
      cases hr
      exact iteF (hq σ' G1 H1 (s1.trans st.g) (Si.step st))
    | true =>
      obtain ⟨o2, ho2, hr⟩ := R.of_bind hr
      refine iteT ⟨fun σ3 H3 => ∃ ρi Gi, Sim B X.K ρi σ3 Gi H3 ∧ Same G Gi ∧ whlGo (fun ρ => (evE C ic ρ).bind fun x => isBl x.1) (fun ρ => evSs C irs ρ) n ρi = .ok o, fun σ3 H3 h => ⟨n, Nat.lt_succ_self _, h⟩, ?_⟩
      refine fb B ρi σ' G1 H1 _ o2 (Si.step st) ho2 ?_
      cases o2 with
      | nx ρ'' => exact fun σ3 G3 H3 s3 S3 => ⟨ρ'', G3, S3, (s1.trans st.g).trans s3, hr⟩
      | ct ρ'' => exact fun σ3 G3 H3 s3 S3 => ⟨ρ'', G3, S3, (s1.trans st.g).trans s3, hr⟩
      | bk ρ'' =>
        cases hr
        exact fun σ3 G3 H3 s3 S3 => hq σ3 G3 H3 ((s1.trans st.g).trans s3) S3
      | rt d k =>
        cases hr
        exact hq
theorem vss_frz {sts : List Stmt} {irs : List S} {i : Nat} (h : VSs X C sts irs) : VSs X C sts (.frz i :: irs) := by
  obtain ⟨t, p, f⟩ := h
  refine ⟨t, p, fun B ρ σ G H D o S he hq => ?_⟩
  rw [evSs, evS] at he
  obtain ⟨o1, h1, he⟩ := R.of_bind he
  split at h1
  · rename_i d hd
    cases h1
    obtain ⟨G', s1, S1⟩ := S.freeze hd
    exact f B _ σ G' H D o S1 he (hq.mono s1)
  · rename_i d hd
    cases h1
    obtain ⟨G', s1, S1⟩ := S.freeze2 hd
    exact f B _ σ G' H D o S1 he (hq.mono s1)
  · cases h1
/-- a name's own list -/
theorem ownL_of {ρ : Env} {i : Nat} {xs : List D} (h : ownL ρ i = .ok xs) : ρ[i]? = some (some (⟨.lst xs, 1⟩ : Slot)) := by
  unfold ownL at h
  split at h
  · rename_i e; cases h; exact e
  · cases h
theorem own_at {B : Bs} {K : PySem.W.Frag} {fp : Nat → List Addr} {ρ : Env} {σ : St} {G H : Hp} (s : SimF B K fp ρ σ G H) {i : Nat} {d : D} (h : ρ[i]? = some (some (⟨d, 1⟩ : Slot))) :
    ∃ p, σ[i]? = some (some (.ref p)) ∧ fp i = [p] ∧ G p = none ∧ Cont K G H p d ∧ B.H p = none := by
  obtain ⟨⟨p, e, hA, n, c⟩, q⟩ := s.own i d 0 h
  exact ⟨p, e, hA, n, c, q p (by rw [hA]; exact List.mem_singleton_self _)⟩
theorem setSlot_get {ρ : Env} {i : Nat} {s : Slot} (h : ρ[i]? = some (some s)) : i < ρ.length := (List.getElem?_eq_some_iff.mp h).1
/-- x.append(e) -/
theorem vs_app {i : Nat} {e call : Expr} {ir : E} {pos : Pos} (pm : ∀ t, PA X [e] t → PE X call (tBM X.K "list" rAppend (tVar i) t)) (h : VE X C e ir) (hs0 : starEach [e] X.env = (false, eval e X.env) :: starEach [] X.env := by rfl)
    (hs : swapsWith call none pos.line X.env = pure false := by rfl) : VS X C (.Expr call pos) (.app i ir) := by
  obtain ⟨t, pe, f⟩ := h
  refine ⟨_, ps_expr (pm _ (pa_cons pe pa_nil hs0)) hs, fun B ρ σ G H D o S he hq => ?_⟩
  rw [evS] at he
  obtain ⟨xs, hxs, he⟩ := R.of_bind he
  obtain ⟨⟨d, k⟩, hx, he⟩ := R.of_bind he
  obtain ⟨hc, he⟩ := R.of_guard he
  rw [Bool.and_eq_true, decide_eq_true_eq, line_eq] at hc
  cases he
  obtain ⟨fp, S⟩ := S
  have hρ := ownL_of hxs
  obtain ⟨p, e1, hA, hG, ⟨vs, h1, h2, h3⟩, hB⟩ := own_at S hρ
  refine ⟨.ref p, e1, .inl ⟨rfl, vs, .of h1⟩, f B ρ σ G H _ d k ⟨fp, S⟩ hx fun v G0 H1 st0 o0 => ?_⟩
  obtain ⟨G1, st, r⟩ := o0.share st0 hc.1
  have S1 := S.step st
  have g1 : G1 p = none := st.none hG ⟨_, h1, fun _ z => nomatch z⟩
  have l1 : vs.length < sizeLine := by rw [h3.length]; exact hc.2
  refine ⟨p, vs, v, rfl, rfl, st.h _ _ h1, l1, hq σ G1 _ st.g (S1.change hρ e1 hA g1 hB ⟨vs ++ [v], upd_same, by rw [List.length_append]; exact l1, (h3.mono st.g).append (.cons r .nil)⟩)⟩
/-- x.extend(e) -/
theorem vs_ext {i : Nat} {e call : Expr} {ir : E} {pos : Pos} (pm : ∀ t, PA X [e] t → PE X call (tBM X.K "list" rExtend (tVar i) t)) (h : VE X C e ir) (hs0 : starEach [e] X.env = (false, eval e X.env) :: starEach [] X.env := by rfl)
    (hs : swapsWith call none pos.line X.env = pure false := by rfl) : VS X C (.Expr call pos) (.ext i ir) := by
  obtain ⟨t, pe, f⟩ := h
  refine ⟨_, ps_expr (pm _ (pa_cons pe pa_nil hs0)) hs, fun B ρ σ G H D o S he hq => ?_⟩
  rw [evS] at he
  obtain ⟨xs, hxs, he⟩ := R.of_bind he
  obtain ⟨⟨d, k⟩, hx, he⟩ := R.of_bind he
  cases d <;> (first | (cases he; done) | skip)
  rename_i ys
  obtain ⟨hc, he⟩ := R.of_guard he
  rw [Bool.and_eq_true, decide_eq_true_eq, line_eq] at hc
  cases he
  obtain ⟨fp, S⟩ := S
  have hρ := ownL_of hxs
  obtain ⟨p, e1, hA, hG, ⟨vs, h1, h2, h3⟩, hB⟩ := own_at S hρ
  refine ⟨.ref p, e1, .inl ⟨rfl, vs, .of h1⟩, f B ρ σ G H _ _ k ⟨fp, S⟩ hx fun v G1 H1 st o => ?_⟩
  have S1 := S.step st
  have g1 : G1 p = none := st.none hG ⟨_, h1, fun _ z => nomatch z⟩
  obtain ⟨b, rfl, ws, q1, q2, q3⟩ : ∃ b, v = .ref b ∧ Cont X.K G1 H1 b (.lst ys) := by
    cases k with
    | nw => obtain ⟨b, e, _, _, c⟩ := o; exact ⟨b, e, c⟩
    | bw => obtain ⟨b, e, _, _, c⟩ := o; exact ⟨b, e, c⟩
    | sh => cases hc.1
    | b2 => cases hc.1
  have l1 : vs.length + ws.length ≤ sizeLine := by rw [h3.length, q3.length]; exact hc.2
  refine ⟨p, b, vs, ws, rfl, rfl, st.h _ _ h1, q1, l1, hq σ G1 _ st.g (S1.change hρ e1 hA g1 hB ⟨vs ++ ws, upd_same, by rw [List.length_append]; exact l1, (h3.mono st.g).append q3⟩)⟩
/-- x[k] = e, x a list -/
theorem vs_sto {i : Nat} {tg ix e : Expr} {ii ir : E} {pos pos' : Pos} (pm : ∀ ti, PE X ix ti → PG X (.Subscript tg ix pos') (gSub (tVar i) ti rSetL)) (hi : VE X C ix ii) (h : VE X C e ir) (hs : swapsWithSole [.Subscript tg ix pos'] e pos.line X.env = pure false := by rfl)
    (hw : swappedStores [.Subscript tg ix pos'] e X.env = pure none := by rfl) (h1 : (assignEach [.Subscript tg ix pos'] X.env).map (·.2) = [assign (.Subscript tg ix pos') X.env] := by rfl) : VS X C (.Assign [.Subscript tg ix pos'] e pos) (.sto i ii ir) := by
  obtain ⟨t, pe, f⟩ := h
  obtain ⟨t2, pe2, f2⟩ := hi
  refine ⟨_, ps_asg pe (pm _ pe2) hs hw h1, fun B ρ σ G H D o S he hq => ?_⟩
  rw [evS] at he
  obtain ⟨⟨d, k⟩, hx, he⟩ := R.of_bind he
  obtain ⟨hk, he⟩ := R.of_guard he
  obtain ⟨⟨y, ky⟩, hy, he⟩ := R.of_bind he
  obtain ⟨ρ', hρ', he⟩ := R.of_bind he
  cases he
  refine f B ρ σ G H _ d k S hx fun v G0 H1 st0 o0 => ?_
  obtain ⟨G1, st, r⟩ := o0.share st0 hk
  obtain ⟨fp, S⟩ := S
  unfold stoD at hρ'
  split at hρ' <;> (first | (cases hρ'; done) | skip)
  rename_i xs hρ
  cases y <;> (first | (cases hρ'; done) | skip)
  rename_i kk
  simp only at hρ'
  split at hρ' <;> (first | (cases hρ'; done) | skip)
  rename_i j hj
  cases hρ'
  obtain ⟨p, e1, hA, hG, ⟨vs, q1, q2, q3⟩, hB⟩ := own_at S hρ
  refine ⟨.ref p, e1, f2 B ρ σ G1 H1 _ _ ky ⟨fp, S.step st⟩ hy fun u G2 H2 st2 o2 => ?_⟩
  have S2 := (S.step st).step st2
  have tot := st.trans st2
  have g1 : G2 p = none := tot.none hG ⟨_, q1, fun _ z => nomatch z⟩
  have ru := o2.rc st2.sub
  cases ru
  refine ⟨p, vs, kk, j, rfl, rfl, tot.h _ _ q1, by rw [q3.length]; exact hj, hq σ G2 _ tot.g (S2.change hρ e1 hA g1 hB ⟨vs.set j v, upd_same, by rw [List.length_set]; exact q2, Reps.set (r.mono st2.g) j (q3.mono tot.g)⟩)⟩
theorem RepK.valK {K : PySem.W.Frag} {G : Hp} {κ : Key} : ∀ {vs : List (Key × V)} {ds : List (Key × D)}, RepK K G vs ds → ∀ {d : D}, Fw.valK ds κ = some d → ∃ v, valV vs κ = some v ∧ Rep K G v d
  | _, _, .nil, d, h => by cases h
  | _, _, .cons (k := k) r t, d, h => by
    unfold Fw.valK at h
    unfold valV
    rw [List.find?_cons] at h ⊢
    by_cases e : k = κ
    · subst e
      simp only [decide_true] at h ⊢
      cases h
      exact ⟨_, rfl, r⟩
    · simp only [e, decide_false] at h ⊢
      exact RepK.valK t h
theorem RepT.valK {K : PySem.W.Frag} {G : Hp} {κ : List Key} : ∀ {vs : List (List Key × V)} {ds : List (List Key × D)}, RepT K G vs ds → ∀ {d : D}, Fw.valK ds κ = some d → ∃ v, valV vs κ = some v ∧ Rep K G v d
  | _, _, .nil, d, h => by cases h
  | _, _, .cons (k := k) r t, d, h => by
    unfold Fw.valK at h
    unfold valV
    rw [List.find?_cons] at h ⊢
    by_cases e : k = κ
    · subst e
      simp only [decide_true] at h ⊢
      cases h
      exact ⟨_, rfl, r⟩
    · simp only [e, decide_false] at h ⊢
      exact RepT.valK t h
theorem RepK.isSome {K : PySem.W.Frag} {G : Hp} {κ : Key} : ∀ {vs : List (Key × V)} {ds : List (Key × D)}, RepK K G vs ds → (valV vs κ).isSome = (Fw.valK ds κ).isSome
  | _, _, .nil => rfl
  | _, _, .cons (k := k) r t => by
    unfold Fw.valK valV
    rw [List.find?_cons, List.find?_cons]
    by_cases e : k = κ
    · simp [e]
    · simp only [e, decide_false]
      exact RepK.isSome t
theorem RepT.isSome {K : PySem.W.Frag} {G : Hp} {κ : List Key} : ∀ {vs : List (List Key × V)} {ds : List (List Key × D)}, RepT K G vs ds → (valV vs κ).isSome = (Fw.valK ds κ).isSome
  | _, _, .nil => rfl
  | _, _, .cons (k := k) r t => by
    unfold Fw.valK valV
    rw [List.find?_cons, List.find?_cons]
    by_cases e : k = κ
    · simp [e]
    · simp only [e, decide_false]
      exact RepT.isSome t
theorem RepK.keys {K : PySem.W.Frag} {G : Hp} {κ : Key} : ∀ {vs : List (Key × V)} {ds : List (Key × D)}, RepK K G vs ds → (vs.any fun kv => decide (kv.1 = κ)) = ds.any fun kv => decide (kv.1 = κ)
  | _, _, .nil => rfl
  | _, _, .cons r t => by rw [List.any_cons, List.any_cons, t.keys]
theorem RepT.keys {K : PySem.W.Frag} {G : Hp} {κ : List Key} : ∀ {vs : List (List Key × V)} {ds : List (List Key × D)}, RepT K G vs ds → (vs.any fun kv => decide (kv.1 = κ)) = ds.any fun kv => decide (kv.1 = κ)
  | _, _, .nil => rfl
  | _, _, .cons r t => by rw [List.any_cons, List.any_cons, t.keys]
theorem RepK.append {K : PySem.W.Frag} {G : Hp} : ∀ {vs ws : List (Key × V)} {ds es : List (Key × D)}, RepK K G vs ds → RepK K G ws es → RepK K G (vs ++ ws) (ds ++ es)
  | _, _, _, _, .nil, h => h
  | _, _, _, _, .cons h t, q => .cons h (t.append q)
theorem RepT.append {K : PySem.W.Frag} {G : Hp} : ∀ {vs ws : List (List Key × V)} {ds es : List (List Key × D)}, RepT K G vs ds → RepT K G ws es → RepT K G (vs ++ ws) (ds ++ es)
  | _, _, _, _, .nil, h => h
  | _, _, _, _, .cons h t, q => .cons h (t.append q)
theorem RepK.mapSet {K : PySem.W.Frag} {G : Hp} {κ : Key} {v : V} {d : D} (r : Rep K G v d) : ∀ {vs : List (Key × V)} {ds : List (Key × D)}, RepK K G vs ds → RepK K G (vs.map fun kv => if kv.1 = κ then (kv.1, v) else kv) (ds.map fun kv => if kv.1 = κ then (kv.1, d) else kv)
  | _, _, .nil => .nil
  | _, _, .cons (k := k) h t => by
    rw [List.map_cons, List.map_cons]
    by_cases e : k = κ
    · simp only [e, if_true]; exact .cons r (t.mapSet r)
    · simp only [e, if_false]; exact .cons h (t.mapSet r)
theorem RepT.mapSet {K : PySem.W.Frag} {G : Hp} {κ : List Key} {v : V} {d : D} (r : Rep K G v d) : ∀ {vs : List (List Key × V)} {ds : List (List Key × D)}, RepT K G vs ds → RepT K G (vs.map fun kv => if kv.1 = κ then (kv.1, v) else kv) (ds.map fun kv => if kv.1 = κ then (kv.1, d) else kv)
  | _, _, .nil => .nil
  | _, _, .cons (k := k) h t => by
    rw [List.map_cons, List.map_cons]
    by_cases e : k = κ
    · simp only [e, if_true]; exact .cons r (t.mapSet r)
    · simp only [e, if_false]; exact .cons h (t.mapSet r)
theorem RepK.put {K : PySem.W.Frag} {G : Hp} {κ : Key} {v : V} {d : D} {vs : List (Key × V)} {ds : List (Key × D)} (h : RepK K G vs ds) (r : Rep K G v d) : RepK K G (putK vs κ v) (putD ds κ d) := by
  unfold putK putD
  rw [h.keys]
  split
  · exact h.mapSet r
  · exact h.append (.cons r .nil)
theorem RepT.put {K : PySem.W.Frag} {G : Hp} {κ : List Key} {v : V} {d : D} {vs : List (List Key × V)} {ds : List (List Key × D)} (h : RepT K G vs ds) (r : Rep K G v d) : RepT K G (putK vs κ v) (putD ds κ d) := by
  unfold putK putD
  rw [h.keys]
  split
  · exact h.mapSet r
  · exact h.append (.cons r .nil)
theorem putK_len {κ : Type} [DecidableEq κ] (kvs : List (κ × V)) (k : κ) (v : V) : (putK kvs k v).length ≤ kvs.length + 1 := by
  unfold putK
  split
  · rw [List.length_map]; omega
  · rw [List.length_append]; exact Nat.le_refl _
theorem key_of {K : PySem.W.Frag} {G H : Hp} {v : V} {d : D} {k : Key} (r : RC K G H v d) (h : keyD d = .ok k) : v = kV k := by
  cases d <;> (first | (cases h; done) | skip)
  · cases h; cases r; rfl
  · cases h; obtain ⟨rfl, _⟩ := r; rfl
theorem keys_of {K : PySem.W.Frag} {G : Hp} : ∀ {vs : List V} {ds : List D} {l : List Key}, Reps K G vs ds → keysD ds = .ok l → vs = l.map kV
  | _, _, l, .nil, h => by cases h; rfl
  | _, _, l, .cons (d := d) r t, h => by
    rw [keysD] at h
    obtain ⟨k, hk, h⟩ := R.of_bind h
    obtain ⟨l2, h2, h⟩ := R.of_bind h
    cases h
    rw [keys_of t h2, key_of (RC.of_rep (Same.refl _) r) hk]
    rfl
/-- x[k] = e, x a dict -/
theorem vs_dst {i : Nat} {st : Stmt} {ix e : Expr} {ii ir : E} (pm : ∀ ti tv, PE X ix ti → PE X e tv → PS X st (sDPut (tVar i) ti tv)) (hi : VE X C ix ii) (h : VE X C e ir) : VS X C st (.dst i ii ir) := by
  obtain ⟨t, pe, f⟩ := h
  obtain ⟨t2, pe2, f2⟩ := hi
  refine ⟨_, pm _ _ pe2 pe, fun B ρ σ G H D o S he hq => ?_⟩
  rw [evS] at he
  obtain ⟨⟨d, k⟩, hx, he⟩ := R.of_bind he
  obtain ⟨hk, he⟩ := R.of_guard he
  obtain ⟨⟨y, ky⟩, hy, he⟩ := R.of_bind he
  obtain ⟨ρ', hρ', he⟩ := R.of_bind he
  cases he
  refine f B ρ σ G H _ d k S hx fun v G0 H1 st0 o0 => ?_
  obtain ⟨G1, st, r⟩ := o0.share st0 hk
  obtain ⟨fp, S⟩ := S
  unfold dstD at hρ'
  split at hρ' <;> (first | (cases hρ'; done) | skip)
  · rename_i kvs hρ
    obtain ⟨κ, hκ, hρ'⟩ := R.of_bind hρ'
    obtain ⟨hl, hρ'⟩ := R.of_guard hρ'
    rw [decide_eq_true_eq, line_eq] at hl
    cases hρ'
    obtain ⟨p, e1, hA, hG, ⟨vs, q1, q2, q3⟩, hB⟩ := own_at S hρ
    refine ⟨.ref p, e1, f2 B ρ σ G1 H1 _ _ ky ⟨fp, S.step st⟩ hy fun u G2 H2 st2 o2 => ?_⟩
    have S2 := (S.step st).step st2
    have tot := st.trans st2
    have g1 : G2 p = none := tot.none hG ⟨_, q1, fun _ z => nomatch z⟩
    have hl' : vs.length < sizeLine := by rw [q3.length]; exact hl
    exact ⟨p, _, rfl, .inl ⟨vs, κ, tot.h _ _ q1, key_of (o2.rc st2.sub) hκ, hl', rfl⟩, hq σ G2 _ tot.g (S2.change hρ e1 hA g1 hB ⟨putK vs κ v, upd_same, by have := putK_len vs κ v; omega, (q3.mono tot.g).put (r.mono st2.g)⟩)⟩
  · rename_i kvs hρ
    cases y <;> (first | (cases hρ'; done) | skip)
    rename_i ks
    simp only at hρ'
    obtain ⟨κ, hκ, hρ'⟩ := R.of_bind hρ'
    obtain ⟨hl, hρ'⟩ := R.of_guard hρ'
    rw [decide_eq_true_eq, line_eq] at hl
    cases hρ'
    obtain ⟨p, e1, hA, hG, ⟨vs, q1, q2, q3⟩, hB⟩ := own_at S hρ
    refine ⟨.ref p, e1, f2 B ρ σ G1 H1 _ _ ky ⟨fp, S.step st⟩ hy fun u G2 H2 st2 o2 => ?_⟩
    have S2 := (S.step st).step st2
    have tot := st.trans st2
    have g1 : G2 p = none := tot.none hG ⟨_, q1, fun _ z => nomatch z⟩
    have hl' : vs.length < sizeLine := by rw [q3.length]; exact hl
    obtain ⟨b, ws, rfl, w1, w2, w3⟩ := o2.rc st2.sub
    have ek := keys_of w3 hκ
    subst ek
    exact ⟨p, _, rfl, .inr ⟨vs, κ, b, tot.h _ _ q1, rfl, st2.sub _ _ w1, hl', rfl⟩, hq σ G2 _ tot.g (S2.change hρ e1 hA g1 hB ⟨putK vs κ v, upd_same, by have := putK_len vs κ v; omega, (q3.mono tot.g).put (r.mono st2.g)⟩)⟩
/-- d[k] of a dict -/
theorem Own2.valK {K : PySem.W.Frag} {G H : Hp} {κ : Key} : ∀ {vs : List (Key × V)} {ds : List (Key × D)} {qs : List Addr}, Own2 K G H vs ds qs → ∀ {d : D}, Fw.valK ds κ = some d → ∃ q, q ∈ qs ∧ valV vs κ = some (.ref q) ∧ Cont K G H q d
  | _, _, _, .nil, d, h => by cases h
  | _, _, _, .cons (k := k) (q := q) a b c t, d, h => by
    unfold Fw.valK at h
    unfold valV
    rw [List.find?_cons] at h ⊢
    by_cases e : k = κ
    · subst e
      simp only [decide_true] at h ⊢
      cases h
      exact ⟨q, List.mem_cons_self, rfl, _, a, b, c⟩
    · simp only [e, decide_false] at h ⊢
      obtain ⟨q', h1, h2, h3⟩ := Own2.valK t h
      exact ⟨q', List.mem_cons_of_mem _ h1, h2, h3⟩
theorem ve_dget {o i : Expr} {io ii : E} {pos : Pos} (hu : X.A.units + 1 < cLine) (ha : VE X C o io) (hb : VE X C i ii) (hs : NoSl i := by exact fun _ _ => rfl) : VE X C (.Subscript o i pos) (.dget io ii) := by
  obtain ⟨t, p, f⟩ := ha
  obtain ⟨t2, p2, f2⟩ := hb
  refine ⟨_, pe_dget hu p p2 hs, fun B ρ σ G H Q d k S he hq => ?_⟩
  rw [evE] at he
  obtain ⟨⟨x, kx⟩, hx, he⟩ := R.of_bind he
  obtain ⟨⟨y, ky⟩, hy, he⟩ := R.of_bind he
  obtain ⟨e, hc, he⟩ := R.of_bind he
  cases he
  refine f B ρ σ G H _ x kx S hx fun v G1 H1 st o1 => ?_
  refine f2 B ρ σ G1 H1 _ y ky (S.step st) hy fun u G2 H2 st2 o2 => ?_
  have tot := st.trans st2
  have o1' := o1.step st2
  have rb := o2.rc st2.sub
  cases x with
  | non => cases hc
  | bl => cases hc
  | int => cases hc
  | str => cases hc
  | lst => cases hc
  | tup => cases hc
  | dK kvs =>
    obtain ⟨κ, hκ, hc⟩ := R.of_bind hc
    split at hc <;> cases hc
    rename_i hval
    by_cases hk : kx = .b2
    · subst hk
      obtain ⟨a, A, rfl, nB, kv, dv, qs, e1, e2, e3, e4, e5, e6, e7⟩ := o1'
      cases e1
      obtain ⟨q, m1, m2, m3⟩ := e7.valK hval
      have hq' : q ∈ A := by rw [e2]; exact List.mem_cons_of_mem _ m1
      exact ⟨a, .ref q, rfl, .inl ⟨kv, κ, .inl e5, key_of rb hκ, m2.symm⟩, hq _ G2 H2 tot ⟨q, rfl, nB q hq', e4 q hq', m3⟩⟩
    · have hin : inKd kx = .sh := by cases kx <;> first | rfl | exact (hk rfl).elim
      have fin : ∀ {a kv}, v = .ref a → Rd H2 a (.dK kv) → RepK X.K G2 kv kvs → ∃ a v_1, v = .ref a ∧ DGet H2 a u (some v_1) ∧ Q v_1 H2 := by
        intro a kv ev h1 h2
        obtain ⟨w, m1, m2⟩ := h2.valK hval
        refine ⟨a, w, ev, .inl ⟨kv, κ, h1, key_of rb hκ, m1.symm⟩, hq _ G2 H2 tot ?_⟩
        rw [hin]
        exact m2
      cases kx with
      | sh => cases o1' with | dK h1 _ h3 => exact fin rfl (Same.rd st2.sub h1) h3
      | nw => obtain ⟨a, e, _, _, kv, h1, _, h3⟩ := o1'; exact fin e (.inl h1) h3
      | bw => obtain ⟨a, e, _, _, kv, h1, _, h3⟩ := o1'; exact fin e (.inl h1) h3
      | b2 => exact (hk rfl).elim
  | dT kvs =>
    cases y <;> (first | (cases hc; done) | skip)
    rename_i ks
    obtain ⟨κ, hκ, hc⟩ := R.of_bind hc
    split at hc <;> cases hc
    rename_i hval
    obtain ⟨b, ws, rfl, w1, w2, w3⟩ := rb
    have ek := keys_of w3 hκ
    subst ek
    have hin : inKd kx = .sh ∧ ∃ a kv, v = .ref a ∧ Rd H2 a (.dT kv) ∧ RepT X.K G2 kv kvs := by
      cases kx with
      | sh => cases o1' with | dT h1 _ h3 => exact ⟨rfl, _, _, rfl, Same.rd st2.sub h1, h3⟩
      | nw => obtain ⟨a, e, _, _, kv, h1, _, h3⟩ := o1'; exact ⟨rfl, a, kv, e, .inl h1, h3⟩
      | bw => obtain ⟨a, e, _, _, kv, h1, _, h3⟩ := o1'; exact ⟨rfl, a, kv, e, .inl h1, h3⟩
      | b2 => obtain ⟨a, A, _, _, kv, dv, qs, e1, _⟩ := o1'; cases e1
    obtain ⟨hin, a, kv, rfl, h1, h3⟩ := hin
    obtain ⟨w, m1, m2⟩ := h3.valK hval
    refine ⟨a, w, rfl, .inr ⟨kv, κ, b, h1, rfl, st2.sub _ _ w1, m1.symm⟩, hq _ G2 H2 tot ?_⟩
    rw [hin]
    exact m2
end
end Fw

namespace Fw
open PySem L2
section
variable {X : Cx} {C : CallT} {a b : Expr} {ia ib : E} {pos : Pos}
/-- the room that a def's body has -/
abbrev Hu (X : Cx) : Prop := X.A.units + 66 < cLine
theorem hu_room {k : Nat} {A : Around} (r : Room k A) : A.units + 66 < cLine := by have := r.un; omega
theorem ve_eq (hu : Hu X) (ha : VE X C a ia) (hb : VE X C b ib) : VE X C (.Compare a [.Eq] [b] pos) (.cmp .eq ia ib) := ve_cmp (o := .eq) (op_eqD (by have h : X.A.units + 66 < cLine := hu; omega)) cm_eq (nomark _) ha hb
theorem ve_ne (hu : Hu X) (ha : VE X C a ia) (hb : VE X C b ib) : VE X C (.Compare a [.NotEq] [b] pos) (.cmp .ne ia ib) := ve_cmp (o := .ne) (op_neD (by have h : X.A.units + 66 < cLine := hu; omega)) cm_ne (nomark _) ha hb
theorem ve_lt (hu : Hu X) (ha : VE X C a ia) (hb : VE X C b ib) : VE X C (.Compare a [.Lt] [b] pos) (.cmp .lt ia ib) := ve_cmp (o := .lt) (op_lt.or (op_lt_str.or (op_ltD (by have h : X.A.units + 66 < cLine := hu; omega)))) cm_lt (nomark _) ha hb
theorem ve_gt (ha : VE X C a ia) (hb : VE X C b ib) : VE X C (.Compare a [.Gt] [b] pos) (.cmp .gt ia ib) := ve_cmp (o := .gt) (op_gt.or op_gt_str) cm_gt (nomark _) ha hb
theorem ve_le (ha : VE X C a ia) (hb : VE X C b ib) : VE X C (.Compare a [.LtE] [b] pos) (.cmp .le ia ib) := ve_cmp (o := .le) (op_le.or op_le_str) cm_le (nomark _) ha hb
theorem ve_ge (ha : VE X C a ia) (hb : VE X C b ib) : VE X C (.Compare a [.GtE] [b] pos) (.cmp .ge ia ib) := ve_cmp (o := .ge) (op_ge.or op_ge_str) cm_ge (nomark _) ha hb
theorem op_inAll (hu : Hu X) : OpR X (compareOp .In) (fun x y H Q => rInD X.K x y H Q ∨ rIn X.K false x y H Q ∨ ∃ i j, x = .str i ∧ y = .str j ∧ Q (.bl (!(Builtin.Str.occurrences j i 0 j.length 1).isEmpty)) H) :=
  (op_inD (by have h : X.A.units + 66 < cLine := hu; omega)).or (op_in_seq.or op_in_str)
theorem op_notinAll (hu : Hu X) : OpR X (compareOp .NotIn) (fun x y H Q => rNotInD X.K x y H Q ∨ rIn X.K true x y H Q ∨ ∃ i j, x = .str i ∧ y = .str j ∧ Q (.bl (!(!(Builtin.Str.occurrences j i 0 j.length 1).isEmpty))) H) :=
  (op_notInD (by have h : X.A.units + 66 < cLine := hu; omega)).or (op_notIn_seq.or op_notIn_str)
theorem ve_in (hu : Hu X) (ha : VE X C a ia) (hb : VE X C b ib) (hm : behindInMarks .In b = false := by rfl) : VE X C (.Compare a [.In] [b] pos) (.cmp .isin ia ib) := ve_cmp (o := .isin) (op_inAll hu) cm_in hm ha hb
theorem ve_notin (hu : Hu X) (ha : VE X C a ia) (hb : VE X C b ib) (hm : behindInMarks .NotIn b = false := by rfl) : VE X C (.Compare a [.NotIn] [b] pos) (.cmp .notin ia ib) := ve_cmp (o := .notin) (op_notinAll hu) cm_notin hm ha hb
theorem ve_isN (ha : VE X C a ia) (hb : VE X C b ib) : VE X C (.Compare a [.Is] [b] pos) (.cmp .isN ia ib) := ve_cmp (o := .isN) op_isN cm_isN (nomark _) ha hb
theorem ve_notN (ha : VE X C a ia) (hb : VE X C b ib) : VE X C (.Compare a [.IsNot] [b] pos) (.cmp .notN ia ib) := ve_cmp (o := .notN) op_notN cm_notN (nomark _) ha hb
theorem ve_isB (ha : VE X C a ia) (hb : VE X C b ib) : VE X C (.Compare a [.Is] [b] pos) (.cmp .isB ia ib) := ve_cmp (o := .isB) op_isBl cm_isB (nomark _) ha hb
theorem ve_notB (ha : VE X C a ia) (hb : VE X C b ib) : VE X C (.Compare a [.IsNot] [b] pos) (.cmp .notB ia ib) := ve_cmp (o := .notB) op_notBl cm_notB (nomark _) ha hb
theorem vt_eq (hu : Hu X) (ha : VE X C a ia) (hb : VE X C b ib) : VT X C (.Compare a [.Eq] [b] pos) (.cmp .eq ia ib) := vt_cmp (o := .eq) (op_eqD (by have h : X.A.units + 66 < cLine := hu; omega)) cm_eq (nomark _) ha hb
theorem vt_ne (hu : Hu X) (ha : VE X C a ia) (hb : VE X C b ib) : VT X C (.Compare a [.NotEq] [b] pos) (.cmp .ne ia ib) := vt_cmp (o := .ne) (op_neD (by have h : X.A.units + 66 < cLine := hu; omega)) cm_ne (nomark _) ha hb
theorem vt_lt (hu : Hu X) (ha : VE X C a ia) (hb : VE X C b ib) : VT X C (.Compare a [.Lt] [b] pos) (.cmp .lt ia ib) := vt_cmp (o := .lt) (op_lt.or (op_lt_str.or (op_ltD (by have h : X.A.units + 66 < cLine := hu; omega)))) cm_lt (nomark _) ha hb
theorem vt_gt (ha : VE X C a ia) (hb : VE X C b ib) : VT X C (.Compare a [.Gt] [b] pos) (.cmp .gt ia ib) := vt_cmp (o := .gt) (op_gt.or op_gt_str) cm_gt (nomark _) ha hb
theorem vt_le (ha : VE X C a ia) (hb : VE X C b ib) : VT X C (.Compare a [.LtE] [b] pos) (.cmp .le ia ib) := vt_cmp (o := .le) (op_le.or op_le_str) cm_le (nomark _) ha hb
theorem vt_ge (ha : VE X C a ia) (hb : VE X C b ib) : VT X C (.Compare a [.GtE] [b] pos) (.cmp .ge ia ib) := vt_cmp (o := .ge) (op_ge.or op_ge_str) cm_ge (nomark _) ha hb
theorem vt_in (hu : Hu X) (ha : VE X C a ia) (hb : VE X C b ib) (hm : behindInMarks .In b = false := by rfl) : VT X C (.Compare a [.In] [b] pos) (.cmp .isin ia ib) := vt_cmp (o := .isin) (op_inAll hu) cm_in hm ha hb
theorem vt_notin (hu : Hu X) (ha : VE X C a ia) (hb : VE X C b ib) (hm : behindInMarks .NotIn b = false := by rfl) : VT X C (.Compare a [.NotIn] [b] pos) (.cmp .notin ia ib) := vt_cmp (o := .notin) (op_notinAll hu) cm_notin hm ha hb
theorem vt_isN (ha : VE X C a ia) (hb : VE X C b ib) : VT X C (.Compare a [.Is] [b] pos) (.cmp .isN ia ib) := vt_cmp (o := .isN) op_isN cm_isN (nomark _) ha hb
theorem vt_notN (ha : VE X C a ia) (hb : VE X C b ib) : VT X C (.Compare a [.IsNot] [b] pos) (.cmp .notN ia ib) := vt_cmp (o := .notN) op_notN cm_notN (nomark _) ha hb
theorem vt_isB (ha : VE X C a ia) (hb : VE X C b ib) : VT X C (.Compare a [.Is] [b] pos) (.cmp .isB ia ib) := vt_cmp (o := .isB) op_isBl cm_isB (nomark _) ha hb
theorem vt_notB (ha : VE X C a ia) (hb : VE X C b ib) : VT X C (.Compare a [.IsNot] [b] pos) (.cmp .notB ia ib) := vt_cmp (o := .notB) op_notBl cm_notB (nomark _) ha hb
/-- a <= b <= c and its kin -/
theorem ve_lele {c : Expr} {ic : E} (ha : VE X C a ia) (hb : VE X C b ib) (hc : VE X C c ic) (hm : lastMarks [CmpOp.LtE, CmpOp.LtE] [b, c] = false := by with_unfolding_all rfl) : VE X C (.Compare a [.LtE, .LtE] [b, c] pos) (.chain .le .le ia ib ic) :=
  ve_chain (o := .le) (o' := .le) (op_le.or op_le_str) cm_le (op_le.or op_le_str) cm_le ha hb hc hm
theorem vt_lele {c : Expr} {ic : E} (ha : VE X C a ia) (hb : VE X C b ib) (hc : VE X C c ic) (hm : lastMarks [CmpOp.LtE, CmpOp.LtE] [b, c] = false := by with_unfolding_all rfl) : VT X C (.Compare a [.LtE, .LtE] [b, c] pos) (.chain .le .le ia ib ic) :=
  vt_chain (o := .le) (o' := .le) (op_le.or op_le_str) cm_le (op_le.or op_le_str) cm_le ha hb hc hm
theorem vt_ltlt (hu : Hu X) {c : Expr} {ic : E} (ha : VE X C a ia) (hb : VE X C b ib) (hc : VE X C c ic) (hm : lastMarks [CmpOp.Lt, CmpOp.Lt] [b, c] = false := by with_unfolding_all rfl) : VT X C (.Compare a [.Lt, .Lt] [b, c] pos) (.chain .lt .lt ia ib ic) :=
  vt_chain (o := .lt) (o' := .lt) (op_lt.or (op_lt_str.or (op_ltD (by have h : X.A.units + 66 < cLine := hu; omega)))) cm_lt (op_lt.or (op_lt_str.or (op_ltD (by have h : X.A.units + 66 < cLine := hu; omega)))) cm_lt ha hb hc hm
theorem ve_ltlt (hu : Hu X) {c : Expr} {ic : E} (ha : VE X C a ia) (hb : VE X C b ib) (hc : VE X C c ic) (hm : lastMarks [CmpOp.Lt, CmpOp.Lt] [b, c] = false := by with_unfolding_all rfl) : VE X C (.Compare a [.Lt, .Lt] [b, c] pos) (.chain .lt .lt ia ib ic) :=
  ve_chain (o := .lt) (o' := .lt) (op_lt.or (op_lt_str.or (op_ltD (by have h : X.A.units + 66 < cLine := hu; omega)))) cm_lt (op_lt.or (op_lt_str.or (op_ltD (by have h : X.A.units + 66 < cLine := hu; omega)))) cm_lt ha hb hc hm
end

/-! ### defs -/
/-- a def of the module keeps its promise, by C -/
def OkDef (P : Program) (w : World) (K : PySem.W.Frag) (mg : Str → Option Value) (base : Heap) (nm : Str) (k : Nat) (C : CallT) (fi np : Nat) : Prop := ∃ (f : Addr) (fd : FuncData) (ps : List Str), mg nm = some (.ref f) ∧ PySem.W.keepIn K (.ref f) = true ∧
  Binds K fd ps [] ∧ FnOk P w K mg base CX0 k f fd ps (spC K C fi np)
/-- a def stands in the module -/
def DefIn (K : PySem.W.Frag) (mg : Str → Option Value) (nm : Str) (st : Stmt) (ps : List Str) : Prop := ∃ (f : Addr) (fd : FuncData), mg nm = some (.ref f) ∧ Fun K nm nm st f fd ∧ ∀ us : List Value, us.length = ps.length → bindArgs fd ⟨us, []⟩ = pure (ps.zip us)
theorem ve_calld {X : Cx} {C : CallT} {x : Str} {e : Expr} {es : List Expr} {ir : E} {irs : List E} {p pos : Pos} {k fi np : Nat} (F : OkDef X.prog X.w X.K X.mg X.base x k C fi np) (hr : Room k X.A) (hg : Gl X x) (h : VA X C (e :: es) (ir :: irs))
    (hn : decide ((ir :: irs).length = np) = true := by rfl) (hdb : (x == ("__debug__" : Str)) = false := by decide) (he : starEach (e :: es) X.env = (false, eval e X.env) :: starEach es X.env := by rfl) (hpl : (backTo pos (starEach es X.env)).any (·.1) = false := by rfl) :
    VE X C (.Call (.Name x p) (e :: es) [] pos) (.call fi (ir :: irs)) := by
  obtain ⟨f, fd, ps, hm, hk, hb, F⟩ := F
  exact ve_call F hr hg hm hk hb h hn hdb he hpl
theorem start_ok {K : PySem.W.Frag} {G H : Hp} {N : List Str} {vs : List V} {ds : List D} (s : Same G H) (r : Reps K G vs ds) : Sim ⟨G, H⟩ K (start0 ds N.length) (L2.start N vs) G H := by
  have el := r.length
  have own : ∀ (i : Nat) (d : D) (n : Nat), (start0 ds N.length)[i]? = some (some (⟨d, n⟩ : Slot)) → n = 0 ∧ ds[i]? = some d := by
    intro i d n h
    unfold start0 at h
    rw [List.getElem?_append] at h
    split at h
    · rw [List.getElem?_map] at h
      cases e : ds[i]? with
      | none => rw [e] at h; cases h
      | some d' => rw [e] at h; cases h; exact ⟨rfl, rfl⟩
    · rw [List.getElem?_replicate] at h
      split at h <;> cases h
  refine ⟨fun _ => [], s, Same.refl _, Same.refl _, fun p o h => .inl h, ?_, fun i d h => ?_, fun i d n h => ?_, fun i j d e n m _ h => ?_⟩
  · unfold start0 L2.start
    simp [el]
  · obtain ⟨v, e, r⟩ := r.get (own i d 0 h).2
    refine ⟨v, ?_, r⟩
    have hl : i < vs.length := (List.getElem?_eq_some_iff.mp e).1
    unfold L2.start
    rw [List.getElem?_append, if_pos (by rw [List.length_map]; exact hl), List.getElem?_map, e]
    rfl
  · exact absurd (own i d (n + 1) h).1 (Nat.succ_ne_zero n)
  · exact absurd (own i d (n + 1) h).1 (Nat.succ_ne_zero n)
theorem fn_okE {P : Program} {w : World} {K : PySem.W.Frag} {mg : Str → Option Value} {base : Heap} {nm : Str} {st : Stmt} {N ps : List Str} {k fi : Nat} {Fs : List Fn} {irs : List S} {f : Addr} {fd : FuncData} (F : Fun K nm nm st f fd) (Sc : FnScope N ps (defScope st))
    (hF : Fs[fi]? = some ⟨ps.length, N.length, irs⟩)
    (hb : ∀ (n : Nat) (f : Addr) (cdv : Value) (A : Around) (outer : List PySem.Env) (s : Shared) (H : Hp) (E : XK), Room k (A.deeper (PyProof.Rows.envOfC nm (defScope st) s.heap.objs.size f cdv)) →
      VSs (cxOf CX0 P w K mg base N nm (defScope st) f cdv A outer s H E).nox (run Fs n) (defBody st) irs) : ∀ n, FnOk P w K mg base CX0 (k + 1) f fd ps (spC K (run Fs n) fi ps.length) := by
  intro n
  refine F.ok Sc (fun vs H Q E h => h.1) (fun cdv A outer s H vs Q E hr h => ?_)
  obtain ⟨hl, ds, G, d, b, hs, hr2, hrun, hq⟩ := h
  cases n with
  | zero => cases hrun
  | succ n =>
    rw [run, hF] at hrun
    simp only at hrun
    unfold runF at hrun
    obtain ⟨_, hrun⟩ := R.of_guard hrun
    obtain ⟨o, ho, hrun⟩ := R.of_bind hrun
    obtain ⟨t, p, ft⟩ := hb n f cdv A outer s H E hr
    refine ⟨t, p, ft ⟨G, H⟩ _ _ G H _ o (start_ok hs hr2) ho ?_⟩
    cases o with
    | rt d' b' =>
      cases hrun
      exact hq
    | nx ρ' =>
      cases hrun
      exact fun σ' G' H' _ S' => hq .non G' H' S'.all .non
    | bk ρ' => cases hrun
    | ct ρ' => cases hrun
theorem fn_ok {P : Program} {w : World} {K : PySem.W.Frag} {mg : Str → Option Value} {base : Heap} {nm : Str} {st : Stmt} {N ps : List Str} {k fi : Nat} {Fs : List Fn} {irs : List S} (D : DefIn K mg nm st ps) (Sc : FnScope N ps (defScope st))
    (hF : Fs[fi]? = some ⟨ps.length, N.length, irs⟩)
    (hb : ∀ (n : Nat) (f : Addr) (cdv : Value) (A : Around) (outer : List PySem.Env) (s : Shared) (H : Hp) (E : XK), Room k (A.deeper (PyProof.Rows.envOfC nm (defScope st) s.heap.objs.size f cdv)) →
      VSs (cxOf CX0 P w K mg base N nm (defScope st) f cdv A outer s H E).nox (run Fs n) (defBody st) irs) : ∀ n, OkDef P w K mg base nm (k + 1) (run Fs n) fi ps.length := by
  intro n
  obtain ⟨f, fd, hm, F, B⟩ := D
  exact ⟨f, fd, ps, hm, F.kp, .all B, fn_okE F Sc hF hb n⟩
theorem defIn_mk {K : PySem.W.Frag} {h : Heap} {mg : Str → Option Value} {nm : Str} {st : Stmt} {ps : List Str} {f : Addr} {oc : Value} {od an : Option Addr} {osl : Array (Option Value)} {kV doc pm cdv ct : Value} (X : K.In h) (G : h.Ns mainGlobals mg)
    (a : PySem.W.nsIn K mainGlobals nm = some (some (.ref f))) (l : K.lookup f = some ⟨oc, od, .func (PySem.W.fnOf nm nm (defArgs st) (defBody st) (defScope st) .none kV doc pm an cdv ct), osl⟩) (c : PySem.W.codeIn K cdv nm = true) (k : PySem.W.keepIn K (.ref f) = true)
    (hb : ∀ (kV doc pm : Value) (an : Option Addr) (cdv ct : Value) (us : List Value), us.length = ps.length → bindArgs (PySem.W.fnOf nm nm (defArgs st) (defBody st) (defScope st) .none kV doc pm an cdv ct) ⟨us, []⟩ = pure (ps.zip us)) : DefIn K mg nm st ps := by
  have F := fun_mk (st := st) l c k
  exact ⟨f, _, PySem.W.mg_of X G a, F, fun us hl => hb kV doc pm an cdv ct us hl⟩
/-- the law's end -/
theorem law_walk {l : PySem.W.OpenLaw} {q : Program} {loose : List Str} {XP : (Str → Option Value) → Heap → Prop} {YP : World → Heap → Prop} {d : DefRec} {K : Params → PySem.W.Frag} {x : Str} {Fs : List Fn} {n k fi : Nat} (hn : l.most = some 63) (hdf : d.params.defaults = [])
    (hr : Room k callerA) (hY : ∀ (w : World) (h : Heap), YP w h → (K w.params).In h) (main : ∀ ns : List Int, ns.length ≤ 63 → ∃ b, run Fs n fi [.lst (ns.map .int)] = .ok (.bl true, b))
    (F : ∀ (w : World) (mg : Str → Option Value) (h : Heap), (K w.params).In h → h.Ns mainGlobals mg →
      ∃ (st : Stmt), DefIn (K w.params) mg d.name st [x] ∧ ∀ (fa : Addr) (fd : FuncData), Fun (K w.params) d.name d.name st fa fd → ∀ base : Heap, (K w.params).In base → base.Ns mainGlobals mg → FnOk l.prog w (K w.params) mg base CX0 k fa fd [x] (spC (K w.params) (run Fs n) fi 1)) :
    PySem.W.WalkO q loose XP YP l.row.toRowW d [] (fun f vs => PySem.call f vs) := by
  refine L2.walk_of (n := 63) (k := k) (x := x) (CX := fun _ => CX0) (sp := fun w => spC (K w.params) (run Fs n) fi 1) hn (by decide) hdf hr hY (fun w mg fa h KX G hmg => ?_) (fun w H a ns hl _ hS => ?_) fun _ _ _ _ _ z => z
  · obtain ⟨st, ⟨f, fd, hm, Fu, B⟩, ok⟩ := F w mg h KX G
    have e := hmg.symm.trans hm
    cases e
    exact ⟨fd, fun s u => .of_eq (B [u] rfl), fun base h1 h2 => ok _ fd Fu base h1 h2⟩
  · obtain ⟨b, hb⟩ := main ns hl
    have hz : (ns.map V.int).length ≤ sizeLine := by rw [List.length_map, sizeLine_eq]; omega
    refine ⟨rfl, [.lst (ns.map .int)], H, .bl true, b, Same.refl _, .cons (.lst hS hz ?_) .nil, hb, fun v G' H' _ o => ?_⟩
    · clear hS hz hb hl
      induction ns with
      | nil => exact .nil
      | cons i r ih => exact .cons (.int i) ih
    · cases b with
      | false => cases o; rfl
      | true => obtain ⟨p, _, _, _, c⟩ := o; exact c.elim
end Fw

namespace Fw
open PySem L2
section
variable {X : Cx} {C : CallT}
theorem ve_strE {x y : Str} {j pos} (e : decide (x = y) = true := by decide +kernel) (h : (decide (y.length ≤ 16777216) && PyData.strOk y) = true := by decide +kernel) : VE X C (.Constant (.str x) j pos) (.k (.str y)) := by
  have e := of_decide_eq_true e
  subst e
  exact ve_str h
theorem ve_gstrE {x y : Str} {pos : Pos} (hm : ∃ t, X.mg x = some (.str y t)) (hg : Gl X x) (h : (decide (y.length ≤ 16777216) && PyData.strOk y) = true := by decide +kernel) (hd : (x == ("__debug__" : Str)) = false := by decide) : VE X C (.Name x pos) (.k (.str y)) := by
  obtain ⟨t, hm⟩ := hm
  exact ve_gstr hg hm ⟨t, rfl⟩ h hd
theorem ve_gintE {x : Str} {i : Int} {pos : Pos} (hm : ∃ t, X.mg x = some (.int i t)) (hg : Gl X x) (hd : (x == ("__debug__" : Str)) = false := by decide) : VE X C (.Name x pos) (.k (.int i)) := by
  obtain ⟨t, hm⟩ := hm
  exact ve_gint hg hm ⟨t, rfl⟩ hd
theorem setLc_core {i : Nat} {p : Pat} {it : It} {iifs : List E} {ielt : E} {own : List Nat} {wi : TI} {n : Nat} (hp : ∀ i ∈ pvars p, i ∈ own) (hn : decide (n ≤ 1) = true) (B : Bs) (ρ : Env) (σ : St) (G H : Hp) (D : Ends) (o : Flow) (S : Sim B X.K ρ σ G H)
    (fi : ∀ (Rr : L2.It → Hp → Prop) (ds : List Fw.D) (b : Bool), evIt C it ρ = .ok (ds, b) → (∀ J G' H', Step G H G' H' → ItOk X.K G' H' ds b J → Rr J H') → wi σ H Rr)
    (he : evS C (.asg (.v i) (.lc own ielt p it iifs) n) ρ = .ok o) (hq : FlowP B X.K G D o) : tLc wi (gCan X.K p) (ttCan X.K C iifs) (tCan X.K C ielt) own σ H (fun v H1 => D.nx (σ.set i (some v)) H1) := by
  rw [evS] at he
  obtain ⟨⟨d, k⟩, hx, he⟩ := R.of_bind he
  have hkd : k = .nw := by
    rw [evE_lc] at hx
    obtain ⟨ds, _, hx⟩ := R.of_bind hx
    obtain ⟨l, _, hx⟩ := R.of_bind hx
    cases hx
    rfl
  subst hkd
  refine lc_prop hp B ρ σ G H _ d .nw S fi hx fun v G1 H1 st o1 => ?_
  have hn := of_decide_eq_true hn
  match n, hn with
  | 0, _ =>
    obtain ⟨_, he⟩ := R.of_guard he
    obtain ⟨ρ', hρ, he⟩ := R.of_bind he
    cases he
    rw [setPat] at hρ
    cases hρ
    obtain ⟨G2, st2, r⟩ := o1.share st rfl
    obtain ⟨fp, S⟩ := S
    exact hq _ G2 H1 st2.g ⟨fp, (S.step st2).set i r⟩
  | 1, _ =>
    obtain ⟨_, he⟩ := R.of_guard he
    cases he
    exact hq _ G1 H1 st.g (S.own1 st o1 i)
/-- y = [..] -/
theorem vs_setLc {i : Nat} {y : Str} {py : Pos} {elt tg iter : Expr} {ifs : List Expr} {scope : Scope} {own : List (Str × Nat)} {pos spos : Pos} {p : Pat} {it : It} {iifs : List E} {ielt : E} {n : Nat} (hc : X.calm = true) (hN : X.N.Nodup)
    (hi : VI X C tg iter it) (ok : BlkOk X.N X.env.scope scope own)
    (hg : ∀ (s : Shared) (H : Hp) (Ca : Addr) (cl : List (Str × Addr)) (fp : List Addr), VG (X.blk s H scope (compEnvC scope cl Ca X.env) fp) p tg) (ht : ∀ (s : Shared) (H : Hp) (Ca : Addr) (cl : List (Str × Addr)) (fp : List Addr), VTs (X.blk s H scope (compEnvC scope cl Ca X.env) fp) C ifs iifs)
    (he : ∀ (s : Shared) (H : Hp) (Ca : Addr) (cl : List (Str × Addr)) (fp : List Addr), VE (X.blk s H scope (compEnvC scope cl Ca X.env) fp) C elt ielt) (hn : decide (n ≤ 1) = true := by rfl) (hp : ∀ i ∈ pvars p, i ∈ own.map (·.2) := by decide)
    (hy : X.N[i]? = some y := by rfl) (hyl : X.env.scope.names.lookup y = some .local := by rfl) (hk : X.env.scope.kind = .function := by rfl) (hl : (py.line == pos.line) = true := by rfl)
    (ha : (scope.names.any fun (n, k) => n == y && (k == .local || k == .cell)) = false := by decide +kernel)
    (hs : ∀ x, foldedSetIterable iter X.env x = pure x := by intro _; rfl) : VS X C (.Assign [.Name y py] (.ListComp elt [⟨tg, iter, ifs, 0⟩] scope pos) spos) (.asg (.v i) (.lc (own.map (·.2)) ielt p it iifs) n) := by
  obtain ⟨wi, pi, fi⟩ := hi
  refine ⟨_, ps_setLc (g := gCan X.K p) (tt := ttCan X.K C iifs) (te := tCan X.K C ielt) hc hN hy hyl (sw_true hk hyl hl ha) pi ok (fun s H Ca cl fp => (hg s H Ca cl fp).can) (fun s H Ca cl fp => (ht s H Ca cl fp).can) (fun s H Ca cl fp => (he s H Ca cl fp).can) hs, fun B ρ σ G H D o S he hq => ?_⟩
  exact setLc_core hp hn B ρ σ G H D o S (fun Rr ds b h1 h2 => fi B ρ σ G H Rr ds b S h1 h2) he hq
/-- a, b = e, f -/
theorem vs_par {i j : Nat} {x y : Str} {a b : Expr} {ia ib : E} {px py pt pos : Pos} {kt k2 pt2} (hc : X.calm = true) (hN : X.N.Nodup) (h : VA X C [a, b] [ia, ib]) (hi : X.N[i]? = some x := by rfl) (hj : X.N[j]? = some y := by rfl) (hij : i ≠ j := by decide)
    (hx : X.env.scope.names.lookup x = some .local := by rfl) (hy : X.env.scope.names.lookup y = some .local := by rfl) (hw : swappedStores [.Tuple [.Name x px, .Name y py] kt pt] (.Tuple [a, b] k2 pt2) X.env = pure (some [x, y]) := by rfl)
    (hs : swapsWithSole [.Tuple [.Name x px, .Name y py] kt pt] (.Tuple [a, b] k2 pt2) pos.line X.env = pure false := by rfl) : VS X C (.Assign [.Tuple [.Name x px, .Name y py] kt pt] (.Tuple [a, b] k2 pt2) pos) (.asg (.t [.v i, .v j]) (.tup [ia, ib]) 0) := by
  obtain ⟨t, p, f⟩ := h
  refine ⟨_, ps_par hc hN hi hj hij hx hy p hw hs, fun B ρ σ G H D o S he hq => ?_⟩
  rw [evS, evE] at he
  obtain ⟨x, hx, he⟩ := R.of_bind he
  obtain ⟨ds, hds, hx⟩ := R.of_bind hx
  obtain ⟨hk, hx⟩ := R.of_guard hx
  cases hx
  obtain ⟨_, he⟩ := R.of_guard he
  obtain ⟨ρ', hρ, he⟩ := R.of_bind he
  cases he
  have hl := evEs_length hds
  refine f B ρ σ G H _ ds S hds fun vs G1 H1 st o => ?_
  have r := o.reps hk
  match ds, hl, r, hρ with
  | [d, e], _, r, hρ =>
    cases r with
    | cons r1 r =>
    cases r with
    | cons r2 r =>
    cases r
    simp only [List.map_cons, List.map_nil] at hρ
    rw [setPat, setPats, setPat, R.bind_ok, setPats, setPat, R.bind_ok, setPats] at hρ
    cases hρ
    obtain ⟨fp, S⟩ := S
    exact ⟨_, _, rfl, hq _ G1 H1 st.g ⟨fp, ((S.step st).set i r1).set j r2⟩⟩
theorem mem_joinL {S : List Nat} {c : Nat} : ∀ {ps : List (List Nat)}, c ∈ TL.joinL S ps → c ∈ S ∨ ∃ p ∈ ps, c ∈ p
  | [], h => by simp [TL.joinL] at h
  | [p], h => by
    rw [TL.joinL] at h
    exact .inr ⟨p, List.mem_singleton_self _, h⟩
  | p :: q :: r, h => by
    rw [TL.joinL, List.mem_append, List.mem_append] at h
    rcases h with h | h | h
    · exact .inr ⟨p, List.mem_cons_self, h⟩
    · exact .inl h
    · rcases mem_joinL h with h | ⟨w, hw, h⟩
      · exact .inl h
      · exact .inr ⟨w, List.mem_cons_of_mem _ hw, h⟩
theorem strOk_join {s : Str} {l : List Str} (hs : StrOk s) (hl : ∀ x ∈ l, StrOk x) (hc : (l.map (·.length)).sum + l.length * s.length ≤ line) : StrOk (Txt.join s l) := by
  rw [TL.join_eq]
  rw [strOk_iff]
  refine ⟨?_, fun c hcc => ?_⟩
  · have := StrLaws.join_length_le s l
    rw [Array.length_toList]
    show (Str.join s l).length ≤ _
    rw [← line_eq]
    omega
  · have e := TL.tl_join s l
    unfold TL.tl at e
    rw [e] at hcc
    rcases mem_joinL hcc with h | ⟨p, hp, h⟩
    · exact ((strOk_iff s).mp hs).2 c h
    · obtain ⟨x, hx, rfl⟩ := List.mem_map.mp hp
      exact ((strOk_iff x).mp (hl x hx)).2 c h
/-- sep.join(xs) -/
theorem ve_join {s e : Expr} {is ie : E} {call : Expr} (pm : ∀ t t', PE X s t → PE X e t' → PE X call (tM1 (fun x xs H Q => ∃ a p, ∃ ys : List Str, x = .str a ∧ xs = [.ref p] ∧ (SqL X.K H p (ys.map V.str) ∨ SqT X.K H p (ys.map V.str)) ∧ (ys.map (·.length)).sum + ys.length * a.length ≤ 16777216 ∧ Q (.str (Txt.join a ys)) H) t t'))
    (h : VE X C s is) (h2 : VE X C e ie) : VE X C call (.bi .join [is, ie]) := by
  obtain ⟨t, p, f⟩ := h
  obtain ⟨t2, p2, f2⟩ := h2
  refine ⟨_, pm _ _ p p2, fun B ρ σ G H Q d k S he hq => ?_⟩
  rw [evE, evEs, evEs, evEs] at he
  obtain ⟨ds, hds, he⟩ := R.of_bind he
  obtain ⟨⟨x, kx⟩, hx, hds⟩ := R.of_bind hds
  obtain ⟨l, hl, hds⟩ := R.of_bind hds
  obtain ⟨⟨y, ky⟩, hy, hl⟩ := R.of_bind hl
  cases hl
  cases hds
  replace he : joinD [x, y] = .ok (d, k) := he
  unfold joinD at he
  split at he <;> (first | (cases he; done) | skip)
  rename_i e0
  cases e0
  obtain ⟨xs, hxs, he⟩ := R.of_bind he
  obtain ⟨ys, hys, he⟩ := R.of_bind he
  obtain ⟨hc, he⟩ := R.of_guard he
  rw [decide_eq_true_eq] at hc
  cases he
  refine f B ρ σ G H _ _ kx S hx fun v G1 H1 st o1 => ?_
  obtain ⟨rfl, oo⟩ := o1.rc st.sub
  refine ⟨⟨_, rfl⟩, f2 B ρ σ G1 H1 _ y ky (S.step st) hy fun u G2 H2 st2 o2 => ?_⟩
  obtain ⟨p, ws, rfl, w1, w2, w3⟩ := seq_of st2.sub (o2.rc st2.sub) hxs
  obtain ⟨e1, ok⟩ := strs_of w3 hys
  subst e1
  exact ⟨_, p, ys, rfl, rfl, w1, hc, hq _ G2 H2 (st.trans st2) (.str _ (strOk_join oo ok hc))⟩
end
end Fw

namespace Fw
open PySem L2
section
variable {X : Cx} {C : CallT}
def VD (X : Cx) (C : CallT) (pos : Pos) (keys : List (Option Expr)) (values : List Expr) (ks : List Key) (irs : List E) : Prop := ks.length = irs.length ∧ ∃ trs : List (TE × TE), PPs X pos keys values trs ∧ ∀ (B : Bs) (ρ : Env) (σ : St) (G H : Hp) (Q : List (V × V) → Hp → Prop) (ds : List (D × Kd)),
  Sim B X.K ρ σ G H → evEs C irs ρ = .ok ds → (∀ vs G' H', Step G H G' H' → Outs B X.K H G' H' vs ds → Q ((ks.zip vs).map fun kv => (kV kv.1, kv.2)) H') → tPairs trs σ H Q
theorem vd_nil {pos : Pos} : VD X C pos [] [] [] [] := by
  refine ⟨rfl, [], pps_nil, fun B ρ σ G H Q ds S he hq => ?_⟩
  rw [evEs] at he
  cases he
  exact hq [] G H (Step.refl S.sub) .nil
theorem vd_step {pos : Pos} {ke v : Expr} {keys : List (Option Expr)} {values : List Expr} {k : Key} {ks : List Key} {ir : E} {irs : List E} (hk : PE X ke (tC (kV k))) (h : VE X C v ir) (r : VD X C pos keys values ks irs) : VD X C pos (some ke :: keys) (v :: values) (k :: ks) (ir :: irs) := by
  obtain ⟨t, p, f⟩ := h
  obtain ⟨hl, trs, pr, fr⟩ := r
  refine ⟨by rw [List.length_cons, List.length_cons, hl], _, pps_cons hk p pr, fun B ρ σ G H Q ds S he hq => ?_⟩
  rw [evEs] at he
  obtain ⟨⟨x, kx⟩, hx, he⟩ := R.of_bind he
  obtain ⟨l, hl, he⟩ := R.of_bind he
  cases he
  refine f B ρ σ G H _ x kx S hx fun w G0 H1 st0 o0 => ?_
  obtain ⟨G1, st, o⟩ := o0.shareK st0
  refine fr B ρ σ G1 H1 _ l (S.step st) hl fun vs G2 H2 st2 a => ?_
  exact hq (w :: vs) G2 H2 (st.trans st2) (.cons (o.step st2) (a.back st.h))
theorem vd_cons {pos : Pos} {x : Str} {y : Str} {j p} {v : Expr} {keys : List (Option Expr)} {values : List Expr} {ks : List Key} {ir : E} {irs : List E} (h : VE X C v ir) (r : VD X C pos keys values ks irs) (e : decide (x = y) = true := by decide +kernel) :
    VD X C pos (some (.Constant (.str x) j p) :: keys) (v :: values) (.inr y :: ks) (ir :: irs) := by
  have e := of_decide_eq_true e
  subst e
  exact vd_step (k := .inr x) pe_str h r
theorem vd_consI {pos : Pos} {x : Int} {j p} {v : Expr} {keys : List (Option Expr)} {values : List Expr} {ks : List Key} {ir : E} {irs : List E} (h : VE X C v ir) (r : VD X C pos keys values ks irs) :
    VD X C pos (some (.Constant (.int x) j p) :: keys) (v :: values) (.inl x :: ks) (ir :: irs) := vd_step (k := .inl x) pe_int h r
theorem RepK.merge {K : PySem.W.Frag} {G : Hp} : ∀ {more : List (Key × V)} {mored : List (Key × D)} {kvs : List (Key × V)} {ds : List (Key × D)}, RepK K G kvs ds → RepK K G more mored → RepK K G (mergeK kvs more) (mergeD ds mored)
  | _, _, _, _, h, .nil => h
  | _, _, kvs, ds, h, .cons (k := k) (v := v) (d := d) r t => by
    show RepK K G (mergeK (putK kvs k v) _) (mergeD (putD ds k d) _)
    exact RepK.merge (h.put r) t
theorem repK_zip {K : PySem.W.Frag} {G : Hp} : ∀ {ks : List Key} {vs : List V} {ds : List D}, Reps K G vs ds → RepK K G (ks.zip vs) (ks.zip ds)
  | [], _, _, _ => by simp only [List.zip_nil_left]; exact .nil
  | _ :: _, _, _, .nil => by simp only [List.zip_nil_right]; exact .nil
  | k :: ks, _, _, .cons r t => .cons r (repK_zip t)
theorem mergeK_len : ∀ (more kvs : List (Key × V)), (mergeK kvs more).length ≤ kvs.length + more.length
  | [], kvs => Nat.le_refl _
  | (k, v) :: more, kvs => by
    show (mergeK (putK kvs k v) more).length ≤ _
    have h1 := mergeK_len more (putK kvs k v)
    have h2 := putK_len kvs k v
    rw [List.length_cons]
    omega
theorem ve_disp {pos : Pos} {keys : List (Option Expr)} {values : List Expr} {ks : List Key} {irs : List E} (h : VD X C pos keys values ks irs) (hall : keys.all (·.isSome) = true := by rfl) (hl : keys.length = values.length := by rfl) (h0 : keys ≠ [] := by exact fun z => by cases z) (h15 : keys.length ≤ 15 := by decide) :
    VE X C (.Dict keys values pos) (.disp ks irs) := by
  obtain ⟨hks, trs, pr, f⟩ := h
  refine ⟨_, pe_disp pr hall hl h0 h15, fun B ρ σ G H Q d k S he hq => fun p hp => ?_⟩
  rw [evE] at he
  obtain ⟨ds, hds, he⟩ := R.of_bind he
  obtain ⟨hc, he⟩ := R.of_guard he
  simp only [Bool.and_eq_true, decide_eq_true_eq] at hc
  cases he
  have s0 : Step G H G (L2.upd H p (.dK [])) := Step.newH S.sub hp
  refine f B ρ σ G _ _ ds (S.step s0) hds fun vs G1 H1 st o => ?_
  have h1 : H1 p = some (.dK []) := st.h _ _ upd_same
  have g1 : G1 p = none := st.none (S.sub.free hp) ⟨_, upd_same, fun _ z => nomatch z⟩
  have r := o.reps hc.1.1
  have lv : vs.length = ks.length := by rw [o.length, hc.1.2]
  refine ⟨h1, ks.zip vs, rfl, by rw [List.length_zip, lv]; omega, ?_⟩
  have tot := s0.trans st
  have s2 : Step G H G1 (L2.upd H1 p (.dK (mergeK [] (ks.zip vs)))) := by
    refine ⟨tot.g, fun b u e => ?_, fun b u e => ?_, tot.new⟩
    · rw [upd_ne (fun z => by subst z; rw [hp] at e; cases e)]; exact tot.h _ _ e
    · rw [upd_ne (fun z => by subst z; rw [g1] at e; cases e)]; exact tot.sub _ _ e
  refine hq (.ref p) G1 _ s2 ⟨p, rfl, hp, g1, _, upd_same, ?_, RepK.merge .nil (repK_zip r)⟩
  have := mergeK_len (ks.zip vs) []
  rw [List.length_zip, lv] at this
  have h15' := hc.2
  rw [sizeLine_eq]
  simp at this
  omega
end
end Fw

namespace Fw
open PySem L2 PySem.W
section
variable {X : Cx} {C : CallT}
/-! ### sorted -/
/-- the items and what they read as -/
inductive Dps (K : PySem.W.Frag) (H : Hp) : List V → List PyData → Prop
  | nil : Dps K H [] []
  | cons {v : V} {vs : List V} {d : PyData} {ds : List PyData} : Dp K H v d → Dps K H vs ds → Dps K H (v :: vs) (d :: ds)
theorem Dps.length {K : PySem.W.Frag} {H : Hp} : ∀ {vs : List V} {ds : List PyData}, Dps K H vs ds → vs.length = ds.length
  | _, _, .nil => rfl
  | _, _, .cons _ r => by rw [List.length_cons, List.length_cons, r.length]
def leP (x y : V × PyData) : Bool := dataLe false (fun b : V × PyData => b.2) x y
def sortVs (vs : List V) (ds : List PyData) : List V := ((vs.zip ds).mergeSort leP).map (·.1)
def rSortA (K : PySem.W.Frag) : List V → Hp → VK → Prop := fun xs H Q => ∃ (a : Addr) (vs : List V) (ds : List PyData), xs = [.ref a] ∧ (SqL K H a vs ∨ SqT K H a vs) ∧ Dps K H vs ds ∧ AllAlike ds ∧ Sortable ds ∧ (∀ d ∈ ds, d.depth ≤ 64) ∧
  ∀ p : Addr, H p = none → Q (.ref p) (upd H p (.lst (sortVs vs ds)))
theorem dps_each {pins : List (Addr × Obj)} {σ : St} {H : Hp} {s : Shared} (I : Inv X pins σ H s) : ∀ {vs : List V} {ds : List PyData} {its : List Value}, Dps X.K H vs ds → Vals vs its →
    EachIs (fun v (b : V × PyData) => RelV b.1 v) its (vs.zip ds) ∧ EachIs (fun v (b : V × PyData) => ∃ as, Reads s.heap v b.2 as) its (vs.zip ds)
  | _, _, _, .nil, r => by cases r; exact ⟨.nil, .nil⟩
  | _, _, _, .cons h t, r => by
    cases r with
    | cons r1 r2 =>
      obtain ⟨a, b⟩ := dps_each I t r2
      exact ⟨.cons r1 a, .cons (Dp.reads I _ _ _ h r1) b⟩
theorem vals_each : ∀ {its : List Value} {bs : List (V × PyData)}, EachIs (fun v (b : V × PyData) => RelV b.1 v) its bs → Vals (bs.map (·.1)) its
  | _, _, .nil => .nil
  | _, _, .cons h t => .cons h (vals_each t)
open PyProof.Rows PySem.Calls in
/-- a list's, a tuple's items, gathered in a new list -/
theorem gather {P : Program} {w : World} {A : Around} {E : Value → Shared → Prop} {s : Shared} {l : Addr} {T : String} {o : Obj} {xs : Array Value} {n : Nat} {Q : List Value → Shared → Prop} (hT : T = "list" ∨ T = "tuple") (ho : s.heap.get? l = some o) (hc : o.cls = .type T) (hd : o.data = .seq xs n) (hz : xs.size ≤ sizeLine)
    (hq : Q xs.toList { s with heap := (s.heap.push (seqObj "list" #[] 0)).update s.heap.objs.size (Obj.mapSeq (· ++ xs)) }) : wpAny (model P w) A (collect (.ref l)) Q E s := by
  have g1 : (s.heap.push (seqObj "list" #[] 0)).get? s.heap.objs.size = some (seqObj "list" #[] 0) := Heap.get?_push_size _ rfl
  have g2 := Heap.get?_update_self (Obj.mapSeq (· ++ xs)) g1 rfl
  have last : wpAny (model P w) A (load s.heap.objs.size >>= fun o => match o.data with | .seq xs _ => pure xs.toList | _ => unsupported "internal:collect") Q E
      { s with heap := (s.heap.push (seqObj "list" #[] 0)).update s.heap.objs.size (Obj.mapSeq (· ++ xs)) } := by
    refine wpAny_bind (wpAny_load g2 (wpAny_pure ?_)); show Q ((#[] : Array Value) ++ xs).toList _
    rw [Array.toList_append, List.nil_append]; exact hq
  unfold collect
  refine wpAny_bind (wpAny_runValue (codeAny_builtin F.entry_proto_collect ?_)); rw [Around.under_plainId F.plain_proto_collect _]
  refine wpAny_bind (s := s) (wpAny_newList (items := []) ?_ (Nat.zero_le _)); refine wpAny_pure ⟨plainId_quiet F.plain_list_iadd _, codeAny_builtin F.entry_list_iadd ?_⟩
  rw [Around.under_plainId F.plain_list_iadd _]
  have step := wpAny_extend_seq (prog := P) (w := w) (hsz := hz) (A := A) (R := fun r s' => r = .ok (.ret (.ref s.heap.objs.size)) ∧ s' = { s with heap := (s.heap.push (seqObj "list" #[] 0)).update s.heap.objs.size (Obj.mapSeq (· ++ xs)) }) (s := { s with heap := s.heap.push (seqObj "list" #[] 0) }) _ l _ 0 hT g1 (Heap.get?_push_of_some _ ho) hc hd ⟨rfl, rfl⟩
  refine wpAny_mono step (fun fin s' h => ?_) (fun e s' h => absurd h.1 (by simp))
  cases fin with
  | done f => obtain ⟨e, rfl⟩ := h; cases e; exact last
  | again c' => exact ⟨h.1, codeAny_mono h.2 fun r s'' hr => by obtain ⟨rfl, rfl⟩ := hr; exact last⟩
open PyProof.Rows PySem.Calls in
theorem sorted_seq {P : Program} {w : World} {A : Around} {E : Value → Shared → Prop} {s : Shared} {β : Type} {enc : β → PyData} {R : Value → β → Prop} {vs : List Value} {bs : List β} {l : Addr} {T : String} {o : Obj} {n : Nat} {Q : Value → Shared → Prop} (hT : T = "list" ∨ T = "tuple")
    (ho : s.heap.get? l = some o) (hc : o.cls = .type T) (hd : o.data = .seq vs.toArray n) (e : EachIs R vs bs) (er : EachIs (fun v b => ∃ as, Reads s.heap v (enc b) as) vs bs) (hal : AllAlike (bs.map enc)) (hk : Sortable (bs.map enc)) (hL : bs.length ≤ sizeLine)
    (hu : ∀ b, b ∈ bs → A.units + 2 + (enc b).depth < cLine) (hrd : ∀ h' : Heap, (∀ b o', s.heap.get? b = some o' → h'.get? b = some o') → ∀ a : Addr, s.heap.objs.size ≤ a → EachIs (fun v b => ∃ as, Reads h' v (enc b) as ∧ a ∉ as) vs bs)
    (h : ∀ (out : List Value) (h' : Heap) (p : Addr) (c : Nat), s.heap.objs.size ≤ p → (∀ b o', s.heap.get? b = some o' → h'.get? b = some o') → h'.get? p = some (seqObj "list" out.toArray c) → out.length = bs.length → EachIs R out (bs.mergeSort (dataLe false enc)) → Q (.ref p) { s with heap := h' }) :
    wpAny (model P w) A (call (.builtin "sorted") [.ref l]) Q E s := by
  have hlen : vs.length ≤ sizeLine := by rw [e.length]; exact hL
  refine call_function_entry_kw kind_sorted plain_sorted entry_sorted (args_sorted1 _) ?_
  unfold Builtin.«sorted»
  refine wpAny_bind (m := checkCount "sorted" 1 1 _) (wpAny_pure ?_)
  refine wpAny_bind (gather hT ho hc hd (by simpa using hlen) ?_)
  obtain ⟨h', eh⟩ : ∃ h', h' = (s.heap.push (seqObj "list" #[] 0)).update s.heap.objs.size (Obj.mapSeq (· ++ vs.toArray)) := ⟨_, rfl⟩
  have hsz : s.heap.objs.size ≤ h'.objs.size := by rw [eh, Heap.size_update, size_push']; omega
  have kp : ∀ b o', s.heap.get? b = some o' → h'.get? b = some o' := fun b o' q => by
    have q2 : b < s.heap.objs.size := Heap.lt_size q
    rw [eh, Heap.get?_update_ne _ _ _ _ (Nat.ne_of_lt q2)]
    exact Heap.get?_push_of_some _ q
  rw [← eh]
  refine wpAny_bind (wpAny_newList ?_ hlen)
  have ha : (h'.push (seqObj "list" vs.toArray 0)).get? h'.objs.size = some (seqObj "list" vs.toArray 0) := Heap.get?_push_size _ rfl
  have kp2 : ∀ b o', s.heap.get? b = some o' → (h'.push (seqObj "list" vs.toArray 0)).get? b = some o' := fun b o' q => Heap.get?_push_of_some _ (kp b o' q)
  refine wpAny_bind (wpAny_holding ?_)
  refine list_sort_data (s := { s with heap := h'.push (seqObj "list" vs.toArray 0) }) ha e (hrd _ kp2 _ hsz) hal hk hL (fun b hb => ?_) fun out ho2 eo => ?_
  · have := hu b hb
    show A.in1.units + 1 + _ < _
    have e1 : A.in1.units ≤ A.units + 1 := by first | exact Nat.le_refl _ | simp [Around.in1] | (unfold Around.in1; simp)
    omega
  · obtain ⟨c, hc2⟩ := sortedHeap_at (out := out.toArray) ha
    refine wpAny_pure ⟨_, rfl, h out _ _ c hsz (fun b o' q => ?_) hc2 ho2 eo⟩
    rw [sortedHeap_old (Nat.ne_of_lt (Nat.lt_of_lt_of_le (Heap.lt_size q) hsz)) (Heap.lt_size (kp2 b o' q))]
    exact kp2 b o' q
theorem dps_keep {pins : List (Addr × Obj)} {σ : St} {H : Hp} {s : Shared} (I : Inv X pins σ H s) {h' : Heap} (k : ∀ b o', s.heap.get? b = some o' → h'.get? b = some o') {a : Addr} (ha : s.heap.objs.size ≤ a) : ∀ {vs : List V} {ds : List PyData} {its : List Value}, Dps X.K H vs ds → Vals vs its →
    EachIs (fun v (b : V × PyData) => ∃ as, Reads h' v b.2 as ∧ a ∉ as) its (vs.zip ds)
  | _, _, _, .nil, r => by cases r; exact .nil
  | _, _, _, .cons h t, r => by
    cases r with
    | cons r1 r2 =>
      obtain ⟨as, q⟩ := Dp.reads I _ _ _ h r1
      exact .cons ⟨as, PyProof.Rows.Reads.keeps k q, fun m => by
        obtain ⟨o, ho⟩ := PyProof.On.reads_mem_get q a m
        exact absurd (Heap.lt_size ho) (Nat.not_lt.mpr ha)⟩ (dps_keep I k ha t r2)
theorem cr_sortA (hu : X.A.units + 66 < cLine) : CallR X (.builtin "sorted") (rSortA X.K) := by
  intro pins s σ H vs us Q I r h
  obtain ⟨a, ws, ds, rfl, hs, hd, hal, hso, hdp, q⟩ := h
  rw [Vals.ref1 r]
  have hlen := hd.length
  have hsn : (ws.zip ds).map (fun b : V × PyData => b.2) = ds := List.map_snd_zip (by omega)
  obtain ⟨T, o, n, its, hT, ho, hc, hdt, rv, hz⟩ : ∃ T o n, ∃ its : List Value, (T = "list" ∨ T = "tuple") ∧ s.heap.get? a = some o ∧ o.cls = .type T ∧ o.data = .seq its.toArray n ∧ Vals ws its ∧ ws.length ≤ sizeLine := by
    rcases hs with hs | hs
    · obtain ⟨its, rv, hl, hz⟩ := I.list hs
      obtain ⟨o, ho, hc, n, hd⟩ := hl.isList
      exact ⟨_, o, n, its, .inl rfl, ho, hc, hd, rv, hz⟩
    · obtain ⟨its, rv, hl, hz⟩ := I.tuple hs
      obtain ⟨o, ho, hc, n, hd⟩ := hl
      exact ⟨_, o, n, its, .inr rfl, ho, hc, hd, rv, hz⟩
  obtain ⟨e1, e2⟩ := dps_each I hd rv
  refine sorted_seq (enc := fun b : V × PyData => b.2) hT ho hc hdt e1 e2 (by rw [hsn]; exact hal) (by rw [hsn]; exact hso) (by rw [List.length_zip, ← hlen, Nat.min_self]; exact hz) (fun b hb => ?_) (fun h' k p hp => dps_keep I k hp hd rv) fun out h' p c hp k he' ho eo => ?_
  · have := hdp b.2 (by rw [← hsn]; exact List.mem_map.mpr ⟨b, hb, rfl⟩)
    omega
  · have hlen2 : (sortVs ws ds).length ≤ sizeLine := by
      unfold sortVs
      rw [List.length_map, List.length_mergeSort, List.length_zip, ← hlen, Nat.min_self]
      exact hz
    exact ⟨.ref _, upd H p (.lst (sortVs ws ds)), I.laid (t' := s.toks) k hp ⟨hlen2, out, c, vals_each eo, he'⟩, rfl, q _ (I.hok.fresh hp)⟩
theorem allAlike_of {xs : List D} (h : allAlike xs = true) : AllAlike (toPys xs) := by
  rw [toPys_map]
  unfold allAlike at h
  intro d hd d' hd'
  obtain ⟨x, hx, rfl⟩ := List.mem_map.mp hd
  obtain ⟨y, hy, rfl⟩ := List.mem_map.mp hd'
  exact (List.all_eq_true.mp ((List.all_eq_true.mp h) x hx)) y hy
theorem sortable_of {xs : List D} (h : sortableD xs = true) : Sortable (toPys xs) := by
  rw [toPys_map]
  unfold sortableD at h
  rw [Bool.or_eq_true] at h
  rcases h with h | h
  · refine .inl fun d hd => ?_
    obtain ⟨x, hx, rfl⟩ := List.mem_map.mp hd
    have q := (List.all_eq_true.mp h) x hx
    cases x <;> (first | (cases q; done) | skip)
    rename_i l
    cases l with
    | nil => cases q
    | cons y r => exact ⟨_, _, rfl⟩
  · refine .inr fun d hd => ?_
    obtain ⟨x, hx, rfl⟩ := List.mem_map.mp hd
    have q := (List.all_eq_true.mp h) x hx
    cases x <;> (first | (cases q; done) | skip) <;> exact ⟨fun e => by simp [toPy] at e, fun l e => by simp [toPy] at e⟩
theorem reps_dps {K : PySem.W.Frag} {G H : Hp} (s : Same G H) : ∀ {vs : List V} {ds : List D}, Reps K G vs ds → ds.all shp = true → Dps K H vs (toPys ds)
  | _, _, .nil, _ => .nil
  | _, _, .cons r t, h => by
    rw [List.all_cons, Bool.and_eq_true] at h
    exact .cons ((Rep.mono s r).dp h.1) (reps_dps s t h.2)
/-- the sorted items, beside the sorted data -/
theorem reps_zip {K : PySem.W.Frag} {G : Hp} : ∀ {vs : List V} {ds : List D}, Reps K G vs ds → ∀ p ∈ vs.zip ds, Rep K G p.1 p.2
  | _, _, .nil, p, h => by simp at h
  | _, _, .cons r t, p, h => by
    rw [List.zip_cons_cons] at h
    rcases List.mem_cons.mp h with e | h
    · subst e; exact r
    · exact reps_zip t p h
theorem reps_of_pairs {K : PySem.W.Frag} {G : Hp} : ∀ {ps : List (V × D)}, (∀ p ∈ ps, Rep K G p.1 p.2) → Reps K G (ps.map (·.1)) (ps.map (·.2))
  | [], _ => .nil
  | p :: r, h => .cons (h p List.mem_cons_self) (reps_of_pairs fun q hq => h q (List.mem_cons_of_mem _ hq))
theorem sort_reps {K : PySem.W.Frag} {G : Hp} {vs : List V} {ds : List D} (r : Reps K G vs ds) : Reps K G (sortVs vs (toPys ds)) (ds.mergeSort (dataLe false toPy)) := by
  have hl := r.length
  have e1 : vs.zip (toPys ds) = (vs.zip ds).map fun p => (p.1, toPy p.2) := by
    rw [toPys_map, List.zip_map_right]
    rfl
  have e2 : (vs.zip (toPys ds)).mergeSort leP = ((vs.zip ds).mergeSort fun p q => dataLe false (fun b : V × D => toPy b.2) p q).map fun p => (p.1, toPy p.2) := by
    rw [e1]
    symm
    exact List.map_mergeSort fun a _ b _ => rfl
  have e3 : sortVs vs (toPys ds) = ((vs.zip ds).mergeSort fun p q => dataLe false (fun b : V × D => toPy b.2) p q).map (·.1) := by
    unfold sortVs
    rw [e2, List.map_map]
    rfl
  have e4 : ds.mergeSort (dataLe false toPy) = ((vs.zip ds).mergeSort fun p q => dataLe false (fun b : V × D => toPy b.2) p q).map (·.2) := by
    have : (vs.zip ds).map (·.2) = ds := List.map_snd_zip (by omega)
    conv => lhs; rw [← this]
    symm
    exact List.map_mergeSort fun a _ b _ => rfl
  rw [e3, e4]
  exact reps_of_pairs fun p hp => reps_zip r p (List.mem_mergeSort.mp hp)
theorem depth_shp {K : PySem.W.Frag} {G : Hp} : ∀ {vs : List V} {ds : List D}, Reps K G vs ds → ds.all shp = true → ∀ d ∈ toPys ds, d.depth ≤ 64
  | _, _, .nil, _, d, hd => by simp [toPys] at hd
  | _, _, .cons (d := x) r t, h, d, hd => by
    rw [List.all_cons, Bool.and_eq_true] at h
    rw [toPys] at hd
    rcases List.mem_cons.mp hd with e | hd
    · subst e; exact SeqAt.depth_of_shaped (r.shaped h.1)
    · exact depth_shp t h.2 d hd
theorem cb_sorted : CBR X (biD .sorted) (rSortA X.K) := by
  intro B G H vs ds d k Q s rc he hq
  replace he : sortedD ds = .ok (d, k) := he
  unfold sortedD at he
  split at he <;> (first | (cases he; done) | skip)
  rename_i d0
  obtain ⟨xs, hx, he⟩ := R.of_bind he
  unfold sortD at he
  obtain ⟨hc, he⟩ := R.of_guard he
  simp only [Bool.and_eq_true] at hc
  cases he
  obtain ⟨v, rfl, r⟩ := rc1 rc
  obtain ⟨a, ws, rfl, h1, h2, h3⟩ := seq_of s r hx
  refine ⟨a, ws, _, rfl, h1, reps_dps s h3 hc.2, allAlike_of hc.1.1, sortable_of hc.1.2, depth_shp h3 hc.2, out_new s ?_ (sort_reps h3) hq⟩
  unfold sortVs
  rw [List.length_map, List.length_mergeSort, List.length_zip]
  exact Nat.le_trans (Nat.min_le_left _ _) h2
end
end Fw

namespace Fw
open PySem L2 PySem.W
section
variable {X : Cx} {C : CallT}
/-! ### the least, the greatest -/
def rBestA (K : PySem.W.Frag) (f : PyData → List PyData → PyData) : List V → Hp → VK → Prop := fun xs H Q => ∃ (a : Addr) (vs : List V) (x : PyData) (r : List PyData), xs = [.ref a] ∧ (SqL K H a vs ∨ SqT K H a vs) ∧ Dps K H vs (x :: r) ∧ AlikeAll (x :: r) ∧ (∀ d ∈ x :: r, d.depth ≤ 64) ∧
  ∀ (i : Nat) (v : V) (d : PyData), vs[i]? = some v → (x :: r)[i]? = some d → d = f x r → Q v H
theorem dps_reads {pins : List (Addr × Obj)} {σ : St} {H : Hp} {s : Shared} (I : Inv X pins σ H s) : ∀ {vs : List V} {ds : List PyData} {its : List Value}, Dps X.K H vs ds → Vals vs its → ∃ as, ReadsAll s.heap its ds as
  | _, _, _, .nil, r => by cases r; exact ⟨[], .nil⟩
  | _, _, _, .cons h t, r => by
    cases r with
    | cons r1 r2 =>
      obtain ⟨as, q⟩ := Dp.reads I _ _ _ h r1
      obtain ⟨bs, q2⟩ := dps_reads I t r2
      exact ⟨as ++ bs, .cons q q2⟩
theorem depthAll_le : ∀ {ds : List PyData}, (∀ d ∈ ds, d.depth ≤ 64) → PyData.depthAll ds ≤ 64
  | [], _ => by simp [PyData.depthAll]
  | d :: r, h => by
    rw [PyData.depthAll]
    exact Nat.max_le.mpr ⟨h d List.mem_cons_self, depthAll_le fun x hx => h x (List.mem_cons_of_mem _ hx)⟩
theorem vals_at : ∀ {vs : List V} {its : List Value}, Vals vs its → ∀ {i : Nat} {v : Value}, its[i]? = some v → ∃ x, vs[i]? = some x ∧ RelV x v
  | _, _, .nil, i, v, h => by simp at h
  | _, _, .cons r t, 0, v, h => by cases h; exact ⟨_, rfl, r⟩
  | _, _, .cons r t, i + 1, v, h => vals_at t h
theorem reads_at {h : Heap} : ∀ {vs : List Value} {ds : List PyData} {as : List Addr}, ReadsAll h vs ds as → ∀ {i : Nat} {v : Value}, vs[i]? = some v → ∃ d bs, ds[i]? = some d ∧ Reads h v d bs
  | _, _, _, .nil, i, v, h => by simp at h
  | _, _, _, .cons r t, 0, v, h => by cases h; exact ⟨_, _, rfl, r⟩
  | _, _, _, .cons r t, i + 1, v, h => reads_at t h
theorem fold_mem {α : Type} (f : α → α → Bool) : ∀ (x : α) (xs : List α), xs.foldl (fun a y => if f a y = true then y else a) x ∈ x :: xs
  | x, [] => List.mem_cons_self
  | x, y :: r => by
    rw [List.foldl_cons]
    have := fold_mem f (if f x y = true then y else x) r
    rcases List.mem_cons.mp this with e | m
    · rw [e]
      split
      · exact List.mem_cons_of_mem _ List.mem_cons_self
      · exact List.mem_cons_self
    · exact List.mem_cons_of_mem _ (List.mem_cons_of_mem _ m)
theorem best_of {f : PyData → List PyData → PyData} (hm : ∀ x r, f x r ∈ x :: r) {nm : String}
    (hl : ∀ {A : Around} {E : Value → Shared → Prop} {s : Shared} {l : Addr} {vs : Array Value} {x : PyData} {xs : List PyData} {as : List Addr} {Q : Value → Shared → Prop}, A.handled = none → s.heap.IsList l vs → ReadsAll s.heap vs.toList (x :: xs) as → AlikeAll (x :: xs) → A.units + 1 + PyData.depthAll (x :: xs) < cLine →
      (∀ (i : Nat) v h' tk bs, vs[i]? = some v → Reads h' v (f x xs) bs → (∀ b o, s.heap.get? b = some o → h'.get? b = some o) → Q v { s with heap := h', toks := tk }) → wpAny (model X.prog X.w) A (call (.builtin nm) [.ref l]) Q E s)
    (ht : ∀ {A : Around} {E : Value → Shared → Prop} {s : Shared} {l : Addr} {vs : Array Value} {x : PyData} {xs : List PyData} {as : List Addr} {Q : Value → Shared → Prop}, A.handled = none → s.heap.IsTuple l vs → ReadsAll s.heap vs.toList (x :: xs) as → AlikeAll (x :: xs) → A.units + 1 + PyData.depthAll (x :: xs) < cLine →
      (∀ (i : Nat) v h' tk bs, vs[i]? = some v → Reads h' v (f x xs) bs → (∀ b o, s.heap.get? b = some o → h'.get? b = some o) → Q v { s with heap := h', toks := tk }) → wpAny (model X.prog X.w) A (call (.builtin nm) [.ref l]) Q E s)
    (hc : X.calm = true) (hu : X.A.units + 66 < cLine) : CallR X (.builtin nm) (rBestA X.K f) := by
  intro pins s σ H vs us Q I r h
  obtain ⟨a, ws, x, xs, rfl, hs, hd, hal, hdp, q⟩ := h
  rw [Vals.ref1 r]
  have du : X.A.units + 1 + PyData.depthAll (x :: xs) < cLine := by have := depthAll_le hdp; omega
  have fin : ∀ (its : List Value) (as : List Addr), Vals ws its → ReadsAll s.heap its (x :: xs) as → ∀ (i : Nat) (v : Value) (h' : Heap) (tk : Nat) (bs : List Addr), its[i]? = some v → Reads h' v (f x xs) bs → (∀ b o, s.heap.get? b = some o → h'.get? b = some o) → EP X pins σ Q v { s with heap := h', toks := tk } := by
    intro its as rv ra i v h' tk bs hi hr hk
    obtain ⟨y, ey, ry⟩ := vals_at rv hi
    obtain ⟨d, cs, ed, rd⟩ := reads_at ra hi
    have hmem : d ∈ x :: xs := List.mem_of_getElem? ed
    have e : d = f x xs := alike_unique _ _ _ _ _ (hal.1 _ hmem _ (hm x xs)) (PyProof.Rows.Reads.keeps hk rd) hr
    exact ⟨y, H, I.kept (t' := tk) hk, ry, q i y d ey ed e⟩
  rcases hs with hs | hs
  · obtain ⟨its, rv, pl, hz⟩ := I.list hs
    obtain ⟨as, ra⟩ := dps_reads I hd rv
    exact hl (I.ok.hd hc) pl.isList (by simpa using ra) hal du fun i v h' tk bs hi hr hk => fin its as rv ra i v h' tk bs (by simpa using hi) hr hk
  · obtain ⟨its, rv, pl, hz⟩ := I.tuple hs
    obtain ⟨as, ra⟩ := dps_reads I hd rv
    exact ht (I.ok.hd hc) pl (by simpa using ra) hal du fun i v h' tk bs hi hr hk => fin its as rv ra i v h' tk bs (by simpa using hi) hr hk
theorem cr_minA (hc : X.calm = true) (hu : X.A.units + 66 < cLine) : CallR X (.builtin "min") (rBestA X.K PySem.W.minD) :=
  best_of (fun x r => fold_mem (fun a y => dataLt y a) x r) (fun a b c d e f => min_list_data a b c d e f) (fun a b c d e f => min_tuple_data a b c d e f) hc hu
theorem cr_maxA (hc : X.calm = true) (hu : X.A.units + 66 < cLine) : CallR X (.builtin "max") (rBestA X.K PySem.W.maxD) :=
  best_of (fun x r => fold_mem (fun a y => dataLt a y) x r) (fun a b c d e f => max_list_data a b c d e f) (fun a b c d e f => max_tuple_data a b c d e f) hc hu
mutual
theorem toPy_inj : ∀ (a b : D) (n m : Nat), noD n a = true → noD m b = true → toPy a = toPy b → a = b
  | .non, b, n, m, ha, hb, e => by cases b <;> (first | rfl | simp [toPy] at e | (cases m <;> simp [noD] at hb))
  | .bl x, b, n, m, ha, hb, e => by cases b <;> (first | (simp [toPy] at e; done) | (simp [toPy] at e; subst e; rfl) | (cases m <;> simp [noD] at hb))
  | .int x, b, n, m, ha, hb, e => by cases b <;> (first | (simp [toPy] at e; done) | (simp [toPy] at e; subst e; rfl) | (cases m <;> simp [noD] at hb))
  | .str x, b, n, m, ha, hb, e => by cases b <;> (first | (simp [toPy] at e; done) | (simp [toPy] at e; subst e; rfl) | (cases m <;> simp [noD] at hb))
  | .lst xs, b, n + 1, m, ha, hb, e => by
    cases b with
    | lst ys =>
      cases m with
      | zero => simp [noD] at hb
      | succ m =>
        rw [noD] at ha hb
        simp only [toPy, PyData.list.injEq] at e
        rw [toPys_inj xs ys n m ha hb e]
    | _ => first | (simp [toPy] at e; done) | (cases m <;> simp [noD] at hb)
  | .tup xs, b, n + 1, m, ha, hb, e => by
    cases b with
    | tup ys =>
      cases m with
      | zero => simp [noD] at hb
      | succ m =>
        rw [noD] at ha hb
        simp only [toPy, PyData.tuple.injEq] at e
        rw [toPys_inj xs ys n m ha hb e]
    | _ => first | (simp [toPy] at e; done) | (cases m <;> simp [noD] at hb)
  | .lst xs, b, 0, m, ha, hb, e => by simp [noD] at ha
  | .tup xs, b, 0, m, ha, hb, e => by simp [noD] at ha
  | .dK _, b, n, m, ha, hb, e => by cases n <;> simp [noD] at ha
  | .dT _, b, n, m, ha, hb, e => by cases n <;> simp [noD] at ha
theorem toPys_inj : ∀ (xs ys : List D) (n m : Nat), nosD n xs = true → nosD m ys = true → toPys xs = toPys ys → xs = ys
  | [], ys, n, m, ha, hb, e => by
    cases ys with
    | nil => rfl
    | cons => simp [toPys] at e
  | x :: xs, ys, n, m, ha, hb, e => by
    cases ys with
    | nil => simp [toPys] at e
    | cons y ys =>
      rw [nosD, Bool.and_eq_true] at ha hb
      simp only [toPys, List.cons.injEq] at e
      rw [toPy_inj x y n m ha.1 hb.1 e.1, toPys_inj xs ys n m ha.2 hb.2 e.2]
end
theorem alikeAll_of {xs : List D} (h : bestOk xs = true) : AlikeAll (toPys xs) ∧ xs.all shp = true := by
  unfold bestOk at h
  simp only [Bool.and_eq_true] at h
  refine ⟨⟨fun x hx y hy => allAlike_of h.1.1 x hx y hy, fun x hx => ?_⟩, h.1.2⟩
  rw [toPys_map] at hx
  obtain ⟨d, hd, rfl⟩ := List.mem_map.mp hx
  have q := (List.all_eq_true.mp h.2) d hd
  cases d <;> first | (cases q; done) | (intro e; simp [toPy] at e)
theorem minOf_py : ∀ (x : D) (xs : List D), toPy (minOf x xs) = PySem.W.minD (toPy x) (toPys xs)
  | x, [] => rfl
  | x, y :: r => by
    unfold minOf PySem.W.minD
    rw [toPys, List.foldl_cons, List.foldl_cons]
    have := minOf_py (if dataLt (toPy y) (toPy x) = true then y else x) r
    unfold minOf PySem.W.minD at this
    rw [this]
    split <;> rfl
theorem maxOf_py : ∀ (x : D) (xs : List D), toPy (maxOf x xs) = PySem.W.maxD (toPy x) (toPys xs)
  | x, [] => rfl
  | x, y :: r => by
    unfold maxOf PySem.W.maxD
    rw [toPys, List.foldl_cons, List.foldl_cons]
    have := maxOf_py (if dataLt (toPy x) (toPy y) = true then y else x) r
    unfold maxOf PySem.W.maxD at this
    rw [this]
    split <;> rfl
theorem minOf_mem (x : D) (xs : List D) : minOf x xs ∈ x :: xs := fold_mem (fun a y => dataLt (toPy y) (toPy a)) x xs
theorem maxOf_mem (x : D) (xs : List D) : maxOf x xs ∈ x :: xs := fold_mem (fun a y => dataLt (toPy a) (toPy y)) x xs
theorem reps_at {K : PySem.W.Frag} {G : Hp} : ∀ {vs : List V} {ds : List D}, Reps K G vs ds → ∀ {i : Nat} {v : V} {e : PyData}, vs[i]? = some v → (toPys ds)[i]? = some e → ∃ d, d ∈ ds ∧ toPy d = e ∧ Rep K G v d
  | _, _, .nil, i, v, e, h, h2 => by simp at h
  | _, _, .cons r t, 0, v, e, h, h2 => by
    cases h
    rw [toPys] at h2
    cases h2
    exact ⟨_, List.mem_cons_self, rfl, r⟩
  | _, _, .cons r t, i + 1, v, e, h, h2 => by
    rw [toPys] at h2
    obtain ⟨d, a, b, c⟩ := reps_at t h h2
    exact ⟨d, List.mem_cons_of_mem _ a, b, c⟩
theorem best_step {fD : D → List D → D} {fP : PyData → List PyData → PyData} (hpy : ∀ x xs, toPy (fD x xs) = fP (toPy x) (toPys xs)) (hmem : ∀ x xs, fD x xs ∈ x :: xs) {B : Bs} {G H : Hp} {v : V} {d0 d : D} {k : Kd} {Q : VK} (s : Same G H) (r : RC X.K G H v d0)
    (he : (items d0).bind (bestD fD) = .ok (d, k)) (hq : ∀ v G' H', Step G H G' H' → Out B X.K H d v G' H' k → Q v H') : rBestA X.K fP [v] H Q := by
  obtain ⟨xs, hx, he⟩ := R.of_bind he
  cases xs with
  | nil => cases he
  | cons x xs =>
    obtain ⟨hc, he⟩ := R.of_guard he
    cases he
    obtain ⟨a, ws, rfl, h1, h2, h3⟩ := seq_of s r hx
    obtain ⟨ha, hs⟩ := alikeAll_of hc
    have hd := reps_dps s h3 hs
    rw [toPys] at hd ha
    refine ⟨a, ws, _, _, rfl, h1, hd, ha, ?_, fun i w e hi he2 e3 => ?_⟩
    · have := depth_shp h3 hs
      rw [toPys] at this
      exact this
    · obtain ⟨d, hd1, hd2, hd3⟩ := reps_at h3 (e := e) hi (by rw [toPys]; exact he2)
      have : d = fD x xs := toPy_inj _ _ 60 60 ((List.all_eq_true.mp hs) d hd1) ((List.all_eq_true.mp hs) _ (hmem x xs)) (by rw [hd2, e3, hpy])
      subst this
      exact out_same s hd3 hq
theorem cb_min : CBR X (biD .min) (fun xs H Q => (∃ i j, xs = [.int i, .int j] ∧ Q (.int (if j < i then j else i)) H) ∨ rBestA X.K PySem.W.minD xs H Q) := by
  intro B G H vs ds d k Q s rc he hq
  replace he : minD ds = .ok (d, k) := he
  unfold minD at he
  split at he
  · cases he
    obtain ⟨v, u, rfl, r, r2⟩ := rc2 rc
    cases r; cases r2
    exact .inl ⟨_, _, rfl, out_same s (.int _) hq⟩
  · obtain ⟨v, rfl, r⟩ := rc1 rc
    exact .inr (best_step minOf_py minOf_mem s r he hq)
  · cases he
theorem cb_max : CBR X (biD .max) (fun xs H Q => (∃ i j, xs = [.int i, .int j] ∧ Q (.int (if j > i then j else i)) H) ∨ rBestA X.K PySem.W.maxD xs H Q) := by
  intro B G H vs ds d k Q s rc he hq
  replace he : maxD ds = .ok (d, k) := he
  unfold maxD at he
  split at he
  · cases he
    obtain ⟨v, u, rfl, r, r2⟩ := rc2 rc
    cases r; cases r2
    exact .inl ⟨_, _, rfl, out_same s (.int _) hq⟩
  · obtain ⟨v, rfl, r⟩ := rc1 rc
    exact .inr (best_step maxOf_py maxOf_mem s r he hq)
  · cases he
end
end Fw

namespace Fw
open PySem L2 PySem.W
/-! ### t[::-1] of a tuple -/
section
open HT
variable {P : Program} {w : World} {A : Around} {E : Value → Shared → Prop} {s : Shared}
theorem adj_rev (n : Nat) : Builtin.Slice.sliceAdjust none none (-1) (n : Int) = ((n : Int) - 1, -1) := by
  unfold Builtin.Slice.sliceAdjust
  simp
theorem places_rev (n : Nat) : Builtin.Slice.slicePlaces ((n : Int) - 1) (-1) (-1) = n := by
  unfold Builtin.Slice.slicePlaces
  have h1 : ¬ ((-1 : Int) > 0) := by omega
  simp only [h1, if_false]
  by_cases h : (n : Int) - 1 > -1
  · rw [if_pos h]
    have : ((n : Int) - 1 - -1 - 1) / - -1 = (n : Int) - 1 := by
      have e : (n : Int) - 1 - -1 - 1 = (n : Int) - 1 := by omega
      rw [e, Int.neg_neg, Int.ediv_one]
    rw [this]
    omega
  · rw [if_neg h]
    omega
theorem pick_rev (xs : Array Value) : ((List.range xs.size).filterMap fun (m : Nat) => xs[(((xs.size : Nat) : Int) - 1 + (m : Int) * (-1)).toNat]?).toArray = xs.toList.reverse.toArray := by
  congr 1
  have e : ∀ m ∈ List.range xs.size, xs[(((xs.size : Nat) : Int) - 1 + (m : Int) * (-1)).toNat]? = some (xs.toList.reverse.getD m .none) := by
    intro m hm
    rw [List.mem_range] at hm
    have e1 : (((xs.size : Nat) : Int) - 1 + (m : Int) * (-1)).toNat = xs.size - 1 - m := by omega
    rw [e1, List.getD_eq_getElem?_getD, List.getElem?_reverse (by rw [Array.length_toList]; exact hm), Array.length_toList, Array.getElem?_toList]
    have hlt : xs.size - 1 - m < xs.size := by omega
    rw [Array.getElem?_eq_getElem hlt]
    rfl
  have e2 : ∀ l : List Nat, (∀ m ∈ l, xs[(((xs.size : Nat) : Int) - 1 + (m : Int) * (-1)).toNat]? = some (xs.toList.reverse.getD m .none)) → (l.filterMap fun (m : Nat) => xs[(((xs.size : Nat) : Int) - 1 + (m : Int) * (-1)).toNat]?) = l.map fun m => xs.toList.reverse.getD m .none := by
    intro l
    induction l with
    | nil => intro _; rfl
    | cons m r ih =>
      intro h
      rw [List.filterMap_cons, h m List.mem_cons_self, List.map_cons, ih fun x hx => h x (List.mem_cons_of_mem _ hx)]
  rw [e2 _ e]
  apply List.ext_getElem?
  intro i
  rw [List.getElem?_map]
  by_cases hi : i < xs.size
  · rw [List.getElem?_range hi, Option.map_some, List.getD_eq_getElem?_getD]
    have hl : i < xs.toList.reverse.length := by rw [List.length_reverse, Array.length_toList]; exact hi
    rw [List.getElem?_eq_getElem hl]
    rfl
  · rw [List.getElem?_eq_none (by rw [List.length_range]; omega), List.getElem?_eq_none (by rw [List.length_reverse, Array.length_toList]; omega)]
    rfl
theorem applied_rev {sl : Addr} {vl vu vs : Value} {n : Nat} {Q : Int × Int × Nat → Shared → Prop} (hs : s.heap.IsSliceOf sl vl vu vs) (pl : IsPart vl none) (pu : IsPart vu none) (ps : IsPart vs (some (-1))) (h : Q ((n : Int) - 1, -1, n) s) : wpAny (model P w) A (Builtin.Slice.sliceApplied (.ref sl) (pure (n : Int))) Q E s := by
  obtain ⟨o, ho, hc, hd⟩ := id hs
  unfold Builtin.Slice.sliceApplied Builtin.Slice.sliceFields
  refine wpAny_bind (wpAny_bind (wpAny_field ho hd (x := vl) rfl (wpAny_bind (wpAny_field ho hd (x := vu) rfl (wpAny_bind (wpAny_field ho hd (x := vs) rfl (wpAny_pure ?_)))))))
  refine wpAny_bind (slicePart_ ps ?_); show wpAny _ _ (if ((-1 : Int) == 0) = true then _ else _) _ _ s; rw [if_neg (by decide)]
  refine wpAny_bind (slicePart_ pl (wpAny_bind (slicePart_ pu (wpAny_bind (wpAny_pure ?_)))))
  show wpAny _ _ (match Builtin.Slice.sliceAdjust none none (-1) (n : Int) with | (lo, hi) => pure (lo, (-1 : Int), Builtin.Slice.slicePlaces lo hi (-1))) _ _ s
  rw [adj_rev]; show wpAny _ _ (pure ((n : Int) - 1, (-1 : Int), Builtin.Slice.slicePlaces ((n : Int) - 1) (-1) (-1))) _ _ s
  rw [places_rev]; exact wpAny_pure h
open PyProof.Rows in
theorem tuple_rev_item {t sl : Addr} {items : Array Value} {vl vu vs : Value} {Q : Value → Shared → Prop} (ht : IsTup s.heap t items) (hs : s.heap.IsSliceOf sl vl vu vs) (pl : IsPart vl none) (pu : IsPart vu none) (ps : IsPart vs (some (-1)))
    (h : Q (.ref s.heap.objs.size) { s with heap := s.heap.push { cls := .type "tuple", data := .seq items.toList.reverse.toArray } }) (hsz : items.size ≤ sizeLine) : wpAny (model P w) A (getItem (.ref t) (.ref sl)) Q E s := by
  have hz : sizeOk (.seq items.toList.reverse.toArray) := by show items.toList.reverse.toArray.size ≤ sizeLine; rw [List.size_toArray, List.length_reverse, Array.length_toList]; exact hsz
  obtain ⟨o, ho, hc, hd⟩ := id hs
  have hT : s.TypeIs (.ref sl) "slice" := ⟨o, ho, hc⟩
  unfold getItem
  try with_reducible refine wpAny_holding ?_
  first | refine wpAny_bind (wpAny_pure ?_) | skip
  refine wpAny_bind (wpAny_sequenceKey ht.typeIs (by decide) ?_)
  refine wpAny_bind (wpAny_callSpecial?_slot (name := Str.ofString "__getitem__") ht.typeIs slot_tuple_getitem (wpAny_call_entry slot_tuple_getitem ht.typeIs entry_tuple_getitem ?_ (args_tuple_getitem _ _)))
  show wpAny _ _ (Builtin.Tuple.tupleItemsOf (.ref t) >>= _) _ _ s
  refine wpAny_bind (tupleItemsOf_ ht (wpAny_bind (wpAny_typeOf hT ?_)))
  rw [if_pos (by decide)]
  refine wpAny_bind (applied_rev hs pl pu ps ?_)
  have hno : ¬ ((((items.size : Int) - 1 == 0 && (-1 : Int) == 1 && items.size == items.size)) = true) := by
    have : ((-1 : Int) == 1) = false := by decide
    rw [this, Bool.and_false, Bool.false_and]
    exact Bool.false_ne_true
  show wpAny _ _ (if ((items.size : Int) - 1 == 0 && (-1 : Int) == 1 && items.size == items.size) = true then _ else _) _ _ s
  rw [if_neg hno, pick_rev]
  first
    | exact wpAny_bind (m := Builtin.Tuple.tupleExact _) (wpAny_newObj_type (wpAny_pure ⟨_, rfl, wpAny_pure h⟩) hz)
    | exact wpAny_bind (m := Builtin.Tuple.tupleExact _) (wpAny_newObj_type (wpAny_bind (wpAny_pure (wpAny_pure ⟨_, rfl, wpAny_pure h⟩))) hz)
    | exact wpAny_bind (wpAny_bind (m := Builtin.Tuple.tupleExact _) (wpAny_newObj_type (wpAny_pure (wpAny_pure ⟨_, rfl, wpAny_pure h⟩)) hz))
    | exact wpAny_bind (wpAny_bind (m := Builtin.Tuple.tupleExact _) (wpAny_newObj_type (wpAny_pure ⟨_, rfl, wpAny_pure h⟩) hz))
end
section
variable {X : Cx} {C : CallT}
def tRevA (K : PySem.W.Frag) (te : TE) : TE := fun σ H Q => te σ H fun x H1 => ∃ a xs, x = .ref a ∧ ((SqL K H1 a xs ∧ ∀ p, H1 p = none → Q (.ref p) (upd H1 p (.lst xs.reverse))) ∨ (SqT K H1 a xs ∧ ∀ p, H1 p = none → Q (.ref p) (upd H1 p (.tup xs.reverse))))
open PySem.Spec PyProof.Rows in
theorem pe_revA {e : Expr} {te : TE} {k : Nat} {p1 p2 p3 pos : Pos} (he : PE X e te) : PE X (.Subscript e (.Slice none none (some (.UnaryOp .USub (.Constant (.int 1) k p1) p2)) p3) pos) (tRevA X.K te) := by
  refine ⟨fun pins s σ H Q I h => ?_⟩
  refine Subscript_ (thn (he.run pins s σ H _ I h) fun v s1 ⟨x, H1, I1, r1, a, xs, ex, q⟩ => ?_)
  subst ex
  cases r1
  have hst : PO X (some (.UnaryOp .USub (.Constant (.int 1) k p1) p2)) (tPart (tUn (rU fun i => .int (-i)) (tC (.int 1)))) := po_some (pe_un un_neg pe_int)
  refine wpAny_Slice (thn (po_none.run pins s1 σ H1 (fun o H2 => o = none ∧ H2 = H1) I1 ⟨rfl, rfl⟩) fun vl s2 ⟨l, H2, I2, pl, el, e2⟩ => ?_); subst el e2
  refine thn (po_none.run pins s2 σ H2 (fun o H3 => o = none ∧ H3 = H2) I2 ⟨rfl, rfl⟩) fun vu s3 ⟨u, H3, I3, pu, eu, e3⟩ => ?_; subst eu e3
  refine thn (hst.run pins s3 σ H3 (fun o H4 => o = some (-1) ∧ H4 = H3) I3 ⟨1, rfl, -1, rfl, rfl, rfl⟩) fun vs s4 ⟨o, H4, I4, ps, eo, e4⟩ => ?_; subst eo e4
  have I5 : Inv X pins σ H4 { s4 with heap := s4.heap.push { cls := .type "slice", data := .fields #[vl, vu, vs] } } := I4.kept (t' := s4.toks) fun b ob q => Heap.get?_push_of_some _ q
  show wpAny _ _ (subscriptTail e (.Slice none none (some (.UnaryOp .USub (.Constant (.int 1) k p1) p2)) p3) (.ref a) (.ref s4.heap.objs.size)) _ _ { s4 with heap := s4.heap.push { cls := .type "slice", data := .fields #[vl, vu, vs] } }
  rcases q with ⟨hx, q⟩ | ⟨hx, q⟩
  · obtain ⟨its, r, ht, hz⟩ := I5.list hx
    have hlen := r.length
    refine tail_any (ops := [.ref a, .ref s4.heap.objs.size]) ht.isList.typeIs PySem.slot_list_getitem.lookup ?_ (by with_unfolding_all rfl)
    refine wpAny_getItem_list_slice ht.isList (Heap.IsSliceOf.new _ vl vu vs) pl pu ps (by decide) ?_ (by rw [List.size_toArray]; omega)
    rw [PySem.W.krv_pick]
    exact ⟨.ref _, _, I5.laid (t' := s4.toks) (o := .lst xs.reverse) (fun b ob q => Heap.get?_push_of_some _ q) (Nat.le_refl _) ⟨by rw [List.length_reverse]; exact hz, _, 0, r.reverse, Heap.get?_push_size _ rfl⟩, rfl, q _ (I5.hok.fresh (Nat.le_refl _))⟩
  · obtain ⟨its, r, ht, hz⟩ := I5.tuple hx
    have hlen := r.length
    refine tail_any (ops := [.ref a, .ref s4.heap.objs.size]) ht.typeIs PyProof.Rows.slot_tuple_getitem.lookup ?_ (by with_unfolding_all rfl)
    refine tuple_rev_item ht (Heap.IsSliceOf.new _ vl vu vs) pl pu ps ?_ (by rw [List.size_toArray]; omega)
    exact ⟨.ref _, _, I5.laid (t' := s4.toks) (o := .tup xs.reverse) (fun b ob q => Heap.get?_push_of_some _ q) (Nat.le_refl _) ⟨by rw [List.length_reverse]; exact hz, _, r.reverse, IsTup.new _ _⟩, rfl, q _ (I5.hok.fresh (Nat.le_refl _))⟩
theorem ve_rev {a : Expr} {ia : E} {k : Nat} {p1 p2 p3 pos : Pos} (ha : VE X C a ia) : VE X C (.Subscript a (.Slice none none (some (.UnaryOp .USub (.Constant (.int 1) k p1) p2)) p3) pos) (.rev ia) := by
  obtain ⟨t, p, f⟩ := ha
  refine ⟨_, pe_revA p, fun B ρ σ G H Q d kd S he hq => ?_⟩
  rw [evE] at he
  obtain ⟨⟨x, kx⟩, hx, he⟩ := R.of_bind he
  refine f B ρ σ G H _ x kx S hx fun v G1 H1 st o1 => ?_
  have ra := o1.rc st.sub
  cases x <;> (first | (cases he; done) | skip)
  · cases he
    obtain ⟨b, ws, rfl, h1, h2, h3⟩ := ra
    exact ⟨b, ws, rfl, .inl ⟨h1, out_new (B := B) st.sub (by rw [List.length_reverse]; exact h2) h3.reverse fun v G4 H4 st4 o4 => hq v G4 H4 (st.trans st4) (o4.back st.h)⟩⟩
  · cases he
    obtain ⟨b, ws, rfl, h1, h2, h3⟩ := ra
    exact ⟨b, ws, rfl, .inr ⟨.of (st.sub _ _ h1), out_tup (B := B) st.sub (by rw [List.length_reverse]; exact h2) h3.reverse fun v G4 H4 st4 o4 => hq v G4 H4 (st.trans st4) (o4.back st.h)⟩⟩
/-! ### k in d -/
theorem dget_of {K : PySem.W.Frag} {G H : Hp} (s : Same G H) {v u : V} {x y : D} {c : Bool} (rx : RC K G H v x) (ry : RC K G H u y) (h : dinD x y = .ok c) : ∃ a o, v = .ref a ∧ DGet H a u o ∧ o.isSome = c := by
  cases x with
  | dK kvs =>
    obtain ⟨k, hk, h⟩ := R.of_bind h
    cases h
    obtain ⟨a, vs, rfl, h1, h2, h3⟩ := rx
    rw [key_of ry hk]
    refine ⟨a, _, rfl, .inl ⟨_, _, h1, rfl, rfl⟩, ?_⟩
    rcases h3 with r | ⟨qs, r⟩
    · exact r.isSome
    · exact (r.rep s).isSome
  | dT kvs =>
    cases y <;> (first | (cases h; done) | skip)
    obtain ⟨k, hk, h⟩ := R.of_bind h
    cases h
    obtain ⟨a, vs, rfl, h1, h2, h3⟩ := rx
    obtain ⟨b, ws, rfl, g1, g2, g3⟩ := ry
    have e := keys_of g3 hk
    subst e
    exact ⟨a, _, rfl, .inr ⟨_, _, _, h1, rfl, s _ _ g1, rfl⟩, h3.isSome⟩
  | _ => cases h
theorem ve_din {a b : Expr} {ia ib : E} {pos : Pos} (hu : X.A.units + 1 < cLine) (ha : VE X C a ia) (hb : VE X C b ib) (hm : behindInMarks .In b = false := by rfl) : VE X C (.Compare a [.In] [b] pos) (.din ia ib) := by
  obtain ⟨t, p, f⟩ := ha
  obtain ⟨t2, p2, f2⟩ := hb
  refine ⟨_, pe_cmp (pc_din hu p p2) hm, fun B ρ σ G H Q d k S he hq => ?_⟩
  rw [evE] at he
  obtain ⟨⟨x, kx⟩, hx, he⟩ := R.of_bind he
  obtain ⟨⟨y, ky⟩, hy, he⟩ := R.of_bind he
  obtain ⟨c, hc, he⟩ := R.of_bind he
  cases he
  refine f B ρ σ G H _ x kx S hx fun v G1 H1 st o1 => ?_
  refine f2 B ρ σ G1 H1 _ y ky (S.step st) hy fun u G2 H2 st2 o2 => ?_
  have tot := st.trans st2
  obtain ⟨a, o, rfl, g, e⟩ := dget_of tot.sub (o2.rc st2.sub) ((o1.step st2).rc tot.sub) hc
  refine ⟨a, o, rfl, g, ?_⟩
  rw [e]
  exact hq _ G2 H2 tot (.bl c)
theorem ve_dnin {a b : Expr} {ia ib : E} {pos : Pos} (hu : X.A.units + 1 < cLine) (ha : VE X C a ia) (hb : VE X C b ib) (hm : behindInMarks .NotIn b = false := by rfl) : VE X C (.Compare a [.NotIn] [b] pos) (.dnin ia ib) := by
  obtain ⟨t, p, f⟩ := ha
  obtain ⟨t2, p2, f2⟩ := hb
  refine ⟨_, pe_cmp (pc_dnotin hu p p2) hm, fun B ρ σ G H Q d k S he hq => ?_⟩
  rw [evE] at he
  obtain ⟨⟨x, kx⟩, hx, he⟩ := R.of_bind he
  obtain ⟨⟨y, ky⟩, hy, he⟩ := R.of_bind he
  obtain ⟨c, hc, he⟩ := R.of_bind he
  cases he
  refine f B ρ σ G H _ x kx S hx fun v G1 H1 st o1 => ?_
  refine f2 B ρ σ G1 H1 _ y ky (S.step st) hy fun u G2 H2 st2 o2 => ?_
  have tot := st.trans st2
  obtain ⟨a, o, rfl, g, e⟩ := dget_of tot.sub (o2.rc st2.sub) ((o1.step st2).rc tot.sub) hc
  refine ⟨a, o, rfl, g, ?_⟩
  rw [e]
  exact hq _ G2 H2 tot (.bl (!c))
theorem strOk_str (x : String) : PyData.strOk (x : Str) = true := by
  show PyData.strOk (Str.ofString x) = true
  rw [Str.ofString_eq_toList]
  unfold PyData.strOk
  rw [← Array.all_toList, List.all_eq_true]
  intro c hc
  replace hc : c ∈ x.toList.map Char.toNat := hc
  obtain ⟨ch, _, rfl⟩ := List.mem_map.mp hc
  rw [decide_eq_true_eq]
  have h := ch.valid
  show ch.val.toNat < 0x110000
  rcases h with h | ⟨_, h⟩
  · have : ch.val.toNat < 0xd800 := h
    omega
  · exact h
theorem cb_str : CBR X (biD .str) (fun xs H Q => ∃ i, xs = [.int i] ∧ i.natAbs.log2 < 1920 ∧ Q (.str (toString i : String)) H) := by
  intro B G H vs ds d k Q s rc he hq
  replace he : strD ds = .ok (d, k) := he
  unfold strD at he
  split at he <;> (first | (cases he; done) | skip)
  obtain ⟨hc, he⟩ := R.of_guard he
  simp only [Bool.and_eq_true, decide_eq_true_eq] at hc
  cases he
  obtain ⟨v, rfl, r⟩ := rc1 rc
  cases r
  exact ⟨_, rfl, by omega, out_same s (.str _ ⟨PySem.int_text_fits (by omega), strOk_str _⟩) hq⟩
end
end Fw

/-! ### dict(zip(a, b)) of two tuples, and other calls -/
namespace FwZ
open PySem RZ
open PySem.Sem (wp)
section
variable {P : Program} {w : World} {A : Around} {E : Value → Shared → Prop} {s : Shared} {z TI TO T i1 i2 l1 l2 : Addr} {f : Bool} {oT : Obj} {m n : Nat} {xs ys : Array Value} {x y : Value}
/-- the next pair, the one given before still held -/
theorem held_item {Q : Option Value → Shared → Prop} (D : ZipApart z TI TO i1 i2 l1 l2) (hz : IsZipHeld s.heap z TI TO T f) (hT : s.heap.get? T = some oT) (hI : IsPair s.heap TI (.ref i1) (.ref i2)) (ha : s.heap.IsTupleIter i1 l1 m) (hb : s.heap.IsTupleIter i2 l2 n)
    (ga : s.heap.IsTuple l1 xs) (gb : s.heap.IsTuple l2 ys) (ex : xs[m]? = some x) (ey : ys[n]? = some y)
    (hq : ∀ h', IsZipHeld h' z TI TO T true → h'.IsTupleIter i1 l1 (m + 1) → h'.IsTupleIter i2 l2 (n + 1) → IsPair h' s.heap.objs.size x y → (∀ c o, c ≠ z → c ≠ i1 → c ≠ i2 → s.heap.get? c = some o → h'.get? c = some o) → Q (some (.ref s.heap.objs.size)) { s with heap := h' }) :
    wpAny (model P w) A (pyNext (.ref z)) Q E s := by
  have ty : s.TypeIs (.ref z) "zip" := ⟨_, hz, rfl⟩
  unfold pyNext
  refine wpAny_bind (wpAny_attempt (wpAny_callSpecial?_slot (name := Str.ofString "__next__") ty F.slot_zip_next (wpAny_call_entry F.slot_zip_next ty F.entry_zip_next ?_ (F.args_zip_next_1 _))))
  show wpAny _ _ (field (.ref z) 2 >>= _) _ _ _; refine wpAny_bind (wpAny_field hz rfl (x := .bool false) rfl ?_)
  show wpAny _ _ (field (.ref z) 3 >>= _) _ _ _; refine wpAny_bind (wpAny_field hz rfl (x := .ref TI) rfl (wpAny_bind (wpAny_seqItems hI rfl ?_)))
  show wpAny _ _ (Builtin.SmallTypes.ownedTupleIsFree (.ref z) >>= _) _ _ _; refine wpAny_bind (wpAny_tupleHeld_zip hz hT fun g1 z1 s1 => ?_)
  simp only [Bool.false_eq_true, if_false]; refine wpAny_bind ?_; rw [← Array.forIn_toList]; simp only [List.forIn_cons, List.forIn_nil]
  refine wpAny_bind (wpAny_bind (wpAny_holding ?_)); show wpAny _ _ (Builtin.SmallTypes.nextOf (.ref i1) >>= _) _ _ _
  refine wpAny_bind (nextOf_tuple_item (s := { s with heap := g1 }) (ha.extBut s1.extBut D.i1z) (ga.extBut s1.extBut D.l1z) ex fun g2 a2 s2 => wpAny_pure (wpAny_pure ?_))
  refine wpAny_bind (wpAny_bind (wpAny_holding ?_)); show wpAny _ _ (Builtin.SmallTypes.nextOf (.ref i2) >>= _) _ _ _
  refine wpAny_bind (nextOf_tuple_item (s := { s with heap := g2 }) ((hb.extBut s1.extBut D.i2z).extBut s2.extBut D.i12.symm) ((gb.extBut s1.extBut D.l2z).extBut s2.extBut D.l2i1) ey fun g3 b3 s3 => wpAny_pure (wpAny_pure (wpAny_pure ?_)))
  show wpAny _ _ (newTuple [x, y] >>= _) _ _ _; refine wpAny_bind (wpAny_newTuple ?_)
  have e0 : g3.objs.size = s.heap.objs.size := by rw [s3.1, s2.1, s1.1]
  have z3 : IsZipHeld g3 z TI TO T true := s3.extBut _ _ D.i2z.symm (s2.extBut _ _ D.i1z.symm z1)
  have k3 : ∀ c o, c ≠ z → c ≠ i1 → c ≠ i2 → s.heap.get? c = some o → g3.get? c = some o := fun c o c1 c2 c3 e => s3.extBut _ _ c3 (s2.extBut _ _ c2 (s1.extBut _ _ c1 e))
  have pr : IsPair (g3.push { cls := .type "tuple", data := .seq #[x, y] }) g3.objs.size x y := Heap.get?_push_size _ rfl
  refine wpAny_pure ⟨_, rfl, wpAny_pure ?_⟩; show Q (some (.ref g3.objs.size)) _
  rw [e0] at pr ⊢
  exact hq _ (Heap.get?_push_of_some _ z3) ((a2.extBut s3.extBut D.i12).at fun o e => Heap.get?_push_of_some _ e) (b3.at fun o e => Heap.get?_push_of_some _ e) pr fun c o c1 c2 c3 e => Heap.get?_push_of_some _ (k3 c o c1 c2 c3 e)
theorem held_end {Q : Option Value → Shared → Prop} (hh : A.handled = none) (D : ZipApart z TI TO i1 i2 l1 l2) (hz : IsZipHeld s.heap z TI TO T f) (hT : s.heap.get? T = some oT) (hI : IsPair s.heap TI (.ref i1) (.ref i2)) (ha : s.heap.IsTupleIter i1 l1 m) (hb : s.heap.IsTupleIter i2 l2 n)
    (ga : s.heap.IsTuple l1 xs) (gb : s.heap.IsTuple l2 ys) (he : xs[m]? = none ∨ ys[n]? = none) (hq : ∀ h', (∀ c o, c ≠ z → c ≠ i1 → c ≠ i2 → s.heap.get? c = some o → h'.get? c = some o) → Q none { s with heap := h' }) : wpAny (model P w) A (pyNext (.ref z)) Q E s := by
  have ty : s.TypeIs (.ref z) "zip" := ⟨_, hz, rfl⟩
  unfold pyNext
  refine wpAny_bind (wpAny_attempt (wpAny_callSpecial?_slot (name := Str.ofString "__next__") ty F.slot_zip_next (wpAny_call_entry F.slot_zip_next ty F.entry_zip_next ?_ (F.args_zip_next_1 _))))
  show wpAny _ _ (field (.ref z) 2 >>= _) _ _ _; refine wpAny_bind (wpAny_field hz rfl (x := .bool false) rfl ?_)
  show wpAny _ _ (field (.ref z) 3 >>= _) _ _ _; refine wpAny_bind (wpAny_field hz rfl (x := .ref TI) rfl (wpAny_bind (wpAny_seqItems hI rfl ?_)))
  show wpAny _ _ (Builtin.SmallTypes.ownedTupleIsFree (.ref z) >>= _) _ _ _; refine wpAny_bind (wpAny_tupleHeld_zip hz hT fun g1 z1 s1 => ?_)
  simp only [Bool.false_eq_true, if_false]; refine wpAny_bind ?_; rw [← Array.forIn_toList]; simp only [List.forIn_cons, List.forIn_nil]
  refine wpAny_bind (wpAny_bind (wpAny_holding ?_)); show wpAny _ _ (Builtin.SmallTypes.nextOf (.ref i1) >>= _) _ _ _
  cases e1 : xs[m]? with
  | none =>
    refine wpAny_bind (nextOf_tuple_end (s := { s with heap := g1 }) hh (ha.extBut s1.extBut D.i1z) (ga.extBut s1.extBut D.l1z) e1 fun g2 e s2 hs => ?_)
    obtain ⟨o, ho, hc⟩ := hs; exact wpAny_bind (wpAny_isInstance (T := "StopIteration") (b := true) ⟨o, ho, hc⟩ isSubtype_stop (wpAny_pure (hq g2 fun c o c1 c2 _ x => s2 _ _ c2 (s1.extBut _ _ c1 x))))
  | some x =>
    have e2 : ys[n]? = none := he.resolve_left (by rw [e1]; exact fun h => nomatch h)
    refine wpAny_bind (nextOf_tuple_item (s := { s with heap := g1 }) (ha.extBut s1.extBut D.i1z) (ga.extBut s1.extBut D.l1z) e1 fun g2 a2 s2 => wpAny_pure (wpAny_pure ?_))
    refine wpAny_bind (wpAny_bind (wpAny_holding ?_)); show wpAny _ _ (Builtin.SmallTypes.nextOf (.ref i2) >>= _) _ _ _
    refine wpAny_bind (nextOf_tuple_end (s := { s with heap := g2 }) hh ((hb.extBut s1.extBut D.i2z).extBut s2.extBut D.i12.symm) ((gb.extBut s1.extBut D.l2z).extBut s2.extBut D.l2i1) e2 fun g3 e s3 hs => ?_)
    obtain ⟨o, ho, hc⟩ := hs; exact wpAny_bind (wpAny_isInstance (T := "StopIteration") (b := true) ⟨o, ho, hc⟩ isSubtype_stop (wpAny_pure (hq g3 fun c o c1 c2 c3 x => s3 _ _ c3 (s2.extBut _ _ c2 (s1.extBut _ _ c1 x)))))
/-- zip of two tuples, as dict()'s argument -/
theorem zipArg (D : ZipApart z TI TO i1 i2 l1 l2) : PairArg P w "zip" z [z, TI, TO, i1, i2, l1, l2] [z, TO, i1, i2] (min xs.size ys.size) (fun i k v => xs[i]? = some k ∧ ys[i]? = some v)
    (fun h => IsZip h z TI TO .none ∧ IsPair h TI (.ref i1) (.ref i2) ∧ (∃ a b, IsPair h TO a b) ∧ h.IsTupleIter i1 l1 0 ∧ h.IsTupleIter i2 l2 0 ∧ h.IsTuple l1 xs ∧ h.IsTuple l2 ys) where
  type := fun s c => ⟨_, c.1, rfl⟩
  notDict := by decide
  keep := fun h h' ⟨c1, c2, ⟨a, b, c3⟩, c4, c5, c6, c7⟩ k => ⟨k _ _ c1, k _ _ c2, ⟨a, b, k _ _ c3⟩, c4.at fun o e => k _ o e, c5.at fun o e => k _ o e, c6.at fun o e => k _ o e, c7.at fun o e => k _ o e⟩
  there := fun h ⟨c1, c2, ⟨a, b, c3⟩, ⟨o4, c4, _⟩, ⟨o5, c5, _⟩, ⟨o6, c6, _⟩, ⟨o7, c7, _⟩⟩ b hb => by
    simp only [List.mem_cons, List.not_mem_nil, or_false] at hb
    rcases hb with rfl | rfl | rfl | rfl | rfl | rfl | rfl <;> first | exact ⟨_, c1⟩ | exact ⟨_, c2⟩ | exact ⟨_, c3⟩ | exact ⟨_, c4⟩ | exact ⟨_, c5⟩ | exact ⟨_, c6⟩ | exact ⟨_, c7⟩
  sub := fun b hb => by simp only [List.mem_cons, List.not_mem_nil, or_false] at hb ⊢; rcases hb with rfl | rfl | rfl | rfl <;> simp
  noKeys := fun A s Q E hA c h => getAttrOr_miss_zip c.1 rfl rfl rfl zip_no_keys (by decide +kernel) hA h
  iter := fun A s d Q E hA c hd hf h => by
    obtain ⟨c1, c2, ⟨a, b, c3⟩, c4, c5, c6, c7⟩ := c
    simp only [List.mem_cons, List.not_mem_nil, or_false, not_or] at hf
    obtain ⟨d1, d2, d3, d4, d5, d6, d7⟩ := hf
    refine wpAny_pyIter_zip c1 (h z [z, TO, i1, i2] (fun i h => IsPair h TI (.ref i1) (.ref i2) ∧ h.IsTupleIter i1 l1 i ∧ h.IsTupleIter i2 l2 i ∧ h.IsTuple l1 xs ∧ h.IsTuple l2 ys ∧
      ((IsZip h z TI TO .none ∧ ∃ a b, IsPair h TO a b) ∨ ∃ T f oT, IsZipHeld h z TI TO T f ∧ h.get? T = some oT ∧ T ≠ z ∧ T ≠ i1 ∧ T ≠ i2 ∧ T ≠ d)) s.heap s.toks ?_ ⟨c2, c4, c5, c6, c7, .inl ⟨c1, a, b, c3⟩⟩ (fun _ _ e => e) fun b hb => .inl hb)
    refine ⟨fun m => ?_, fun i g g' st k => ?_, fun i s1 Q1 E1 hi st hds hq => ?_, fun s1 Q1 E1 st hq => ?_⟩
    · simp only [List.mem_cons, List.not_mem_nil, or_false] at m
      rcases m with e | e | e | e
      · exact d1 e
      · exact d3 e
      · exact d4 e
      · exact d5 e
    · obtain ⟨t1, t2, t3, t4, t5, t6⟩ := st
      refine ⟨k _ _ (Ne.symm d2) t1, t2.at fun o e => k _ o (Ne.symm d4) e, t3.at fun o e => k _ o (Ne.symm d5) e, t4.at fun o e => k _ o (Ne.symm d6) e, t5.at fun o e => k _ o (Ne.symm d7) e, ?_⟩
      rcases t6 with ⟨t6, a, b, t7⟩ | ⟨T, f, oT, t6, t7, r1, r2, r3, r4⟩
      · exact .inl ⟨k _ _ (Ne.symm d1) t6, a, b, k _ _ (Ne.symm d3) t7⟩
      · exact .inr ⟨T, f, oT, k _ _ (Ne.symm d1) t6, k _ _ r4 t7, r1, r2, r3, r4⟩
    · obtain ⟨t1, t2, t3, t4, t5, t6⟩ := st
      have ex := Array.getElem?_eq_getElem (Nat.lt_of_lt_of_le hi (Nat.min_le_left xs.size ys.size))
      have ey := Array.getElem?_eq_getElem (Nat.lt_of_lt_of_le hi (Nat.min_le_right xs.size ys.size))
      have lt : ∀ {c o}, s1.heap.get? c = some o → s1.heap.objs.size ≠ c := fun e => Nat.ne_of_gt (Heap.lt_size e)
      have n1 : s1.heap.objs.size ≠ i1 := let ⟨_, e, _⟩ := t2; lt e
      have n2 : s1.heap.objs.size ≠ i2 := let ⟨_, e, _⟩ := t3; lt e
      rcases t6 with ⟨t6, a, b, t7⟩ | ⟨T, f, oT, t6, t7, r1, r2, r3, r4⟩
      · refine pyNext_zipT_item D t6 t1 t7 t2 t3 t4 t5 ex ey fun h' a1 a2 a3 a4 a5 a6 k => ?_
        exact hq s1.heap.objs.size _ _ h' s1.toks ⟨ex, ey⟩ (.inl ⟨_, a5, rfl, _, rfl⟩) ⟨k _ _ D.TIz D.TITO D.TIi1 D.TIi2 t1, a3, a4, t4.at fun o e => k _ o D.l1z D.l1TO D.l1i1 D.l1i2 e, t5.at fun o e => k _ o D.l2z D.l2TO D.l2i1 D.l2i2 e, .inr ⟨s1.heap.objs.size, false, _, a1, a5, lt t6, n1, n2, Nat.ne_of_gt hds⟩⟩
          fun c o hc e => k c o (fun x => hc (by simp [x])) (fun x => hc (by simp [x])) (fun x => hc (by simp [x])) (fun x => hc (by simp [x])) e
      · refine held_item D t6 t7 t1 t2 t3 t4 t5 ex ey fun h' a1 a3 a4 a5 k => ?_
        exact hq s1.heap.objs.size _ _ h' s1.toks ⟨ex, ey⟩ (.inl ⟨_, a5, rfl, _, rfl⟩) ⟨k _ _ D.TIz D.TIi1 D.TIi2 t1, a3, a4, t4.at fun o e => k _ o D.l1z D.l1i1 D.l1i2 e, t5.at fun o e => k _ o D.l2z D.l2i1 D.l2i2 e, .inr ⟨T, true, oT, a1, k _ _ r1 r2 r3 t7, r1, r2, r3, r4⟩⟩
          fun c o hc e => k c o (fun x => hc (by simp [x])) (fun x => hc (by simp [x])) (fun x => hc (by simp [x])) e
    · obtain ⟨t1, t2, t3, t4, t5, t6⟩ := st
      have hend : xs[min xs.size ys.size]? = none ∨ ys[min xs.size ys.size]? = none := by
        rcases Nat.le_total xs.size ys.size with h | h
        · exact .inl (Array.getElem?_eq_none (by omega))
        · exact .inr (Array.getElem?_eq_none (by omega))
      rcases t6 with ⟨t6, a, b, t7⟩ | ⟨T, f, oT, t6, t7, r1, r2, r3, r4⟩
      · exact pyNext_zipT_end hA D t6 t1 t7 t2 t3 t4 t5 hend fun h' k => hq h' s1.toks fun c o hc e => k c o (fun x => hc (by simp [x])) (fun x => hc (by simp [x])) (fun x => hc (by simp [x])) (fun x => hc (by simp [x])) e
      · exact held_end hA D t6 t7 t1 t2 t3 t4 t5 hend fun h' k => hq h' s1.toks fun c o hc e => k c o (fun x => hc (by simp [x])) (fun x => hc (by simp [x])) (fun x => hc (by simp [x])) e
end
end FwZ
namespace Fw
open PySem L2 PySem.W RZ FwZ
section
variable {X : Cx} {C : CallT}
def tDZip (K : PySem.W.Frag) (ta : TA) : TE := fun σ H Q => ta σ H fun vs H1 => ∃ (a b : Addr) (ks : List Key) (ys : List V), vs = [.ref a, .ref b] ∧ ((SqL K H1 a (ks.map kV) ∧ SqL K H1 b ys) ∨ (SqT K H1 a (ks.map kV) ∧ SqT K H1 b ys)) ∧ ks.length ≤ sizeLine ∧ ∀ p, H1 p = none → Q (.ref p) (upd H1 p (.dK (mergeK [] (ks.zip ys))))
theorem kv_zip : ∀ {ks : List Key} {ys : List V} {us : List Value}, Vals ys us → KV (ks.zip ys) (ks.zip us)
  | [], _, _, _ => by simp; exact .nil
  | _ :: _, _, _, .nil => by simp; exact .nil
  | k :: ks, _, _, .cons r t => .cons ⟨rfl, r⟩ (kv_zip t)
theorem vals_keys {P : Program} {w : World} : ∀ {ks : List Key} {us : List Value}, Vals (ks.map kV) us → ∀ {i : Nat} {u : Value}, us[i]? = some u → ∃ k, ks[i]? = some k ∧ (mixKind P w).is k u = true
  | [], _, r, i, u, h => by cases r; simp at h
  | k :: ks, _, r, 0, u, h => by
    cases r with
    | cons r t => cases h; exact ⟨k, rfl, kV_is r⟩
  | k :: ks, _, r, i + 1, u, h => by
    cases r with
    | cons r t => exact vals_keys t h
theorem pairs_have {P : Program} {w : World} {ks : List Key} {its its2 : List Value} (r : Vals (ks.map kV) its) : PairsHave (mixKind P w) (min its.toArray.size its2.toArray.size) (fun i k v => its.toArray[i]? = some k ∧ its2.toArray[i]? = some v) (ks.zip its2) := by
  have hl : ks.length = its.length := by have := r.length; rw [List.length_map] at this; exact this
  refine ⟨by rw [List.length_zip, hl, List.size_toArray, List.size_toArray], fun i key v ⟨h1, h2⟩ => ?_⟩
  rw [List.getElem?_toArray] at h1 h2
  obtain ⟨k, hk, hi⟩ := vals_keys (P := P) (w := w) r h1
  exact ⟨k, by rw [List.getElem?_zip_eq_some]; exact ⟨hk, h2⟩, hi⟩
open PyProof.Rows in
theorem pe_dzip {e e2 : Expr} {ta : TA} {p p2 pos2 pos : Pos} (hc : X.calm = true) (hg : Gl X "dict") (hm : X.mg "dict" = none) (hg2 : Gl X "zip") (hm2 : X.mg "zip" = none) (ha : PA X [e, e2] ta)
    (hs : starEach [e, e2] X.env = (false, eval e X.env) :: starEach [e2] X.env := by rfl) (hpl : (backTo pos2 (starEach [e2] X.env)).any (·.1) = false := by rfl) :
    PE X (.Call (.Name "dict" p) [.Call (.Name "zip" p2) [e, e2] [] pos2] [] pos) (tDZip X.K ta) := by
  refine ⟨fun pins s σ H Q I h => ?_⟩
  refine wpAny_Call_Name_kw (ld_blt I hg hm Pv.boot_dict ?_)
  refine callWith_type1 (Calls.spliced_cons ?_)
  refine wpAny_Call_Name_kw (ld_blt I hg2 hm2 boot_zip (callWith_type1 (thn (ha.run pos2 pins s σ H _ I h) fun us s1 ⟨vs, H1, I1, r1, q1⟩ => ?_) hs hpl))
  obtain ⟨a, b, ks, ys, ex, hq, hz, q⟩ := q1
  subst ex
  cases r1 with
  | cons r rr =>
    cases rr with
    | cons r' rr =>
      cases rr
      cases r
      cases r'
      have ap : ∀ {l1 l2 : Addr}, l1 < s1.heap.objs.size → l2 < s1.heap.objs.size → ZipApart (s1.heap.objs.size + 4) (s1.heap.objs.size + 2) (s1.heap.objs.size + 3) s1.heap.objs.size (s1.heap.objs.size + 1) l1 l2 := fun h1 h2 => PySem.W.ktu_apart s1.heap.objs.size _ _ h1 h2
      have fin : ∀ (its its2 : List Value) (h1 : Heap) (wr : List Addr) (h2 : Heap) (tk : Nat), Vals (ks.map kV) its → Vals ys its2 → (∀ c o, s1.heap.get? c = some o → h1.get? c = some o) → (∀ c ∈ wr, s1.heap.objs.size ≤ c) → s1.heap.objs.size ≤ h1.objs.size → (h1.objs.size == sysModules) = false →
          h2.DictOf (mixKind X.prog X.w) h1.objs.size (merged [] (ks.zip its2)) → (∀ b o, b ∉ wr → h1.get? b = some o → h2.get? b = some o) → EP X pins σ Q (.ref h1.objs.size) { s1 with heap := h2, toks := tk } := by
        intro its its2 h1 wr h2 tk v1 v2 k1 hw hs1 hm hd k2
        have hlen : (mergeK [] (ks.zip ys)).length ≤ sizeLine := by
          refine Nat.le_trans (length_mergeK _ []) ?_
          rw [List.length_nil, Nat.zero_add, List.length_zip]
          exact Nat.le_trans (Nat.min_le_left _ _) hz
        refine ⟨.ref h1.objs.size, upd H1 h1.objs.size (.dK (mergeK [] (ks.zip ys))), I1.laid (t' := tk) (fun c o e => k2 c o (fun m => Nat.lt_irrefl _ (Nat.lt_of_lt_of_le (Heap.lt_size e) (hw c m))) (k1 c o e)) hs1 ?_, rfl, q _ (I1.hok.fresh hs1)⟩
        exact ⟨hlen, hm, _, KV.merge (kv_zip v2) .nil, hd⟩
      have hs5 : ∀ {h' : Heap}, h'.objs.size = s1.heap.objs.size + 5 → s1.heap.objs.size ≤ h'.objs.size ∧ (h'.objs.size == sysModules) = false := fun {h'} e => by
        have hle : s1.heap.objs.size ≤ h'.objs.size := by rw [e]; exact Nat.le_add_right _ _
        exact ⟨hle, beq_eq_false_iff_ne.mpr (Nat.ne_of_gt (Nat.lt_of_lt_of_le I1.big hle))⟩
      have hw : ∀ c ∈ [s1.heap.objs.size + 4, s1.heap.objs.size + 3, s1.heap.objs.size, s1.heap.objs.size + 1], s1.heap.objs.size ≤ c := fun c hc => by
        simp only [List.mem_cons, List.not_mem_nil, or_false] at hc
        rcases hc with e | e | e | e <;> rw [e] <;> first | exact Nat.le_refl _ | exact Nat.le_add_right _ _
      have hmin : ∀ {its its2 : List Value}, Vals (ks.map kV) its → min its.toArray.size its2.toArray.size ≤ sizeLine := fun {its its2} r => by
        have e := r.length
        rw [List.length_map] at e
        rw [List.size_toArray, ← e]
        exact Nat.le_trans (Nat.min_le_left _ _) hz
      rcases hq with ⟨hqx, hqy⟩ | ⟨hqx, hqy⟩
      · obtain ⟨its, rv, p1, _⟩ := I1.list hqx
        obtain ⟨its2, rv2, p2, _⟩ := I1.list hqy
        refine call_zip_2 p1.isList p2.isList fun h' z1 z2 z3 z4 z5 hsz hk => Calls.spliced_nil ?_
        refine PySem.call_dict_pairs (s := { s1 with heap := h' }) (PairArg.zip _ _ _ _ _ _ _ (ap p1.lt p2.lt) its.toArray its2.toArray) (I.ok.hd hc) ⟨z1, z2, ⟨_, _, z3⟩, z4, z5, p1.isList.at fun o e => hk _ o e, p2.isList.at fun o e => hk _ o e⟩ (pairs_have rv) (hmin rv) fun h2 tk hd k2 => ?_
        exact fin its its2 h' _ h2 tk rv rv2 hk hw (hs5 hsz).1 (hs5 hsz).2 hd k2
      · obtain ⟨its, rv, p1, _⟩ := I1.tuple hqx
        obtain ⟨its2, rv2, p2, _⟩ := I1.tuple hqy
        obtain ⟨o1, ho1, _⟩ := id p1
        obtain ⟨o2, ho2, _⟩ := id p2
        have t1 : s1.heap.IsTuple _ its.toArray := p1
        have t2 : s1.heap.IsTuple _ its2.toArray := p2
        refine call_zipT t1 t2 fun h' z1 z2 z3 z4 z5 hsz hk => Calls.spliced_nil ?_
        refine PySem.call_dict_pairs (s := { s1 with heap := h' }) (zipArg (ap (Heap.lt_size ho1) (Heap.lt_size ho2))) (I.ok.hd hc) ⟨z1, z2, ⟨_, _, z3⟩, z4, z5, t1.at fun o e => hk _ o e, t2.at fun o e => hk _ o e⟩ (pairs_have rv) (hmin rv) fun h2 tk hd k2 => ?_
        exact fin its its2 h' _ h2 tk rv rv2 hk hw (hs5 hsz).1 (hs5 hsz).2 hd k2
theorem seq2_of {K : PySem.W.Frag} {G H : Hp} (s : Same G H) {v u : V} {x y : D} {xs ys : List D} (rx : RC K G H v x) (ry : RC K G H u y) (hx : items x = .ok xs) (hy : items y = .ok ys) (h : sameSeq x y = true) :
    ∃ a b vs us, v = .ref a ∧ u = .ref b ∧ ((SqL K H a vs ∧ SqL K H b us) ∨ (SqT K H a vs ∧ SqT K H b us)) ∧ vs.length ≤ sizeLine ∧ Reps K G vs xs ∧ Reps K G us ys := by
  cases x <;> (first | (cases hx; done) | skip) <;> cases y <;> (first | (cases hy; done) | (cases h; done) | skip)
  · cases hx; cases hy
    obtain ⟨a, vs, rfl, h1, h2, h3⟩ := rx
    obtain ⟨b, us, rfl, g1, g2, g3⟩ := ry
    exact ⟨a, b, vs, us, rfl, rfl, .inl ⟨h1, g1⟩, h2, h3, g3⟩
  · cases hx; cases hy
    obtain ⟨a, vs, rfl, h1, h2, h3⟩ := rx
    obtain ⟨b, us, rfl, g1, g2, g3⟩ := ry
    exact ⟨a, b, vs, us, rfl, rfl, .inr ⟨.of (s _ _ h1), .of (s _ _ g1)⟩, h2, h3, g3⟩
theorem ve_dzip {e e2 : Expr} {ia ib : E} {p p2 pos2 pos : Pos} (hc : X.calm = true) (hg : Gl X "dict") (hm : X.mg "dict" = none) (hg2 : Gl X "zip") (hm2 : X.mg "zip" = none) (h : VA X C [e, e2] [ia, ib])
    (hs : starEach [e, e2] X.env = (false, eval e X.env) :: starEach [e2] X.env := by rfl) (hpl : (backTo pos2 (starEach [e2] X.env)).any (·.1) = false := by rfl) :
    VE X C (.Call (.Name "dict" p) [.Call (.Name "zip" p2) [e, e2] [] pos2] [] pos) (.dzip ia ib) := by
  obtain ⟨t, pa, f⟩ := h
  refine ⟨_, pe_dzip hc hg hm hg2 hm2 pa hs hpl, fun B ρ σ G H Q d k S he hq => ?_⟩
  rw [evE] at he
  obtain ⟨⟨x, kx⟩, hx, he⟩ := R.of_bind he
  obtain ⟨⟨y, ky⟩, hy, he⟩ := R.of_bind he
  obtain ⟨xs, hxs, he⟩ := R.of_bind he
  obtain ⟨ys, hys, he⟩ := R.of_bind he
  obtain ⟨ks, hks, he⟩ := R.of_bind he
  obtain ⟨hk, he⟩ := R.of_guard he
  simp only [Bool.and_eq_true] at hk
  cases he
  have hds : evEs C [ia, ib] ρ = .ok [(x, kx), (y, ky)] := by rw [evEs, hx, R.bind_ok, evEs, hy, R.bind_ok, evEs]; rfl
  refine f B ρ σ G H _ _ S hds fun vs G1 H1 st o => ?_
  cases o with
  | cons o1 o =>
  cases o with
  | cons o2 o =>
  cases o
  have r2 : ∀ {v : V} {z : D} {kz : Kd}, Out B X.K H z v G1 H1 (shK kz) → notBw kz = true → Rep X.K G1 v z := fun {v z kz} o hz => by cases kz <;> first | exact o | cases hz
  obtain ⟨a, b, vs, us, rfl, rfl, hq2, hz, rx, ry⟩ := seq2_of st.sub (RC.of_rep st.sub (r2 o1 hk.1.1)) (RC.of_rep st.sub (r2 o2 hk.1.2)) hxs hys hk.2
  have e := keys_of rx hks
  subst e
  refine ⟨a, b, ks, us, rfl, hq2, by rw [List.length_map] at hz; exact hz, fun p hp => ?_⟩
  refine hq (.ref p) G1 _ (st.trans (Step.newH st.sub hp)) ⟨p, rfl, ?_, st.sub.free hp, _, upd_same, ?_, RepK.merge .nil (repK_zip ry)⟩
  · exact st.h.free hp
  · refine Nat.le_trans (mergeK_len _ _) ?_
    rw [List.length_nil, Nat.zero_add, List.length_zip, List.length_map] at *
    exact Nat.le_trans (Nat.min_le_left _ _) hz
end
end Fw

namespace Fw
open PySem L2 PySem.W
section
variable {X : Cx} {C : CallT}
theorem setSlot_ne {ρ : Env} {i j : Nat} {d : D} {n : Nat} (h : i ≠ j) : (setSlot ρ j d n)[i]? = ρ[i]? := by
  unfold setSlot
  rw [List.getElem?_set_ne (Ne.symm h)]
/-- x.append(y.pop(e)) -/
theorem vs_appPop {i j : Nat} {e inner call : Expr} {ir : E} {pos : Pos} (pm : ∀ t, PA X [inner] t → PE X call (tBM X.K "list" rAppend (tVar i) t)) (pn : ∀ t, PA X [e] t → PE X inner (tBM X.K "list" rPopAt (tVar j) t)) (h : VE X C e ir)
    (hs0 : starEach [e] X.env = (false, eval e X.env) :: starEach [] X.env := by rfl) (hs1 : starEach [inner] X.env = (false, eval inner X.env) :: starEach [] X.env := by rfl)
    (hs : swapsWith call none pos.line X.env = pure false := by rfl) : VS X C (.Expr call pos) (.appPop i j ir) := by
  obtain ⟨t, pe, f⟩ := h
  refine ⟨_, ps_expr (pm _ (pa_cons (pn _ (pa_cons pe pa_nil hs0)) pa_nil hs1)) hs, fun B ρ σ G H D o S he hq => ?_⟩
  rw [evS] at he
  obtain ⟨xs, hxs, he⟩ := R.of_bind he
  obtain ⟨ys, hys, he⟩ := R.of_bind he
  obtain ⟨⟨d, k⟩, hx, he⟩ := R.of_bind he
  cases d <;> (first | (cases he; done) | skip)
  rename_i z
  simp only at he
  split at he <;> (first | (cases he; done) | skip)
  rename_i n hn
  split at he <;> (first | (cases he; done) | skip)
  rename_i y hy
  obtain ⟨hc, he⟩ := R.of_guard he
  simp only [Bool.and_eq_true, decide_eq_true_eq, line_eq, Bool.not_eq_true', beq_eq_false_iff_ne] at hc
  cases he
  split at hn <;> (first | (cases hn; done) | skip)
  rename_i hz
  simp only [Bool.and_eq_true, decide_eq_true_eq] at hz
  obtain ⟨fp, S⟩ := S
  have hi := ownL_of hxs
  have hj := ownL_of hys
  obtain ⟨p, e1, hA, hG, ⟨vs, h1, h2, h3⟩, hB⟩ := own_at S hi
  obtain ⟨q, e2, hA2, hG2, ⟨ws, g1, g2, g3⟩, hB2⟩ := own_at S hj
  refine ⟨.ref p, e1, .inl ⟨rfl, vs, .of h1⟩, .ref q, e2, .inl ⟨rfl, ws, .of g1⟩, f B ρ σ G H _ _ k ⟨fp, S⟩ hx fun v G1 H1 st o1 => ?_⟩
  have rv := o1.rc st.sub
  cases rv
  have S1 := S.step st
  have k1 : G1 q = none := st.none hG2 ⟨_, g1, fun _ z => nomatch z⟩
  obtain ⟨v, ev, rv⟩ := (g3.mono st.g).get hy
  refine ⟨q, ws, z, n, v, rfl, rfl, st.h _ _ g1, by omega, by omega, by rw [g3.length]; exact hn, ev, ?_⟩
  have C2 : Cont X.K G1 (upd H1 q (.lst (ws.eraseIdx n))) q (.lst (ys.eraseIdx n)) := ⟨ws.eraseIdx n, upd_same, by
    refine Nat.le_trans ?_ g2
    rw [List.length_eraseIdx]
    split <;> omega, Reps.eraseIdx n (g3.mono st.g)⟩
  obtain ⟨fp2, S2⟩ := S1.change hj e2 hA2 k1 hB2 C2
  have hi2 : (setSlot ρ j (.lst (ys.eraseIdx n)) 1)[i]? = some (some (⟨.lst xs, 1⟩ : Slot)) := by rw [setSlot_ne hc.1]; exact hi
  obtain ⟨p', e1', hA', hG', ⟨vs', q1, q2, q3⟩, hB'⟩ := own_at S2 hi2
  rw [e1] at e1'
  cases e1'
  have l1 : vs'.length < sizeLine := by rw [q3.length]; exact hc.2
  exact ⟨p, vs', v, rfl, rfl, q1, l1, hq σ G1 _ st.g (S2.change hi2 e1 hA' hG' hB' ⟨vs' ++ [v], upd_same, by rw [List.length_append]; exact l1, q3.append (.cons rv .nil)⟩)⟩
theorem vt_din {a b : Expr} {ia ib : E} {pos : Pos} (hu : X.A.units + 1 < cLine) (ha : VE X C a ia) (hb : VE X C b ib) (hm : behindInMarks .In b = false := by rfl) : VT X C (.Compare a [.In] [b] pos) (.din ia ib) := by
  obtain ⟨t, p, f⟩ := ha
  obtain ⟨t2, p2, f2⟩ := hb
  refine ⟨_, pt_cmp (pc_din hu p p2) hm, fun B ρ σ G H Q d k S he hq => ?_⟩
  rw [evE] at he
  obtain ⟨⟨x, kx⟩, hx, he⟩ := R.of_bind he
  obtain ⟨⟨y, ky⟩, hy, he⟩ := R.of_bind he
  obtain ⟨c, hc, he⟩ := R.of_bind he
  cases he
  refine f B ρ σ G H _ x kx S hx fun v G1 H1 st o1 => ?_
  refine f2 B ρ σ G1 H1 _ y ky (S.step st) hy fun u G2 H2 st2 o2 => ?_
  have tot := st.trans st2
  obtain ⟨a, o, rfl, g, e⟩ := dget_of tot.sub (o2.rc st2.sub) ((o1.step st2).rc tot.sub) hc
  refine ⟨a, o, rfl, g, _, rfl, ?_⟩
  rw [e]
  exact hq G2 H2 tot
theorem vt_dnin {a b : Expr} {ia ib : E} {pos : Pos} (hu : X.A.units + 1 < cLine) (ha : VE X C a ia) (hb : VE X C b ib) (hm : behindInMarks .NotIn b = false := by rfl) : VT X C (.Compare a [.NotIn] [b] pos) (.dnin ia ib) := by
  obtain ⟨t, p, f⟩ := ha
  obtain ⟨t2, p2, f2⟩ := hb
  refine ⟨_, pt_cmp (pc_dnotin hu p p2) hm, fun B ρ σ G H Q d k S he hq => ?_⟩
  rw [evE] at he
  obtain ⟨⟨x, kx⟩, hx, he⟩ := R.of_bind he
  obtain ⟨⟨y, ky⟩, hy, he⟩ := R.of_bind he
  obtain ⟨c, hc, he⟩ := R.of_bind he
  cases he
  refine f B ρ σ G H _ x kx S hx fun v G1 H1 st o1 => ?_
  refine f2 B ρ σ G1 H1 _ y ky (S.step st) hy fun u G2 H2 st2 o2 => ?_
  have tot := st.trans st2
  obtain ⟨a, o, rfl, g, e⟩ := dget_of tot.sub (o2.rc st2.sub) ((o1.step st2).rc tot.sub) hc
  refine ⟨a, o, rfl, g, _, rfl, ?_⟩
  rw [e]
  exact hq G2 H2 tot
end
end Fw

namespace Fw
open PySem L2
/-! ### the checker: that a text is what its IR says -/
structure CK where
  N : List Str
  names : List (Str × NameKind)
  sto : List Str
  bi : List Str
  ki : List (Str × Int)
  kt : List (Str × Str)
  defs : List (Str × Nat × Nat)
def plainE : Expr → Bool
  | .Starred _ _ => false
  | .Set _ _ _ => false
  | _ => true
def nocall : Expr → Bool
  | .Call _ _ _ _ => false
  | _ => true
def noslice : Expr → Bool
  | .Slice _ _ _ _ => false
  | _ => true
def nocomp : Expr → Bool
  | .ListComp _ _ _ _ => false
  | .SetComp _ _ _ _ => false
  | .DictComp _ _ _ _ _ => false
  | _ => true
/-- what may stand as a test -/
def tst : Expr → Bool
  | .Name _ _ => true
  | .Call _ _ _ _ => true
  | .Subscript _ _ _ => true
  | .Constant _ _ _ => true
  | .Compare _ _ _ _ => true
  | .UnaryOp .Not a _ => tst a
  | .BoolOp _ vs _ => tsts vs
  | _ => false
where tsts : List Expr → Bool
  | [] => true
  | a :: r => tst a && tsts r
def okName (x : Str) : Bool := !(x == ("__debug__" : Str)) && !(x == ("__classdict__" : Str)) && !(x == ("__name__" : Str))
def visK : Option NameKind → Bool
  | some .local => true
  | some .cell => true
  | some .free => true
  | _ => false
def locK : Option NameKind → Bool
  | some .local => true
  | some .cell => true
  | _ => false
def glK : Option NameKind → Bool
  | some .globalImplicit => true
  | _ => false
def isBuiltin (c : CK) (x : Str) : Bool := glK (c.names.lookup x) && c.bi.contains x && okName x
def op2Ok : Operator → Op2 → Bool
  | .Add, .add => true | .Sub, .sub => true | .Mult, .mul => true | .FloorDiv, .fdiv => true | .Mod, .mod => true | .Pow, .pow => true
  | _, _ => false
def cmOk : CmpOp → Cm → Bool
  | .Eq, .eq => true | .NotEq, .ne => true | .Lt, .lt => true | .Gt, .gt => true | .LtE, .le => true | .GtE, .ge => true | .In, .isin => true | .NotIn, .notin => true
  | .Is, .isN => true | .IsNot, .notN => true | .Is, .isB => true | .IsNot, .notB => true
  | _, _ => false
def biName : Bi → Option String
  | .len => some "len" | .sum => some "sum" | .all => some "all" | .any => some "any" | .abs => some "abs" | .int => some "int" | .bool => some "bool" | .list => some "list" | .tuple => some "tuple" | .min => some "min" | .max => some "max" | .sorted => some "sorted" | .str => some "str"
  | _ => none
def strOkB (y : Str) : Bool := decide (y.length ≤ 16777216) && PyData.strOk y
mutual
def chkP (c : CK) : Pat → Expr → Bool
  | .v i, .Name x _ => decide (c.N[i]? = some x) && c.sto.contains x
  | .t ps, .Tuple es _ _ => chkPs c ps es
  | _, _ => false
def chkPs (c : CK) : List Pat → List Expr → Bool
  | [], [] => true
  | p :: ps, e :: es => plainE e && chkP c p e && chkPs c ps es
  | _, _ => false
end
def scopeOf (names : List (Str × NameKind)) : Scope := { kind := .function, names := names, isGenerator := false, isCoroutine := false }
def ownN (c : CK) (own : List Nat) : List (Str × Nat) := own.map fun i => (c.N.getD i Str.empty, i)
def inner (c : CK) (scope : Scope) : CK := { c with names := (relS scope (scopeOf c.names)).names, sto := (scope.names.filter fun p => locK (some p.2)).map (·.1) }
def chkKey (c : CK) (it : It) (e : Expr) : Bool := match it with
  | .keys i => match e with
    | .Name x _ => decide (c.N[i]? = some x) && visK (c.names.lookup x) && okName x
    | _ => false
  | _ => false
mutual
def chkE : E → CK → Expr → Bool
  | .v i, c, e => match e with
    | .Name x _ => decide (c.N[i]? = some x) && visK (c.names.lookup x) && okName x
    | _ => false
  | .k d, c, e => match e, d with
    | .Constant (.int i) _ _, .int j => decide (i = j)
    | .Constant (.bool i) _ _, .bl j => decide (i = j)
    | .Constant .none _ _, .non => true
    | .Constant (.str x) _ _, .str y => decide (x = y) && strOkB y
    | .Name x _, .int j => glK (c.names.lookup x) && okName x && c.ki.contains (x, j)
    | .Name x _, .str y => glK (c.names.lookup x) && okName x && c.kt.contains (x, y) && strOkB y
    | _, _ => false
  | .tup irs, c, e => match e with
    | .Tuple es _ _ => chkEs irs c es && decide (irs.length ≤ 1000)
    | _ => false
  | .lst irs, c, e => match e with
    | .List es _ => chkEs irs c es && decide (irs.length ≤ 1000)
    | _ => false
  | .op o ia ib, c, e => match e with
    | .BinOp a op b _ => op2Ok op o && chkE ia c a && chkE ib c b
    | _ => false
  | .neg ia, c, e => match e with
    | .UnaryOp .USub a _ => chkE ia c a
    | _ => false
  | .not ia, c, e => match e with
    | .UnaryOp .Not a _ => chkE ia c a
    | _ => false
  | .and ia ib, c, e => match e with
    | .BoolOp .And [a, b] _ => chkE ia c a && chkE ib c b
    | .BoolOp .And (a :: b :: d :: r) pos => chkE ia c a && chkE ib c (.BoolOp .And (b :: d :: r) pos)
    | _ => false
  | .or ia ib, c, e => match e with
    | .BoolOp .Or [a, b] _ => chkE ia c a && chkE ib c b
    | .BoolOp .Or (a :: b :: d :: r) pos => chkE ia c a && chkE ib c (.BoolOp .Or (b :: d :: r) pos)
    | _ => false
  | .ite ic ia ib, c, e => match e with
    | .IfExp t a b _ => tst t && chkE ic c t && chkE ia c a && chkE ib c b
    | _ => false
  | .cmp o ia ib, c, e => match e with
    | .Compare a [op] [b] _ => cmOk op o && plainE b && chkE ia c a && chkE ib c b
    | _ => false
  | .chain o o' ia ib ic, c, e => match e with
    | .Compare a [op, op'] [b, d] _ => cmOk op o && cmOk op' o' && plainE b && plainE d && chkE ia c a && chkE ib c b && chkE ic c d
    | _ => false
  | .call fi irs, c, e => match e with
    | .Call (.Name x _) (a :: es) [] _ => c.defs.contains (x, fi, irs.length) && glK (c.names.lookup x) && okName x && (a :: es).all plainE && chkEs irs c (a :: es)
    | _ => false
  | .bi f irs, c, e => match e with
    | .Call (.Name x _) (a :: es) [] _ => (match biName f with | some n => decide (x = (n : Str)) | none => false) && isBuiltin c x && (a :: es).all plainE && chkEs irs c (a :: es)
    | .Call (.Attribute s m apos) [a] [] pos => (match f with | .join => decide (m = ("join" : Str)) | _ => false) && nocall s && plainE a && (apos.endLine == pos.line) && chkEs irs c [s, a]
    | _ => false
  | .isi ia t, c, e => match e with
    | .Call (.Name x _) [a, .Name y _] [] _ => decide (x = ("isinstance" : Str)) && decide (y = (nameT t : Str)) && isBuiltin c x && isBuiltin c y && plainE a && chkE ia c a
    | _ => false
  | .ix ia ib, c, e => match e with
    | .Subscript a b _ => noslice b && chkE ia c a && chkE ib c b
    | _ => false
  | .dget ia ib, c, e => match e with
    | .Subscript a b _ => noslice b && chkE ia c a && chkE ib c b
    | _ => false
  | .sl ia il ih, c, e => match e with
    | .Subscript a (.Slice lo hi none _) _ => chkE ia c a && chkO il c lo && chkO ih c hi
    | _ => false
  | .rev ia, c, e => match e with
    | .Subscript a (.Slice none none (some (.UnaryOp .USub (.Constant (.int 1) _ _) _)) _) _ => chkE ia c a
    | _ => false
  | .lc own ielt p it ifs, c, e => match e with
    | .ListComp elt [⟨tg, iter, ts, 0⟩] scope _ => blkC c.N (scopeOf c.names) scope (ownN c own) && ((pvars p).all fun i => own.contains i) && plainE iter && (chkKey c it iter || chkI it c tg iter) && chkP (inner c scope) p tg && chkTs ifs (inner c scope) ts && chkE ielt (inner c scope) elt
    | _ => false
  | .dict0 _, c, e => match e with
    | .Dict [] [] _ => true
    | _ => false
  | .din ia ib, c, e => match e with
    | .Compare a [.In] [b] _ => plainE b && chkE ia c a && chkE ib c b
    | _ => false
  | .dnin ia ib, c, e => match e with
    | .Compare a [.NotIn] [b] _ => plainE b && chkE ia c a && chkE ib c b
    | _ => false
  | .dzip ia ib, c, e => match e with
    | .Call (.Name x _) [.Call (.Name y _) [a, b] [] _] [] _ => decide (x = ("dict" : Str)) && decide (y = ("zip" : Str)) && isBuiltin c x && isBuiltin c y && plainE a && plainE b && chkE ia c a && chkE ib c b
    | _ => false
  | .disp ks irs, c, e => match e with
    | .Dict keys values _ => !ks.isEmpty && decide (ks.length ≤ 15) && chkK ks keys && chkEs irs c values && decide (ks.length = irs.length)
    | _ => false
  | .x1 f ia, c, e => match e with
    | .Call (.Name x _) [a] [] _ => isBuiltin c x && plainE a && (match f with
      | .dprs => decide (x = ("dict" : Str)) && chkE ia c a
      | .dcpy => decide (x = ("dict" : Str)) && chkE ia c a
      | .lrng => decide (x = ("list" : Str)) && (match a with
        | .Call (.Name y _) [b] [] _ => decide (y = ("range" : Str)) && isBuiltin c y && plainE b && chkE ia c b
        | _ => false)
      | .sset => decide (x = ("sorted" : Str)) && (match a with
        | .Call (.Name y _) [b] [] _ => decide (y = ("set" : Str)) && isBuiltin c y && plainE b && chkE ia c b
        | _ => false)
      | _ => false)
    | _ => false
  | .x2 f ia ib, c, e => match f with
    | .lrng2 => match e with
      | .Call (.Name x _) [.Call (.Name y _) [a, b] [] _] [] _ => decide (x = ("list" : Str)) && isBuiltin c x && decide (y = ("range" : Str)) && isBuiltin c y && plainE a && plainE b && chkE ia c a && chkE ib c b
      | _ => false
    | .one => match e with
      | .Dict [some a] [b] _ => chkE ia c a && chkE ib c b
      | _ => false
    | _ => false
  | .x3 f ia ib ic, c, e => match f with
    | .get => match e with
      | .Call (.Attribute a m apos) [b, d] [] pos => decide (m = ("get" : Str)) && nocall a && (apos.endLine == pos.line) && plainE b && plainE d && chkE ia c a && chkE ib c b && chkE ic c d
      | _ => false
def chkEs : List E → CK → List Expr → Bool
  | [], _, es => match es with
    | [] => true
    | _ => false
  | ir :: irs, c, es => match es with
    | e :: es => plainE e && chkE ir c e && chkEs irs c es
    | _ => false
def chkTs : List E → CK → List Expr → Bool
  | [], _, es => match es with
    | [] => true
    | _ => false
  | ir :: irs, c, es => match es with
    | [e] => tst e && chkE ir c e && irs.isEmpty
    | _ => false
def chkO : Option E → CK → Option Expr → Bool
  | none, _, e => match e with
    | none => true
    | _ => false
  | some ir, c, e => match e with
    | some e => chkE ir c e
    | _ => false
def chkI : It → CK → Expr → Expr → Bool
  | .seq ir, c, _, e => chkE ir c e
  | .rng1 ia, c, _, e => match e with
    | .Call (.Name x _) [a] [] _ => decide (x = ("range" : Str)) && isBuiltin c x && plainE a && chkE ia c a
    | _ => false
  | .rng2 ia ib, c, _, e => match e with
    | .Call (.Name x _) [a, b] [] _ => decide (x = ("range" : Str)) && isBuiltin c x && plainE a && plainE b && chkE ia c a && chkE ib c b
    | _ => false
  | .rng3 ia ib id, c, _, e => match e with
    | .Call (.Name x _) [a, b, d] [] _ => decide (x = ("range" : Str)) && isBuiltin c x && plainE a && plainE b && plainE d && chkE ia c a && chkE ib c b && chkE id c d
    | _ => false
  | .zip irs, c, tg, e => match tg, e with
    | .Tuple _ _ _, .Call (.Name x _) [a, b] [] _ => decide (x = ("zip" : Str)) && isBuiltin c x && plainE a && plainE b && decide (irs.length = 2) && chkEs irs c [a, b]
    | _, _ => false
  | .enum ia, c, tg, e => match tg, e with
    | .Tuple _ _ _, .Call (.Name x _) [a] [] _ => decide (x = ("enumerate" : Str)) && isBuiltin c x && plainE a && chkE ia c a
    | _, _ => false
  | .keys _, _, _, _ => false
def chkK : List Key → List (Option Expr) → Bool
  | [], ks => match ks with
    | [] => true
    | _ => false
  | k :: r, ks => match ks with
    | some (.Constant (.str x) _ _) :: ks => decide (k = .inr x) && chkK r ks
    | some (.Constant (.int x) _ _) :: ks => decide (k = .inl x) && chkK r ks
    | _ => false
end
structure CtxOk (X : Cx) (C : CallT) (c : CK) : Prop where
  N : X.N = c.N
  nd : X.N.Nodup
  calm : X.calm = true
  hu : Hu X
  names : X.env.scope.names = c.names
  kind : X.env.scope.kind = .function
  sto : ∀ x ∈ c.sto, Loc X.env.scope x ∧ (X.fn x = true ∨ X.env.scope.names.lookup x = some .local)
  bi : ∀ x ∈ c.bi, X.mg x = none
  ki : ∀ (x : Str) (i : Int), (x, i) ∈ c.ki → ∃ t, X.mg x = some (.int i t)
  kstr : ∀ (x y : Str), (x, y) ∈ c.kt → ∃ t, X.mg x = some (.str y t)
  defs : ∀ (x : Str) (fi np : Nat), (x, fi, np) ∈ c.defs → ∃ k, OkDef X.prog X.w X.K X.mg X.base x k C fi np ∧ Room k X.A
section
variable {X : Cx} {C : CallT} {c : CK}
theorem starEach_plain {e : Expr} (h : plainE e = true) (es : List Expr) (env : PySem.Env) : starEach (e :: es) env = (false, eval e env) :: starEach es env := by
  cases e <;> first | rfl | cases h
theorem stars_none : ∀ {es : List Expr} (h : es.all plainE = true) (pos : Pos) (env : PySem.Env), (backTo pos (starEach es env)).any (·.1) = false
  | [], _, _, _ => rfl
  | e :: es, h, pos, env => by
    rw [List.all_cons, Bool.and_eq_true] at h
    rw [starEach_plain h.1]
    exact stars_none h.2 pos env
theorem stars_all : ∀ {es : List Expr} (h : es.all plainE = true) (pos : Pos) (env : PySem.Env), (backTo pos (starEach es env)).all (fun x => !x.1) = true
  | [], _, _, _ => rfl
  | e :: es, h, pos, env => by
    rw [List.all_cons, Bool.and_eq_true] at h
    rw [starEach_plain h.1]
    exact stars_all h.2 pos env
theorem fold_plain {e : Expr} (h : plainE e = true) (env : PySem.Env) : ∀ x, foldedSetIterable e env x = pure x := by
  intro x
  cases e <;> first | rfl | cases h
theorem marks_plain {op : CmpOp} {e : Expr} (h : plainE e = true) : behindInMarks op e = false := by
  cases e <;> first | rfl | cases h
theorem ix_plain {e : Expr} (h : noslice e = true) : ∀ o i, subscripted e false o i = operate [o, i] (getItem o i) := by
  intro o i
  cases e <;> first | rfl | cases h
theorem base_plain {e : Expr} (h : nocall e = true) (m : Str) (env : PySem.Env) : attributeBase e m env (eval e env) = eval e env := by
  cases e <;> first | rfl | cases h
theorem okName_of {x : Str} (h : okName x = true) : (x == ("__debug__" : Str)) = false ∧ (x == ("__classdict__" : Str)) = false ∧ x ≠ "__name__" := by
  unfold okName at h
  simp only [Bool.and_eq_true, Bool.not_eq_true'] at h
  exact ⟨h.1.1, h.1.2, fun e => by have := h.2; rw [e] at this; simp at this⟩
theorem gl_of (K : CtxOk X C c) {x : Str} (h : glK (c.names.lookup x) = true) : Gl X x := by
  show X.env.scope.names.lookup x = some .globalImplicit
  rw [K.names]
  revert h
  cases c.names.lookup x with
  | none => intro h; cases h
  | some k => cases k <;> intro h <;> first | rfl | cases h
theorem vis_of (K : CtxOk X C c) {x : Str} (h : visK (c.names.lookup x) = true) : Vis X.env.scope x := by
  unfold Vis
  rw [K.names]
  revert h
  cases c.names.lookup x with
  | none => intro h; cases h
  | some k => cases k <;> intro h <;> first | exact .inl rfl | exact .inr (.inl rfl) | exact .inr (.inr rfl) | cases h
theorem blt_of (K : CtxOk X C c) {x : Str} (h : isBuiltin c x = true) : Gl X x ∧ X.mg x = none ∧ (x == ("__debug__" : Str)) = false ∧ x ≠ "__name__" := by
  unfold isBuiltin at h
  simp only [Bool.and_eq_true] at h
  exact ⟨gl_of K h.1.1, K.bi x (by simpa using h.1.2), (okName_of h.2).1, (okName_of h.2).2.2⟩
theorem chkEs_plain : ∀ {irs : List E} {es : List Expr}, chkEs irs c es = true → es.all plainE = true ∧ es.length = irs.length
  | [], [], _ => ⟨rfl, rfl⟩
  | [], _ :: _, h => by simp [chkEs] at h
  | _ :: _, [], h => by simp [chkEs] at h
  | ir :: irs, e :: es, h => by
    rw [chkEs] at h
    simp only [Bool.and_eq_true] at h
    have q := chkEs_plain h.2
    exact ⟨by rw [List.all_cons, h.1.1, q.1]; rfl, by rw [List.length_cons, List.length_cons, q.2]⟩
mutual
theorem chkP_ok {X : Cx} {C : CallT} {c : CK} (K : CtxOk X C c) : ∀ (p : Pat) (e : Expr), chkP c p e = true → VG X p e
  | .v i, e, h => by
    cases e with
    | Name x pos =>
      rw [chkP, Bool.and_eq_true, decide_eq_true_eq] at h
      have s := K.sto x (by simpa using h.2)
      exact vg_name K.nd (by rw [K.N]; exact h.1) s.1 s.2
    | _ => simp [chkP] at h
  | .t ps, e, h => by
    cases e with
    | Tuple es k pos =>
      rw [chkP] at h
      obtain ⟨g, hl, hs, hf⟩ := chkPs_ok K ps es h
      exact vg_tup (n := es.length) K.calm g hl.symm hs hf
    | _ => simp [chkP] at h
theorem chkPs_ok {X : Cx} {C : CallT} {c : CK} (K : CtxOk X C c) : ∀ (ps : List Pat) (es : List Expr), chkPs c ps es = true → VGs X ps es ∧ es.length = ps.length ∧ (assignEach es X.env).length = es.length ∧ (assignEach es X.env).findIdx? (·.1) = none
  | [], es, h => by
    cases es with
    | nil => exact ⟨vgs_nil, rfl, rfl, rfl⟩
    | cons e es => simp [chkPs] at h
  | p :: ps, es, h => by
    cases es with
    | nil => simp [chkPs] at h
    | cons e es =>
      rw [chkPs] at h
      simp only [Bool.and_eq_true] at h
      obtain ⟨g, hl, hs, hf⟩ := chkPs_ok K ps es h.2
      have ea : assignEach (e :: es) X.env = (false, assign e X.env) :: assignEach es X.env := by
        cases e <;> first | rfl | cases h.1.1
      refine ⟨vgs_cons (chkP_ok K p e h.1.2) g (by rw [ea]; rfl), by rw [List.length_cons, List.length_cons, hl], by rw [ea, List.length_cons, List.length_cons, hs], ?_⟩
      rw [ea, List.findIdx?_cons, hf]
      rfl
end
end
end Fw

namespace Fw
open PySem L2
/-! ### further constructs -/
theorem reps_range {K : PySem.W.Frag} {G : Hp} (lo : Int) : ∀ l : List Nat, Reps K G (l.map fun i => V.int (lo + (i : Nat))) (l.map fun k : Nat => D.int (lo + k))
  | [] => .nil
  | i :: r => .cons (.int _) (reps_range lo r)
theorem rgV_reps {K : PySem.W.Frag} {G : Hp} (i j : Int) : Reps K G (rgV i j) ((List.range (j - i).toNat).map fun k : Nat => D.int (i + k)) := reps_range i _
theorem rng_guard {i j : Int} {l : List D} (h : rangeD i j = .ok l) : RgOk i j ∧ l = ((List.range (j - i).toNat).map fun k : Nat => D.int (i + k)) := by
  unfold rangeD at h
  obtain ⟨hc, h⟩ := R.of_guard h
  simp only [Bool.and_eq_true, decide_eq_true_eq] at hc
  cases h
  exact ⟨⟨by omega, by omega, by omega, by omega, by omega⟩, rfl⟩
/-- a dict that is not one of lists of its own -/
theorem Out.rcK {B : Bs} {K : PySem.W.Frag} {H : Hp} {kvs : List (Key × D)} {v : V} {G' H' : Hp} (s : Same G' H') : ∀ {k : Kd}, notB2 k = true → Out B K H (.dK kvs) v G' H' k → ∃ a vs, v = .ref a ∧ Rd H' a (.dK vs) ∧ vs.length ≤ sizeLine ∧ RepK K G' vs kvs
  | .sh, _, h => by
    have h' : Rep K G' v (.dK kvs) := h
    cases h' with
    | dK h1 h2 h3 => exact ⟨_, _, rfl, Same.rd s h1, h2, h3⟩
  | .nw, _, ⟨p, e, _, _, vs, h1, h2, h3⟩ => ⟨p, vs, e, .inl h1, h2, h3⟩
  | .bw, _, ⟨p, e, _, _, vs, h1, h2, h3⟩ => ⟨p, vs, e, .inl h1, h2, h3⟩
  | .b2, h, _ => nomatch h
theorem Out.rcT {B : Bs} {K : PySem.W.Frag} {H : Hp} {kvs : List (List Key × D)} {v : V} {G' H' : Hp} (s : Same G' H') : ∀ {k : Kd}, notB2 k = true → Out B K H (.dT kvs) v G' H' k → ∃ a vs, v = .ref a ∧ Rd H' a (.dT vs) ∧ vs.length ≤ sizeLine ∧ RepT K G' vs kvs
  | .sh, _, h => by
    have h' : Rep K G' v (.dT kvs) := h
    cases h' with
    | dT h1 h2 h3 => exact ⟨_, _, rfl, Same.rd s h1, h2, h3⟩
  | .nw, _, ⟨p, e, _, _, vs, h1, h2, h3⟩ => ⟨p, vs, e, .inl h1, h2, h3⟩
  | .bw, _, ⟨p, e, _, _, vs, h1, h2, h3⟩ => ⟨p, vs, e, .inl h1, h2, h3⟩
  | .b2, h, _ => nomatch h
theorem pairs_of {K : PySem.W.Frag} {G : Hp} : ∀ {vs : List V} {ds : List D} {l : List (Key × D)}, Reps K G vs ds → pairsD ds = .ok l → ∃ (ps : List Addr) (kvs : List (Key × V)), vs = ps.map V.ref ∧ Paired (fun p kv => G p = some (.tup [kV kv.1, kv.2])) ps kvs ∧ RepK K G kvs l
  | _, [], _, .nil, h => by cases h; exact ⟨[], [], rfl, .nil, .nil⟩
  | _, d :: ds, l, .cons (v := v) (vs := vs) rd r, h => by
    unfold pairsD at h
    split at h
    · rename_i e
      cases e
    · rename_i k0 v0 r0 e
      cases e
      obtain ⟨k, hk, h⟩ := R.of_bind h
      obtain ⟨l', hl, h⟩ := R.of_bind h
      cases h
      obtain ⟨ps, kvs, rfl, pr, rk⟩ := pairs_of r hl
      cases rd with
      | tup h1 h2 h3 =>
        cases h3 with
        | cons q1 h3 =>
        cases h3 with
        | cons q2 h3 =>
        cases h3
        have e := keys_of (l := [k]) (.cons q1 .nil) (by rw [keysD, hk, R.bind_ok, keysD, R.bind_ok])
        have e2 := List.head_eq_of_cons_eq e
        rw [e2] at h1
        exact ⟨_ :: ps, (k, _) :: kvs, rfl, .cons h1 pr, .cons q2 rk⟩
    · cases h
section
variable {X : Cx} {C : CallT}
/-- list(range(a)) -/
theorem ve_lrng1 {a : Expr} {ia : E} {p p2 pos2 pos : Pos} (hc : X.calm = true) (hg : Gl X "list") (hm : X.mg "list" = none) (hg2 : Gl X "range") (hm2 : X.mg "range" = none) (h : VE X C a ia) (hp : plainE a = true) :
    VE X C (.Call (.Name "list" p) [.Call (.Name "range" p2) [a] [] pos2] [] pos) (.x1 .lrng ia) := by
  obtain ⟨t, pa, f⟩ := h
  refine ⟨_, pe_listRg hc hg hm (prg_1 hg2 hm2 pa (starEach_plain hp _ _)), fun B ρ σ G H Q d k S he hq => ?_⟩
  rw [evE] at he
  obtain ⟨⟨x, kx⟩, hx, he⟩ := R.of_bind he
  obtain ⟨_, he⟩ := R.of_guard he
  obtain ⟨j, rfl⟩ : ∃ j, x = .int j := by cases x <;> first | exact ⟨_, rfl⟩ | cases he
  obtain ⟨l, hl, he⟩ := R.of_bind he
  cases he
  obtain ⟨ok, rfl⟩ := rng_guard hl
  refine f B ρ σ G H _ _ kx S hx fun v G1 H1 st o => ?_
  have r := o.rc st.sub
  cases r
  exact ⟨j, rfl, ok, out_new (B := B) st.sub (by rw [rgV_length, sizeLine_eq]; have := ok.2.2.2.2; omega) (rgV_reps 0 j) fun v G4 H4 st4 o4 => hq v G4 H4 (st.trans st4) (o4.back st.h)⟩
theorem ve_lrng2 {a b : Expr} {ia ib : E} {p p2 pos2 pos : Pos} (hc : X.calm = true) (hg : Gl X "list") (hm : X.mg "list" = none) (hg2 : Gl X "range") (hm2 : X.mg "range" = none) (h : VE X C a ia) (h2 : VE X C b ib) (hp : plainE a = true) (hp2 : plainE b = true) (hpl : (backTo pos2 (starEach [b] X.env)).any (·.1) = false) :
    VE X C (.Call (.Name "list" p) [.Call (.Name "range" p2) [a, b] [] pos2] [] pos) (.x2 .lrng2 ia ib) := by
  obtain ⟨t, pa, f⟩ := h
  obtain ⟨t2, pb, f2⟩ := h2
  refine ⟨_, pe_listRg hc hg hm (prg_2 hg2 hm2 pa pb (starEach_plain hp _ _) (starEach_plain hp2 _ _) hpl), fun B ρ σ G H Q d k S he hq => ?_⟩
  rw [evE] at he
  obtain ⟨⟨x, kx⟩, hx, he⟩ := R.of_bind he
  obtain ⟨⟨y, ky⟩, hy, he⟩ := R.of_bind he
  obtain ⟨_, he⟩ := R.of_guard he
  obtain ⟨i, rfl⟩ : ∃ j, x = .int j := by cases x <;> first | exact ⟨_, rfl⟩ | cases he
  obtain ⟨j, rfl⟩ : ∃ j, y = .int j := by cases y <;> first | exact ⟨_, rfl⟩ | cases he
  obtain ⟨l, hl, he⟩ := R.of_bind he
  cases he
  obtain ⟨ok, rfl⟩ := rng_guard hl
  refine f B ρ σ G H _ _ kx S hx fun v G1 H1 st o => ?_
  refine f2 B ρ σ G1 H1 _ _ ky (S.step st) hy fun u G2 H2 st2 o2 => ?_
  have r := o.rc st.sub
  have r2 := o2.rc st2.sub
  cases r
  cases r2
  have tot := st.trans st2
  exact ⟨i, j, rfl, rfl, ok, out_new (B := B) st2.sub (by rw [rgV_length, sizeLine_eq]; have := ok.2.2.2.2; omega) (rgV_reps i j) fun v G4 H4 st4 o4 => hq v G4 H4 (tot.trans st4) (o4.back tot.h)⟩
/-- dict(pairs), dict(d) -/
theorem ve_dprs {a : Expr} {ia : E} {x : Str} {p pos : Pos} (hx : x = "dict") (hc : X.calm = true) (hg : Gl X x) (hm : X.mg x = none) (h : VE X C a ia) (hp : plainE a = true) :
    VE X C (.Call (.Name x p) [a] [] pos) (.x1 .dprs ia) := by
  subst hx
  obtain ⟨t, pa, fa⟩ := h
  refine ⟨_, pe_callTy (call_dictP hc) hg hm (by decide +kernel) (pa_cons pa pa_nil (starEach_plain hp _ _)) (by decide) (by decide) (starEach_plain hp _ _) (by rfl), fun B ρ σ G H Q d k S he hq => ?_⟩
  rw [evE] at he
  obtain ⟨⟨x, kx⟩, hx, he⟩ := R.of_bind he
  obtain ⟨hk, he⟩ := R.of_guard he
  obtain ⟨xs, rfl⟩ : ∃ xs, x = .lst xs := by cases x <;> first | exact ⟨_, rfl⟩ | cases he
  obtain ⟨l, hl, he⟩ := R.of_bind he
  cases he
  refine fa B ρ σ G H _ _ kx S hx fun v G1 H1 st o => ?_
  obtain ⟨b, vs, rfl, h1, h2, h3⟩ := o.rc st.sub
  obtain ⟨ps, kvs, rfl, pr, rk⟩ := pairs_of h3 hl
  refine ⟨b, ps, kvs, rfl, h1, L2.Paired.mapP pr fun p kv h => .of (st.sub _ _ h), fun q hq0 => ?_⟩
  refine hq (.ref q) G1 _ (st.trans (Step.newH st.sub hq0)) ⟨q, rfl, st.h.free hq0, st.sub.free hq0, _, upd_same, ?_, RepK.merge .nil rk⟩
  refine Nat.le_trans (mergeK_len _ _) ?_
  rw [List.length_nil, Nat.zero_add, ← pr.length]
  rw [List.length_map] at h2
  exact h2
theorem ve_dcpy {a : Expr} {ia : E} {x : Str} {p pos : Pos} (hx : x = "dict") (hg : Gl X x) (hm : X.mg x = none) (h : VE X C a ia) (hp : plainE a = true) :
    VE X C (.Call (.Name x p) [a] [] pos) (.x1 .dcpy ia) := by
  subst hx
  obtain ⟨t, pa, fa⟩ := h
  refine ⟨_, pe_callTy call_dictD hg hm (by decide +kernel) (pa_cons pa pa_nil (starEach_plain hp _ _)) (by decide) (by decide) (starEach_plain hp _ _) (by rfl), fun B ρ σ G H Q d k S he hq => ?_⟩
  rw [evE] at he
  obtain ⟨⟨x, kx⟩, hx, he⟩ := R.of_bind he
  obtain ⟨hk, he⟩ := R.of_guard he
  obtain ⟨kvs, rfl⟩ : ∃ kvs, x = .dK kvs := by cases x <;> first | exact ⟨_, rfl⟩ | cases he
  cases he
  refine fa B ρ σ G H _ _ kx S hx fun v G1 H1 st o => ?_
  obtain ⟨b, vs, rfl, h1, h2, h3⟩ := o.rcK st.sub hk
  refine ⟨b, vs, rfl, h1, fun q hq0 => ?_⟩
  exact hq (.ref q) G1 _ (st.trans (Step.newH st.sub hq0)) ⟨q, rfl, st.h.free hq0, st.sub.free hq0, _, upd_same, h2, h3⟩
/-- {k: v} -/
theorem ve_dict1 {a b : Expr} {ia ib : E} {pos : Pos} (h : VE X C a ia) (h2 : VE X C b ib) : VE X C (.Dict [some a] [b] pos) (.x2 .one ia ib) := by
  obtain ⟨t, pa, f⟩ := h
  obtain ⟨t2, pb, f2⟩ := h2
  refine ⟨_, pe_disp (pps_cons pa pb pps_nil) rfl rfl (by simp) (by simp), fun B ρ σ G H Q d k S he hq => fun p hp => ?_⟩
  rw [evE] at he
  obtain ⟨⟨x, kx⟩, hx, he⟩ := R.of_bind he
  obtain ⟨⟨y, ky⟩, hy, he⟩ := R.of_bind he
  obtain ⟨hk, he⟩ := R.of_guard he
  rw [Bool.and_eq_true] at hk
  obtain ⟨κ, hκ, he⟩ := R.of_bind (show (keyD x).bind _ = _ from he)
  cases he
  have s0 : Step G H G (L2.upd H p (.dK [])) := Step.newH S.sub hp
  refine f B ρ σ G _ _ x kx (S.step s0) hx fun v G1 H1 st o1 => ?_
  refine f2 B ρ σ G1 H1 _ y ky (S.step (s0.trans st)) hy fun u G2' H2 st2' o2' => ?_
  obtain ⟨G2, st2, ru⟩ := o2'.share st2' hk.2
  have ek := key_of ((o1.rc st.sub).step st2) hκ
  have tot := (s0.trans st).trans st2
  have h1 : H2 p = some (.dK []) := tot.h.trans (Same.refl _) |> fun _ => (st.trans st2).h _ _ upd_same
  have g1 : G2 p = none := (st.trans st2).none (S.sub.free hp) ⟨_, upd_same, fun _ z => nomatch z⟩
  refine ⟨h1, [(κ, u)], by rw [ek]; rfl, ?_, ?_⟩
  · simp
  have e1 : mergeK [] [(κ, u)] = [(κ, u)] := rfl
  rw [e1]
  have s2 : Step G H G2 (L2.upd H2 p (.dK [(κ, u)])) := by
    refine ⟨tot.g, fun b w e => ?_, fun b w e => ?_, tot.new⟩
    · rw [upd_ne (fun z => by subst z; rw [hp] at e; cases e)]; exact tot.h _ _ e
    · rw [upd_ne (fun z => by subst z; rw [g1] at e; cases e)]; exact tot.sub _ _ e
  exact hq (.ref p) G2 _ s2 ⟨p, rfl, hp, g1, _, upd_same, by rw [sizeLine_eq]; simp, .cons ru .nil⟩
/-- d.get(k, x) -/
theorem ve_get2 {a b e : Expr} {ia ib ie : E} {apos pos : Pos} (hu : X.A.units + 1 < cLine) (m : M2 X a "get" apos b e pos) (h : VE X C a ia) (h2 : VE X C b ib) (h3 : VE X C e ie) : VE X C (.Call (.Attribute a "get" apos) [b, e] [] pos) (.x3 .get ia ib ie) := by
  obtain ⟨t, pa, f⟩ := h
  obtain ⟨t2, pb, f2⟩ := h2
  obtain ⟨t3, pc, f3⟩ := h3
  refine ⟨_, pe_dget2 hu pa pb pc m, fun B ρ σ G H Q d k S he hq => ?_⟩
  rw [evE] at he
  obtain ⟨⟨x, kx⟩, hx, he⟩ := R.of_bind he
  obtain ⟨⟨y, ky⟩, hy, he⟩ := R.of_bind he
  obtain ⟨⟨z, kz⟩, hz, he⟩ := R.of_bind he
  obtain ⟨hk, he⟩ := R.of_guard he
  rw [Bool.and_eq_true] at hk
  refine f B ρ σ G H _ x kx S hx fun v G1 H1 st o1 => ?_
  have hxx : (∃ kvs, x = .dK kvs) ∨ ∃ kvs ks, x = .dT kvs ∧ y = .tup ks := by
    cases x <;> (first | exact .inl ⟨_, rfl⟩ | (cases y <;> first | exact .inr ⟨_, _, rfl, rfl⟩ | cases he))
  rcases hxx with ⟨kvs, rfl⟩ | ⟨kvs, ks, rfl, rfl⟩
  · 
    obtain ⟨κ, hκ, he⟩ := R.of_bind (show (keyD y).bind _ = _ from he)
    cases he
    obtain ⟨p, vs, rfl, q1, q2, q3⟩ := o1.rcK st.sub hk.1
    refine ⟨p, rfl, .inl ⟨_, q1⟩, f2 B ρ σ G1 H1 _ y ky (S.step st) hy fun u G2 H2 st2 o2 => ?_⟩
    refine f3 B ρ σ G2 H2 _ z kz (S.step (st.trans st2)) hz fun w G3' H3 st3' o3' => ?_
    obtain ⟨G3, st3, rw3⟩ := o3'.share st3' hk.2
    have tot := (st.trans st2).trans st3
    have s23 := st2.trans st3
    have ek := key_of ((o2.rc st2.sub).step st3) hκ
    have q3' := q3.mono s23.g
    refine ⟨valV vs κ, .inl ⟨vs, κ, Same.rd s23.h q1, ek, rfl⟩, hq _ G3 H3 tot ?_⟩
    cases hv : valK kvs κ with
    | some d0 =>
      obtain ⟨w0, e0, r0⟩ := q3'.valK hv
      rw [e0]
      exact r0
    | none =>
      have e0 := q3'.isSome (κ := κ)
      rw [hv] at e0
      cases e1 : valV vs κ with
      | some _ => rw [e1] at e0; cases e0
      | none => exact rw3
  · 
    obtain ⟨κ, hκ, he⟩ := R.of_bind (show (keysD ks).bind _ = _ from he)
    cases he
    obtain ⟨p, vs, rfl, q1, q2, q3⟩ := o1.rcT st.sub hk.1
    refine ⟨p, rfl, .inr ⟨_, q1⟩, f2 B ρ σ G1 H1 _ _ ky (S.step st) hy fun u G2 H2 st2 o2 => ?_⟩
    refine f3 B ρ σ G2 H2 _ z kz (S.step (st.trans st2)) hz fun w G3' H3 st3' o3' => ?_
    obtain ⟨G3, st3, rw3⟩ := o3'.share st3' hk.2
    have tot := (st.trans st2).trans st3
    have s23 := st2.trans st3
    obtain ⟨b, ws, rfl, w1, w2, w3⟩ := (o2.rc st2.sub).step st3
    have ek := keys_of w3 hκ
    subst ek
    have q3' := q3.mono s23.g
    refine ⟨valV vs κ, .inr ⟨vs, κ, b, Same.rd s23.h q1, rfl, st3.sub _ _ w1, rfl⟩, hq _ G3 H3 tot ?_⟩
    cases hv : valK kvs κ with
    | some d0 =>
      obtain ⟨w0, e0, r0⟩ := q3'.valK hv
      rw [e0]
      exact r0
    | none =>
      have e0 := q3'.isSome (κ := κ)
      rw [hv] at e0
      cases e1 : valV vs κ with
      | some _ => rw [e1] at e0; cases e0
      | none => exact rw3
end
end Fw

namespace Fw
open PySem L2
/-! ### a dict is locked while it is walked -/
def isDct : HO → Prop
  | .dK _ => True
  | .dT _ => True
  | _ => False
theorem isDct.mut {u : HO} (h : isDct u) : Mut (some u) := by cases u <;> first | trivial | exact h.elim
/-- but for what stands at d the same; there a dict, locked or not -/
def Lk (d : Addr) (u : HO) (G G1 : Hp) : Prop := ∀ a o, G a = some o → (a = d → Rd G1 d u ∧ (o = u ∨ ∃ od, o = .frz od u)) ∧ (a ≠ d → G1 a = some o)
section
variable {K : PySem.W.Frag} {G G1 H H1 : Hp} {d : Addr} {u : HO}
theorem Lk.lst (hu : isDct u) (s : Lk d u G G1) {a : Addr} {xs : List V} (h : SqL K G a xs) : SqL K G1 a xs := by
  rcases h with (h | ⟨o, h⟩) | h
  · refine .inl (.inl ((s a _ h).2 fun e => ?_))
    rcases ((s a _ h).1 e).2 with e | ⟨od, e⟩
    · subst e; exact hu
    · cases e
  · refine .inl (.inr ⟨o, (s a _ h).2 fun e => ?_⟩)
    rcases ((s a _ h).1 e).2 with e | ⟨od, e⟩
    · subst e; exact hu
    · cases e; exact hu
  · exact .inr h
theorem Lk.tup (hu : isDct u) (s : Lk d u G G1) {a : Addr} {xs : List V} (h : G a = some (.tup xs)) : G1 a = some (.tup xs) := by
  refine (s a _ h).2 fun e => ?_
  rcases ((s a _ h).1 e).2 with e | ⟨od, e⟩
  · subst e; exact hu
  · cases e
theorem Lk.rdd (hu : isDct u) (s : Lk d u G G1) {a : Addr} {w : HO} (hw : ∀ od x, w ≠ .frz od x) (h : Rd G a w) : Rd G1 a w := by
  by_cases e : a = d
  · subst e
    rcases h with h | ⟨o, h⟩
    · obtain ⟨r, z⟩ := (s a _ h).1 rfl
      rcases z with rfl | ⟨od, z⟩
      · exact r
      · exact absurd z (hw _ _)
    · obtain ⟨r, z⟩ := (s a _ h).1 rfl
      rcases z with z | ⟨od, z⟩
      · subst z
        exact hu.elim
      · cases z; exact r
  · rcases h with h | ⟨o, h⟩
    · exact .inl ((s a _ h).2 e)
    · exact .inr ⟨o, (s a _ h).2 e⟩
end
theorem Lk.rdK {G G1 : Hp} {d : Addr} {u : HO} (hu : isDct u) (s : Lk d u G G1) {a : Addr} {kvs : List (Key × V)} (h : Rd G a (.dK kvs)) : Rd G1 a (.dK kvs) := s.rdd hu (fun _ _ z => nomatch z) h
theorem Lk.rdT {G G1 : Hp} {d : Addr} {u : HO} (hu : isDct u) (s : Lk d u G G1) {a : Addr} {kvs : List (List Key × V)} (h : Rd G a (.dT kvs)) : Rd G1 a (.dT kvs) := s.rdd hu (fun _ _ z => nomatch z) h
mutual
theorem Rep.lk {K : PySem.W.Frag} {G G1 : Hp} {d : Addr} {u : HO} (hu : isDct u) (s : Lk d u G G1) : ∀ {v : V} {x : D}, Rep K G v x → Rep K G1 v x
  | _, _, .non => .non
  | _, _, .bl b => .bl b
  | _, _, .int i => .int i
  | _, _, .str x h => .str x h
  | _, _, .lst h1 h2 h3 => .lst (Lk.lst hu s h1) h2 (Reps.lk hu s h3)
  | _, _, .tup h1 h2 h3 => .tup (Lk.tup hu s h1) h2 (Reps.lk hu s h3)
  | _, _, .dK h1 h2 h3 => .dK (Lk.rdK hu s h1) h2 (RepK.lk hu s h3)
  | _, _, .dT h1 h2 h3 => .dT (Lk.rdT hu s h1) h2 (RepT.lk hu s h3)
theorem Reps.lk {K : PySem.W.Frag} {G G1 : Hp} {d : Addr} {u : HO} (hu : isDct u) (s : Lk d u G G1) : ∀ {vs : List V} {ds : List D}, Reps K G vs ds → Reps K G1 vs ds
  | _, _, .nil => .nil
  | _, _, .cons h t => .cons (Rep.lk hu s h) (Reps.lk hu s t)
theorem RepK.lk {K : PySem.W.Frag} {G G1 : Hp} {d : Addr} {u : HO} (hu : isDct u) (s : Lk d u G G1) : ∀ {vs : List (Key × V)} {ds : List (Key × D)}, RepK K G vs ds → RepK K G1 vs ds
  | _, _, .nil => .nil
  | _, _, .cons h t => .cons (Rep.lk hu s h) (RepK.lk hu s t)
theorem RepT.lk {K : PySem.W.Frag} {G G1 : Hp} {d : Addr} {u : HO} (hu : isDct u) (s : Lk d u G G1) : ∀ {vs : List (List Key × V)} {ds : List (List Key × D)}, RepT K G vs ds → RepT K G1 vs ds
  | _, _, .nil => .nil
  | _, _, .cons h t => .cons (Rep.lk hu s h) (RepT.lk hu s t)
end
section
variable {K : PySem.W.Frag} {G G1 H H1 : Hp} {d : Addr} {u : HO}
theorem Cont.lk (hu : isDct u) (s : Lk d u G G1) {p : Addr} (hp : H1 p = H p) : ∀ {x : D}, Cont K G H p x → Cont K G1 H1 p x
  | .lst _, ⟨vs, a, b, c⟩ => ⟨vs, hp.trans a, b, c.lk hu s⟩
  | .dK _, ⟨vs, a, b, c⟩ => ⟨vs, hp.trans a, b, c.lk hu s⟩
  | .dT _, ⟨vs, a, b, c⟩ => ⟨vs, hp.trans a, b, c.lk hu s⟩
  | .non, h => h.elim
  | .bl _, h => h.elim
  | .int _, h => h.elim
  | .str _, h => h.elim
  | .tup _, h => h.elim
theorem Own2.lk (hu : isDct u) (s : Lk d u G G1) : ∀ {kvs : List (Key × V)} {dvs : List (Key × D)} {qs : List Addr}, Own2 K G H kvs dvs qs → (∀ a ∈ qs, H1 a = H a) → Own2 K G1 H1 kvs dvs qs
  | _, _, _, .nil, _ => .nil
  | _, _, _, .cons a b c t, h => .cons ((h _ List.mem_cons_self).trans a) b (c.lk hu s) (t.lk hu s fun x hx => h x (List.mem_cons_of_mem _ hx))
theorem Root.lk (hu : isDct u) (s : Lk d u G G1) : ∀ {n : Nat} {p : Addr} {x : D} {A : List Addr}, Root K n G H p x A → (∀ a ∈ A, H1 a = H a ∧ G1 a = none) → Root K n G1 H1 p x A
  | 0, _, _, _, h, _ => h.elim
  | 1, _, _, _, ⟨e, n, c⟩, h => ⟨e, (h _ (by subst e; exact List.mem_singleton_self _)).2, c.lk hu s (h _ (by subst e; exact List.mem_singleton_self _)).1⟩
  | _ + 2, _, _, _, ⟨kvs, dvs, qs, a, b, c, n, g, l, t⟩, h => ⟨kvs, dvs, qs, a, b, c, fun z hz => (h z hz).2, (h _ (by subst b; exact List.mem_cons_self)).1.trans g, l, t.lk hu s fun x hx => (h x (by subst b; exact List.mem_cons_of_mem _ hx)).1⟩
end
section
variable {K : PySem.W.Frag} {G H : Hp} {d : Addr} {u : HO} {B : Bs} {fp : Nat → List Addr} {ρ : Env} {σ : St} {od : Obj}
def Bs.lk (B : Bs) (d : Addr) (od : Obj) (u : HO) : Bs := ⟨L2.upd B.G d (.frz od u), L2.upd B.H d (.frz od u)⟩
theorem lk_on (hG : G d = some u) : Lk d u G (L2.upd G d (.frz od u)) := fun a o h => ⟨fun e => ⟨.inr ⟨od, upd_same⟩, by subst e; rw [hG] at h; cases h; exact .inl rfl⟩, fun e => by rw [upd_ne e]; exact h⟩
theorem lk_off (hG : G d = some (.frz od u)) : Lk d u G (L2.upd G d u) := fun a o h => ⟨fun e => ⟨.inl upd_same, by subst e; rw [hG] at h; cases h; exact .inr ⟨_, rfl⟩⟩, fun e => by rw [upd_ne e]; exact h⟩
theorem root_none : ∀ {n : Nat} {p : Addr} {x : D} {A : List Addr}, Root K n G H p x A → ∀ a ∈ A, G a = none
  | 0, _, _, _, h => h.elim
  | 1, _, _, _, ⟨e, n, _⟩ => fun a ha => by rw [e, List.mem_singleton] at ha; subst ha; exact n
  | _ + 2, _, _, _, ⟨_, _, _, _, _, _, n, _⟩ => n
theorem SimF.lock (hu : isDct u) (s : SimF B K fp ρ σ G H) (hG : G d = some u) : SimF (B.lk d od u) K fp ρ σ (L2.upd G d (.frz od u)) (L2.upd H d (.frz od u)) where
  sub := fun a o h => by
    by_cases e : a = d
    · subst e; rw [upd_same] at h ⊢; exact h
    · rw [upd_ne e] at h ⊢; exact s.sub a o h
  extG := fun a o h => by
    by_cases e : a = d
    · subst e
      have h' : L2.upd B.G a (.frz od u) a = some o := h
      rw [upd_same] at h' ⊢; exact h'
    · have h' : L2.upd B.G d (.frz od u) a = some o := h
      rw [upd_ne e] at h' ⊢; exact s.extG a o h'
  extH := fun a o h => by
    by_cases e : a = d
    · subst e
      have h' : L2.upd B.H a (.frz od u) a = some o := h
      rw [upd_same] at h' ⊢; exact h'
    · have h' : L2.upd B.H d (.frz od u) a = some o := h
      rw [upd_ne e] at h' ⊢; exact s.extH a o h'
  nG := fun a o h => by
    by_cases e : a = d
    · subst e
      rw [upd_same] at h
      refine .inl ?_
      show L2.upd B.G a (.frz od u) a = some o
      rw [upd_same]; exact h
    · rw [upd_ne e] at h
      rcases s.nG a o h with h | h | h
      · refine .inl ?_
        show L2.upd B.G d (.frz od u) a = some o
        rw [upd_ne e]; exact h
      · refine .inr (.inl ?_)
        show L2.upd B.H d (.frz od u) a = none
        rw [upd_ne e]; exact h
      · exact .inr (.inr h)
  len := s.len
  sh := fun i x h => let ⟨v, e, r⟩ := s.sh i x h; ⟨v, e, r.lk hu (lk_on hG)⟩
  own := fun i x n h => by
    obtain ⟨⟨p, e, r⟩, q⟩ := s.own i x n h
    have hne : ∀ a ∈ fp i, a ≠ d := fun a ha z => by
      have := root_none r a ha
      subst z
      rw [hG] at this; cases this
    refine ⟨⟨p, e, r.lk hu (lk_on hG) fun a ha => ⟨upd_ne (hne a ha), by rw [upd_ne (hne a ha)]; exact root_none r a ha⟩⟩, fun a ha => ?_⟩
    show L2.upd B.H d (.frz od u) a = none
    rw [upd_ne (hne a ha)]; exact q a ha
  ne := s.ne
/-- what is known of the ground at d -/
structure LkB (B : Bs) (d : Addr) (u : HO) : Prop where
  g : ∀ o, B.G d = some o → o = u
  h : ∀ o, B.H d = some o → o = u
  n : B.G d = some u ∨ B.H d = none
theorem SimF.lkB (hu : isDct u) (s : SimF B K fp ρ σ G H) (hG : G d = some u) : LkB B d u := by
  refine ⟨fun o h => ?_, fun o h => ?_, ?_⟩
  · have := s.extG _ _ h
    rw [hG] at this; cases this; rfl
  · have h1 := s.extH _ _ h
    have h2 := s.sub _ _ hG
    rw [h2] at h1; cases h1; rfl
  · rcases s.nG _ _ hG with h | h | ⟨xs, h⟩
    · exact .inl h
    · exact .inr h
    · subst h; exact hu.elim
theorem lkB_step {G2 H2 : Hp} (b : LkB B d u) (t : Step (B.lk d od u).G (B.lk d od u).H G2 H2) : Step B.G B.H (L2.upd G2 d u) (L2.upd H2 d u) where
  g := fun a o h => by
    by_cases e : a = d
    · subst e; rw [upd_same, b.g o h]
    · rw [upd_ne e]
      refine t.g a o ?_
      show L2.upd B.G d (.frz od u) a = some o
      rw [upd_ne e]; exact h
  h := fun a o h => by
    by_cases e : a = d
    · subst e; rw [upd_same, b.h o h]
    · rw [upd_ne e]
      refine t.h a o ?_
      show L2.upd B.H d (.frz od u) a = some o
      rw [upd_ne e]; exact h
  sub := fun a o h => by
    by_cases e : a = d
    · subst e; rw [upd_same] at h ⊢; exact h
    · rw [upd_ne e] at h ⊢; exact t.sub a o h
  new := fun a o h => by
    by_cases e : a = d
    · subst e
      rw [upd_same] at h
      cases h
      rcases b.n with z | z
      · exact .inl z
      · exact .inr (.inl z)
    · rw [upd_ne e] at h
      rcases t.new a o h with h | h | h
      · have h' : L2.upd B.G d (.frz od u) a = some o := h
        rw [upd_ne e] at h'; exact .inl h'
      · have h' : L2.upd B.H d (.frz od u) a = none := h
        rw [upd_ne e] at h'; exact .inr (.inl h')
      · exact .inr (.inr h)
theorem lk_at {G2 H2 : Hp} (t : Step (B.lk d od u).G (B.lk d od u).H G2 H2) : G2 d = some (.frz od u) ∧ H2 d = some (.frz od u) := ⟨t.g _ _ upd_same, t.h _ _ upd_same⟩
theorem SimF.stp (s : SimF B K fp ρ σ G H) : Step B.G B.H G H := ⟨s.extG, s.extH, s.sub, s.nG⟩
theorem SimF.unlock (hu : isDct u) (b : LkB B d u) (s : SimF (B.lk d od u) K fp ρ σ G H) : SimF B K fp ρ σ (L2.upd G d u) (L2.upd H d u) := by
  have hG := (lk_at s.stp).1
  have t := lkB_step b s.stp
  refine ⟨t.sub, t.g, t.h, t.new, s.len, fun i x h => let ⟨v, e, r⟩ := s.sh i x h; ⟨v, e, r.lk hu (lk_off hG)⟩, fun i x n h => ?_, s.ne⟩
  obtain ⟨⟨p, e, r⟩, q⟩ := s.own i x n h
  have hne : ∀ a ∈ fp i, a ≠ d := fun a ha z => by
    have := root_none r a ha
    subst z
    rw [hG] at this; cases this
  refine ⟨⟨p, e, r.lk hu (lk_off hG) fun a ha => ⟨upd_ne (hne a ha), by rw [upd_ne (hne a ha)]; exact root_none r a ha⟩⟩, fun a ha => ?_⟩
  have h' : L2.upd B.H d (.frz od u) a = none := q a ha
  rw [upd_ne (hne a ha)] at h'; exact h'
theorem Out.unlock {H0 G2 H2 : Hp} (hu : isDct u) (hG : G2 d = some (.frz od u)) (hH : ∃ o, H0 d = some o) {x : D} {v : V} {k : Bool} (o : Out (B.lk d od u) K H0 x v G2 H2 (toKd k)) {H1 : Hp} (h1 : ∀ a, a ≠ d → H0 a = none → H1 a = none) : Out B K H1 x v (L2.upd G2 d u) (L2.upd H2 d u) (toKd k) := by
  cases k with
  | false =>
    have o' : Rep K G2 v x := o
    exact o'.lk hu (lk_off hG)
  | true =>
    obtain ⟨p, e, h, g, c⟩ := o
    have hne : p ≠ d := fun z => by subst z; rw [hG] at g; cases g
    exact ⟨p, e, h1 p hne h, by rw [upd_ne hne]; exact g, c.lk hu (lk_off hG) (upd_ne hne)⟩
theorem FlowP.lock (hu : isDct u) (s : SimF B K fp ρ σ G H) (hG : G d = some u) {D : Ends} {o : Flow} (q : FlowP B K G D o) : FlowP (B.lk d od u) K (L2.upd G d (.frz od u))
    ⟨fun σ' H' => H' d = some (.frz od u) ∧ D.nx σ' (L2.upd H' d u), fun v H' => H' d = some (.frz od u) ∧ D.rt v (L2.upd H' d u), fun σ' H' => H' d = some (.frz od u) ∧ D.bk σ' (L2.upd H' d u), fun σ' H' => H' d = some (.frz od u) ∧ D.ct σ' (L2.upd H' d u)⟩ o := by
  have b := s.lkB hu hG
  have sm : ∀ {G' : Hp}, Same (L2.upd G d (.frz od u)) G' → Same G (L2.upd G' d u) := fun {G'} z a o h => by
    by_cases e : a = d
    · subst e; rw [hG] at h; cases h; exact upd_same
    · rw [upd_ne e]
      exact z a o (by rw [upd_ne e]; exact h)
  have go : ∀ {ρ' : Env} {P : St → Hp → Prop}, (∀ σ' G' H', Same G G' → Sim B K ρ' σ' G' H' → P σ' H') → ∀ σ' G' H', Same (L2.upd G d (.frz od u)) G' → Sim (B.lk d od u) K ρ' σ' G' H' → H' d = some (.frz od u) ∧ P σ' (L2.upd H' d u) := fun {ρ' P} h σ' G' H' z ⟨fp', S⟩ =>
    ⟨(lk_at S.stp).2, h σ' _ _ (sm z) ⟨fp', S.unlock hu b⟩⟩
  cases o with
  | nx ρ' => exact go q
  | bk ρ' => exact go q
  | ct ρ' => exact go q
  | rt x k =>
    intro v G' H' t o
    refine ⟨(lk_at t).2, q v _ _ (lkB_step b t) (Out.unlock hu (lk_at t).1 ⟨_, upd_same⟩ o fun a e h => ?_)⟩
    have h' : L2.upd B.H d (.frz od u) a = none := h
    rw [upd_ne e] at h'; exact h'
end
end Fw

namespace Fw
open PySem L2
/-! ### walks over dicts -/
def FrzAt (K : PySem.W.Frag) (σ : St) (G : Hp) (i : Nat) (d : D) : Prop := ∃ a od, σ[i]? = some (some (.ref a)) ∧
  ((∃ vs kvs, d = .dK kvs ∧ G a = some (.frz od (.dK vs)) ∧ vs.length ≤ sizeLine ∧ RepK K G vs kvs) ∨ ∃ vs kvs, d = .dT kvs ∧ G a = some (.frz od (.dT vs)) ∧ vs.length ≤ sizeLine ∧ RepT K G vs kvs)
theorem RepK.at {K : PySem.W.Frag} {G : Hp} : ∀ {vs : List (Key × V)} {ds : List (Key × D)} {i : Nat} {k : Key} {v : V}, RepK K G vs ds → vs[i]? = some (k, v) → ∃ d, ds[i]? = some (k, d)
  | _, _, _, _, _, .nil, h => by simp at h
  | _, _, 0, _, _, .cons _ _, h => by simp at h; obtain ⟨rfl, rfl⟩ := h; exact ⟨_, rfl⟩
  | _, _, i + 1, k, v, .cons _ t, h => by simpa using RepK.at (i := i) t (by simpa using h)
theorem RepT.at {K : PySem.W.Frag} {G : Hp} : ∀ {vs : List (List Key × V)} {ds : List (List Key × D)} {i : Nat} {k : List Key} {v : V}, RepT K G vs ds → vs[i]? = some (k, v) → ∃ d, ds[i]? = some (k, d)
  | _, _, _, _, _, .nil, h => by simp at h
  | _, _, 0, _, _, .cons _ _, h => by simp at h; obtain ⟨rfl, rfl⟩ := h; exact ⟨_, rfl⟩
  | _, _, i + 1, k, v, .cons _ t, h => by simpa using RepT.at (i := i) t (by simpa using h)
theorem strOk_of {x : Str} (h : (decide (x.length ≤ 16777216) && PyData.strOk x) = true) : StrOk x := by
  rw [Bool.and_eq_true, decide_eq_true_eq] at h
  exact ⟨by rw [sizeLine_eq]; exact h.1, h.2⟩
theorem rep_key {K : PySem.W.Frag} {G : Hp} : ∀ {k : Key}, keyOkB k = true → Rep K G (kV k) (keyV k)
  | .inl i, _ => .int i
  | .inr x, h => .str x (strOk_of h)
theorem rep_keys {K : PySem.W.Frag} {G : Hp} : ∀ {k : List Key}, k.all keyOkB = true → Reps K G (k.map kV) (k.map keyV)
  | [], _ => .nil
  | a :: r, h => by
    rw [List.all_cons, Bool.and_eq_true] at h
    exact .cons (rep_key h.1) (rep_keys h.2)
section
variable {X : Cx} {C : CallT} {B : Bs} {ρ : Env} {σ : St} {G H : Hp} {i : Nat} {d : D}
theorem keys_inst (S : Same G H) (hρ : ρ[i]? = some (some ⟨d, 0⟩)) (F : FrzAt X.K σ G i d) (Rr : L2.It → Hp → Prop) (ds : List D) (b : Bool) (he : evIt C (.keys i) ρ = .ok (ds, b)) (hq : ∀ J G' H', Step G H G' H' → ItOk X.K G' H' ds b J → Rr J H') : iKeys (tVar i) σ H Rr := by
  rw [evIt, hρ] at he
  obtain ⟨l, hl, he⟩ := R.of_bind he
  cases he
  obtain ⟨a, od, e, F⟩ := F
  rcases F with ⟨vs, kvs, rfl, hG, hz, r⟩ | ⟨vs, kvs, rfl, hG, hz, r⟩
  · obtain ⟨hc, hl⟩ := R.of_guard (show R.guard _ _ = _ from hl)
    cases hl
    refine ⟨_, e, a, od, rfl, .inl ⟨vs, S _ _ hG, hq _ G H (Step.refl S) ?_⟩⟩
    have hln : (kvs.map fun kv => keyV kv.1).length = vs.length := by rw [List.length_map, r.length]
    refine ⟨by rw [hln]; exact hz, _, _, by rw [hln]; exact walk_keys, fun H1 s => s _ _ (S _ _ hG), fun _ H1 s => s _ _ hG, fun j H1 x H2 G1 y hj s1 s2 => ?_⟩
    obtain ⟨rfl, k, v, h1, rfl⟩ := y
    obtain ⟨x, hx⟩ := r.at h1
    refine ⟨keyV k, G1, by rw [List.getElem?_map, hx]; rfl, Step.refl s2, rep_key ?_⟩
    exact List.all_eq_true.mp hc (k, x) (List.mem_of_getElem? hx)
  · obtain ⟨hc, hl⟩ := R.of_guard (show R.guard _ _ = _ from hl)
    cases hl
    refine ⟨_, e, a, od, rfl, .inr ⟨vs, S _ _ hG, hq _ G H (Step.refl S) ?_⟩⟩
    have hln : (kvs.map fun kv => D.tup (kv.1.map keyV)).length = vs.length := by rw [List.length_map, r.length]
    refine ⟨by rw [hln]; exact hz, _, _, by rw [hln]; exact walk_keysT, fun H1 s => s _ _ (S _ _ hG), fun _ H1 s => s _ _ hG, fun j H1 x H2 G1 y hj s1 s2 => ?_⟩
    obtain ⟨rfl, k, v, q, h1, rfl, hq⟩ := y
    obtain ⟨x, hx⟩ := r.at h1
    have hk2 : (k.all keyOkB && decide (k.length ≤ 1000)) = true := List.all_eq_true.mp hc (k, x) (List.mem_of_getElem? hx)
    rw [Bool.and_eq_true, decide_eq_true_eq] at hk2
    have hk := hk2.1
    have sg : Same G1 (L2.upd G1 q (.tup (k.map kV))) := fun c o h => by
      by_cases z : c = q
      · subst z
        have := s2 _ _ h
        rw [hq] at this
        rw [upd_same]; exact this
      · rw [upd_ne z]; exact h
    refine ⟨.tup (k.map keyV), L2.upd G1 q (.tup (k.map kV)), by rw [List.getElem?_map, hx]; rfl, ⟨sg, Same.refl _, fun c o h => ?_, fun c o h => ?_⟩, .tup upd_same ?_ (rep_keys hk)⟩
    · by_cases z : c = q
      · subst z; rw [upd_same] at h; rw [hq]; exact h
      · rw [upd_ne z] at h; exact s2 _ _ h
    · by_cases z : c = q
      · subst z; rw [upd_same] at h; cases h; exact .inr (.inr ⟨_, rfl⟩)
      · rw [upd_ne z] at h; exact .inl h
    · rw [List.length_map, sizeLine_eq]; omega
theorem slot_cases {l : List D} (S : Sim B X.K ρ σ G H) (hρ : ρ[i]? = some (some ⟨d, 0⟩)) (hl : keysOf d = .ok l) : FrzAt X.K σ G i d ∨ ∃ a u, σ[i]? = some (some (.ref a)) ∧ G a = some u ∧ isDct u ∧ ∀ od, FrzAt X.K σ (L2.upd G a (.frz od u)) i d := by
  obtain ⟨fp, S⟩ := S
  obtain ⟨v, e, r⟩ := S.sh i d hρ
  cases r with
  | dK h1 h2 h3 =>
    rename_i a vs kvs
    rcases h1 with h1 | ⟨od, h1⟩
    · exact .inr ⟨_, _, e, h1, trivial, fun od => ⟨_, od, e, .inl ⟨vs, kvs, rfl, upd_same, h2, RepK.lk (u := .dK vs) trivial (lk_on h1) h3⟩⟩⟩
    · exact .inl ⟨_, od, e, .inl ⟨_, _, rfl, h1, h2, h3⟩⟩
  | dT h1 h2 h3 =>
    rename_i a vs kvs
    rcases h1 with h1 | ⟨od, h1⟩
    · exact .inr ⟨_, _, e, h1, trivial, fun od => ⟨_, od, e, .inr ⟨vs, kvs, rfl, upd_same, h2, RepT.lk (u := .dT vs) trivial (lk_on h1) h3⟩⟩⟩
    · exact .inl ⟨_, od, e, .inr ⟨_, _, rfl, h1, h2, h3⟩⟩
  | _ => cases hl
theorem PS.lk {st : Stmt} {t : TS} (p : PS X st t) : PS X st (fun D σ H => t D σ H ∨ tLock t D σ H) := ⟨fun pins s σ H D I h => h.elim (p.run pins s σ H D I) ((ps_lock p).run pins s σ H D I)⟩
theorem PE.lk {e : Expr} {t : TE} (p : PE X e t) : PE X e (fun σ H Q => t σ H Q ∨ tLockE t σ H Q) := ⟨fun pins s σ H Q I h => h.elim (p.run pins s σ H Q I) ((pe_lock p).run pins s σ H Q I)⟩
theorem keys_slot {ρ : Env} {ds : List D} {b : Bool} (he : evIt C (.keys i) ρ = .ok (ds, b)) : ∃ d l, ρ[i]? = some (some ⟨d, 0⟩) ∧ keysOf d = .ok l := by
  rw [evIt] at he
  split at he
  · rename_i d hd
    obtain ⟨l, hl, he⟩ := R.of_bind he
    exact ⟨d, l, hd, hl⟩
  · cases he
theorem keys_true {ρ : Env} {ds : List D} {b : Bool} (he : evIt C (.keys i) ρ = .ok (ds, b)) : b = true := by
  rw [evIt] at he
  split at he
  · obtain ⟨l, hl, he⟩ := R.of_bind he
    cases he
    rfl
  · cases he
/-- for k in d -/
theorem vs_forK {tg e : Expr} {body : List Stmt} {p : Pat} {irs : List S} {pos : Pos} (pv : PE X e (tVar i)) (hp : PassesOwn (model X.prog X.w) X.A X.env X.xe) (hc : X.calm = true) (hg : VG X p tg) (hb : VSs X C body irs)
    (hs : ∀ x, foldedSetIterable e X.env x = pure x) : VS X C (.For tg e body [] pos) (.for_ p (.keys i) irs) := by
  obtain ⟨g, pg, fg⟩ := hg
  obtain ⟨t, pb, fb⟩ := hb
  refine ⟨_, PS.lk (ps_for hp hc (pi_keys pv) pg pb hs), fun B ρ σ G H D o S he hq => ?_⟩
  have he2 := he
  rw [evS] at he2
  obtain ⟨⟨ds, b⟩, hds, _⟩ := R.of_bind he2
  obtain ⟨d, l, hρ, hl⟩ := keys_slot hds
  rcases slot_cases S hρ hl with F | ⟨a, u, e1, hG, hu, F⟩
  · exact .inl (for_core fg fb B ρ σ G H D o S (fun Rr ds b h1 h2 => keys_inst S.sub hρ F Rr ds b h1 h2) (fun _ _ _ => keys_true) he hq)
  · obtain ⟨fp, S⟩ := S
    refine .inr ⟨a, u, S.sub _ _ hG, hu.mut, fun od => ?_⟩
    have S1 := S.lock (od := od) hu hG
    exact for_core fg fb _ ρ σ _ _ _ o ⟨fp, S1⟩ (fun Rr ds b h1 h2 => keys_inst S1.sub hρ (F od) Rr ds b h1 h2) (fun _ _ _ => keys_true) he (FlowP.lock hu S hG hq)
theorem lc_nw {own : List Nat} {ielt : E} {p : Pat} {it : It} {iifs : List E} {d : D} {k : Kd} (he : evE C (.lc own ielt p it iifs) ρ = .ok (d, k)) : k = .nw ∧ ∃ ds b, evIt C it ρ = .ok (ds, b) := by
  rw [evE_lc] at he
  obtain ⟨⟨ds, b⟩, hds, he⟩ := R.of_bind he
  obtain ⟨l, _, he⟩ := R.of_bind he
  cases he
  exact ⟨rfl, ds, b, hds⟩
theorem Step.unlockE {a : Addr} {u : HO} {od : Obj} {G' H' : Hp} (S : Same G H) (hG : G a = some u) (t : Step (L2.upd G a (.frz od u)) (L2.upd H a (.frz od u)) G' H') : H' a = some (.frz od u) ∧ Step G H (L2.upd G' a u) (L2.upd H' a u) := by
  have h1 : G' a = some (.frz od u) := t.g _ _ upd_same
  have h2 : H' a = some (.frz od u) := t.h _ _ upd_same
  refine ⟨h2, fun c o h => ?_, fun c o h => ?_, fun c o h => ?_, fun c o h => ?_⟩
  · by_cases z : c = a
    · subst z; rw [hG] at h; cases h; exact upd_same
    · rw [upd_ne z]; exact t.g c o (by rw [upd_ne z]; exact h)
  · by_cases z : c = a
    · subst z; rw [S _ _ hG] at h; cases h; exact upd_same
    · rw [upd_ne z]; exact t.h c o (by rw [upd_ne z]; exact h)
  · by_cases z : c = a
    · subst z; rw [upd_same] at h ⊢; exact h
    · rw [upd_ne z] at h ⊢; exact t.sub c o h
  · by_cases z : c = a
    · subst z; rw [upd_same] at h; cases h; exact .inl hG
    · rw [upd_ne z] at h
      rcases t.new c o h with h | h | h
      · rw [upd_ne z] at h; exact .inl h
      · rw [upd_ne z] at h; exact .inr (.inl h)
      · exact .inr (.inr h)
/-- [.. for k in d] -/
theorem ve_lcK {elt tg e : Expr} {ifs : List Expr} {scope : Scope} {own : List (Str × Nat)} {pos : Pos} {p : Pat} {iifs : List E} {ielt : E} (pv : PE X e (tVar i)) (hc : X.calm = true) (hN : X.N.Nodup) (ok : BlkOk X.N X.env.scope scope own)
    (hg : ∀ (s : Shared) (H : Hp) (Ca : Addr) (cl : List (Str × Addr)) (fp : List Addr), VG (X.blk s H scope (compEnvC scope cl Ca X.env) fp) p tg) (ht : ∀ (s : Shared) (H : Hp) (Ca : Addr) (cl : List (Str × Addr)) (fp : List Addr), VTs (X.blk s H scope (compEnvC scope cl Ca X.env) fp) C ifs iifs)
    (he : ∀ (s : Shared) (H : Hp) (Ca : Addr) (cl : List (Str × Addr)) (fp : List Addr), VE (X.blk s H scope (compEnvC scope cl Ca X.env) fp) C elt ielt) (hp : ∀ i ∈ pvars p, i ∈ own.map (·.2))
    (hs : ∀ x, foldedSetIterable e X.env x = pure x) : VE X C (.ListComp elt [⟨tg, e, ifs, 0⟩] scope pos) (.lc (own.map (·.2)) ielt p (.keys i) iifs) := by
  refine ⟨_, PE.lk (pe_lc (g := gCan X.K p) (tt := ttCan X.K C iifs) (te := tCan X.K C ielt) hc hN (pi_keys pv) ok (fun s H Ca cl fp => (hg s H Ca cl fp).can) (fun s H Ca cl fp => (ht s H Ca cl fp).can) (fun s H Ca cl fp => (he s H Ca cl fp).can) hs), fun B ρ σ G H Q d k S he hq => ?_⟩
  obtain ⟨rfl, ds, b, hds⟩ := lc_nw he
  obtain ⟨x, l, hρ, hl⟩ := keys_slot hds
  rcases slot_cases S hρ hl with F | ⟨a, u, e1, hG, hu, F⟩
  · exact .inl (lc_prop hp B ρ σ G H Q d .nw S (fun Rr ds b h1 h2 => keys_inst S.sub hρ F Rr ds b h1 h2) he hq)
  · obtain ⟨fp, S⟩ := S
    refine .inr ⟨a, u, S.sub _ _ hG, hu.mut, fun od => ?_⟩
    have S1 := S.lock (od := od) hu hG
    refine lc_prop hp _ ρ σ _ _ _ d .nw ⟨fp, S1⟩ (fun Rr ds b h1 h2 => keys_inst S1.sub hρ (F od) Rr ds b h1 h2) he fun v G' H' t o => ?_
    obtain ⟨h1, t1⟩ := Step.unlockE (u := u) S.sub hG t
    exact ⟨h1, hq v _ _ t1 (Out.unlock (k := true) hu (t.g _ _ upd_same) ⟨_, upd_same⟩ o fun c z h => by rw [upd_ne z] at h; exact h)⟩
theorem vs_setLcK {j : Nat} {y : Str} {py : Pos} {elt tg e : Expr} {ifs : List Expr} {scope : Scope} {own : List (Str × Nat)} {pos spos : Pos} {p : Pat} {iifs : List E} {ielt : E} {n : Nat} (pv : PE X e (tVar i)) (hc : X.calm = true) (hN : X.N.Nodup)
    (ok : BlkOk X.N X.env.scope scope own)
    (hg : ∀ (s : Shared) (H : Hp) (Ca : Addr) (cl : List (Str × Addr)) (fp : List Addr), VG (X.blk s H scope (compEnvC scope cl Ca X.env) fp) p tg) (ht : ∀ (s : Shared) (H : Hp) (Ca : Addr) (cl : List (Str × Addr)) (fp : List Addr), VTs (X.blk s H scope (compEnvC scope cl Ca X.env) fp) C ifs iifs)
    (he : ∀ (s : Shared) (H : Hp) (Ca : Addr) (cl : List (Str × Addr)) (fp : List Addr), VE (X.blk s H scope (compEnvC scope cl Ca X.env) fp) C elt ielt) (hn : decide (n ≤ 1) = true) (hp : ∀ i ∈ pvars p, i ∈ own.map (·.2))
    (hy : X.N[j]? = some y) (hyl : X.env.scope.names.lookup y = some .local) (hk : X.env.scope.kind = .function) (hl : (py.line == pos.line) = true)
    (ha : (scope.names.any fun (n, k) => n == y && (k == .local || k == .cell)) = false)
    (hs : ∀ x, foldedSetIterable e X.env x = pure x) : VS X C (.Assign [.Name y py] (.ListComp elt [⟨tg, e, ifs, 0⟩] scope pos) spos) (.asg (.v j) (.lc (own.map (·.2)) ielt p (.keys i) iifs) n) := by
  refine ⟨_, PS.lk (ps_setLc (g := gCan X.K p) (tt := ttCan X.K C iifs) (te := tCan X.K C ielt) hc hN hy hyl (sw_true hk hyl hl ha) (pi_keys pv) ok (fun s H Ca cl fp => (hg s H Ca cl fp).can) (fun s H Ca cl fp => (ht s H Ca cl fp).can) (fun s H Ca cl fp => (he s H Ca cl fp).can) hs), fun B ρ σ G H D o S he hq => ?_⟩
  have he2 := he
  rw [evS] at he2
  obtain ⟨⟨d, k⟩, hx, _⟩ := R.of_bind he2
  obtain ⟨_, ds, b, hds⟩ := lc_nw hx
  obtain ⟨x, l, hρ, hl⟩ := keys_slot hds
  rcases slot_cases S hρ hl with F | ⟨a, u, e1, hG, hu, F⟩
  · exact .inl (setLc_core hp hn B ρ σ G H D o S (fun Rr ds b h1 h2 => keys_inst S.sub hρ F Rr ds b h1 h2) he hq)
  · obtain ⟨fp, S⟩ := S
    refine .inr ⟨a, u, S.sub _ _ hG, hu.mut, fun od => ?_⟩
    have S1 := S.lock (od := od) hu hG
    exact setLc_core hp hn _ ρ σ _ _ ⟨fun σ' H' => H' a = some (.frz od u) ∧ D.nx σ' (L2.upd H' a u), fun v H' => H' a = some (.frz od u) ∧ D.rt v (L2.upd H' a u), fun σ' H' => H' a = some (.frz od u) ∧ D.bk σ' (L2.upd H' a u), fun σ' H' => H' a = some (.frz od u) ∧ D.ct σ' (L2.upd H' a u)⟩ o ⟨fp, S1⟩ (fun Rr ds b h1 h2 => keys_inst S1.sub hρ (F od) Rr ds b h1 h2) he (FlowP.lock hu S hG hq)
end
end Fw

namespace Fw
open PySem L2
section
variable {X : Cx} {C : CallT}
/-- x.reverse() -/
theorem vs_rev {i : Nat} {call : Expr} {pos : Pos} (pm : PE X call (tBM0 X.K "list" rReverse (tVar i))) (hs : swapsWith call none pos.line X.env = pure false) : VS X C (.Expr call pos) (.m0 .rev i) := by
  refine ⟨_, ps_expr pm hs, fun B ρ σ G H D o S he hq => ?_⟩
  rw [evS] at he
  obtain ⟨xs, hxs, he⟩ := R.of_bind he
  cases he
  obtain ⟨fp, S⟩ := S
  have hρ := ownL_of hxs
  obtain ⟨p, e1, hA, hG, ⟨vs, h1, h2, h3⟩, hB⟩ := own_at S hρ
  exact ⟨.ref p, e1, .inl ⟨rfl, vs, .of h1⟩, p, vs, rfl, rfl, h1, hq σ G _ (Same.refl _) (S.change hρ e1 hA hG hB ⟨vs.reverse, upd_same, by rw [List.length_reverse]; exact h2, h3.reverse⟩)⟩
end
/-! ### d.setdefault(k, []).append(e) -/
theorem Own2.keys {K : PySem.W.Frag} {G H : Hp} : ∀ {kvs : List (Key × V)} {dvs : List (Key × D)} {qs : List Addr}, Own2 K G H kvs dvs qs → kvs.map (·.1) = dvs.map (·.1)
  | _, _, _, .nil => rfl
  | _, _, _, .cons _ _ _ t => by rw [List.map_cons, List.map_cons, Own2.keys t]
theorem Own2.app {K : PySem.W.Frag} {G H : Hp} {κ : Key} {w : V} {x : D} {xs : List D} (r : Rep K G w x) : ∀ {kvs : List (Key × V)} {dvs : List (Key × D)} {qs : List Addr}, Own2 K G H kvs dvs qs → qs.Nodup → (dvs.map (·.1)).Nodup → Fw.valK dvs κ = some (.lst xs) →
    ∃ q vs, q ∈ qs ∧ valV kvs κ = some (.ref q) ∧ H q = some (.lst vs) ∧ vs.length = xs.length ∧ (vs.length < sizeLine → Own2 K G (L2.upd H q (.lst (vs ++ [w]))) kvs (dvs.map fun kv => if kv.1 = κ then (kv.1, .lst (xs ++ [x])) else kv) qs)
  | _, _, _, .nil, _, _, h => by cases h
  | _, _, _, .cons (k := k) (q := q) (vs := vs) (ds := ds) (dvs := dvs) (qs := qs) a b c t, hq, hk, h => by
    rw [List.nodup_cons] at hq
    rw [List.map_cons, List.nodup_cons] at hk
    unfold Fw.valK at h
    unfold valV
    rw [List.find?_cons] at h ⊢
    by_cases e : k = κ
    · subst e
      simp only [decide_true] at h ⊢
      cases h
      have em : (dvs.map fun kv => if kv.1 = k then (kv.1, D.lst (xs ++ [x])) else kv) = dvs := by
        have : ∀ kv ∈ dvs, (if kv.1 = k then (kv.1, D.lst (xs ++ [x])) else kv) = kv := fun kv hkv => by
          rw [if_neg]
          intro z
          exact hk.1 (List.mem_map.mpr ⟨kv, hkv, z⟩)
        rw [List.map_congr_left this, List.map_id']
      refine ⟨q, vs, List.mem_cons_self, rfl, a, c.length, fun hl => ?_⟩
      rw [List.map_cons, em, if_pos rfl]
      refine .cons upd_same (by rw [List.length_append]; exact hl) (c.append (.cons r .nil)) (t.keep fun y hy => upd_ne fun z => ?_)
      subst z; exact hq.1 hy
    · simp only [e, decide_false] at h ⊢
      obtain ⟨q', vs', h1, h2, h3, h4, h5⟩ := Own2.app r t hq.2 hk.2 h
      refine ⟨q', vs', List.mem_cons_of_mem _ h1, h2, h3, h4, fun hl => ?_⟩
      rw [List.map_cons, if_neg e]
      refine .cons ?_ b c (h5 hl)
      rw [upd_ne fun z => hq.1 (by rw [z]; exact h1)]
      exact a
theorem Own2.snoc {K : PySem.W.Frag} {G H : Hp} {κ : Key} {z : Addr} (hz : H z = some (.lst [])) : ∀ {kvs : List (Key × V)} {dvs : List (Key × D)} {qs : List Addr}, Own2 K G H kvs dvs qs → Own2 K G H (kvs ++ [(κ, .ref z)]) (dvs ++ [(κ, .lst [])]) (qs ++ [z])
  | _, _, _, .nil => .cons hz (Nat.zero_le _) .nil .nil
  | _, _, _, .cons a b c t => .cons a b c (Own2.snoc hz t)
theorem Own2.len {K : PySem.W.Frag} {G H : Hp} : ∀ {kvs : List (Key × V)} {dvs : List (Key × D)} {qs : List Addr}, Own2 K G H kvs dvs qs → kvs.length = dvs.length
  | _, _, _, .nil => rfl
  | _, _, _, .cons _ _ _ t => by rw [List.length_cons, List.length_cons, Own2.len t]
theorem valK_none {κ : Key} {dvs : List (Key × D)} (h : valK dvs κ = none) : ∀ kv ∈ dvs, kv.1 ≠ κ := by
  unfold valK at h
  rw [Option.map_eq_none_iff, List.find?_eq_none] at h
  intro kv hkv e
  exact h kv hkv (by rw [e]; simp)
theorem any_false {κ : Key} {dvs : List (Key × D)} (h : valK dvs κ = none) : (dvs.any fun kv => decide (kv.1 = κ)) = false := by
  rw [List.any_eq_false]
  intro kv hkv
  rw [decide_eq_true_eq]
  exact valK_none h kv hkv
theorem any_true {κ : Key} {dvs : List (Key × D)} {d : D} (h : valK dvs κ = some d) : (dvs.any fun kv => decide (kv.1 = κ)) = true := by
  cases e : dvs.any fun kv => decide (kv.1 = κ) with
  | true => rfl
  | false =>
    unfold valK at h
    rw [List.any_eq_false] at e
    have : dvs.find? (fun kv => decide (kv.1 = κ)) = none := List.find?_eq_none.mpr e
    rw [this] at h
    cases h
theorem SimF.updA {B : Bs} {K : PySem.W.Frag} {fp : Nat → List Addr} {ρ : Env} {σ : St} {G H H' : Hp} {A : List Addr} (s : SimF B K fp ρ σ G H) (hG : ∀ a ∈ A, G a = none) (hB : ∀ a ∈ A, B.H a = none) (hf : ∀ a ∈ A, ∀ (i : Nat) (d : D) (n : Nat), ρ[i]? = some (some (⟨d, n + 1⟩ : Slot)) → a ∉ fp i) (hH : ∀ a, a ∉ A → H' a = H a) : SimF B K fp ρ σ G H' where
  sub := fun a o h => by
    rw [hH a fun m => by rw [hG a m] at h; cases h]
    exact s.sub a o h
  extG := s.extG
  extH := fun a o h => by
    rw [hH a fun m => by rw [hB a m] at h; cases h]
    exact s.extH a o h
  nG := s.nG
  len := s.len
  sh := s.sh
  own := fun i d n h => by
    obtain ⟨⟨p, e, r⟩, q⟩ := s.own i d n h
    exact ⟨⟨p, e, r.keep fun a ha => hH a fun m => hf a m i d n h ha⟩, q⟩
  ne := s.ne
theorem SimF.change2 {B : Bs} {K : PySem.W.Frag} {fp : Nat → List Addr} {ρ : Env} {σ : St} {G H H' : Hp} (s : SimF B K fp ρ σ G H) {i : Nat} {p : Addr} {d d' : D} {A : List Addr} (h : ρ[i]? = some (some (⟨d, 2⟩ : Slot))) (e : σ[i]? = some (some (.ref p))) (r : Root K 2 G H' p d' A)
    (hA : ∀ a ∈ A, a ∈ fp i ∨ H a = none) (hH : ∀ a, a ∉ A → H' a = H a) : Sim B K (setSlot ρ i d' 2) σ G H' := by
  have hG := root_none r
  have hB : ∀ a ∈ A, B.H a = none := fun a ha => by
    rcases hA a ha with m | m
    · exact (s.own i d 1 h).2 a m
    · exact s.extH.free m
  have off : ∀ a ∈ A, ∀ (j : Nat) (f : D) (m : Nat), (ρ.set i none)[j]? = some (some (⟨f, m + 1⟩ : Slot)) → a ∉ fp j := fun a ha j f m hj hm => by
    obtain ⟨hne, hj⟩ := get_set_none hj
    rcases hA a ha with q | q
    · exact s.ne i j d f 1 m (Ne.symm hne) h hj a q hm
    · obtain ⟨⟨p2, _, r2⟩, _⟩ := s.own j f m hj
      obtain ⟨u, hu, _⟩ := r2.there a hm
      rw [q] at hu; cases hu
  exact ⟨_, ((s.dropS i).updA hG hB off hH).put (d := d') (n := 1) (A := A) e r hB fun j f m hj a ha => off a ha j f m hj⟩
section
variable {X : Cx} {C : CallT}
theorem vs_sda {i : Nat} {k e base call : Expr} {ik ie : E} {pos : Pos} (pb : ∀ tk, PE X k tk → PE X base (tDSetd (tVar i) tk (tLst tNil))) (pm : ∀ tb t, PE X base tb → PA X [e] t → PE X call (tBM X.K "list" rAppend tb t)) (hk : VE X C k ik) (h : VE X C e ie)
    (hs0 : starEach [e] X.env = (false, eval e X.env) :: starEach [] X.env) (hs : swapsWith call none pos.line X.env = pure false) : VS X C (.Expr call pos) (.sda i ik ie) := by
  obtain ⟨tk, pk, fk⟩ := hk
  obtain ⟨t, pe, f⟩ := h
  refine ⟨_, ps_expr (pm _ _ (pb _ pk) (pa_cons pe pa_nil hs0)) hs, fun B ρ σ G H D o S he hq => ?_⟩
  rw [evS] at he
  obtain ⟨⟨y, ky⟩, hy, he⟩ := R.of_bind he
  split at he <;> (first | (cases he; done) | skip)
  rename_i dvs hρ
  obtain ⟨κ, hκ, he⟩ := R.of_bind he
  obtain ⟨hc, he⟩ := R.of_guard he
  rw [Bool.and_eq_true, decide_eq_true_eq, decide_eq_true_eq, line_eq] at hc
  obtain ⟨⟨x, kx⟩, hx, he⟩ := R.of_bind he
  split at he <;> (first | (cases he; done) | skip)
  rename_i xs hxs
  obtain ⟨hc2, he⟩ := R.of_guard he
  rw [Bool.and_eq_true, decide_eq_true_eq, line_eq] at hc2
  cases he
  obtain ⟨fp, S⟩ := S
  obtain ⟨⟨p, e1, r0⟩, qB⟩ := S.own i _ 1 hρ
  have hp0 : ∃ kvs, H p = some (.dK kvs) := by
    obtain ⟨kvs, _, _, _, _, _, _, hp, _⟩ := r0
    exact ⟨kvs, hp⟩
  obtain ⟨kvs0, hp0⟩ := hp0
  refine ⟨.ref p, e1, p, rfl, .inl ⟨_, .inl hp0⟩, fk B ρ σ G H _ y ky ⟨fp, S⟩ hy fun u G1 H1 st o1 => ?_⟩
  have ek := key_of (o1.rc st.sub) hκ
  have S1 := S.step st
  refine ⟨Nat.zero_le _, fun z hz => ?_⟩
  have hρ1 : (setSlot ρ i (.dK (sdK dvs κ)) 2)[i]? = some (some (⟨.dK (sdK dvs κ), 2⟩ : Slot)) := by
    unfold setSlot
    rw [List.getElem?_set_self (setSlot_get hρ)]
  -- what follows, the list at q
  have tail : ∀ {fp1 : Nat → List Addr} {Ha : Hp} {kvs1 : List (Key × V)} {q : Addr}, SimF B X.K fp1 (setSlot ρ i (.dK (sdK dvs κ)) 2) σ G1 Ha → Ha p = some (.dK kvs1) → valV kvs1 κ = some (.ref q) → ((sdK dvs κ).map (·.1)).Nodup →
      tyV X.K "list" (.ref q) Ha ∧ tCons t tNil σ Ha fun ys H2 => rAppend (.ref q) ys H2 (fun _ H' => D.nx σ H') := by
    intro fp1 Ha kvs1 q Sa hpa hv hnd
    have look : ∀ {Gb Hb : Hp}, SimF B X.K fp1 (setSlot ρ i (.dK (sdK dvs κ)) 2) σ Gb Hb → Hb p = some (.dK kvs1) → ∃ A qs, A = p :: qs ∧ A = fp1 i ∧ A.Nodup ∧ (∀ a ∈ A, Gb a = none) ∧ kvs1.length ≤ sizeLine ∧ Own2 X.K Gb Hb kvs1 (sdK dvs κ) qs := by
      intro Gb Hb Sb hpb
      obtain ⟨⟨p', e', r⟩, _⟩ := Sb.own i _ 1 hρ1
      rw [e1] at e'
      cases e'
      obtain ⟨kvs2, dvs2, qs, ed, eA, hn, hg, hp2, hl, o2⟩ := r
      cases ed
      rw [hpb] at hp2
      cases hp2
      exact ⟨_, qs, eA, rfl, hn, hg, hl, o2⟩
    obtain ⟨A, qs, eA, eF, hn, hg, hl, o2⟩ := look Sa hpa
    obtain ⟨q', m1, m2, m3⟩ := o2.valK hxs
    rw [hv] at m2
    cases m2
    obtain ⟨vs0, m4, _, _⟩ := m3
    refine ⟨.inl ⟨rfl, vs0, .of m4⟩, f B _ σ G1 Ha _ x kx ⟨fp1, Sa⟩ hx fun w G3' H3 st3' o3' => ?_⟩
    obtain ⟨G3, st3, rw3⟩ := o3'.share st3' hc2.1
    have S3 := Sa.step st3
    have hp3 : H3 p = some (.dK kvs1) := st3.h _ _ hpa
    obtain ⟨A3, qs3, eA3, eF3, hn3, hg3, hl3, o3⟩ := look S3 hp3
    rw [eA3, List.nodup_cons] at hn3
    obtain ⟨q'', vs3, n1, n2, n3, n4, n5⟩ := o3.app rw3 hn3.2 hnd hxs
    rw [hv] at n2
    cases n2
    have hlt : vs3.length < sizeLine := by rw [n4]; exact hc2.2
    refine ⟨q, vs3, w, rfl, rfl, n3, hlt, hq σ G3 _ (st.g.trans st3.g) ?_⟩
    have hpq : p ≠ q := fun z => by subst z; exact hn3.1 n1
    have e3 : setSlot (setSlot ρ i (.dK (sdK dvs κ)) 2) i (.dK (putD (sdK dvs κ) κ (.lst (xs ++ [x])))) 2 = setSlot ρ i (.dK (putD (sdK dvs κ) κ (.lst (xs ++ [x])))) 2 := by unfold setSlot; rw [List.set_set]
    have e4 : putD (sdK dvs κ) κ (.lst (xs ++ [x])) = (sdK dvs κ).map fun kv => if kv.1 = κ then (kv.1, .lst (xs ++ [x])) else kv := by unfold putD; rw [if_pos (any_true hxs)]
    rw [← e3]
    refine S3.change2 hρ1 e1 (A := A3) ⟨kvs1, _, qs3, by rw [e4], eA3, by rw [eA3, List.nodup_cons]; exact hn3, hg3, by rw [upd_ne hpq]; exact hp3, hl3, n5 hlt⟩ (fun a ha => .inl (by rw [← eF3]; exact ha)) fun a ha => upd_ne fun z => ha ?_
    rw [z, eA3]
    exact List.mem_cons_of_mem _ n1
  obtain ⟨⟨p', e1', r1⟩, _⟩ := S1.own i _ 1 hρ
  rw [e1] at e1'
  cases e1'
  obtain ⟨kvs, dvs', qs, ed, eA, hn, hg, hp, hl, o2⟩ := r1
  cases ed
  have hpz : p ≠ z := fun q => by subst q; rw [hz] at hp; cases hp
  have hz2 : L2.upd H1 z (.lst []) p = some (.dK kvs) := by rw [upd_ne hpz]; exact hp
  have hlen := o2.len
  have hvn : ∀ d, Fw.valK dvs κ = some d → ∃ q, valV kvs κ = some (.ref q) := fun d hd => let ⟨q, _, m, _⟩ := o2.valK hd; ⟨q, m⟩
  have hvn2 : Fw.valK dvs κ = none → valV kvs κ = none := fun hd => by
    have hk2 := o2.keys
    unfold valV
    rw [Option.map_eq_none_iff, List.find?_eq_none]
    intro kv hkv he
    rw [decide_eq_true_eq] at he
    have : kv.1 ∈ dvs.map (·.1) := by rw [← hk2]; exact List.mem_map.mpr ⟨kv, hkv, rfl⟩
    obtain ⟨dv, hdv, e⟩ := List.mem_map.mp this
    exact valK_none hd dv hdv (e.trans he)
  refine ⟨kvs, κ, hz2, ek, by rw [hlen]; exact hc.1, fun v hv => ?_, fun hv => ?_⟩
  · cases hd : Fw.valK dvs κ with
    | none => rw [hvn2 hd] at hv; cases hv
    | some d0 =>
      obtain ⟨q, hq1⟩ := hvn d0 hd
      rw [hv] at hq1
      cases hq1
      have es : sdK dvs κ = dvs := by unfold sdK; rw [hd]
      have eρ : setSlot ρ i (.dK (sdK dvs κ)) 2 = ρ := by
        rw [es]
        unfold setSlot
        obtain ⟨hlt, e⟩ := List.getElem?_eq_some_iff.mp hρ
        rw [← e, List.set_getElem_self]
      refine tail (fp1 := fp) (Ha := L2.upd H1 z (.lst [])) (kvs1 := kvs) ?_ hz2 hv (by rw [es]; exact hc.2)
      rw [eρ]
      exact S1.step (Step.newH S1.sub hz)
  · cases hd : Fw.valK dvs κ with
    | some d0 => obtain ⟨q, hq1⟩ := hvn d0 hd; rw [hv] at hq1; cases hq1
    | none =>
      have es : sdK dvs κ = dvs ++ [(κ, .lst [])] := by unfold sdK; rw [hd]; simp only; unfold putD; rw [any_false hd]; rfl
      have ek2 : putK kvs κ (.ref z) = kvs ++ [(κ, .ref z)] := by
        unfold putK
        rw [if_neg]
        intro ha
        rw [List.any_eq_true] at ha
        obtain ⟨kv, hkv, he⟩ := ha
        rw [decide_eq_true_eq] at he
        unfold valV at hv
        rw [Option.map_eq_none_iff, List.find?_eq_none] at hv
        exact hv kv hkv (by rw [he]; simp)
      have Sz := S1.step (Step.newH (o := .lst []) S1.sub hz)
      rw [eA, List.nodup_cons] at hn
      have hzA : z ∉ fp i := fun m => by
        rw [eA] at m
        rcases List.mem_cons.mp m with m | m
        · exact hpz m.symm
        · obtain ⟨o, ho, _⟩ := o2.there z m
          rw [hz] at ho; cases ho
      have r2 : Root X.K 2 G1 (L2.upd (L2.upd H1 z (.lst [])) p (.dK (putK kvs κ (.ref z)))) p (.dK (sdK dvs κ)) (p :: (qs ++ [z])) := by
        refine ⟨putK kvs κ (.ref z), _, qs ++ [z], rfl, rfl, ?_, fun a ha => ?_, upd_same, ?_, ?_⟩
        · rw [List.nodup_cons, List.mem_append, List.mem_singleton, List.nodup_append]
          refine ⟨fun m => m.elim hn.1 fun m => hpz m, hn.2, List.nodup_cons.mpr ⟨fun m => (nomatch m), List.nodup_nil⟩, fun a ha b hb e => ?_⟩
          rw [List.mem_singleton] at hb
          subst hb
          subst e
          exact hzA (by rw [eA]; exact List.mem_cons_of_mem _ ha)
        · rcases List.mem_cons.mp ha with rfl | ha
          · exact hg _ (by rw [eA]; exact List.mem_cons_self)
          · rcases List.mem_append.mp ha with ha | ha
            · exact hg _ (by rw [eA]; exact List.mem_cons_of_mem _ ha)
            · rw [List.mem_singleton] at ha
              subst ha
              exact S1.sub.free hz
        · rw [ek2, List.length_append, hlen]
          exact hc.1
        · rw [ek2, es]
          refine Own2.snoc (by rw [upd_ne hpz.symm]; exact upd_same) (o2.keep fun a ha => ?_)
          rw [upd_ne fun m => hn.1 (by rw [← m]; exact ha), upd_ne fun m => hzA (by rw [eA, ← m]; exact List.mem_cons_of_mem _ ha)]
      have Sf := S1.change2 (A := p :: (qs ++ [z])) (H' := L2.upd (L2.upd H1 z (.lst [])) p (.dK (putK kvs κ (.ref z)))) hρ e1 r2 (fun a ha => ?_) (fun a ha => ?_)
      · obtain ⟨fp2, Sf⟩ := Sf
        refine tail Sf upd_same ?_ ?_
        · rw [ek2]
          unfold valV at hv ⊢
          rw [Option.map_eq_none_iff] at hv
          rw [List.find?_append, hv]
          simp
        · rw [es, List.map_append, List.nodup_append]
          refine ⟨hc.2, List.nodup_cons.mpr ⟨fun m => (nomatch m), List.nodup_nil⟩, fun a ha b hb e => ?_⟩
          obtain ⟨kv, hkv, rfl⟩ := List.mem_map.mp ha
          have hb' : b = κ := by simpa using hb
          exact valK_none hd kv hkv (e.trans hb')
      · rcases List.mem_cons.mp ha with rfl | ha
        · exact .inl (by rw [eA]; exact List.mem_cons_self)
        · rcases List.mem_append.mp ha with ha | ha
          · exact .inl (by rw [eA]; exact List.mem_cons_of_mem _ ha)
          · rw [List.mem_singleton] at ha
            subst ha
            exact .inr hz
      · rw [upd_ne fun m => ha (by rw [m]; exact List.mem_cons_self), upd_ne fun m => ha (by rw [m]; exact List.mem_cons_of_mem _ (List.mem_append.mpr (.inr (List.mem_singleton_self _))))]
theorem Sim.own2 {B : Bs} {K : PySem.W.Frag} {ρ : Env} {σ : St} {G H : Hp} (s : Sim B K ρ σ G H) {G' H' : Hp} (t : Step G H G' H') {v : V} (o : Out B K H (.dK []) v G' H' .nw) (i : Nat) : Sim B K (setSlot ρ i (.dK []) 2) (σ.set i (some v)) G' H' := by
  obtain ⟨fp, s⟩ := s
  obtain ⟨p, rfl, hp, hg, kvs, h1, h2, h3⟩ := o
  cases h3
  have s1 := (s.step t).drop i (some (.ref p))
  by_cases hl : i < σ.length
  · exact ⟨_, s1.put (d := .dK []) (n := 1) (A := [p]) (List.getElem?_set_self hl) ⟨[], [], [], rfl, rfl, List.nodup_cons.mpr ⟨fun m => (nomatch m), List.nodup_nil⟩, fun a ha => by rw [List.mem_singleton] at ha; subst ha; exact hg, h1, h2, .nil⟩
      (fun a ha => by rw [List.mem_singleton] at ha; subst ha; exact s.extH.free hp) fun j e m hj a ha hm => by
      rw [List.mem_singleton] at ha
      subst ha
      obtain ⟨hne, hj⟩ := get_set_none hj
      obtain ⟨⟨q, _, r⟩, _⟩ := s.own j e m hj
      obtain ⟨u, hu, _⟩ := r.there a hm
      rw [hp] at hu
      cases hu⟩
  · have e1 : setSlot ρ i (.dK []) 2 = ρ.set i none := by
      unfold setSlot
      rw [List.set_eq_of_length_le (by rw [s.len]; omega), List.set_eq_of_length_le (by rw [s.len]; omega)]
    rw [e1]
    exact ⟨fp, s1⟩
theorem ownOk2 : ∀ {k : Kd} {d : D}, ownOk 2 k d = true → k = .nw ∧ d = .dK [] := by
  intro k d h
  cases k <;> cases d <;> (first | (cases h; done) | skip)
  rename_i kvs
  cases kvs
  · exact ⟨rfl, rfl⟩
  · cases h
theorem vs_own2 {i : Nat} {x : Str} {e : Expr} {ir : E} {pos pos' : Pos} (h : VE X C e ir) (hN : X.N.Nodup) (hi : X.N[i]? = some x) (hx : Loc X.env.scope x)
    (hf : X.fn x = true ∨ X.env.scope.names.lookup x = some .local) (hs : swapsWithSole [.Name x pos'] e pos.line X.env = pure false) (hw : swappedStores [.Name x pos'] e X.env = pure none)
    (h1 : (assignEach [.Name x pos'] X.env).map (·.2) = [assign (.Name x pos') X.env] := by rfl) : VS X C (.Assign [.Name x pos'] e pos) (.asg (.v i) ir 2) := by
  obtain ⟨t, pe, f⟩ := h
  refine ⟨_, ps_asg pe (pg_name hN hi hx hf) hs hw h1, fun B ρ σ G H D o S he hq => ?_⟩
  rw [evS] at he
  obtain ⟨⟨d, k⟩, hx, he⟩ := R.of_bind he
  obtain ⟨hk, he⟩ := R.of_guard he
  cases he
  refine f B ρ σ G H _ d k S hx fun v G1 H1 st o => ?_
  have e2 : k = .nw ∧ d = .dK [] := ownOk2 hk
  obtain ⟨rfl, rfl⟩ := e2
  exact hq _ G1 H1 st.g (S.own2 st o i)
end
end Fw

namespace Fw
open PySem L2 PyProof.Rows
/-! ### sorted(set(..)) of whole numbers -/
section
variable {P : Program} {w : World} {A : Around} {E : Value → Shared → Prop} {s : Shared}
abbrev seO (w : World) : Obj := { cls := .type "set", dict := none, data := .set #[] 0 (.fresh 0 0 (!w.params.followText "set-order")) }
abbrev seH (w : World) (h : Heap) : Heap := h.push (seO w)
theorem seH_at (w : World) (h : Heap) : (seH w h).get? h.objs.size = some (seO w) := Heap.get?_push_size _ rfl
set_option maxHeartbeats 3200000 in
theorem callSetL {l : Addr} {items : Array Value} (ns : List Int) {Q : Value → Shared → Prop} (hh : A.handled = none) (hl : s.heap.IsList l items) (hit : IntsAre items.toList ns) (hb : ns.length + 1 < scanBound)
    (h : ∀ (g : Heap) (tk c : Nat), SetR w g s.heap.objs.size (fun j => decide (j ∈ ns)) c → c ≤ ns.length → (∀ b o, s.heap.get? b = some o → g.get? b = some o) → Q (.ref s.heap.objs.size) { s with heap := g, toks := tk }) :
    wpAny (model P w) A (call (.type "set") [.ref l]) Q E s := by
  have isz : items.size = ns.length := by rw [← Array.length_toList]; exact IntsAre.length hit
  obtain ⟨mc, mt, mro⟩ := F.called_set.mro
  have made := F.called_set.made
  have subs := F.called_set.sub
  refine wpAny_call (codeAny_of_tree (wpAny_pure ⟨Code.quiet_builtin _ (by decide +kernel), codeAny_builtin F.entry_type_call ?_⟩))
  rw [Around.under_plain (weight_type_call_type "set" [Value.ref l] []) rfl]
  have q1 := F.called_set.notType
  have q2 := F.called_set.canCreate
  have q3 := F.typeCall_set_1 (Value.ref l)
  repeat (any_goals (first | assumption | wp_step))
  refine codeAny_mono (code_set_led1 (Value.ref l) (E := E) (Q₁ := fun ob z => ob = .ref s.heap.objs.size ∧ z = { s with heap := seH w s.heap }) ⟨rfl, rfl⟩) fun r z hz => ?_
  cases r with
  | error e => exact hz
  | ok fl =>
    cases fl with
    | ret ob =>
      obtain ⟨rfl, rfl⟩ := hz
      have T0 : Shared.TypeIs { s with heap := seH w s.heap } (.ref s.heap.objs.size) "set" := ⟨_, seH_at w s.heap, rfl⟩
      have il := F.called_set.init.lookup
      have ib := F.called_set.init.bind (Value.ref s.heap.objs.size)
      repeat (any_goals (first | assumption | wp_step))
      refine codeAny_mono (codeAny_call_builtin (R := wants (fun r z => r = .none ∧ ∃ g tk c, z = { s with heap := g, toks := tk } ∧ SetR w g s.heap.objs.size (fun j => decide (j ∈ ns)) c ∧ c ≤ ns.length ∧ (∀ b o, s.heap.get? b = some o → g.get? b = some o)) E)
        F.called_set.init.plain F.entry_set_init (check_set_init_1 T0 ?_)) fun r z hz => ?_
      · obtain ⟨ol, gol, cl, nl, dl⟩ := hl
        obtain ⟨oc, od, ot, os⟩ := ol
        simp only at cl dl
        subst cl dl
        have gol2 : (seH w s.heap).get? l = some { cls := .type "list", dict := od, data := .seq items nl, slots := os } := Heap.get?_push_of_some _ gol
        have sb1 := F.sub_list_set
        have sb2 := F.sub_list_frozenset
        have nd : (Value.type "list" == Value.type "dict") = false := by decide
        have L1 : (seH w s.heap).IsList l items := ⟨_, gol2, rfl, nl, rfl⟩
        unfold Builtin.«set.__init__» noKeywords Builtin.Frozenset.updateFrom
        generalize hI : pyIter = IT
        wp_walk
        subst hI
        refine wpAny_pyIter_list L1 (wpAny_bind (wpAny_runValue ?_))
        have ll : l < s.heap.objs.size := Heap.lt_size gol
        have hd3 : A.in1.in1.in1.handled = none := by simp [hh]
        have sz1 : (seH w s.heap).objs.size = s.heap.objs.size + 1 := Heap.size_push ..
        have ne1 : l ≠ (seH w s.heap).objs.size := by rw [sz1]; exact Nat.ne_of_lt (Nat.lt_succ_of_lt ll)
        have nf : s.heap.objs.size ∉ [(seH w s.heap).objs.size, l] := by
          rw [sz1, List.mem_cons, List.mem_singleton]
          exact fun e => e.elim (Nat.ne_of_lt (Nat.lt_succ_self _)) (Nat.ne_of_gt ll)
        have vals : ∀ (i : Nat) (v : Value), items[i]? = some v → ∃ k t, ns[i]? = some k ∧ v = .int k t := fun i v hv => by
          have hi : i < ns.length := by rw [← isz]; exact (Array.getElem?_eq_some_iff.mp hv).1
          obtain ⟨t, e⟩ := IntsAre.int_at hit i v (by rw [Array.getElem?_toList]; exact hv)
          refine ⟨ns[i], t, List.getElem?_eq_getElem hi, e.trans ?_⟩
          rw [List.getD_eq_getElem?_getD, List.getElem?_eq_getElem hi]
          rfl
        refine set_update_ints ((Walks.list hd3 _ l ne1 items).toS) s.heap.objs.size nf ns isz hb vals (items.size - 0) 0 _ (by omega) (Nat.zero_le _) ⟨⟨_, Heap.get?_push_size _ rfl, rfl, rfl⟩, L1.push _⟩ ?b0 ?b1
        case b0 => exact ⟨0, Nat.le_refl 0, setR_new_at (Heap.get?_push_of_some _ (seH_at w s.heap))⟩
        case b1 =>
          intro z c mv hc R
          obtain ⟨g, g2, d2, t2, o2⟩ := z
          have eg : g2 = s.gens := mv.gens
          have ed : d2 = s.drawn := mv.drawn
          have eo : o2 = s.os := mv.os
          subst eg ed eo
          rw [isz] at hc
          refine wpAny_pure (wpAny_pure ⟨rfl, g, t2, c, rfl, R, hc, fun b o e => ?_⟩)
          have lb : b < s.heap.objs.size := Heap.lt_size e
          refine mv.heap b o ?_ (Heap.get?_push_of_some _ (Heap.get?_push_of_some _ e))
          rw [List.mem_cons, List.mem_singleton, sz1]
          exact fun q => q.elim (Nat.ne_of_lt lb) (Nat.ne_of_lt (Nat.lt_succ_of_lt lb))
      · cases r with
        | error e => exact hz
        | ok f2 =>
          cases f2 with
          | ret r =>
            obtain ⟨rfl, g, tk, c, rfl, R, hc, k⟩ := hz
            repeat (any_goals (first | assumption | wp_step))
            exact h g tk c R hc k
          | _ => exact hz.elim
    | _ => exact hz.elim
end
section
variable {X : Cx} {C : CallT}
/-- set(x) of whole numbers, as a step -/
def tSet (w : World) (K : PySem.W.Frag) (t : TE) : TE := fun σ H Q => t σ H fun x H1 => ∃ (a : Addr) (ns : List Int), x = .ref a ∧ (SqL K H1 a (ns.map V.int) ∨ SqT K H1 a (ns.map V.int)) ∧ ns.length ≤ 1000 ∧ ∀ p c, c ≤ ns.length → H1 p = none → Q (.ref p) (L2.upd H1 p (SetO w p (fun j => decide (j ∈ ns)) c))
theorem pe_setL {e : Expr} {t : TE} {p pos : Pos} (hc : X.calm = true) (hg : Gl X "set") (hm : X.mg "set" = none) (he : PE X e t) (hs : starEach [e] X.env = (false, eval e X.env) :: starEach [] X.env) : PE X (.Call (.Name "set" p) [e] [] pos) (tSet X.w X.K t) := by
  refine ⟨fun pins s σ H Q I h => ?_⟩
  refine Call_ (ld_blt I hg hm boot_set (callWith_type1 (args_cons (thn (he.run pins s σ H _ I h) fun u s1 ⟨x, H1, I1, r, q⟩ => args_nil ?_) hs) hs))
  obtain ⟨a, ns, rfl, sq, hl, q⟩ := q
  cases r
  have hb : ns.length + 1 < scanBound := by unfold scanBound; omega
  have fin : ∀ (g : Heap) (tk c : Nat), SetR X.w g s1.heap.objs.size (fun j => decide (j ∈ ns)) c → c ≤ ns.length → (∀ b o, s1.heap.get? b = some o → g.get? b = some o) → EP X pins σ Q (.ref s1.heap.objs.size) { s1 with heap := g, toks := tk } := fun g tk c R hc k =>
    ⟨.ref s1.heap.objs.size, _, I1.laid (t' := tk) k (Nat.le_refl _) (setO_new R), rfl, q _ c hc (I1.hok.fresh (Nat.le_refl _))⟩
  rcases sq with sq | sq
  · obtain ⟨its, rv, pl, _⟩ := I1.list sq
    exact callSetL ns (I1.ok.hd hc) pl.isList (by rw [List.toList_toArray]; exact ints_of_vals rv) hb fin
  · obtain ⟨its, rv, pt, _⟩ := I1.tuple sq
    exact call_set_tupI ns (I1.ok.hd hc) (show s1.heap.IsTuple a its.toArray from pt) (by rw [List.toList_toArray]; exact ints_of_vals rv) hb fin
theorem ints_reps {K : PySem.W.Frag} {G : Hp} : ∀ {vs : List V} {ds : List D} {l : List Int}, Reps K G vs ds → intsD ds = .ok l → vs = l.map V.int
  | _, [], _, .nil, h => by cases h; rfl
  | _, d :: ds, l, .cons rd r, h => by
    unfold intsD at h
    split at h
    · rename_i e; cases e
    · rename_i i r' e
      cases e
      obtain ⟨l', hl, h⟩ := R.of_bind h
      cases h
      cases rd
      rw [ints_reps r hl]
      rfl
    · cases h
theorem reps_int {K : PySem.W.Frag} {G : Hp} : ∀ l : List Int, Reps K G (l.map V.int) (l.map D.int)
  | [] => .nil
  | i :: r => .cons (.int i) (reps_int r)
theorem dedupI_mem : ∀ (l : List Int) (k : Int), k ∈ dedupI l ↔ k ∈ l
  | [], _ => Iff.rfl
  | a :: r, k => by
    rw [dedupI]
    split
    · rename_i h
      rw [dedupI_mem r k, List.mem_cons]
      exact ⟨.inr, fun e => e.elim (fun e => e ▸ h) id⟩
    · rw [List.mem_cons, List.mem_cons, dedupI_mem r k]
theorem dedupI_nodup : ∀ l : List Int, (dedupI l).Nodup
  | [] => List.nodup_nil
  | a :: r => by
    rw [dedupI]
    split
    · exact dedupI_nodup r
    · rename_i h
      exact List.nodup_cons.mpr ⟨fun m => h ((dedupI_mem r a).mp m), dedupI_nodup r⟩
theorem dedupI_len : ∀ l : List Int, (dedupI l).length ≤ l.length
  | [] => Nat.le_refl _
  | a :: r => by
    rw [dedupI]
    have := dedupI_len r
    split
    · rw [List.length_cons]; omega
    · rw [List.length_cons, List.length_cons]; omega
theorem sortU_eq {l ns : List Int} (h1 : ns.Pairwise (· < ·)) (h2 : ∀ k, k ∈ ns ↔ k ∈ l) : sortU l = ns := by
  have hs : (sortU l).Pairwise fun a b => decide (a ≤ b) = true := List.pairwise_mergeSort (fun a b c h k => by rw [decide_eq_true_eq] at *; omega) (fun a b => by rw [Bool.or_eq_true, decide_eq_true_eq, decide_eq_true_eq]; omega) _
  have hp : (sortU l).Perm (dedupI l) := List.mergeSort_perm _ _
  have hn : ns.Nodup := h1.imp fun h e => by omega
  have hp2 : ns.Perm (dedupI l) := (List.perm_ext_iff_of_nodup hn (dedupI_nodup l)).mpr fun k => by rw [h2, dedupI_mem]
  refine (hp.trans hp2.symm).eq_of_pairwise (le := fun a b => decide (a ≤ b) = true) (fun a b _ _ h k => ?_) hs (h1.imp fun h => ?_)
  · rw [decide_eq_true_eq] at h k; omega
  · rw [decide_eq_true_eq]; omega
/-- sorted(set(x)) -/
theorem ve_sset {e : Expr} {ie : E} {p p2 pos2 pos : Pos} (hc : X.calm = true) (hg : Gl X "sorted") (hm : X.mg "sorted" = none) (hg2 : Gl X "set") (hm2 : X.mg "set" = none) (h : VE X C e ie) (hs : starEach [e] X.env = (false, eval e X.env) :: starEach [] X.env) :
    VE X C (.Call (.Name "sorted" p) [.Call (.Name "set" p2) [e] [] pos2] [] pos) (.x1 .sset ie) := by
  obtain ⟨t, pe, f⟩ := h
  refine ⟨_, pe_callB (cr_sortedSet hc) hg hm (by decide +kernel) (pa_cons (pe_setL hc hg2 hm2 pe hs) pa_nil rfl) (by decide) (by decide) rfl rfl, fun B ρ σ G H Q d k S he hq => ?_⟩
  rw [evE] at he
  obtain ⟨⟨x, kx⟩, hx, he⟩ := R.of_bind he
  obtain ⟨_, he⟩ := R.of_guard he
  obtain ⟨xs, hxs, he⟩ := R.of_bind (show (items x).bind _ = _ from he)
  obtain ⟨l, hl, he⟩ := R.of_bind he
  obtain ⟨hlen, he⟩ := R.of_guard he
  rw [decide_eq_true_eq] at hlen
  cases he
  refine f B ρ σ G H _ x kx S hx fun v G1 H1 st o => ?_
  obtain ⟨a, vs, rfl, h1, h2, h3⟩ := seq_of st.sub (o.rc st.sub) hxs
  have ev := ints_reps h3 hl
  subst ev
  refine ⟨a, l, rfl, h1, by omega, fun c n hn hcn => ?_⟩
  refine ⟨c, _, n, rfl, upd_same, by omega, fun ns q hsr hmem _ hq0 => ?_⟩
  have e1 : sortU l = ns := sortU_eq hsr fun k => by rw [hmem]; exact decide_eq_true_iff
  have hcq : q ≠ c := fun z => by subst z; rw [upd_same] at hq0; cases hq0
  rw [upd_ne hcq] at hq0
  have s1 : Step G1 H1 G1 (L2.upd H1 c (SetO X.w c (fun j => decide (j ∈ l)) n)) := Step.newH st.sub hcn
  have s2 : Step G1 (L2.upd H1 c (SetO X.w c (fun j => decide (j ∈ l)) n)) G1 (L2.upd (L2.upd H1 c (SetO X.w c (fun j => decide (j ∈ l)) n)) q (.lst (ns.map V.int))) := Step.newH s1.sub (by rw [upd_ne hcq]; exact hq0)
  refine hq (.ref q) G1 _ ((st.trans s1).trans s2) ⟨q, rfl, st.h.free hq0, st.sub.free hq0, _, upd_same, ?_, ?_⟩
  · rw [List.length_map, ← e1]
    unfold sortU
    rw [List.length_mergeSort]
    have := dedupI_len l
    rw [sizeLine_eq]
    omega
  · rw [e1]
    exact reps_int ns
end
end Fw

namespace Fw
open PySem L2
section
variable {X : Cx} {C : CallT} {c : CK}
theorem cm_rule (hu : Hu X) : ∀ {op : CmpOp} {o : Cm}, cmOk op o = true → ∃ r, OpR X (compareOp op) r ∧ CmR X (cmpD o) r := by
  have h64 : X.A.units + 64 < cLine := by have h : X.A.units + 66 < cLine := hu; omega
  intro op o h
  cases o with
  | eq => cases op <;> (first | (cases h; done) | exact ⟨_, op_eqD h64, cm_eq⟩)
  | ne => cases op <;> (first | (cases h; done) | exact ⟨_, op_neD h64, cm_ne⟩)
  | lt => cases op <;> (first | (cases h; done) | exact ⟨_, op_lt.or (op_lt_str.or (op_ltD h64)), cm_lt⟩)
  | le => cases op <;> (first | (cases h; done) | exact ⟨_, op_le.or op_le_str, cm_le⟩)
  | gt => cases op <;> (first | (cases h; done) | exact ⟨_, op_gt.or op_gt_str, cm_gt⟩)
  | ge => cases op <;> (first | (cases h; done) | exact ⟨_, op_ge.or op_ge_str, cm_ge⟩)
  | isin => cases op <;> (first | (cases h; done) | exact ⟨_, op_inAll hu, cm_in⟩)
  | notin => cases op <;> (first | (cases h; done) | exact ⟨_, op_notinAll hu, cm_notin⟩)
  | isN => cases op <;> (first | (cases h; done) | exact ⟨_, op_isN, cm_isN⟩)
  | notN => cases op <;> (first | (cases h; done) | exact ⟨_, op_notN, cm_notN⟩)
  | isB => cases op <;> (first | (cases h; done) | exact ⟨_, op_isBl, cm_isB⟩)
  | notB => cases op <;> (first | (cases h; done) | exact ⟨_, op_notBl, cm_notB⟩)
theorem op2_rule : ∀ {op : Operator} {o : Op2}, op2Ok op o = true → ∃ r, OpR X (binaryOp op) r ∧ Op2R X (op2D o) r := by
  intro op o h
  cases o with
  | add => cases op <;> (first | (cases h; done) | exact ⟨_, op_add.or (op_add_str.or (op_catS.or op_catA)), spec_add⟩)
  | sub => cases op <;> (first | (cases h; done) | exact ⟨_, op_sub, spec_sub⟩)
  | mul => cases op <;> (first | (cases h; done) | exact ⟨_, op_mulA, spec_mul⟩)
  | fdiv => cases op <;> (first | (cases h; done) | exact ⟨_, op_fdiv, spec_fdiv⟩)
  | mod => cases op <;> (first | (cases h; done) | exact ⟨_, op_mod, spec_mod⟩)
  | pow => cases op <;> (first | (cases h; done) | exact ⟨_, op_pow, spec_pow⟩)
def BiR (X : Cx) (f : Bi) (n : String) : Prop := (∃ r, CallR X (.builtin n) r ∧ CBR X (biD f) r ∧ bootBuiltins (n : Str) = some (.builtin n)) ∨ ∃ r, CallR X (.type n) r ∧ CBR X (biD f) r ∧ bootBuiltins (n : Str) = some (.type n)
theorem bi_rule (K : CtxOk X C c) : ∀ {f : Bi} {n : String}, biName f = some n → BiR X f n := by
  intro f n h
  cases f <;> (first | (cases h; done) | skip)
  · cases h; exact .inl ⟨_, L2.CallR.or call_len call_lenDR, cb_len, by decide +kernel⟩
  · cases h; exact .inl ⟨_, L2.CallR.or (cr_sum K.calm) (cr_sumT K.calm), cb_sum, by decide +kernel⟩
  · cases h; exact .inl ⟨_, L2.CallR.or (call_min2 K.calm) (cr_minA K.calm K.hu), cb_min, by decide +kernel⟩
  · cases h; exact .inl ⟨_, L2.CallR.or (call_max2 K.calm) (cr_maxA K.calm K.hu), cb_max, by decide +kernel⟩
  · cases h; exact .inl ⟨_, cr_sortA K.hu, cb_sorted, by decide +kernel⟩
  · cases h; exact .inr ⟨_, call_list_of, cb_list, by decide +kernel⟩
  · cases h; exact .inr ⟨_, call_tuple_of, cb_tuple, by decide +kernel⟩
  · cases h; exact .inl ⟨_, call_abs, cb_abs, by decide +kernel⟩
  · cases h; exact .inl ⟨_, cr_all K.calm, cb_all, by decide +kernel⟩
  · cases h; exact .inl ⟨_, cr_any K.calm, cb_any, by decide +kernel⟩
  · cases h; exact .inr ⟨_, call_int1, cb_int, by decide +kernel⟩
  · cases h; exact .inr ⟨_, call_str_int, cb_str, by decide +kernel⟩
  · cases h; exact .inr ⟨_, call_bool1, cb_bool, by decide +kernel⟩
theorem ownN_map (own : List Nat) : (ownN c own).map (·.2) = own := by
  unfold ownN
  rw [List.map_map]
  exact List.map_id _
theorem rel_eq (K : CtxOk X C c) (scope : Scope) : relS scope X.env.scope = relS scope (scopeOf c.names) := by
  unfold relS scopeOf
  rw [K.kind, K.names]
theorem lookup_keep {g : Str × NameKind → Str × NameKind} (h1 : ∀ p, (g p).1 = p.1) (h2 : ∀ p, p.2 = .cell → (g p).2 = .cell) {x : Str} : ∀ {names : List (Str × NameKind)}, names.lookup x = some .cell → (names.map g).lookup x = some .cell
  | [], h => by cases h
  | p :: r, h => by
    rw [List.map_cons]
    obtain ⟨n, k⟩ := p
    have e1 := h1 (n, k)
    have e2 := h2 (n, k)
    have ih := lookup_keep h1 h2 (x := x) (names := r)
    generalize g (n, k) = q at e1 e2
    obtain ⟨n', k'⟩ := q
    simp only at e1 e2
    subst e1
    rw [List.lookup_cons] at h ⊢
    cases hx : x == n' with
    | true =>
      rw [hx] at h
      have : k = .cell := Option.some.inj h
      rw [e2 this]
    | false =>
      rw [hx] at h
      exact ih h
theorem relabel_cell (env : PySem.Env) {scope : Scope} {x : Str} (h : scope.names.lookup x = some .cell) : (relabel scope env).names.lookup x = some .cell :=
  lookup_keep (fun p => by dsimp only; split <;> rfl) (fun p e => by dsimp only; split <;> first | rfl | exact e) h
theorem inner_ok (K : CtxOk X C c) {scope : Scope} {own : List (Str × Nat)} (ok : BlkOk X.N X.env.scope scope own) (s : Shared) (H : Hp) (Ca : Addr) (cl : List (Str × Addr)) (fp : List Addr) : CtxOk (X.blk s H scope (compEnvC scope cl Ca X.env) fp) C (inner c scope) where
  N := K.N
  nd := K.nd
  calm := K.calm
  hu := K.hu
  names := by
    show (relS scope X.env.scope).names = _
    rw [rel_eq K]
    rfl
  kind := ok.kind
  sto := fun x hx => by
    obtain ⟨⟨y, k⟩, hm, rfl⟩ := List.mem_map.mp hx
    rw [List.mem_filter] at hm
    have hu := ok.uniq _ hm.1
    have hk := hm.2
    simp only at hk hu
    show Loc (relabel scope X.env) y ∧ ((scope.names.lookup y == some .cell) = true ∨ (relabel scope X.env).names.lookup y = some .local)
    cases k <;> (first | (cases hk; done) | skip)
    · have e := lookup_relabel_local (env := X.env) hu
      exact ⟨.inl e, .inr e⟩
    · have e := relabel_cell X.env hu
      exact ⟨.inr e, .inl (by rw [hu]; rfl)⟩
  bi := K.bi
  ki := K.ki
  kstr := K.kstr
  defs := K.defs
def VB (X : Cx) (C : CallT) (e : Expr) (ir : E) : Prop := VE X C e ir ∧ (tst e = true → VT X C e ir) ∧ (tst e = true → ∀ op vs pos, e = .BoolOp op vs pos → VW X C e ir)
theorem vb_val {e : Expr} {ir : E} (h : VE X C e ir) (he : tst e = true → ∀ whole, isTrue e X.env whole = (do let v ← whole; standAt e.pos; holding [v] (truthy v))) (hb : ∀ op vs pos, e ≠ .BoolOp op vs pos) : VB X C e ir := ⟨h, fun z => vt_val h (he z), fun _ op vs pos z => (hb op vs pos z).elim⟩
theorem chkKey_ok (K : CtxOk X C c) {it : It} {e : Expr} (h : chkKey c it e = true) : ∃ i, it = .keys i ∧ PE X e (tVar i) := by
  unfold chkKey at h
  split at h
  · split at h
    · simp only [Bool.and_eq_true, decide_eq_true_eq] at h
      have o := okName_of h.2
      exact ⟨_, rfl, pe_var (by rw [K.N]; exact h.1.1) (vis_of K h.1.2) o.1 o.2.1⟩
    · cases h
  · cases h
mutual
theorem chkE_ok : ∀ (ir : E) (X : Cx) (C : CallT) (c : CK) (e : Expr), CtxOk X C c → chkE ir c e = true → VB X C e ir
  | .v i, X, C, c, e, K, h => by
    cases e with
    | Name x pos =>
      rw [chkE] at h
      simp only [Bool.and_eq_true, decide_eq_true_eq] at h
      have o := okName_of h.2
      exact vb_val (ve_var (by rw [K.N]; exact h.1.1) (vis_of K h.1.2) o.1 o.2.1) (fun _ _ => rfl) (fun _ _ _ z => nomatch z)
    | _ => simp [chkE] at h
  | .k d, X, C, c, e, K, h => by
    unfold chkE at h
    split at h
    · rw [decide_eq_true_eq] at h
      subst h
      exact vb_val ve_int (fun _ _ => rfl) (fun _ _ _ z => nomatch z)
    · rw [decide_eq_true_eq] at h
      subst h
      exact vb_val ve_bl (fun _ _ => rfl) (fun _ _ _ z => nomatch z)
    · exact vb_val ve_non (fun _ _ => rfl) (fun _ _ _ z => nomatch z)
    · rw [Bool.and_eq_true, decide_eq_true_eq] at h
      obtain ⟨rfl, h⟩ := h
      exact vb_val (ve_str h) (fun _ _ => rfl) (fun _ _ _ z => nomatch z)
    · simp only [Bool.and_eq_true] at h
      exact vb_val (ve_gintE (K.ki _ _ (by simpa using h.2)) (gl_of K h.1.1) (okName_of h.1.2).1) (fun _ _ => rfl) (fun _ _ _ z => nomatch z)
    · simp only [Bool.and_eq_true] at h
      exact vb_val (ve_gstrE (K.kstr _ _ (by simpa using h.1.2)) (gl_of K h.1.1.1) h.2 (okName_of h.1.1.2).1) (fun _ _ => rfl) (fun _ _ _ z => nomatch z)
    · cases h
  | .tup irs, X, C, c, e, K, h => by
    cases e with
    | Tuple es k pos =>
      rw [chkE, Bool.and_eq_true] at h
      exact vb_val (ve_tup (chkEs_ok irs X C c es K h.1) h.2) (fun z => by cases z) (fun _ _ _ z => nomatch z)
    | _ => simp [chkE] at h
  | .lst irs, X, C, c, e, K, h => by
    cases e with
    | List es pos =>
      rw [chkE, Bool.and_eq_true] at h
      exact vb_val (ve_lst (chkEs_ok irs X C c es K h.1) h.2) (fun z => by cases z) (fun _ _ _ z => nomatch z)
    | _ => simp [chkE] at h
  | .op o ia ib, X, C, c, e, K, h => by
    cases e with
    | BinOp a op b pos =>
      rw [chkE] at h
      simp only [Bool.and_eq_true] at h
      obtain ⟨r, h1, h2⟩ := op2_rule h.1.1
      exact vb_val (ve_op2 h1 h2 (chkE_ok ia X C c a K h.1.2).1 (chkE_ok ib X C c b K h.2).1) (fun z => by cases z) (fun _ _ _ z => nomatch z)
    | _ => simp [chkE] at h
  | .neg ia, X, C, c, e, K, h => by
    unfold chkE at h
    split at h
    · exact vb_val (ve_neg (chkE_ok ia X C c _ K h).1) (fun z => by cases z) (fun _ _ _ z => nomatch z)
    · cases h
  | .not ia, X, C, c, e, K, h => by
    unfold chkE at h
    split at h
    · have q := chkE_ok ia X C c _ K h
      exact ⟨ve_not q.1, fun z => vt_not (q.2.1 (by rw [tst] at z; exact z)), fun _ _ _ _ z => nomatch z⟩
    · cases h
  | .and ia ib, X, C, c, e, K, h => by
    unfold chkE at h
    split at h
    · rw [Bool.and_eq_true] at h
      have q := chkE_ok ia X C c _ K h.1
      have r := chkE_ok ib X C c _ K h.2
      have w : ∀ (pos : Pos) (z : tst (.BoolOp .And [_, _] pos) = true), VW X C (.BoolOp .And [_, _] pos) (.and ia ib) := fun pos z => by
        rw [tst, tst.tsts, tst.tsts, tst.tsts, Bool.and_true, Bool.and_eq_true] at z
        exact vw_and (q.2.1 z.1) (vw_and1 (r.2.1 z.2))
      exact ⟨ve_and q.1 (ve_one r.1), fun z => (w _ z).vt, fun z _ _ _ _ => w _ z⟩
    · rw [Bool.and_eq_true] at h
      have q := chkE_ok ia X C c _ K h.1
      have r := chkE_ok ib X C c _ K h.2
      rename_i a b d rest pos
      have w : ∀ (z : tst (.BoolOp .And (a :: b :: d :: rest) pos) = true), VW X C (.BoolOp .And (a :: b :: d :: rest) pos) (.and ia ib) := fun z => by
        rw [tst, tst.tsts, Bool.and_eq_true] at z
        exact vw_and (q.2.1 z.1) (r.2.2 (by rw [tst]; exact z.2) _ _ _ rfl)
      exact ⟨ve_and q.1 r.1, fun z => (w z).vt, fun z _ _ _ _ => w z⟩
    · cases h
  | .or ia ib, X, C, c, e, K, h => by
    unfold chkE at h
    split at h
    · rw [Bool.and_eq_true] at h
      have q := chkE_ok ia X C c _ K h.1
      have r := chkE_ok ib X C c _ K h.2
      have w : ∀ (pos : Pos) (z : tst (.BoolOp .Or [_, _] pos) = true), VW X C (.BoolOp .Or [_, _] pos) (.or ia ib) := fun pos z => by
        rw [tst, tst.tsts, tst.tsts, tst.tsts, Bool.and_true, Bool.and_eq_true] at z
        exact vw_or (q.2.1 z.1) (vw_or1 (r.2.1 z.2))
      exact ⟨ve_or q.1 (ve_one r.1), fun z => (w _ z).vt, fun z _ _ _ _ => w _ z⟩
    · rw [Bool.and_eq_true] at h
      have q := chkE_ok ia X C c _ K h.1
      have r := chkE_ok ib X C c _ K h.2
      rename_i a b d rest pos
      have w : ∀ (z : tst (.BoolOp .Or (a :: b :: d :: rest) pos) = true), VW X C (.BoolOp .Or (a :: b :: d :: rest) pos) (.or ia ib) := fun z => by
        rw [tst, tst.tsts, Bool.and_eq_true] at z
        exact vw_or (q.2.1 z.1) (r.2.2 (by rw [tst]; exact z.2) _ _ _ rfl)
      exact ⟨ve_or q.1 r.1, fun z => (w z).vt, fun z _ _ _ _ => w z⟩
    · cases h
  | .ite ic ia ib, X, C, c, e, K, h => by
    cases e with
    | IfExp t a b pos =>
      rw [chkE] at h
      simp only [Bool.and_eq_true] at h
      exact vb_val (ve_ite ((chkE_ok ic X C c t K h.1.1.2).2.1 h.1.1.1) (chkE_ok ia X C c a K h.1.2).1 (chkE_ok ib X C c b K h.2).1) (fun z => by cases z) (fun _ _ _ z => nomatch z)
    | _ => simp [chkE] at h
  | .cmp o ia ib, X, C, c, e, K, h => by
    unfold chkE at h
    split at h
    · simp only [Bool.and_eq_true] at h
      obtain ⟨r, h1, h2⟩ := cm_rule K.hu h.1.1.1
      have q := chkE_ok ia X C c _ K h.1.2
      have r := chkE_ok ib X C c _ K h.2
      exact ⟨ve_cmp h1 h2 (marks_plain h.1.1.2) q.1 r.1, fun _ => vt_cmp h1 h2 (marks_plain h.1.1.2) q.1 r.1, fun _ _ _ _ z => nomatch z⟩
    · cases h
  | .chain o o' ia ib ic, X, C, c, e, K, h => by
    unfold chkE at h
    split at h
    · simp only [Bool.and_eq_true] at h
      obtain ⟨r, h1, h2⟩ := cm_rule K.hu h.1.1.1.1.1.1
      obtain ⟨r', h1', h2'⟩ := cm_rule K.hu h.1.1.1.1.1.2
      have q := chkE_ok ia X C c _ K h.1.1.2
      have r := chkE_ok ib X C c _ K h.1.2
      have r3 := chkE_ok ic X C c _ K h.2
      exact ⟨ve_chain h1 h2 h1' h2' q.1 r.1 r3.1 (marks_plain h.1.1.1.2), fun _ => vt_chain h1 h2 h1' h2' q.1 r.1 r3.1 (marks_plain h.1.1.1.2), fun _ _ _ _ z => nomatch z⟩
    · cases h
  | .call fi irs, X, C, c, e, K, h => by
    unfold chkE at h
    split at h
    · simp only [Bool.and_eq_true] at h
      obtain ⟨k, F, hr⟩ := K.defs _ _ _ (by simpa using h.1.1.1.1)
      have o := okName_of h.1.1.2
      have va := chkEs_ok irs X C c _ K h.2
      have hp := h.1.2
      rw [List.all_cons, Bool.and_eq_true] at hp
      cases irs with
      | nil => simp [chkEs] at h
      | cons ir irs => exact vb_val (ve_calld F hr (gl_of K h.1.1.1.2) va (by rw [decide_eq_true_eq]) o.1 (starEach_plain hp.1 _ _) (stars_none hp.2 _ _)) (fun _ _ => rfl) (fun _ _ _ z => nomatch z)
    · cases h
  | .bi f irs, X, C, c, e, K, h => by
    unfold chkE at h
    split at h
    · simp only [Bool.and_eq_true] at h
      have b := blt_of K h.1.1.2
      have va := chkEs_ok irs X C c _ K h.2
      have hp := h.1.2
      rw [List.all_cons, Bool.and_eq_true] at hp
      have hn := h.1.1.1
      cases hb : biName f with
      | none => rw [hb] at hn; cases hn
      | some n =>
        rw [hb] at hn
        have hn := of_decide_eq_true hn
        subst hn
        rcases bi_rule K hb with ⟨r, h1, h2, h3⟩ | ⟨r, h1, h2, h3⟩
        · exact vb_val (ve_bi h1 h2 b.1 b.2.1 h3 va b.2.2.2 b.2.2.1 (starEach_plain hp.1 _ _) (stars_none hp.2 _ _)) (fun _ _ => rfl) (fun _ _ _ z => nomatch z)
        · exact vb_val (ve_ty h1 h2 b.1 b.2.1 h3 va b.2.2.2 b.2.2.1 (starEach_plain hp.1 _ _) (stars_none hp.2 _ _)) (fun _ _ => rfl) (fun _ _ _ z => nomatch z)
    · simp only [Bool.and_eq_true] at h
      cases f <;> (first | (cases h.1.1.1.1; done) | skip)
      have hm := of_decide_eq_true h.1.1.1.1
      subst hm
      match irs, h.2 with
      | [is, ia], h2 =>
        rw [chkEs, chkEs] at h2
        simp only [Bool.and_eq_true] at h2
        have q := (chkE_ok is X C c _ K h2.1.2).1
        have r := (chkE_ok ia X C c _ K h2.2.1.2).1
        refine vb_val (ve_join (fun t t' p q => pe_join p q ?_ ?_ ?_) q r) (fun _ _ => rfl) (fun _ _ _ z => nomatch z)
        · rw [starEach_plain h.1.1.2]; rfl
        · exact base_plain h.1.1.1.2 _ _
        · exact h.1.2
      | [], h2 => simp [chkEs] at h2
      | [_], h2 => simp [chkEs] at h2
      | _ :: _ :: _ :: _, h2 => simp [chkEs] at h2
    · cases h
  | .isi ia t, X, C, c, e, K, h => by
    unfold chkE at h
    split at h
    · simp only [Bool.and_eq_true, decide_eq_true_eq] at h
      obtain ⟨⟨⟨⟨⟨rfl, rfl⟩, h3⟩, h4⟩, h5⟩, h6⟩ := h
      have b1 := blt_of K h3
      have b2 := blt_of K h4
      exact vb_val (ve_isi b1.1 b1.2.1 b2.1 b2.2.1 (by cases t <;> decide +kernel) (chkE_ok ia X C c _ K h6).1 b2.2.2.2 b2.2.2.1 (by decide +kernel) (starEach_plain h5 _ _) (starEach_plain rfl _ _) rfl) (fun _ _ => rfl) (fun _ _ _ z => nomatch z)
    · cases h
  | .ix ia ib, X, C, c, e, K, h => by
    cases e with
    | Subscript a b pos =>
      rw [chkE] at h
      simp only [Bool.and_eq_true] at h
      exact vb_val (ve_ix (chkE_ok ia X C c a K h.1.2).1 (chkE_ok ib X C c b K h.2).1 (ix_plain h.1.1)) (fun _ _ => rfl) (fun _ _ _ z => nomatch z)
    | _ => simp [chkE] at h
  | .dget ia ib, X, C, c, e, K, h => by
    cases e with
    | Subscript a b pos =>
      rw [chkE] at h
      simp only [Bool.and_eq_true] at h
      exact vb_val (ve_dget (by have h : X.A.units + 66 < cLine := K.hu; omega) (chkE_ok ia X C c a K h.1.2).1 (chkE_ok ib X C c b K h.2).1 (ix_plain h.1.1)) (fun _ _ => rfl) (fun _ _ _ z => nomatch z)
    | _ => simp [chkE] at h
  | .sl ia il ih, X, C, c, e, K, h => by
    unfold chkE at h
    split at h
    · simp only [Bool.and_eq_true] at h
      exact vb_val (ve_sl (chkE_ok ia X C c _ K h.1.1).1 (chkO_ok il X C c _ K h.1.2) (chkO_ok ih X C c _ K h.2)) (fun _ _ => rfl) (fun _ _ _ z => nomatch z)
    · cases h
  | .rev ia, X, C, c, e, K, h => by
    unfold chkE at h
    split at h
    · exact vb_val (ve_rev (chkE_ok ia X C c _ K h).1) (fun _ _ => rfl) (fun _ _ _ z => nomatch z)
    · cases h
  | .lc own ielt p it ifs, X, C, c, e, K, h => by
    unfold chkE at h
    split at h
    · simp only [Bool.and_eq_true] at h
      obtain ⟨⟨⟨⟨⟨⟨h1, h2⟩, h3⟩, h4⟩, h5⟩, h6⟩, h7⟩ := h
      rename_i elt tg iter ts scope pos
      have b0 := blkOk_by h1
      have ok : BlkOk X.N X.env.scope scope (ownN c own) := by
        rw [K.N]
        exact ⟨b0.kind, b0.uniq, b0.ix, fun y hy e => by rw [K.names]; exact b0.free y hy e, b0.own⟩
      have v : VE X C (.ListComp elt [⟨tg, iter, ts, 0⟩] scope pos) (.lc ((ownN c own).map (·.2)) ielt p it ifs) := by
        rw [Bool.or_eq_true] at h4
        rcases h4 with h4 | h4
        · obtain ⟨i, rfl, pv⟩ := chkKey_ok K h4
          exact ve_lcK pv K.calm K.nd ok (fun s H Ca cl fp => chkP_ok (inner_ok K ok s H Ca cl fp) p tg h5) (fun s H Ca cl fp => chkTs_ok ifs _ C _ ts (inner_ok K ok s H Ca cl fp) h6)
            (fun s H Ca cl fp => (chkE_ok ielt _ C _ elt (inner_ok K ok s H Ca cl fp) h7).1) (fun i hi => by rw [ownN_map]; rw [List.all_eq_true] at h2; simpa using h2 i hi) (fold_plain h3 _)
        exact ve_lc K.calm K.nd (chkI_ok it X C c tg iter K h4) ok (fun s H Ca cl fp => chkP_ok (inner_ok K ok s H Ca cl fp) p tg h5) (fun s H Ca cl fp => chkTs_ok ifs _ C _ ts (inner_ok K ok s H Ca cl fp) h6)
          (fun s H Ca cl fp => (chkE_ok ielt _ C _ elt (inner_ok K ok s H Ca cl fp) h7).1) (fun i hi => by rw [ownN_map]; rw [List.all_eq_true] at h2; simpa using h2 i hi) (fold_plain h3 _)
      rw [ownN_map] at v
      exact vb_val v (fun z => by cases z) (fun _ _ _ z => nomatch z)
    · cases h
  | .x1 f ia, X, C, c, e, K, h => by
    unfold chkE at h
    split at h
    · simp only [Bool.and_eq_true] at h
      have b := blt_of K h.1.1
      have hp := h.1.2
      have h2 := h.2
      cases f <;> simp only at h2 <;> (first | (cases h2; done) | skip)
      · rw [Bool.and_eq_true, decide_eq_true_eq] at h2
        obtain ⟨rfl, h2⟩ := h2
        split at h2
        · simp only [Bool.and_eq_true, decide_eq_true_eq] at h2
          obtain ⟨⟨⟨rfl, g2⟩, g3⟩, g4⟩ := h2
          have b2 := blt_of K g2
          exact vb_val (ve_lrng1 K.calm b.1 b.2.1 b2.1 b2.2.1 (chkE_ok ia X C c _ K g4).1 g3) (fun _ _ => rfl) (fun _ _ _ z => nomatch z)
        · cases h2
      · rw [Bool.and_eq_true, decide_eq_true_eq] at h2
        obtain ⟨rfl, h2⟩ := h2
        split at h2
        · simp only [Bool.and_eq_true, decide_eq_true_eq] at h2
          obtain ⟨⟨⟨rfl, g2⟩, g3⟩, g4⟩ := h2
          have b2 := blt_of K g2
          exact vb_val (ve_sset K.calm b.1 b.2.1 b2.1 b2.2.1 (chkE_ok ia X C c _ K g4).1 (starEach_plain g3 _ _)) (fun _ _ => rfl) (fun _ _ _ z => nomatch z)
        · cases h2
      · rw [Bool.and_eq_true, decide_eq_true_eq] at h2
        exact vb_val (ve_dprs h2.1 K.calm b.1 b.2.1 (chkE_ok ia X C c _ K h2.2).1 hp) (fun _ _ => rfl) (fun _ _ _ z => nomatch z)
      · rw [Bool.and_eq_true, decide_eq_true_eq] at h2
        exact vb_val (ve_dcpy h2.1 b.1 b.2.1 (chkE_ok ia X C c _ K h2.2).1 hp) (fun _ _ => rfl) (fun _ _ _ z => nomatch z)
    · cases h
  | .x2 f ia ib, X, C, c, e, K, h => by
    unfold chkE at h
    split at h
    · split at h
      · simp only [Bool.and_eq_true, decide_eq_true_eq] at h
        obtain ⟨⟨⟨⟨⟨⟨⟨rfl, g1⟩, rfl⟩, g2⟩, g3⟩, g4⟩, g5⟩, g6⟩ := h
        have b := blt_of K g1
        have b2 := blt_of K g2
        exact vb_val (ve_lrng2 K.calm b.1 b.2.1 b2.1 b2.2.1 (chkE_ok ia X C c _ K g5).1 (chkE_ok ib X C c _ K g6).1 g3 g4 (stars_none (es := [_]) (by rw [List.all_cons, g4]; rfl) _ _)) (fun _ _ => rfl) (fun _ _ _ z => nomatch z)
      · cases h
    · split at h
      · simp only [Bool.and_eq_true] at h
        exact vb_val (ve_dict1 (chkE_ok ia X C c _ K h.1).1 (chkE_ok ib X C c _ K h.2).1) (fun z => by cases z) (fun _ _ _ z => nomatch z)
      · cases h
    · cases h
  | .x3 f ia ib ic, X, C, c, e, K, h => by
    unfold chkE at h
    split at h
    · split at h
      · simp only [Bool.and_eq_true, decide_eq_true_eq] at h
        obtain ⟨⟨⟨⟨⟨⟨⟨rfl, g1⟩, g2⟩, g3⟩, g4⟩, g5⟩, g6⟩, g7⟩ := h
        rename_i a m apos b d pos
        have hu : X.A.units + 1 < cLine := by have h : X.A.units + 66 < cLine := K.hu; omega
        have hs : starEach [b, d] X.env = [(false, eval b X.env), (false, eval d X.env)] := by rw [starEach_plain g3, starEach_plain g4]; rfl
        refine vb_val (ve_get2 hu ⟨base_plain g1 _ _, ?_, g2, ?_⟩ (chkE_ok ia X C c _ K g5).1 (chkE_ok ib X C c _ K g6).1 (chkE_ok ic X C c _ K g7).1) (fun _ _ => rfl) (fun _ _ _ z => nomatch z)
        · rw [Bool.and_eq_true, Bool.and_eq_true]
          exact ⟨⟨stars_all (es := [b, d]) (by rw [List.all_cons, List.all_cons, g3, g4]; rfl) _ _, rfl⟩, rfl⟩
        · rw [hs]; rfl
      · cases h
  | .dict0 t, X, C, c, e, K, h => by
    unfold chkE at h
    split at h
    · cases t
      · exact vb_val ve_dict0K (fun z => by cases z) (fun _ _ _ z => nomatch z)
      · exact vb_val ve_dict0T (fun z => by cases z) (fun _ _ _ z => nomatch z)
    · cases h
  | .din ia ib, X, C, c, e, K, h => by
    unfold chkE at h
    split at h
    · simp only [Bool.and_eq_true] at h
      have u1 : X.A.units + 1 < cLine := by have h : X.A.units + 66 < cLine := K.hu; omega
      have q := chkE_ok ia X C c _ K h.1.2
      have r := chkE_ok ib X C c _ K h.2
      exact ⟨ve_din u1 q.1 r.1 (marks_plain h.1.1), fun _ => vt_din u1 q.1 r.1 (marks_plain h.1.1), fun _ _ _ _ z => nomatch z⟩
    · cases h
  | .dnin ia ib, X, C, c, e, K, h => by
    unfold chkE at h
    split at h
    · simp only [Bool.and_eq_true] at h
      have u1 : X.A.units + 1 < cLine := by have h : X.A.units + 66 < cLine := K.hu; omega
      have q := chkE_ok ia X C c _ K h.1.2
      have r := chkE_ok ib X C c _ K h.2
      exact ⟨ve_dnin u1 q.1 r.1 (marks_plain h.1.1), fun _ => vt_dnin u1 q.1 r.1 (marks_plain h.1.1), fun _ _ _ _ z => nomatch z⟩
    · cases h
  | .dzip ia ib, X, C, c, e, K, h => by
    unfold chkE at h
    split at h
    · simp only [Bool.and_eq_true, decide_eq_true_eq] at h
      obtain ⟨⟨⟨⟨⟨⟨⟨rfl, rfl⟩, h3⟩, h4⟩, h5⟩, h6⟩, h7⟩, h8⟩ := h
      have b1 := blt_of K h3
      have b2 := blt_of K h4
      exact vb_val (ve_dzip K.calm b1.1 b1.2.1 b2.1 b2.2.1 (va_cons (chkE_ok ia X C c _ K h7).1 (va_cons (chkE_ok ib X C c _ K h8).1 va_nil (starEach_plain h6 _ _)) (starEach_plain h5 _ _)) (starEach_plain h5 _ _) (stars_none (es := [_]) (by rw [List.all_cons, h6]; rfl) _ _)) (fun _ _ => rfl) (fun _ _ _ z => nomatch z)
    · cases h
  | .disp ks irs, X, C, c, e, K, h => by
    cases e with
    | Dict keys values pos =>
      rw [chkE] at h
      simp only [Bool.and_eq_true, decide_eq_true_eq] at h
      obtain ⟨⟨⟨⟨h1, h2⟩, h3⟩, h4⟩, h5⟩ := h
      obtain ⟨vd, ha, hl⟩ := chkD_ok irs X C c ks keys values pos K h3 h4 h5
      refine vb_val (ve_disp vd ha.1 ha.2 (fun z => ?_) ?_) (fun z => by cases z) (fun _ _ _ z => nomatch z)
      · rw [z] at hl
        cases ks with
        | nil => cases h1
        | cons => cases hl
      · rw [hl]; exact h2
    | _ => simp [chkE] at h
theorem chkEs_ok : ∀ (irs : List E) (X : Cx) (C : CallT) (c : CK) (es : List Expr), CtxOk X C c → chkEs irs c es = true → VA X C es irs
  | [], X, C, c, es, K, h => by
    cases es with
    | nil => exact va_nil
    | cons => simp [chkEs] at h
  | ir :: irs, X, C, c, es, K, h => by
    cases es with
    | nil => simp [chkEs] at h
    | cons e es =>
      rw [chkEs] at h
      simp only [Bool.and_eq_true] at h
      exact va_cons (chkE_ok ir X C c e K h.1.2).1 (chkEs_ok irs X C c es K h.2) (starEach_plain h.1.1 _ _)
theorem chkD_ok : ∀ (irs : List E) (X : Cx) (C : CallT) (c : CK) (ks : List Key) (keys : List (Option Expr)) (values : List Expr) (pos : Pos), CtxOk X C c → chkK ks keys = true → chkEs irs c values = true → ks.length = irs.length →
    VD X C pos keys values ks irs ∧ (keys.all (·.isSome) = true ∧ keys.length = values.length) ∧ keys.length = ks.length
  | [], X, C, c, ks, keys, values, pos, K, h1, h2, hl => by
    cases values with
    | nil =>
      cases ks with
      | nil =>
        cases keys with
        | nil => exact ⟨vd_nil, ⟨rfl, rfl⟩, rfl⟩
        | cons => simp [chkK] at h1
      | cons => cases hl
    | cons => simp [chkEs] at h2
  | ir :: irs, X, C, c, ks, keys, values, pos, K, h1, h2, hl => by
    cases values with
    | nil => simp [chkEs] at h2
    | cons v values =>
      rw [chkEs] at h2
      simp only [Bool.and_eq_true] at h2
      cases ks with
      | nil => cases hl
      | cons k ks =>
        have hl' : ks.length = irs.length := by simpa using hl
        unfold chkK at h1
        split at h1
        · rw [Bool.and_eq_true, decide_eq_true_eq] at h1
          obtain ⟨rfl, h1⟩ := h1
          obtain ⟨vd, ha, hk⟩ := chkD_ok irs X C c ks _ values pos K h1 h2.2 hl'
          exact ⟨vd_step pe_str (chkE_ok ir X C c v K h2.1.2).1 vd, ⟨by rw [List.all_cons, ha.1]; rfl, by rw [List.length_cons, List.length_cons, ha.2]⟩, by rw [List.length_cons, List.length_cons, hk]⟩
        · rw [Bool.and_eq_true, decide_eq_true_eq] at h1
          obtain ⟨rfl, h1⟩ := h1
          obtain ⟨vd, ha, hk⟩ := chkD_ok irs X C c ks _ values pos K h1 h2.2 hl'
          exact ⟨vd_step pe_int (chkE_ok ir X C c v K h2.1.2).1 vd, ⟨by rw [List.all_cons, ha.1]; rfl, by rw [List.length_cons, List.length_cons, ha.2]⟩, by rw [List.length_cons, List.length_cons, hk]⟩
        · cases h1
theorem chkTs_ok : ∀ (irs : List E) (X : Cx) (C : CallT) (c : CK) (es : List Expr), CtxOk X C c → chkTs irs c es = true → VTs X C es irs
  | [], X, C, c, es, K, h => by
    cases es with
    | nil => exact vts_nil
    | cons => simp [chkTs] at h
  | ir :: irs, X, C, c, es, K, h => by
    unfold chkTs at h
    split at h
    · simp only [Bool.and_eq_true] at h
      cases irs with
      | nil => exact vts_one ((chkE_ok ir X C c _ K h.1.2).2.1 h.1.1)
      | cons => cases h.2
    · cases h
theorem chkO_ok : ∀ (ir : Option E) (X : Cx) (C : CallT) (c : CK) (e : Option Expr), CtxOk X C c → chkO ir c e = true → VO X C e ir
  | none, X, C, c, e, K, h => by
    cases e with
    | none => exact vo_none
    | some => simp [chkO] at h
  | some ir, X, C, c, e, K, h => by
    cases e with
    | none => simp [chkO] at h
    | some e =>
      rw [chkO] at h
      exact vo_some (chkE_ok ir X C c e K h).1
theorem chkI_ok : ∀ (it : It) (X : Cx) (C : CallT) (c : CK) (tg e : Expr), CtxOk X C c → chkI it c tg e = true → VI X C tg e it
  | .seq ir, X, C, c, tg, e, K, h => by
    rw [chkI] at h
    exact vi_seq (chkE_ok ir X C c e K h).1
  | .rng1 ia, X, C, c, tg, e, K, h => by
    unfold chkI at h
    split at h
    · simp only [Bool.and_eq_true, decide_eq_true_eq] at h
      obtain ⟨⟨⟨rfl, h2⟩, h3⟩, h4⟩ := h
      have b := blt_of K h2
      exact vi_rng1 b.1 b.2.1 (chkE_ok ia X C c _ K h4).1 (starEach_plain h3 _ _) (by rw [starEach_plain h3]; rfl)
    · cases h
  | .rng2 ia ib, X, C, c, tg, e, K, h => by
    unfold chkI at h
    split at h
    · simp only [Bool.and_eq_true, decide_eq_true_eq] at h
      obtain ⟨⟨⟨⟨⟨rfl, h2⟩, h3⟩, h4⟩, h5⟩, h6⟩ := h
      have b := blt_of K h2
      exact vi_rng2 b.1 b.2.1 (chkE_ok ia X C c _ K h5).1 (chkE_ok ib X C c _ K h6).1 (starEach_plain h3 _ _) (starEach_plain h4 _ _) (by rw [starEach_plain h3, starEach_plain h4]; rfl) (by rw [starEach_plain h4]; rfl)
    · cases h
  | .rng3 ia ib id, X, C, c, tg, e, K, h => by
    unfold chkI at h
    split at h
    · simp only [Bool.and_eq_true, decide_eq_true_eq] at h
      obtain ⟨⟨⟨⟨⟨⟨⟨rfl, b⟩, h3⟩, h4⟩, h5⟩, h6⟩, h7⟩, h8⟩ := h
      have b := blt_of K b
      exact vi_rng3 b.1 b.2.1 (chkE_ok ia X C c _ K h6).1 (chkE_ok ib X C c _ K h7).1 (chkE_ok id X C c _ K h8).1 (starEach_plain h3 _ _) (starEach_plain h4 _ _) (starEach_plain h5 _ _) (stars_none (es := [_, _]) (by rw [List.all_cons, List.all_cons, h4, h5]; rfl) _ _)
    · cases h
  | .zip irs, X, C, c, tg, e, K, h => by
    unfold chkI at h
    split at h
    · simp only [Bool.and_eq_true, decide_eq_true_eq] at h
      obtain ⟨⟨⟨⟨⟨rfl, h2⟩, h3⟩, h4⟩, h5⟩, h6⟩ := h
      have b := blt_of K h2
      have va := chkEs_ok irs X C c _ K h6
      match irs, h5 with
      | [ia, ib], _ => exact vi_zip b.1 b.2.1 va (starEach_plain h3 _ _) (stars_none (es := [_]) (by rw [List.all_cons, h4]; rfl) _ _)
    · cases h
  | .enum ia, X, C, c, tg, e, K, h => by
    unfold chkI at h
    split at h
    · simp only [Bool.and_eq_true, decide_eq_true_eq] at h
      obtain ⟨⟨⟨rfl, h2⟩, h3⟩, h4⟩ := h
      have b := blt_of K h2
      exact vi_enum b.1 b.2.1 (chkE_ok ia X C c _ K h4).1 (starEach_plain h3 _ _) (by rw [starEach_plain h3]; rfl)
    · cases h
  | .keys _, X, C, c, tg, e, K, h => by rw [chkI] at h; cases h
end
end
end Fw

namespace Fw
open PySem L2
/-! ### the checker, statements -/
def inScope (s : Scope) (x : Str) : Bool := s.names.any fun (n, k) => n == x && (k == .local || k == .cell)
def locOnly : Option NameKind → Bool
  | some .local => true
  | _ => false
def noSw (c : CK) (t e : Expr) : Bool := match e with
  | .ListComp _ _ s pos => match t with
    | .Name x p => !(locOnly (c.names.lookup x) && p.line == pos.line && !inScope s x)
    | _ => true
  | .SetComp _ _ _ _ => false
  | .DictComp _ _ _ _ _ => false
  | _ => true
def noPair (t e : Expr) : Bool := match t with
  | .Tuple ts _ _ => match e with
    | .Tuple vs _ _ => !(ts.length == 2 || ts.length == 3) || vs.length != ts.length
    | _ => true
  | .List _ _ => false
  | _ => true
def meth1 (c : CK) (e : Expr) (m : String) (i : Nat) : Option Expr := match e with
  | .Call (.Attribute (.Name x _) n apos) [a] [] pos => if (decide (n = (m : Str)) && decide (c.N[i]? = some x) && visK (c.names.lookup x) && okName x && plainE a && (apos.endLine == pos.line)) = true then some a else none
  | _ => none
mutual
def chkS : S → CK → Stmt → Bool
  | .asg p ir own, c, st => match st with
    | .Assign [tg] e pos => chkA p ir own c tg e
    | _ => false
  | .sto i ii ir, c, st => match st with
    | .Assign [.Subscript (.Name x _) ix _] e pos => decide (c.N[i]? = some x) && visK (c.names.lookup x) && okName x && nocomp e && noslice ix && chkE ii c ix && chkE ir c e
    | _ => false
  | .dst i ii ir, c, st => match st with
    | .Assign [.Subscript (.Name x _) ix _] e pos => decide (c.N[i]? = some x) && visK (c.names.lookup x) && okName x && nocomp e && noslice ix && chkE ii c ix && chkE ir c e
    | _ => false
  | .app i ir, c, st => match st with
    | .Expr e pos => match meth1 c e "append" i with
      | some a => chkE ir c a
      | none => false
    | _ => false
  | .ext i ir, c, st => match st with
    | .Expr e pos => match meth1 c e "extend" i with
      | some a => chkE ir c a
      | none => false
    | _ => false
  | .appPop i j ir, c, st => match st with
    | .Expr e pos => match meth1 c e "append" i with
      | some a => match meth1 c a "pop" j with
        | some b => chkE ir c b
        | none => false
      | none => false
    | _ => false
  | .asgPop _ _ _, _, _ => false
  | .sda i ik ie, c, st => match st with
    | .Expr (.Call (.Attribute (.Call (.Attribute (.Name x _) m apos) [k, .List [] _] [] pos) m2 apos2) [e] [] pos2) _ => decide (m = ("setdefault" : Str)) && decide (m2 = ("append" : Str)) && decide (c.N[i]? = some x) && visK (c.names.lookup x) && okName x && plainE k && plainE e && (apos.endLine == pos.line) && (apos2.endLine == pos2.line) && chkE ik c k && chkE ie c e
    | _ => false
  | .m0 .rev i, c, st => match st with
    | .Expr (.Call (.Attribute (.Name x _) m apos) [] [] pos) _ => decide (m = ("reverse" : Str)) && decide (c.N[i]? = some x) && visK (c.names.lookup x) && okName x && (apos.endLine == pos.line)
    | _ => false
  | .ex ir, c, st => match st with
    | .Expr e pos => nocomp e && chkE ir c e
    | _ => false
  | .ret ir, c, st => match st with
    | .Return (some e) _ => chkE ir c e
    | _ => false
  | .retN, c, st => match st with
    | .Return none _ => true
    | _ => false
  | .ite ic ia ib, c, st => match st with
    | .If t a b _ => tst t && chkE ic c t && chkSs ia c a && chkSs ib c b
    | _ => false
  | .for_ p it irs, c, st => match st with
    | .For tg iter body [] _ => plainE iter && (chkKey c it iter || chkI it c tg iter) && chkP c p tg && chkSs irs c body
    | _ => false
  | .whl ic irs, c, st => match st with
    | .While t body [] _ => tst t && chkE ic c t && chkSs irs c body
    | _ => false
  | .pass, c, st => match st with
    | .Pass _ => true
    | _ => false
  | .brk, c, st => match st with
    | .Break _ => true
    | _ => false
  | .cont, c, st => match st with
    | .Continue _ => true
    | _ => false
  | .never, _, _ => true
  | .frz _, _, _ => false
def chkSs : List S → CK → List Stmt → Bool
  | [], _, sts => match sts with
    | [] => true
    | _ => false
  | ir :: irs, c, sts => match ir with
    | .frz _ => chkSs irs c sts
    | ir => match sts with
      | st :: sts => chkS ir c st && chkSs irs c sts
      | [] => false
def chkA (p : Pat) (ir : E) (own : Nat) (c : CK) (tg e : Expr) : Bool :=
  (decide (own = 0) && plainE tg && noSw c tg e && noPair tg e && chkE ir c e && chkP c p tg) ||
  ((decide (own = 1) || decide (own = 2)) && noSw c tg e && chkE ir c e && chkOwn p c tg) || (decide (own ≤ 1) && chkLc p ir c tg e) || (decide (own = 0) && chkPar p ir c tg e)
def chkOwn (p : Pat) (c : CK) (tg : Expr) : Bool := match p with
  | .v i => match tg with
    | .Name x _ => decide (c.N[i]? = some x) && c.sto.contains x
    | _ => false
  | _ => false
def chkLc (p : Pat) (ir : E) (c : CK) (tg e : Expr) : Bool := match p with
  | .v i => match tg with
    | .Name y py => match ir with
      | .lc _ _ _ _ _ => match e with
        | .ListComp elt gs scope pos' => decide (c.N[i]? = some y) && locOnly (c.names.lookup y) && (py.line == pos'.line) && !inScope scope y && chkE ir c (.ListComp elt gs scope pos')
        | _ => false
      | _ => false
    | _ => false
  | _ => false
def chkPar (p : Pat) (ir : E) (c : CK) (tg e : Expr) : Bool := match p with
  | .t [.v i, .v j] => match tg with
    | .Tuple [.Name x px, .Name y py] _ _ => match ir with
      | .tup [ia, ib] => match e with
        | .Tuple [a, b] _ _ => !decide (i = j) && decide (c.N[i]? = some x) && decide (c.N[j]? = some y) && locOnly (c.names.lookup x) && locOnly (c.names.lookup y) && (py.line == px.line) && !(x == y) && !(y == x) && chkEs [ia, ib] c [a, b] && !([a, b].all (foldedForSure 8)) && !([a, b].all (constantsAlone 8))
        | _ => false
      | _ => false
    | _ => false
  | _ => false
end
section
variable {X : Cx} {C : CallT} {c : CK}
theorem blockKind_of (K : CtxOk X C c) : X.env.blockKind = .function := by
  unfold PySem.Env.blockKind
  rw [K.kind]
  rfl
theorem loc_only (K : CtxOk X C c) {x : Str} (h : locOnly (c.names.lookup x) = true) : X.env.scope.names.lookup x = some .local := by
  rw [K.names]
  revert h
  cases c.names.lookup x with
  | none => intro h; cases h
  | some k => cases k <;> intro h <;> first | rfl | cases h
theorem not_loc (K : CtxOk X C c) {x : Str} (h : locOnly (c.names.lookup x) = false) : (X.env.kindOf x == some .local) = false := by
  show (X.env.scope.names.lookup x == some .local) = false
  rw [K.names]
  revert h
  cases c.names.lookup x with
  | none => intro h; rfl
  | some k => cases k <;> intro h <;> first | rfl | cases h
theorem noSw_ok (K : CtxOk X C c) {t e : Expr} (h : noSw c t e = true) (l : Nat) : swapsWithSole [t] e l X.env = pure false := by
  unfold noSw at h
  unfold swapsWithSole swapsWith
  split at h
  · split at h
    · rename_i elt gs s pos _ x p
      simp only [pure_bind, Expr.pos, blockKind_of K]
      congr 1
      cases hl : locOnly (c.names.lookup x) with
      | false => rw [not_loc K hl]; rfl
      | true =>
        rw [hl] at h
        cases hp : p.line == pos.line with
        | false => simp
        | true =>
          rw [hp] at h
          have hi : inScope s x = true := by
            cases e : inScope s x with
            | false => rw [e] at h; cases h
            | true => rfl
          unfold inScope at hi
          rw [hi]
          simp
    · rename_i elt gs s pos _ hn
      cases t <;> first | rfl | exact (hn _ _ rfl).elim
  · cases h
  · cases h
  · rename_i h1 h2 h3
    cases e <;> first | rfl | exact (h1 _ _ _ _ rfl).elim | exact (h2 _ _ _ _ rfl).elim | exact (h3 _ _ _ _ _ rfl).elim
theorem noPair_ok {t e : Expr} (h : noPair t e = true) (env : PySem.Env) : swappedStores [t] e env = pure none := by
  unfold noPair at h
  split at h
  · split at h
    · rename_i ts _ _ _ vs _ _
      unfold swappedStores
      simp only [pure_bind]
      have hc : (!(ts.length == 2 || ts.length == 3) || vs.length != ts.length || env.blockKind != .function) = true := by rw [h]; rfl
      rw [if_pos hc]
    · rename_i hn
      cases e <;> first | rfl | exact (hn _ _ _ rfl).elim
  · cases h
  · rename_i h1 h2
    cases t <;> first | rfl | exact (h1 _ _ _ rfl).elim | exact (h2 _ _ rfl).elim
theorem nocomp_sw {e : Expr} (h : nocomp e = true) (t : Option Expr) (l : Nat) (env : PySem.Env) : swapsWith e t l env = pure false := by
  cases e <;> first | rfl | cases h
theorem nocomp_sole {e : Expr} (h : nocomp e = true) (t : Expr) (l : Nat) (env : PySem.Env) : swapsWithSole [t] e l env = pure false := by
  cases e <;> first | rfl | cases h
theorem sub_plain {o i : Expr} {pos : Pos} (h : noslice i = true) (env : PySem.Env) : ∀ v, assign (.Subscript o i pos) env v = (do
      let ov ← holding [v] (eval o env)
      let iv ← holding [v, ov] (eval i env)
      standAt pos
      holding [v, ov, iv] (setItem ov iv v)
      release [v, ov, iv] []) := by
  intro v
  cases i <;> first | rfl | cases h
theorem assign1_plain {t : Expr} (h : plainE t = true) (env : PySem.Env) : (assignEach [t] env).map (·.2) = [assign t env] := by
  cases t <;> first | rfl | cases h
theorem chkP_plain {p : Pat} {t : Expr} (h : chkP c p t = true) : plainE t = true := by
  cases t <;> first | rfl | (cases p <;> simp [chkP] at h)
theorem blk_ok (K : CtxOk X C c) {scope : Scope} {own : List (Str × Nat)} (h : blkC c.N (scopeOf c.names) scope own = true) : BlkOk X.N X.env.scope scope own := by
  have b0 := blkOk_by h
  rw [K.N]
  exact ⟨b0.kind, b0.uniq, b0.ix, fun y hy e => by rw [K.names]; exact b0.free y hy e, b0.own⟩
theorem chkA_ok {p : Pat} {ir : E} {own : Nat} {tg e : Expr} {pos : Pos} (K : CtxOk X C c) (h : chkA p ir own c tg e = true) : VS X C (.Assign [tg] e pos) (.asg p ir own) := by
  unfold chkA at h
  simp only [Bool.or_eq_true] at h
  rcases h with ((h | h) | h) | h
  · simp only [Bool.and_eq_true, decide_eq_true_eq] at h
    obtain ⟨⟨⟨⟨⟨rfl, h1⟩, h2⟩, h3⟩, h4⟩, h5⟩ := h
    exact vs_asg (chkE_ok ir X C c e K h4).1 (chkP_ok K p tg h5) (noSw_ok K h2 _) (noPair_ok h3 _) (assign1_plain h1 _)
  · simp only [Bool.and_eq_true, decide_eq_true_eq] at h
    obtain ⟨⟨⟨h1, h2⟩, h3⟩, h4⟩ := h
    rw [Bool.or_eq_true, decide_eq_true_eq, decide_eq_true_eq] at h1
    unfold chkOwn at h4
    split at h4
    · split at h4
      · rw [Bool.and_eq_true, decide_eq_true_eq] at h4
        have s := K.sto _ (by simpa using h4.2)
        rcases h1 with rfl | rfl
        case inr => exact vs_own2 (chkE_ok ir X C c e K h3).1 K.nd (by rw [K.N]; exact h4.1) s.1 s.2 (noSw_ok K h2 _) (noPair_ok rfl _) rfl
        exact vs_own (chkE_ok ir X C c e K h3).1 K.nd (by rw [K.N]; exact h4.1) s.1 s.2 (noSw_ok K h2 _) (noPair_ok rfl _) rfl
      · cases h4
    · cases h4
  · rw [Bool.and_eq_true, decide_eq_true_eq] at h
    obtain ⟨hn, h⟩ := h
    unfold chkLc at h
    split at h
    · split at h
      · split at h
        · split at h
          · simp only [Bool.and_eq_true, decide_eq_true_eq, Bool.not_eq_true'] at h
            obtain ⟨⟨⟨⟨h1, h2⟩, h3⟩, h4⟩, h⟩ := h
            unfold chkE at h
            split at h
            · rename_i heq
              cases heq
              simp only [Bool.and_eq_true] at h
              obtain ⟨⟨⟨⟨⟨⟨g1, g2⟩, g3⟩, g4⟩, g5⟩, g6⟩, g7⟩ := h
              have ok := blk_ok K g1
              rw [Bool.or_eq_true] at g4
              rcases g4 with g4 | g4
              · obtain ⟨i, rfl, pv⟩ := chkKey_ok K g4
                have v := vs_setLcK (X := X) (C := C) (spos := pos) (n := own) pv K.calm K.nd ok (fun s H Ca cl fp => chkP_ok (inner_ok K ok s H Ca cl fp) _ _ g5) (fun s H Ca cl fp => chkTs_ok _ _ C _ _ (inner_ok K ok s H Ca cl fp) g6)
                  (fun s H Ca cl fp => (chkE_ok _ _ C _ _ (inner_ok K ok s H Ca cl fp) g7).1) (by rw [decide_eq_true_eq]; exact hn) (fun i hi => by rw [ownN_map]; rw [List.all_eq_true] at g2; simpa using g2 i hi)
                  (by rw [K.N]; exact h1) (loc_only K h2) K.kind h3 h4 (fold_plain g3 _)
                rw [ownN_map] at v
                exact v
              have v := vs_setLc (X := X) (C := C) (spos := pos) (n := own) K.calm K.nd (chkI_ok _ X C c _ _ K g4) ok (fun s H Ca cl fp => chkP_ok (inner_ok K ok s H Ca cl fp) _ _ g5) (fun s H Ca cl fp => chkTs_ok _ _ C _ _ (inner_ok K ok s H Ca cl fp) g6)
                (fun s H Ca cl fp => (chkE_ok _ _ C _ _ (inner_ok K ok s H Ca cl fp) g7).1) (by rw [decide_eq_true_eq]; exact hn) (fun i hi => by rw [ownN_map]; rw [List.all_eq_true] at g2; simpa using g2 i hi)
                (by rw [K.N]; exact h1) (loc_only K h2) K.kind h3 h4 (fold_plain g3 _)
              rw [ownN_map] at v
              exact v
            · cases h
          · cases h
        · cases h
      · cases h
    · cases h
  · rw [Bool.and_eq_true, decide_eq_true_eq] at h
    obtain ⟨rfl, h⟩ := h
    unfold chkPar at h
    split at h
    · split at h
      · split at h
        · split at h
          · rename_i i j _ x px y py k1 p1 _ ia ib _ a b k2 p2
            simp only [Bool.and_eq_true, decide_eq_true_eq, Bool.not_eq_true', decide_eq_false_iff_not] at h
            obtain ⟨⟨⟨⟨⟨⟨⟨⟨⟨⟨g1, g2⟩, g3⟩, g4⟩, g5⟩, g6⟩, g7⟩, g7'⟩, g8⟩, g9⟩, g10⟩ := h
            have hp := (chkEs_plain g8).1
            refine vs_par K.calm K.nd (chkEs_ok _ X C c _ K g8) (by rw [K.N]; exact g2) (by rw [K.N]; exact g3) g1 (loc_only K g4) (loc_only K g5) ?_ rfl
            have kx : X.env.kindOf x = some .local := loc_only K g4
            have ky : X.env.kindOf y = some .local := loc_only K g5
            simp only [List.all_cons, List.all_nil, Bool.and_true, Bool.and_eq_true] at hp
            unfold swappedStores
            simp only [pure_bind, List.length_cons, List.length_nil, blockKind_of K, List.any_cons, List.any_nil, List.head?_cons, Option.map_some, Option.getD_some, Expr.pos, List.filterMap_cons, List.filterMap_nil, kx, ky, g6, beq_self_eq_true, Bool.true_and, if_true, List.eraseDups_cons, List.filter_cons, List.filter_nil, g7, g7', Bool.not_false, List.eraseDups_nil, g9, g10]
            rw [if_neg (by decide), if_neg, if_neg (by decide), if_neg (by decide), if_neg (by decide)]
            intro hh
            rw [Bool.or_eq_true, Bool.or_eq_true] at hh
            rcases hh with hh | hh | hh
            · cases a <;> first | (cases hh; done) | exact nomatch hp.1
            · cases b <;> first | (cases hh; done) | exact nomatch hp.2
            · cases hh
          · cases h
        · cases h
      · cases h
    · cases h
theorem meth1_pl {e a : Expr} {m : String} {i : Nat} (h : meth1 c e m i = some a) : (∀ env : PySem.Env, starEach [a] env = (false, eval a env) :: starEach [] env) ∧ nocomp e = true := by
  unfold meth1 at h
  split at h
  · split at h
    · rename_i hc
      cases h
      simp only [Bool.and_eq_true, decide_eq_true_eq] at hc
      exact ⟨fun env => starEach_plain hc.1.2 _ _, rfl⟩
    · cases h
  · cases h
theorem meth1_ok {K : CtxOk X C c} {e a : Expr} {m : String} {i : Nat} {t : TA} {r : V → List V → Hp → VK → Prop} {id : String} (h : meth1 c e m i = some a) (slot : PySem.Slot "list" (m : Str) id)
    (hty : typeOf (.builtin id) = pure (.type "method_descriptor")) (hm : MtR X id r) (ha : PA X [a] t) : PE X e (tBM X.K "list" r (tVar i) t) := by
  unfold meth1 at h
  split at h
  · split at h
    · rename_i hc
      cases h
      simp only [Bool.and_eq_true, decide_eq_true_eq] at hc
      obtain ⟨⟨⟨⟨⟨rfl, h1⟩, h2⟩, h3⟩, h4⟩, h5⟩ := hc
      have o := okName_of h3
      refine pe_bm PySem.F.plainAttrs_list slot hty hm (pe_var (by rw [K.N]; exact h1) (vis_of K h2) o.1 o.2.1) ha rfl ?_ h5 (starEach_plain h4 _ _) rfl
      rw [Bool.and_eq_true, Bool.and_eq_true]
      exact ⟨⟨stars_all (es := [_]) (by rw [List.all_cons, h4]; rfl) _ _, rfl⟩, rfl⟩
    · cases h
  · cases h
theorem bh {i : Nat} {x : Str} (h : (decide (c.N[i]? = some x) && visK (c.names.lookup x) && okName x) = true) (K : CtxOk X C c) {pos : Pos} : PE X (.Name x pos) (tVar i) := by
  simp only [Bool.and_eq_true, decide_eq_true_eq] at h
  have o := okName_of h.2
  exact pe_var (by rw [K.N]; exact h.1.1) (vis_of K h.1.2) o.1 o.2.1
mutual
theorem chkS_ok (K : CtxOk X C c) (hp : PassesOwn (model X.prog X.w) X.A X.env X.xe) : ∀ (ir : S) (st : Stmt), chkS ir c st = true → VS X C st ir
  | .asg p ir own, st, h => by
    unfold chkS at h
    split at h
    · exact chkA_ok K h
    · cases h
  | .sto i ii ir, st, h => by
    unfold chkS at h
    split at h
    · rw [Bool.and_eq_true, Bool.and_eq_true, Bool.and_eq_true, Bool.and_eq_true] at h
      exact vs_sto (fun ti q => pg_sub (bh h.1.1.1.1 K) q set_list (sub_plain h.1.1.2 _)) (chkE_ok ii X C c _ K h.1.2).1 (chkE_ok ir X C c _ K h.2).1 (nocomp_sole h.1.1.1.2 _ _ _) (noPair_ok rfl _) rfl
    · cases h
  | .dst i ii ir, st, h => by
    unfold chkS at h
    split at h
    · rw [Bool.and_eq_true, Bool.and_eq_true, Bool.and_eq_true, Bool.and_eq_true] at h
      exact vs_dst (fun ti tv q r => ps_dput (by have h : X.A.units + 66 < cLine := K.hu; omega) (bh h.1.1.1.1 K) q r (nocomp_sw h.1.1.1.2 _ _ _)) (chkE_ok ii X C c _ K h.1.2).1 (chkE_ok ir X C c _ K h.2).1
    · cases h
  | .app i ir, st, h => by
    unfold chkS at h
    split at h
    · split at h
      · rename_i hm
        have q := fun t ha => meth1_ok (t := t) (K := K) hm PySem.F.slot_list_append PySem.F.type_list_append mt_append ha
        have w : starEach [_] X.env = _ ∧ nocomp _ = true := ⟨(meth1_pl hm).1 _, (meth1_pl hm).2⟩
        exact vs_app (fun t ha => q t ha) (chkE_ok ir X C c _ K h).1 w.1 (nocomp_sw w.2 _ _ _)
      · cases h
    · cases h
  | .ext i ir, st, h => by
    unfold chkS at h
    split at h
    · split at h
      · rename_i hm
        have q := fun t ha => meth1_ok (t := t) (K := K) hm PySem.F.slot_list_extend PySem.F.type_list_extend mt_extend ha
        have w : starEach [_] X.env = _ ∧ nocomp _ = true := ⟨(meth1_pl hm).1 _, (meth1_pl hm).2⟩
        exact vs_ext (fun t ha => q t ha) (chkE_ok ir X C c _ K h).1 w.1 (nocomp_sw w.2 _ _ _)
      · cases h
    · cases h
  | .appPop i j ir, st, h => by
    unfold chkS at h
    split at h
    · split at h
      · rename_i hm
        split at h
        · rename_i hn
          have w : starEach [_] X.env = _ ∧ nocomp _ = true := ⟨(meth1_pl hm).1 _, (meth1_pl hm).2⟩
          exact vs_appPop (fun t ha => meth1_ok (K := K) hm PySem.F.slot_list_append PySem.F.type_list_append mt_append ha) (fun t ha => meth1_ok (K := K) hn PySem.F.slot_list_pop PySem.F.type_list_pop mt_popAt ha) (chkE_ok ir X C c _ K h).1 ((meth1_pl hn).1 _) w.1 (nocomp_sw w.2 _ _ _)
        · cases h
      · cases h
    · cases h
  | .asgPop _ _ _, st, h => by unfold chkS at h; cases h
  | .sda i ik ie, st, h => by
    unfold chkS at h
    split at h
    · simp only [Bool.and_eq_true, decide_eq_true_eq] at h
      obtain ⟨⟨⟨⟨⟨⟨⟨⟨⟨⟨rfl, rfl⟩, h1⟩, h2⟩, h3⟩, g1⟩, g2⟩, g3⟩, g4⟩, g5⟩, g6⟩ := h
      rename_i x xp apos k lp pos apos2 e pos2 spos
      have o := okName_of h3
      have pv : PE X (.Name x xp) (tVar i) := pe_var (by rw [K.N]; exact h1) (vis_of K h2) o.1 o.2.1
      have hl : plainE (.List [] lp) = true := rfl
      have hs : starEach [k, .List [] lp] X.env = [(false, eval k X.env), (false, eval (.List [] lp) X.env)] := by rw [starEach_plain g1, starEach_plain hl]; rfl
      refine vs_sda (fun tk pk => pe_dsetd pv pk (pe_lst pa_nil) ⟨rfl, ?_, g3, by rw [hs]; rfl⟩) (fun tb t pb pa => pe_bm PySem.F.plainAttrs_list PySem.F.slot_list_append PySem.F.type_list_append mt_append pb pa rfl ?_ g4 (starEach_plain g2 _ _) rfl) (chkE_ok ik X C c k K g5).1 (chkE_ok ie X C c e K g6).1 (starEach_plain g2 _ _) rfl
      · rw [Bool.and_eq_true, Bool.and_eq_true]
        exact ⟨⟨stars_all (es := [k, .List [] lp]) (by rw [List.all_cons, List.all_cons, g1]; rfl) _ _, rfl⟩, rfl⟩
      · rw [Bool.and_eq_true, Bool.and_eq_true]
        exact ⟨⟨stars_all (es := [e]) (by rw [List.all_cons, g2]; rfl) _ _, rfl⟩, rfl⟩
    · cases h
  | .m0 .rev i, st, h => by
    unfold chkS at h
    split at h
    · simp only [Bool.and_eq_true, decide_eq_true_eq] at h
      obtain ⟨⟨⟨⟨rfl, h1⟩, h2⟩, h3⟩, g1⟩ := h
      have o := okName_of h3
      exact vs_rev (pe_bm0 PySem.F.plainAttrs_list PySem.F.slot_list_reverse PySem.F.type_list_reverse mt_reverse (pe_var (by rw [K.N]; exact h1) (vis_of K h2) o.1 o.2.1) rfl g1) rfl
    · cases h
  | .ex ir, st, h => by
    unfold chkS at h
    split at h
    · rw [Bool.and_eq_true] at h
      exact vs_ex (chkE_ok ir X C c _ K h.2).1 (nocomp_sw h.1 _ _ _)
    · cases h
  | .ret ir, st, h => by
    unfold chkS at h
    split at h
    · exact vs_ret (chkE_ok ir X C c _ K h).1
    · cases h
  | .retN, st, h => by
    unfold chkS at h
    split at h
    · exact vs_retN
    · cases h
  | .ite ic ia ib, st, h => by
    unfold chkS at h
    split at h
    · simp only [Bool.and_eq_true] at h
      exact vs_if ((chkE_ok ic X C c _ K h.1.1.2).2.1 h.1.1.1) (chkSs_ok K hp ia _ h.1.2) (chkSs_ok K hp ib _ h.2)
    · cases h
  | .for_ p it irs, st, h => by
    unfold chkS at h
    split at h
    · simp only [Bool.and_eq_true] at h
      have hk := h.1.1.2
      rw [Bool.or_eq_true] at hk
      rcases hk with hk | hk
      · obtain ⟨i, rfl, pv⟩ := chkKey_ok K hk
        exact vs_forK pv hp K.calm (chkP_ok K p _ h.1.2) (chkSs_ok K hp irs _ h.2) (fold_plain h.1.1.1 _)
      by_cases hL : lend irs = true
      · unfold lend at hL
        split at hL
        · rename_i ic ie
          have hb := h.2
          unfold chkSs at hb
          simp only at hb
          split at hb
          · rename_i st sts
            rw [Bool.and_eq_true] at hb
            have hs := hb.2
            unfold chkSs at hs
            split at hs
            · unfold chkS at hb
              have hb1 := hb.1
              split at hb1
              · rename_i t a b pos2
                simp only [Bool.and_eq_true] at hb1
                have hb2 := hb1.1.2
                have hb3 := hb1.2
                unfold chkSs at hb3
                split at hb3
                · unfold chkSs at hb2
                  simp only at hb2
                  split at hb2
                  · rename_i st2 sts2
                    rw [Bool.and_eq_true] at hb2
                    have hb4 := hb2.2
                    unfold chkSs at hb4
                    split at hb4
                    · have hb5 := hb2.1
                      unfold chkS at hb5
                      split at hb5
                      · exact vs_forL hp K.calm (chkI_ok it X C c _ _ K hk) (chkP_ok K p _ h.1.2) ((chkE_ok ic X C c _ K hb1.1.1.2).2.1 hb1.1.1.1) (chkE_ok ie X C c _ K hb5).1 (fold_plain h.1.1.1 _)
                      · cases hb5
                    · cases hb4
                  · cases hb2
                · cases hb3
              · cases hb1
            · cases hs
          · cases hb
        · cases hL
      exact vs_for hp K.calm (chkI_ok it X C c _ _ K hk) (chkP_ok K p _ h.1.2) (chkSs_ok K hp irs _ h.2) (by simpa using hL) (fold_plain h.1.1.1 _)
    · cases h
  | .whl ic irs, st, h => by
    unfold chkS at h
    split at h
    · simp only [Bool.and_eq_true] at h
      exact vs_while hp ((chkE_ok ic X C c _ K h.1.2).2.1 h.1.1) (chkSs_ok K hp irs _ h.2)
    · cases h
  | .pass, st, h => by
    unfold chkS at h
    split at h
    · exact vs_pass
    · cases h
  | .brk, st, h => by
    unfold chkS at h
    split at h
    · exact vs_brk
    · cases h
  | .cont, st, h => by
    unfold chkS at h
    split at h
    · exact vs_cont
    · cases h
  | .never, st, h => vs_never fun _ => rfl
  | .frz _, st, h => by unfold chkS at h; cases h
theorem chkSs_ok (K : CtxOk X C c) (hp : PassesOwn (model X.prog X.w) X.A X.env X.xe) : ∀ (irs : List S) (sts : List Stmt), chkSs irs c sts = true → VSs X C sts irs
  | [], sts, h => by
    unfold chkSs at h
    split at h
    · exact vss_nil
    · cases h
  | .frz i :: irs, sts, h => by
    unfold chkSs at h
    exact vss_frz (chkSs_ok K hp irs sts h)
  | ir :: irs, sts, h => by
    unfold chkSs at h
    split at h
    · exact vss_frz (chkSs_ok K hp irs sts h)
    · split at h
      · rw [Bool.and_eq_true] at h
        exact vss_cons (chkS_ok K hp ir _ h.1) (chkSs_ok K hp irs _ h.2)
      · cases h
end
end
/-- the defs of a law -/
structure Ds where
  name : Str
  st : Stmt
  N : List Str
  ps : List Str
  k : Nat
  irs : List S
structure MG (P : Program) (w : World) (K : PySem.W.Frag) (mg : Str → Option Value) (base : Heap) (C : CallT) (bi : List Str) (ki : List (Str × Int)) (kt : List (Str × Str)) (defs : List (Str × Nat × Nat)) (k : Nat) : Prop where
  bi : ∀ x ∈ bi, mg x = none
  ki : ∀ (x : Str) (i : Int), (x, i) ∈ ki → ∃ t, mg x = some (.int i t)
  kt : ∀ (x y : Str), (x, y) ∈ kt → ∃ t, mg x = some (.str y t)
  defs : ∀ (x : Str) (fi np : Nat), (x, fi, np) ∈ defs → ∃ k', k' ≤ k ∧ OkDef P w K mg base x k' C fi np
def ckOf (N : List Str) (sc : Scope) (bi : List Str) (ki : List (Str × Int)) (kt : List (Str × Str)) (defs : List (Str × Nat × Nat)) : CK := ⟨N, sc.names, (sc.names.filter fun p => locK (some p.2)).map (·.1), bi, ki, kt, defs⟩
def uniqN (names : List (Str × NameKind)) : Bool := names.all fun p => names.lookup p.1 == some p.2
theorem body_ok {P : Program} {w : World} {K : PySem.W.Frag} {mg : Str → Option Value} {base : Heap} {C : CallT} {bi : List Str} {ki : List (Str × Int)} {kt : List (Str × Str)} {defs : List (Str × Nat × Nat)} {k : Nat} (M : MG P w K mg base C bi ki kt defs k)
    {N : List Str} {nm : Str} {sc : Scope} {irs : List S} {sts : List Stmt} (hN : N.Nodup) (hk : sc.kind = .function) (hu : uniqN sc.names = true) (h : chkSs irs (ckOf N sc bi ki kt defs) sts = true)
    {f : Addr} {cdv : Value} {A : Around} {outer : List PySem.Env} {s : Shared} {H : Hp} {E : XK} (hr : Room k (A.deeper (PyProof.Rows.envOfC nm sc s.heap.objs.size f cdv))) :
    VSs (cxOf CX0 P w K mg base N nm sc f cdv A outer s H E).nox C sts irs :=
  chkSs_ok (X := (cxOf CX0 P w K mg base N nm sc f cdv A outer s H E).nox) (c := ckOf N sc bi ki kt defs) {
    N := rfl
    nd := hN
    calm := rfl
    hu := hu_room hr
    names := rfl
    kind := hk
    sto := fun x hx => by
      obtain ⟨⟨y, kk⟩, hm, rfl⟩ := List.mem_map.mp hx
      rw [List.mem_filter] at hm
      have e := (List.all_eq_true.mp hu) _ hm.1
      have e := eq_of_beq e
      refine ⟨?_, .inl rfl⟩
      have hkk := hm.2
      simp only at e hkk
      cases kk <;> first | (cases hkk; done) | exact .inl e | exact .inr e
    bi := M.bi
    ki := M.ki
    kstr := M.kt
    defs := fun x fi np hx => by
      obtain ⟨k', hle, h⟩ := M.defs x fi np hx
      exact ⟨k', h, hr.mono hle⟩ } PassesOwn.never irs sts h
end Fw
namespace Fw
open PySem L2
theorem all_nil {α : Type} {p : α → Prop} : ∀ x ∈ ([] : List α), p x := fun _ h => nomatch h
theorem all_cons {α : Type} {p : α → Prop} {a : α} {l : List α} (h : p a) (r : ∀ x ∈ l, p x) : ∀ x ∈ a :: l, p x := fun x hx => by
  rcases List.mem_cons.mp hx with e | hx
  · subst e; exact h
  · exact r x hx
theorem pairs_nil {α β : Type} {p : α → β → Prop} : ∀ (x : α) (y : β), (x, y) ∈ ([] : List (α × β)) → p x y := fun _ _ h => nomatch h
theorem pairs_cons {α β : Type} {p : α → β → Prop} {a : α} {b : β} {l : List (α × β)} (h : p a b) (r : ∀ (x : α) (y : β), (x, y) ∈ l → p x y) : ∀ (x : α) (y : β), (x, y) ∈ (a, b) :: l → p x y := fun x y hx => by
  rcases List.mem_cons.mp hx with e | hx
  · cases e; exact h
  · exact r x y hx
theorem dfs_nil {P : Program} {w : World} {K : PySem.W.Frag} {mg : Str → Option Value} {base : Heap} {C : CallT} {k : Nat} : ∀ (x : Str) (fi np : Nat), (x, fi, np) ∈ ([] : List (Str × Nat × Nat)) → ∃ k', k' ≤ k ∧ OkDef P w K mg base x k' C fi np := fun _ _ _ h => nomatch h
theorem dfs_cons {P : Program} {w : World} {K : PySem.W.Frag} {mg : Str → Option Value} {base : Heap} {C : CallT} {k k1 f1 n1 : Nat} {x1 : Str} {l : List (Str × Nat × Nat)} (hle : k1 ≤ k) (h : OkDef P w K mg base x1 k1 C f1 n1)
    (r : ∀ (x : Str) (fi np : Nat), (x, fi, np) ∈ l → ∃ k', k' ≤ k ∧ OkDef P w K mg base x k' C fi np) : ∀ (x : Str) (fi np : Nat), (x, fi, np) ∈ (x1, f1, n1) :: l → ∃ k', k' ≤ k ∧ OkDef P w K mg base x k' C fi np := fun x fi np hx => by
  rcases List.mem_cons.mp hx with e | hx
  · cases e; exact ⟨k1, hle, h⟩
  · exact r x fi np hx
end Fw

namespace Fw
open PySem L2
/-! ### to reckon with the small language -/
def W {α : Type} (r : R α) (Q : α → Prop) : Prop := ∃ a, r = .ok a ∧ Q a
theorem W_ok {α : Type} {a : α} {Q : α → Prop} : W (.ok a) Q ↔ Q a := ⟨fun ⟨_, e, h⟩ => by cases e; exact h, fun h => ⟨a, rfl, h⟩⟩
theorem W_bind {α β : Type} {r : R α} {f : α → R β} {Q : β → Prop} : W (r.bind f) Q ↔ W r fun a => W (f a) Q := by
  constructor
  · rintro ⟨b, e, h⟩
    obtain ⟨a, e1, e2⟩ := R.of_bind e
    exact ⟨a, e1, b, e2, h⟩
  · rintro ⟨a, e, b, e2, h⟩
    subst e
    exact ⟨b, e2, h⟩
theorem W_guard {α : Type} {c : Bool} {r : R α} {Q : α → Prop} : W (R.guard c r) Q ↔ c = true ∧ W r Q := by
  constructor
  · rintro ⟨b, e, h⟩
    obtain ⟨a, e1⟩ := R.of_guard e
    exact ⟨a, b, e1, h⟩
  · rintro ⟨rfl, h⟩
    exact h
theorem W_ite {α : Type} {c : Bool} {r r' : R α} {Q : α → Prop} : W (R.ite c r r') Q ↔ (c = true → W r Q) ∧ (c = false → W r' Q) := by
  cases c
  · exact ⟨fun h => ⟨fun z => (nomatch z), fun _ => h⟩, fun h => h.2 rfl⟩
  · exact ⟨fun h => ⟨fun _ => h, fun z => (nomatch z)⟩, fun h => h.1 rfl⟩
theorem R.ite_true {α : Type} (r r' : R α) : R.ite true r r' = r := rfl
theorem R.ite_false {α : Type} (r r' : R α) : R.ite false r r' = r' := rfl
theorem W.mono {α : Type} {r : R α} {Q Q' : α → Prop} (h : W r Q) (hq : ∀ a, Q a → Q' a) : W r Q' := let ⟨a, e, q⟩ := h; ⟨a, e, hq a q⟩
theorem W.and {α : Type} {r : R α} {Q Q' : α → Prop} (h : W r Q) (h' : W r Q') : W r (fun a => Q a ∧ Q' a) := by
  obtain ⟨a, e, q⟩ := h
  obtain ⟨a', e', q'⟩ := h'
  subst e
  cases e'
  exact ⟨a, rfl, q, q'⟩
theorem W.eq {α : Type} {r : R α} {a : α} (h : r = .ok a) {Q : α → Prop} (hq : Q a) : W r Q := ⟨a, h, hq⟩
/-- what a flow must keep -/
def Fl (Q : Flow → Prop) (I : Env → Prop) : Flow → Prop
  | .nx ρ => I ρ
  | .ct ρ => I ρ
  | .bk ρ => Q (.nx ρ)
  | .rt d k => Q (.rt d k)
theorem for_W {p : Pat} {f : Env → R Flow} {Q : Flow → Prop} (I : List D → Env → Prop) : ∀ {ds : List D} {ρ : Env}, I ds ρ →
    (∀ d r ρ, I (d :: r) ρ → W (setPat p d ρ) fun ρ' => W (f ρ') (Fl Q (I r))) → (∀ ρ, I [] ρ → Q (.nx ρ)) → W (forGo p f ds ρ) Q
  | [], ρ, h, _, hq => ⟨_, rfl, hq ρ h⟩
  | d :: r, ρ, h, hs, hq => by
    rw [forGo, W_bind]
    refine (hs d r ρ h).mono fun ρ' h' => ?_
    rw [W_bind]
    refine h'.mono fun o ho => ?_
    cases o with
    | nx ρ'' => exact for_W I ho hs hq
    | ct ρ'' => exact for_W I ho hs hq
    | bk ρ'' => exact ⟨_, rfl, ho⟩
    | rt d k => exact ⟨_, rfl, ho⟩
theorem whl_W {c : Env → R Bool} {f : Env → R Flow} {Q : Flow → Prop} (I : Nat → Env → Prop) : ∀ {n : Nat} {ρ : Env}, I n ρ →
    (∀ n ρ, I n ρ → W (c ρ) fun b => match b with | true => ∃ m, n = m + 1 ∧ W (f ρ) (Fl Q (I m)) | false => 0 < n ∧ Q (.nx ρ)) → W (whlGo c f n ρ) Q
  | 0, ρ, h, hs => by
    obtain ⟨b, _, hb⟩ := hs 0 ρ h
    cases b with
    | true => obtain ⟨m, e, _⟩ := hb; cases e
    | false => exact absurd hb.1 (Nat.lt_irrefl 0)
  | n + 1, ρ, h, hs => by
    rw [whlGo, W_bind]
    refine (hs (n + 1) ρ h).mono fun b hb => ?_
    cases b with
    | false => exact ⟨_, rfl, hb.2⟩
    | true =>
      obtain ⟨m, e, hb⟩ := hb
      cases e
      rw [W_bind]
      refine hb.mono fun o ho => ?_
      cases o with
      | nx ρ'' => exact whl_W I ho hs
      | ct ρ'' => exact whl_W I ho hs
      | bk ρ'' => exact ⟨_, rfl, ho⟩
      | rt d k => exact ⟨_, rfl, ho⟩
/-- a list comprehension: each item, what it gives -/
theorem lc_W {f : D → R (Option D)} {Q : List D → Prop} : ∀ {ds : List D} (g : D → Option D), (∀ d ∈ ds, f d = .ok (g d)) → Q (ds.filterMap g) → W (lcGo f ds) Q := by
  intro ds g hg hq
  have : ∀ ds : List D, (∀ d ∈ ds, f d = .ok (g d)) → lcGo f ds = .ok (ds.filterMap g) := by
    intro ds
    induction ds with
    | nil => intro _; rfl
    | cons d r ih =>
      intro h
      rw [lcGo, h d (List.mem_cons_self ..), R.bind_ok, ih fun x hx => h x (List.mem_cons_of_mem _ hx), R.bind_ok, List.filterMap_cons]
      cases g d <;> rfl
  exact ⟨_, this ds hg, hq⟩
/-- .. all are such -/
theorem lc_all {f : D → R (Option D)} (P : D → D → Prop) : ∀ {ds : List D}, (∀ d ∈ ds, W (f d) fun o => ∃ x, o = some x ∧ P d x) → W (lcGo f ds) fun l => l.length = ds.length ∧ ∀ x ∈ l, ∃ d ∈ ds, P d x
  | [], _ => ⟨[], rfl, rfl, fun x h => nomatch h⟩
  | d :: r, h => by
    rw [lcGo, W_bind]
    refine (h d (List.mem_cons_self ..)).mono fun o ⟨x, e, px⟩ => ?_
    subst e
    rw [W_bind]
    refine (lc_all P fun d hd => h d (List.mem_cons_of_mem _ hd)).mono fun l ⟨hl, hp⟩ => ?_
    rw [W_ok]
    refine ⟨by rw [List.length_cons, List.length_cons, hl], fun y hy => ?_⟩
    rcases List.mem_cons.mp hy with e | hy
    · subst e; exact ⟨d, List.mem_cons_self .., px⟩
    · obtain ⟨d', hd', pd⟩ := hp y hy
      exact ⟨d', List.mem_cons_of_mem _ hd', pd⟩
theorem lc_map {f : D → R (Option D)} (g : D → D) : ∀ {ds : List D}, (∀ d ∈ ds, f d = .ok (some (g d))) → lcGo f ds = .ok (ds.map g)
  | [], _ => rfl
  | d :: r, h => by
    rw [lcGo, h d (List.mem_cons_self ..), R.bind_ok, lc_map g fun x hx => h x (List.mem_cons_of_mem _ hx), R.bind_ok]
    rfl
theorem boolsD_map : ∀ l : List Bool, boolsD (l.map D.bl) = .ok l
  | [] => rfl
  | b :: r => by rw [List.map_cons, boolsD, boolsD_map r]; rfl
theorem intsD_map : ∀ l : List Int, intsD (l.map D.int) = .ok l
  | [] => rfl
  | b :: r => by rw [List.map_cons, intsD, intsD_map r]; rfl
theorem strsD_map : ∀ l : List Str, strsD (l.map D.str) = .ok l
  | [] => rfl
  | b :: r => by rw [List.map_cons, strsD, strsD_map r]; rfl
theorem run_W {F : List Fn} {n f : Nat} {ds : List D} {fn : Fn} {Q : D × Bool → Prop} (hf : F[f]? = some fn) (hl : (ds.length == fn.params) = true)
    (h : W (evSs (run F n) fn.body (start0 ds fn.slots)) fun o => match o with | .rt d k => Q (d, k) | .nx _ => Q (.non, false) | _ => False) : W (run F (n + 1) f ds) Q := by
  rw [run, hf]
  simp only
  rw [runF, hl, R.guard_true, W_bind]
  refine h.mono fun o ho => ?_
  cases o with
  | rt d k => exact ⟨_, rfl, ho⟩
  | nx ρ => exact ⟨_, rfl, ho⟩
  | bk ρ => exact ho.elim
  | ct ρ => exact ho.elim
/-- a step of a block -/
def Sq (C : CallT) (r : List S) (Q : Flow → Prop) : Flow → Prop
  | .nx ρ => W (evSs C r ρ) Q
  | .rt d k => Q (.rt d k)
  | .bk ρ => Q (.bk ρ)
  | .ct ρ => Q (.ct ρ)
theorem ss_cons {C : CallT} {s : S} {r : List S} {ρ : Env} {Q : Flow → Prop} : W (evSs C (s :: r) ρ) Q ↔ W (evS C s ρ) (Sq C r Q) := by
  rw [evSs, W_bind]
  constructor
  · rintro ⟨o, e, h⟩
    refine ⟨o, e, ?_⟩
    cases o with
    | nx ρ' => exact h
    | rt d k => obtain ⟨_, e, h⟩ := h; cases e; exact h
    | bk ρ' => obtain ⟨_, e, h⟩ := h; cases e; exact h
    | ct ρ' => obtain ⟨_, e, h⟩ := h; cases e; exact h
  · rintro ⟨o, e, h⟩
    refine ⟨o, e, ?_⟩
    cases o with
    | nx ρ' => exact h
    | rt d k => exact W_ok.mpr h
    | bk ρ' => exact W_ok.mpr h
    | ct ρ' => exact W_ok.mpr h
/-- an item, if there is one -/
def oR {α : Type} : Option α → R α
  | some a => .ok a
  | none => .no
theorem oR_some {α : Type} (a : α) : oR (some a) = .ok a := rfl
theorem W_oR {α : Type} {o : Option α} {a : α} {Q : α → Prop} (h : o = some a) (hq : Q a) : W (oR o) Q := by
  subst h
  exact ⟨a, rfl, hq⟩
theorem addD_i (i j : Int) : addD (.int i) (.int j) = .ok (.int (i + j), .sh) := rfl
theorem addD_s (x y : PySem.Str) : addD (.str x) (.str y) = R.guard (decide (x.length + y.length ≤ line)) (.ok (.str (x ++ y), .sh)) := rfl
theorem addD_l (x y : List D) : addD (.lst x) (.lst y) = R.guard (decide (x.length + y.length ≤ line)) (.ok (.lst (x ++ y), .nw)) := rfl
theorem addD_t (x y : List D) : addD (.tup x) (.tup y) = R.guard (decide (x.length + y.length ≤ line)) (.ok (.tup (x ++ y), .sh)) := rfl
theorem subD_i (i j : Int) : subD (.int i) (.int j) = .ok (.int (i - j), .sh) := rfl
theorem mulD_i (i j : Int) : mulD (.int i) (.int j) = R.guard (smallI i || smallI j) (.ok (.int (i * j), .sh)) := rfl
theorem mulD_s (x : PySem.Str) (j : Int) : mulD (.str x) (.int j) = R.guard (decide (0 ≤ j) && decide (j ≤ 1000) && decide (x.length ≤ 1000)) (.ok (.str (PySem.Txt.mul x j), .sh)) := rfl
theorem fdivD_i (i j : Int) : fdivD (.int i) (.int j) = R.guard (decide (0 < j) && decide (j < 1073741824)) (.ok (.int (i / j), .sh)) := rfl
theorem modD_i (i j : Int) : modD (.int i) (.int j) = R.guard (decide (0 < j)) (.ok (.int (i % j), .sh)) := rfl
theorem powD_i (i j : Int) : powD (.int i) (.int j) = R.guard (decide (0 ≤ j) && decide (j ≤ 1000) && decide (i.natAbs < 1000000000)) (.ok (.int (i ^ j.toNat), .sh)) := rfl
theorem ltD_i (i j : Int) : ltD (.int i) (.int j) = .ok (decide (i < j)) := rfl
theorem ltD_s (x y : PySem.Str) : ltD (.str x) (.str y) = .ok (decide (x.cps.toList < y.cps.toList)) := rfl
theorem leD_i (i j : Int) : leD (.int i) (.int j) = .ok (decide (i ≤ j)) := rfl
theorem leD_s (x y : PySem.Str) : leD (.str x) (.str y) = .ok (!decide (y.cps.toList < x.cps.toList)) := rfl
theorem gtD_i (i j : Int) : gtD (.int i) (.int j) = .ok (decide (j < i)) := rfl
theorem gtD_s (x y : PySem.Str) : gtD (.str x) (.str y) = .ok (decide (y.cps.toList < x.cps.toList)) := rfl
theorem geD_i (i j : Int) : geD (.int i) (.int j) = .ok (decide (j ≤ i)) := rfl
theorem geD_s (x y : PySem.Str) : geD (.str x) (.str y) = .ok (!decide (x.cps.toList < y.cps.toList)) := rfl
theorem inD_l (x : D) (ys : List D) : inD x (.lst ys) = R.guard (shp x && shp (.lst ys)) (.ok (ys.any fun y => eqD y x)) := rfl
theorem inD_t (x : D) (ys : List D) : inD x (.tup ys) = R.guard (flatD x && ys.all flatD) (.ok (ys.any fun y => eqD y x)) := rfl
theorem inD_s (x y : PySem.Str) : inD (.str x) (.str y) = .ok (!(PySem.Builtin.Str.occurrences y x 0 y.length 1).isEmpty) := rfl
theorem isBl_b (b : Bool) : isBl (.bl b) = .ok b := rfl
theorem cmpD_eq (a b : D) : cmpD .eq a b = R.guard (shp a && shp b) (.ok (eqD a b)) := rfl
theorem cmpD_ne (a b : D) : cmpD .ne a b = R.guard (shp a && shp b) (.ok (!eqD a b)) := rfl
theorem cmpD_lt (a b : D) : cmpD .lt a b = ltD a b := rfl
theorem cmpD_le (a b : D) : cmpD .le a b = leD a b := rfl
theorem cmpD_gt (a b : D) : cmpD .gt a b = gtD a b := rfl
theorem cmpD_ge (a b : D) : cmpD .ge a b = geD a b := rfl
theorem cmpD_in (a b : D) : cmpD .isin a b = inD a b := rfl
theorem cmpD_notin (a b : D) : cmpD .notin a b = (inD a b).bind fun c => .ok (!c) := rfl
theorem cmpD_isN (a : D) : cmpD .isN a .non = .ok (isNon a) := rfl
theorem cmpD_notN (a : D) : cmpD .notN a .non = .ok (!isNon a) := rfl
theorem cmpD_isB (a b : D) : cmpD .isB a b = (isBl a).bind fun x => (isBl b).bind fun y => .ok (decide (x = y)) := rfl
theorem cmpD_notB (a b : D) : cmpD .notB a b = (isBl a).bind fun x => (isBl b).bind fun y => .ok (!decide (x = y)) := rfl
theorem isNon_n : isNon .non = true := rfl
theorem isNon_i (i : Int) : isNon (.int i) = false := rfl
theorem isNon_b (i : Bool) : isNon (.bl i) = false := rfl
theorem isNon_s (i : PySem.Str) : isNon (.str i) = false := rfl
theorem isNon_l (i : List D) : isNon (.lst i) = false := rfl
theorem isNon_t (i : List D) : isNon (.tup i) = false := rfl
theorem items_l (x : List D) : items (.lst x) = .ok x := rfl
theorem items_t (x : List D) : items (.tup x) = .ok x := rfl
theorem itemsI_l (x : List D) : itemsI (.lst x) = .ok x := rfl
theorem itemsI_t (x : List D) : itemsI (.tup x) = .ok x := rfl
theorem itemsI_s (x : PySem.Str) : itemsI (.str x) = .ok (x.cps.toList.map fun c => .str ⟨#[c]⟩) := rfl
theorem ixD_l (xs : List D) (i : Int) : ixD (.lst xs) (.int i) = oR (atI xs i) := by
  rw [ixD]
  cases atI xs i <;> rfl
theorem ixD_t (xs : List D) (i : Int) : ixD (.tup xs) (.int i) = oR (atI xs i) := by
  rw [ixD]
  cases atI xs i <;> rfl
theorem ixD_s (x : PySem.Str) (i : Int) : ixD (.str x) (.int i) = oR ((atI x.cps.toList i).map fun c => .str ⟨#[c]⟩) := by
  rw [ixD]
  cases atI x.cps.toList i <;> rfl
theorem slD_l (xs : List D) (lo hi : Option Int) : slD (.lst xs) lo hi = .ok (.lst (cutL xs lo hi), .nw) := rfl
theorem slD_t (xs : List D) (lo hi : Option Int) : slD (.tup xs) lo hi = .ok (.tup (cutL xs lo hi), .sh) := rfl
theorem slD_s (x : PySem.Str) (lo hi : Option Int) : slD (.str x) lo hi = .ok (.str ⟨(cutL x.cps.toList lo hi).toArray⟩, .sh) := rfl
theorem lenD_l (x : List D) : lenD [.lst x] = .ok (.int x.length, .sh) := rfl
theorem lenD_t (x : List D) : lenD [.tup x] = .ok (.int x.length, .sh) := rfl
theorem lenD_s (x : PySem.Str) : lenD [.str x] = .ok (.int x.length, .sh) := rfl
theorem lenD_d (x : List (Key × D)) : lenD [.dK x] = .ok (.int x.length, .sh) := rfl
theorem absD_i (i : Int) : absD [.int i] = .ok (.int (if i < 0 then -i else i), .sh) := rfl
theorem minD_i (i j : Int) : minD [.int i, .int j] = .ok (.int (if j < i then j else i), .sh) := rfl
theorem maxD_i (i j : Int) : maxD [.int i, .int j] = .ok (.int (if j > i then j else i), .sh) := rfl
theorem minD_1 (d : D) : minD [d] = (items d).bind (bestD minOf) := by cases d <;> rfl
theorem maxD_1 (d : D) : maxD [d] = (items d).bind (bestD maxOf) := by cases d <;> rfl
theorem bestD_c (f : D → List D → D) (x : D) (xs : List D) : bestD f (x :: xs) = R.guard (bestOk (x :: xs)) (.ok (f x xs, .sh)) := rfl
theorem sortedD_1 (d : D) : sortedD [d] = (items d).bind sortD := rfl
theorem listD_1 (d : D) : listD [d] = (items d).bind fun xs => .ok (.lst xs, .nw) := rfl
theorem tupleD_1 (d : D) : tupleD [d] = (items d).bind fun xs => .ok (.tup xs, .sh) := rfl
theorem allD_l (xs : List D) : allD [.lst xs] = (boolsD xs).bind fun l => .ok (.bl (l.all id), .sh) := rfl
theorem anyD_l (xs : List D) : anyD [.lst xs] = (boolsD xs).bind fun l => .ok (.bl (l.any id), .sh) := rfl
theorem sumD_l (xs : List D) : sumD [.lst xs] = (intsD xs).bind fun l => .ok (.int l.sum, .sh) := rfl
theorem sumD_t (xs : List D) : sumD [.tup xs] = (intsD xs).bind fun l => .ok (.int l.sum, .sh) := rfl
theorem intD_i (i : Int) : intD [.int i] = .ok (.int i, .sh) := rfl
theorem intD_b (b : Bool) : intD [.bl b] = .ok (.int (if b then 1 else 0), .sh) := rfl
theorem boolD_b (b : Bool) : boolD [.bl b] = .ok (.bl b, .sh) := rfl
theorem boolD_i (b : Int) : boolD [.int b] = .ok (.bl (b != 0), .sh) := rfl
theorem joinD_s (s : PySem.Str) (d : D) : joinD [.str s, d] = (items d).bind fun xs => (strsD xs).bind fun l => R.guard (decide ((l.map (·.length)).sum + l.length * s.length ≤ line)) (.ok (.str (PySem.Txt.join s l), .sh)) := rfl
theorem retK_sh : retK .sh = .ok false := rfl
theorem retK_nw : retK .nw = .ok true := rfl
theorem retK_bw : retK .bw = .ok true := rfl
theorem kdOf_0 : kdOf 0 = .sh := rfl
theorem kdOf_1 : kdOf 1 = .bw := rfl
theorem kdOf_2 : kdOf 2 = .b2 := rfl
theorem inKd_sh : inKd .sh = .sh := rfl
theorem inKd_nw : inKd .nw = .sh := rfl
theorem inKd_bw : inKd .bw = .sh := rfl
theorem inKd_b2 : inKd .b2 = .bw := rfl
theorem toKd_t : toKd true = .nw := rfl
theorem toKd_f : toKd false = .sh := rfl
theorem notBw_sh : notBw .sh = true := rfl
theorem notBw_nw : notBw .nw = true := rfl
theorem notBw_bw : notBw .bw = false := rfl
theorem notBw_b2 : notBw .b2 = false := rfl
theorem exact_sh : exact .sh = false := rfl
theorem exact_nw : exact .nw = true := rfl
theorem exact_bw : exact .bw = true := rfl
theorem ownOk_l (x : List D) : ownOk 1 .nw (.lst x) = true := rfl
theorem ownOk_K (x : List (Key × D)) : ownOk 1 .nw (.dK x) = true := rfl
theorem ownOk_T (x : List (List Key × D)) : ownOk 1 .nw (.dT x) = true := rfl
theorem ownOk_2 : ownOk 2 .nw (.dK []) = true := rfl
theorem tyD_ii (i : Int) : tyD .int (.int i) = true := rfl
theorem tyD_ib (i : Bool) : tyD .int (.bl i) = true := rfl
theorem tyD_is (i : PySem.Str) : tyD .int (.str i) = false := rfl
theorem tyD_in : tyD .int .non = false := rfl
theorem tyD_il (i : List D) : tyD .int (.lst i) = false := rfl
theorem tyD_it (i : List D) : tyD .int (.tup i) = false := rfl
theorem tyD_bi (i : Int) : tyD .bool (.int i) = false := rfl
theorem tyD_bb (i : Bool) : tyD .bool (.bl i) = true := rfl
theorem tyD_bs (i : PySem.Str) : tyD .bool (.str i) = false := rfl
theorem tyD_bn : tyD .bool .non = false := rfl
theorem tyD_bl (i : List D) : tyD .bool (.lst i) = false := rfl
theorem tyD_bt (i : List D) : tyD .bool (.tup i) = false := rfl
theorem tyD_si (i : Int) : tyD .str (.int i) = false := rfl
theorem tyD_sb (i : Bool) : tyD .str (.bl i) = false := rfl
theorem tyD_ss (i : PySem.Str) : tyD .str (.str i) = true := rfl
theorem tyD_sn : tyD .str .non = false := rfl
theorem tyD_sl (i : List D) : tyD .str (.lst i) = false := rfl
theorem tyD_st (i : List D) : tyD .str (.tup i) = false := rfl
theorem tyD_ti (i : Int) : tyD .tuple (.int i) = false := rfl
theorem tyD_tb (i : Bool) : tyD .tuple (.bl i) = false := rfl
theorem tyD_ts (i : PySem.Str) : tyD .tuple (.str i) = false := rfl
theorem tyD_tn : tyD .tuple .non = false := rfl
theorem tyD_tl (i : List D) : tyD .tuple (.lst i) = false := rfl
theorem tyD_tt (i : List D) : tyD .tuple (.tup i) = true := rfl
theorem tyD_li (i : Int) : tyD .list (.int i) = false := rfl
theorem tyD_lb (i : Bool) : tyD .list (.bl i) = false := rfl
theorem tyD_ls (i : PySem.Str) : tyD .list (.str i) = false := rfl
theorem tyD_ln : tyD .list .non = false := rfl
theorem tyD_ll (i : List D) : tyD .list (.lst i) = true := rfl
theorem tyD_lt (i : List D) : tyD .list (.tup i) = false := rfl
theorem biD_1 : biD .len = lenD := rfl
theorem biD_2 : biD .sum = sumD := rfl
theorem biD_3 : biD .abs = absD := rfl
theorem biD_4 : biD .min = minD := rfl
theorem biD_5 : biD .max = maxD := rfl
theorem biD_6 : biD .sorted = sortedD := rfl
theorem biD_7 : biD .list = listD := rfl
theorem biD_8 : biD .tuple = tupleD := rfl
theorem biD_9 : biD .all = allD := rfl
theorem biD_10 : biD .any = anyD := rfl
theorem biD_11 : biD .int = intD := rfl
theorem biD_12 : biD .str = strD := rfl
theorem biD_13 : biD .bool = boolD := rfl
theorem biD_14 : biD .join = joinD := rfl
theorem biD_15 : biD .split = splitD := rfl
theorem op2D_1 : op2D .add = addD := rfl
theorem op2D_2 : op2D .sub = subD := rfl
theorem op2D_3 : op2D .mul = mulD := rfl
theorem op2D_4 : op2D .fdiv = fdivD := rfl
theorem op2D_5 : op2D .mod = modD := rfl
theorem op2D_6 : op2D .pow = powD := rfl
theorem strD_i (i : Int) : strD [.int i] = R.guard (decide (i.natAbs.log2 < 1000)) (.ok (.str (toString i : String), .sh)) := rfl
theorem lcGo_n (f : D → R (Option D)) : lcGo f [] = .ok [] := rfl
theorem lcGo_c (f : D → R (Option D)) (d : D) (r : List D) : lcGo f (d :: r) = (f d).bind fun o => (lcGo f r).bind fun l => .ok (match o with | some x => x :: l | none => l) := rfl
theorem keyD_i (i : Int) : keyD (.int i) = .ok (.inl i) := rfl
theorem keyD_s (i : PySem.Str) : keyD (.str i) = .ok (.inr i) := rfl
theorem keysD_n : keysD [] = .ok [] := rfl
theorem keysD_c (d : D) (r : List D) : keysD (d :: r) = (keyD d).bind fun k => (keysD r).bind fun l => .ok (k :: l) := rfl
theorem dgetD_s (kvs : List (Key × D)) (a : PySem.Str) : dgetD (.dK kvs) (.str a) = oR (valK kvs (.inr a)) := by
  show (match valK kvs (.inr a) with | some d => R.ok d | none => R.no) = _
  cases valK kvs (.inr a) <;> rfl
theorem dgetD_i (kvs : List (Key × D)) (a : Int) : dgetD (.dK kvs) (.int a) = oR (valK kvs (.inl a)) := by
  show (match valK kvs (.inl a) with | some d => R.ok d | none => R.no) = _
  cases valK kvs (.inl a) <;> rfl
theorem dgetD_t (kvs : List (List Key × D)) (ks : List D) : dgetD (.dT kvs) (.tup ks) = (keysD ks).bind fun k => oR (valK kvs k) := by
  show ((keysD ks).bind fun k => match valK kvs k with | some d => R.ok d | none => R.no) = _
  cases keysD ks with
  | ok k => show (match valK kvs k with | some d => R.ok d | none => R.no) = oR (valK kvs k); cases valK kvs k <;> rfl
  | no => rfl
theorem dinD_s (kvs : List (Key × D)) (a : PySem.Str) : dinD (.dK kvs) (.str a) = .ok (valK kvs (.inr a)).isSome := rfl
theorem dinD_i (kvs : List (Key × D)) (a : Int) : dinD (.dK kvs) (.int a) = .ok (valK kvs (.inl a)).isSome := rfl
theorem dinD_t (kvs : List (List Key × D)) (ks : List D) : dinD (.dT kvs) (.tup ks) = (keysD ks).bind fun k => .ok (valK kvs k).isSome := rfl
theorem setPat_v (i : Nat) (d : D) (ρ : Env) : setPat (.v i) d ρ = .ok (ρ.set i (some ⟨d, 0⟩)) := rfl
theorem setPat_t (ps : List Pat) (ds : List D) (ρ : Env) : setPat (.t ps) (.tup ds) ρ = setPats ps ds ρ := rfl
theorem setPats_n (ρ : Env) : setPats [] [] ρ = .ok ρ := rfl
theorem setPats_c (p : Pat) (ps : List Pat) (d : D) (ds : List D) (ρ : Env) : setPats (p :: ps) (d :: ds) ρ = (setPat p d ρ).bind fun ρ' => setPats ps ds ρ' := rfl
theorem eqD_i (i j : Int) : eqD (.int i) (.int j) = decide (i = j) := by
  unfold eqD
  simp only [toPy, PySem.PyData.eqv]
  exact Bool.beq_eq_decide_eq _ _
theorem eqD_s (i j : PySem.Str) : eqD (.str i) (.str j) = decide (i = j) := by
  unfold eqD
  simp only [toPy, PySem.PyData.eqv]
  exact Bool.beq_eq_decide_eq _ _
theorem shp_i (i : Int) : shp (.int i) = true := rfl
theorem shp_s (i : PySem.Str) : shp (.str i) = true := rfl
theorem shp_b (i : Bool) : shp (.bl i) = true := rfl
theorem shp_n : shp .non = true := rfl
theorem rt_k {d : D} {k : Kd} {b : Bool} {Q : Bool → Prop} (h : retK k = .ok b) (hq : Q b) : W (retK k) Q := ⟨b, h, hq⟩
theorem ss_nil {C : CallT} {ρ : Env} {Q : Flow → Prop} : W (evSs C [] ρ) Q ↔ Q (.nx ρ) := by rw [evSs, W_ok]
theorem lend_ret (c e : E) : lend [.ite c [.ret e] []] = true := rfl
theorem notB2_sh : notB2 .sh = true := rfl
theorem notB2_nw : notB2 .nw = true := rfl
theorem notB2_bw : notB2 .bw = true := rfl
theorem x1_lrng (i : Int) : x1D .lrng (.int i) = (rangeD 0 i).bind fun l => .ok (.lst l, .nw) := rfl
theorem resOk_bl (b : Bool) : resOk (.bl b, false) = true := rfl
theorem resOk_int (i : Int) : resOk (.int i, false) = true := rfl
theorem resOk_non : resOk (.non, false) = true := rfl
theorem resOk_str (x : PySem.Str) : resOk (.str x, false) = true := rfl
theorem resOk_l (xs : List D) : resOk (.lst xs, true) = noLs xs := rfl
theorem resOk_t (xs : List D) : resOk (.tup xs, false) = noLs xs := rfl
end Fw

namespace Fw
open PySem L2
/-! ### what the laws' own helpers yield -/
def C_numbers : List S := [.asg (.v 2) (.lst []) 1, .asg (.v 3) (.op .mod (.op .mul (.op .add (.op .mod (.v 0) (.k (.int 1999999973))) (.k (.int 31))) (.k (.int 765432101))) (.k (.int 1999999973))) 0, .asg (.v 4) (.k (.int 0)) 0, .ite (.or (.cmp .lt (.v 0) (.k (.int 0))) (.cmp .ge (.v 0) (.op .pow (.k (.int 10)) (.k (.int 18))))) [.asg (.v 4) (.bi .abs [.v 0]) 0] [], .for_ (.v 5) (.rng1 (.v 1)) [.asg (.v 3) (.op .mod (.op .add (.op .add (.op .mul (.v 3) (.op .add (.op .mod (.v 3) (.k (.int 65521))) (.k (.int 40487)))) (.op .mul (.k (.int 7)) (.v 5))) (.k (.int 5))) (.k (.int 1999999973))) 0, .app 2 (.ix (.lst [.v 3, .op .mod (.v 4) (.k (.int 1000000))]) (.bi .int [.cmp .gt (.v 4) (.k (.int 0))])), .asg (.v 4) (.op .fdiv (.v 4) (.k (.int 1000000))) 0], .ret (.v 2)]
def C_cell : List S := [.ite (.cmp .lt (.v 1) (.bi .len [.v 0])) [.ret (.ix (.v 0) (.v 1))] [], .asg (.v 2) (.op .mod (.op .mul (.k (.int 48271)) (.op .add (.op .add (.op .mul (.v 1) (.v 1)) (.op .mul (.k (.int 7)) (.v 1))) (.k (.int 11)))) (.k (.int 2147483647))) 0, .for_ (.v 3) (.seq (.sl (.v 0) (none) (some (.k (.int 3))))) [.asg (.v 2) (.op .mod (.op .add (.op .mul (.v 2) (.k (.int 69621))) (.v 3)) (.k (.int 2147483647))) 0], .ret (.v 2)]
end Fw
namespace Fw
open L2
theorem smallI_of {i : Int} (h : -18446744073709551616 < i) (h' : i < 18446744073709551616) : smallI i = true := by
  unfold smallI
  rw [Bool.and_eq_true, decide_eq_true_eq, decide_eq_true_eq]
  exact ⟨h, h'⟩
theorem range_mem {lo : Int} {n : Nat} {d : D} (h : d ∈ (List.range n).map fun k : Nat => D.int (lo + k)) : ∃ k : Nat, d = .int (lo + k) ∧ k < n := by
  obtain ⟨k, hk, e⟩ := List.mem_map.mp h
  exact ⟨k, e.symm, List.mem_range.mp hk⟩
theorem numbers_loop {C : CallT} {c m : Int} {Q : Flow → Prop} {l : List Int} {st dg : Int} {ov : Option Slot} {ds : List D} (h1 : ∀ x ∈ l, 0 ≤ x) (h2 : 0 ≤ st ∧ st < 1999999973) (h3 : 0 ≤ dg) (h4 : l.length + ds.length = m.toNat) (h6 : m ≤ 1000)
    (h5 : ∀ d ∈ ds, ∃ k : Nat, d = .int (0 + k) ∧ k < m.toNat)
    (hq : ∀ (l : List Int) (st dg : Int) (ov : Option Slot), (∀ x ∈ l, 0 ≤ x) → l.length = m.toNat → Q (.nx [some ⟨.int c, 0⟩, some ⟨.int m, 0⟩, some ⟨.lst (l.map .int), 1⟩, some ⟨.int st, 0⟩, some ⟨.int dg, 0⟩, ov])) :
    W (forGo (.v 5) (fun ρ => evSs C [.asg (.v 3) (.op .mod (.op .add (.op .add (.op .mul (.v 3) (.op .add (.op .mod (.v 3) (.k (.int 65521))) (.k (.int 40487)))) (.op .mul (.k (.int 7)) (.v 5))) (.k (.int 5))) (.k (.int 1999999973))) 0, .app 2 (.ix (.lst [.v 3, .op .mod (.v 4) (.k (.int 1000000))]) (.bi .int [.cmp .gt (.v 4) (.k (.int 0))])), .asg (.v 4) (.op .fdiv (.v 4) (.k (.int 1000000))) 0] ρ) ds
      [some ⟨.int c, 0⟩, some ⟨.int m, 0⟩, some ⟨.lst (l.map .int), 1⟩, some ⟨.int st, 0⟩, some ⟨.int dg, 0⟩, ov]) Q := by
  refine for_W (fun ds ρ => ∃ (l : List Int) (st dg : Int) (ov : Option Slot), ρ = [some ⟨.int c, 0⟩, some ⟨.int m, 0⟩, some ⟨.lst (l.map .int), 1⟩, some ⟨.int st, 0⟩, some ⟨.int dg, 0⟩, ov] ∧ (∀ x ∈ l, 0 ≤ x) ∧ (0 ≤ st ∧ st < 1999999973) ∧ 0 ≤ dg ∧ l.length + ds.length = m.toNat ∧ ∀ d ∈ ds, ∃ k : Nat, d = .int (0 + k) ∧ k < m.toNat)
    ⟨l, st, dg, ov, rfl, h1, h2, h3, h4, h5⟩ ?_ ?_
  · rintro d r ρ ⟨l, st, dg, ov, rfl, h1, h2, h3, h4, h5⟩
    obtain ⟨k, rfl, hk⟩ := h5 d (List.mem_cons_self ..)
    simp only [id_eq, R.bind_ok, R.guard_true, ss_cons, ss_nil, Sq, Fl, W_bind, W_ok, W_guard, R.ite_true, R.ite_false, W_ite, evS, evE, evEs, evO, evTs, evIt, strD_i, keyD_i, keyD_s, keysD_n, keysD_c, dgetD_s, dgetD_i, dgetD_t, dinD_s, dinD_i, dinD_t, setPat_v, setPat_t, setPats_n, setPats_c, setSlot, start0, wipeE, ownL, stoD, dstD, rangeD, List.map_cons, List.map_nil, List.cons_append, List.nil_append, List.append_nil, List.length_cons, List.length_nil, List.replicate_succ, List.replicate_zero, List.getElem?_cons_zero, List.getElem?_cons_succ, List.set_cons_zero, List.set_cons_succ, List.all_cons, List.all_nil, Nat.add_sub_cancel, Nat.reduceAdd, Nat.reduceSub, Bool.and_true, Bool.true_and, Bool.and_self, Bool.not_true, Bool.not_false, true_and, and_true, decide_eq_true_eq, Nat.zero_add, decide_eq_false_iff_not, Int.reduceLT, Int.reduceEq, eqD_i, eqD_s, shp_i, shp_s, shp_b, shp_n, Int.reduceLE, Int.reduceMul, Int.reduceAdd, Int.reduceMod, Int.reduceNeg, Int.reduceSub, Int.reduceToNat, reduceCtorEq, false_implies, true_implies, decide_true, decide_false, forall_const, Bool.false_eq_true, Bool.not_eq_true', Bool.and_eq_true, Bool.or_eq_true, addD_i, addD_s, addD_l, addD_t, subD_i, mulD_i, mulD_s, fdivD_i, modD_i, powD_i, ltD_i, ltD_s, leD_i, leD_s, gtD_i, gtD_s, geD_i, geD_s, inD_l, inD_t, inD_s, isBl_b, cmpD_eq, cmpD_ne, cmpD_lt, cmpD_le, cmpD_gt, cmpD_ge, cmpD_in, cmpD_notin, cmpD_isN, cmpD_notN, cmpD_isB, cmpD_notB, isNon_n, isNon_i, isNon_b, isNon_s, isNon_l, isNon_t, items_l, items_t, itemsI_l, itemsI_t, itemsI_s, ixD_l, ixD_t, ixD_s, slD_l, slD_t, slD_s, lenD_l, lenD_t, lenD_s, lenD_d, absD_i, minD_i, maxD_i, minD_1, maxD_1, bestD_c, sortedD_1, listD_1, tupleD_1, allD_l, anyD_l, sumD_l, sumD_t, intD_i, intD_b, boolD_b, boolD_i, joinD_s, retK_sh, retK_nw, retK_bw, kdOf_0, kdOf_1, kdOf_2, inKd_sh, inKd_nw, inKd_bw, inKd_b2, toKd_t, toKd_f, notBw_sh, notBw_nw, notBw_bw, notBw_b2, exact_sh, exact_nw, exact_bw, ownOk_l, ownOk_K, ownOk_T, ownOk_2, tyD_ii, tyD_ib, tyD_is, tyD_in, tyD_il, tyD_it, tyD_bi, tyD_bb, tyD_bs, tyD_bn, tyD_bl, tyD_bt, tyD_si, tyD_sb, tyD_ss, tyD_sn, tyD_sl, tyD_st, tyD_ti, tyD_tb, tyD_ts, tyD_tn, tyD_tl, tyD_tt, tyD_li, tyD_lb, tyD_ls, tyD_ln, tyD_ll, tyD_lt, biD_1, biD_2, biD_3, biD_4, biD_5, biD_6, biD_7, biD_8, biD_9, biD_10, biD_11, biD_12, biD_13, biD_14, biD_15, op2D_1, op2D_2, op2D_3, op2D_4, op2D_5, op2D_6, oR_some, Option.map_some, true_or, false_or, lend_ret, notB2_sh, notB2_nw, notB2_bw, resOk_bl, resOk_int, resOk_non, resOk_str, resOk_l, resOk_t]
    have e1 : 0 ≤ st % 65521 := Int.emod_nonneg _ (by decide)
    have e2 : st % 65521 < 65521 := Int.emod_lt_of_pos _ (by decide)
    refine ⟨.inl (smallI_of (by omega) (by omega)), .inl rfl, ?_⟩
    have e3 : 0 ≤ (st * (st % 65521 + 40487) + 7 * (0 + (k : Int)) + 5) % 1999999973 := Int.emod_nonneg _ (by decide)
    have e4 : (st * (st % 65521 + 40487) + 7 * (0 + (k : Int)) + 5) % 1999999973 < 1999999973 := Int.emod_lt_of_pos _ (by decide)
    generalize (st * (st % 65521 + 40487) + 7 * (0 + (k : Int)) + 5) % 1999999973 = st' at e3 e4
    have e5 : 0 ≤ dg % 1000000 := Int.emod_nonneg _ (by decide)
    have key : ∃ y : Int, atI [D.int st', D.int (dg % 1000000)] (if 0 < dg then 1 else 0) = some (.int y) ∧ 0 ≤ y := by
      by_cases hd : 0 < dg
      · refine ⟨_, ?_, e5⟩
        rw [if_pos hd]
        rfl
      · refine ⟨_, ?_, e3⟩
        rw [if_neg hd]
        rfl
    obtain ⟨y, ey, hy⟩ := key
    rw [ey]
    rw [List.length_cons] at h4
    simp only [id_eq, R.bind_ok, R.guard_true, ss_cons, ss_nil, Sq, Fl, W_bind, W_ok, W_guard, R.ite_true, R.ite_false, W_ite, evS, evE, evEs, evO, evTs, evIt, strD_i, keyD_i, keyD_s, keysD_n, keysD_c, dgetD_s, dgetD_i, dgetD_t, dinD_s, dinD_i, dinD_t, setPat_v, setPat_t, setPats_n, setPats_c, setSlot, start0, wipeE, ownL, stoD, dstD, rangeD, List.map_cons, List.map_nil, List.cons_append, List.nil_append, List.append_nil, List.length_cons, List.length_nil, List.replicate_succ, List.replicate_zero, List.getElem?_cons_zero, List.getElem?_cons_succ, List.set_cons_zero, List.set_cons_succ, List.all_cons, List.all_nil, Nat.add_sub_cancel, Nat.reduceAdd, Nat.reduceSub, Bool.and_true, Bool.true_and, Bool.and_self, Bool.not_true, Bool.not_false, true_and, and_true, decide_eq_true_eq, Nat.zero_add, decide_eq_false_iff_not, Int.reduceLT, Int.reduceEq, eqD_i, eqD_s, shp_i, shp_s, shp_b, shp_n, Int.reduceLE, Int.reduceMul, Int.reduceAdd, Int.reduceMod, Int.reduceNeg, Int.reduceSub, Int.reduceToNat, reduceCtorEq, false_implies, true_implies, decide_true, decide_false, forall_const, Bool.false_eq_true, Bool.not_eq_true', Bool.and_eq_true, Bool.or_eq_true, addD_i, addD_s, addD_l, addD_t, subD_i, mulD_i, mulD_s, fdivD_i, modD_i, powD_i, ltD_i, ltD_s, leD_i, leD_s, gtD_i, gtD_s, geD_i, geD_s, inD_l, inD_t, inD_s, isBl_b, cmpD_eq, cmpD_ne, cmpD_lt, cmpD_le, cmpD_gt, cmpD_ge, cmpD_in, cmpD_notin, cmpD_isN, cmpD_notN, cmpD_isB, cmpD_notB, isNon_n, isNon_i, isNon_b, isNon_s, isNon_l, isNon_t, items_l, items_t, itemsI_l, itemsI_t, itemsI_s, ixD_l, ixD_t, ixD_s, slD_l, slD_t, slD_s, lenD_l, lenD_t, lenD_s, lenD_d, absD_i, minD_i, maxD_i, minD_1, maxD_1, bestD_c, sortedD_1, listD_1, tupleD_1, allD_l, anyD_l, sumD_l, sumD_t, intD_i, intD_b, boolD_b, boolD_i, joinD_s, retK_sh, retK_nw, retK_bw, kdOf_0, kdOf_1, kdOf_2, inKd_sh, inKd_nw, inKd_bw, inKd_b2, toKd_t, toKd_f, notBw_sh, notBw_nw, notBw_bw, notBw_b2, exact_sh, exact_nw, exact_bw, ownOk_l, ownOk_K, ownOk_T, ownOk_2, tyD_ii, tyD_ib, tyD_is, tyD_in, tyD_il, tyD_it, tyD_bi, tyD_bb, tyD_bs, tyD_bn, tyD_bl, tyD_bt, tyD_si, tyD_sb, tyD_ss, tyD_sn, tyD_sl, tyD_st, tyD_ti, tyD_tb, tyD_ts, tyD_tn, tyD_tl, tyD_tt, tyD_li, tyD_lb, tyD_ls, tyD_ln, tyD_ll, tyD_lt, biD_1, biD_2, biD_3, biD_4, biD_5, biD_6, biD_7, biD_8, biD_9, biD_10, biD_11, biD_12, biD_13, biD_14, biD_15, op2D_1, op2D_2, op2D_3, op2D_4, op2D_5, op2D_6, oR_some, Option.map_some, true_or, false_or, lend_ret, notB2_sh, notB2_nw, notB2_bw, resOk_bl, resOk_int, resOk_non, resOk_str, resOk_l, resOk_t]
    refine ⟨?_, l ++ [y], st', dg / 1000000, some ⟨.int (0 + k), 0⟩, ?_, ?_, ⟨e3, e4⟩, Int.ediv_nonneg h3 (by decide), ?_, fun d hd => h5 d (List.mem_cons_of_mem _ hd)⟩
    · rw [List.length_map]; show _ < 16777216; omega
    · rw [List.map_append]; rfl
    · intro x hx
      rcases List.mem_append.mp hx with hx | hx
      · exact h1 x hx
      · rw [List.mem_singleton] at hx; subst hx; exact hy
    · rw [List.length_append, List.length_singleton]; omega
  · rintro ρ ⟨l, st, dg, ov, rfl, h1, h2, h3, h4, h5⟩
    exact hq l st dg ov h1 h4
theorem numbers_ok {F : List Fn} {fi : Nat} (hf : F[fi]? = some ⟨2, 6, C_numbers⟩) (n : Nat) (c m : Int) (h0 : 0 ≤ m) (h1 : m ≤ 1000) : W (run F (n + 1) fi [.int c, .int m]) fun r => ∃ l : List Int, r = (.lst (l.map .int), true) ∧ l.length = m.toNat ∧ ∀ x ∈ l, 0 ≤ x := by
  refine run_W hf rfl ?_
  simp only [C_numbers]
  have f1 : 0 ≤ (c % 1999999973 + 31) * 765432101 % 1999999973 := Int.emod_nonneg _ (by decide)
  have f2 : (c % 1999999973 + 31) * 765432101 % 1999999973 < 1999999973 := Int.emod_lt_of_pos _ (by decide)
  have g0 : (m - 0).toNat = m.toNat := by omega
  have g1 : ((List.range (m - 0).toNat).map fun k : Nat => D.int (0 + (k : Int))).length = m.toNat := by rw [List.length_map, List.length_range]; omega
  have go : ∀ dg : Int, 0 ≤ dg → ∀ Q : Flow → Prop, (∀ (l : List Int) (st dg : Int) (ov : Option Slot), (∀ x ∈ l, 0 ≤ x) → l.length = m.toNat → Q (.nx [some ⟨.int c, 0⟩, some ⟨.int m, 0⟩, some ⟨.lst (l.map .int), 1⟩, some ⟨.int st, 0⟩, some ⟨.int dg, 0⟩, ov])) → _ := fun dg hdg Q hq => numbers_loop (C := run F n) (c := c) (l := []) (ov := none) (fun x h => nomatch h) ⟨f1, f2⟩ hdg (by rw [g1]; exact Nat.zero_add _) h1 (fun d hd => by rw [← g0]; exact range_mem hd) hq
  simp only [id_eq, R.bind_ok, R.guard_true, ss_cons, ss_nil, Sq, Fl, W_bind, W_ok, W_guard, R.ite_true, R.ite_false, W_ite, evS, evE, evEs, evO, evTs, evIt, strD_i, keyD_i, keyD_s, keysD_n, keysD_c, dgetD_s, dgetD_i, dgetD_t, dinD_s, dinD_i, dinD_t, setPat_v, setPat_t, setPats_n, setPats_c, setSlot, start0, wipeE, ownL, stoD, dstD, rangeD, List.map_cons, List.map_nil, List.cons_append, List.nil_append, List.append_nil, List.length_cons, List.length_nil, List.replicate_succ, List.replicate_zero, List.getElem?_cons_zero, List.getElem?_cons_succ, List.set_cons_zero, List.set_cons_succ, List.all_cons, List.all_nil, Nat.add_sub_cancel, Nat.reduceAdd, Nat.reduceSub, Bool.and_true, Bool.true_and, Bool.and_self, Bool.not_true, Bool.not_false, true_and, and_true, decide_eq_true_eq, Nat.zero_add, decide_eq_false_iff_not, Int.reduceLT, Int.reduceEq, eqD_i, eqD_s, shp_i, shp_s, shp_b, shp_n, Int.reduceLE, Int.reduceMul, Int.reduceAdd, Int.reduceMod, Int.reduceNeg, Int.reduceSub, Int.reduceToNat, reduceCtorEq, false_implies, true_implies, decide_true, decide_false, forall_const, Bool.false_eq_true, Bool.not_eq_true', Bool.and_eq_true, Bool.or_eq_true, addD_i, addD_s, addD_l, addD_t, subD_i, mulD_i, mulD_s, fdivD_i, modD_i, powD_i, ltD_i, ltD_s, leD_i, leD_s, gtD_i, gtD_s, geD_i, geD_s, inD_l, inD_t, inD_s, isBl_b, cmpD_eq, cmpD_ne, cmpD_lt, cmpD_le, cmpD_gt, cmpD_ge, cmpD_in, cmpD_notin, cmpD_isN, cmpD_notN, cmpD_isB, cmpD_notB, isNon_n, isNon_i, isNon_b, isNon_s, isNon_l, isNon_t, items_l, items_t, itemsI_l, itemsI_t, itemsI_s, ixD_l, ixD_t, ixD_s, slD_l, slD_t, slD_s, lenD_l, lenD_t, lenD_s, lenD_d, absD_i, minD_i, maxD_i, minD_1, maxD_1, bestD_c, sortedD_1, listD_1, tupleD_1, allD_l, anyD_l, sumD_l, sumD_t, intD_i, intD_b, boolD_b, boolD_i, joinD_s, retK_sh, retK_nw, retK_bw, kdOf_0, kdOf_1, kdOf_2, inKd_sh, inKd_nw, inKd_bw, inKd_b2, toKd_t, toKd_f, notBw_sh, notBw_nw, notBw_bw, notBw_b2, exact_sh, exact_nw, exact_bw, ownOk_l, ownOk_K, ownOk_T, ownOk_2, tyD_ii, tyD_ib, tyD_is, tyD_in, tyD_il, tyD_it, tyD_bi, tyD_bb, tyD_bs, tyD_bn, tyD_bl, tyD_bt, tyD_si, tyD_sb, tyD_ss, tyD_sn, tyD_sl, tyD_st, tyD_ti, tyD_tb, tyD_ts, tyD_tn, tyD_tl, tyD_tt, tyD_li, tyD_lb, tyD_ls, tyD_ln, tyD_ll, tyD_lt, biD_1, biD_2, biD_3, biD_4, biD_5, biD_6, biD_7, biD_8, biD_9, biD_10, biD_11, biD_12, biD_13, biD_14, biD_15, op2D_1, op2D_2, op2D_3, op2D_4, op2D_5, op2D_6, oR_some, Option.map_some, true_or, false_or, lend_ret, notB2_sh, notB2_nw, notB2_bw, resOk_bl, resOk_int, resOk_non, resOk_str, resOk_l, resOk_t]
  refine ⟨.inr rfl, fun hc => ⟨by omega, ?_⟩, fun hc => ⟨by decide, fun hc2 => ⟨by omega, ?_⟩, fun hc2 => ⟨by omega, ?_⟩⟩⟩
  all_goals refine go _ ?_ _ ?_
  any_goals (split <;> omega)
  any_goals omega
  all_goals
    intro l st dg ov hl hn
    simp only [id_eq, R.bind_ok, R.guard_true, ss_cons, ss_nil, Sq, Fl, W_bind, W_ok, W_guard, R.ite_true, R.ite_false, W_ite, evS, evE, evEs, evO, evTs, evIt, strD_i, keyD_i, keyD_s, keysD_n, keysD_c, dgetD_s, dgetD_i, dgetD_t, dinD_s, dinD_i, dinD_t, setPat_v, setPat_t, setPats_n, setPats_c, setSlot, start0, wipeE, ownL, stoD, dstD, rangeD, List.map_cons, List.map_nil, List.cons_append, List.nil_append, List.append_nil, List.length_cons, List.length_nil, List.replicate_succ, List.replicate_zero, List.getElem?_cons_zero, List.getElem?_cons_succ, List.set_cons_zero, List.set_cons_succ, List.all_cons, List.all_nil, Nat.add_sub_cancel, Nat.reduceAdd, Nat.reduceSub, Bool.and_true, Bool.true_and, Bool.and_self, Bool.not_true, Bool.not_false, true_and, and_true, decide_eq_true_eq, Nat.zero_add, decide_eq_false_iff_not, Int.reduceLT, Int.reduceEq, eqD_i, eqD_s, shp_i, shp_s, shp_b, shp_n, Int.reduceLE, Int.reduceMul, Int.reduceAdd, Int.reduceMod, Int.reduceNeg, Int.reduceSub, Int.reduceToNat, reduceCtorEq, false_implies, true_implies, decide_true, decide_false, forall_const, Bool.false_eq_true, Bool.not_eq_true', Bool.and_eq_true, Bool.or_eq_true, addD_i, addD_s, addD_l, addD_t, subD_i, mulD_i, mulD_s, fdivD_i, modD_i, powD_i, ltD_i, ltD_s, leD_i, leD_s, gtD_i, gtD_s, geD_i, geD_s, inD_l, inD_t, inD_s, isBl_b, cmpD_eq, cmpD_ne, cmpD_lt, cmpD_le, cmpD_gt, cmpD_ge, cmpD_in, cmpD_notin, cmpD_isN, cmpD_notN, cmpD_isB, cmpD_notB, isNon_n, isNon_i, isNon_b, isNon_s, isNon_l, isNon_t, items_l, items_t, itemsI_l, itemsI_t, itemsI_s, ixD_l, ixD_t, ixD_s, slD_l, slD_t, slD_s, lenD_l, lenD_t, lenD_s, lenD_d, absD_i, minD_i, maxD_i, minD_1, maxD_1, bestD_c, sortedD_1, listD_1, tupleD_1, allD_l, anyD_l, sumD_l, sumD_t, intD_i, intD_b, boolD_b, boolD_i, joinD_s, retK_sh, retK_nw, retK_bw, kdOf_0, kdOf_1, kdOf_2, inKd_sh, inKd_nw, inKd_bw, inKd_b2, toKd_t, toKd_f, notBw_sh, notBw_nw, notBw_bw, notBw_b2, exact_sh, exact_nw, exact_bw, ownOk_l, ownOk_K, ownOk_T, ownOk_2, tyD_ii, tyD_ib, tyD_is, tyD_in, tyD_il, tyD_it, tyD_bi, tyD_bb, tyD_bs, tyD_bn, tyD_bl, tyD_bt, tyD_si, tyD_sb, tyD_ss, tyD_sn, tyD_sl, tyD_st, tyD_ti, tyD_tb, tyD_ts, tyD_tn, tyD_tl, tyD_tt, tyD_li, tyD_lb, tyD_ls, tyD_ln, tyD_ll, tyD_lt, biD_1, biD_2, biD_3, biD_4, biD_5, biD_6, biD_7, biD_8, biD_9, biD_10, biD_11, biD_12, biD_13, biD_14, biD_15, op2D_1, op2D_2, op2D_3, op2D_4, op2D_5, op2D_6, oR_some, Option.map_some, true_or, false_or, lend_ret, notB2_sh, notB2_nw, notB2_bw, resOk_bl, resOk_int, resOk_non, resOk_str, resOk_l, resOk_t]
    exact ⟨l, rfl, hn, hl⟩

theorem mem_cutL {α : Type} {xs : List α} {lo hi : Option Int} {x : α} (h : x ∈ cutL xs lo hi) : x ∈ xs := List.mem_of_mem_drop (List.mem_of_mem_take h)
theorem atI_ok {α : Type} {xs : List α} {i : Int} (h0 : 0 ≤ i) (h1 : i < xs.length) : ∃ y, atI xs i = some y ∧ y ∈ xs := by
  obtain ⟨j, rfl⟩ := Int.eq_ofNat_of_zero_le h0
  have hj : j < xs.length := by omega
  exact ⟨xs[j], atI_nat (List.getElem?_eq_getElem hj), List.getElem_mem hj⟩
theorem atI_int {l : List Int} {i : Int} (h0 : 0 ≤ i) (h1 : i < l.length) : ∃ y, atI (l.map D.int) i = some (.int y) ∧ y ∈ l := by
  obtain ⟨y, e, hy⟩ := atI_ok (xs := l.map D.int) h0 (by rw [List.length_map]; exact h1)
  obtain ⟨z, hz, rfl⟩ := List.mem_map.mp hy
  exact ⟨z, e, hz⟩
theorem cell_okW {F : List Fn} {fi : Nat} (hf : F[fi]? = some ⟨2, 4, C_cell⟩) (n : Nat) (ns : List Int) (k : Int) (h0 : 0 ≤ k) (h1 : k ≤ 1000) : W (run F (n + 1) fi [.lst (ns.map .int), .int k]) fun r => ∃ i : Int, r = (.int i, false) := by
  refine run_W hf rfl ?_
  simp only [C_cell]
  simp only [id_eq, R.bind_ok, R.guard_true, ss_cons, ss_nil, Sq, Fl, W_bind, W_ok, W_guard, R.ite_true, R.ite_false, W_ite, evS, evE, evEs, evO, evTs, evIt, strD_i, keyD_i, keyD_s, keysD_n, keysD_c, dgetD_s, dgetD_i, dgetD_t, dinD_s, dinD_i, dinD_t, setPat_v, setPat_t, setPats_n, setPats_c, setSlot, start0, wipeE, ownL, stoD, dstD, rangeD, List.map_cons, List.map_nil, List.cons_append, List.nil_append, List.append_nil, List.length_cons, List.length_nil, List.replicate_succ, List.replicate_zero, List.getElem?_cons_zero, List.getElem?_cons_succ, List.set_cons_zero, List.set_cons_succ, List.all_cons, List.all_nil, Nat.add_sub_cancel, Nat.reduceAdd, Nat.reduceSub, Bool.and_true, Bool.true_and, Bool.and_self, Bool.not_true, Bool.not_false, true_and, and_true, decide_eq_true_eq, Nat.zero_add, decide_eq_false_iff_not, Int.reduceLT, Int.reduceEq, eqD_i, eqD_s, shp_i, shp_s, shp_b, shp_n, Int.reduceLE, Int.reduceMul, Int.reduceAdd, Int.reduceMod, Int.reduceNeg, Int.reduceSub, Int.reduceToNat, reduceCtorEq, false_implies, true_implies, decide_true, decide_false, forall_const, Bool.false_eq_true, Bool.not_eq_true', Bool.and_eq_true, Bool.or_eq_true, addD_i, addD_s, addD_l, addD_t, subD_i, mulD_i, mulD_s, fdivD_i, modD_i, powD_i, ltD_i, ltD_s, leD_i, leD_s, gtD_i, gtD_s, geD_i, geD_s, inD_l, inD_t, inD_s, isBl_b, cmpD_eq, cmpD_ne, cmpD_lt, cmpD_le, cmpD_gt, cmpD_ge, cmpD_in, cmpD_notin, cmpD_isN, cmpD_notN, cmpD_isB, cmpD_notB, isNon_n, isNon_i, isNon_b, isNon_s, isNon_l, isNon_t, items_l, items_t, itemsI_l, itemsI_t, itemsI_s, ixD_l, ixD_t, ixD_s, slD_l, slD_t, slD_s, lenD_l, lenD_t, lenD_s, lenD_d, absD_i, minD_i, maxD_i, minD_1, maxD_1, bestD_c, sortedD_1, listD_1, tupleD_1, allD_l, anyD_l, sumD_l, sumD_t, intD_i, intD_b, boolD_b, boolD_i, joinD_s, retK_sh, retK_nw, retK_bw, kdOf_0, kdOf_1, kdOf_2, inKd_sh, inKd_nw, inKd_bw, inKd_b2, toKd_t, toKd_f, notBw_sh, notBw_nw, notBw_bw, notBw_b2, exact_sh, exact_nw, exact_bw, ownOk_l, ownOk_K, ownOk_T, ownOk_2, tyD_ii, tyD_ib, tyD_is, tyD_in, tyD_il, tyD_it, tyD_bi, tyD_bb, tyD_bs, tyD_bn, tyD_bl, tyD_bt, tyD_si, tyD_sb, tyD_ss, tyD_sn, tyD_sl, tyD_st, tyD_ti, tyD_tb, tyD_ts, tyD_tn, tyD_tl, tyD_tt, tyD_li, tyD_lb, tyD_ls, tyD_ln, tyD_ll, tyD_lt, biD_1, biD_2, biD_3, biD_4, biD_5, biD_6, biD_7, biD_8, biD_9, biD_10, biD_11, biD_12, biD_13, biD_14, biD_15, op2D_1, op2D_2, op2D_3, op2D_4, op2D_5, op2D_6, oR_some, Option.map_some, true_or, false_or, lend_ret, notB2_sh, notB2_nw, notB2_bw, resOk_bl, resOk_int, resOk_non, resOk_str, resOk_l, resOk_t]
  refine ⟨fun h => ?_, fun h => ⟨?_, ?_⟩⟩
  · obtain ⟨y, e, hy⟩ := atI_ok h0 h
    rw [e]
    obtain ⟨i, _, rfl⟩ := List.mem_map.mp hy
    simp only [id_eq, R.bind_ok, R.guard_true, ss_cons, ss_nil, Sq, Fl, W_bind, W_ok, W_guard, R.ite_true, R.ite_false, W_ite, evS, evE, evEs, evO, evTs, evIt, strD_i, keyD_i, keyD_s, keysD_n, keysD_c, dgetD_s, dgetD_i, dgetD_t, dinD_s, dinD_i, dinD_t, setPat_v, setPat_t, setPats_n, setPats_c, setSlot, start0, wipeE, ownL, stoD, dstD, rangeD, List.map_cons, List.map_nil, List.cons_append, List.nil_append, List.append_nil, List.length_cons, List.length_nil, List.replicate_succ, List.replicate_zero, List.getElem?_cons_zero, List.getElem?_cons_succ, List.set_cons_zero, List.set_cons_succ, List.all_cons, List.all_nil, Nat.add_sub_cancel, Nat.reduceAdd, Nat.reduceSub, Bool.and_true, Bool.true_and, Bool.and_self, Bool.not_true, Bool.not_false, true_and, and_true, decide_eq_true_eq, Nat.zero_add, decide_eq_false_iff_not, Int.reduceLT, Int.reduceEq, eqD_i, eqD_s, shp_i, shp_s, shp_b, shp_n, Int.reduceLE, Int.reduceMul, Int.reduceAdd, Int.reduceMod, Int.reduceNeg, Int.reduceSub, Int.reduceToNat, reduceCtorEq, false_implies, true_implies, decide_true, decide_false, forall_const, Bool.false_eq_true, Bool.not_eq_true', Bool.and_eq_true, Bool.or_eq_true, addD_i, addD_s, addD_l, addD_t, subD_i, mulD_i, mulD_s, fdivD_i, modD_i, powD_i, ltD_i, ltD_s, leD_i, leD_s, gtD_i, gtD_s, geD_i, geD_s, inD_l, inD_t, inD_s, isBl_b, cmpD_eq, cmpD_ne, cmpD_lt, cmpD_le, cmpD_gt, cmpD_ge, cmpD_in, cmpD_notin, cmpD_isN, cmpD_notN, cmpD_isB, cmpD_notB, isNon_n, isNon_i, isNon_b, isNon_s, isNon_l, isNon_t, items_l, items_t, itemsI_l, itemsI_t, itemsI_s, ixD_l, ixD_t, ixD_s, slD_l, slD_t, slD_s, lenD_l, lenD_t, lenD_s, lenD_d, absD_i, minD_i, maxD_i, minD_1, maxD_1, bestD_c, sortedD_1, listD_1, tupleD_1, allD_l, anyD_l, sumD_l, sumD_t, intD_i, intD_b, boolD_b, boolD_i, joinD_s, retK_sh, retK_nw, retK_bw, kdOf_0, kdOf_1, kdOf_2, inKd_sh, inKd_nw, inKd_bw, inKd_b2, toKd_t, toKd_f, notBw_sh, notBw_nw, notBw_bw, notBw_b2, exact_sh, exact_nw, exact_bw, ownOk_l, ownOk_K, ownOk_T, ownOk_2, tyD_ii, tyD_ib, tyD_is, tyD_in, tyD_il, tyD_it, tyD_bi, tyD_bb, tyD_bs, tyD_bn, tyD_bl, tyD_bt, tyD_si, tyD_sb, tyD_ss, tyD_sn, tyD_sl, tyD_st, tyD_ti, tyD_tb, tyD_ts, tyD_tn, tyD_tl, tyD_tt, tyD_li, tyD_lb, tyD_ls, tyD_ln, tyD_ll, tyD_lt, biD_1, biD_2, biD_3, biD_4, biD_5, biD_6, biD_7, biD_8, biD_9, biD_10, biD_11, biD_12, biD_13, biD_14, biD_15, op2D_1, op2D_2, op2D_3, op2D_4, op2D_5, op2D_6, oR_some, Option.map_some, true_or, false_or, lend_ret, notB2_sh, notB2_nw, notB2_bw, resOk_bl, resOk_int, resOk_non, resOk_str, resOk_l, resOk_t]
    exact ⟨i, rfl⟩
  · exact .inl (smallI_of (by omega) (by omega))
  · refine ⟨.inl rfl, .inl rfl, ?_⟩
    have h2 : 0 ≤ (48271 * (k * k + 7 * k + 11)) % 2147483647 := Int.emod_nonneg _ (by decide)
    have h3 : (48271 * (k * k + 7 * k + 11)) % 2147483647 < 2147483647 := Int.emod_lt_of_pos _ (by decide)
    refine for_W (fun ds ρ => ∃ (st : Int) (ov : Option Slot), ρ = [some ⟨.lst (ns.map .int), 0⟩, some ⟨.int k, 0⟩, some ⟨.int st, 0⟩, ov] ∧ (0 ≤ st ∧ st < 2147483647) ∧ ∀ d ∈ ds, ∃ x : Int, d = .int x) ⟨_, none, rfl, ⟨h2, h3⟩, fun d hd => ?_⟩ ?_ ?_
    · obtain ⟨x, _, rfl⟩ := List.mem_map.mp (mem_cutL hd)
      exact ⟨x, rfl⟩
    · rintro d r ρ ⟨st, ov, rfl, hs, hd⟩
      obtain ⟨x, rfl⟩ := hd d (List.mem_cons_self ..)
      simp only [id_eq, R.bind_ok, R.guard_true, ss_cons, ss_nil, Sq, Fl, W_bind, W_ok, W_guard, R.ite_true, R.ite_false, W_ite, evS, evE, evEs, evO, evTs, evIt, strD_i, keyD_i, keyD_s, keysD_n, keysD_c, dgetD_s, dgetD_i, dgetD_t, dinD_s, dinD_i, dinD_t, setPat_v, setPat_t, setPats_n, setPats_c, setSlot, start0, wipeE, ownL, stoD, dstD, rangeD, List.map_cons, List.map_nil, List.cons_append, List.nil_append, List.append_nil, List.length_cons, List.length_nil, List.replicate_succ, List.replicate_zero, List.getElem?_cons_zero, List.getElem?_cons_succ, List.set_cons_zero, List.set_cons_succ, List.all_cons, List.all_nil, Nat.add_sub_cancel, Nat.reduceAdd, Nat.reduceSub, Bool.and_true, Bool.true_and, Bool.and_self, Bool.not_true, Bool.not_false, true_and, and_true, decide_eq_true_eq, Nat.zero_add, decide_eq_false_iff_not, Int.reduceLT, Int.reduceEq, eqD_i, eqD_s, shp_i, shp_s, shp_b, shp_n, Int.reduceLE, Int.reduceMul, Int.reduceAdd, Int.reduceMod, Int.reduceNeg, Int.reduceSub, Int.reduceToNat, reduceCtorEq, false_implies, true_implies, decide_true, decide_false, forall_const, Bool.false_eq_true, Bool.not_eq_true', Bool.and_eq_true, Bool.or_eq_true, addD_i, addD_s, addD_l, addD_t, subD_i, mulD_i, mulD_s, fdivD_i, modD_i, powD_i, ltD_i, ltD_s, leD_i, leD_s, gtD_i, gtD_s, geD_i, geD_s, inD_l, inD_t, inD_s, isBl_b, cmpD_eq, cmpD_ne, cmpD_lt, cmpD_le, cmpD_gt, cmpD_ge, cmpD_in, cmpD_notin, cmpD_isN, cmpD_notN, cmpD_isB, cmpD_notB, isNon_n, isNon_i, isNon_b, isNon_s, isNon_l, isNon_t, items_l, items_t, itemsI_l, itemsI_t, itemsI_s, ixD_l, ixD_t, ixD_s, slD_l, slD_t, slD_s, lenD_l, lenD_t, lenD_s, lenD_d, absD_i, minD_i, maxD_i, minD_1, maxD_1, bestD_c, sortedD_1, listD_1, tupleD_1, allD_l, anyD_l, sumD_l, sumD_t, intD_i, intD_b, boolD_b, boolD_i, joinD_s, retK_sh, retK_nw, retK_bw, kdOf_0, kdOf_1, kdOf_2, inKd_sh, inKd_nw, inKd_bw, inKd_b2, toKd_t, toKd_f, notBw_sh, notBw_nw, notBw_bw, notBw_b2, exact_sh, exact_nw, exact_bw, ownOk_l, ownOk_K, ownOk_T, ownOk_2, tyD_ii, tyD_ib, tyD_is, tyD_in, tyD_il, tyD_it, tyD_bi, tyD_bb, tyD_bs, tyD_bn, tyD_bl, tyD_bt, tyD_si, tyD_sb, tyD_ss, tyD_sn, tyD_sl, tyD_st, tyD_ti, tyD_tb, tyD_ts, tyD_tn, tyD_tl, tyD_tt, tyD_li, tyD_lb, tyD_ls, tyD_ln, tyD_ll, tyD_lt, biD_1, biD_2, biD_3, biD_4, biD_5, biD_6, biD_7, biD_8, biD_9, biD_10, biD_11, biD_12, biD_13, biD_14, biD_15, op2D_1, op2D_2, op2D_3, op2D_4, op2D_5, op2D_6, oR_some, Option.map_some, true_or, false_or, lend_ret, notB2_sh, notB2_nw, notB2_bw, resOk_bl, resOk_int, resOk_non, resOk_str, resOk_l, resOk_t]
      exact ⟨.inl (smallI_of (by omega) (by omega)), _, _, rfl, ⟨Int.emod_nonneg _ (by decide), Int.emod_lt_of_pos _ (by decide)⟩, fun d hd' => hd d (List.mem_cons_of_mem _ hd')⟩
    · rintro ρ ⟨st, ov, rfl, hs, hd⟩
      simp only [id_eq, R.bind_ok, R.guard_true, ss_cons, ss_nil, Sq, Fl, W_bind, W_ok, W_guard, R.ite_true, R.ite_false, W_ite, evS, evE, evEs, evO, evTs, evIt, strD_i, keyD_i, keyD_s, keysD_n, keysD_c, dgetD_s, dgetD_i, dgetD_t, dinD_s, dinD_i, dinD_t, setPat_v, setPat_t, setPats_n, setPats_c, setSlot, start0, wipeE, ownL, stoD, dstD, rangeD, List.map_cons, List.map_nil, List.cons_append, List.nil_append, List.append_nil, List.length_cons, List.length_nil, List.replicate_succ, List.replicate_zero, List.getElem?_cons_zero, List.getElem?_cons_succ, List.set_cons_zero, List.set_cons_succ, List.all_cons, List.all_nil, Nat.add_sub_cancel, Nat.reduceAdd, Nat.reduceSub, Bool.and_true, Bool.true_and, Bool.and_self, Bool.not_true, Bool.not_false, true_and, and_true, decide_eq_true_eq, Nat.zero_add, decide_eq_false_iff_not, Int.reduceLT, Int.reduceEq, eqD_i, eqD_s, shp_i, shp_s, shp_b, shp_n, Int.reduceLE, Int.reduceMul, Int.reduceAdd, Int.reduceMod, Int.reduceNeg, Int.reduceSub, Int.reduceToNat, reduceCtorEq, false_implies, true_implies, decide_true, decide_false, forall_const, Bool.false_eq_true, Bool.not_eq_true', Bool.and_eq_true, Bool.or_eq_true, addD_i, addD_s, addD_l, addD_t, subD_i, mulD_i, mulD_s, fdivD_i, modD_i, powD_i, ltD_i, ltD_s, leD_i, leD_s, gtD_i, gtD_s, geD_i, geD_s, inD_l, inD_t, inD_s, isBl_b, cmpD_eq, cmpD_ne, cmpD_lt, cmpD_le, cmpD_gt, cmpD_ge, cmpD_in, cmpD_notin, cmpD_isN, cmpD_notN, cmpD_isB, cmpD_notB, isNon_n, isNon_i, isNon_b, isNon_s, isNon_l, isNon_t, items_l, items_t, itemsI_l, itemsI_t, itemsI_s, ixD_l, ixD_t, ixD_s, slD_l, slD_t, slD_s, lenD_l, lenD_t, lenD_s, lenD_d, absD_i, minD_i, maxD_i, minD_1, maxD_1, bestD_c, sortedD_1, listD_1, tupleD_1, allD_l, anyD_l, sumD_l, sumD_t, intD_i, intD_b, boolD_b, boolD_i, joinD_s, retK_sh, retK_nw, retK_bw, kdOf_0, kdOf_1, kdOf_2, inKd_sh, inKd_nw, inKd_bw, inKd_b2, toKd_t, toKd_f, notBw_sh, notBw_nw, notBw_bw, notBw_b2, exact_sh, exact_nw, exact_bw, ownOk_l, ownOk_K, ownOk_T, ownOk_2, tyD_ii, tyD_ib, tyD_is, tyD_in, tyD_il, tyD_it, tyD_bi, tyD_bb, tyD_bs, tyD_bn, tyD_bl, tyD_bt, tyD_si, tyD_sb, tyD_ss, tyD_sn, tyD_sl, tyD_st, tyD_ti, tyD_tb, tyD_ts, tyD_tn, tyD_tl, tyD_tt, tyD_li, tyD_lb, tyD_ls, tyD_ln, tyD_ll, tyD_lt, biD_1, biD_2, biD_3, biD_4, biD_5, biD_6, biD_7, biD_8, biD_9, biD_10, biD_11, biD_12, biD_13, biD_14, biD_15, op2D_1, op2D_2, op2D_3, op2D_4, op2D_5, op2D_6, oR_some, Option.map_some, true_or, false_or, lend_ret, notB2_sh, notB2_nw, notB2_bw, resOk_bl, resOk_int, resOk_non, resOk_str, resOk_l, resOk_t]
      exact ⟨_, rfl⟩
theorem eqD_bl (a b : Bool) : eqD (.bl a) (.bl b) = (a == b) := by cases a <;> cases b <;> decide +kernel
theorem shp_bl (a : Bool) : shp (.bl a) = true := rfl
theorem all_true : ∀ n : Nat, allD [.lst (List.replicate n (.bl true))] = .ok (.bl true, .sh) := by
  intro n
  have e : List.replicate n (D.bl true) = (List.replicate n true).map D.bl := by rw [List.map_replicate]
  have e2 : (List.replicate n true).all id = true := by
    rw [List.all_eq_true]
    intro x hx
    rw [List.mem_replicate] at hx
    exact hx.2
  rw [e, allD, boolsD_map, R.bind_ok, e2]
theorem all_mapB (n : Nat) : boolsD (List.replicate n (.bl true)) = .ok (List.replicate n true) := by
  rw [← boolsD_map, List.map_replicate]
theorem all_rep (n : Nat) : (List.replicate n true).all id = true := by
  rw [List.all_eq_true]
  intro x hx
  rw [List.mem_replicate] at hx
  exact hx.2
theorem cutL_len {α : Type} (xs : List α) (lo hi : Option Int) : (cutL xs lo hi).length ≤ xs.length := by
  unfold cutL
  rw [List.length_take, List.length_drop]
  omega
theorem lc_true {f : D → R (Option D)} {ds : List D} (h : ∀ d ∈ ds, f d = .ok (some (.bl true))) : lcGo f ds = .ok (List.replicate ds.length (.bl true)) := by
  rw [lc_map (fun _ => .bl true) h, List.map_const']
/-- texts, of which each has but few signs -/
theorem strsB_of {B : Nat} : ∀ {l : List D}, (∀ x ∈ l, ∃ s : PySem.Str, x = .str s ∧ s.length ≤ B) → ∃ ss : List PySem.Str, l = ss.map .str ∧ (ss.map (·.length)).sum ≤ l.length * B
  | [], _ => ⟨[], rfl, Nat.zero_le _⟩
  | x :: r, h => by
    obtain ⟨s, rfl, hs⟩ := h x (List.mem_cons_self ..)
    obtain ⟨ss, rfl, hl⟩ := strsB_of fun y hy => h y (List.mem_cons_of_mem _ hy)
    refine ⟨s :: ss, rfl, ?_⟩
    rw [List.map_cons, List.sum_cons, List.length_cons, Nat.add_mul, Nat.one_mul]
    omega
theorem blsL_of : ∀ {l : List D}, (∀ x ∈ l, ∃ b : Bool, x = .bl b) → ∃ bs : List Bool, l = bs.map .bl
  | [], _ => ⟨[], rfl⟩
  | x :: r, h => by
    obtain ⟨s, rfl⟩ := h x (List.mem_cons_self ..)
    obtain ⟨ss, rfl⟩ := blsL_of fun y hy => h y (List.mem_cons_of_mem _ hy)
    exact ⟨s :: ss, rfl⟩
theorem intsL_of : ∀ {l : List D}, (∀ x ∈ l, ∃ b : Int, x = .int b) → ∃ bs : List Int, l = bs.map .int
  | [], _ => ⟨[], rfl⟩
  | x :: r, h => by
    obtain ⟨s, rfl⟩ := h x (List.mem_cons_self ..)
    obtain ⟨ss, rfl⟩ := intsL_of fun y hy => h y (List.mem_cons_of_mem _ hy)
    exact ⟨s :: ss, rfl⟩
theorem sign_mem {x : PySem.Str} {d : D} (h : d ∈ x.cps.toList.map fun c => D.str ⟨#[c]⟩) : ∃ c, d = .str ⟨#[c]⟩ := by
  obtain ⟨c, _, rfl⟩ := List.mem_map.mp h
  exact ⟨c, rfl⟩
theorem join_le (s : PySem.Str) (l : List PySem.Str) : (PySem.Txt.join s l).length ≤ (l.map (·.length)).sum + l.length * s.length := by
  rw [TL.join_eq]
  exact PySem.StrLaws.join_length_le s l
theorem W_lst {α : Type} {o : Option α} {a : α} (h : o = some a) {β : Type} {f : α → R β} {Q : β → Prop} (hq : W (f a) Q) : W (match o with | some d => f d | none => .no) Q := by rw [h]; exact hq
theorem len_cut {x : PySem.Str} {lo hi : Option Int} : (⟨(cutL x.cps.toList lo hi).toArray⟩ : PySem.Str).length ≤ x.length := by
  show (cutL x.cps.toList lo hi).toArray.size ≤ x.cps.size
  rw [List.size_toArray, ← Array.length_toList]
  unfold cutL
  rw [List.length_take, List.length_drop]
  omega
theorem len_app (x y : PySem.Str) : (x ++ y).length = x.length + y.length := by
  show (x.cps ++ y.cps).size = _
  rw [Array.size_append]
  rfl
theorem len_one (c : Nat) : (⟨#[c]⟩ : PySem.Str).length = 1 := rfl
end Fw

namespace Fw
abbrev sqF (l : List Nat) : PySem.Str := ⟨l.toArray⟩
def C_names : List S := [.asg (.v 2) (.k (.str (sqF [97, 98, 99, 100, 101, 102, 103, 104, 105, 106, 107, 108, 109, 110, 111, 112, 113, 114, 115, 116, 117, 118, 119, 120, 121, 122]))) 0, .asg (.v 3) (.lst []) 1, .for_ (.v 4) (.rng1 (.v 1)) [.asg (.v 5) (.ix (.v 2) (.op .mod (.op .add (.ix (.v 0) (.k (.int 0))) (.op .mul (.k (.int 7)) (.v 4))) (.k (.int 26)))) 0, .ite (.cmp .eq (.op .mod (.ix (.v 0) (.k (.int 1))) (.k (.int 5))) (.k (.int 1))) [.asg (.v 5) (.op .add (.ix (.k (.str (sqF [97, 98, 99, 100, 101, 102, 103, 104]))) (.v 4)) (.op .mul (.ix (.v 2) (.op .mod (.ix (.v 0) (.k (.int 2))) (.k (.int 26)))) (.op .mod (.ix (.v 0) (.k (.int 3))) (.k (.int 8))))) 0] [], .ite (.cmp .eq (.op .mod (.ix (.v 0) (.k (.int 1))) (.k (.int 5))) (.k (.int 2))) [.asg (.v 5) (.op .mul (.ix (.v 2) (.op .mod (.ix (.v 0) (.k (.int 2))) (.k (.int 26)))) (.op .add (.k (.int 1)) (.v 4))) 0] [], .ite (.cmp .eq (.op .mod (.ix (.v 0) (.k (.int 1))) (.k (.int 5))) (.k (.int 3))) [.asg (.v 6) (.op .mul (.ix (.v 2) (.op .mod (.ix (.v 0) (.k (.int 3))) (.k (.int 26)))) (.op .mod (.op .add (.ix (.v 0) (.k (.int 4))) (.v 4)) (.k (.int 7)))) 0, .asg (.v 5) (.op .add (.ix (.v 2) (.op .mod (.op .add (.ix (.v 0) (.k (.int 2))) (.op .mul (.k (.int 3)) (.v 4))) (.k (.int 26)))) (.v 6)) 0] [], .ite (.cmp .eq (.op .mod (.ix (.v 0) (.k (.int 1))) (.k (.int 5))) (.k (.int 4))) [.asg (.v 7) (.op .mul (.ix (.v 2) (.op .mod (.ix (.v 0) (.k (.int 3))) (.k (.int 26)))) (.op .mod (.ix (.v 0) (.k (.int 4))) (.k (.int 8)))) 0, .asg (.v 8) (.op .mod (.op .fdiv (.ix (.v 0) (.k (.int 4))) (.k (.int 8))) (.op .add (.bi .len [.v 7]) (.k (.int 1)))) 0, .asg (.v 9) (.ix (.v 2) (.op .mod (.op .add (.ix (.v 0) (.k (.int 2))) (.op .mul (.k (.int 3)) (.v 4))) (.k (.int 26)))) 0, .asg (.v 5) (.op .add (.op .add (.sl (.v 7) (none) (some (.v 8))) (.v 9)) (.sl (.v 7) (some (.v 8)) (none))) 0] [], .app 3 (.v 5)], .ret (.bi .sorted [.v 3])]
def C_ends : List S := [.asg (.v 3) (.lst []) 1, .asg (.v 4) (.k (.int 0)) 0, .ite (.and (.cmp .eq (.v 0) (.k (.int 2))) (.cmp .gt (.v 1) (.k (.int 2)))) [.asg (.v 4) (.op .add (.k (.int 3)) (.op .mod (.ix (.v 2) (.k (.int 8))) (.op .sub (.v 1) (.k (.int 2))))) 0, .app 3 (.tup [.op .sub (.v 4) (.k (.int 1)), .k (.int 0)])] [], .for_ (.v 5) (.rng2 (.k (.int 1)) (.v 1)) [.ite (.or (.cmp .eq (.v 0) (.k (.int 1))) (.cmp .lt (.v 5) (.v 4))) [.app 3 (.tup [.op .sub (.v 5) (.k (.int 1)), .v 5])] [.app 3 (.tup [.op .mod (.ix (.v 2) (.v 5)) (.v 5), .v 5])]], .ret (.v 3)]
def C_map (iCell iNum iNames iEnds : Nat) : List S := [.asg (.v 3) (.call iNum [.call iCell [.v 0, .v 1], .k (.int 12)]) 0, .asg (.v 4) (.call iNum [.call iCell [.v 0, .op .add (.v 1) (.k (.int 1))], .k (.int 20)]) 0, .asg (.v 5) (.op .add (.k (.int 1)) (.op .mod (.ix (.v 3) (.k (.int 7))) (.v 2))) 0, .asg (.v 6) (.call iNames [.v 3, .v 5]) 0, .asg (.v 7) (.lst []) 1, .asg (.v 8) (.bi .list [.v 6]) 1, .for_ (.v 9) (.rng1 (.v 5)) [.appPop 7 8 (.op .mod (.op .fdiv (.ix (.v 3) (.k (.int 8))) (.op .add (.v 9) (.k (.int 1)))) (.bi .len [.v 8]))], .asg (.v 10) (.lst []) 1, .for_ (.t [.v 9, .t [.v 11, .v 12]]) (.enum (.call iEnds [.ix (.lst [.k (.int 0), .k (.int 1), .k (.int 2), .k (.int 2)]) (.op .mod (.ix (.v 3) (.k (.int 5))) (.k (.int 4))), .v 5, .v 4])) [.asg (.v 13) (.op .add (.k (.int 1)) (.op .mod (.ix (.v 4) (.op .add (.k (.int 9)) (.v 9))) (.ix (.lst [.k (.int 3), .k (.int 9), .k (.int 50)]) (.op .mod (.ix (.v 3) (.k (.int 6))) (.k (.int 3)))))) 0, .app 10 (.op .add (.bi .tuple [.bi .sorted [.lst [.ix (.v 7) (.v 11), .ix (.v 7) (.v 12)]]]) (.tup [.v 13]))], .ret (.tup [.bi .tuple [.v 6], .bi .tuple [.bi .sorted [.v 10]]])]
end Fw
namespace Fw
open L2
/-! ### names -/
def N_body : List S := [.asg (.v 5) (.ix (.v 2) (.op .mod (.op .add (.ix (.v 0) (.k (.int 0))) (.op .mul (.k (.int 7)) (.v 4))) (.k (.int 26)))) 0, .ite (.cmp .eq (.op .mod (.ix (.v 0) (.k (.int 1))) (.k (.int 5))) (.k (.int 1))) [.asg (.v 5) (.op .add (.ix (.k (.str (sqF [97, 98, 99, 100, 101, 102, 103, 104]))) (.v 4)) (.op .mul (.ix (.v 2) (.op .mod (.ix (.v 0) (.k (.int 2))) (.k (.int 26)))) (.op .mod (.ix (.v 0) (.k (.int 3))) (.k (.int 8))))) 0] [], .ite (.cmp .eq (.op .mod (.ix (.v 0) (.k (.int 1))) (.k (.int 5))) (.k (.int 2))) [.asg (.v 5) (.op .mul (.ix (.v 2) (.op .mod (.ix (.v 0) (.k (.int 2))) (.k (.int 26)))) (.op .add (.k (.int 1)) (.v 4))) 0] [], .ite (.cmp .eq (.op .mod (.ix (.v 0) (.k (.int 1))) (.k (.int 5))) (.k (.int 3))) [.asg (.v 6) (.op .mul (.ix (.v 2) (.op .mod (.ix (.v 0) (.k (.int 3))) (.k (.int 26)))) (.op .mod (.op .add (.ix (.v 0) (.k (.int 4))) (.v 4)) (.k (.int 7)))) 0, .asg (.v 5) (.op .add (.ix (.v 2) (.op .mod (.op .add (.ix (.v 0) (.k (.int 2))) (.op .mul (.k (.int 3)) (.v 4))) (.k (.int 26)))) (.v 6)) 0] [], .ite (.cmp .eq (.op .mod (.ix (.v 0) (.k (.int 1))) (.k (.int 5))) (.k (.int 4))) [.asg (.v 7) (.op .mul (.ix (.v 2) (.op .mod (.ix (.v 0) (.k (.int 3))) (.k (.int 26)))) (.op .mod (.ix (.v 0) (.k (.int 4))) (.k (.int 8)))) 0, .asg (.v 8) (.op .mod (.op .fdiv (.ix (.v 0) (.k (.int 4))) (.k (.int 8))) (.op .add (.bi .len [.v 7]) (.k (.int 1)))) 0, .asg (.v 9) (.ix (.v 2) (.op .mod (.op .add (.ix (.v 0) (.k (.int 2))) (.op .mul (.k (.int 3)) (.v 4))) (.k (.int 26)))) 0, .asg (.v 5) (.op .add (.op .add (.sl (.v 7) (none) (some (.v 8))) (.v 9)) (.sl (.v 7) (some (.v 8)) (none))) 0] [], .app 3 (.v 5)]
def lc (i : Int) : Nat := 97 + (i % 26).toNat
def nameL (x0 x1 x2 x3 x4 : Int) (k : Nat) : List Nat :=
  if x1 % 5 = 1 then (97 + k) :: List.replicate (x3 % 8).toNat (lc x2)
  else if x1 % 5 = 2 then List.replicate (1 + k) (lc x2)
  else if x1 % 5 = 3 then lc (x2 + 3 * k) :: List.replicate ((x4 + k) % 7).toNat (lc x3)
  else if x1 % 5 = 4 then List.replicate (x4 / 8 % ((x4 % 8) + 1)).toNat (lc x3) ++ lc (x2 + 3 * k) :: List.replicate ((x4 % 8).toNat - (x4 / 8 % ((x4 % 8) + 1)).toNat) (lc x3)
  else [lc (x0 + 7 * k)]
def nameS (x0 x1 x2 x3 x4 : Int) (k : Nat) : PySem.Str := ⟨(nameL x0 x1 x2 x3 x4 k).toArray⟩
theorem mulT_one (c : Nat) (j : Int) (h : 0 ≤ j) : PySem.Txt.mul ⟨#[c]⟩ j = ⟨(List.replicate j.toNat c).toArray⟩ := by
  apply PySem.W.str_of_cps
  rw [mul_cps _ _ h]
  show (List.replicate j.toNat [c]).flatten = List.replicate j.toNat c
  generalize j.toNat = m
  induction m with
  | zero => rfl
  | succ m ih => rw [List.replicate_succ, List.flatten_cons, ih, List.replicate_succ]; rfl
theorem app_cps (x y : List Nat) : (⟨x.toArray⟩ ++ ⟨y.toArray⟩ : PySem.Str) = ⟨(x ++ y).toArray⟩ := by
  apply PySem.W.str_of_cps
  show (x.toArray ++ y.toArray).toList = x ++ y
  rw [Array.toList_append]
theorem len_cps (x : List Nat) : (⟨x.toArray⟩ : PySem.Str).length = x.length := by
  show x.toArray.size = _
  rw [List.size_toArray]
theorem one_cps (c : Nat) : (⟨#[c]⟩ : PySem.Str) = ⟨[c].toArray⟩ := rfl
theorem cut_rep (n : Nat) (c : Nat) (a : Int) (h0 : 0 ≤ a) (h1 : a ≤ n) : cutL (List.replicate n c) none (some a) = List.replicate a.toNat c ∧ cutL (List.replicate n c) (some a) none = List.replicate (n - a.toNat) c := by
  have e1 : HT.sIx n n (some a) = a.toNat := by
    show (if a < 0 then (a + (n : Int)).toNat else min a.toNat n) = _
    rw [if_neg (by omega)]
    omega
  have e2 : HT.sIx n 0 (some a) = a.toNat := by
    show (if a < 0 then (a + (n : Int)).toNat else min a.toNat n) = _
    rw [if_neg (by omega)]
    omega
  unfold cutL
  rw [List.length_replicate, e1, e2]
  have e3 : HT.sIx n 0 none = 0 := rfl
  have e4 : HT.sIx n n none = n := rfl
  rw [e3, e4, List.drop_zero, List.take_replicate, List.drop_replicate, List.take_replicate]
  refine ⟨?_, ?_⟩
  · congr 1; omega
  · congr 1; omega
theorem names_step {C : CallT} {xs : List D} {many : Int} {lt : PySem.Str} {l : List D} {x0 x1 x2 x3 x4 : Int} {k : Nat} {o5 o6 o7 o8 o9 : Option Slot}
    (e0 : atI xs 0 = some (.int x0)) (e1 : atI xs 1 = some (.int x1)) (e2 : atI xs 2 = some (.int x2)) (e3 : atI xs 3 = some (.int x3)) (e4 : atI xs 4 = some (.int x4)) (h4 : 0 ≤ x4) (hk : k < 8) (hl : l.length < line) (hlt : ∀ e : Int, atI lt.cps.toList (e % 26) = some (lc e)) :
    W (evSs C N_body [some ⟨.lst xs, 0⟩, some ⟨.int many, 0⟩, some ⟨.str lt, 0⟩, some ⟨.lst l, 1⟩, some ⟨.int (0 + k), 0⟩, o5, o6, o7, o8, o9]) fun o => ∃ o6 o7 o8 o9, o = .nx [some ⟨.lst xs, 0⟩, some ⟨.int many, 0⟩, some ⟨.str lt, 0⟩, some ⟨.lst (l ++ [.str (nameS x0 x1 x2 x3 x4 k)]), 1⟩, some ⟨.int (0 + k), 0⟩, some ⟨.str (nameS x0 x1 x2 x3 x4 k), 0⟩, o6, o7, o8, o9] := by
  have h8 : atI (sqF [97, 98, 99, 100, 101, 102, 103, 104]).cps.toList (0 + (k : Int)) = some (97 + k) := by
    revert k
    intro k hk
    have : ∀ k : Nat, k < 8 → atI (sqF [97, 98, 99, 100, 101, 102, 103, 104]).cps.toList (0 + (k : Int)) = some (97 + k) := by decide
    exact this k hk
  have r0 : 0 ≤ x1 % 5 := Int.emod_nonneg _ (by decide)
  have r1 : x1 % 5 < 5 := Int.emod_lt_of_pos _ (by decide)
  simp only [N_body]
  have hr : x1 % 5 = 0 ∨ x1 % 5 = 1 ∨ x1 % 5 = 2 ∨ x1 % 5 = 3 ∨ x1 % 5 = 4 := by omega
  have z0 : (0 + (k : Int)) = k := Int.zero_add _
  rcases hr with hr | hr | hr | hr | hr
  · simp only [id_eq, R.bind_ok, R.guard_true, ss_cons, ss_nil, Sq, Fl, W_bind, W_ok, W_guard, R.ite_true, R.ite_false, W_ite, evS, evE, evEs, evO, evTs, evIt, strD_i, keyD_i, keyD_s, keysD_n, keysD_c, dgetD_s, dgetD_i, dgetD_t, dinD_s, dinD_i, dinD_t, setPat_v, setPat_t, setPats_n, setPats_c, setSlot, start0, wipeE, ownL, stoD, dstD, rangeD, List.map_cons, List.map_nil, List.cons_append, List.nil_append, List.append_nil, List.length_cons, List.length_nil, List.replicate_succ, List.replicate_zero, List.getElem?_cons_zero, List.getElem?_cons_succ, List.set_cons_zero, List.set_cons_succ, List.all_cons, List.all_nil, Nat.add_sub_cancel, Nat.reduceAdd, Nat.reduceSub, Bool.and_true, Bool.true_and, Bool.and_self, Bool.not_true, Bool.not_false, true_and, and_true, decide_eq_true_eq, Nat.zero_add, decide_eq_false_iff_not, Int.reduceLT, Int.reduceEq, eqD_i, eqD_s, shp_i, shp_s, shp_b, shp_n, Int.reduceLE, Int.reduceMul, Int.reduceAdd, Int.reduceMod, Int.reduceNeg, Int.reduceSub, Int.reduceToNat, reduceCtorEq, false_implies, true_implies, decide_true, decide_false, forall_const, Bool.false_eq_true, Bool.not_eq_true', Bool.and_eq_true, Bool.or_eq_true, addD_i, addD_s, addD_l, addD_t, subD_i, mulD_i, mulD_s, fdivD_i, modD_i, powD_i, ltD_i, ltD_s, leD_i, leD_s, gtD_i, gtD_s, geD_i, geD_s, inD_l, inD_t, inD_s, isBl_b, cmpD_eq, cmpD_ne, cmpD_lt, cmpD_le, cmpD_gt, cmpD_ge, cmpD_in, cmpD_notin, cmpD_isN, cmpD_notN, cmpD_isB, cmpD_notB, isNon_n, isNon_i, isNon_b, isNon_s, isNon_l, isNon_t, items_l, items_t, itemsI_l, itemsI_t, itemsI_s, ixD_l, ixD_t, ixD_s, slD_l, slD_t, slD_s, lenD_l, lenD_t, lenD_s, lenD_d, absD_i, minD_i, maxD_i, minD_1, maxD_1, bestD_c, sortedD_1, listD_1, tupleD_1, allD_l, anyD_l, sumD_l, sumD_t, intD_i, intD_b, boolD_b, boolD_i, joinD_s, retK_sh, retK_nw, retK_bw, kdOf_0, kdOf_1, kdOf_2, inKd_sh, inKd_nw, inKd_bw, inKd_b2, toKd_t, toKd_f, notBw_sh, notBw_nw, notBw_bw, notBw_b2, exact_sh, exact_nw, exact_bw, ownOk_l, ownOk_K, ownOk_T, ownOk_2, tyD_ii, tyD_ib, tyD_is, tyD_in, tyD_il, tyD_it, tyD_bi, tyD_bb, tyD_bs, tyD_bn, tyD_bl, tyD_bt, tyD_si, tyD_sb, tyD_ss, tyD_sn, tyD_sl, tyD_st, tyD_ti, tyD_tb, tyD_ts, tyD_tn, tyD_tl, tyD_tt, tyD_li, tyD_lb, tyD_ls, tyD_ln, tyD_ll, tyD_lt, biD_1, biD_2, biD_3, biD_4, biD_5, biD_6, biD_7, biD_8, biD_9, biD_10, biD_11, biD_12, biD_13, biD_14, biD_15, op2D_1, op2D_2, op2D_3, op2D_4, op2D_5, op2D_6, oR_some, Option.map_some, true_or, false_or, lend_ret, notB2_sh, notB2_nw, notB2_bw, resOk_bl, resOk_int, resOk_non, resOk_str, resOk_l, resOk_t, e0, e1, e2, e3, e4, hr, hlt]
    have e : (⟨#[lc (x0 + 7 * (0 + (k : Int)))]⟩ : PySem.Str) = nameS x0 x1 x2 x3 x4 k := by simp [nameS, nameL, hr]
    rw [e]
    exact ⟨.inl rfl, hl, _, _, _, _, rfl⟩
  · simp only [id_eq, R.bind_ok, R.guard_true, ss_cons, ss_nil, Sq, Fl, W_bind, W_ok, W_guard, R.ite_true, R.ite_false, W_ite, evS, evE, evEs, evO, evTs, evIt, strD_i, keyD_i, keyD_s, keysD_n, keysD_c, dgetD_s, dgetD_i, dgetD_t, dinD_s, dinD_i, dinD_t, setPat_v, setPat_t, setPats_n, setPats_c, setSlot, start0, wipeE, ownL, stoD, dstD, rangeD, List.map_cons, List.map_nil, List.cons_append, List.nil_append, List.append_nil, List.length_cons, List.length_nil, List.replicate_succ, List.replicate_zero, List.getElem?_cons_zero, List.getElem?_cons_succ, List.set_cons_zero, List.set_cons_succ, List.all_cons, List.all_nil, Nat.add_sub_cancel, Nat.reduceAdd, Nat.reduceSub, Bool.and_true, Bool.true_and, Bool.and_self, Bool.not_true, Bool.not_false, true_and, and_true, decide_eq_true_eq, Nat.zero_add, decide_eq_false_iff_not, Int.reduceLT, Int.reduceEq, eqD_i, eqD_s, shp_i, shp_s, shp_b, shp_n, Int.reduceLE, Int.reduceMul, Int.reduceAdd, Int.reduceMod, Int.reduceNeg, Int.reduceSub, Int.reduceToNat, reduceCtorEq, false_implies, true_implies, decide_true, decide_false, forall_const, Bool.false_eq_true, Bool.not_eq_true', Bool.and_eq_true, Bool.or_eq_true, addD_i, addD_s, addD_l, addD_t, subD_i, mulD_i, mulD_s, fdivD_i, modD_i, powD_i, ltD_i, ltD_s, leD_i, leD_s, gtD_i, gtD_s, geD_i, geD_s, inD_l, inD_t, inD_s, isBl_b, cmpD_eq, cmpD_ne, cmpD_lt, cmpD_le, cmpD_gt, cmpD_ge, cmpD_in, cmpD_notin, cmpD_isN, cmpD_notN, cmpD_isB, cmpD_notB, isNon_n, isNon_i, isNon_b, isNon_s, isNon_l, isNon_t, items_l, items_t, itemsI_l, itemsI_t, itemsI_s, ixD_l, ixD_t, ixD_s, slD_l, slD_t, slD_s, lenD_l, lenD_t, lenD_s, lenD_d, absD_i, minD_i, maxD_i, minD_1, maxD_1, bestD_c, sortedD_1, listD_1, tupleD_1, allD_l, anyD_l, sumD_l, sumD_t, intD_i, intD_b, boolD_b, boolD_i, joinD_s, retK_sh, retK_nw, retK_bw, kdOf_0, kdOf_1, kdOf_2, inKd_sh, inKd_nw, inKd_bw, inKd_b2, toKd_t, toKd_f, notBw_sh, notBw_nw, notBw_bw, notBw_b2, exact_sh, exact_nw, exact_bw, ownOk_l, ownOk_K, ownOk_T, ownOk_2, tyD_ii, tyD_ib, tyD_is, tyD_in, tyD_il, tyD_it, tyD_bi, tyD_bb, tyD_bs, tyD_bn, tyD_bl, tyD_bt, tyD_si, tyD_sb, tyD_ss, tyD_sn, tyD_sl, tyD_st, tyD_ti, tyD_tb, tyD_ts, tyD_tn, tyD_tl, tyD_tt, tyD_li, tyD_lb, tyD_ls, tyD_ln, tyD_ll, tyD_lt, biD_1, biD_2, biD_3, biD_4, biD_5, biD_6, biD_7, biD_8, biD_9, biD_10, biD_11, biD_12, biD_13, biD_14, biD_15, op2D_1, op2D_2, op2D_3, op2D_4, op2D_5, op2D_6, oR_some, Option.map_some, true_or, false_or, lend_ret, notB2_sh, notB2_nw, notB2_bw, resOk_bl, resOk_int, resOk_non, resOk_str, resOk_l, resOk_t, e0, e1, e2, e3, e4, hr, hlt, h8]
    have q0 : 0 ≤ x3 % 8 := Int.emod_nonneg _ (by decide)
    have q1 : x3 % 8 < 8 := Int.emod_lt_of_pos _ (by decide)
    rw [mulT_one _ _ q0]
    simp only [len_cps, app_cps, List.length_append, List.length_replicate, List.length_cons, List.length_nil]
    have e : (⟨([97 + k] ++ List.replicate (x3 % 8).toNat (lc x2)).toArray⟩ : PySem.Str) = nameS x0 x1 x2 x3 x4 k := by simp [nameS, nameL, hr]
    rw [e]
    exact ⟨.inl rfl, ⟨⟨q0, by omega⟩, by omega⟩, by simp only [line]; omega, hl, _, _, _, _, rfl⟩
  · simp only [id_eq, R.bind_ok, R.guard_true, ss_cons, ss_nil, Sq, Fl, W_bind, W_ok, W_guard, R.ite_true, R.ite_false, W_ite, evS, evE, evEs, evO, evTs, evIt, strD_i, keyD_i, keyD_s, keysD_n, keysD_c, dgetD_s, dgetD_i, dgetD_t, dinD_s, dinD_i, dinD_t, setPat_v, setPat_t, setPats_n, setPats_c, setSlot, start0, wipeE, ownL, stoD, dstD, rangeD, List.map_cons, List.map_nil, List.cons_append, List.nil_append, List.append_nil, List.length_cons, List.length_nil, List.replicate_succ, List.replicate_zero, List.getElem?_cons_zero, List.getElem?_cons_succ, List.set_cons_zero, List.set_cons_succ, List.all_cons, List.all_nil, Nat.add_sub_cancel, Nat.reduceAdd, Nat.reduceSub, Bool.and_true, Bool.true_and, Bool.and_self, Bool.not_true, Bool.not_false, true_and, and_true, decide_eq_true_eq, Nat.zero_add, decide_eq_false_iff_not, Int.reduceLT, Int.reduceEq, eqD_i, eqD_s, shp_i, shp_s, shp_b, shp_n, Int.reduceLE, Int.reduceMul, Int.reduceAdd, Int.reduceMod, Int.reduceNeg, Int.reduceSub, Int.reduceToNat, reduceCtorEq, false_implies, true_implies, decide_true, decide_false, forall_const, Bool.false_eq_true, Bool.not_eq_true', Bool.and_eq_true, Bool.or_eq_true, addD_i, addD_s, addD_l, addD_t, subD_i, mulD_i, mulD_s, fdivD_i, modD_i, powD_i, ltD_i, ltD_s, leD_i, leD_s, gtD_i, gtD_s, geD_i, geD_s, inD_l, inD_t, inD_s, isBl_b, cmpD_eq, cmpD_ne, cmpD_lt, cmpD_le, cmpD_gt, cmpD_ge, cmpD_in, cmpD_notin, cmpD_isN, cmpD_notN, cmpD_isB, cmpD_notB, isNon_n, isNon_i, isNon_b, isNon_s, isNon_l, isNon_t, items_l, items_t, itemsI_l, itemsI_t, itemsI_s, ixD_l, ixD_t, ixD_s, slD_l, slD_t, slD_s, lenD_l, lenD_t, lenD_s, lenD_d, absD_i, minD_i, maxD_i, minD_1, maxD_1, bestD_c, sortedD_1, listD_1, tupleD_1, allD_l, anyD_l, sumD_l, sumD_t, intD_i, intD_b, boolD_b, boolD_i, joinD_s, retK_sh, retK_nw, retK_bw, kdOf_0, kdOf_1, kdOf_2, inKd_sh, inKd_nw, inKd_bw, inKd_b2, toKd_t, toKd_f, notBw_sh, notBw_nw, notBw_bw, notBw_b2, exact_sh, exact_nw, exact_bw, ownOk_l, ownOk_K, ownOk_T, ownOk_2, tyD_ii, tyD_ib, tyD_is, tyD_in, tyD_il, tyD_it, tyD_bi, tyD_bb, tyD_bs, tyD_bn, tyD_bl, tyD_bt, tyD_si, tyD_sb, tyD_ss, tyD_sn, tyD_sl, tyD_st, tyD_ti, tyD_tb, tyD_ts, tyD_tn, tyD_tl, tyD_tt, tyD_li, tyD_lb, tyD_ls, tyD_ln, tyD_ll, tyD_lt, biD_1, biD_2, biD_3, biD_4, biD_5, biD_6, biD_7, biD_8, biD_9, biD_10, biD_11, biD_12, biD_13, biD_14, biD_15, op2D_1, op2D_2, op2D_3, op2D_4, op2D_5, op2D_6, oR_some, Option.map_some, true_or, false_or, lend_ret, notB2_sh, notB2_nw, notB2_bw, resOk_bl, resOk_int, resOk_non, resOk_str, resOk_l, resOk_t, e0, e1, e2, e3, e4, hr, hlt, h8]
    rw [mulT_one _ _ (by omega)]
    simp only [len_cps, app_cps, List.length_append, List.length_replicate, List.length_cons, List.length_nil]
    have e : (⟨(List.replicate (1 + (0 + (k : Int))).toNat (lc x2)).toArray⟩ : PySem.Str) = nameS x0 x1 x2 x3 x4 k := by
      have : (1 + (0 + (k : Int))).toNat = 1 + k := by omega
      rw [this]
      simp [nameS, nameL, hr]
    rw [e]
    exact ⟨.inl rfl, ⟨⟨by omega, by omega⟩, by omega⟩, hl, _, _, _, _, rfl⟩
  · simp only [id_eq, R.bind_ok, R.guard_true, ss_cons, ss_nil, Sq, Fl, W_bind, W_ok, W_guard, R.ite_true, R.ite_false, W_ite, evS, evE, evEs, evO, evTs, evIt, strD_i, keyD_i, keyD_s, keysD_n, keysD_c, dgetD_s, dgetD_i, dgetD_t, dinD_s, dinD_i, dinD_t, setPat_v, setPat_t, setPats_n, setPats_c, setSlot, start0, wipeE, ownL, stoD, dstD, rangeD, List.map_cons, List.map_nil, List.cons_append, List.nil_append, List.append_nil, List.length_cons, List.length_nil, List.replicate_succ, List.replicate_zero, List.getElem?_cons_zero, List.getElem?_cons_succ, List.set_cons_zero, List.set_cons_succ, List.all_cons, List.all_nil, Nat.add_sub_cancel, Nat.reduceAdd, Nat.reduceSub, Bool.and_true, Bool.true_and, Bool.and_self, Bool.not_true, Bool.not_false, true_and, and_true, decide_eq_true_eq, Nat.zero_add, decide_eq_false_iff_not, Int.reduceLT, Int.reduceEq, eqD_i, eqD_s, shp_i, shp_s, shp_b, shp_n, Int.reduceLE, Int.reduceMul, Int.reduceAdd, Int.reduceMod, Int.reduceNeg, Int.reduceSub, Int.reduceToNat, reduceCtorEq, false_implies, true_implies, decide_true, decide_false, forall_const, Bool.false_eq_true, Bool.not_eq_true', Bool.and_eq_true, Bool.or_eq_true, addD_i, addD_s, addD_l, addD_t, subD_i, mulD_i, mulD_s, fdivD_i, modD_i, powD_i, ltD_i, ltD_s, leD_i, leD_s, gtD_i, gtD_s, geD_i, geD_s, inD_l, inD_t, inD_s, isBl_b, cmpD_eq, cmpD_ne, cmpD_lt, cmpD_le, cmpD_gt, cmpD_ge, cmpD_in, cmpD_notin, cmpD_isN, cmpD_notN, cmpD_isB, cmpD_notB, isNon_n, isNon_i, isNon_b, isNon_s, isNon_l, isNon_t, items_l, items_t, itemsI_l, itemsI_t, itemsI_s, ixD_l, ixD_t, ixD_s, slD_l, slD_t, slD_s, lenD_l, lenD_t, lenD_s, lenD_d, absD_i, minD_i, maxD_i, minD_1, maxD_1, bestD_c, sortedD_1, listD_1, tupleD_1, allD_l, anyD_l, sumD_l, sumD_t, intD_i, intD_b, boolD_b, boolD_i, joinD_s, retK_sh, retK_nw, retK_bw, kdOf_0, kdOf_1, kdOf_2, inKd_sh, inKd_nw, inKd_bw, inKd_b2, toKd_t, toKd_f, notBw_sh, notBw_nw, notBw_bw, notBw_b2, exact_sh, exact_nw, exact_bw, ownOk_l, ownOk_K, ownOk_T, ownOk_2, tyD_ii, tyD_ib, tyD_is, tyD_in, tyD_il, tyD_it, tyD_bi, tyD_bb, tyD_bs, tyD_bn, tyD_bl, tyD_bt, tyD_si, tyD_sb, tyD_ss, tyD_sn, tyD_sl, tyD_st, tyD_ti, tyD_tb, tyD_ts, tyD_tn, tyD_tl, tyD_tt, tyD_li, tyD_lb, tyD_ls, tyD_ln, tyD_ll, tyD_lt, biD_1, biD_2, biD_3, biD_4, biD_5, biD_6, biD_7, biD_8, biD_9, biD_10, biD_11, biD_12, biD_13, biD_14, biD_15, op2D_1, op2D_2, op2D_3, op2D_4, op2D_5, op2D_6, oR_some, Option.map_some, true_or, false_or, lend_ret, notB2_sh, notB2_nw, notB2_bw, resOk_bl, resOk_int, resOk_non, resOk_str, resOk_l, resOk_t, e0, e1, e2, e3, e4, hr, hlt, h8]
    have q0 : 0 ≤ (x4 + (0 + (k : Int))) % 7 := Int.emod_nonneg _ (by decide)
    have q1 : (x4 + (0 + (k : Int))) % 7 < 7 := Int.emod_lt_of_pos _ (by decide)
    rw [mulT_one _ _ q0]
    simp only [len_cps, app_cps, List.length_append, List.length_replicate, List.length_cons, List.length_nil]
    have e : (⟨([lc (x2 + 3 * (0 + (k : Int)))] ++ List.replicate ((x4 + (0 + (k : Int))) % 7).toNat (lc x3)).toArray⟩ : PySem.Str) = nameS x0 x1 x2 x3 x4 k := by simp [nameS, nameL, hr]
    rw [e]
    exact ⟨.inl rfl, ⟨⟨q0, by omega⟩, by omega⟩, .inl rfl, by simp only [line]; omega, hl, _, _, _, _, rfl⟩
  · simp only [id_eq, R.bind_ok, R.guard_true, ss_cons, ss_nil, Sq, Fl, W_bind, W_ok, W_guard, R.ite_true, R.ite_false, W_ite, evS, evE, evEs, evO, evTs, evIt, strD_i, keyD_i, keyD_s, keysD_n, keysD_c, dgetD_s, dgetD_i, dgetD_t, dinD_s, dinD_i, dinD_t, setPat_v, setPat_t, setPats_n, setPats_c, setSlot, start0, wipeE, ownL, stoD, dstD, rangeD, List.map_cons, List.map_nil, List.cons_append, List.nil_append, List.append_nil, List.length_cons, List.length_nil, List.replicate_succ, List.replicate_zero, List.getElem?_cons_zero, List.getElem?_cons_succ, List.set_cons_zero, List.set_cons_succ, List.all_cons, List.all_nil, Nat.add_sub_cancel, Nat.reduceAdd, Nat.reduceSub, Bool.and_true, Bool.true_and, Bool.and_self, Bool.not_true, Bool.not_false, true_and, and_true, decide_eq_true_eq, Nat.zero_add, decide_eq_false_iff_not, Int.reduceLT, Int.reduceEq, eqD_i, eqD_s, shp_i, shp_s, shp_b, shp_n, Int.reduceLE, Int.reduceMul, Int.reduceAdd, Int.reduceMod, Int.reduceNeg, Int.reduceSub, Int.reduceToNat, reduceCtorEq, false_implies, true_implies, decide_true, decide_false, forall_const, Bool.false_eq_true, Bool.not_eq_true', Bool.and_eq_true, Bool.or_eq_true, addD_i, addD_s, addD_l, addD_t, subD_i, mulD_i, mulD_s, fdivD_i, modD_i, powD_i, ltD_i, ltD_s, leD_i, leD_s, gtD_i, gtD_s, geD_i, geD_s, inD_l, inD_t, inD_s, isBl_b, cmpD_eq, cmpD_ne, cmpD_lt, cmpD_le, cmpD_gt, cmpD_ge, cmpD_in, cmpD_notin, cmpD_isN, cmpD_notN, cmpD_isB, cmpD_notB, isNon_n, isNon_i, isNon_b, isNon_s, isNon_l, isNon_t, items_l, items_t, itemsI_l, itemsI_t, itemsI_s, ixD_l, ixD_t, ixD_s, slD_l, slD_t, slD_s, lenD_l, lenD_t, lenD_s, lenD_d, absD_i, minD_i, maxD_i, minD_1, maxD_1, bestD_c, sortedD_1, listD_1, tupleD_1, allD_l, anyD_l, sumD_l, sumD_t, intD_i, intD_b, boolD_b, boolD_i, joinD_s, retK_sh, retK_nw, retK_bw, kdOf_0, kdOf_1, kdOf_2, inKd_sh, inKd_nw, inKd_bw, inKd_b2, toKd_t, toKd_f, notBw_sh, notBw_nw, notBw_bw, notBw_b2, exact_sh, exact_nw, exact_bw, ownOk_l, ownOk_K, ownOk_T, ownOk_2, tyD_ii, tyD_ib, tyD_is, tyD_in, tyD_il, tyD_it, tyD_bi, tyD_bb, tyD_bs, tyD_bn, tyD_bl, tyD_bt, tyD_si, tyD_sb, tyD_ss, tyD_sn, tyD_sl, tyD_st, tyD_ti, tyD_tb, tyD_ts, tyD_tn, tyD_tl, tyD_tt, tyD_li, tyD_lb, tyD_ls, tyD_ln, tyD_ll, tyD_lt, biD_1, biD_2, biD_3, biD_4, biD_5, biD_6, biD_7, biD_8, biD_9, biD_10, biD_11, biD_12, biD_13, biD_14, biD_15, op2D_1, op2D_2, op2D_3, op2D_4, op2D_5, op2D_6, oR_some, Option.map_some, true_or, false_or, lend_ret, notB2_sh, notB2_nw, notB2_bw, resOk_bl, resOk_int, resOk_non, resOk_str, resOk_l, resOk_t, e0, e1, e2, e3, e4, hr, hlt, h8]
    have q0 : 0 ≤ x4 % 8 := Int.emod_nonneg _ (by decide)
    have q1 : x4 % 8 < 8 := Int.emod_lt_of_pos _ (by decide)
    have eL : ((List.replicate (x4 % 8).toNat (lc x3)).length : Int) = x4 % 8 := by rw [List.length_replicate]; omega
    have a0 : 0 ≤ x4 / 8 % (x4 % 8 + 1) := Int.emod_nonneg _ (by omega)
    have a1 : x4 / 8 % (x4 % 8 + 1) < x4 % 8 + 1 := Int.emod_lt_of_pos _ (by omega)
    rw [mulT_one _ _ q0]
    simp only [len_cps]
    rw [eL]
    have c := cut_rep (x4 % 8).toNat (lc x3) (x4 / 8 % (x4 % 8 + 1)) a0 (by omega)
    rw [c.1, c.2]
    simp only [len_cps, app_cps, List.length_append, List.length_replicate, List.length_cons, List.length_nil]
    have e : (⟨(List.replicate (x4 / 8 % (x4 % 8 + 1)).toNat (lc x3) ++ [lc (x2 + 3 * (0 + (k : Int)))] ++ List.replicate ((x4 % 8).toNat - (x4 / 8 % (x4 % 8 + 1)).toNat) (lc x3)).toArray⟩ : PySem.Str) = nameS x0 x1 x2 x3 x4 k := by simp [nameS, nameL, hr]
    rw [e]
    simp only [line]
    exact ⟨.inl rfl, ⟨⟨q0, by omega⟩, by omega⟩, by omega, .inl rfl, by omega, by omega, hl, _, _, _, _, rfl⟩
end Fw

namespace Fw
open L2
/-! ### names, sorted -/
theorem lc_inj {a b : Int} (h : lc a = lc b) : a % 26 = b % 26 := by
  unfold lc at h
  have h1 : 0 ≤ a % 26 := Int.emod_nonneg _ (by decide)
  have h2 : 0 ≤ b % 26 := Int.emod_nonneg _ (by decide)
  omega
theorem lc_range (a : Int) : 97 ≤ lc a ∧ lc a ≤ 122 := by
  unfold lc
  have h1 : 0 ≤ a % 26 := Int.emod_nonneg _ (by decide)
  have h2 : a % 26 < 26 := Int.emod_lt_of_pos _ (by decide)
  omega
theorem nameL_inj {x0 x1 x2 x3 x4 : Int} {i j : Nat} (hi : i < 8) (hj : j < 8) (h : nameL x0 x1 x2 x3 x4 i = nameL x0 x1 x2 x3 x4 j) : i = j := by
  unfold nameL at h
  split at h
  · have := (List.cons.inj h).1
    omega
  · split at h
    · have := congrArg List.length h
      rw [List.length_replicate, List.length_replicate] at this
      omega
    · split at h
      · have := lc_inj (List.cons.inj h).1
        omega
      · split at h
        · have := lc_inj (List.cons.inj (List.append_cancel_left h)).1
          omega
        · have := lc_inj (List.cons.inj h).1
          omega
structure IsName (s : PySem.Str) : Prop where
  pos : 1 ≤ s.length
  le : s.length ≤ 8
  low : ∀ c ∈ s.cps.toList, 97 ≤ c ∧ c ≤ 122
theorem nameS_is (x0 x1 x2 x3 x4 : Int) {k : Nat} (hk : k < 8) : IsName (nameS x0 x1 x2 x3 x4 k) := by
  have q3 : 0 ≤ x3 % 8 ∧ x3 % 8 < 8 := ⟨Int.emod_nonneg _ (by decide), Int.emod_lt_of_pos _ (by decide)⟩
  have q4 : 0 ≤ x4 % 8 ∧ x4 % 8 < 8 := ⟨Int.emod_nonneg _ (by decide), Int.emod_lt_of_pos _ (by decide)⟩
  have q7 : 0 ≤ (x4 + k) % 7 ∧ (x4 + k) % 7 < 7 := ⟨Int.emod_nonneg _ (by decide), Int.emod_lt_of_pos _ (by decide)⟩
  have a0 : 0 ≤ x4 / 8 % (x4 % 8 + 1) := Int.emod_nonneg _ (by omega)
  have a1 : x4 / 8 % (x4 % 8 + 1) < x4 % 8 + 1 := Int.emod_lt_of_pos _ (by omega)
  have rep : ∀ (n : Nat) (a : Int) (c : Nat), c ∈ List.replicate n (lc a) → 97 ≤ c ∧ c ≤ 122 := fun n a c hc => by
    rw [List.mem_replicate] at hc
    rw [hc.2]
    exact lc_range a
  have hl : (nameS x0 x1 x2 x3 x4 k).length = (nameL x0 x1 x2 x3 x4 k).length := len_cps _
  have hm : ∀ c, c ∈ (nameS x0 x1 x2 x3 x4 k).cps.toList ↔ c ∈ nameL x0 x1 x2 x3 x4 k := fun c => Iff.rfl
  refine ⟨?_, ?_, fun c hc => ?_⟩
  · rw [hl]
    unfold nameL
    repeat' split
    all_goals simp only [List.length_cons, List.length_replicate, List.length_append, List.length_nil]
    all_goals omega
  · rw [hl]
    unfold nameL
    repeat' split
    all_goals simp only [List.length_cons, List.length_replicate, List.length_append, List.length_nil]
    all_goals omega
  · rw [hm] at hc
    unfold nameL at hc
    split at hc
    · rcases List.mem_cons.mp hc with e | hc
      · omega
      · exact rep _ _ _ hc
    · split at hc
      · exact rep _ _ _ hc
      · split at hc
        · rcases List.mem_cons.mp hc with e | hc
          · rw [e]; exact lc_range _
          · exact rep _ _ _ hc
        · split at hc
          · rcases List.mem_append.mp hc with hc | hc
            · exact rep _ _ _ hc
            · rcases List.mem_cons.mp hc with e | hc
              · rw [e]; exact lc_range _
              · exact rep _ _ _ hc
          · rw [List.mem_singleton] at hc
            rw [hc]; exact lc_range _
/-- the order of texts -/
def leS (a b : PySem.Str) : Bool := decide (a.cps.toList ≤ b.cps.toList)
def ltS (a b : PySem.Str) : Prop := a.cps.toList < b.cps.toList
theorem alike_str (a b : PySem.Str) : PySem.W.alike (toPy (.str a)) (toPy (.str b)) = true := by simp [toPy, PySem.W.alike]
theorem le_str (a b : PySem.Str) : PySem.W.dataLe false toPy (.str a) (.str b) = leS a b := by
  have := congrFun (congrFun (PySem.W.dataLe_str (fun s : PySem.Str => s)) a) b
  exact this
theorem sort_strs (l : List PySem.Str) : sortD (l.map D.str) = .ok (.lst ((l.mergeSort leS).map D.str), .nw) := by
  unfold sortD
  have g : (allAlike (l.map D.str) && sortableD (l.map D.str) && (l.map D.str).all shp) = true := by
    rw [Bool.and_eq_true, Bool.and_eq_true]
    refine ⟨⟨?_, ?_⟩, ?_⟩
    · unfold allAlike
      rw [List.all_eq_true]
      intro x hx
      rw [List.all_eq_true]
      intro y hy
      obtain ⟨a, _, rfl⟩ := List.mem_map.mp hx
      obtain ⟨b, _, rfl⟩ := List.mem_map.mp hy
      exact alike_str a b
    · unfold sortableD
      rw [Bool.or_eq_true]
      refine .inr ?_
      rw [List.all_eq_true]
      intro x hx
      obtain ⟨a, _, rfl⟩ := List.mem_map.mp hx
      rfl
    · rw [List.all_eq_true]
      intro x hx
      obtain ⟨a, _, rfl⟩ := List.mem_map.mp hx
      rfl
  rw [g, R.guard_true]
  congr 3
  symm
  exact List.map_mergeSort fun a _ b _ => (le_str a b).symm
theorem leS_trans (a b c : PySem.Str) : leS a b = true → leS b c = true → leS a c = true := by
  unfold leS
  simp only [decide_eq_true_eq]
  exact List.le_trans
theorem leS_total (a b : PySem.Str) : (leS a b || leS b a) = true := by
  unfold leS
  rw [Bool.or_eq_true, decide_eq_true_eq, decide_eq_true_eq]
  exact List.le_total _ _
theorem ltS_of {a b : PySem.Str} (h : leS a b = true) (hn : a ≠ b) : ltS a b := by
  unfold leS at h
  rw [decide_eq_true_eq] at h
  unfold ltS
  by_cases hl : a.cps.toList < b.cps.toList
  · exact hl
  · exact absurd (PySem.W.str_of_cps (List.le_antisymm h (List.not_lt.mp hl))) hn
/-- what a list of names is -/
structure Names (ns : List PySem.Str) : Prop where
  rise : ns.Pairwise ltS
  is : ∀ s ∈ ns, IsName s
theorem names_sorted {ms : List PySem.Str} (hn : ms.Nodup) (hi : ∀ s ∈ ms, IsName s) : Names (ms.mergeSort leS) ∧ (ms.mergeSort leS).Perm ms := by
  have p := List.mergeSort_perm ms leS
  refine ⟨⟨?_, fun s hs => hi s (p.mem_iff.mp hs)⟩, p⟩
  have s1 := List.pairwise_mergeSort leS_trans leS_total ms
  have s2 : (ms.mergeSort leS).Nodup := p.nodup_iff.mpr hn
  exact (s1.and s2).imp fun h => ltS_of h.1 h.2
theorem letter_at (e : Int) : atI (sqF [97, 98, 99, 100, 101, 102, 103, 104, 105, 106, 107, 108, 109, 110, 111, 112, 113, 114, 115, 116, 117, 118, 119, 120, 121, 122]).cps.toList (e % 26) = some (lc e) := by
  have h1 : 0 ≤ e % 26 := Int.emod_nonneg _ (by decide)
  have h2 : e % 26 < 26 := Int.emod_lt_of_pos _ (by decide)
  unfold lc
  obtain ⟨n, hn⟩ := Int.eq_ofNat_of_zero_le h1
  rw [hn] at h2 ⊢
  have h3 : n < 26 := by omega
  have key : ∀ n : Nat, n < 26 → atI (sqF [97, 98, 99, 100, 101, 102, 103, 104, 105, 106, 107, 108, 109, 110, 111, 112, 113, 114, 115, 116, 117, 118, 119, 120, 121, 122]).cps.toList (n : Int) = some (97 + (n : Int).toNat) := by decide
  exact key n h3
theorem names_ok {F : List Fn} {fi : Nat} (hf : F[fi]? = some ⟨2, 10, C_names⟩) (n : Nat) (xs : List Int) (many : Nat) (hx : xs.length = 12) (h0 : ∀ x ∈ xs, 0 ≤ x) (hm : many ≤ 8) :
    W (run F (n + 1) fi [.lst (xs.map .int), .int many]) fun r => ∃ ns : List PySem.Str, r = (.lst (ns.map .str), true) ∧ ns.length = many ∧ Names ns := by
  obtain ⟨x0, e0, m0⟩ := atI_int (l := xs) (i := 0) (by decide) (by omega)
  obtain ⟨x1, e1, m1⟩ := atI_int (l := xs) (i := 1) (by decide) (by omega)
  obtain ⟨x2, e2, m2⟩ := atI_int (l := xs) (i := 2) (by decide) (by omega)
  obtain ⟨x3, e3, m3⟩ := atI_int (l := xs) (i := 3) (by decide) (by omega)
  obtain ⟨x4, e4, m4⟩ := atI_int (l := xs) (i := 4) (by decide) (by omega)
  refine run_W hf rfl ?_
  simp only [C_names]
  simp only [id_eq, R.bind_ok, R.guard_true, ss_cons, ss_nil, Sq, Fl, W_bind, W_ok, W_guard, R.ite_true, R.ite_false, W_ite, evS, evE, evEs, evO, evTs, evIt, strD_i, keyD_i, keyD_s, keysD_n, keysD_c, dgetD_s, dgetD_i, dgetD_t, dinD_s, dinD_i, dinD_t, setPat_v, setPat_t, setPats_n, setPats_c, setSlot, start0, wipeE, ownL, stoD, dstD, rangeD, List.map_cons, List.map_nil, List.cons_append, List.nil_append, List.append_nil, List.length_cons, List.length_nil, List.replicate_succ, List.replicate_zero, List.getElem?_cons_zero, List.getElem?_cons_succ, List.set_cons_zero, List.set_cons_succ, List.all_cons, List.all_nil, Nat.add_sub_cancel, Nat.reduceAdd, Nat.reduceSub, Bool.and_true, Bool.true_and, Bool.and_self, Bool.not_true, Bool.not_false, true_and, and_true, decide_eq_true_eq, Nat.zero_add, decide_eq_false_iff_not, Int.reduceLT, Int.reduceEq, eqD_i, eqD_s, shp_i, shp_s, shp_b, shp_n, Int.reduceLE, Int.reduceMul, Int.reduceAdd, Int.reduceMod, Int.reduceNeg, Int.reduceSub, Int.reduceToNat, reduceCtorEq, false_implies, true_implies, decide_true, decide_false, forall_const, Bool.false_eq_true, Bool.not_eq_true', Bool.and_eq_true, Bool.or_eq_true, addD_i, addD_s, addD_l, addD_t, subD_i, mulD_i, mulD_s, fdivD_i, modD_i, powD_i, ltD_i, ltD_s, leD_i, leD_s, gtD_i, gtD_s, geD_i, geD_s, inD_l, inD_t, inD_s, isBl_b, cmpD_eq, cmpD_ne, cmpD_lt, cmpD_le, cmpD_gt, cmpD_ge, cmpD_in, cmpD_notin, cmpD_isN, cmpD_notN, cmpD_isB, cmpD_notB, isNon_n, isNon_i, isNon_b, isNon_s, isNon_l, isNon_t, items_l, items_t, itemsI_l, itemsI_t, itemsI_s, ixD_l, ixD_t, ixD_s, slD_l, slD_t, slD_s, lenD_l, lenD_t, lenD_s, lenD_d, absD_i, minD_i, maxD_i, minD_1, maxD_1, bestD_c, sortedD_1, listD_1, tupleD_1, allD_l, anyD_l, sumD_l, sumD_t, intD_i, intD_b, boolD_b, boolD_i, joinD_s, retK_sh, retK_nw, retK_bw, kdOf_0, kdOf_1, kdOf_2, inKd_sh, inKd_nw, inKd_bw, inKd_b2, toKd_t, toKd_f, notBw_sh, notBw_nw, notBw_bw, notBw_b2, exact_sh, exact_nw, exact_bw, ownOk_l, ownOk_K, ownOk_T, ownOk_2, tyD_ii, tyD_ib, tyD_is, tyD_in, tyD_il, tyD_it, tyD_bi, tyD_bb, tyD_bs, tyD_bn, tyD_bl, tyD_bt, tyD_si, tyD_sb, tyD_ss, tyD_sn, tyD_sl, tyD_st, tyD_ti, tyD_tb, tyD_ts, tyD_tn, tyD_tl, tyD_tt, tyD_li, tyD_lb, tyD_ls, tyD_ln, tyD_ll, tyD_lt, biD_1, biD_2, biD_3, biD_4, biD_5, biD_6, biD_7, biD_8, biD_9, biD_10, biD_11, biD_12, biD_13, biD_14, biD_15, op2D_1, op2D_2, op2D_3, op2D_4, op2D_5, op2D_6, oR_some, Option.map_some, true_or, false_or, lend_ret, notB2_sh, notB2_nw, notB2_bw, resOk_bl, resOk_int, resOk_non, resOk_str, resOk_l, resOk_t]
  refine ⟨by omega, ?_⟩
  have e : ((many : Int) - 0).toNat = many := by omega
  rw [e]
  have key : ∀ (m k : Nat) (o4 o5 o6 o7 o8 o9 : Option Slot) (Q : Flow → Prop), k + m = many → (∀ o4 o5 o6 o7 o8 o9 : Option Slot, Q (.nx [some ⟨.lst (xs.map .int), 0⟩, some ⟨.int many, 0⟩, some ⟨.str (sqF [97, 98, 99, 100, 101, 102, 103, 104, 105, 106, 107, 108, 109, 110, 111, 112, 113, 114, 115, 116, 117, 118, 119, 120, 121, 122]), 0⟩, some ⟨.lst (((List.range many).map (nameS x0 x1 x2 x3 x4)).map D.str), 1⟩, o4, o5, o6, o7, o8, o9])) →
      W (forGo (.v 4) (fun ρ => evSs (run F n) N_body ρ) ((List.range' k m).map fun k : Nat => D.int (0 + k)) [some ⟨.lst (xs.map .int), 0⟩, some ⟨.int many, 0⟩, some ⟨.str (sqF [97, 98, 99, 100, 101, 102, 103, 104, 105, 106, 107, 108, 109, 110, 111, 112, 113, 114, 115, 116, 117, 118, 119, 120, 121, 122]), 0⟩, some ⟨.lst (((List.range k).map (nameS x0 x1 x2 x3 x4)).map D.str), 1⟩, o4, o5, o6, o7, o8, o9]) Q := by
    intro m
    induction m with
    | zero =>
      intro k o4 o5 o6 o7 o8 o9 Q hk hq
      rw [List.range'_zero, List.map_nil, forGo, W_ok]
      have : k = many := by omega
      subst this
      exact hq _ _ _ _ _ _
    | succ m ih =>
      intro k o4 o5 o6 o7 o8 o9 Q hk hq
      rw [List.range'_succ, List.map_cons, forGo, W_bind]
      rw [show setPat (.v 4) (.int (0 + (k : Int))) _ = .ok _ from rfl, W_ok, W_bind]
      refine (names_step e0 e1 e2 e3 e4 (h0 x4 m4) (by omega) (by rw [List.length_map, List.length_map, List.length_range]; simp only [line]; omega) letter_at).mono fun o ho => ?_
      obtain ⟨o6, o7, o8, o9, rfl⟩ := ho
      have e1 : ((List.range k).map (nameS x0 x1 x2 x3 x4)).map D.str ++ [D.str (nameS x0 x1 x2 x3 x4 k)] = ((List.range (k + 1)).map (nameS x0 x1 x2 x3 x4)).map D.str := by
        rw [List.range_succ, List.map_append, List.map_append]
        rfl
      rw [e1]
      exact ih (k + 1) _ _ _ _ _ _ Q (by omega) hq
  rw [List.range_eq_range']
  refine key many 0 none none none none none none _ (by omega) fun o4 o5 o6 o7 o8 o9 => ?_
  simp only [id_eq, R.bind_ok, R.guard_true, ss_cons, ss_nil, Sq, Fl, W_bind, W_ok, W_guard, R.ite_true, R.ite_false, W_ite, evS, evE, evEs, evO, evTs, evIt, strD_i, keyD_i, keyD_s, keysD_n, keysD_c, dgetD_s, dgetD_i, dgetD_t, dinD_s, dinD_i, dinD_t, setPat_v, setPat_t, setPats_n, setPats_c, setSlot, start0, wipeE, ownL, stoD, dstD, rangeD, List.map_cons, List.map_nil, List.cons_append, List.nil_append, List.append_nil, List.length_cons, List.length_nil, List.replicate_succ, List.replicate_zero, List.getElem?_cons_zero, List.getElem?_cons_succ, List.set_cons_zero, List.set_cons_succ, List.all_cons, List.all_nil, Nat.add_sub_cancel, Nat.reduceAdd, Nat.reduceSub, Bool.and_true, Bool.true_and, Bool.and_self, Bool.not_true, Bool.not_false, true_and, and_true, decide_eq_true_eq, Nat.zero_add, decide_eq_false_iff_not, Int.reduceLT, Int.reduceEq, eqD_i, eqD_s, shp_i, shp_s, shp_b, shp_n, Int.reduceLE, Int.reduceMul, Int.reduceAdd, Int.reduceMod, Int.reduceNeg, Int.reduceSub, Int.reduceToNat, reduceCtorEq, false_implies, true_implies, decide_true, decide_false, forall_const, Bool.false_eq_true, Bool.not_eq_true', Bool.and_eq_true, Bool.or_eq_true, addD_i, addD_s, addD_l, addD_t, subD_i, mulD_i, mulD_s, fdivD_i, modD_i, powD_i, ltD_i, ltD_s, leD_i, leD_s, gtD_i, gtD_s, geD_i, geD_s, inD_l, inD_t, inD_s, isBl_b, cmpD_eq, cmpD_ne, cmpD_lt, cmpD_le, cmpD_gt, cmpD_ge, cmpD_in, cmpD_notin, cmpD_isN, cmpD_notN, cmpD_isB, cmpD_notB, isNon_n, isNon_i, isNon_b, isNon_s, isNon_l, isNon_t, items_l, items_t, itemsI_l, itemsI_t, itemsI_s, ixD_l, ixD_t, ixD_s, slD_l, slD_t, slD_s, lenD_l, lenD_t, lenD_s, lenD_d, absD_i, minD_i, maxD_i, minD_1, maxD_1, bestD_c, sortedD_1, listD_1, tupleD_1, allD_l, anyD_l, sumD_l, sumD_t, intD_i, intD_b, boolD_b, boolD_i, joinD_s, retK_sh, retK_nw, retK_bw, kdOf_0, kdOf_1, kdOf_2, inKd_sh, inKd_nw, inKd_bw, inKd_b2, toKd_t, toKd_f, notBw_sh, notBw_nw, notBw_bw, notBw_b2, exact_sh, exact_nw, exact_bw, ownOk_l, ownOk_K, ownOk_T, ownOk_2, tyD_ii, tyD_ib, tyD_is, tyD_in, tyD_il, tyD_it, tyD_bi, tyD_bb, tyD_bs, tyD_bn, tyD_bl, tyD_bt, tyD_si, tyD_sb, tyD_ss, tyD_sn, tyD_sl, tyD_st, tyD_ti, tyD_tb, tyD_ts, tyD_tn, tyD_tl, tyD_tt, tyD_li, tyD_lb, tyD_ls, tyD_ln, tyD_ll, tyD_lt, biD_1, biD_2, biD_3, biD_4, biD_5, biD_6, biD_7, biD_8, biD_9, biD_10, biD_11, biD_12, biD_13, biD_14, biD_15, op2D_1, op2D_2, op2D_3, op2D_4, op2D_5, op2D_6, oR_some, Option.map_some, true_or, false_or, lend_ret, notB2_sh, notB2_nw, notB2_bw, resOk_bl, resOk_int, resOk_non, resOk_str, resOk_l, resOk_t, sort_strs]
  have hnd : ((List.range many).map (nameS x0 x1 x2 x3 x4)).Nodup := by
    refine List.pairwise_map.mpr ((List.nodup_range (n := many)).imp_of_mem fun {i j} hi hj hne e => hne ?_)
    rw [List.mem_range] at hi hj
    exact nameL_inj (x0 := x0) (x1 := x1) (x2 := x2) (x3 := x3) (x4 := x4) (by omega) (by omega) (congrArg (fun s : PySem.Str => s.cps.toList) e)
  obtain ⟨h1, h2⟩ := names_sorted hnd (fun s hs => by
    obtain ⟨k, hk, rfl⟩ := List.mem_map.mp hs
    rw [List.mem_range] at hk
    exact nameS_is _ _ _ _ _ (by omega))
  exact ⟨_, rfl, by rw [h2.length_eq, List.length_map, List.length_range], h1⟩
end Fw

namespace Fw
open L2
/-! ### the ends of the ties -/
def endsF (around : Nat) (par : Nat → Nat) (many : Nat) : List (Nat × Nat) := (if around = 0 then [] else [(around - 1, 0)]) ++ (List.range' 1 (many - 1)).map fun k => (par k, k)
structure EndsOk (around : Nat) (par : Nat → Nat) (many : Nat) : Prop where
  ring : around = 0 ∨ (3 ≤ around ∧ around ≤ many)
  low : ∀ k, 1 ≤ k → k < many → par k < k
  line : ∀ k, 1 ≤ k → k < around → par k = k - 1
def endD (e : Nat × Nat) : D := .tup [.int e.1, .int e.2]
def E_body : List S := [.ite (.or (.cmp .eq (.v 0) (.k (.int 1))) (.cmp .lt (.v 5) (.v 4))) [.app 3 (.tup [.op .sub (.v 5) (.k (.int 1)), .v 5])] [.app 3 (.tup [.op .mod (.ix (.v 2) (.v 5)) (.v 5), .v 5])]]
theorem ends_step {C : CallT} {kind many : Int} {xs : List Int} {l : List D} {around k : Nat} {par : Nat → Nat} (hk : 1 ≤ k) (hkx : k < xs.length) (hx : ∀ x ∈ xs, 0 ≤ x) (hl : l.length < line)
    (hp : par k = if kind = 1 ∨ k < around then k - 1 else (xs.getD k 0 % k).toNat) :
    W (evSs C E_body [some ⟨.int kind, 0⟩, some ⟨.int many, 0⟩, some ⟨.lst (xs.map .int), 0⟩, some ⟨.lst l, 1⟩, some ⟨.int around, 0⟩, some ⟨.int (1 + ((k - 1 : Nat) : Int)), 0⟩]) fun o => o = .nx [some ⟨.int kind, 0⟩, some ⟨.int many, 0⟩, some ⟨.lst (xs.map .int), 0⟩, some ⟨.lst (l ++ [endD (par k, k)]), 1⟩, some ⟨.int around, 0⟩, some ⟨.int (1 + ((k - 1 : Nat) : Int)), 0⟩] := by
  have ek : (1 : Int) + ((k - 1 : Nat) : Int) = k := by omega
  rw [ek]
  have ex : atI (xs.map D.int) (k : Int) = some (.int (xs.getD k 0)) := by
    refine atI_nat ?_
    rw [List.getElem?_map, List.getElem?_eq_getElem hkx, List.getD_eq_getElem?_getD, List.getElem?_eq_getElem hkx]
    rfl
  have hx0 : 0 ≤ xs.getD k 0 := by
    rw [List.getD_eq_getElem?_getD, List.getElem?_eq_getElem hkx]
    exact hx _ (List.getElem_mem hkx)
  simp only [E_body]
  simp only [id_eq, R.bind_ok, R.guard_true, ss_cons, ss_nil, Sq, Fl, W_bind, W_ok, W_guard, R.ite_true, R.ite_false, W_ite, evS, evE, evEs, evO, evTs, evIt, strD_i, keyD_i, keyD_s, keysD_n, keysD_c, dgetD_s, dgetD_i, dgetD_t, dinD_s, dinD_i, dinD_t, setPat_v, setPat_t, setPats_n, setPats_c, setSlot, start0, wipeE, ownL, stoD, dstD, rangeD, List.map_cons, List.map_nil, List.cons_append, List.nil_append, List.append_nil, List.length_cons, List.length_nil, List.replicate_succ, List.replicate_zero, List.getElem?_cons_zero, List.getElem?_cons_succ, List.set_cons_zero, List.set_cons_succ, List.all_cons, List.all_nil, Nat.add_sub_cancel, Nat.reduceAdd, Nat.reduceSub, Bool.and_true, Bool.true_and, Bool.and_self, Bool.not_true, Bool.not_false, true_and, and_true, decide_eq_true_eq, Nat.zero_add, decide_eq_false_iff_not, Int.reduceLT, Int.reduceEq, eqD_i, eqD_s, shp_i, shp_s, shp_b, shp_n, Int.reduceLE, Int.reduceMul, Int.reduceAdd, Int.reduceMod, Int.reduceNeg, Int.reduceSub, Int.reduceToNat, reduceCtorEq, false_implies, true_implies, decide_true, decide_false, forall_const, Bool.false_eq_true, Bool.not_eq_true', Bool.and_eq_true, Bool.or_eq_true, addD_i, addD_s, addD_l, addD_t, subD_i, mulD_i, mulD_s, fdivD_i, modD_i, powD_i, ltD_i, ltD_s, leD_i, leD_s, gtD_i, gtD_s, geD_i, geD_s, inD_l, inD_t, inD_s, isBl_b, cmpD_eq, cmpD_ne, cmpD_lt, cmpD_le, cmpD_gt, cmpD_ge, cmpD_in, cmpD_notin, cmpD_isN, cmpD_notN, cmpD_isB, cmpD_notB, isNon_n, isNon_i, isNon_b, isNon_s, isNon_l, isNon_t, items_l, items_t, itemsI_l, itemsI_t, itemsI_s, ixD_l, ixD_t, ixD_s, slD_l, slD_t, slD_s, lenD_l, lenD_t, lenD_s, lenD_d, absD_i, minD_i, maxD_i, minD_1, maxD_1, bestD_c, sortedD_1, listD_1, tupleD_1, allD_l, anyD_l, sumD_l, sumD_t, intD_i, intD_b, boolD_b, boolD_i, joinD_s, retK_sh, retK_nw, retK_bw, kdOf_0, kdOf_1, kdOf_2, inKd_sh, inKd_nw, inKd_bw, inKd_b2, toKd_t, toKd_f, notBw_sh, notBw_nw, notBw_bw, notBw_b2, exact_sh, exact_nw, exact_bw, ownOk_l, ownOk_K, ownOk_T, ownOk_2, tyD_ii, tyD_ib, tyD_is, tyD_in, tyD_il, tyD_it, tyD_bi, tyD_bb, tyD_bs, tyD_bn, tyD_bl, tyD_bt, tyD_si, tyD_sb, tyD_ss, tyD_sn, tyD_sl, tyD_st, tyD_ti, tyD_tb, tyD_ts, tyD_tn, tyD_tl, tyD_tt, tyD_li, tyD_lb, tyD_ls, tyD_ln, tyD_ll, tyD_lt, biD_1, biD_2, biD_3, biD_4, biD_5, biD_6, biD_7, biD_8, biD_9, biD_10, biD_11, biD_12, biD_13, biD_14, biD_15, op2D_1, op2D_2, op2D_3, op2D_4, op2D_5, op2D_6, oR_some, Option.map_some, true_or, false_or, lend_ret, notB2_sh, notB2_nw, notB2_bw, resOk_bl, resOk_int, resOk_non, resOk_str, resOk_l, resOk_t, ex]
  have c1 : ∀ h : kind = 1 ∨ k < around, endD (par k, k) = D.tup [.int ((k : Int) - 1), .int k] := fun h => by
    unfold endD
    rw [hp, if_pos h]
    have : ((k - 1 : Nat) : Int) = (k : Int) - 1 := by omega
    rw [this]
  have c2 : ∀ h : ¬ (kind = 1 ∨ k < around), endD (par k, k) = D.tup [.int (xs.getD k 0 % k), .int k] := fun h => by
    unfold endD
    rw [hp, if_neg h]
    have : (((xs.getD k 0 % k).toNat : Nat) : Int) = xs.getD k 0 % k := by
      have := Int.emod_nonneg (xs.getD k 0) (b := k) (by omega)
      omega
    rw [this]
  refine ⟨fun h => ?_, fun h => ⟨fun h2 => ?_, fun h2 => ?_⟩⟩
  · rw [c1 (.inl h)]
    exact ⟨hl, rfl⟩
  · rw [c1 (.inr (by omega))]
    exact ⟨hl, rfl⟩
  · rw [c2 (by omega)]
    exact ⟨by omega, hl, rfl⟩
theorem ends_loop {C : CallT} {kind many : Int} {xs : List Int} {around : Nat} {par : Nat → Nat} (hx : ∀ x ∈ xs, 0 ≤ x) (hp : ∀ k, par k = if kind = 1 ∨ k < around then k - 1 else (xs.getD k 0 % k).toNat) : ∀ (m k : Nat) (l : List D) (o5 : Option Slot) (Q : Flow → Prop), 1 ≤ k → k + m ≤ xs.length → xs.length ≤ 100 → l.length + m < line →
    (∀ o5, Q (.nx [some ⟨.int kind, 0⟩, some ⟨.int many, 0⟩, some ⟨.lst (xs.map .int), 0⟩, some ⟨.lst (l ++ ((List.range' k m).map fun k => endD (par k, k))), 1⟩, some ⟨.int around, 0⟩, o5])) →
    W (forGo (.v 5) (fun ρ => evSs C E_body ρ) ((List.range' (k - 1) m).map fun k : Nat => D.int (1 + (k : Int))) [some ⟨.int kind, 0⟩, some ⟨.int many, 0⟩, some ⟨.lst (xs.map .int), 0⟩, some ⟨.lst l, 1⟩, some ⟨.int around, 0⟩, o5]) Q := by
  intro m
  induction m with
  | zero =>
    intro k l o5 Q h1 h2 h3 h4 hq
    rw [List.range'_zero, List.map_nil, forGo, W_ok]
    have := hq o5
    rw [List.range'_zero, List.map_nil, List.append_nil] at this
    exact this
  | succ m ih =>
    intro k l o5 Q h1 h2 h3 h4 hq
    rw [List.range'_succ, List.map_cons, forGo, W_bind]
    rw [show setPat (.v 5) (.int (1 + ((k - 1 : Nat) : Int))) _ = .ok _ from rfl, W_ok, W_bind]
    refine (ends_step (many := many) (around := around) (par := par) h1 (by omega) hx (by omega) (hp k)).mono fun o ho => ?_
    subst ho
    have e : k - 1 + 1 = (k + 1) - 1 := by omega
    rw [e]
    refine ih (k + 1) _ _ Q (by omega) (by omega) h3 (by rw [List.length_append, List.length_singleton]; omega) fun o5 => ?_
    have := hq o5
    rw [List.range'_succ, List.map_cons] at this
    rw [List.append_assoc]
    exact this
theorem ends_ok {F : List Fn} {fi : Nat} (hf : F[fi]? = some ⟨3, 6, C_ends⟩) (n : Nat) (kind : Int) (many : Nat) (xs : List Int) (hm : 1 ≤ many) (hm8 : many ≤ 8) (hx : ∀ x ∈ xs, 0 ≤ x) (hl : xs.length = 20) :
    W (run F (n + 1) fi [.int kind, .int many, .lst (xs.map .int)]) fun r => ∃ around par, EndsOk around par many ∧ r = (.lst ((endsF around par many).map endD), true) := by
  refine run_W hf rfl ?_
  obtain ⟨x8, e8, m8⟩ := atI_int (l := xs) (i := 8) (by decide) (by omega)
  have fin : ∀ (around : Nat) (o5 : Option Slot) (Q : D × Bool → Prop), (around = 0 ∨ (3 ≤ around ∧ around ≤ many)) → (∀ par, EndsOk around par many → Q (.lst ((endsF around par many).map endD), true)) →
      W (evSs (run F n) [.for_ (.v 5) (.rng2 (.k (.int 1)) (.v 1)) E_body, .ret (.v 3)] [some ⟨.int kind, 0⟩, some ⟨.int many, 0⟩, some ⟨.lst (xs.map .int), 0⟩, some ⟨.lst ((if around = 0 then [] else [(around - 1, 0)]).map endD), 1⟩, some ⟨.int around, 0⟩, o5]) fun o => match o with | .rt d k => Q (d, k) | .nx _ => Q (.non, false) | _ => False := by
    intro around o5 Q hr hq
    simp only [id_eq, R.bind_ok, R.guard_true, ss_cons, ss_nil, Sq, Fl, W_bind, W_ok, W_guard, R.ite_true, R.ite_false, W_ite, evS, evE, evEs, evO, evTs, evIt, strD_i, keyD_i, keyD_s, keysD_n, keysD_c, dgetD_s, dgetD_i, dgetD_t, dinD_s, dinD_i, dinD_t, setPat_v, setPat_t, setPats_n, setPats_c, setSlot, start0, wipeE, ownL, stoD, dstD, rangeD, List.map_cons, List.map_nil, List.cons_append, List.nil_append, List.append_nil, List.length_cons, List.length_nil, List.replicate_succ, List.replicate_zero, List.getElem?_cons_zero, List.getElem?_cons_succ, List.set_cons_zero, List.set_cons_succ, List.all_cons, List.all_nil, Nat.add_sub_cancel, Nat.reduceAdd, Nat.reduceSub, Bool.and_true, Bool.true_and, Bool.and_self, Bool.not_true, Bool.not_false, true_and, and_true, decide_eq_true_eq, Nat.zero_add, decide_eq_false_iff_not, Int.reduceLT, Int.reduceEq, eqD_i, eqD_s, shp_i, shp_s, shp_b, shp_n, Int.reduceLE, Int.reduceMul, Int.reduceAdd, Int.reduceMod, Int.reduceNeg, Int.reduceSub, Int.reduceToNat, reduceCtorEq, false_implies, true_implies, decide_true, decide_false, forall_const, Bool.false_eq_true, Bool.not_eq_true', Bool.and_eq_true, Bool.or_eq_true, addD_i, addD_s, addD_l, addD_t, subD_i, mulD_i, mulD_s, fdivD_i, modD_i, powD_i, ltD_i, ltD_s, leD_i, leD_s, gtD_i, gtD_s, geD_i, geD_s, inD_l, inD_t, inD_s, isBl_b, cmpD_eq, cmpD_ne, cmpD_lt, cmpD_le, cmpD_gt, cmpD_ge, cmpD_in, cmpD_notin, cmpD_isN, cmpD_notN, cmpD_isB, cmpD_notB, isNon_n, isNon_i, isNon_b, isNon_s, isNon_l, isNon_t, items_l, items_t, itemsI_l, itemsI_t, itemsI_s, ixD_l, ixD_t, ixD_s, slD_l, slD_t, slD_s, lenD_l, lenD_t, lenD_s, lenD_d, absD_i, minD_i, maxD_i, minD_1, maxD_1, bestD_c, sortedD_1, listD_1, tupleD_1, allD_l, anyD_l, sumD_l, sumD_t, intD_i, intD_b, boolD_b, boolD_i, joinD_s, retK_sh, retK_nw, retK_bw, kdOf_0, kdOf_1, kdOf_2, inKd_sh, inKd_nw, inKd_bw, inKd_b2, toKd_t, toKd_f, notBw_sh, notBw_nw, notBw_bw, notBw_b2, exact_sh, exact_nw, exact_bw, ownOk_l, ownOk_K, ownOk_T, ownOk_2, tyD_ii, tyD_ib, tyD_is, tyD_in, tyD_il, tyD_it, tyD_bi, tyD_bb, tyD_bs, tyD_bn, tyD_bl, tyD_bt, tyD_si, tyD_sb, tyD_ss, tyD_sn, tyD_sl, tyD_st, tyD_ti, tyD_tb, tyD_ts, tyD_tn, tyD_tl, tyD_tt, tyD_li, tyD_lb, tyD_ls, tyD_ln, tyD_ll, tyD_lt, biD_1, biD_2, biD_3, biD_4, biD_5, biD_6, biD_7, biD_8, biD_9, biD_10, biD_11, biD_12, biD_13, biD_14, biD_15, op2D_1, op2D_2, op2D_3, op2D_4, op2D_5, op2D_6, oR_some, Option.map_some, true_or, false_or, lend_ret, notB2_sh, notB2_nw, notB2_bw, resOk_bl, resOk_int, resOk_non, resOk_str, resOk_l, resOk_t]
    refine ⟨by omega, ?_⟩
    have e : ((many : Int) - 1).toNat = many - 1 := by omega
    rw [e, List.range_eq_range']
    let par : Nat → Nat := fun k => if kind = 1 ∨ k < around then k - 1 else (xs.getD k 0 % k).toNat
    have lr : ((if around = 0 then [] else [(around - 1, 0)]).map endD).length ≤ 1 := by split <;> simp
    refine ends_loop (C := run F n) (par := par) hx (fun k => rfl) (many - 1) 1 _ _ _ (by omega) (by omega) (by omega) (by simp only [line]; omega) fun o5 => ?_
    simp only [id_eq, R.bind_ok, R.guard_true, ss_cons, ss_nil, Sq, Fl, W_bind, W_ok, W_guard, R.ite_true, R.ite_false, W_ite, evS, evE, evEs, evO, evTs, evIt, strD_i, keyD_i, keyD_s, keysD_n, keysD_c, dgetD_s, dgetD_i, dgetD_t, dinD_s, dinD_i, dinD_t, setPat_v, setPat_t, setPats_n, setPats_c, setSlot, start0, wipeE, ownL, stoD, dstD, rangeD, List.map_cons, List.map_nil, List.cons_append, List.nil_append, List.append_nil, List.length_cons, List.length_nil, List.replicate_succ, List.replicate_zero, List.getElem?_cons_zero, List.getElem?_cons_succ, List.set_cons_zero, List.set_cons_succ, List.all_cons, List.all_nil, Nat.add_sub_cancel, Nat.reduceAdd, Nat.reduceSub, Bool.and_true, Bool.true_and, Bool.and_self, Bool.not_true, Bool.not_false, true_and, and_true, decide_eq_true_eq, Nat.zero_add, decide_eq_false_iff_not, Int.reduceLT, Int.reduceEq, eqD_i, eqD_s, shp_i, shp_s, shp_b, shp_n, Int.reduceLE, Int.reduceMul, Int.reduceAdd, Int.reduceMod, Int.reduceNeg, Int.reduceSub, Int.reduceToNat, reduceCtorEq, false_implies, true_implies, decide_true, decide_false, forall_const, Bool.false_eq_true, Bool.not_eq_true', Bool.and_eq_true, Bool.or_eq_true, addD_i, addD_s, addD_l, addD_t, subD_i, mulD_i, mulD_s, fdivD_i, modD_i, powD_i, ltD_i, ltD_s, leD_i, leD_s, gtD_i, gtD_s, geD_i, geD_s, inD_l, inD_t, inD_s, isBl_b, cmpD_eq, cmpD_ne, cmpD_lt, cmpD_le, cmpD_gt, cmpD_ge, cmpD_in, cmpD_notin, cmpD_isN, cmpD_notN, cmpD_isB, cmpD_notB, isNon_n, isNon_i, isNon_b, isNon_s, isNon_l, isNon_t, items_l, items_t, itemsI_l, itemsI_t, itemsI_s, ixD_l, ixD_t, ixD_s, slD_l, slD_t, slD_s, lenD_l, lenD_t, lenD_s, lenD_d, absD_i, minD_i, maxD_i, minD_1, maxD_1, bestD_c, sortedD_1, listD_1, tupleD_1, allD_l, anyD_l, sumD_l, sumD_t, intD_i, intD_b, boolD_b, boolD_i, joinD_s, retK_sh, retK_nw, retK_bw, kdOf_0, kdOf_1, kdOf_2, inKd_sh, inKd_nw, inKd_bw, inKd_b2, toKd_t, toKd_f, notBw_sh, notBw_nw, notBw_bw, notBw_b2, exact_sh, exact_nw, exact_bw, ownOk_l, ownOk_K, ownOk_T, ownOk_2, tyD_ii, tyD_ib, tyD_is, tyD_in, tyD_il, tyD_it, tyD_bi, tyD_bb, tyD_bs, tyD_bn, tyD_bl, tyD_bt, tyD_si, tyD_sb, tyD_ss, tyD_sn, tyD_sl, tyD_st, tyD_ti, tyD_tb, tyD_ts, tyD_tn, tyD_tl, tyD_tt, tyD_li, tyD_lb, tyD_ls, tyD_ln, tyD_ll, tyD_lt, biD_1, biD_2, biD_3, biD_4, biD_5, biD_6, biD_7, biD_8, biD_9, biD_10, biD_11, biD_12, biD_13, biD_14, biD_15, op2D_1, op2D_2, op2D_3, op2D_4, op2D_5, op2D_6, oR_some, Option.map_some, true_or, false_or, lend_ret, notB2_sh, notB2_nw, notB2_bw, resOk_bl, resOk_int, resOk_non, resOk_str, resOk_l, resOk_t]
    have := hq par ⟨hr, fun k h1 h2 => ?_, fun k h1 h2 => ?_⟩
    · unfold endsF at this
      rw [List.map_append, List.map_map] at this
      exact this
    · show (if kind = 1 ∨ k < around then k - 1 else (xs.getD k 0 % k).toNat) < k
      split
      · omega
      · have := Int.emod_lt_of_pos (xs.getD k 0) (b := k) (by omega)
        have := Int.emod_nonneg (xs.getD k 0) (b := k) (by omega)
        omega
    · show (if kind = 1 ∨ k < around then k - 1 else (xs.getD k 0 % k).toNat) = k - 1
      rw [if_pos (.inr h2)]
  simp only [C_ends]
  simp only [id_eq, R.bind_ok, R.guard_true, ss_cons, ss_nil, Sq, Fl, W_bind, W_ok, W_guard, R.ite_true, R.ite_false, W_ite, evS, evE, evEs, evO, evTs, evIt, strD_i, keyD_i, keyD_s, keysD_n, keysD_c, dgetD_s, dgetD_i, dgetD_t, dinD_s, dinD_i, dinD_t, setPat_v, setPat_t, setPats_n, setPats_c, setSlot, start0, wipeE, ownL, stoD, dstD, rangeD, List.map_cons, List.map_nil, List.cons_append, List.nil_append, List.append_nil, List.length_cons, List.length_nil, List.replicate_succ, List.replicate_zero, List.getElem?_cons_zero, List.getElem?_cons_succ, List.set_cons_zero, List.set_cons_succ, List.all_cons, List.all_nil, Nat.add_sub_cancel, Nat.reduceAdd, Nat.reduceSub, Bool.and_true, Bool.true_and, Bool.and_self, Bool.not_true, Bool.not_false, true_and, and_true, decide_eq_true_eq, Nat.zero_add, decide_eq_false_iff_not, Int.reduceLT, Int.reduceEq, eqD_i, eqD_s, shp_i, shp_s, shp_b, shp_n, Int.reduceLE, Int.reduceMul, Int.reduceAdd, Int.reduceMod, Int.reduceNeg, Int.reduceSub, Int.reduceToNat, reduceCtorEq, false_implies, true_implies, decide_true, decide_false, forall_const, Bool.false_eq_true, Bool.not_eq_true', Bool.and_eq_true, Bool.or_eq_true, addD_i, addD_s, addD_l, addD_t, subD_i, mulD_i, mulD_s, fdivD_i, modD_i, powD_i, ltD_i, ltD_s, leD_i, leD_s, gtD_i, gtD_s, geD_i, geD_s, inD_l, inD_t, inD_s, isBl_b, cmpD_eq, cmpD_ne, cmpD_lt, cmpD_le, cmpD_gt, cmpD_ge, cmpD_in, cmpD_notin, cmpD_isN, cmpD_notN, cmpD_isB, cmpD_notB, isNon_n, isNon_i, isNon_b, isNon_s, isNon_l, isNon_t, items_l, items_t, itemsI_l, itemsI_t, itemsI_s, ixD_l, ixD_t, ixD_s, slD_l, slD_t, slD_s, lenD_l, lenD_t, lenD_s, lenD_d, absD_i, minD_i, maxD_i, minD_1, maxD_1, bestD_c, sortedD_1, listD_1, tupleD_1, allD_l, anyD_l, sumD_l, sumD_t, intD_i, intD_b, boolD_b, boolD_i, joinD_s, retK_sh, retK_nw, retK_bw, kdOf_0, kdOf_1, kdOf_2, inKd_sh, inKd_nw, inKd_bw, inKd_b2, toKd_t, toKd_f, notBw_sh, notBw_nw, notBw_bw, notBw_b2, exact_sh, exact_nw, exact_bw, ownOk_l, ownOk_K, ownOk_T, ownOk_2, tyD_ii, tyD_ib, tyD_is, tyD_in, tyD_il, tyD_it, tyD_bi, tyD_bb, tyD_bs, tyD_bn, tyD_bl, tyD_bt, tyD_si, tyD_sb, tyD_ss, tyD_sn, tyD_sl, tyD_st, tyD_ti, tyD_tb, tyD_ts, tyD_tn, tyD_tl, tyD_tt, tyD_li, tyD_lb, tyD_ls, tyD_ln, tyD_ll, tyD_lt, biD_1, biD_2, biD_3, biD_4, biD_5, biD_6, biD_7, biD_8, biD_9, biD_10, biD_11, biD_12, biD_13, biD_14, biD_15, op2D_1, op2D_2, op2D_3, op2D_4, op2D_5, op2D_6, oR_some, Option.map_some, true_or, false_or, lend_ret, notB2_sh, notB2_nw, notB2_bw, resOk_bl, resOk_int, resOk_non, resOk_str, resOk_l, resOk_t, e8]
  refine ⟨fun hk => ⟨fun hm2 => ⟨by omega, ?_⟩, fun hm2 => ?_⟩, fun hk => ?_⟩
  · have h0 : 0 ≤ x8 % ((many : Int) - 2) := Int.emod_nonneg _ (by omega)
    have h1 : x8 % ((many : Int) - 2) < (many : Int) - 2 := Int.emod_lt_of_pos _ (by omega)
    obtain ⟨a, ha⟩ := Int.eq_ofNat_of_zero_le (show 0 ≤ 3 + x8 % ((many : Int) - 2) by omega)
    rw [ha]
    have := fin a none (fun r => ∃ around par, EndsOk around par many ∧ r = (.lst ((endsF around par many).map endD), true)) (.inr ⟨by omega, by omega⟩) fun par hp => ⟨a, par, hp, rfl⟩
    rw [if_neg (by omega)] at this
    have e : ((a - 1 : Nat) : Int) = (a : Int) - 1 := by omega
    simp only [List.map_cons, List.map_nil, endD, e] at this
    refine ⟨by decide, ?_⟩
    simp only [id_eq, R.bind_ok, R.guard_true, ss_cons, ss_nil, Sq, Fl, W_bind, W_ok, W_guard, R.ite_true, R.ite_false, W_ite, evS, evE, evEs, evO, evTs, evIt, strD_i, keyD_i, keyD_s, keysD_n, keysD_c, dgetD_s, dgetD_i, dgetD_t, dinD_s, dinD_i, dinD_t, setPat_v, setPat_t, setPats_n, setPats_c, setSlot, start0, wipeE, ownL, stoD, dstD, rangeD, List.map_cons, List.map_nil, List.cons_append, List.nil_append, List.append_nil, List.length_cons, List.length_nil, List.replicate_succ, List.replicate_zero, List.getElem?_cons_zero, List.getElem?_cons_succ, List.set_cons_zero, List.set_cons_succ, List.all_cons, List.all_nil, Nat.add_sub_cancel, Nat.reduceAdd, Nat.reduceSub, Bool.and_true, Bool.true_and, Bool.and_self, Bool.not_true, Bool.not_false, true_and, and_true, decide_eq_true_eq, Nat.zero_add, decide_eq_false_iff_not, Int.reduceLT, Int.reduceEq, eqD_i, eqD_s, shp_i, shp_s, shp_b, shp_n, Int.reduceLE, Int.reduceMul, Int.reduceAdd, Int.reduceMod, Int.reduceNeg, Int.reduceSub, Int.reduceToNat, reduceCtorEq, false_implies, true_implies, decide_true, decide_false, forall_const, Bool.false_eq_true, Bool.not_eq_true', Bool.and_eq_true, Bool.or_eq_true, addD_i, addD_s, addD_l, addD_t, subD_i, mulD_i, mulD_s, fdivD_i, modD_i, powD_i, ltD_i, ltD_s, leD_i, leD_s, gtD_i, gtD_s, geD_i, geD_s, inD_l, inD_t, inD_s, isBl_b, cmpD_eq, cmpD_ne, cmpD_lt, cmpD_le, cmpD_gt, cmpD_ge, cmpD_in, cmpD_notin, cmpD_isN, cmpD_notN, cmpD_isB, cmpD_notB, isNon_n, isNon_i, isNon_b, isNon_s, isNon_l, isNon_t, items_l, items_t, itemsI_l, itemsI_t, itemsI_s, ixD_l, ixD_t, ixD_s, slD_l, slD_t, slD_s, lenD_l, lenD_t, lenD_s, lenD_d, absD_i, minD_i, maxD_i, minD_1, maxD_1, bestD_c, sortedD_1, listD_1, tupleD_1, allD_l, anyD_l, sumD_l, sumD_t, intD_i, intD_b, boolD_b, boolD_i, joinD_s, retK_sh, retK_nw, retK_bw, kdOf_0, kdOf_1, kdOf_2, inKd_sh, inKd_nw, inKd_bw, inKd_b2, toKd_t, toKd_f, notBw_sh, notBw_nw, notBw_bw, notBw_b2, exact_sh, exact_nw, exact_bw, ownOk_l, ownOk_K, ownOk_T, ownOk_2, tyD_ii, tyD_ib, tyD_is, tyD_in, tyD_il, tyD_it, tyD_bi, tyD_bb, tyD_bs, tyD_bn, tyD_bl, tyD_bt, tyD_si, tyD_sb, tyD_ss, tyD_sn, tyD_sl, tyD_st, tyD_ti, tyD_tb, tyD_ts, tyD_tn, tyD_tl, tyD_tt, tyD_li, tyD_lb, tyD_ls, tyD_ln, tyD_ll, tyD_lt, biD_1, biD_2, biD_3, biD_4, biD_5, biD_6, biD_7, biD_8, biD_9, biD_10, biD_11, biD_12, biD_13, biD_14, biD_15, op2D_1, op2D_2, op2D_3, op2D_4, op2D_5, op2D_6, oR_some, Option.map_some, true_or, false_or, lend_ret, notB2_sh, notB2_nw, notB2_bw, resOk_bl, resOk_int, resOk_non, resOk_str, resOk_l, resOk_t] at this
    exact this
  · have := fin 0 none (fun r => ∃ around par, EndsOk around par many ∧ r = (.lst ((endsF around par many).map endD), true)) (.inl rfl) fun par hp => ⟨0, par, hp, rfl⟩
    rw [if_pos rfl] at this
    simp only [id_eq, R.bind_ok, R.guard_true, ss_cons, ss_nil, Sq, Fl, W_bind, W_ok, W_guard, R.ite_true, R.ite_false, W_ite, evS, evE, evEs, evO, evTs, evIt, strD_i, keyD_i, keyD_s, keysD_n, keysD_c, dgetD_s, dgetD_i, dgetD_t, dinD_s, dinD_i, dinD_t, setPat_v, setPat_t, setPats_n, setPats_c, setSlot, start0, wipeE, ownL, stoD, dstD, rangeD, List.map_cons, List.map_nil, List.cons_append, List.nil_append, List.append_nil, List.length_cons, List.length_nil, List.replicate_succ, List.replicate_zero, List.getElem?_cons_zero, List.getElem?_cons_succ, List.set_cons_zero, List.set_cons_succ, List.all_cons, List.all_nil, Nat.add_sub_cancel, Nat.reduceAdd, Nat.reduceSub, Bool.and_true, Bool.true_and, Bool.and_self, Bool.not_true, Bool.not_false, true_and, and_true, decide_eq_true_eq, Nat.zero_add, decide_eq_false_iff_not, Int.reduceLT, Int.reduceEq, eqD_i, eqD_s, shp_i, shp_s, shp_b, shp_n, Int.reduceLE, Int.reduceMul, Int.reduceAdd, Int.reduceMod, Int.reduceNeg, Int.reduceSub, Int.reduceToNat, reduceCtorEq, false_implies, true_implies, decide_true, decide_false, forall_const, Bool.false_eq_true, Bool.not_eq_true', Bool.and_eq_true, Bool.or_eq_true, addD_i, addD_s, addD_l, addD_t, subD_i, mulD_i, mulD_s, fdivD_i, modD_i, powD_i, ltD_i, ltD_s, leD_i, leD_s, gtD_i, gtD_s, geD_i, geD_s, inD_l, inD_t, inD_s, isBl_b, cmpD_eq, cmpD_ne, cmpD_lt, cmpD_le, cmpD_gt, cmpD_ge, cmpD_in, cmpD_notin, cmpD_isN, cmpD_notN, cmpD_isB, cmpD_notB, isNon_n, isNon_i, isNon_b, isNon_s, isNon_l, isNon_t, items_l, items_t, itemsI_l, itemsI_t, itemsI_s, ixD_l, ixD_t, ixD_s, slD_l, slD_t, slD_s, lenD_l, lenD_t, lenD_s, lenD_d, absD_i, minD_i, maxD_i, minD_1, maxD_1, bestD_c, sortedD_1, listD_1, tupleD_1, allD_l, anyD_l, sumD_l, sumD_t, intD_i, intD_b, boolD_b, boolD_i, joinD_s, retK_sh, retK_nw, retK_bw, kdOf_0, kdOf_1, kdOf_2, inKd_sh, inKd_nw, inKd_bw, inKd_b2, toKd_t, toKd_f, notBw_sh, notBw_nw, notBw_bw, notBw_b2, exact_sh, exact_nw, exact_bw, ownOk_l, ownOk_K, ownOk_T, ownOk_2, tyD_ii, tyD_ib, tyD_is, tyD_in, tyD_il, tyD_it, tyD_bi, tyD_bb, tyD_bs, tyD_bn, tyD_bl, tyD_bt, tyD_si, tyD_sb, tyD_ss, tyD_sn, tyD_sl, tyD_st, tyD_ti, tyD_tb, tyD_ts, tyD_tn, tyD_tl, tyD_tt, tyD_li, tyD_lb, tyD_ls, tyD_ln, tyD_ll, tyD_lt, biD_1, biD_2, biD_3, biD_4, biD_5, biD_6, biD_7, biD_8, biD_9, biD_10, biD_11, biD_12, biD_13, biD_14, biD_15, op2D_1, op2D_2, op2D_3, op2D_4, op2D_5, op2D_6, oR_some, Option.map_some, true_or, false_or, lend_ret, notB2_sh, notB2_nw, notB2_bw, resOk_bl, resOk_int, resOk_non, resOk_str, resOk_l, resOk_t] at this
    exact this
  · have := fin 0 none (fun r => ∃ around par, EndsOk around par many ∧ r = (.lst ((endsF around par many).map endD), true)) (.inl rfl) fun par hp => ⟨0, par, hp, rfl⟩
    rw [if_pos rfl] at this
    simp only [id_eq, R.bind_ok, R.guard_true, ss_cons, ss_nil, Sq, Fl, W_bind, W_ok, W_guard, R.ite_true, R.ite_false, W_ite, evS, evE, evEs, evO, evTs, evIt, strD_i, keyD_i, keyD_s, keysD_n, keysD_c, dgetD_s, dgetD_i, dgetD_t, dinD_s, dinD_i, dinD_t, setPat_v, setPat_t, setPats_n, setPats_c, setSlot, start0, wipeE, ownL, stoD, dstD, rangeD, List.map_cons, List.map_nil, List.cons_append, List.nil_append, List.append_nil, List.length_cons, List.length_nil, List.replicate_succ, List.replicate_zero, List.getElem?_cons_zero, List.getElem?_cons_succ, List.set_cons_zero, List.set_cons_succ, List.all_cons, List.all_nil, Nat.add_sub_cancel, Nat.reduceAdd, Nat.reduceSub, Bool.and_true, Bool.true_and, Bool.and_self, Bool.not_true, Bool.not_false, true_and, and_true, decide_eq_true_eq, Nat.zero_add, decide_eq_false_iff_not, Int.reduceLT, Int.reduceEq, eqD_i, eqD_s, shp_i, shp_s, shp_b, shp_n, Int.reduceLE, Int.reduceMul, Int.reduceAdd, Int.reduceMod, Int.reduceNeg, Int.reduceSub, Int.reduceToNat, reduceCtorEq, false_implies, true_implies, decide_true, decide_false, forall_const, Bool.false_eq_true, Bool.not_eq_true', Bool.and_eq_true, Bool.or_eq_true, addD_i, addD_s, addD_l, addD_t, subD_i, mulD_i, mulD_s, fdivD_i, modD_i, powD_i, ltD_i, ltD_s, leD_i, leD_s, gtD_i, gtD_s, geD_i, geD_s, inD_l, inD_t, inD_s, isBl_b, cmpD_eq, cmpD_ne, cmpD_lt, cmpD_le, cmpD_gt, cmpD_ge, cmpD_in, cmpD_notin, cmpD_isN, cmpD_notN, cmpD_isB, cmpD_notB, isNon_n, isNon_i, isNon_b, isNon_s, isNon_l, isNon_t, items_l, items_t, itemsI_l, itemsI_t, itemsI_s, ixD_l, ixD_t, ixD_s, slD_l, slD_t, slD_s, lenD_l, lenD_t, lenD_s, lenD_d, absD_i, minD_i, maxD_i, minD_1, maxD_1, bestD_c, sortedD_1, listD_1, tupleD_1, allD_l, anyD_l, sumD_l, sumD_t, intD_i, intD_b, boolD_b, boolD_i, joinD_s, retK_sh, retK_nw, retK_bw, kdOf_0, kdOf_1, kdOf_2, inKd_sh, inKd_nw, inKd_bw, inKd_b2, toKd_t, toKd_f, notBw_sh, notBw_nw, notBw_bw, notBw_b2, exact_sh, exact_nw, exact_bw, ownOk_l, ownOk_K, ownOk_T, ownOk_2, tyD_ii, tyD_ib, tyD_is, tyD_in, tyD_il, tyD_it, tyD_bi, tyD_bb, tyD_bs, tyD_bn, tyD_bl, tyD_bt, tyD_si, tyD_sb, tyD_ss, tyD_sn, tyD_sl, tyD_st, tyD_ti, tyD_tb, tyD_ts, tyD_tn, tyD_tl, tyD_tt, tyD_li, tyD_lb, tyD_ls, tyD_ln, tyD_ll, tyD_lt, biD_1, biD_2, biD_3, biD_4, biD_5, biD_6, biD_7, biD_8, biD_9, biD_10, biD_11, biD_12, biD_13, biD_14, biD_15, op2D_1, op2D_2, op2D_3, op2D_4, op2D_5, op2D_6, oR_some, Option.map_some, true_or, false_or, lend_ret, notB2_sh, notB2_nw, notB2_bw, resOk_bl, resOk_int, resOk_non, resOk_str, resOk_l, resOk_t] at this
    exact this
end Fw

namespace Fw
open L2
/-! ### a map -/
theorem map_erase {α β : Type} (f : α → β) : ∀ (l : List α) (i : Nat), (l.map f).eraseIdx i = (l.eraseIdx i).map f
  | [], _ => rfl
  | _ :: _, 0 => rfl
  | x :: r, i + 1 => by
    show f x :: (r.map f).eraseIdx i = _
    rw [map_erase f r i]
    rfl
theorem erase_perm {α : Type} : ∀ (l : List α) (i : Nat) (h : i < l.length), (l[i] :: l.eraseIdx i).Perm l
  | x :: r, 0, h => List.Perm.refl _
  | x :: r, i + 1, h => by
    have hi : i < r.length := by simpa using h
    have ih := erase_perm r i hi
    show (r[i] :: x :: r.eraseIdx i).Perm (x :: r)
    exact (List.Perm.swap _ _ _).trans (ih.cons x)
def mnS (a b : PySem.Str) : PySem.Str := if leS a b = true then a else b
def mxS (a b : PySem.Str) : PySem.Str := if leS a b = true then b else a
theorem sort2 (a b : PySem.Str) : sortD [.str a, .str b] = .ok (.lst [.str (mnS a b), .str (mxS a b)], .nw) := by
  have := sort_strs [a, b]
  rw [show [a, b].map D.str = [.str a, .str b] from rfl] at this
  rw [this]
  have e : [a, b].mergeSort leS = [mnS a b, mxS a b] := by
    unfold mnS mxS
    by_cases h : leS a b = true
    · simp [List.mergeSort, List.MergeSort.Internal.splitInTwo, List.merge, h]
    · simp [List.mergeSort, List.MergeSort.Internal.splitInTwo, List.merge, h]
  rw [e]
  rfl
abbrev Tie := PySem.Str × PySem.Str × Int
def tieD (t : Tie) : D := .tup [.str t.1, .str t.2.1, .int t.2.2]
def leT (t u : Tie) : Bool := PySem.W.dataLe false toPy (tieD t) (tieD u)
theorem alike_tie (t u : Tie) : PySem.W.alike (toPy (tieD t)) (toPy (tieD u)) = true := by simp [tieD, toPy, toPys, PySem.W.alike, PySem.W.alikeAll]
theorem sort_ties (l : List Tie) : sortD (l.map tieD) = .ok (.lst ((l.mergeSort leT).map tieD), .nw) := by
  unfold sortD
  have g : (allAlike (l.map tieD) && sortableD (l.map tieD) && (l.map tieD).all shp) = true := by
    rw [Bool.and_eq_true, Bool.and_eq_true]
    refine ⟨⟨?_, ?_⟩, ?_⟩
    · unfold allAlike
      rw [List.all_eq_true]
      intro x hx
      rw [List.all_eq_true]
      intro y hy
      obtain ⟨a, _, rfl⟩ := List.mem_map.mp hx
      obtain ⟨b, _, rfl⟩ := List.mem_map.mp hy
      exact alike_tie a b
    · unfold sortableD
      rw [Bool.or_eq_true]
      refine .inl ?_
      rw [List.all_eq_true]
      intro x hx
      obtain ⟨a, _, rfl⟩ := List.mem_map.mp hx
      rfl
    · rw [List.all_eq_true]
      intro x hx
      obtain ⟨a, _, rfl⟩ := List.mem_map.mp hx
      rfl
  rw [g, R.guard_true]
  congr 3
  symm
  exact List.map_mergeSort fun a _ b _ => rfl
def nmAt (order : List PySem.Str) (i : Nat) : PySem.Str := order.getD i ⟨#[]⟩
def tieOf (order : List PySem.Str) (e : Nat × Nat) (l : Int) : Tie := (mnS (nmAt order e.1) (nmAt order e.2), mxS (nmAt order e.1) (nmAt order e.2), l)
/-- what the laws' maps are: names that rise; ties drawn in an order of them -/
structure MapOk (names : List PySem.Str) (ties : List Tie) : Prop where
  pos : 1 ≤ names.length
  le : names.length ≤ 8
  nms : Names names
  made : ∃ (order : List PySem.Str) (around : Nat) (par : Nat → Nat) (lens : Nat → Int), order.Perm names ∧ EndsOk around par names.length ∧ (∀ k, 1 ≤ lens k ∧ lens k ≤ 50) ∧
    ties = (((endsF around par names.length).zipIdx.map fun p => tieOf order p.1 (lens p.2)).mergeSort leT)
def mapD (names : List PySem.Str) (ties : List Tie) : D := .tup [.tup (names.map .str), .tup (ties.map tieD)]
def P_body : List S := [.appPop 7 8 (.op .mod (.op .fdiv (.ix (.v 3) (.k (.int 8))) (.op .add (.v 9) (.k (.int 1)))) (.bi .len [.v 8]))]
theorem seqIndex_nat {k : Int} {n : Nat} (h0 : 0 ≤ k) (h1 : k < n) (hn : n ≤ 1000) : (if -9223372036854775808 ≤ k ∧ k < 9223372036854775808 then PySem.seqIndex? k n else none) = some k.toNat := by
  rw [if_pos (by omega)]
  exact PySem.seqIndex_of h0 h1
theorem pop_step {C : CallT} {s0 s1 s2 s4 s5 s6 : Option Slot} {head : List D} {x8 : Int} (e8 : atI head 8 = some (.int x8)) (h8 : 0 ≤ x8) {ord left : List PySem.Str} {k : Nat} {o10 o11 o12 o13 : Option Slot} (hk : k < 8) (hl : 0 < left.length) (hl8 : left.length ≤ 8) (ho : ord.length ≤ 8) :
    W (evSs C P_body [s0, s1, s2, some ⟨.lst head, 0⟩, s4, s5, s6, some ⟨.lst (ord.map .str), 1⟩, some ⟨.lst (left.map .str), 1⟩, some ⟨.int (0 + k), 0⟩, o10, o11, o12, o13]) fun o => ∃ ord' left' : List PySem.Str, o = .nx [s0, s1, s2, some ⟨.lst head, 0⟩, s4, s5, s6, some ⟨.lst (ord'.map .str), 1⟩, some ⟨.lst (left'.map .str), 1⟩, some ⟨.int (0 + k), 0⟩, o10, o11, o12, o13] ∧
      (ord' ++ left').Perm (ord ++ left) ∧ ord'.length = ord.length + 1 ∧ left'.length + 1 = left.length := by
  simp only [P_body]
  have hlen : ((left.map D.str).length : Int) = left.length := by rw [List.length_map]
  simp only [id_eq, R.bind_ok, R.guard_true, ss_cons, ss_nil, Sq, Fl, W_bind, W_ok, W_guard, R.ite_true, R.ite_false, W_ite, evS, evE, evEs, evO, evTs, evIt, strD_i, keyD_i, keyD_s, keysD_n, keysD_c, dgetD_s, dgetD_i, dgetD_t, dinD_s, dinD_i, dinD_t, setPat_v, setPat_t, setPats_n, setPats_c, setSlot, start0, wipeE, ownL, stoD, dstD, rangeD, List.map_cons, List.map_nil, List.cons_append, List.nil_append, List.append_nil, List.length_cons, List.length_nil, List.replicate_succ, List.replicate_zero, List.getElem?_cons_zero, List.getElem?_cons_succ, List.set_cons_zero, List.set_cons_succ, List.all_cons, List.all_nil, Nat.add_sub_cancel, Nat.reduceAdd, Nat.reduceSub, Bool.and_true, Bool.true_and, Bool.and_self, Bool.not_true, Bool.not_false, true_and, and_true, decide_eq_true_eq, Nat.zero_add, decide_eq_false_iff_not, Int.reduceLT, Int.reduceEq, eqD_i, eqD_s, shp_i, shp_s, shp_b, shp_n, Int.reduceLE, Int.reduceMul, Int.reduceAdd, Int.reduceMod, Int.reduceNeg, Int.reduceSub, Int.reduceToNat, reduceCtorEq, false_implies, true_implies, decide_true, decide_false, forall_const, Bool.false_eq_true, Bool.not_eq_true', Bool.and_eq_true, Bool.or_eq_true, addD_i, addD_s, addD_l, addD_t, subD_i, mulD_i, mulD_s, fdivD_i, modD_i, powD_i, ltD_i, ltD_s, leD_i, leD_s, gtD_i, gtD_s, geD_i, geD_s, inD_l, inD_t, inD_s, isBl_b, cmpD_eq, cmpD_ne, cmpD_lt, cmpD_le, cmpD_gt, cmpD_ge, cmpD_in, cmpD_notin, cmpD_isN, cmpD_notN, cmpD_isB, cmpD_notB, isNon_n, isNon_i, isNon_b, isNon_s, isNon_l, isNon_t, items_l, items_t, itemsI_l, itemsI_t, itemsI_s, ixD_l, ixD_t, ixD_s, slD_l, slD_t, slD_s, lenD_l, lenD_t, lenD_s, lenD_d, absD_i, minD_i, maxD_i, minD_1, maxD_1, bestD_c, sortedD_1, listD_1, tupleD_1, allD_l, anyD_l, sumD_l, sumD_t, intD_i, intD_b, boolD_b, boolD_i, joinD_s, retK_sh, retK_nw, retK_bw, kdOf_0, kdOf_1, kdOf_2, inKd_sh, inKd_nw, inKd_bw, inKd_b2, toKd_t, toKd_f, notBw_sh, notBw_nw, notBw_bw, notBw_b2, exact_sh, exact_nw, exact_bw, ownOk_l, ownOk_K, ownOk_T, ownOk_2, tyD_ii, tyD_ib, tyD_is, tyD_in, tyD_il, tyD_it, tyD_bi, tyD_bb, tyD_bs, tyD_bn, tyD_bl, tyD_bt, tyD_si, tyD_sb, tyD_ss, tyD_sn, tyD_sl, tyD_st, tyD_ti, tyD_tb, tyD_ts, tyD_tn, tyD_tl, tyD_tt, tyD_li, tyD_lb, tyD_ls, tyD_ln, tyD_ll, tyD_lt, biD_1, biD_2, biD_3, biD_4, biD_5, biD_6, biD_7, biD_8, biD_9, biD_10, biD_11, biD_12, biD_13, biD_14, biD_15, op2D_1, op2D_2, op2D_3, op2D_4, op2D_5, op2D_6, oR_some, Option.map_some, true_or, false_or, lend_ret, notB2_sh, notB2_nw, notB2_bw, resOk_bl, resOk_int, resOk_non, resOk_str, resOk_l, resOk_t, e8, hlen]
  have q0 : 0 ≤ x8 / (0 + (k : Int) + 1) % (left.length : Int) := Int.emod_nonneg _ (by omega)
  have q1 : x8 / (0 + (k : Int) + 1) % (left.length : Int) < left.length := Int.emod_lt_of_pos _ (by omega)
  refine ⟨⟨by omega, by omega⟩, by omega, ?_⟩
  rw [seqIndex_nat q0 (by rw [List.length_map]; exact q1) (by rw [List.length_map]; omega)]
  generalize hj : (x8 / (0 + (k : Int) + 1) % (left.length : Int)).toNat = j
  have hjl : j < left.length := by omega
  have ej : (left.map D.str)[j]? = some (.str left[j]) := by rw [List.getElem?_map, List.getElem?_eq_getElem hjl]; rfl
  simp only [ej]
  rw [W_guard]
  refine ⟨?_, ?_⟩
  · rw [Bool.and_eq_true, decide_eq_true_eq, List.length_map]
    exact ⟨rfl, by simp only [line]; omega⟩
  · simp only [id_eq, R.bind_ok, R.guard_true, ss_cons, ss_nil, Sq, Fl, W_bind, W_ok, W_guard, R.ite_true, R.ite_false, W_ite, evS, evE, evEs, evO, evTs, evIt, strD_i, keyD_i, keyD_s, keysD_n, keysD_c, dgetD_s, dgetD_i, dgetD_t, dinD_s, dinD_i, dinD_t, setPat_v, setPat_t, setPats_n, setPats_c, setSlot, start0, wipeE, ownL, stoD, dstD, rangeD, List.map_cons, List.map_nil, List.cons_append, List.nil_append, List.append_nil, List.length_cons, List.length_nil, List.replicate_succ, List.replicate_zero, List.getElem?_cons_zero, List.getElem?_cons_succ, List.set_cons_zero, List.set_cons_succ, List.all_cons, List.all_nil, Nat.add_sub_cancel, Nat.reduceAdd, Nat.reduceSub, Bool.and_true, Bool.true_and, Bool.and_self, Bool.not_true, Bool.not_false, true_and, and_true, decide_eq_true_eq, Nat.zero_add, decide_eq_false_iff_not, Int.reduceLT, Int.reduceEq, eqD_i, eqD_s, shp_i, shp_s, shp_b, shp_n, Int.reduceLE, Int.reduceMul, Int.reduceAdd, Int.reduceMod, Int.reduceNeg, Int.reduceSub, Int.reduceToNat, reduceCtorEq, false_implies, true_implies, decide_true, decide_false, forall_const, Bool.false_eq_true, Bool.not_eq_true', Bool.and_eq_true, Bool.or_eq_true, addD_i, addD_s, addD_l, addD_t, subD_i, mulD_i, mulD_s, fdivD_i, modD_i, powD_i, ltD_i, ltD_s, leD_i, leD_s, gtD_i, gtD_s, geD_i, geD_s, inD_l, inD_t, inD_s, isBl_b, cmpD_eq, cmpD_ne, cmpD_lt, cmpD_le, cmpD_gt, cmpD_ge, cmpD_in, cmpD_notin, cmpD_isN, cmpD_notN, cmpD_isB, cmpD_notB, isNon_n, isNon_i, isNon_b, isNon_s, isNon_l, isNon_t, items_l, items_t, itemsI_l, itemsI_t, itemsI_s, ixD_l, ixD_t, ixD_s, slD_l, slD_t, slD_s, lenD_l, lenD_t, lenD_s, lenD_d, absD_i, minD_i, maxD_i, minD_1, maxD_1, bestD_c, sortedD_1, listD_1, tupleD_1, allD_l, anyD_l, sumD_l, sumD_t, intD_i, intD_b, boolD_b, boolD_i, joinD_s, retK_sh, retK_nw, retK_bw, kdOf_0, kdOf_1, kdOf_2, inKd_sh, inKd_nw, inKd_bw, inKd_b2, toKd_t, toKd_f, notBw_sh, notBw_nw, notBw_bw, notBw_b2, exact_sh, exact_nw, exact_bw, ownOk_l, ownOk_K, ownOk_T, ownOk_2, tyD_ii, tyD_ib, tyD_is, tyD_in, tyD_il, tyD_it, tyD_bi, tyD_bb, tyD_bs, tyD_bn, tyD_bl, tyD_bt, tyD_si, tyD_sb, tyD_ss, tyD_sn, tyD_sl, tyD_st, tyD_ti, tyD_tb, tyD_ts, tyD_tn, tyD_tl, tyD_tt, tyD_li, tyD_lb, tyD_ls, tyD_ln, tyD_ll, tyD_lt, biD_1, biD_2, biD_3, biD_4, biD_5, biD_6, biD_7, biD_8, biD_9, biD_10, biD_11, biD_12, biD_13, biD_14, biD_15, op2D_1, op2D_2, op2D_3, op2D_4, op2D_5, op2D_6, oR_some, Option.map_some, true_or, false_or, lend_ret, notB2_sh, notB2_nw, notB2_bw, resOk_bl, resOk_int, resOk_non, resOk_str, resOk_l, resOk_t]
    refine ⟨ord ++ [left[j]], left.eraseIdx j, ?_, ?_, by rw [List.length_append, List.length_singleton], ?_⟩
    · rw [List.map_append, map_erase]
      rfl
    · rw [List.append_assoc]
      exact (erase_perm left j hjl).append_left ord
    · rw [List.length_eraseIdx, if_pos hjl]
      omega
theorem pop_loop {C : CallT} {s0 s1 s2 s4 s5 s6 : Option Slot} {head : List D} {x8 : Int} (e8 : atI head 8 = some (.int x8)) (h8 : 0 ≤ x8) {names : List PySem.Str} (hn : names.length ≤ 8) {o10 o11 o12 o13 : Option Slot} : ∀ (m k : Nat) (ord left : List PySem.Str) (o9 : Option Slot) (Q : Flow → Prop), k + m ≤ 8 → (ord ++ left).Perm names → left.length = m →
    (∀ (ord : List PySem.Str) (o9 : Option Slot), ord.Perm names → Q (.nx [s0, s1, s2, some ⟨.lst head, 0⟩, s4, s5, s6, some ⟨.lst (ord.map .str), 1⟩, some ⟨.lst (([] : List PySem.Str).map .str), 1⟩, o9, o10, o11, o12, o13])) →
    W (forGo (.v 9) (fun ρ => evSs C P_body ρ) ((List.range' k m).map fun k : Nat => D.int (0 + k)) [s0, s1, s2, some ⟨.lst head, 0⟩, s4, s5, s6, some ⟨.lst (ord.map .str), 1⟩, some ⟨.lst (left.map .str), 1⟩, o9, o10, o11, o12, o13]) Q := by
  intro m
  induction m with
  | zero =>
    intro k ord left o9 Q hk hp hl hq
    rw [List.range'_zero, List.map_nil, forGo, W_ok]
    have e : left = [] := List.eq_nil_of_length_eq_zero hl
    subst e
    rw [List.append_nil] at hp
    exact hq ord o9 hp
  | succ m ih =>
    intro k ord left o9 Q hk hp hl hq
    have hlen := hp.length_eq
    rw [List.length_append] at hlen
    rw [List.range'_succ, List.map_cons, forGo, W_bind]
    rw [show setPat (.v 9) (.int (0 + (k : Int))) _ = .ok _ from rfl, W_ok, W_bind]
    refine (pop_step e8 h8 (by omega) (by omega) (by omega) (by omega)).mono fun o ho => ?_
    obtain ⟨ord', left', rfl, h1, h2, h3⟩ := ho
    exact ih (k + 1) ord' left' _ Q (by omega) (h1.trans hp) (by omega) hq
def T_body : List S := [.asg (.v 13) (.op .add (.k (.int 1)) (.op .mod (.ix (.v 4) (.op .add (.k (.int 9)) (.v 9))) (.ix (.lst [.k (.int 3), .k (.int 9), .k (.int 50)]) (.op .mod (.ix (.v 3) (.k (.int 6))) (.k (.int 3)))))) 0, .app 10 (.op .add (.bi .tuple [.bi .sorted [.lst [.ix (.v 7) (.v 11), .ix (.v 7) (.v 12)]]]) (.tup [.v 13]))]
theorem nmAt_at {order : List PySem.Str} {i : Nat} (h : i < order.length) : atI (order.map D.str) (i : Int) = some (.str (nmAt order i)) := by
  refine atI_nat ?_
  unfold nmAt
  rw [List.getElem?_map, List.getD_eq_getElem?_getD, List.getElem?_eq_getElem h]
  rfl
theorem tie_step {C : CallT} {s0 s1 s2 s5 s6 s8 : Option Slot} {head : List D} {xs : List Int} {x6 : Int} (e6 : atI head 6 = some (.int x6)) (h6 : 0 ≤ x6) {order : List PySem.Str} {l : List D} {k : Nat} {e : Nat × Nat} {o13 : Option Slot} (hk : 9 + k < xs.length) (hl : l.length < line) (h1 : e.1 < order.length) (h2 : e.2 < order.length) (hx : ∀ x ∈ xs, 0 ≤ x) :
    W (evSs C T_body [s0, s1, s2, some ⟨.lst head, 0⟩, some ⟨.lst (xs.map .int), 0⟩, s5, s6, some ⟨.lst (order.map .str), 1⟩, s8, some ⟨.int k, 0⟩, some ⟨.lst l, 1⟩, some ⟨.int e.1, 0⟩, some ⟨.int e.2, 0⟩, o13]) fun o => ∃ o13, o = .nx [s0, s1, s2, some ⟨.lst head, 0⟩, some ⟨.lst (xs.map .int), 0⟩, s5, s6, some ⟨.lst (order.map .str), 1⟩, s8, some ⟨.int k, 0⟩, some ⟨.lst (l ++ [tieD (tieOf order e (1 + xs.getD (9 + k) 0 % (if x6 % 3 = 0 then 3 else if x6 % 3 = 1 then 9 else 50)))]), 1⟩, some ⟨.int e.1, 0⟩, some ⟨.int e.2, 0⟩, o13] := by
  have ek : atI (xs.map D.int) (9 + (k : Int)) = some (.int (xs.getD (9 + k) 0)) := by
    have e : 9 + (k : Int) = ((9 + k : Nat) : Int) := by omega
    rw [e]
    refine atI_nat ?_
    rw [List.getElem?_map, List.getElem?_eq_getElem hk, List.getD_eq_getElem?_getD, List.getElem?_eq_getElem hk]
    rfl
  have r0 : 0 ≤ x6 % 3 := Int.emod_nonneg _ (by decide)
  have r1 : x6 % 3 < 3 := Int.emod_lt_of_pos _ (by decide)
  simp only [T_body]
  have hr : x6 % 3 = 0 ∨ x6 % 3 = 1 ∨ x6 % 3 = 2 := by omega
  have c0 : atI [D.int 3, D.int 9, D.int 50] 0 = some (.int 3) := rfl
  have c1 : atI [D.int 3, D.int 9, D.int 50] 1 = some (.int 9) := rfl
  have c2 : atI [D.int 3, D.int 9, D.int 50] 2 = some (.int 50) := rfl
  rcases hr with hr | hr | hr
  · simp only [id_eq, R.bind_ok, R.guard_true, ss_cons, ss_nil, Sq, Fl, W_bind, W_ok, W_guard, R.ite_true, R.ite_false, W_ite, evS, evE, evEs, evO, evTs, evIt, strD_i, keyD_i, keyD_s, keysD_n, keysD_c, dgetD_s, dgetD_i, dgetD_t, dinD_s, dinD_i, dinD_t, setPat_v, setPat_t, setPats_n, setPats_c, setSlot, start0, wipeE, ownL, stoD, dstD, rangeD, List.map_cons, List.map_nil, List.cons_append, List.nil_append, List.append_nil, List.length_cons, List.length_nil, List.replicate_succ, List.replicate_zero, List.getElem?_cons_zero, List.getElem?_cons_succ, List.set_cons_zero, List.set_cons_succ, List.all_cons, List.all_nil, Nat.add_sub_cancel, Nat.reduceAdd, Nat.reduceSub, Bool.and_true, Bool.true_and, Bool.and_self, Bool.not_true, Bool.not_false, true_and, and_true, decide_eq_true_eq, Nat.zero_add, decide_eq_false_iff_not, Int.reduceLT, Int.reduceEq, eqD_i, eqD_s, shp_i, shp_s, shp_b, shp_n, Int.reduceLE, Int.reduceMul, Int.reduceAdd, Int.reduceMod, Int.reduceNeg, Int.reduceSub, Int.reduceToNat, reduceCtorEq, false_implies, true_implies, decide_true, decide_false, forall_const, Bool.false_eq_true, Bool.not_eq_true', Bool.and_eq_true, Bool.or_eq_true, addD_i, addD_s, addD_l, addD_t, subD_i, mulD_i, mulD_s, fdivD_i, modD_i, powD_i, ltD_i, ltD_s, leD_i, leD_s, gtD_i, gtD_s, geD_i, geD_s, inD_l, inD_t, inD_s, isBl_b, cmpD_eq, cmpD_ne, cmpD_lt, cmpD_le, cmpD_gt, cmpD_ge, cmpD_in, cmpD_notin, cmpD_isN, cmpD_notN, cmpD_isB, cmpD_notB, isNon_n, isNon_i, isNon_b, isNon_s, isNon_l, isNon_t, items_l, items_t, itemsI_l, itemsI_t, itemsI_s, ixD_l, ixD_t, ixD_s, slD_l, slD_t, slD_s, lenD_l, lenD_t, lenD_s, lenD_d, absD_i, minD_i, maxD_i, minD_1, maxD_1, bestD_c, sortedD_1, listD_1, tupleD_1, allD_l, anyD_l, sumD_l, sumD_t, intD_i, intD_b, boolD_b, boolD_i, joinD_s, retK_sh, retK_nw, retK_bw, kdOf_0, kdOf_1, kdOf_2, inKd_sh, inKd_nw, inKd_bw, inKd_b2, toKd_t, toKd_f, notBw_sh, notBw_nw, notBw_bw, notBw_b2, exact_sh, exact_nw, exact_bw, ownOk_l, ownOk_K, ownOk_T, ownOk_2, tyD_ii, tyD_ib, tyD_is, tyD_in, tyD_il, tyD_it, tyD_bi, tyD_bb, tyD_bs, tyD_bn, tyD_bl, tyD_bt, tyD_si, tyD_sb, tyD_ss, tyD_sn, tyD_sl, tyD_st, tyD_ti, tyD_tb, tyD_ts, tyD_tn, tyD_tl, tyD_tt, tyD_li, tyD_lb, tyD_ls, tyD_ln, tyD_ll, tyD_lt, biD_1, biD_2, biD_3, biD_4, biD_5, biD_6, biD_7, biD_8, biD_9, biD_10, biD_11, biD_12, biD_13, biD_14, biD_15, op2D_1, op2D_2, op2D_3, op2D_4, op2D_5, op2D_6, oR_some, Option.map_some, true_or, false_or, lend_ret, notB2_sh, notB2_nw, notB2_bw, resOk_bl, resOk_int, resOk_non, resOk_str, resOk_l, resOk_t, ek, e6, hr, c0, nmAt_at h1, nmAt_at h2, sort2, reduceIte]
    exact ⟨by decide, hl, _, rfl⟩
  · simp only [id_eq, R.bind_ok, R.guard_true, ss_cons, ss_nil, Sq, Fl, W_bind, W_ok, W_guard, R.ite_true, R.ite_false, W_ite, evS, evE, evEs, evO, evTs, evIt, strD_i, keyD_i, keyD_s, keysD_n, keysD_c, dgetD_s, dgetD_i, dgetD_t, dinD_s, dinD_i, dinD_t, setPat_v, setPat_t, setPats_n, setPats_c, setSlot, start0, wipeE, ownL, stoD, dstD, rangeD, List.map_cons, List.map_nil, List.cons_append, List.nil_append, List.append_nil, List.length_cons, List.length_nil, List.replicate_succ, List.replicate_zero, List.getElem?_cons_zero, List.getElem?_cons_succ, List.set_cons_zero, List.set_cons_succ, List.all_cons, List.all_nil, Nat.add_sub_cancel, Nat.reduceAdd, Nat.reduceSub, Bool.and_true, Bool.true_and, Bool.and_self, Bool.not_true, Bool.not_false, true_and, and_true, decide_eq_true_eq, Nat.zero_add, decide_eq_false_iff_not, Int.reduceLT, Int.reduceEq, eqD_i, eqD_s, shp_i, shp_s, shp_b, shp_n, Int.reduceLE, Int.reduceMul, Int.reduceAdd, Int.reduceMod, Int.reduceNeg, Int.reduceSub, Int.reduceToNat, reduceCtorEq, false_implies, true_implies, decide_true, decide_false, forall_const, Bool.false_eq_true, Bool.not_eq_true', Bool.and_eq_true, Bool.or_eq_true, addD_i, addD_s, addD_l, addD_t, subD_i, mulD_i, mulD_s, fdivD_i, modD_i, powD_i, ltD_i, ltD_s, leD_i, leD_s, gtD_i, gtD_s, geD_i, geD_s, inD_l, inD_t, inD_s, isBl_b, cmpD_eq, cmpD_ne, cmpD_lt, cmpD_le, cmpD_gt, cmpD_ge, cmpD_in, cmpD_notin, cmpD_isN, cmpD_notN, cmpD_isB, cmpD_notB, isNon_n, isNon_i, isNon_b, isNon_s, isNon_l, isNon_t, items_l, items_t, itemsI_l, itemsI_t, itemsI_s, ixD_l, ixD_t, ixD_s, slD_l, slD_t, slD_s, lenD_l, lenD_t, lenD_s, lenD_d, absD_i, minD_i, maxD_i, minD_1, maxD_1, bestD_c, sortedD_1, listD_1, tupleD_1, allD_l, anyD_l, sumD_l, sumD_t, intD_i, intD_b, boolD_b, boolD_i, joinD_s, retK_sh, retK_nw, retK_bw, kdOf_0, kdOf_1, kdOf_2, inKd_sh, inKd_nw, inKd_bw, inKd_b2, toKd_t, toKd_f, notBw_sh, notBw_nw, notBw_bw, notBw_b2, exact_sh, exact_nw, exact_bw, ownOk_l, ownOk_K, ownOk_T, ownOk_2, tyD_ii, tyD_ib, tyD_is, tyD_in, tyD_il, tyD_it, tyD_bi, tyD_bb, tyD_bs, tyD_bn, tyD_bl, tyD_bt, tyD_si, tyD_sb, tyD_ss, tyD_sn, tyD_sl, tyD_st, tyD_ti, tyD_tb, tyD_ts, tyD_tn, tyD_tl, tyD_tt, tyD_li, tyD_lb, tyD_ls, tyD_ln, tyD_ll, tyD_lt, biD_1, biD_2, biD_3, biD_4, biD_5, biD_6, biD_7, biD_8, biD_9, biD_10, biD_11, biD_12, biD_13, biD_14, biD_15, op2D_1, op2D_2, op2D_3, op2D_4, op2D_5, op2D_6, oR_some, Option.map_some, true_or, false_or, lend_ret, notB2_sh, notB2_nw, notB2_bw, resOk_bl, resOk_int, resOk_non, resOk_str, resOk_l, resOk_t, ek, e6, hr, c1, nmAt_at h1, nmAt_at h2, sort2, reduceIte, Int.reduceEq]
    exact ⟨by decide, hl, _, rfl⟩
  · simp only [id_eq, R.bind_ok, R.guard_true, ss_cons, ss_nil, Sq, Fl, W_bind, W_ok, W_guard, R.ite_true, R.ite_false, W_ite, evS, evE, evEs, evO, evTs, evIt, strD_i, keyD_i, keyD_s, keysD_n, keysD_c, dgetD_s, dgetD_i, dgetD_t, dinD_s, dinD_i, dinD_t, setPat_v, setPat_t, setPats_n, setPats_c, setSlot, start0, wipeE, ownL, stoD, dstD, rangeD, List.map_cons, List.map_nil, List.cons_append, List.nil_append, List.append_nil, List.length_cons, List.length_nil, List.replicate_succ, List.replicate_zero, List.getElem?_cons_zero, List.getElem?_cons_succ, List.set_cons_zero, List.set_cons_succ, List.all_cons, List.all_nil, Nat.add_sub_cancel, Nat.reduceAdd, Nat.reduceSub, Bool.and_true, Bool.true_and, Bool.and_self, Bool.not_true, Bool.not_false, true_and, and_true, decide_eq_true_eq, Nat.zero_add, decide_eq_false_iff_not, Int.reduceLT, Int.reduceEq, eqD_i, eqD_s, shp_i, shp_s, shp_b, shp_n, Int.reduceLE, Int.reduceMul, Int.reduceAdd, Int.reduceMod, Int.reduceNeg, Int.reduceSub, Int.reduceToNat, reduceCtorEq, false_implies, true_implies, decide_true, decide_false, forall_const, Bool.false_eq_true, Bool.not_eq_true', Bool.and_eq_true, Bool.or_eq_true, addD_i, addD_s, addD_l, addD_t, subD_i, mulD_i, mulD_s, fdivD_i, modD_i, powD_i, ltD_i, ltD_s, leD_i, leD_s, gtD_i, gtD_s, geD_i, geD_s, inD_l, inD_t, inD_s, isBl_b, cmpD_eq, cmpD_ne, cmpD_lt, cmpD_le, cmpD_gt, cmpD_ge, cmpD_in, cmpD_notin, cmpD_isN, cmpD_notN, cmpD_isB, cmpD_notB, isNon_n, isNon_i, isNon_b, isNon_s, isNon_l, isNon_t, items_l, items_t, itemsI_l, itemsI_t, itemsI_s, ixD_l, ixD_t, ixD_s, slD_l, slD_t, slD_s, lenD_l, lenD_t, lenD_s, lenD_d, absD_i, minD_i, maxD_i, minD_1, maxD_1, bestD_c, sortedD_1, listD_1, tupleD_1, allD_l, anyD_l, sumD_l, sumD_t, intD_i, intD_b, boolD_b, boolD_i, joinD_s, retK_sh, retK_nw, retK_bw, kdOf_0, kdOf_1, kdOf_2, inKd_sh, inKd_nw, inKd_bw, inKd_b2, toKd_t, toKd_f, notBw_sh, notBw_nw, notBw_bw, notBw_b2, exact_sh, exact_nw, exact_bw, ownOk_l, ownOk_K, ownOk_T, ownOk_2, tyD_ii, tyD_ib, tyD_is, tyD_in, tyD_il, tyD_it, tyD_bi, tyD_bb, tyD_bs, tyD_bn, tyD_bl, tyD_bt, tyD_si, tyD_sb, tyD_ss, tyD_sn, tyD_sl, tyD_st, tyD_ti, tyD_tb, tyD_ts, tyD_tn, tyD_tl, tyD_tt, tyD_li, tyD_lb, tyD_ls, tyD_ln, tyD_ll, tyD_lt, biD_1, biD_2, biD_3, biD_4, biD_5, biD_6, biD_7, biD_8, biD_9, biD_10, biD_11, biD_12, biD_13, biD_14, biD_15, op2D_1, op2D_2, op2D_3, op2D_4, op2D_5, op2D_6, oR_some, Option.map_some, true_or, false_or, lend_ret, notB2_sh, notB2_nw, notB2_bw, resOk_bl, resOk_int, resOk_non, resOk_str, resOk_l, resOk_t, ek, e6, hr, c2, nmAt_at h1, nmAt_at h2, sort2, reduceIte, Int.reduceEq]
    exact ⟨by decide, hl, _, rfl⟩
end Fw

namespace Fw
open L2
def itemD (p : (Nat × Nat) × Nat) : D := .tup [.int p.2, endD p.1]
theorem tie_loop {C : CallT} {s0 s1 s2 s5 s6 s8 : Option Slot} {head : List D} {xs : List Int} {x6 : Int} (e6 : atI head 6 = some (.int x6)) (h6 : 0 ≤ x6) {order : List PySem.Str} (hx : ∀ x ∈ xs, 0 ≤ x) : ∀ (ps : List ((Nat × Nat) × Nat)) (l : List D) (o9 o11 o12 o13 : Option Slot) (Q : Flow → Prop), (∀ p ∈ ps, p.1.1 < order.length ∧ p.1.2 < order.length ∧ 9 + p.2 < xs.length) → l.length + ps.length < line →
    (∀ o9 o11 o12 o13 : Option Slot, Q (.nx [s0, s1, s2, some ⟨.lst head, 0⟩, some ⟨.lst (xs.map .int), 0⟩, s5, s6, some ⟨.lst (order.map .str), 1⟩, s8, o9, some ⟨.lst (l ++ ps.map fun p => tieD (tieOf order p.1 (1 + xs.getD (9 + p.2) 0 % (if x6 % 3 = 0 then 3 else if x6 % 3 = 1 then 9 else 50)))), 1⟩, o11, o12, o13])) →
    W (forGo (.t [.v 9, .t [.v 11, .v 12]]) (fun ρ => evSs C T_body ρ) (ps.map itemD) [s0, s1, s2, some ⟨.lst head, 0⟩, some ⟨.lst (xs.map .int), 0⟩, s5, s6, some ⟨.lst (order.map .str), 1⟩, s8, o9, some ⟨.lst l, 1⟩, o11, o12, o13]) Q := by
  intro ps
  induction ps with
  | nil =>
    intro l o9 o11 o12 o13 Q h1 h2 hq
    rw [List.map_nil, forGo, W_ok]
    have := hq o9 o11 o12 o13
    rw [List.map_nil, List.append_nil] at this
    exact this
  | cons p ps ih =>
    intro l o9 o11 o12 o13 Q h1 h2 hq
    rw [List.length_cons] at h2
    have hp := h1 p List.mem_cons_self
    rw [List.map_cons, forGo, W_bind]
    rw [show setPat (.t [.v 9, .t [.v 11, .v 12]]) (itemD p) _ = .ok _ from rfl, W_ok, W_bind]
    refine (tie_step (C := C) (order := order) e6 h6 (k := p.2) (e := p.1) hp.2.2 (by omega) hp.1 hp.2.1 hx).mono fun o ho => ?_
    obtain ⟨o13, rfl⟩ := ho
    refine ih _ _ _ _ _ Q (fun q hq => h1 q (List.mem_cons_of_mem _ hq)) (by rw [List.length_append, List.length_singleton]; omega) fun o9 o11 o12 o13 => ?_
    have := hq o9 o11 o12 o13
    rw [List.map_cons] at this
    rw [List.append_assoc]
    exact this
theorem ends_len {around : Nat} {par : Nat → Nat} {many : Nat} : (endsF around par many).length ≤ many + 1 := by
  unfold endsF
  rw [List.length_append, List.length_map, List.length_range']
  split <;> simp <;> omega
theorem ends_in {around : Nat} {par : Nat → Nat} {many : Nat} (hm : 1 ≤ many) (h : EndsOk around par many) {e : Nat × Nat} (he : e ∈ endsF around par many) : e.1 < many ∧ e.2 < many := by
  unfold endsF at he
  rcases List.mem_append.mp he with he | he
  · split at he
    · cases he
    · rw [List.mem_singleton] at he
      subst he
      have := h.ring
      exact ⟨by omega, by omega⟩
  · obtain ⟨k, hk, rfl⟩ := List.mem_map.mp he
    rw [List.mem_range'] at hk
    obtain ⟨i, hi, rfl⟩ := hk
    have := h.low (1 + 1 * i) (by omega) (by omega)
    exact ⟨by show par _ < many; omega, by show 1 + 1 * i < many; omega⟩
theorem map_ok {F : List Fn} {fi iCell iNum iNames iEnds : Nat} (hf : F[fi]? = some ⟨3, 14, C_map iCell iNum iNames iEnds⟩) (hc : F[iCell]? = some ⟨2, 4, C_cell⟩) (hn : F[iNum]? = some ⟨2, 6, C_numbers⟩) (hm : F[iNames]? = some ⟨2, 10, C_names⟩) (he : F[iEnds]? = some ⟨3, 6, C_ends⟩)
    (n : Nat) (ns : List Int) (a most : Int) (h0 : 0 ≤ a) (h1 : a ≤ 900) (m0 : 1 ≤ most) (m1 : most ≤ 8) :
    W (run F (n + 2) fi [.lst (ns.map .int), .int a, .int most]) fun r => ∃ names ties, MapOk names ties ∧ (names.length : Int) ≤ most ∧ r = (mapD names ties, false) := by
  refine run_W hf rfl ?_
  simp only [C_map]
  simp only [id_eq, R.bind_ok, R.guard_true, ss_cons, ss_nil, Sq, Fl, W_bind, W_ok, W_guard, R.ite_true, R.ite_false, W_ite, evS, evE, evEs, evO, evTs, evIt, strD_i, keyD_i, keyD_s, keysD_n, keysD_c, dgetD_s, dgetD_i, dgetD_t, dinD_s, dinD_i, dinD_t, setPat_v, setPat_t, setPats_n, setPats_c, setSlot, start0, wipeE, ownL, stoD, dstD, rangeD, List.map_cons, List.map_nil, List.cons_append, List.nil_append, List.append_nil, List.length_cons, List.length_nil, List.replicate_succ, List.replicate_zero, List.getElem?_cons_zero, List.getElem?_cons_succ, List.set_cons_zero, List.set_cons_succ, List.all_cons, List.all_nil, Nat.add_sub_cancel, Nat.reduceAdd, Nat.reduceSub, Bool.and_true, Bool.true_and, Bool.and_self, Bool.not_true, Bool.not_false, true_and, and_true, decide_eq_true_eq, Nat.zero_add, decide_eq_false_iff_not, Int.reduceLT, Int.reduceEq, eqD_i, eqD_s, shp_i, shp_s, shp_b, shp_n, Int.reduceLE, Int.reduceMul, Int.reduceAdd, Int.reduceMod, Int.reduceNeg, Int.reduceSub, Int.reduceToNat, reduceCtorEq, false_implies, true_implies, decide_true, decide_false, forall_const, Bool.false_eq_true, Bool.not_eq_true', Bool.and_eq_true, Bool.or_eq_true, addD_i, addD_s, addD_l, addD_t, subD_i, mulD_i, mulD_s, fdivD_i, modD_i, powD_i, ltD_i, ltD_s, leD_i, leD_s, gtD_i, gtD_s, geD_i, geD_s, inD_l, inD_t, inD_s, isBl_b, cmpD_eq, cmpD_ne, cmpD_lt, cmpD_le, cmpD_gt, cmpD_ge, cmpD_in, cmpD_notin, cmpD_isN, cmpD_notN, cmpD_isB, cmpD_notB, isNon_n, isNon_i, isNon_b, isNon_s, isNon_l, isNon_t, items_l, items_t, itemsI_l, itemsI_t, itemsI_s, ixD_l, ixD_t, ixD_s, slD_l, slD_t, slD_s, lenD_l, lenD_t, lenD_s, lenD_d, absD_i, minD_i, maxD_i, minD_1, maxD_1, bestD_c, sortedD_1, listD_1, tupleD_1, allD_l, anyD_l, sumD_l, sumD_t, intD_i, intD_b, boolD_b, boolD_i, joinD_s, retK_sh, retK_nw, retK_bw, kdOf_0, kdOf_1, kdOf_2, inKd_sh, inKd_nw, inKd_bw, inKd_b2, toKd_t, toKd_f, notBw_sh, notBw_nw, notBw_bw, notBw_b2, exact_sh, exact_nw, exact_bw, ownOk_l, ownOk_K, ownOk_T, ownOk_2, tyD_ii, tyD_ib, tyD_is, tyD_in, tyD_il, tyD_it, tyD_bi, tyD_bb, tyD_bs, tyD_bn, tyD_bl, tyD_bt, tyD_si, tyD_sb, tyD_ss, tyD_sn, tyD_sl, tyD_st, tyD_ti, tyD_tb, tyD_ts, tyD_tn, tyD_tl, tyD_tt, tyD_li, tyD_lb, tyD_ls, tyD_ln, tyD_ll, tyD_lt, biD_1, biD_2, biD_3, biD_4, biD_5, biD_6, biD_7, biD_8, biD_9, biD_10, biD_11, biD_12, biD_13, biD_14, biD_15, op2D_1, op2D_2, op2D_3, op2D_4, op2D_5, op2D_6, oR_some, Option.map_some, true_or, false_or, lend_ret, notB2_sh, notB2_nw, notB2_bw, resOk_bl, resOk_int, resOk_non, resOk_str, resOk_l, resOk_t]
  refine (cell_okW hc n ns a h0 (by omega)).mono fun r ⟨c0, e⟩ => ?_
  subst e
  simp only [id_eq, R.bind_ok, R.guard_true, ss_cons, ss_nil, Sq, Fl, W_bind, W_ok, W_guard, R.ite_true, R.ite_false, W_ite, evS, evE, evEs, evO, evTs, evIt, strD_i, keyD_i, keyD_s, keysD_n, keysD_c, dgetD_s, dgetD_i, dgetD_t, dinD_s, dinD_i, dinD_t, setPat_v, setPat_t, setPats_n, setPats_c, setSlot, start0, wipeE, ownL, stoD, dstD, rangeD, List.map_cons, List.map_nil, List.cons_append, List.nil_append, List.append_nil, List.length_cons, List.length_nil, List.replicate_succ, List.replicate_zero, List.getElem?_cons_zero, List.getElem?_cons_succ, List.set_cons_zero, List.set_cons_succ, List.all_cons, List.all_nil, Nat.add_sub_cancel, Nat.reduceAdd, Nat.reduceSub, Bool.and_true, Bool.true_and, Bool.and_self, Bool.not_true, Bool.not_false, true_and, and_true, decide_eq_true_eq, Nat.zero_add, decide_eq_false_iff_not, Int.reduceLT, Int.reduceEq, eqD_i, eqD_s, shp_i, shp_s, shp_b, shp_n, Int.reduceLE, Int.reduceMul, Int.reduceAdd, Int.reduceMod, Int.reduceNeg, Int.reduceSub, Int.reduceToNat, reduceCtorEq, false_implies, true_implies, decide_true, decide_false, forall_const, Bool.false_eq_true, Bool.not_eq_true', Bool.and_eq_true, Bool.or_eq_true, addD_i, addD_s, addD_l, addD_t, subD_i, mulD_i, mulD_s, fdivD_i, modD_i, powD_i, ltD_i, ltD_s, leD_i, leD_s, gtD_i, gtD_s, geD_i, geD_s, inD_l, inD_t, inD_s, isBl_b, cmpD_eq, cmpD_ne, cmpD_lt, cmpD_le, cmpD_gt, cmpD_ge, cmpD_in, cmpD_notin, cmpD_isN, cmpD_notN, cmpD_isB, cmpD_notB, isNon_n, isNon_i, isNon_b, isNon_s, isNon_l, isNon_t, items_l, items_t, itemsI_l, itemsI_t, itemsI_s, ixD_l, ixD_t, ixD_s, slD_l, slD_t, slD_s, lenD_l, lenD_t, lenD_s, lenD_d, absD_i, minD_i, maxD_i, minD_1, maxD_1, bestD_c, sortedD_1, listD_1, tupleD_1, allD_l, anyD_l, sumD_l, sumD_t, intD_i, intD_b, boolD_b, boolD_i, joinD_s, retK_sh, retK_nw, retK_bw, kdOf_0, kdOf_1, kdOf_2, inKd_sh, inKd_nw, inKd_bw, inKd_b2, toKd_t, toKd_f, notBw_sh, notBw_nw, notBw_bw, notBw_b2, exact_sh, exact_nw, exact_bw, ownOk_l, ownOk_K, ownOk_T, ownOk_2, tyD_ii, tyD_ib, tyD_is, tyD_in, tyD_il, tyD_it, tyD_bi, tyD_bb, tyD_bs, tyD_bn, tyD_bl, tyD_bt, tyD_si, tyD_sb, tyD_ss, tyD_sn, tyD_sl, tyD_st, tyD_ti, tyD_tb, tyD_ts, tyD_tn, tyD_tl, tyD_tt, tyD_li, tyD_lb, tyD_ls, tyD_ln, tyD_ll, tyD_lt, biD_1, biD_2, biD_3, biD_4, biD_5, biD_6, biD_7, biD_8, biD_9, biD_10, biD_11, biD_12, biD_13, biD_14, biD_15, op2D_1, op2D_2, op2D_3, op2D_4, op2D_5, op2D_6, oR_some, Option.map_some, true_or, false_or, lend_ret, notB2_sh, notB2_nw, notB2_bw, resOk_bl, resOk_int, resOk_non, resOk_str, resOk_l, resOk_t]
  refine (numbers_ok hn n c0 12 (by decide) (by decide)).mono fun r ⟨head, e, hl, hp⟩ => ?_
  subst e
  simp only [id_eq, R.bind_ok, R.guard_true, ss_cons, ss_nil, Sq, Fl, W_bind, W_ok, W_guard, R.ite_true, R.ite_false, W_ite, evS, evE, evEs, evO, evTs, evIt, strD_i, keyD_i, keyD_s, keysD_n, keysD_c, dgetD_s, dgetD_i, dgetD_t, dinD_s, dinD_i, dinD_t, setPat_v, setPat_t, setPats_n, setPats_c, setSlot, start0, wipeE, ownL, stoD, dstD, rangeD, List.map_cons, List.map_nil, List.cons_append, List.nil_append, List.append_nil, List.length_cons, List.length_nil, List.replicate_succ, List.replicate_zero, List.getElem?_cons_zero, List.getElem?_cons_succ, List.set_cons_zero, List.set_cons_succ, List.all_cons, List.all_nil, Nat.add_sub_cancel, Nat.reduceAdd, Nat.reduceSub, Bool.and_true, Bool.true_and, Bool.and_self, Bool.not_true, Bool.not_false, true_and, and_true, decide_eq_true_eq, Nat.zero_add, decide_eq_false_iff_not, Int.reduceLT, Int.reduceEq, eqD_i, eqD_s, shp_i, shp_s, shp_b, shp_n, Int.reduceLE, Int.reduceMul, Int.reduceAdd, Int.reduceMod, Int.reduceNeg, Int.reduceSub, Int.reduceToNat, reduceCtorEq, false_implies, true_implies, decide_true, decide_false, forall_const, Bool.false_eq_true, Bool.not_eq_true', Bool.and_eq_true, Bool.or_eq_true, addD_i, addD_s, addD_l, addD_t, subD_i, mulD_i, mulD_s, fdivD_i, modD_i, powD_i, ltD_i, ltD_s, leD_i, leD_s, gtD_i, gtD_s, geD_i, geD_s, inD_l, inD_t, inD_s, isBl_b, cmpD_eq, cmpD_ne, cmpD_lt, cmpD_le, cmpD_gt, cmpD_ge, cmpD_in, cmpD_notin, cmpD_isN, cmpD_notN, cmpD_isB, cmpD_notB, isNon_n, isNon_i, isNon_b, isNon_s, isNon_l, isNon_t, items_l, items_t, itemsI_l, itemsI_t, itemsI_s, ixD_l, ixD_t, ixD_s, slD_l, slD_t, slD_s, lenD_l, lenD_t, lenD_s, lenD_d, absD_i, minD_i, maxD_i, minD_1, maxD_1, bestD_c, sortedD_1, listD_1, tupleD_1, allD_l, anyD_l, sumD_l, sumD_t, intD_i, intD_b, boolD_b, boolD_i, joinD_s, retK_sh, retK_nw, retK_bw, kdOf_0, kdOf_1, kdOf_2, inKd_sh, inKd_nw, inKd_bw, inKd_b2, toKd_t, toKd_f, notBw_sh, notBw_nw, notBw_bw, notBw_b2, exact_sh, exact_nw, exact_bw, ownOk_l, ownOk_K, ownOk_T, ownOk_2, tyD_ii, tyD_ib, tyD_is, tyD_in, tyD_il, tyD_it, tyD_bi, tyD_bb, tyD_bs, tyD_bn, tyD_bl, tyD_bt, tyD_si, tyD_sb, tyD_ss, tyD_sn, tyD_sl, tyD_st, tyD_ti, tyD_tb, tyD_ts, tyD_tn, tyD_tl, tyD_tt, tyD_li, tyD_lb, tyD_ls, tyD_ln, tyD_ll, tyD_lt, biD_1, biD_2, biD_3, biD_4, biD_5, biD_6, biD_7, biD_8, biD_9, biD_10, biD_11, biD_12, biD_13, biD_14, biD_15, op2D_1, op2D_2, op2D_3, op2D_4, op2D_5, op2D_6, oR_some, Option.map_some, true_or, false_or, lend_ret, notB2_sh, notB2_nw, notB2_bw, resOk_bl, resOk_int, resOk_non, resOk_str, resOk_l, resOk_t]
  refine (cell_okW hc n ns (a + 1) (by omega) (by omega)).mono fun r ⟨c1, e⟩ => ?_
  subst e
  simp only [id_eq, R.bind_ok, R.guard_true, ss_cons, ss_nil, Sq, Fl, W_bind, W_ok, W_guard, R.ite_true, R.ite_false, W_ite, evS, evE, evEs, evO, evTs, evIt, strD_i, keyD_i, keyD_s, keysD_n, keysD_c, dgetD_s, dgetD_i, dgetD_t, dinD_s, dinD_i, dinD_t, setPat_v, setPat_t, setPats_n, setPats_c, setSlot, start0, wipeE, ownL, stoD, dstD, rangeD, List.map_cons, List.map_nil, List.cons_append, List.nil_append, List.append_nil, List.length_cons, List.length_nil, List.replicate_succ, List.replicate_zero, List.getElem?_cons_zero, List.getElem?_cons_succ, List.set_cons_zero, List.set_cons_succ, List.all_cons, List.all_nil, Nat.add_sub_cancel, Nat.reduceAdd, Nat.reduceSub, Bool.and_true, Bool.true_and, Bool.and_self, Bool.not_true, Bool.not_false, true_and, and_true, decide_eq_true_eq, Nat.zero_add, decide_eq_false_iff_not, Int.reduceLT, Int.reduceEq, eqD_i, eqD_s, shp_i, shp_s, shp_b, shp_n, Int.reduceLE, Int.reduceMul, Int.reduceAdd, Int.reduceMod, Int.reduceNeg, Int.reduceSub, Int.reduceToNat, reduceCtorEq, false_implies, true_implies, decide_true, decide_false, forall_const, Bool.false_eq_true, Bool.not_eq_true', Bool.and_eq_true, Bool.or_eq_true, addD_i, addD_s, addD_l, addD_t, subD_i, mulD_i, mulD_s, fdivD_i, modD_i, powD_i, ltD_i, ltD_s, leD_i, leD_s, gtD_i, gtD_s, geD_i, geD_s, inD_l, inD_t, inD_s, isBl_b, cmpD_eq, cmpD_ne, cmpD_lt, cmpD_le, cmpD_gt, cmpD_ge, cmpD_in, cmpD_notin, cmpD_isN, cmpD_notN, cmpD_isB, cmpD_notB, isNon_n, isNon_i, isNon_b, isNon_s, isNon_l, isNon_t, items_l, items_t, itemsI_l, itemsI_t, itemsI_s, ixD_l, ixD_t, ixD_s, slD_l, slD_t, slD_s, lenD_l, lenD_t, lenD_s, lenD_d, absD_i, minD_i, maxD_i, minD_1, maxD_1, bestD_c, sortedD_1, listD_1, tupleD_1, allD_l, anyD_l, sumD_l, sumD_t, intD_i, intD_b, boolD_b, boolD_i, joinD_s, retK_sh, retK_nw, retK_bw, kdOf_0, kdOf_1, kdOf_2, inKd_sh, inKd_nw, inKd_bw, inKd_b2, toKd_t, toKd_f, notBw_sh, notBw_nw, notBw_bw, notBw_b2, exact_sh, exact_nw, exact_bw, ownOk_l, ownOk_K, ownOk_T, ownOk_2, tyD_ii, tyD_ib, tyD_is, tyD_in, tyD_il, tyD_it, tyD_bi, tyD_bb, tyD_bs, tyD_bn, tyD_bl, tyD_bt, tyD_si, tyD_sb, tyD_ss, tyD_sn, tyD_sl, tyD_st, tyD_ti, tyD_tb, tyD_ts, tyD_tn, tyD_tl, tyD_tt, tyD_li, tyD_lb, tyD_ls, tyD_ln, tyD_ll, tyD_lt, biD_1, biD_2, biD_3, biD_4, biD_5, biD_6, biD_7, biD_8, biD_9, biD_10, biD_11, biD_12, biD_13, biD_14, biD_15, op2D_1, op2D_2, op2D_3, op2D_4, op2D_5, op2D_6, oR_some, Option.map_some, true_or, false_or, lend_ret, notB2_sh, notB2_nw, notB2_bw, resOk_bl, resOk_int, resOk_non, resOk_str, resOk_l, resOk_t]
  refine (numbers_ok hn n c1 20 (by decide) (by decide)).mono fun r ⟨xs, e, xl, xp⟩ => ?_
  subst e
  have hl12 : head.length = 12 := hl
  have xl20 : xs.length = 20 := xl
  obtain ⟨x7, e7, m7⟩ := atI_int (l := head) (i := 7) (by decide) (by omega)
  obtain ⟨x8, e8, m8⟩ := atI_int (l := head) (i := 8) (by decide) (by omega)
  obtain ⟨x5, e5, m5⟩ := atI_int (l := head) (i := 5) (by decide) (by omega)
  obtain ⟨x6, e6, m6⟩ := atI_int (l := head) (i := 6) (by decide) (by omega)
  simp only [id_eq, R.bind_ok, R.guard_true, ss_cons, ss_nil, Sq, Fl, W_bind, W_ok, W_guard, R.ite_true, R.ite_false, W_ite, evS, evE, evEs, evO, evTs, evIt, strD_i, keyD_i, keyD_s, keysD_n, keysD_c, dgetD_s, dgetD_i, dgetD_t, dinD_s, dinD_i, dinD_t, setPat_v, setPat_t, setPats_n, setPats_c, setSlot, start0, wipeE, ownL, stoD, dstD, rangeD, List.map_cons, List.map_nil, List.cons_append, List.nil_append, List.append_nil, List.length_cons, List.length_nil, List.replicate_succ, List.replicate_zero, List.getElem?_cons_zero, List.getElem?_cons_succ, List.set_cons_zero, List.set_cons_succ, List.all_cons, List.all_nil, Nat.add_sub_cancel, Nat.reduceAdd, Nat.reduceSub, Bool.and_true, Bool.true_and, Bool.and_self, Bool.not_true, Bool.not_false, true_and, and_true, decide_eq_true_eq, Nat.zero_add, decide_eq_false_iff_not, Int.reduceLT, Int.reduceEq, eqD_i, eqD_s, shp_i, shp_s, shp_b, shp_n, Int.reduceLE, Int.reduceMul, Int.reduceAdd, Int.reduceMod, Int.reduceNeg, Int.reduceSub, Int.reduceToNat, reduceCtorEq, false_implies, true_implies, decide_true, decide_false, forall_const, Bool.false_eq_true, Bool.not_eq_true', Bool.and_eq_true, Bool.or_eq_true, addD_i, addD_s, addD_l, addD_t, subD_i, mulD_i, mulD_s, fdivD_i, modD_i, powD_i, ltD_i, ltD_s, leD_i, leD_s, gtD_i, gtD_s, geD_i, geD_s, inD_l, inD_t, inD_s, isBl_b, cmpD_eq, cmpD_ne, cmpD_lt, cmpD_le, cmpD_gt, cmpD_ge, cmpD_in, cmpD_notin, cmpD_isN, cmpD_notN, cmpD_isB, cmpD_notB, isNon_n, isNon_i, isNon_b, isNon_s, isNon_l, isNon_t, items_l, items_t, itemsI_l, itemsI_t, itemsI_s, ixD_l, ixD_t, ixD_s, slD_l, slD_t, slD_s, lenD_l, lenD_t, lenD_s, lenD_d, absD_i, minD_i, maxD_i, minD_1, maxD_1, bestD_c, sortedD_1, listD_1, tupleD_1, allD_l, anyD_l, sumD_l, sumD_t, intD_i, intD_b, boolD_b, boolD_i, joinD_s, retK_sh, retK_nw, retK_bw, kdOf_0, kdOf_1, kdOf_2, inKd_sh, inKd_nw, inKd_bw, inKd_b2, toKd_t, toKd_f, notBw_sh, notBw_nw, notBw_bw, notBw_b2, exact_sh, exact_nw, exact_bw, ownOk_l, ownOk_K, ownOk_T, ownOk_2, tyD_ii, tyD_ib, tyD_is, tyD_in, tyD_il, tyD_it, tyD_bi, tyD_bb, tyD_bs, tyD_bn, tyD_bl, tyD_bt, tyD_si, tyD_sb, tyD_ss, tyD_sn, tyD_sl, tyD_st, tyD_ti, tyD_tb, tyD_ts, tyD_tn, tyD_tl, tyD_tt, tyD_li, tyD_lb, tyD_ls, tyD_ln, tyD_ll, tyD_lt, biD_1, biD_2, biD_3, biD_4, biD_5, biD_6, biD_7, biD_8, biD_9, biD_10, biD_11, biD_12, biD_13, biD_14, biD_15, op2D_1, op2D_2, op2D_3, op2D_4, op2D_5, op2D_6, oR_some, Option.map_some, true_or, false_or, lend_ret, notB2_sh, notB2_nw, notB2_bw, resOk_bl, resOk_int, resOk_non, resOk_str, resOk_l, resOk_t, e7]
  have q0 : 0 ≤ x7 % most := Int.emod_nonneg _ (by omega)
  have q1 : x7 % most < most := Int.emod_lt_of_pos _ (by omega)
  obtain ⟨many, hmany⟩ := Int.eq_ofNat_of_zero_le (show 0 ≤ 1 + x7 % most by omega)
  rw [hmany]
  refine ⟨by omega, ?_⟩
  refine (names_ok hm n head many hl12 hp (by omega)).mono fun r ⟨names, e, nl, nn⟩ => ?_
  subst e
  simp only [id_eq, R.bind_ok, R.guard_true, ss_cons, ss_nil, Sq, Fl, W_bind, W_ok, W_guard, R.ite_true, R.ite_false, W_ite, evS, evE, evEs, evO, evTs, evIt, strD_i, keyD_i, keyD_s, keysD_n, keysD_c, dgetD_s, dgetD_i, dgetD_t, dinD_s, dinD_i, dinD_t, setPat_v, setPat_t, setPats_n, setPats_c, setSlot, start0, wipeE, ownL, stoD, dstD, rangeD, List.map_cons, List.map_nil, List.cons_append, List.nil_append, List.append_nil, List.length_cons, List.length_nil, List.replicate_succ, List.replicate_zero, List.getElem?_cons_zero, List.getElem?_cons_succ, List.set_cons_zero, List.set_cons_succ, List.all_cons, List.all_nil, Nat.add_sub_cancel, Nat.reduceAdd, Nat.reduceSub, Bool.and_true, Bool.true_and, Bool.and_self, Bool.not_true, Bool.not_false, true_and, and_true, decide_eq_true_eq, Nat.zero_add, decide_eq_false_iff_not, Int.reduceLT, Int.reduceEq, eqD_i, eqD_s, shp_i, shp_s, shp_b, shp_n, Int.reduceLE, Int.reduceMul, Int.reduceAdd, Int.reduceMod, Int.reduceNeg, Int.reduceSub, Int.reduceToNat, reduceCtorEq, false_implies, true_implies, decide_true, decide_false, forall_const, Bool.false_eq_true, Bool.not_eq_true', Bool.and_eq_true, Bool.or_eq_true, addD_i, addD_s, addD_l, addD_t, subD_i, mulD_i, mulD_s, fdivD_i, modD_i, powD_i, ltD_i, ltD_s, leD_i, leD_s, gtD_i, gtD_s, geD_i, geD_s, inD_l, inD_t, inD_s, isBl_b, cmpD_eq, cmpD_ne, cmpD_lt, cmpD_le, cmpD_gt, cmpD_ge, cmpD_in, cmpD_notin, cmpD_isN, cmpD_notN, cmpD_isB, cmpD_notB, isNon_n, isNon_i, isNon_b, isNon_s, isNon_l, isNon_t, items_l, items_t, itemsI_l, itemsI_t, itemsI_s, ixD_l, ixD_t, ixD_s, slD_l, slD_t, slD_s, lenD_l, lenD_t, lenD_s, lenD_d, absD_i, minD_i, maxD_i, minD_1, maxD_1, bestD_c, sortedD_1, listD_1, tupleD_1, allD_l, anyD_l, sumD_l, sumD_t, intD_i, intD_b, boolD_b, boolD_i, joinD_s, retK_sh, retK_nw, retK_bw, kdOf_0, kdOf_1, kdOf_2, inKd_sh, inKd_nw, inKd_bw, inKd_b2, toKd_t, toKd_f, notBw_sh, notBw_nw, notBw_bw, notBw_b2, exact_sh, exact_nw, exact_bw, ownOk_l, ownOk_K, ownOk_T, ownOk_2, tyD_ii, tyD_ib, tyD_is, tyD_in, tyD_il, tyD_it, tyD_bi, tyD_bb, tyD_bs, tyD_bn, tyD_bl, tyD_bt, tyD_si, tyD_sb, tyD_ss, tyD_sn, tyD_sl, tyD_st, tyD_ti, tyD_tb, tyD_ts, tyD_tn, tyD_tl, tyD_tt, tyD_li, tyD_lb, tyD_ls, tyD_ln, tyD_ll, tyD_lt, biD_1, biD_2, biD_3, biD_4, biD_5, biD_6, biD_7, biD_8, biD_9, biD_10, biD_11, biD_12, biD_13, biD_14, biD_15, op2D_1, op2D_2, op2D_3, op2D_4, op2D_5, op2D_6, oR_some, Option.map_some, true_or, false_or, lend_ret, notB2_sh, notB2_nw, notB2_bw, resOk_bl, resOk_int, resOk_non, resOk_str, resOk_l, resOk_t]
  refine ⟨by omega, ?_⟩
  have em : ((many : Int) - 0).toNat = many := by omega
  rw [em, List.range_eq_range']
  refine pop_loop (C := run F (n + 1)) e8 (hp x8 m8) (names := names) (by omega) many 0 [] names none _ (by omega) (List.Perm.refl _) nl fun order o9 ho => ?_
  have ol := ho.length_eq
  simp only [id_eq, R.bind_ok, R.guard_true, ss_cons, ss_nil, Sq, Fl, W_bind, W_ok, W_guard, R.ite_true, R.ite_false, W_ite, evS, evE, evEs, evO, evTs, evIt, strD_i, keyD_i, keyD_s, keysD_n, keysD_c, dgetD_s, dgetD_i, dgetD_t, dinD_s, dinD_i, dinD_t, setPat_v, setPat_t, setPats_n, setPats_c, setSlot, start0, wipeE, ownL, stoD, dstD, rangeD, List.map_cons, List.map_nil, List.cons_append, List.nil_append, List.append_nil, List.length_cons, List.length_nil, List.replicate_succ, List.replicate_zero, List.getElem?_cons_zero, List.getElem?_cons_succ, List.set_cons_zero, List.set_cons_succ, List.all_cons, List.all_nil, Nat.add_sub_cancel, Nat.reduceAdd, Nat.reduceSub, Bool.and_true, Bool.true_and, Bool.and_self, Bool.not_true, Bool.not_false, true_and, and_true, decide_eq_true_eq, Nat.zero_add, decide_eq_false_iff_not, Int.reduceLT, Int.reduceEq, eqD_i, eqD_s, shp_i, shp_s, shp_b, shp_n, Int.reduceLE, Int.reduceMul, Int.reduceAdd, Int.reduceMod, Int.reduceNeg, Int.reduceSub, Int.reduceToNat, reduceCtorEq, false_implies, true_implies, decide_true, decide_false, forall_const, Bool.false_eq_true, Bool.not_eq_true', Bool.and_eq_true, Bool.or_eq_true, addD_i, addD_s, addD_l, addD_t, subD_i, mulD_i, mulD_s, fdivD_i, modD_i, powD_i, ltD_i, ltD_s, leD_i, leD_s, gtD_i, gtD_s, geD_i, geD_s, inD_l, inD_t, inD_s, isBl_b, cmpD_eq, cmpD_ne, cmpD_lt, cmpD_le, cmpD_gt, cmpD_ge, cmpD_in, cmpD_notin, cmpD_isN, cmpD_notN, cmpD_isB, cmpD_notB, isNon_n, isNon_i, isNon_b, isNon_s, isNon_l, isNon_t, items_l, items_t, itemsI_l, itemsI_t, itemsI_s, ixD_l, ixD_t, ixD_s, slD_l, slD_t, slD_s, lenD_l, lenD_t, lenD_s, lenD_d, absD_i, minD_i, maxD_i, minD_1, maxD_1, bestD_c, sortedD_1, listD_1, tupleD_1, allD_l, anyD_l, sumD_l, sumD_t, intD_i, intD_b, boolD_b, boolD_i, joinD_s, retK_sh, retK_nw, retK_bw, kdOf_0, kdOf_1, kdOf_2, inKd_sh, inKd_nw, inKd_bw, inKd_b2, toKd_t, toKd_f, notBw_sh, notBw_nw, notBw_bw, notBw_b2, exact_sh, exact_nw, exact_bw, ownOk_l, ownOk_K, ownOk_T, ownOk_2, tyD_ii, tyD_ib, tyD_is, tyD_in, tyD_il, tyD_it, tyD_bi, tyD_bb, tyD_bs, tyD_bn, tyD_bl, tyD_bt, tyD_si, tyD_sb, tyD_ss, tyD_sn, tyD_sl, tyD_st, tyD_ti, tyD_tb, tyD_ts, tyD_tn, tyD_tl, tyD_tt, tyD_li, tyD_lb, tyD_ls, tyD_ln, tyD_ll, tyD_lt, biD_1, biD_2, biD_3, biD_4, biD_5, biD_6, biD_7, biD_8, biD_9, biD_10, biD_11, biD_12, biD_13, biD_14, biD_15, op2D_1, op2D_2, op2D_3, op2D_4, op2D_5, op2D_6, oR_some, Option.map_some, true_or, false_or, lend_ret, notB2_sh, notB2_nw, notB2_bw, resOk_bl, resOk_int, resOk_non, resOk_str, resOk_l, resOk_t, e5]
  have r0 : 0 ≤ x5 % 4 := Int.emod_nonneg _ (by decide)
  have r1 : x5 % 4 < 4 := Int.emod_lt_of_pos _ (by decide)
  obtain ⟨kind, hkind⟩ : ∃ kind : Int, atI [D.int 0, D.int 1, D.int 2, D.int 2] (x5 % 4) = some (.int kind) := by
    have hr : x5 % 4 = 0 ∨ x5 % 4 = 1 ∨ x5 % 4 = 2 ∨ x5 % 4 = 3 := by omega
    rcases hr with hr | hr | hr | hr <;> rw [hr] <;> exact ⟨_, rfl⟩
  rw [hkind]
  simp only [id_eq, R.bind_ok, R.guard_true, ss_cons, ss_nil, Sq, Fl, W_bind, W_ok, W_guard, R.ite_true, R.ite_false, W_ite, evS, evE, evEs, evO, evTs, evIt, strD_i, keyD_i, keyD_s, keysD_n, keysD_c, dgetD_s, dgetD_i, dgetD_t, dinD_s, dinD_i, dinD_t, setPat_v, setPat_t, setPats_n, setPats_c, setSlot, start0, wipeE, ownL, stoD, dstD, rangeD, List.map_cons, List.map_nil, List.cons_append, List.nil_append, List.append_nil, List.length_cons, List.length_nil, List.replicate_succ, List.replicate_zero, List.getElem?_cons_zero, List.getElem?_cons_succ, List.set_cons_zero, List.set_cons_succ, List.all_cons, List.all_nil, Nat.add_sub_cancel, Nat.reduceAdd, Nat.reduceSub, Bool.and_true, Bool.true_and, Bool.and_self, Bool.not_true, Bool.not_false, true_and, and_true, decide_eq_true_eq, Nat.zero_add, decide_eq_false_iff_not, Int.reduceLT, Int.reduceEq, eqD_i, eqD_s, shp_i, shp_s, shp_b, shp_n, Int.reduceLE, Int.reduceMul, Int.reduceAdd, Int.reduceMod, Int.reduceNeg, Int.reduceSub, Int.reduceToNat, reduceCtorEq, false_implies, true_implies, decide_true, decide_false, forall_const, Bool.false_eq_true, Bool.not_eq_true', Bool.and_eq_true, Bool.or_eq_true, addD_i, addD_s, addD_l, addD_t, subD_i, mulD_i, mulD_s, fdivD_i, modD_i, powD_i, ltD_i, ltD_s, leD_i, leD_s, gtD_i, gtD_s, geD_i, geD_s, inD_l, inD_t, inD_s, isBl_b, cmpD_eq, cmpD_ne, cmpD_lt, cmpD_le, cmpD_gt, cmpD_ge, cmpD_in, cmpD_notin, cmpD_isN, cmpD_notN, cmpD_isB, cmpD_notB, isNon_n, isNon_i, isNon_b, isNon_s, isNon_l, isNon_t, items_l, items_t, itemsI_l, itemsI_t, itemsI_s, ixD_l, ixD_t, ixD_s, slD_l, slD_t, slD_s, lenD_l, lenD_t, lenD_s, lenD_d, absD_i, minD_i, maxD_i, minD_1, maxD_1, bestD_c, sortedD_1, listD_1, tupleD_1, allD_l, anyD_l, sumD_l, sumD_t, intD_i, intD_b, boolD_b, boolD_i, joinD_s, retK_sh, retK_nw, retK_bw, kdOf_0, kdOf_1, kdOf_2, inKd_sh, inKd_nw, inKd_bw, inKd_b2, toKd_t, toKd_f, notBw_sh, notBw_nw, notBw_bw, notBw_b2, exact_sh, exact_nw, exact_bw, ownOk_l, ownOk_K, ownOk_T, ownOk_2, tyD_ii, tyD_ib, tyD_is, tyD_in, tyD_il, tyD_it, tyD_bi, tyD_bb, tyD_bs, tyD_bn, tyD_bl, tyD_bt, tyD_si, tyD_sb, tyD_ss, tyD_sn, tyD_sl, tyD_st, tyD_ti, tyD_tb, tyD_ts, tyD_tn, tyD_tl, tyD_tt, tyD_li, tyD_lb, tyD_ls, tyD_ln, tyD_ll, tyD_lt, biD_1, biD_2, biD_3, biD_4, biD_5, biD_6, biD_7, biD_8, biD_9, biD_10, biD_11, biD_12, biD_13, biD_14, biD_15, op2D_1, op2D_2, op2D_3, op2D_4, op2D_5, op2D_6, oR_some, Option.map_some, true_or, false_or, lend_ret, notB2_sh, notB2_nw, notB2_bw, resOk_bl, resOk_int, resOk_non, resOk_str, resOk_l, resOk_t]
  refine (ends_ok he n kind many xs (by omega) (by omega) xp xl20).mono fun r ⟨around, par, ek, e⟩ => ?_
  subst e
  simp only [id_eq, R.bind_ok, R.guard_true, ss_cons, ss_nil, Sq, Fl, W_bind, W_ok, W_guard, R.ite_true, R.ite_false, W_ite, evS, evE, evEs, evO, evTs, evIt, strD_i, keyD_i, keyD_s, keysD_n, keysD_c, dgetD_s, dgetD_i, dgetD_t, dinD_s, dinD_i, dinD_t, setPat_v, setPat_t, setPats_n, setPats_c, setSlot, start0, wipeE, ownL, stoD, dstD, rangeD, List.map_cons, List.map_nil, List.cons_append, List.nil_append, List.append_nil, List.length_cons, List.length_nil, List.replicate_succ, List.replicate_zero, List.getElem?_cons_zero, List.getElem?_cons_succ, List.set_cons_zero, List.set_cons_succ, List.all_cons, List.all_nil, Nat.add_sub_cancel, Nat.reduceAdd, Nat.reduceSub, Bool.and_true, Bool.true_and, Bool.and_self, Bool.not_true, Bool.not_false, true_and, and_true, decide_eq_true_eq, Nat.zero_add, decide_eq_false_iff_not, Int.reduceLT, Int.reduceEq, eqD_i, eqD_s, shp_i, shp_s, shp_b, shp_n, Int.reduceLE, Int.reduceMul, Int.reduceAdd, Int.reduceMod, Int.reduceNeg, Int.reduceSub, Int.reduceToNat, reduceCtorEq, false_implies, true_implies, decide_true, decide_false, forall_const, Bool.false_eq_true, Bool.not_eq_true', Bool.and_eq_true, Bool.or_eq_true, addD_i, addD_s, addD_l, addD_t, subD_i, mulD_i, mulD_s, fdivD_i, modD_i, powD_i, ltD_i, ltD_s, leD_i, leD_s, gtD_i, gtD_s, geD_i, geD_s, inD_l, inD_t, inD_s, isBl_b, cmpD_eq, cmpD_ne, cmpD_lt, cmpD_le, cmpD_gt, cmpD_ge, cmpD_in, cmpD_notin, cmpD_isN, cmpD_notN, cmpD_isB, cmpD_notB, isNon_n, isNon_i, isNon_b, isNon_s, isNon_l, isNon_t, items_l, items_t, itemsI_l, itemsI_t, itemsI_s, ixD_l, ixD_t, ixD_s, slD_l, slD_t, slD_s, lenD_l, lenD_t, lenD_s, lenD_d, absD_i, minD_i, maxD_i, minD_1, maxD_1, bestD_c, sortedD_1, listD_1, tupleD_1, allD_l, anyD_l, sumD_l, sumD_t, intD_i, intD_b, boolD_b, boolD_i, joinD_s, retK_sh, retK_nw, retK_bw, kdOf_0, kdOf_1, kdOf_2, inKd_sh, inKd_nw, inKd_bw, inKd_b2, toKd_t, toKd_f, notBw_sh, notBw_nw, notBw_bw, notBw_b2, exact_sh, exact_nw, exact_bw, ownOk_l, ownOk_K, ownOk_T, ownOk_2, tyD_ii, tyD_ib, tyD_is, tyD_in, tyD_il, tyD_it, tyD_bi, tyD_bb, tyD_bs, tyD_bn, tyD_bl, tyD_bt, tyD_si, tyD_sb, tyD_ss, tyD_sn, tyD_sl, tyD_st, tyD_ti, tyD_tb, tyD_ts, tyD_tn, tyD_tl, tyD_tt, tyD_li, tyD_lb, tyD_ls, tyD_ln, tyD_ll, tyD_lt, biD_1, biD_2, biD_3, biD_4, biD_5, biD_6, biD_7, biD_8, biD_9, biD_10, biD_11, biD_12, biD_13, biD_14, biD_15, op2D_1, op2D_2, op2D_3, op2D_4, op2D_5, op2D_6, oR_some, Option.map_some, true_or, false_or, lend_ret, notB2_sh, notB2_nw, notB2_bw, resOk_bl, resOk_int, resOk_non, resOk_str, resOk_l, resOk_t]
  have ez : (((endsF around par many).map endD).zipIdx.map fun p => D.tup [.int p.2, p.1]) = (endsF around par many).zipIdx.map itemD := by
    rw [List.zipIdx_map, List.map_map]
    rfl
  rw [ez]
  have el := ends_len (around := around) (par := par) (many := many)
  refine tie_loop (C := run F (n + 1)) e6 (hp x6 m6) xp _ [] _ _ _ _ _ (fun p hp => ?_) (by rw [List.length_zipIdx]; simp only [line, List.length_nil]; omega) fun o9 o11 o12 o13 => ?_
  · obtain ⟨e, i⟩ := p
    have h2 := List.mem_zipIdx hp
    have hm2 : e ∈ endsF around par many := by
      rw [h2.2.2]
      exact List.getElem_mem _
    have h3 := ends_in (by omega) ek hm2
    have h4 := h2.2.1
    exact ⟨by show e.1 < _; omega, by show e.2 < _; omega, by show 9 + i < _; omega⟩
  · rw [List.nil_append]
    have ec : ((endsF around par many).zipIdx.map fun p => tieD (tieOf order p.1 (1 + xs.getD (9 + p.2) 0 % (if x6 % 3 = 0 then 3 else if x6 % 3 = 1 then 9 else 50)))) = ((endsF around par many).zipIdx.map fun p => tieOf order p.1 (1 + xs.getD (9 + p.2) 0 % (if x6 % 3 = 0 then 3 else if x6 % 3 = 1 then 9 else 50))).map tieD := by
      rw [List.map_map]
      rfl
    rw [ec]
    simp only [id_eq, R.bind_ok, R.guard_true, ss_cons, ss_nil, Sq, Fl, W_bind, W_ok, W_guard, R.ite_true, R.ite_false, W_ite, evS, evE, evEs, evO, evTs, evIt, strD_i, keyD_i, keyD_s, keysD_n, keysD_c, dgetD_s, dgetD_i, dgetD_t, dinD_s, dinD_i, dinD_t, setPat_v, setPat_t, setPats_n, setPats_c, setSlot, start0, wipeE, ownL, stoD, dstD, rangeD, List.map_cons, List.map_nil, List.cons_append, List.nil_append, List.append_nil, List.length_cons, List.length_nil, List.replicate_succ, List.replicate_zero, List.getElem?_cons_zero, List.getElem?_cons_succ, List.set_cons_zero, List.set_cons_succ, List.all_cons, List.all_nil, Nat.add_sub_cancel, Nat.reduceAdd, Nat.reduceSub, Bool.and_true, Bool.true_and, Bool.and_self, Bool.not_true, Bool.not_false, true_and, and_true, decide_eq_true_eq, Nat.zero_add, decide_eq_false_iff_not, Int.reduceLT, Int.reduceEq, eqD_i, eqD_s, shp_i, shp_s, shp_b, shp_n, Int.reduceLE, Int.reduceMul, Int.reduceAdd, Int.reduceMod, Int.reduceNeg, Int.reduceSub, Int.reduceToNat, reduceCtorEq, false_implies, true_implies, decide_true, decide_false, forall_const, Bool.false_eq_true, Bool.not_eq_true', Bool.and_eq_true, Bool.or_eq_true, addD_i, addD_s, addD_l, addD_t, subD_i, mulD_i, mulD_s, fdivD_i, modD_i, powD_i, ltD_i, ltD_s, leD_i, leD_s, gtD_i, gtD_s, geD_i, geD_s, inD_l, inD_t, inD_s, isBl_b, cmpD_eq, cmpD_ne, cmpD_lt, cmpD_le, cmpD_gt, cmpD_ge, cmpD_in, cmpD_notin, cmpD_isN, cmpD_notN, cmpD_isB, cmpD_notB, isNon_n, isNon_i, isNon_b, isNon_s, isNon_l, isNon_t, items_l, items_t, itemsI_l, itemsI_t, itemsI_s, ixD_l, ixD_t, ixD_s, slD_l, slD_t, slD_s, lenD_l, lenD_t, lenD_s, lenD_d, absD_i, minD_i, maxD_i, minD_1, maxD_1, bestD_c, sortedD_1, listD_1, tupleD_1, allD_l, anyD_l, sumD_l, sumD_t, intD_i, intD_b, boolD_b, boolD_i, joinD_s, retK_sh, retK_nw, retK_bw, kdOf_0, kdOf_1, kdOf_2, inKd_sh, inKd_nw, inKd_bw, inKd_b2, toKd_t, toKd_f, notBw_sh, notBw_nw, notBw_bw, notBw_b2, exact_sh, exact_nw, exact_bw, ownOk_l, ownOk_K, ownOk_T, ownOk_2, tyD_ii, tyD_ib, tyD_is, tyD_in, tyD_il, tyD_it, tyD_bi, tyD_bb, tyD_bs, tyD_bn, tyD_bl, tyD_bt, tyD_si, tyD_sb, tyD_ss, tyD_sn, tyD_sl, tyD_st, tyD_ti, tyD_tb, tyD_ts, tyD_tn, tyD_tl, tyD_tt, tyD_li, tyD_lb, tyD_ls, tyD_ln, tyD_ll, tyD_lt, biD_1, biD_2, biD_3, biD_4, biD_5, biD_6, biD_7, biD_8, biD_9, biD_10, biD_11, biD_12, biD_13, biD_14, biD_15, op2D_1, op2D_2, op2D_3, op2D_4, op2D_5, op2D_6, oR_some, Option.map_some, true_or, false_or, lend_ret, notB2_sh, notB2_nw, notB2_bw, resOk_bl, resOk_int, resOk_non, resOk_str, resOk_l, resOk_t, sort_ties]
    refine ⟨names, _, ⟨by omega, by omega, nn, order, around, par, fun k => 1 + xs.getD (9 + k) 0 % (if x6 % 3 = 0 then 3 else if x6 % 3 = 1 then 9 else 50), ho, by rw [nl]; exact ek, fun k => ?_, by rw [nl]⟩, by omega, rfl⟩
    have h9 : ∀ d : Int, 0 < d → d ≤ 50 → 1 ≤ 1 + xs.getD (9 + k) 0 % d ∧ 1 + xs.getD (9 + k) 0 % d ≤ 50 := fun d hd hd2 => by
      have := Int.emod_nonneg (xs.getD (9 + k) 0) (b := d) (by omega)
      have := Int.emod_lt_of_pos (xs.getD (9 + k) 0) hd
      omega
    split
    · exact h9 3 (by decide) (by decide)
    · split
      · exact h9 9 (by decide) (by decide)
      · exact h9 50 (by decide) (by decide)
end Fw

namespace Fw
open L2
/-! ### what is so of a drawn map -/
theorem ltS_irrefl (a : PySem.Str) : ¬ ltS a a := List.lt_irrefl _
theorem ltS_trans {a b c : PySem.Str} (h : ltS a b) (h2 : ltS b c) : ltS a c := List.lt_trans h h2
theorem ltS_ne {a b : PySem.Str} (h : ltS a b) : a ≠ b := fun e => ltS_irrefl b (e ▸ h)
theorem Names.nodup {ns : List PySem.Str} (h : Names ns) : ns.Nodup := h.rise.imp ltS_ne
theorem mn_mx {a b : PySem.Str} (h : a ≠ b) : ltS (mnS a b) (mxS a b) := by
  unfold mnS mxS
  by_cases hl : leS a b = true
  · rw [if_pos hl, if_pos hl]; exact ltS_of hl h
  · rw [if_neg hl, if_neg hl]
    have t := leS_total a b
    rw [Bool.or_eq_true] at t
    exact ltS_of (t.resolve_left hl) (Ne.symm h)
theorem mn_mx_cases (a b : PySem.Str) : (mnS a b = a ∧ mxS a b = b) ∨ (mnS a b = b ∧ mxS a b = a) := by
  unfold mnS mxS
  by_cases hl : leS a b = true
  · rw [if_pos hl, if_pos hl]; exact .inl ⟨rfl, rfl⟩
  · rw [if_neg hl, if_neg hl]; exact .inr ⟨rfl, rfl⟩
/-- the same two ends -/
def SameE (e f : Nat × Nat) : Prop := (e.1 = f.1 ∧ e.2 = f.2) ∨ (e.1 = f.2 ∧ e.2 = f.1)
theorem ends_ne {around : Nat} {par : Nat → Nat} {many : Nat} (h : EndsOk around par many) {e : Nat × Nat} (he : e ∈ endsF around par many) : e.1 ≠ e.2 := by
  unfold endsF at he
  rcases List.mem_append.mp he with he | he
  · split at he
    · cases he
    · rw [List.mem_singleton] at he
      subst he
      have := h.ring
      show around - 1 ≠ 0
      omega
  · obtain ⟨k, hk, rfl⟩ := List.mem_map.mp he
    rw [List.mem_range'] at hk
    obtain ⟨i, hi, rfl⟩ := hk
    have := h.low (1 + 1 * i) (by omega) (by omega)
    show par _ ≠ _
    omega
theorem ends_dis {around : Nat} {par : Nat → Nat} {many : Nat} (h : EndsOk around par many) : (endsF around par many).Pairwise fun e f => ¬ SameE e f := by
  unfold endsF
  rw [List.pairwise_append]
  refine ⟨by split <;> simp, ?_, ?_⟩
  · rw [List.pairwise_map]
    have hs : (List.range' 1 (many - 1)).Pairwise (· < ·) := List.pairwise_lt_range'
    refine hs.imp_of_mem fun {i j} hi hj hij => ?_
    rw [List.mem_range'] at hi hj
    obtain ⟨a, ha, rfl⟩ := hi
    obtain ⟨b, hb, rfl⟩ := hj
    have h1 := h.low (1 + 1 * a) (by omega) (by omega)
    have h2 := h.low (1 + 1 * b) (by omega) (by omega)
    rintro (⟨_, e⟩ | ⟨e1, e2⟩)
    · simp only at e; omega
    · simp only at e1 e2; omega
  · intro e he f hf
    split at he
    · cases he
    · rw [List.mem_singleton] at he
      subst he
      obtain ⟨k, hk, rfl⟩ := List.mem_map.mp hf
      rw [List.mem_range'] at hk
      obtain ⟨i, hi, rfl⟩ := hk
      have h1 := h.low (1 + 1 * i) (by omega) (by omega)
      have hr := h.ring
      rintro (⟨e1, e2⟩ | ⟨e1, e2⟩)
      · simp only at e1 e2; omega
      · simp only at e1 e2
        have := h.line (1 + 1 * i) (by omega) (by omega)
        omega
structure TiesOk (names : List PySem.Str) (ties : List Tie) : Prop where
  mem : ∀ t ∈ ties, t.1 ∈ names ∧ t.2.1 ∈ names
  lt : ∀ t ∈ ties, ltS t.1 t.2.1
  len : ∀ t ∈ ties, 1 ≤ t.2.2 ∧ t.2.2 ≤ 50
  dis : ties.Pairwise fun t u => ¬ (t.1 = u.1 ∧ t.2.1 = u.2.1)
  cnt : ties.length ≤ names.length + 1
theorem nmAt_mem {order : List PySem.Str} {i : Nat} (h : i < order.length) : nmAt order i ∈ order := by
  unfold nmAt
  rw [List.getD_eq_getElem?_getD, List.getElem?_eq_getElem h]
  exact List.getElem_mem h
theorem nmAt_inj {order : List PySem.Str} (hn : order.Nodup) {i j : Nat} (hi : i < order.length) (hj : j < order.length) (h : nmAt order i = nmAt order j) : i = j := by
  unfold nmAt at h
  rw [List.getD_eq_getElem?_getD, List.getD_eq_getElem?_getD, List.getElem?_eq_getElem hi, List.getElem?_eq_getElem hj] at h
  simp only [Option.getD_some] at h
  exact (List.getElem_inj hn).mp h
theorem MapOk.ties {names : List PySem.Str} {ties : List Tie} (h : MapOk names ties) : TiesOk names ties := by
  obtain ⟨order, around, par, lens, hp, ek, hl, rfl⟩ := h.made
  have ol := hp.length_eq
  have on : order.Nodup := hp.nodup_iff.mpr h.nms.nodup
  have pm := List.mergeSort_perm ((endsF around par names.length).zipIdx.map fun p => tieOf order p.1 (lens p.2)) leT
  have from_ : ∀ t, t ∈ ((endsF around par names.length).zipIdx.map fun p => tieOf order p.1 (lens p.2)).mergeSort leT → ∃ e i, e ∈ endsF around par names.length ∧ e.1 < order.length ∧ e.2 < order.length ∧ e.1 ≠ e.2 ∧ t = tieOf order e (lens i) := by
    intro t ht
    obtain ⟨⟨e, i⟩, hm, rfl⟩ := List.mem_map.mp (pm.mem_iff.mp ht)
    have h2 := List.mem_zipIdx hm
    have hm2 : e ∈ endsF around par names.length := by
      rw [h2.2.2]
      exact List.getElem_mem _
    have h3 := ends_in h.pos ek hm2
    exact ⟨e, i, hm2, by omega, by omega, ends_ne ek hm2, rfl⟩
  refine ⟨fun t ht => ?_, fun t ht => ?_, fun t ht => ?_, ?_, ?_⟩
  · obtain ⟨e, i, _, h1, h2, _, rfl⟩ := from_ t ht
    have m1 := hp.mem_iff.mp (nmAt_mem h1)
    have m2 := hp.mem_iff.mp (nmAt_mem h2)
    unfold tieOf
    rcases mn_mx_cases (nmAt order e.1) (nmAt order e.2) with ⟨a, b⟩ | ⟨a, b⟩ <;> simp only [a, b] <;> exact ⟨by assumption, by assumption⟩
  · obtain ⟨e, i, _, h1, h2, h3, rfl⟩ := from_ t ht
    exact mn_mx fun e => h3 (nmAt_inj on h1 h2 e)
  · obtain ⟨e, i, _, _, _, _, rfl⟩ := from_ t ht
    exact hl i
  · refine (pm.pairwise_iff (fun {t u} h e => h ⟨e.1.symm, e.2.symm⟩)).mpr ?_
    rw [List.pairwise_map]
    have hz : ((endsF around par names.length).zipIdx.map (·.1)).Pairwise fun e f => ¬ SameE e f := by
      rw [List.zipIdx_map_fst]
      exact ends_dis ek
    rw [List.pairwise_map] at hz
    refine hz.imp_of_mem fun {p q} hp1 hq1 hne e => hne ?_
    have in2 : ∀ p, p ∈ (endsF around par names.length).zipIdx → p.1.1 < order.length ∧ p.1.2 < order.length := fun p hm => by
      obtain ⟨e, i⟩ := p
      have h2 := List.mem_zipIdx hm
      have hm2 : e ∈ endsF around par names.length := by
        rw [h2.2.2]
        exact List.getElem_mem _
      have h3 := ends_in h.pos ek hm2
      exact ⟨by show e.1 < _; omega, by show e.2 < _; omega⟩
    have a := in2 p hp1
    have b := in2 q hq1
    unfold tieOf at e
    simp only at e
    unfold SameE
    rcases mn_mx_cases (nmAt order p.1.1) (nmAt order p.1.2) with ⟨a1, a2⟩ | ⟨a1, a2⟩ <;> rcases mn_mx_cases (nmAt order q.1.1) (nmAt order q.1.2) with ⟨b1, b2⟩ | ⟨b1, b2⟩ <;> rw [a1, a2, b1, b2] at e
    · exact .inl ⟨nmAt_inj on a.1 b.1 e.1, nmAt_inj on a.2 b.2 e.2⟩
    · exact .inr ⟨nmAt_inj on a.1 b.2 e.1, nmAt_inj on a.2 b.1 e.2⟩
    · exact .inr ⟨nmAt_inj on a.1 b.2 e.2, nmAt_inj on a.2 b.1 e.1⟩
    · exact .inl ⟨nmAt_inj on a.1 b.1 e.2, nmAt_inj on a.2 b.2 e.1⟩
  · rw [pm.length_eq, List.length_map, List.length_zipIdx]
    exact ends_len
end Fw

namespace Fw
open L2
/-! ### dicts -/
theorem valK_putD {κ : Type} [DecidableEq κ] (kvs : List (κ × D)) (k k' : κ) (v : D) : valK (putD kvs k v) k' = if k = k' then some v else valK kvs k' := by
  unfold putD
  by_cases ha : (kvs.any fun kv => decide (kv.1 = k)) = true
  · rw [if_pos ha]
    unfold valK
    induction kvs with
    | nil => simp at ha
    | cons p r ih =>
      rw [List.map_cons, List.find?_cons, List.find?_cons]
      by_cases hp : p.1 = k
      · rw [if_pos hp]
        by_cases hk : k = k'
        · simp [hp, hk]
        · have hpk : ¬ p.1 = k' := fun e => hk (hp ▸ e)
          simp only [hpk, decide_false, hk, if_false]
          by_cases hr : (r.any fun kv => decide (kv.1 = k)) = true
          · have := ih hr
            simp only [hk, if_false] at this
            exact this
          · have e : r.map (fun kv => if kv.1 = k then (kv.1, v) else kv) = r := by
              have h2 : ∀ kv ∈ r, (if kv.1 = k then (kv.1, v) else kv) = kv := fun kv hkv => by
                rw [if_neg]
                intro e
                apply hr
                rw [List.any_eq_true]
                exact ⟨kv, hkv, by rw [decide_eq_true_eq]; exact e⟩
              rw [List.map_congr_left h2, List.map_id']
            rw [e]
      · rw [if_neg hp]
        have hr : (r.any fun kv => decide (kv.1 = k)) = true := by
          rw [List.any_cons, Bool.or_eq_true, decide_eq_true_eq] at ha
          exact ha.resolve_left hp
        by_cases hpk : p.1 = k'
        · have hk : ¬ k = k' := fun e => hp (hpk.trans e.symm)
          simp [hpk, hk]
        · simp only [hpk, decide_false]
          exact ih hr
  · rw [if_neg ha]
    unfold valK
    rw [List.find?_append]
    by_cases hk : k = k'
    · subst hk
      have : kvs.find? (fun kv => decide (kv.1 = k)) = none := by
        rw [List.find?_eq_none]
        intro kv hkv
        rw [decide_eq_true_eq]
        intro e
        apply ha
        rw [List.any_eq_true]
        exact ⟨kv, hkv, by rw [decide_eq_true_eq]; exact e⟩
      rw [this]
      simp
    · simp only [hk, if_false]
      cases h : kvs.find? fun kv => decide (kv.1 = k') with
      | some p => simp
      | none => simp [hk]
theorem putD_len {κ : Type} [DecidableEq κ] (kvs : List (κ × D)) (k : κ) (v : D) : (putD kvs k v).length ≤ kvs.length + 1 := by
  unfold putD
  split
  · rw [List.length_map]; omega
  · rw [List.length_append, List.length_singleton]; exact Nat.le_refl _
theorem putD_len_in {κ : Type} [DecidableEq κ] (kvs : List (κ × D)) (k : κ) (v : D) (h : (valK kvs k).isSome = true) : (putD kvs k v).length = kvs.length := by
  unfold putD
  rw [if_pos, List.length_map]
  unfold valK at h
  rw [Option.isSome_map, List.find?_isSome] at h
  rw [List.any_eq_true]
  obtain ⟨x, hx, hd⟩ := h
  exact ⟨x, hx, hd⟩
theorem mergeD_cons (kvs : List (Key × D)) (p : Key × D) (r : List (Key × D)) : mergeD kvs (p :: r) = mergeD (putD kvs p.1 p.2) r := rfl
theorem valK_merge (k : Key) : ∀ (more kvs : List (Key × D)), (∃ v, (k, v) ∈ more ∧ valK (mergeD kvs more) k = some v) ∨ ((∀ v, (k, v) ∉ more) ∧ valK (mergeD kvs more) k = valK kvs k)
  | [], kvs => .inr ⟨fun v h => (nomatch h), rfl⟩
  | p :: r, kvs => by
    rw [mergeD_cons]
    rcases valK_merge k r (putD kvs p.1 p.2) with ⟨v, h1, h2⟩ | ⟨h1, h2⟩
    · exact .inl ⟨v, List.mem_cons_of_mem _ h1, h2⟩
    · rw [valK_putD] at h2
      by_cases e : p.1 = k
      · rw [if_pos e] at h2
        exact .inl ⟨p.2, by rw [← e]; exact List.mem_cons_self, h2⟩
      · rw [if_neg e] at h2
        refine .inr ⟨fun v h => ?_, h2⟩
        rcases List.mem_cons.mp h with h | h
        · rw [← h] at e; exact e rfl
        · exact h1 v h
theorem keys_strs : ∀ l : List PySem.Str, keysD (l.map D.str) = .ok (l.map Sum.inr)
  | [] => rfl
  | x :: r => by
    rw [List.map_cons, keysD, keyD, R.bind_ok, keys_strs r]
    rfl
theorem keys_ints : ∀ l : List Int, keysD (l.map D.int) = .ok (l.map Sum.inl)
  | [] => rfl
  | x :: r => by
    rw [List.map_cons, keysD, keyD, R.bind_ok, keys_ints r]
    rfl
/-- what stands at a name -/
def atNm (names : List PySem.Str) (ts : List D) (a : PySem.Str) : Option D := valK (mergeD [] ((names.map Sum.inr).zip ts)) (.inr a)
theorem atNm_some {names : List PySem.Str} {ts : List D} (hl : ts.length = names.length) {a : PySem.Str} (ha : a ∈ names) : ∃ d ∈ ts, atNm names ts a = some d := by
  rcases valK_merge (.inr a) ((names.map Sum.inr).zip ts) [] with ⟨v, h1, h2⟩ | ⟨h1, _⟩
  · exact ⟨v, (List.of_mem_zip h1).2, h2⟩
  · obtain ⟨i, hi, e⟩ := List.getElem_of_mem ha
    have hi2 : i < ts.length := by omega
    exfalso
    apply h1 ts[i]
    rw [List.mem_iff_getElem]
    refine ⟨i, by rw [List.length_zip, List.length_map]; omega, ?_⟩
    rw [List.getElem_zip, List.getElem_map, e]
theorem zip_map_self {f : PySem.Str → D} : ∀ {names : List PySem.Str} {k : Key} {v : D}, (k, v) ∈ (names.map Sum.inr).zip (names.map f) → ∃ a ∈ names, k = .inr a ∧ v = f a
  | [], k, v, h => by simp at h
  | x :: r, k, v, h => by
    rw [List.map_cons, List.map_cons, List.zip_cons_cons] at h
    rcases List.mem_cons.mp h with h | h
    · cases h; exact ⟨x, List.mem_cons_self, rfl, rfl⟩
    · obtain ⟨a, h1, h2⟩ := zip_map_self h
      exact ⟨a, List.mem_cons_of_mem _ h1, h2⟩
theorem atNm_map (names : List PySem.Str) (f : PySem.Str → D) {a : PySem.Str} (ha : a ∈ names) : atNm names (names.map f) a = some (f a) := by
  rcases valK_merge (.inr a) ((names.map Sum.inr).zip (names.map f)) [] with ⟨v, h1, h2⟩ | ⟨h1, _⟩
  · obtain ⟨b, _, e1, e2⟩ := zip_map_self h1
    cases e1
    rw [e2] at h2
    exact h2
  · exfalso
    obtain ⟨i, hi, e⟩ := List.getElem_of_mem ha
    apply h1 (f a)
    rw [List.mem_iff_getElem]
    refine ⟨i, by rw [List.length_zip, List.length_map, List.length_map]; omega, ?_⟩
    rw [List.getElem_zip, List.getElem_map, List.getElem_map, e]
theorem lc_mapT {α : Type} {f : D → R (Option D)} (g : α → D) (c : α → Bool) : ∀ {l : List α}, (∀ t ∈ l, f (g t) = .ok (some (.bl (c t)))) → lcGo f (l.map g) = .ok ((l.map c).map D.bl)
  | [], _ => rfl
  | t :: r, h => by
    rw [List.map_cons, lcGo, h t List.mem_cons_self, R.bind_ok, lc_mapT g c fun x hx => h x (List.mem_cons_of_mem _ hx), R.bind_ok]
    rfl
/-- the item of a tuple, a list of texts -/
def intOf : D → Int
  | .int i => i
  | _ => 0
end Fw

namespace Fw
open L2
/-! ### the order of data -/
theorem dataLt_neg {a b c : PySem.PyData} (h : PySem.W.dataLt a c = true) : PySem.W.dataLt a b = true ∨ PySem.W.dataLt b c = true := (PyProof.Rows.listOrd PyProof.Rows.itemOrd).negTrans (PySem.W.keyToks a) (PySem.W.keyToks b) (PySem.W.keyToks c) h
theorem dataLt_irr (a : PySem.PyData) : PySem.W.dataLt a a = false := (PyProof.Rows.listOrd PyProof.Rows.itemOrd).irrefl (PySem.W.keyToks a)
theorem dataLt_tr {a b c : PySem.PyData} (h : PySem.W.dataLt a b = true) (h2 : PySem.W.dataLt b c = true) : PySem.W.dataLt a c = true := (PyProof.Rows.listOrd PyProof.Rows.itemOrd).trans (PySem.W.keyToks a) (PySem.W.keyToks b) (PySem.W.keyToks c) h h2
theorem dataLe_trans {β : Type} (k : β → PySem.PyData) (a b c : β) (h : PySem.W.dataLe false k a b = true) (h2 : PySem.W.dataLe false k b c = true) : PySem.W.dataLe false k a c = true := by
  rw [PySem.W.dataLe_eq] at *
  simp only [cond_false, Bool.not_eq_true'] at *
  cases e : PySem.W.dataLt (k c) (k a) with
  | false => rfl
  | true =>
    rcases dataLt_neg (b := k b) e with z | z
    · rw [h2] at z; cases z
    · rw [h] at z; cases z
theorem dataLe_total {β : Type} (k : β → PySem.PyData) (a b : β) : (PySem.W.dataLe false k a b || PySem.W.dataLe false k b a) = true := by
  rw [PySem.W.dataLe_eq]
  simp only [cond_false, Bool.or_eq_true, Bool.not_eq_true']
  cases e : PySem.W.dataLt (k b) (k a) with
  | false => exact .inl rfl
  | true =>
    refine .inr ?_
    cases e2 : PySem.W.dataLt (k a) (k b) with
    | false => rfl
    | true =>
      have := dataLt_tr e e2
      rw [dataLt_irr] at this
      cases this
theorem sorted_data_pw {β : Type} (k : β → PySem.PyData) (l : List β) : (l.mergeSort (PySem.W.dataLe false k)).Pairwise fun a b => PySem.W.dataLe false k a b = true := List.pairwise_mergeSort (dataLe_trans k) (dataLe_total k) l
end Fw

namespace Fw
open L2
/-! ### walks and paths on a map -/
def Adj (ties : List Tie) (a b : PySem.Str) (l : Int) : Prop := ∃ t ∈ ties, t.2.2 = l ∧ ((t.1 = a ∧ t.2.1 = b) ∨ (t.1 = b ∧ t.2.1 = a))
theorem Adj.symm {ties : List Tie} {a b : PySem.Str} {l : Int} (h : Adj ties a b l) : Adj ties b a l := let ⟨t, ht, e, h⟩ := h; ⟨t, ht, e, h.symm⟩
theorem Adj.mem {names : List PySem.Str} {ties : List Tie} (T : TiesOk names ties) {a b : PySem.Str} {l : Int} (h : Adj ties a b l) : a ∈ names ∧ b ∈ names := by
  obtain ⟨t, ht, _, ⟨rfl, rfl⟩ | ⟨rfl, rfl⟩⟩ := h
  · exact T.mem t ht
  · exact (T.mem t ht).symm
theorem Adj.len {names : List PySem.Str} {ties : List Tie} (T : TiesOk names ties) {a b : PySem.Str} {l : Int} (h : Adj ties a b l) : 1 ≤ l ∧ l ≤ 50 := by
  obtain ⟨t, ht, rfl, _⟩ := h
  exact T.len t ht
theorem Adj.ne {names : List PySem.Str} {ties : List Tie} (T : TiesOk names ties) {a b : PySem.Str} {l : Int} (h : Adj ties a b l) : a ≠ b := by
  obtain ⟨t, ht, _, ⟨rfl, rfl⟩ | ⟨rfl, rfl⟩⟩ := h
  · exact ltS_ne (T.lt t ht)
  · exact (ltS_ne (T.lt t ht)).symm
/-- a walk, its last step last -/
inductive WalkS (ties : List Tie) (one : PySem.Str) : PySem.Str → Int → Prop
  | nil : WalkS ties one one 0
  | snoc {a b : PySem.Str} {L l : Int} : WalkS ties one a L → Adj ties a b l → WalkS ties one b (L + l)
theorem WalkS.trans {ties : List Tie} {a b c : PySem.Str} {L M : Int} (h : WalkS ties a b L) (h2 : WalkS ties b c M) : WalkS ties a c (L + M) := by
  induction h2 with
  | nil => rw [Int.add_zero]; exact h
  | snoc _ ad ih => rw [← Int.add_assoc]; exact .snoc ih ad
theorem WalkS.one {ties : List Tie} {a b : PySem.Str} {l : Int} (h : Adj ties a b l) : WalkS ties a b l := by
  have := WalkS.snoc (WalkS.nil (ties := ties) (one := a)) h
  rw [Int.zero_add] at this
  exact this
theorem WalkS.symm {ties : List Tie} {a b : PySem.Str} {L : Int} (h : WalkS ties a b L) : WalkS ties b a L := by
  induction h with
  | nil => exact .nil
  | snoc _ ad ih =>
    rw [Int.add_comm]
    exact (WalkS.one ad.symm).trans ih
/-- a way: no place twice; the last place is the list's head -/
inductive Way (ties : List Tie) (one : PySem.Str) : List PySem.Str → Int → Prop
  | nil : Way ties one [one] 0
  | snoc {a b : PySem.Str} {r : List PySem.Str} {L l : Int} : Way ties one (a :: r) L → Adj ties a b l → b ∉ a :: r → Way ties one (b :: a :: r) (L + l)
theorem Way.walk {ties : List Tie} {one : PySem.Str} {p : List PySem.Str} {L : Int} (h : Way ties one p L) : ∃ a r, p = a :: r ∧ WalkS ties one a L := by
  induction h with
  | nil => exact ⟨_, _, rfl, .nil⟩
  | snoc _ ad _ ih =>
    obtain ⟨a, r, e, w⟩ := ih
    cases e
    exact ⟨_, _, rfl, .snoc w ad⟩
theorem Way.nodup {ties : List Tie} {one : PySem.Str} {p : List PySem.Str} {L : Int} (h : Way ties one p L) : p.Nodup := by
  induction h with
  | nil => exact List.nodup_cons.mpr ⟨fun h => (nomatch h), List.nodup_nil⟩
  | snoc _ _ hn ih => exact List.nodup_cons.mpr ⟨hn, ih⟩
theorem Way.nonneg {names : List PySem.Str} {ties : List Tie} (T : TiesOk names ties) {one : PySem.Str} {p : List PySem.Str} {L : Int} (h : Way ties one p L) : 0 ≤ L := by
  induction h with
  | nil => exact Int.le_refl _
  | snoc _ ad _ ih => have := ad.len T; omega
/-- a way's beginning up to a place on it -/
theorem Way.upto {names : List PySem.Str} {ties : List Tie} (T : TiesOk names ties) {one : PySem.Str} {p : List PySem.Str} {L : Int} (h : Way ties one p L) {b : PySem.Str} (hb : b ∈ p) : ∃ r M, Way ties one (b :: r) M ∧ M ≤ L := by
  induction h with
  | nil =>
    rw [List.mem_singleton] at hb
    subst hb
    exact ⟨_, _, .nil, Int.le_refl _⟩
  | snoc w ad hn ih =>
    rcases List.mem_cons.mp hb with e | hb
    · subst e
      exact ⟨_, _, .snoc w ad hn, Int.le_refl _⟩
    · obtain ⟨r, M, hw, hl⟩ := ih hb
      have := ad.len T
      exact ⟨r, M, hw, by omega⟩
/-- a walk holds a way no longer -/
theorem WalkS.way {names : List PySem.Str} {ties : List Tie} (T : TiesOk names ties) {one b : PySem.Str} {L : Int} (h : WalkS ties one b L) : ∃ r M, Way ties one (b :: r) M ∧ M ≤ L := by
  induction h with
  | nil => exact ⟨_, _, .nil, Int.le_refl _⟩
  | @snoc a b L l _ ad ih =>
    obtain ⟨r, M, w, hl⟩ := ih
    have hlen := ad.len T
    by_cases hb : b ∈ a :: r
    · obtain ⟨r', M', w', hl'⟩ := w.upto T hb
      exact ⟨r', M', w', by omega⟩
    · exact ⟨a :: r, M + l, .snoc w ad hb, by omega⟩
/-- each place is reached from each -/
def Tied (names : List PySem.Str) (ties : List Tie) : Prop := ∀ a ∈ names, ∀ b ∈ names, ∃ L, WalkS ties a b L
end Fw

namespace Fw
open L2
/-! ### a drawn map is tied -/
theorem tieOf_adj {ties : List Tie} {order : List PySem.Str} {e : Nat × Nat} {l : Int} (h : tieOf order e l ∈ ties) : Adj ties (nmAt order e.1) (nmAt order e.2) l := by
  refine ⟨_, h, rfl, ?_⟩
  unfold tieOf
  rcases mn_mx_cases (nmAt order e.1) (nmAt order e.2) with ⟨a, b⟩ | ⟨a, b⟩
  · exact .inl ⟨a, b⟩
  · exact .inr ⟨a, b⟩
theorem MapOk.tied {names : List PySem.Str} {ties : List Tie} (h : MapOk names ties) : Tied names ties := by
  obtain ⟨order, around, par, lens, hp, ek, hl, rfl⟩ := h.made
  have ol := hp.length_eq
  have pm := List.mergeSort_perm ((endsF around par names.length).zipIdx.map fun p => tieOf order p.1 (lens p.2)) leT
  have root : ∀ k, k < names.length → ∃ L, WalkS (((endsF around par names.length).zipIdx.map fun p => tieOf order p.1 (lens p.2)).mergeSort leT) (nmAt order 0) (nmAt order k) L := by
    intro k
    induction k using Nat.strongRecOn with
    | ind k ih =>
      intro hk
      by_cases h0 : k = 0
      · subst h0; exact ⟨0, .nil⟩
      · have hlow := ek.low k (by omega) hk
        obtain ⟨L, w⟩ := ih (par k) hlow (by omega)
        have hm : (par k, k) ∈ endsF around par names.length := by
          unfold endsF
          refine List.mem_append.mpr (.inr (List.mem_map.mpr ⟨k, ?_, rfl⟩))
          rw [List.mem_range']
          exact ⟨k - 1, by omega, by omega⟩
        obtain ⟨i, hi, e⟩ := List.getElem_of_mem hm
        have hz : ((par k, k), i) ∈ (endsF around par names.length).zipIdx := by
          rw [List.mem_zipIdx_iff_getElem?]
          rw [List.getElem?_eq_getElem hi, e]
        have ht : tieOf order (par k, k) (lens i) ∈ ((endsF around par names.length).zipIdx.map fun p => tieOf order p.1 (lens p.2)).mergeSort leT := pm.mem_iff.mpr (List.mem_map.mpr ⟨_, hz, rfl⟩)
        exact ⟨_, .snoc w (tieOf_adj ht)⟩
  intro a ha b hb
  have at_ : ∀ a ∈ names, ∃ k, k < names.length ∧ nmAt order k = a := fun a ha => by
    obtain ⟨k, hk, e⟩ := List.getElem_of_mem (hp.mem_iff.mpr ha)
    refine ⟨k, by omega, ?_⟩
    unfold nmAt
    rw [List.getD_eq_getElem?_getD, List.getElem?_eq_getElem hk]
    exact e
  obtain ⟨i, hi, rfl⟩ := at_ a ha
  obtain ⟨j, hj, rfl⟩ := at_ b hb
  obtain ⟨L, w⟩ := root i hi
  obtain ⟨M, w2⟩ := root j hj
  exact ⟨_, w.symm.trans w2⟩
end Fw

namespace Fw
def C_far : List S := [.asg (.v 1) (.dict0 true) 1, .for_ (.v 2) (.seq (.ix (.v 0) (.k (.int 0)))) [.for_ (.v 3) (.seq (.ix (.v 0) (.k (.int 0)))) [.dst 1 (.tup [.v 2, .v 3]) (.ix (.lst [.k (.int 9999), .k (.int 0)]) (.bi .int [.cmp .eq (.v 2) (.v 3)]))]], .for_ (.t [.v 2, .v 3, .v 4]) (.seq (.ix (.v 0) (.k (.int 1)))) [.dst 1 (.tup [.v 2, .v 3]) (.v 4), .dst 1 (.tup [.v 3, .v 2]) (.v 4)], .for_ (.v 5) (.seq (.ix (.v 0) (.k (.int 0)))) [.for_ (.v 2) (.seq (.ix (.v 0) (.k (.int 0)))) [.for_ (.v 3) (.seq (.ix (.v 0) (.k (.int 0)))) [.dst 1 (.tup [.v 2, .v 3]) (.bi .min [.dget (.v 1) (.tup [.v 2, .v 3]), .op .add (.dget (.v 1) (.tup [.v 2, .v 5])) (.dget (.v 1) (.tup [.v 5, .v 3]))])]]], .ret (.v 1)]
end Fw
namespace Fw
open L2
/-! ### how far it is: the laws' own reckoning -/
theorem ix0 (a b : D) : atI [a, b] 0 = some a := rfl
theorem ix1 (a b : D) : atI [a, b] 1 = some b := rfl
abbrev Kvs := List (List Key × D)
def ky (a b : PySem.Str) : List Key := [.inr a, .inr b]
theorem ky_inj {a b c d : PySem.Str} (h : ky a b = ky c d) : a = c ∧ b = d := by
  unfold ky at h
  simp only [List.cons.injEq, Sum.inr.injEq, and_true] at h
  exact h
theorem ky_eq (a b c d : PySem.Str) : (ky a b = ky c d) ↔ (a = c ∧ b = d) := ⟨ky_inj, fun ⟨e, f⟩ => by rw [e, f]⟩
def dOf (kvs : Kvs) (a b : PySem.Str) : Int := intOf ((valK kvs (ky a b)).getD .non)
theorem dOf_put (kvs : Kvs) (a b : PySem.Str) (v : Int) (c d : PySem.Str) : dOf (putD kvs (ky a b) (.int v)) c d = if c = a ∧ d = b then v else dOf kvs c d := by
  unfold dOf
  rw [valK_putD]
  by_cases e : ky a b = ky c d
  · obtain ⟨e1, e2⟩ := ky_inj e
    rw [if_pos e, if_pos ⟨e1.symm, e2.symm⟩]
    rfl
  · rw [if_neg e, if_neg (fun ⟨e1, e2⟩ => e (by rw [e1, e2]))]
theorem val_put (kvs : Kvs) (a b : PySem.Str) (v : Int) {c d : PySem.Str} (h : (∃ i : Int, valK kvs (ky c d) = some (.int i)) ∨ (c = a ∧ d = b)) : ∃ i : Int, valK (putD kvs (ky a b) (.int v)) (ky c d) = some (.int i) := by
  rw [valK_putD]
  by_cases e : ky a b = ky c d
  · rw [if_pos e]; exact ⟨v, rfl⟩
  · rw [if_neg e]
    rcases h with h | ⟨e1, e2⟩
    · exact h
    · exact absurd (by rw [e1, e2]) e
theorem dOf_eq {kvs : Kvs} {a b : PySem.Str} {i : Int} (h : valK kvs (ky a b) = some (.int i)) : dOf kvs a b = i := by
  unfold dOf
  rw [h]
  rfl
structure Ph (names : List PySem.Str) (ties : List Tie) (f0 : PySem.Str → PySem.Str → Int) (m : PySem.Str) (S : PySem.Str → PySem.Str → Prop) (kvs : Kvs) : Prop where
  cov : ∀ a ∈ names, ∀ b ∈ names, ∃ i : Int, valK kvs (ky a b) = some (.int i)
  nn : ∀ a ∈ names, ∀ b ∈ names, 0 ≤ dOf kvs a b
  le : ∀ a ∈ names, ∀ b ∈ names, dOf kvs a b ≤ f0 a b
  row : ∀ a ∈ names, dOf kvs a m = f0 a m
  col : ∀ b ∈ names, dOf kvs m b = f0 m b
  one : ∀ a ∈ names, ∀ b ∈ names, dOf kvs a b = f0 a b ∨ dOf kvs a b = f0 a m + f0 m b
  pr : ∀ a ∈ names, ∀ b ∈ names, S a b → dOf kvs a b ≤ f0 a m + f0 m b
  len : kvs.length ≤ 1000
  wk : ∀ a ∈ names, ∀ b ∈ names, dOf kvs a b < 9999 → WalkS ties a b (dOf kvs a b)
  slf : ∀ a ∈ names, dOf kvs a a = 0
theorem Ph.step {names : List PySem.Str} {ties : List Tie} {f0 : PySem.Str → PySem.Str → Int} {m : PySem.Str} {S S' : PySem.Str → PySem.Str → Prop} {kvs : Kvs} (h : Ph names ties f0 m S kvs) (hm : m ∈ names) {a b : PySem.Str} (ha : a ∈ names) (hb : b ∈ names) (hS : ∀ c d, S' c d → S c d ∨ (c = a ∧ d = b)) :
    Ph names ties f0 m S' (putD kvs (ky a b) (.int (if dOf kvs a m + dOf kvs m b < dOf kvs a b then dOf kvs a m + dOf kvs m b else dOf kvs a b))) := by
  have n1 := h.nn a ha m hm
  have n2 := h.nn m hm b hb
  have n3 := h.nn a ha b hb
  have n4 := h.nn m hm m hm
  have l1 := h.le a ha b hb
  have r1 := h.row a ha
  have c1 := h.col b hb
  have r2 := h.row m hm
  have o1 := h.one a ha b hb
  refine ⟨fun c hc d hd => val_put _ _ _ _ (.inl (h.cov c hc d hd)), fun c hc d hd => ?_, fun c hc d hd => ?_, fun c hc => ?_, fun d hd => ?_, fun c hc d hd => ?_, fun c hc d hd hs => ?_, ?_, fun c hc d hd hlt => ?_, fun c hc => ?_⟩
  · rw [dOf_put]
    split
    · split <;> omega
    · exact h.nn c hc d hd
  · rw [dOf_put]
    split
    · rename_i e; rw [e.1, e.2]; split <;> omega
    · exact h.le c hc d hd
  · rw [dOf_put]
    split
    · rename_i e
      obtain ⟨rfl, rfl⟩ := e
      split <;> omega
    · exact h.row c hc
  · rw [dOf_put]
    split
    · rename_i e
      obtain ⟨rfl, rfl⟩ := e
      split <;> omega
    · exact h.col d hd
  · rw [dOf_put]
    split
    · rename_i e
      obtain ⟨rfl, rfl⟩ := e
      split
      · right; omega
      · exact o1
    · exact h.one c hc d hd
  · rw [dOf_put]
    split
    · rename_i e
      obtain ⟨rfl, rfl⟩ := e
      split <;> omega
    · rename_i e
      exact h.pr c hc d hd ((hS c d hs).resolve_right e)
  · rw [putD_len_in]
    · exact h.len
    · obtain ⟨i, hi⟩ := h.cov a ha b hb
      rw [hi]; rfl
  · rw [dOf_put] at hlt ⊢
    split at hlt
    · rename_i e
      obtain ⟨rfl, rfl⟩ := e
      rw [if_pos ⟨rfl, rfl⟩]
      split at hlt
      · rename_i hs
        rw [if_pos hs]
        exact (h.wk _ ha m hm (by omega)).trans (h.wk m hm _ hb (by omega))
      · rename_i hs
        rw [if_neg hs]
        exact h.wk _ ha _ hb hlt
    · rename_i e
      rw [if_neg e]
      exact h.wk c hc d hd hlt
  · rw [dOf_put]
    split
    · rename_i e
      obtain ⟨e1, e2⟩ := e
      have hs := h.slf c hc
      rw [← e1] at n1
      rw [← e2] at n2
      rw [← e1, ← e2]
      split <;> omega
    · exact h.slf c hc
def G_body : List S := [.dst 1 (.tup [.v 2, .v 3]) (.bi .min [.dget (.v 1) (.tup [.v 2, .v 3]), .op .add (.dget (.v 1) (.tup [.v 2, .v 5])) (.dget (.v 1) (.tup [.v 5, .v 3]))])]
theorem g_step {C : CallT} {names : List PySem.Str} {ties : List Tie} {f0 : PySem.Str → PySem.Str → Int} {m : PySem.Str} {S : PySem.Str → PySem.Str → Prop} {kvs : Kvs} (h : Ph names ties f0 m S kvs) (hm : m ∈ names) {a b : PySem.Str} (ha : a ∈ names) (hb : b ∈ names) {s0 s4 : Option Slot} :
    W (evSs C G_body [s0, some ⟨.dT kvs, 1⟩, some ⟨.str a, 0⟩, some ⟨.str b, 0⟩, s4, some ⟨.str m, 0⟩]) fun o => ∃ kvs', o = .nx [s0, some ⟨.dT kvs', 1⟩, some ⟨.str a, 0⟩, some ⟨.str b, 0⟩, s4, some ⟨.str m, 0⟩] ∧ Ph names ties f0 m (fun c d => S c d ∨ (c = a ∧ d = b)) kvs' := by
  obtain ⟨i, hi⟩ := h.cov a ha b hb
  obtain ⟨j, hj⟩ := h.cov a ha m hm
  obtain ⟨k, hk⟩ := h.cov m hm b hb
  have hi' : valK kvs [Sum.inr a, Sum.inr b] = some (.int i) := hi
  have hj' : valK kvs [Sum.inr a, Sum.inr m] = some (.int j) := hj
  have hk' : valK kvs [Sum.inr m, Sum.inr b] = some (.int k) := hk
  have st := h.step hm ha hb (S' := fun c d => S c d ∨ (c = a ∧ d = b)) (fun c d h => h)
  rw [dOf_eq hi, dOf_eq hj, dOf_eq hk] at st
  simp only [G_body]
  simp only [id_eq, R.bind_ok, R.guard_true, ss_cons, ss_nil, Sq, Fl, W_bind, W_ok, W_guard, R.ite_true, R.ite_false, W_ite, evS, evE, evEs, evO, evTs, evIt, strD_i, keyD_i, keyD_s, keysD_n, keysD_c, dgetD_s, dgetD_i, dgetD_t, dinD_s, dinD_i, dinD_t, setPat_v, setPat_t, setPats_n, setPats_c, setSlot, start0, wipeE, ownL, stoD, dstD, rangeD, List.map_cons, List.map_nil, List.cons_append, List.nil_append, List.append_nil, List.length_cons, List.length_nil, List.replicate_succ, List.replicate_zero, List.getElem?_cons_zero, List.getElem?_cons_succ, List.set_cons_zero, List.set_cons_succ, List.all_cons, List.all_nil, Nat.add_sub_cancel, Nat.reduceAdd, Nat.reduceSub, Bool.and_true, Bool.true_and, Bool.and_self, Bool.not_true, Bool.not_false, true_and, and_true, decide_eq_true_eq, Nat.zero_add, decide_eq_false_iff_not, Int.reduceLT, Int.reduceEq, eqD_i, eqD_s, shp_i, shp_s, shp_b, shp_n, Int.reduceLE, Int.reduceMul, Int.reduceAdd, Int.reduceMod, Int.reduceNeg, Int.reduceSub, Int.reduceToNat, reduceCtorEq, false_implies, true_implies, decide_true, decide_false, forall_const, Bool.false_eq_true, Bool.not_eq_true', Bool.and_eq_true, Bool.or_eq_true, addD_i, addD_s, addD_l, addD_t, subD_i, mulD_i, mulD_s, fdivD_i, modD_i, powD_i, ltD_i, ltD_s, leD_i, leD_s, gtD_i, gtD_s, geD_i, geD_s, inD_l, inD_t, inD_s, isBl_b, cmpD_eq, cmpD_ne, cmpD_lt, cmpD_le, cmpD_gt, cmpD_ge, cmpD_in, cmpD_notin, cmpD_isN, cmpD_notN, cmpD_isB, cmpD_notB, isNon_n, isNon_i, isNon_b, isNon_s, isNon_l, isNon_t, items_l, items_t, itemsI_l, itemsI_t, itemsI_s, ixD_l, ixD_t, ixD_s, slD_l, slD_t, slD_s, lenD_l, lenD_t, lenD_s, lenD_d, absD_i, minD_i, maxD_i, minD_1, maxD_1, bestD_c, sortedD_1, listD_1, tupleD_1, allD_l, anyD_l, sumD_l, sumD_t, intD_i, intD_b, boolD_b, boolD_i, joinD_s, retK_sh, retK_nw, retK_bw, kdOf_0, kdOf_1, kdOf_2, inKd_sh, inKd_nw, inKd_bw, inKd_b2, toKd_t, toKd_f, notBw_sh, notBw_nw, notBw_bw, notBw_b2, exact_sh, exact_nw, exact_bw, ownOk_l, ownOk_K, ownOk_T, ownOk_2, tyD_ii, tyD_ib, tyD_is, tyD_in, tyD_il, tyD_it, tyD_bi, tyD_bb, tyD_bs, tyD_bn, tyD_bl, tyD_bt, tyD_si, tyD_sb, tyD_ss, tyD_sn, tyD_sl, tyD_st, tyD_ti, tyD_tb, tyD_ts, tyD_tn, tyD_tl, tyD_tt, tyD_li, tyD_lb, tyD_ls, tyD_ln, tyD_ll, tyD_lt, biD_1, biD_2, biD_3, biD_4, biD_5, biD_6, biD_7, biD_8, biD_9, biD_10, biD_11, biD_12, biD_13, biD_14, biD_15, op2D_1, op2D_2, op2D_3, op2D_4, op2D_5, op2D_6, oR_some, Option.map_some, true_or, false_or, lend_ret, notB2_sh, notB2_nw, notB2_bw, resOk_bl, resOk_int, resOk_non, resOk_str, resOk_l, resOk_t, hi', hj', hk']
  exact ⟨by have := h.len; simp only [line]; omega, _, rfl, st⟩
theorem g_loop3 {C : CallT} {names : List PySem.Str} {ties : List Tie} {f0 : PySem.Str → PySem.Str → Int} {m : PySem.Str} (hm : m ∈ names) {a : PySem.Str} (ha : a ∈ names) {s0 s4 : Option Slot} : ∀ (suf : List PySem.Str) (S : PySem.Str → PySem.Str → Prop) (kvs : Kvs) (s3 : Option Slot) (Q : Flow → Prop), Ph names ties f0 m S kvs → (∀ b ∈ suf, b ∈ names) →
    (∀ kvs s3, Ph names ties f0 m (fun c d => S c d ∨ (c = a ∧ d ∈ suf)) kvs → Q (.nx [s0, some ⟨.dT kvs, 1⟩, some ⟨.str a, 0⟩, s3, s4, some ⟨.str m, 0⟩])) →
    W (forGo (.v 3) (fun ρ => evSs C G_body ρ) (suf.map .str) [s0, some ⟨.dT kvs, 1⟩, some ⟨.str a, 0⟩, s3, s4, some ⟨.str m, 0⟩]) Q := by
  intro suf
  induction suf with
  | nil =>
    intro S kvs s3 Q h hs hq
    rw [List.map_nil, forGo, W_ok]
    exact hq kvs s3 ⟨h.cov, h.nn, h.le, h.row, h.col, h.one, fun c hc d hd hcd => h.pr c hc d hd (hcd.resolve_right fun e => (nomatch e.2)), h.len, h.wk, h.slf⟩
  | cons b suf ih =>
    intro S kvs s3 Q h hs hq
    rw [List.map_cons, forGo, W_bind]
    rw [show setPat (.v 3) (.str b) _ = .ok _ from rfl, W_ok, W_bind]
    refine (g_step h hm ha (hs b List.mem_cons_self)).mono fun o ho => ?_
    obtain ⟨kvs', rfl, h'⟩ := ho
    refine ih _ kvs' _ Q h' (fun c hc => hs c (List.mem_cons_of_mem _ hc)) fun kvs s3 h => hq kvs s3 ⟨h.cov, h.nn, h.le, h.row, h.col, h.one, fun c hc d hd hcd => h.pr c hc d hd ?_, h.len, h.wk, h.slf⟩
    rcases hcd with h | ⟨e, h⟩
    · exact .inl (.inl h)
    · rcases List.mem_cons.mp h with h | h
      · exact .inl (.inr ⟨e, h⟩)
      · exact .inr ⟨e, h⟩
def G_body2 : List S := [.for_ (.v 3) (.seq (.ix (.v 0) (.k (.int 0)))) G_body]
theorem g_loop2 {C : CallT} {names : List PySem.Str} {ties : List Tie} {f0 : PySem.Str → PySem.Str → Int} {m : PySem.Str} (hm : m ∈ names) {s4 : Option Slot} : ∀ (suf : List PySem.Str) (S : PySem.Str → PySem.Str → Prop) (kvs : Kvs) (s2 s3 : Option Slot) (Q : Flow → Prop), Ph names ties f0 m S kvs → (∀ b ∈ suf, b ∈ names) →
    (∀ kvs s2 s3, Ph names ties f0 m (fun c d => S c d ∨ (c ∈ suf ∧ d ∈ names)) kvs → Q (.nx [some ⟨mapD names ties, 0⟩, some ⟨.dT kvs, 1⟩, s2, s3, s4, some ⟨.str m, 0⟩])) →
    W (forGo (.v 2) (fun ρ => evSs C G_body2 ρ) (suf.map .str) [some ⟨mapD names ties, 0⟩, some ⟨.dT kvs, 1⟩, s2, s3, s4, some ⟨.str m, 0⟩]) Q := by
  intro suf
  induction suf with
  | nil =>
    intro S kvs s2 s3 Q h hs hq
    rw [List.map_nil, forGo, W_ok]
    exact hq kvs s2 s3 ⟨h.cov, h.nn, h.le, h.row, h.col, h.one, fun c hc d hd hcd => h.pr c hc d hd (hcd.resolve_right fun e => (nomatch e.1)), h.len, h.wk, h.slf⟩
  | cons a suf ih =>
    intro S kvs s2 s3 Q h hs hq
    rw [List.map_cons, forGo, W_bind]
    rw [show setPat (.v 2) (.str a) _ = .ok _ from rfl, W_ok, W_bind]
    simp only [G_body2]
    simp only [id_eq, R.bind_ok, R.guard_true, ss_cons, ss_nil, Sq, Fl, W_bind, W_ok, W_guard, R.ite_true, R.ite_false, W_ite, evS, evE, evEs, evO, evTs, evIt, strD_i, keyD_i, keyD_s, keysD_n, keysD_c, dgetD_s, dgetD_i, dgetD_t, dinD_s, dinD_i, dinD_t, setPat_v, setPat_t, setPats_n, setPats_c, setSlot, start0, wipeE, ownL, stoD, dstD, rangeD, List.map_cons, List.map_nil, List.cons_append, List.nil_append, List.append_nil, List.length_cons, List.length_nil, List.replicate_succ, List.replicate_zero, List.getElem?_cons_zero, List.getElem?_cons_succ, List.set_cons_zero, List.set_cons_succ, List.all_cons, List.all_nil, Nat.add_sub_cancel, Nat.reduceAdd, Nat.reduceSub, Bool.and_true, Bool.true_and, Bool.and_self, Bool.not_true, Bool.not_false, true_and, and_true, decide_eq_true_eq, Nat.zero_add, decide_eq_false_iff_not, Int.reduceLT, Int.reduceEq, eqD_i, eqD_s, shp_i, shp_s, shp_b, shp_n, Int.reduceLE, Int.reduceMul, Int.reduceAdd, Int.reduceMod, Int.reduceNeg, Int.reduceSub, Int.reduceToNat, reduceCtorEq, false_implies, true_implies, decide_true, decide_false, forall_const, Bool.false_eq_true, Bool.not_eq_true', Bool.and_eq_true, Bool.or_eq_true, addD_i, addD_s, addD_l, addD_t, subD_i, mulD_i, mulD_s, fdivD_i, modD_i, powD_i, ltD_i, ltD_s, leD_i, leD_s, gtD_i, gtD_s, geD_i, geD_s, inD_l, inD_t, inD_s, isBl_b, cmpD_eq, cmpD_ne, cmpD_lt, cmpD_le, cmpD_gt, cmpD_ge, cmpD_in, cmpD_notin, cmpD_isN, cmpD_notN, cmpD_isB, cmpD_notB, isNon_n, isNon_i, isNon_b, isNon_s, isNon_l, isNon_t, items_l, items_t, itemsI_l, itemsI_t, itemsI_s, ixD_l, ixD_t, ixD_s, slD_l, slD_t, slD_s, lenD_l, lenD_t, lenD_s, lenD_d, absD_i, minD_i, maxD_i, minD_1, maxD_1, bestD_c, sortedD_1, listD_1, tupleD_1, allD_l, anyD_l, sumD_l, sumD_t, intD_i, intD_b, boolD_b, boolD_i, joinD_s, retK_sh, retK_nw, retK_bw, kdOf_0, kdOf_1, kdOf_2, inKd_sh, inKd_nw, inKd_bw, inKd_b2, toKd_t, toKd_f, notBw_sh, notBw_nw, notBw_bw, notBw_b2, exact_sh, exact_nw, exact_bw, ownOk_l, ownOk_K, ownOk_T, ownOk_2, tyD_ii, tyD_ib, tyD_is, tyD_in, tyD_il, tyD_it, tyD_bi, tyD_bb, tyD_bs, tyD_bn, tyD_bl, tyD_bt, tyD_si, tyD_sb, tyD_ss, tyD_sn, tyD_sl, tyD_st, tyD_ti, tyD_tb, tyD_ts, tyD_tn, tyD_tl, tyD_tt, tyD_li, tyD_lb, tyD_ls, tyD_ln, tyD_ll, tyD_lt, biD_1, biD_2, biD_3, biD_4, biD_5, biD_6, biD_7, biD_8, biD_9, biD_10, biD_11, biD_12, biD_13, biD_14, biD_15, op2D_1, op2D_2, op2D_3, op2D_4, op2D_5, op2D_6, oR_some, Option.map_some, true_or, false_or, lend_ret, notB2_sh, notB2_nw, notB2_bw, resOk_bl, resOk_int, resOk_non, resOk_str, resOk_l, resOk_t, mapD, ix0]
    refine g_loop3 hm (hs a List.mem_cons_self) names S kvs s3 _ h (fun b hb => hb) fun kvs' s3 h' => ?_
    simp only [id_eq, R.bind_ok, R.guard_true, ss_cons, ss_nil, Sq, Fl, W_bind, W_ok, W_guard, R.ite_true, R.ite_false, W_ite, evS, evE, evEs, evO, evTs, evIt, strD_i, keyD_i, keyD_s, keysD_n, keysD_c, dgetD_s, dgetD_i, dgetD_t, dinD_s, dinD_i, dinD_t, setPat_v, setPat_t, setPats_n, setPats_c, setSlot, start0, wipeE, ownL, stoD, dstD, rangeD, List.map_cons, List.map_nil, List.cons_append, List.nil_append, List.append_nil, List.length_cons, List.length_nil, List.replicate_succ, List.replicate_zero, List.getElem?_cons_zero, List.getElem?_cons_succ, List.set_cons_zero, List.set_cons_succ, List.all_cons, List.all_nil, Nat.add_sub_cancel, Nat.reduceAdd, Nat.reduceSub, Bool.and_true, Bool.true_and, Bool.and_self, Bool.not_true, Bool.not_false, true_and, and_true, decide_eq_true_eq, Nat.zero_add, decide_eq_false_iff_not, Int.reduceLT, Int.reduceEq, eqD_i, eqD_s, shp_i, shp_s, shp_b, shp_n, Int.reduceLE, Int.reduceMul, Int.reduceAdd, Int.reduceMod, Int.reduceNeg, Int.reduceSub, Int.reduceToNat, reduceCtorEq, false_implies, true_implies, decide_true, decide_false, forall_const, Bool.false_eq_true, Bool.not_eq_true', Bool.and_eq_true, Bool.or_eq_true, addD_i, addD_s, addD_l, addD_t, subD_i, mulD_i, mulD_s, fdivD_i, modD_i, powD_i, ltD_i, ltD_s, leD_i, leD_s, gtD_i, gtD_s, geD_i, geD_s, inD_l, inD_t, inD_s, isBl_b, cmpD_eq, cmpD_ne, cmpD_lt, cmpD_le, cmpD_gt, cmpD_ge, cmpD_in, cmpD_notin, cmpD_isN, cmpD_notN, cmpD_isB, cmpD_notB, isNon_n, isNon_i, isNon_b, isNon_s, isNon_l, isNon_t, items_l, items_t, itemsI_l, itemsI_t, itemsI_s, ixD_l, ixD_t, ixD_s, slD_l, slD_t, slD_s, lenD_l, lenD_t, lenD_s, lenD_d, absD_i, minD_i, maxD_i, minD_1, maxD_1, bestD_c, sortedD_1, listD_1, tupleD_1, allD_l, anyD_l, sumD_l, sumD_t, intD_i, intD_b, boolD_b, boolD_i, joinD_s, retK_sh, retK_nw, retK_bw, kdOf_0, kdOf_1, kdOf_2, inKd_sh, inKd_nw, inKd_bw, inKd_b2, toKd_t, toKd_f, notBw_sh, notBw_nw, notBw_bw, notBw_b2, exact_sh, exact_nw, exact_bw, ownOk_l, ownOk_K, ownOk_T, ownOk_2, tyD_ii, tyD_ib, tyD_is, tyD_in, tyD_il, tyD_it, tyD_bi, tyD_bb, tyD_bs, tyD_bn, tyD_bl, tyD_bt, tyD_si, tyD_sb, tyD_ss, tyD_sn, tyD_sl, tyD_st, tyD_ti, tyD_tb, tyD_ts, tyD_tn, tyD_tl, tyD_tt, tyD_li, tyD_lb, tyD_ls, tyD_ln, tyD_ll, tyD_lt, biD_1, biD_2, biD_3, biD_4, biD_5, biD_6, biD_7, biD_8, biD_9, biD_10, biD_11, biD_12, biD_13, biD_14, biD_15, op2D_1, op2D_2, op2D_3, op2D_4, op2D_5, op2D_6, oR_some, Option.map_some, true_or, false_or, lend_ret, notB2_sh, notB2_nw, notB2_bw, resOk_bl, resOk_int, resOk_non, resOk_str, resOk_l, resOk_t]
    refine ih _ kvs' _ _ Q h' (fun c hc => hs c (List.mem_cons_of_mem _ hc)) fun kvs s2 s3 h => hq kvs s2 s3 ⟨h.cov, h.nn, h.le, h.row, h.col, h.one, fun c hc d hd hcd => h.pr c hc d hd ?_, h.len, h.wk, h.slf⟩
    rcases hcd with h | ⟨e, h⟩
    · exact .inl (.inl h)
    · rcases List.mem_cons.mp e with e | e
      · exact .inl (.inr ⟨e, h⟩)
      · exact .inr ⟨e, h⟩
structure Far (names : List PySem.Str) (ties : List Tie) (M : PySem.Str → Prop) (kvs : Kvs) : Prop where
  cov : ∀ a ∈ names, ∀ b ∈ names, ∃ i : Int, valK kvs (ky a b) = some (.int i)
  nn : ∀ a ∈ names, ∀ b ∈ names, 0 ≤ dOf kvs a b
  ub : ∀ a ∈ names, ∀ b ∈ names, dOf kvs a b ≤ 9999
  tie : ∀ t ∈ ties, dOf kvs t.1 t.2.1 ≤ t.2.2 ∧ dOf kvs t.2.1 t.1 ≤ t.2.2
  tri : ∀ m ∈ names, M m → ∀ a ∈ names, ∀ b ∈ names, dOf kvs a b ≤ dOf kvs a m + dOf kvs m b
  len : kvs.length ≤ 1000
  wk : ∀ a ∈ names, ∀ b ∈ names, dOf kvs a b < 9999 → WalkS ties a b (dOf kvs a b)
  slf : ∀ a ∈ names, dOf kvs a a = 0
theorem Far.turn {names : List PySem.Str} {ties : List Tie} {M : PySem.Str → Prop} {kvs kvs' : Kvs} {m : PySem.Str} (h : Far names ties M kvs) (T : TiesOk names ties) (hm : m ∈ names) (p : Ph names ties (dOf kvs) m (fun c d => False ∨ (c ∈ names ∧ d ∈ names)) kvs') : Far names ties (fun x => M x ∨ x = m) kvs' := by
  refine ⟨p.cov, p.nn, fun a ha b hb => Int.le_trans (p.le a ha b hb) (h.ub a ha b hb), fun t ht => ?_, fun x hx hM a ha b hb => ?_, p.len, p.wk, p.slf⟩
  · obtain ⟨m1, m2⟩ := T.mem t ht
    exact ⟨Int.le_trans (p.le _ m1 _ m2) (h.tie t ht).1, Int.le_trans (p.le _ m2 _ m1) (h.tie t ht).2⟩
  · have p1 := p.pr a ha b hb (.inr ⟨ha, hb⟩)
    have r1 := p.row a ha
    have c1 := p.col b hb
    rcases hM with hM | rfl
    · have t1 := h.tri x hx hM a ha b hb
      have t2 := h.tri x hx hM a ha m hm
      have t3 := h.tri x hx hM m hm b hb
      have n1 := h.nn m hm x hx
      have n2 := h.nn x hx m hm
      have l1 := p.le a ha b hb
      rcases p.one a ha x hx with e1 | e1 <;> rcases p.one x hx b hb with e2 | e2 <;> omega
    · omega
def far_body : List S := [.for_ (.v 2) (.seq (.ix (.v 0) (.k (.int 0)))) G_body2]
theorem far_loop {C : CallT} {names : List PySem.Str} {ties : List Tie} (T : TiesOk names ties) {s4 : Option Slot} : ∀ (suf : List PySem.Str) (M : PySem.Str → Prop) (kvs : Kvs) (s2 s3 s5 : Option Slot) (Q : Flow → Prop), Far names ties M kvs → (∀ b ∈ suf, b ∈ names) →
    (∀ kvs s2 s3 s5, Far names ties (fun x => M x ∨ x ∈ suf) kvs → Q (.nx [some ⟨mapD names ties, 0⟩, some ⟨.dT kvs, 1⟩, s2, s3, s4, s5])) →
    W (forGo (.v 5) (fun ρ => evSs C far_body ρ) (suf.map .str) [some ⟨mapD names ties, 0⟩, some ⟨.dT kvs, 1⟩, s2, s3, s4, s5]) Q := by
  intro suf
  induction suf with
  | nil =>
    intro M kvs s2 s3 s5 Q h hs hq
    rw [List.map_nil, forGo, W_ok]
    exact hq kvs s2 s3 s5 ⟨h.cov, h.nn, h.ub, h.tie, fun m hm hM => h.tri m hm (hM.resolve_right fun e => (nomatch e)), h.len, h.wk, h.slf⟩
  | cons m suf ih =>
    intro M kvs s2 s3 s5 Q h hs hq
    have hm := hs m List.mem_cons_self
    rw [List.map_cons, forGo, W_bind]
    rw [show setPat (.v 5) (.str m) _ = .ok _ from rfl, W_ok, W_bind]
    simp only [far_body]
    simp only [id_eq, R.bind_ok, R.guard_true, ss_cons, ss_nil, Sq, Fl, W_bind, W_ok, W_guard, R.ite_true, R.ite_false, W_ite, evS, evE, evEs, evO, evTs, evIt, strD_i, keyD_i, keyD_s, keysD_n, keysD_c, dgetD_s, dgetD_i, dgetD_t, dinD_s, dinD_i, dinD_t, setPat_v, setPat_t, setPats_n, setPats_c, setSlot, start0, wipeE, ownL, stoD, dstD, rangeD, List.map_cons, List.map_nil, List.cons_append, List.nil_append, List.append_nil, List.length_cons, List.length_nil, List.replicate_succ, List.replicate_zero, List.getElem?_cons_zero, List.getElem?_cons_succ, List.set_cons_zero, List.set_cons_succ, List.all_cons, List.all_nil, Nat.add_sub_cancel, Nat.reduceAdd, Nat.reduceSub, Bool.and_true, Bool.true_and, Bool.and_self, Bool.not_true, Bool.not_false, true_and, and_true, decide_eq_true_eq, Nat.zero_add, decide_eq_false_iff_not, Int.reduceLT, Int.reduceEq, eqD_i, eqD_s, shp_i, shp_s, shp_b, shp_n, Int.reduceLE, Int.reduceMul, Int.reduceAdd, Int.reduceMod, Int.reduceNeg, Int.reduceSub, Int.reduceToNat, reduceCtorEq, false_implies, true_implies, decide_true, decide_false, forall_const, Bool.false_eq_true, Bool.not_eq_true', Bool.and_eq_true, Bool.or_eq_true, addD_i, addD_s, addD_l, addD_t, subD_i, mulD_i, mulD_s, fdivD_i, modD_i, powD_i, ltD_i, ltD_s, leD_i, leD_s, gtD_i, gtD_s, geD_i, geD_s, inD_l, inD_t, inD_s, isBl_b, cmpD_eq, cmpD_ne, cmpD_lt, cmpD_le, cmpD_gt, cmpD_ge, cmpD_in, cmpD_notin, cmpD_isN, cmpD_notN, cmpD_isB, cmpD_notB, isNon_n, isNon_i, isNon_b, isNon_s, isNon_l, isNon_t, items_l, items_t, itemsI_l, itemsI_t, itemsI_s, ixD_l, ixD_t, ixD_s, slD_l, slD_t, slD_s, lenD_l, lenD_t, lenD_s, lenD_d, absD_i, minD_i, maxD_i, minD_1, maxD_1, bestD_c, sortedD_1, listD_1, tupleD_1, allD_l, anyD_l, sumD_l, sumD_t, intD_i, intD_b, boolD_b, boolD_i, joinD_s, retK_sh, retK_nw, retK_bw, kdOf_0, kdOf_1, kdOf_2, inKd_sh, inKd_nw, inKd_bw, inKd_b2, toKd_t, toKd_f, notBw_sh, notBw_nw, notBw_bw, notBw_b2, exact_sh, exact_nw, exact_bw, ownOk_l, ownOk_K, ownOk_T, ownOk_2, tyD_ii, tyD_ib, tyD_is, tyD_in, tyD_il, tyD_it, tyD_bi, tyD_bb, tyD_bs, tyD_bn, tyD_bl, tyD_bt, tyD_si, tyD_sb, tyD_ss, tyD_sn, tyD_sl, tyD_st, tyD_ti, tyD_tb, tyD_ts, tyD_tn, tyD_tl, tyD_tt, tyD_li, tyD_lb, tyD_ls, tyD_ln, tyD_ll, tyD_lt, biD_1, biD_2, biD_3, biD_4, biD_5, biD_6, biD_7, biD_8, biD_9, biD_10, biD_11, biD_12, biD_13, biD_14, biD_15, op2D_1, op2D_2, op2D_3, op2D_4, op2D_5, op2D_6, oR_some, Option.map_some, true_or, false_or, lend_ret, notB2_sh, notB2_nw, notB2_bw, resOk_bl, resOk_int, resOk_non, resOk_str, resOk_l, resOk_t, mapD, ix0]
    have p0 : Ph names ties (dOf kvs) m (fun _ _ => False) kvs := ⟨h.cov, h.nn, fun a ha b hb => Int.le_refl _, fun a ha => rfl, fun b hb => rfl, fun a ha b hb => .inl rfl, fun a ha b hb z => z.elim, h.len, h.wk, h.slf⟩
    refine g_loop2 (ties := ties) hm names (fun _ _ => False) kvs s2 s3 _ p0 (fun b hb => hb) fun kvs' s2 s3 p => ?_
    simp only [id_eq, R.bind_ok, R.guard_true, ss_cons, ss_nil, Sq, Fl, W_bind, W_ok, W_guard, R.ite_true, R.ite_false, W_ite, evS, evE, evEs, evO, evTs, evIt, strD_i, keyD_i, keyD_s, keysD_n, keysD_c, dgetD_s, dgetD_i, dgetD_t, dinD_s, dinD_i, dinD_t, setPat_v, setPat_t, setPats_n, setPats_c, setSlot, start0, wipeE, ownL, stoD, dstD, rangeD, List.map_cons, List.map_nil, List.cons_append, List.nil_append, List.append_nil, List.length_cons, List.length_nil, List.replicate_succ, List.replicate_zero, List.getElem?_cons_zero, List.getElem?_cons_succ, List.set_cons_zero, List.set_cons_succ, List.all_cons, List.all_nil, Nat.add_sub_cancel, Nat.reduceAdd, Nat.reduceSub, Bool.and_true, Bool.true_and, Bool.and_self, Bool.not_true, Bool.not_false, true_and, and_true, decide_eq_true_eq, Nat.zero_add, decide_eq_false_iff_not, Int.reduceLT, Int.reduceEq, eqD_i, eqD_s, shp_i, shp_s, shp_b, shp_n, Int.reduceLE, Int.reduceMul, Int.reduceAdd, Int.reduceMod, Int.reduceNeg, Int.reduceSub, Int.reduceToNat, reduceCtorEq, false_implies, true_implies, decide_true, decide_false, forall_const, Bool.false_eq_true, Bool.not_eq_true', Bool.and_eq_true, Bool.or_eq_true, addD_i, addD_s, addD_l, addD_t, subD_i, mulD_i, mulD_s, fdivD_i, modD_i, powD_i, ltD_i, ltD_s, leD_i, leD_s, gtD_i, gtD_s, geD_i, geD_s, inD_l, inD_t, inD_s, isBl_b, cmpD_eq, cmpD_ne, cmpD_lt, cmpD_le, cmpD_gt, cmpD_ge, cmpD_in, cmpD_notin, cmpD_isN, cmpD_notN, cmpD_isB, cmpD_notB, isNon_n, isNon_i, isNon_b, isNon_s, isNon_l, isNon_t, items_l, items_t, itemsI_l, itemsI_t, itemsI_s, ixD_l, ixD_t, ixD_s, slD_l, slD_t, slD_s, lenD_l, lenD_t, lenD_s, lenD_d, absD_i, minD_i, maxD_i, minD_1, maxD_1, bestD_c, sortedD_1, listD_1, tupleD_1, allD_l, anyD_l, sumD_l, sumD_t, intD_i, intD_b, boolD_b, boolD_i, joinD_s, retK_sh, retK_nw, retK_bw, kdOf_0, kdOf_1, kdOf_2, inKd_sh, inKd_nw, inKd_bw, inKd_b2, toKd_t, toKd_f, notBw_sh, notBw_nw, notBw_bw, notBw_b2, exact_sh, exact_nw, exact_bw, ownOk_l, ownOk_K, ownOk_T, ownOk_2, tyD_ii, tyD_ib, tyD_is, tyD_in, tyD_il, tyD_it, tyD_bi, tyD_bb, tyD_bs, tyD_bn, tyD_bl, tyD_bt, tyD_si, tyD_sb, tyD_ss, tyD_sn, tyD_sl, tyD_st, tyD_ti, tyD_tb, tyD_ts, tyD_tn, tyD_tl, tyD_tt, tyD_li, tyD_lb, tyD_ls, tyD_ln, tyD_ll, tyD_lt, biD_1, biD_2, biD_3, biD_4, biD_5, biD_6, biD_7, biD_8, biD_9, biD_10, biD_11, biD_12, biD_13, biD_14, biD_15, op2D_1, op2D_2, op2D_3, op2D_4, op2D_5, op2D_6, oR_some, Option.map_some, true_or, false_or, lend_ret, notB2_sh, notB2_nw, notB2_bw, resOk_bl, resOk_int, resOk_non, resOk_str, resOk_l, resOk_t]
    refine ih _ kvs' _ _ _ Q (h.turn T hm p) (fun c hc => hs c (List.mem_cons_of_mem _ hc)) fun kvs s2 s3 s5 h => hq kvs s2 s3 s5 ⟨h.cov, h.nn, h.ub, h.tie, fun x hx hM => h.tri x hx ?_, h.len, h.wk, h.slf⟩
    rcases hM with hM | hM
    · exact .inl (.inl hM)
    · rcases List.mem_cons.mp hM with e | e
      · exact .inl (.inr e)
      · exact .inr e
/-! the beginning -/
structure Cv (S : PySem.Str → PySem.Str → Prop) (kvs : Kvs) (B : Nat) : Prop where
  cov : ∀ a b, S a b → ∃ i : Int, valK kvs (ky a b) = some (.int i) ∧ 0 ≤ i ∧ i ≤ 9999 ∧ (i < 9999 → a = b) ∧ (a = b → i = 0)
  len : kvs.length ≤ B
theorem Cv.put {S S' : PySem.Str → PySem.Str → Prop} {kvs : Kvs} {B : Nat} (h : Cv S kvs B) {a b : PySem.Str} {v : Int} (h0 : 0 ≤ v) (h1 : v ≤ 9999) (hv : v < 9999 → a = b) (hv2 : a = b → v = 0) (hS : ∀ c d, S' c d → S c d ∨ (c = a ∧ d = b)) : Cv S' (putD kvs (ky a b) (.int v)) (B + 1) := by
  refine ⟨fun c d hcd => ?_, ?_⟩
  · rw [valK_putD]
    by_cases e : ky a b = ky c d
    · rw [if_pos e]
      obtain ⟨e1, e2⟩ := ky_inj e
      rw [← e1, ← e2]
      exact ⟨v, rfl, h0, h1, hv, hv2⟩
    · rw [if_neg e]
      exact h.cov c d ((hS c d hcd).resolve_right fun ⟨e1, e2⟩ => e (by rw [e1, e2]))
  · have := putD_len kvs (ky a b) (.int v)
    have := h.len
    omega
def A_body : List S := [.dst 1 (.tup [.v 2, .v 3]) (.ix (.lst [.k (.int 9999), .k (.int 0)]) (.bi .int [.cmp .eq (.v 2) (.v 3)]))]
theorem a_loop3 {C : CallT} {a : PySem.Str} {s0 s4 s5 : Option Slot} : ∀ (suf : List PySem.Str) (S : PySem.Str → PySem.Str → Prop) (kvs : Kvs) (B : Nat) (s3 : Option Slot) (Q : Flow → Prop), Cv S kvs B → B + suf.length < 1000 →
    (∀ kvs s3, Cv (fun c d => S c d ∨ (c = a ∧ d ∈ suf)) kvs (B + suf.length) → Q (.nx [s0, some ⟨.dT kvs, 1⟩, some ⟨.str a, 0⟩, s3, s4, s5])) →
    W (forGo (.v 3) (fun ρ => evSs C A_body ρ) (suf.map .str) [s0, some ⟨.dT kvs, 1⟩, some ⟨.str a, 0⟩, s3, s4, s5]) Q := by
  intro suf
  induction suf with
  | nil =>
    intro S kvs B s3 Q h hB hq
    rw [List.map_nil, forGo, W_ok]
    exact hq kvs s3 ⟨fun c d hcd => h.cov c d (hcd.resolve_right fun e => (nomatch e.2)), h.len⟩
  | cons b suf ih =>
    intro S kvs B s3 Q h hB hq
    rw [List.length_cons] at hB
    rw [List.map_cons, forGo, W_bind]
    rw [show setPat (.v 3) (.str b) _ = .ok _ from rfl, W_ok, W_bind]
    have key : ∃ v : Int, atI [D.int 9999, D.int 0] (if decide (a = b) = true then 1 else 0) = some (.int v) ∧ 0 ≤ v ∧ v ≤ 9999 ∧ (v < 9999 → a = b) ∧ (a = b → v = 0) := by
      by_cases e : a = b
      · rw [decide_eq_true e]; exact ⟨0, rfl, by decide, by decide, fun _ => e, fun _ => rfl⟩
      · rw [decide_eq_false e]; exact ⟨9999, rfl, by decide, by decide, fun h => absurd h (by decide), fun h => absurd h e⟩
    obtain ⟨v, ev, v0, v1, v2, v3⟩ := key
    have st := h.put v0 v1 v2 v3 (S' := fun c d => S c d ∨ (c = a ∧ d = b)) (fun c d h => h)
    simp only [decide_eq_true_eq] at ev
    simp only [A_body]
    simp only [id_eq, R.bind_ok, R.guard_true, ss_cons, ss_nil, Sq, Fl, W_bind, W_ok, W_guard, R.ite_true, R.ite_false, W_ite, evS, evE, evEs, evO, evTs, evIt, strD_i, keyD_i, keyD_s, keysD_n, keysD_c, dgetD_s, dgetD_i, dgetD_t, dinD_s, dinD_i, dinD_t, setPat_v, setPat_t, setPats_n, setPats_c, setSlot, start0, wipeE, ownL, stoD, dstD, rangeD, List.map_cons, List.map_nil, List.cons_append, List.nil_append, List.append_nil, List.length_cons, List.length_nil, List.replicate_succ, List.replicate_zero, List.getElem?_cons_zero, List.getElem?_cons_succ, List.set_cons_zero, List.set_cons_succ, List.all_cons, List.all_nil, Nat.add_sub_cancel, Nat.reduceAdd, Nat.reduceSub, Bool.and_true, Bool.true_and, Bool.and_self, Bool.not_true, Bool.not_false, true_and, and_true, decide_eq_true_eq, Nat.zero_add, decide_eq_false_iff_not, Int.reduceLT, Int.reduceEq, eqD_i, eqD_s, shp_i, shp_s, shp_b, shp_n, Int.reduceLE, Int.reduceMul, Int.reduceAdd, Int.reduceMod, Int.reduceNeg, Int.reduceSub, Int.reduceToNat, reduceCtorEq, false_implies, true_implies, decide_true, decide_false, forall_const, Bool.false_eq_true, Bool.not_eq_true', Bool.and_eq_true, Bool.or_eq_true, addD_i, addD_s, addD_l, addD_t, subD_i, mulD_i, mulD_s, fdivD_i, modD_i, powD_i, ltD_i, ltD_s, leD_i, leD_s, gtD_i, gtD_s, geD_i, geD_s, inD_l, inD_t, inD_s, isBl_b, cmpD_eq, cmpD_ne, cmpD_lt, cmpD_le, cmpD_gt, cmpD_ge, cmpD_in, cmpD_notin, cmpD_isN, cmpD_notN, cmpD_isB, cmpD_notB, isNon_n, isNon_i, isNon_b, isNon_s, isNon_l, isNon_t, items_l, items_t, itemsI_l, itemsI_t, itemsI_s, ixD_l, ixD_t, ixD_s, slD_l, slD_t, slD_s, lenD_l, lenD_t, lenD_s, lenD_d, absD_i, minD_i, maxD_i, minD_1, maxD_1, bestD_c, sortedD_1, listD_1, tupleD_1, allD_l, anyD_l, sumD_l, sumD_t, intD_i, intD_b, boolD_b, boolD_i, joinD_s, retK_sh, retK_nw, retK_bw, kdOf_0, kdOf_1, kdOf_2, inKd_sh, inKd_nw, inKd_bw, inKd_b2, toKd_t, toKd_f, notBw_sh, notBw_nw, notBw_bw, notBw_b2, exact_sh, exact_nw, exact_bw, ownOk_l, ownOk_K, ownOk_T, ownOk_2, tyD_ii, tyD_ib, tyD_is, tyD_in, tyD_il, tyD_it, tyD_bi, tyD_bb, tyD_bs, tyD_bn, tyD_bl, tyD_bt, tyD_si, tyD_sb, tyD_ss, tyD_sn, tyD_sl, tyD_st, tyD_ti, tyD_tb, tyD_ts, tyD_tn, tyD_tl, tyD_tt, tyD_li, tyD_lb, tyD_ls, tyD_ln, tyD_ll, tyD_lt, biD_1, biD_2, biD_3, biD_4, biD_5, biD_6, biD_7, biD_8, biD_9, biD_10, biD_11, biD_12, biD_13, biD_14, biD_15, op2D_1, op2D_2, op2D_3, op2D_4, op2D_5, op2D_6, oR_some, Option.map_some, true_or, false_or, lend_ret, notB2_sh, notB2_nw, notB2_bw, resOk_bl, resOk_int, resOk_non, resOk_str, resOk_l, resOk_t, ev]
    refine ⟨by have := h.len; simp only [line]; omega, ?_⟩
    refine ih _ _ (B + 1) _ Q st (by omega) fun kvs s3 h => hq kvs s3 ⟨fun c d hcd => h.cov c d ?_, by have := h.len; rw [List.length_cons]; omega⟩
    rcases hcd with h | ⟨e, h⟩
    · exact .inl (.inl h)
    · rcases List.mem_cons.mp h with h | h
      · exact .inl (.inr ⟨e, h⟩)
      · exact .inr ⟨e, h⟩
def A_body2 : List S := [.for_ (.v 3) (.seq (.ix (.v 0) (.k (.int 0)))) A_body]
theorem a_loop2 {C : CallT} {names : List PySem.Str} {ties : List Tie} (hn : names.length ≤ 8) {s4 s5 : Option Slot} : ∀ (suf : List PySem.Str) (S : PySem.Str → PySem.Str → Prop) (kvs : Kvs) (B : Nat) (s2 s3 : Option Slot) (Q : Flow → Prop), Cv S kvs B → B + 8 * suf.length < 900 →
    (∀ kvs s2 s3, Cv (fun c d => S c d ∨ (c ∈ suf ∧ d ∈ names)) kvs (B + 8 * suf.length) → Q (.nx [some ⟨mapD names ties, 0⟩, some ⟨.dT kvs, 1⟩, s2, s3, s4, s5])) →
    W (forGo (.v 2) (fun ρ => evSs C A_body2 ρ) (suf.map .str) [some ⟨mapD names ties, 0⟩, some ⟨.dT kvs, 1⟩, s2, s3, s4, s5]) Q := by
  intro suf
  induction suf with
  | nil =>
    intro S kvs B s2 s3 Q h hB hq
    rw [List.map_nil, forGo, W_ok]
    exact hq kvs s2 s3 ⟨fun c d hcd => h.cov c d (hcd.resolve_right fun e => (nomatch e.1)), h.len⟩
  | cons a suf ih =>
    intro S kvs B s2 s3 Q h hB hq
    rw [List.length_cons] at hB
    rw [List.map_cons, forGo, W_bind]
    rw [show setPat (.v 2) (.str a) _ = .ok _ from rfl, W_ok, W_bind]
    simp only [A_body2]
    simp only [id_eq, R.bind_ok, R.guard_true, ss_cons, ss_nil, Sq, Fl, W_bind, W_ok, W_guard, R.ite_true, R.ite_false, W_ite, evS, evE, evEs, evO, evTs, evIt, strD_i, keyD_i, keyD_s, keysD_n, keysD_c, dgetD_s, dgetD_i, dgetD_t, dinD_s, dinD_i, dinD_t, setPat_v, setPat_t, setPats_n, setPats_c, setSlot, start0, wipeE, ownL, stoD, dstD, rangeD, List.map_cons, List.map_nil, List.cons_append, List.nil_append, List.append_nil, List.length_cons, List.length_nil, List.replicate_succ, List.replicate_zero, List.getElem?_cons_zero, List.getElem?_cons_succ, List.set_cons_zero, List.set_cons_succ, List.all_cons, List.all_nil, Nat.add_sub_cancel, Nat.reduceAdd, Nat.reduceSub, Bool.and_true, Bool.true_and, Bool.and_self, Bool.not_true, Bool.not_false, true_and, and_true, decide_eq_true_eq, Nat.zero_add, decide_eq_false_iff_not, Int.reduceLT, Int.reduceEq, eqD_i, eqD_s, shp_i, shp_s, shp_b, shp_n, Int.reduceLE, Int.reduceMul, Int.reduceAdd, Int.reduceMod, Int.reduceNeg, Int.reduceSub, Int.reduceToNat, reduceCtorEq, false_implies, true_implies, decide_true, decide_false, forall_const, Bool.false_eq_true, Bool.not_eq_true', Bool.and_eq_true, Bool.or_eq_true, addD_i, addD_s, addD_l, addD_t, subD_i, mulD_i, mulD_s, fdivD_i, modD_i, powD_i, ltD_i, ltD_s, leD_i, leD_s, gtD_i, gtD_s, geD_i, geD_s, inD_l, inD_t, inD_s, isBl_b, cmpD_eq, cmpD_ne, cmpD_lt, cmpD_le, cmpD_gt, cmpD_ge, cmpD_in, cmpD_notin, cmpD_isN, cmpD_notN, cmpD_isB, cmpD_notB, isNon_n, isNon_i, isNon_b, isNon_s, isNon_l, isNon_t, items_l, items_t, itemsI_l, itemsI_t, itemsI_s, ixD_l, ixD_t, ixD_s, slD_l, slD_t, slD_s, lenD_l, lenD_t, lenD_s, lenD_d, absD_i, minD_i, maxD_i, minD_1, maxD_1, bestD_c, sortedD_1, listD_1, tupleD_1, allD_l, anyD_l, sumD_l, sumD_t, intD_i, intD_b, boolD_b, boolD_i, joinD_s, retK_sh, retK_nw, retK_bw, kdOf_0, kdOf_1, kdOf_2, inKd_sh, inKd_nw, inKd_bw, inKd_b2, toKd_t, toKd_f, notBw_sh, notBw_nw, notBw_bw, notBw_b2, exact_sh, exact_nw, exact_bw, ownOk_l, ownOk_K, ownOk_T, ownOk_2, tyD_ii, tyD_ib, tyD_is, tyD_in, tyD_il, tyD_it, tyD_bi, tyD_bb, tyD_bs, tyD_bn, tyD_bl, tyD_bt, tyD_si, tyD_sb, tyD_ss, tyD_sn, tyD_sl, tyD_st, tyD_ti, tyD_tb, tyD_ts, tyD_tn, tyD_tl, tyD_tt, tyD_li, tyD_lb, tyD_ls, tyD_ln, tyD_ll, tyD_lt, biD_1, biD_2, biD_3, biD_4, biD_5, biD_6, biD_7, biD_8, biD_9, biD_10, biD_11, biD_12, biD_13, biD_14, biD_15, op2D_1, op2D_2, op2D_3, op2D_4, op2D_5, op2D_6, oR_some, Option.map_some, true_or, false_or, lend_ret, notB2_sh, notB2_nw, notB2_bw, resOk_bl, resOk_int, resOk_non, resOk_str, resOk_l, resOk_t, mapD, ix0]
    refine a_loop3 names S kvs B s3 _ h (by omega) fun kvs' s3 h' => ?_
    simp only [id_eq, R.bind_ok, R.guard_true, ss_cons, ss_nil, Sq, Fl, W_bind, W_ok, W_guard, R.ite_true, R.ite_false, W_ite, evS, evE, evEs, evO, evTs, evIt, strD_i, keyD_i, keyD_s, keysD_n, keysD_c, dgetD_s, dgetD_i, dgetD_t, dinD_s, dinD_i, dinD_t, setPat_v, setPat_t, setPats_n, setPats_c, setSlot, start0, wipeE, ownL, stoD, dstD, rangeD, List.map_cons, List.map_nil, List.cons_append, List.nil_append, List.append_nil, List.length_cons, List.length_nil, List.replicate_succ, List.replicate_zero, List.getElem?_cons_zero, List.getElem?_cons_succ, List.set_cons_zero, List.set_cons_succ, List.all_cons, List.all_nil, Nat.add_sub_cancel, Nat.reduceAdd, Nat.reduceSub, Bool.and_true, Bool.true_and, Bool.and_self, Bool.not_true, Bool.not_false, true_and, and_true, decide_eq_true_eq, Nat.zero_add, decide_eq_false_iff_not, Int.reduceLT, Int.reduceEq, eqD_i, eqD_s, shp_i, shp_s, shp_b, shp_n, Int.reduceLE, Int.reduceMul, Int.reduceAdd, Int.reduceMod, Int.reduceNeg, Int.reduceSub, Int.reduceToNat, reduceCtorEq, false_implies, true_implies, decide_true, decide_false, forall_const, Bool.false_eq_true, Bool.not_eq_true', Bool.and_eq_true, Bool.or_eq_true, addD_i, addD_s, addD_l, addD_t, subD_i, mulD_i, mulD_s, fdivD_i, modD_i, powD_i, ltD_i, ltD_s, leD_i, leD_s, gtD_i, gtD_s, geD_i, geD_s, inD_l, inD_t, inD_s, isBl_b, cmpD_eq, cmpD_ne, cmpD_lt, cmpD_le, cmpD_gt, cmpD_ge, cmpD_in, cmpD_notin, cmpD_isN, cmpD_notN, cmpD_isB, cmpD_notB, isNon_n, isNon_i, isNon_b, isNon_s, isNon_l, isNon_t, items_l, items_t, itemsI_l, itemsI_t, itemsI_s, ixD_l, ixD_t, ixD_s, slD_l, slD_t, slD_s, lenD_l, lenD_t, lenD_s, lenD_d, absD_i, minD_i, maxD_i, minD_1, maxD_1, bestD_c, sortedD_1, listD_1, tupleD_1, allD_l, anyD_l, sumD_l, sumD_t, intD_i, intD_b, boolD_b, boolD_i, joinD_s, retK_sh, retK_nw, retK_bw, kdOf_0, kdOf_1, kdOf_2, inKd_sh, inKd_nw, inKd_bw, inKd_b2, toKd_t, toKd_f, notBw_sh, notBw_nw, notBw_bw, notBw_b2, exact_sh, exact_nw, exact_bw, ownOk_l, ownOk_K, ownOk_T, ownOk_2, tyD_ii, tyD_ib, tyD_is, tyD_in, tyD_il, tyD_it, tyD_bi, tyD_bb, tyD_bs, tyD_bn, tyD_bl, tyD_bt, tyD_si, tyD_sb, tyD_ss, tyD_sn, tyD_sl, tyD_st, tyD_ti, tyD_tb, tyD_ts, tyD_tn, tyD_tl, tyD_tt, tyD_li, tyD_lb, tyD_ls, tyD_ln, tyD_ll, tyD_lt, biD_1, biD_2, biD_3, biD_4, biD_5, biD_6, biD_7, biD_8, biD_9, biD_10, biD_11, biD_12, biD_13, biD_14, biD_15, op2D_1, op2D_2, op2D_3, op2D_4, op2D_5, op2D_6, oR_some, Option.map_some, true_or, false_or, lend_ret, notB2_sh, notB2_nw, notB2_bw, resOk_bl, resOk_int, resOk_non, resOk_str, resOk_l, resOk_t]
    refine ih _ kvs' (B + 8) _ _ Q ⟨h'.cov, by have := h'.len; omega⟩ (by omega) fun kvs s2 s3 h => hq kvs s2 s3 ⟨fun c d hcd => h.cov c d ?_, by have := h.len; rw [List.length_cons]; omega⟩
    rcases hcd with h | ⟨e, h⟩
    · exact .inl (.inl h)
    · rcases List.mem_cons.mp e with e | e
      · exact .inl (.inr ⟨e, h⟩)
      · exact .inr ⟨e, h⟩
structure Pre (names : List PySem.Str) (ties pre : List Tie) (kvs : Kvs) : Prop where
  cov : ∀ a ∈ names, ∀ b ∈ names, ∃ i : Int, valK kvs (ky a b) = some (.int i) ∧ 0 ≤ i ∧ i ≤ 9999 ∧ (i < 9999 → WalkS ties a b i) ∧ (a = b → i = 0)
  tie : ∀ t ∈ pre, dOf kvs t.1 t.2.1 ≤ t.2.2 ∧ dOf kvs t.2.1 t.1 ≤ t.2.2
  len : kvs.length ≤ 900
def L_body : List S := [.dst 1 (.tup [.v 2, .v 3]) (.v 4), .dst 1 (.tup [.v 3, .v 2]) (.v 4)]
theorem Pre.put {names : List PySem.Str} {ties pre : List Tie} {kvs : Kvs} (h : Pre names ties pre kvs) {t : Tie} (h1 : t.1 ∈ names) (h2 : t.2.1 ∈ names) (hl : ltS t.1 t.2.1) (hv : 1 ≤ t.2.2 ∧ t.2.2 ≤ 50) (had : Adj ties t.1 t.2.1 t.2.2) (hp : ∀ u ∈ pre, ltS u.1 u.2.1 ∧ ¬ (u.1 = t.1 ∧ u.2.1 = t.2.1)) :
    Pre names ties (pre ++ [t]) (putD (putD kvs (ky t.1 t.2.1) (.int t.2.2)) (ky t.2.1 t.1) (.int t.2.2)) := by
  have hne := ltS_ne hl
  have val : ∀ (k : Kvs) (a b : PySem.Str), WalkS ties a b t.2.2 → a ≠ b → (∀ a ∈ names, ∀ b ∈ names, ∃ i : Int, valK k (ky a b) = some (.int i) ∧ 0 ≤ i ∧ i ≤ 9999 ∧ (i < 9999 → WalkS ties a b i) ∧ (a = b → i = 0)) → ∀ c ∈ names, ∀ d ∈ names, ∃ i : Int, valK (putD k (ky a b) (.int t.2.2)) (ky c d) = some (.int i) ∧ 0 ≤ i ∧ i ≤ 9999 ∧ (i < 9999 → WalkS ties c d i) ∧ (c = d → i = 0) := fun k a b hw hab hk c hc d hd => by
    rw [valK_putD]
    by_cases e : ky a b = ky c d
    · rw [if_pos e]
      obtain ⟨e1, e2⟩ := ky_inj e
      rw [← e1, ← e2]
      exact ⟨_, rfl, by omega, by omega, fun _ => hw, fun h => absurd h hab⟩
    · rw [if_neg e]; exact hk c hc d hd
  have c1 := val kvs t.1 t.2.1 (WalkS.one had) hne h.cov
  refine ⟨val _ _ _ (WalkS.one had.symm) (Ne.symm hne) c1, fun u hu => ?_, ?_⟩
  · rw [dOf_put, dOf_put, dOf_put, dOf_put]
    rcases List.mem_append.mp hu with hu | hu
    · obtain ⟨l2, n2⟩ := hp u hu
      have n3 : ¬ (u.1 = t.2.1 ∧ u.2.1 = t.1) := fun ⟨e1, e2⟩ => by
        rw [e1, e2] at l2
        exact ltS_irrefl _ (ltS_trans hl l2)
      have n4 : ¬ (u.2.1 = t.2.1 ∧ u.1 = t.1) := fun ⟨e1, e2⟩ => n2 ⟨e2, e1⟩
      have n5 : ¬ (u.2.1 = t.1 ∧ u.1 = t.2.1) := fun ⟨e1, e2⟩ => n3 ⟨e2, e1⟩
      rw [if_neg n3, if_neg n2, if_neg n4, if_neg n5]
      exact h.tie u hu
    · rw [List.mem_singleton] at hu
      subst hu
      refine ⟨?_, ?_⟩
      · split
        · exact Int.le_refl _
        · rw [if_pos ⟨rfl, rfl⟩]; exact Int.le_refl _
      · rw [if_pos ⟨rfl, rfl⟩]; exact Int.le_refl _
  · have hin : ∀ (k : Kvs) (a b : PySem.Str), (∀ a ∈ names, ∀ b ∈ names, ∃ i : Int, valK k (ky a b) = some (.int i) ∧ 0 ≤ i ∧ i ≤ 9999 ∧ (i < 9999 → WalkS ties a b i) ∧ (a = b → i = 0)) → a ∈ names → b ∈ names → (putD k (ky a b) (.int t.2.2)).length = k.length := fun k a b hk ha hb => putD_len_in _ _ _ (by obtain ⟨i, hi, _⟩ := hk a ha b hb; rw [hi]; rfl)
    rw [hin _ _ _ c1 h2 h1, hin _ _ _ h.cov h1 h2]
    exact h.len
theorem l_loop {C : CallT} {names : List PySem.Str} {ties : List Tie} (T : TiesOk names ties) {s0 s5 : Option Slot} : ∀ (suf pre : List Tie) (kvs : Kvs) (s2 s3 s4 : Option Slot) (Q : Flow → Prop), Pre names ties pre kvs → pre ++ suf = ties →
    (∀ kvs s2 s3 s4, Pre names ties ties kvs → Q (.nx [s0, some ⟨.dT kvs, 1⟩, s2, s3, s4, s5])) →
    W (forGo (.t [.v 2, .v 3, .v 4]) (fun ρ => evSs C L_body ρ) (suf.map tieD) [s0, some ⟨.dT kvs, 1⟩, s2, s3, s4, s5]) Q := by
  intro suf
  induction suf with
  | nil =>
    intro pre kvs s2 s3 s4 Q h he hq
    rw [List.append_nil] at he
    subst he
    rw [List.map_nil, forGo, W_ok]
    exact hq kvs s2 s3 s4 h
  | cons t suf ih =>
    intro pre kvs s2 s3 s4 Q h he hq
    have ht : t ∈ ties := by rw [← he]; exact List.mem_append.mpr (.inr List.mem_cons_self)
    have hd := T.dis
    rw [← he, List.pairwise_append] at hd
    obtain ⟨m1, m2⟩ := T.mem t ht
    have hp := h.put m1 m2 (T.lt t ht) (T.len t ht) ⟨t, ht, rfl, .inl ⟨rfl, rfl⟩⟩ fun u hu => ⟨T.lt u (by rw [← he]; exact List.mem_append.mpr (.inl hu)), hd.2.2 u hu t List.mem_cons_self⟩
    have l1 := h.len
    have l2 := putD_len kvs (ky t.1 t.2.1) (.int t.2.2)
    rw [List.map_cons, forGo, W_bind]
    rw [show setPat (.t [.v 2, .v 3, .v 4]) (tieD t) _ = .ok _ from rfl, W_ok, W_bind]
    simp only [L_body]
    simp only [id_eq, R.bind_ok, R.guard_true, ss_cons, ss_nil, Sq, Fl, W_bind, W_ok, W_guard, R.ite_true, R.ite_false, W_ite, evS, evE, evEs, evO, evTs, evIt, strD_i, keyD_i, keyD_s, keysD_n, keysD_c, dgetD_s, dgetD_i, dgetD_t, dinD_s, dinD_i, dinD_t, setPat_v, setPat_t, setPats_n, setPats_c, setSlot, start0, wipeE, ownL, stoD, dstD, rangeD, List.map_cons, List.map_nil, List.cons_append, List.nil_append, List.append_nil, List.length_cons, List.length_nil, List.replicate_succ, List.replicate_zero, List.getElem?_cons_zero, List.getElem?_cons_succ, List.set_cons_zero, List.set_cons_succ, List.all_cons, List.all_nil, Nat.add_sub_cancel, Nat.reduceAdd, Nat.reduceSub, Bool.and_true, Bool.true_and, Bool.and_self, Bool.not_true, Bool.not_false, true_and, and_true, decide_eq_true_eq, Nat.zero_add, decide_eq_false_iff_not, Int.reduceLT, Int.reduceEq, eqD_i, eqD_s, shp_i, shp_s, shp_b, shp_n, Int.reduceLE, Int.reduceMul, Int.reduceAdd, Int.reduceMod, Int.reduceNeg, Int.reduceSub, Int.reduceToNat, reduceCtorEq, false_implies, true_implies, decide_true, decide_false, forall_const, Bool.false_eq_true, Bool.not_eq_true', Bool.and_eq_true, Bool.or_eq_true, addD_i, addD_s, addD_l, addD_t, subD_i, mulD_i, mulD_s, fdivD_i, modD_i, powD_i, ltD_i, ltD_s, leD_i, leD_s, gtD_i, gtD_s, geD_i, geD_s, inD_l, inD_t, inD_s, isBl_b, cmpD_eq, cmpD_ne, cmpD_lt, cmpD_le, cmpD_gt, cmpD_ge, cmpD_in, cmpD_notin, cmpD_isN, cmpD_notN, cmpD_isB, cmpD_notB, isNon_n, isNon_i, isNon_b, isNon_s, isNon_l, isNon_t, items_l, items_t, itemsI_l, itemsI_t, itemsI_s, ixD_l, ixD_t, ixD_s, slD_l, slD_t, slD_s, lenD_l, lenD_t, lenD_s, lenD_d, absD_i, minD_i, maxD_i, minD_1, maxD_1, bestD_c, sortedD_1, listD_1, tupleD_1, allD_l, anyD_l, sumD_l, sumD_t, intD_i, intD_b, boolD_b, boolD_i, joinD_s, retK_sh, retK_nw, retK_bw, kdOf_0, kdOf_1, kdOf_2, inKd_sh, inKd_nw, inKd_bw, inKd_b2, toKd_t, toKd_f, notBw_sh, notBw_nw, notBw_bw, notBw_b2, exact_sh, exact_nw, exact_bw, ownOk_l, ownOk_K, ownOk_T, ownOk_2, tyD_ii, tyD_ib, tyD_is, tyD_in, tyD_il, tyD_it, tyD_bi, tyD_bb, tyD_bs, tyD_bn, tyD_bl, tyD_bt, tyD_si, tyD_sb, tyD_ss, tyD_sn, tyD_sl, tyD_st, tyD_ti, tyD_tb, tyD_ts, tyD_tn, tyD_tl, tyD_tt, tyD_li, tyD_lb, tyD_ls, tyD_ln, tyD_ll, tyD_lt, biD_1, biD_2, biD_3, biD_4, biD_5, biD_6, biD_7, biD_8, biD_9, biD_10, biD_11, biD_12, biD_13, biD_14, biD_15, op2D_1, op2D_2, op2D_3, op2D_4, op2D_5, op2D_6, oR_some, Option.map_some, true_or, false_or, lend_ret, notB2_sh, notB2_nw, notB2_bw, resOk_bl, resOk_int, resOk_non, resOk_str, resOk_l, resOk_t]
    refine ⟨by simp only [line]; omega, ?_, ?_⟩
    · show (putD kvs (ky t.1 t.2.1) (.int t.2.2)).length < _
      simp only [line]; omega
    · exact ih (pre ++ [t]) _ _ _ _ Q hp (by rw [List.append_assoc]; exact he) hq
theorem far_ok {F : List Fn} {fi : Nat} (hf : F[fi]? = some ⟨1, 6, C_far⟩) (n : Nat) {names : List PySem.Str} {ties : List Tie} (T : TiesOk names ties) (hn : names.length ≤ 8) : W (run F (n + 1) fi [mapD names ties]) fun r => ∃ kvs, r = (.dT kvs, true) ∧ Far names ties (fun x => x ∈ names) kvs := by
  refine run_W hf rfl ?_
  simp only [C_far]
  simp only [id_eq, R.bind_ok, R.guard_true, ss_cons, ss_nil, Sq, Fl, W_bind, W_ok, W_guard, R.ite_true, R.ite_false, W_ite, evS, evE, evEs, evO, evTs, evIt, strD_i, keyD_i, keyD_s, keysD_n, keysD_c, dgetD_s, dgetD_i, dgetD_t, dinD_s, dinD_i, dinD_t, setPat_v, setPat_t, setPats_n, setPats_c, setSlot, start0, wipeE, ownL, stoD, dstD, rangeD, List.map_cons, List.map_nil, List.cons_append, List.nil_append, List.append_nil, List.length_cons, List.length_nil, List.replicate_succ, List.replicate_zero, List.getElem?_cons_zero, List.getElem?_cons_succ, List.set_cons_zero, List.set_cons_succ, List.all_cons, List.all_nil, Nat.add_sub_cancel, Nat.reduceAdd, Nat.reduceSub, Bool.and_true, Bool.true_and, Bool.and_self, Bool.not_true, Bool.not_false, true_and, and_true, decide_eq_true_eq, Nat.zero_add, decide_eq_false_iff_not, Int.reduceLT, Int.reduceEq, eqD_i, eqD_s, shp_i, shp_s, shp_b, shp_n, Int.reduceLE, Int.reduceMul, Int.reduceAdd, Int.reduceMod, Int.reduceNeg, Int.reduceSub, Int.reduceToNat, reduceCtorEq, false_implies, true_implies, decide_true, decide_false, forall_const, Bool.false_eq_true, Bool.not_eq_true', Bool.and_eq_true, Bool.or_eq_true, addD_i, addD_s, addD_l, addD_t, subD_i, mulD_i, mulD_s, fdivD_i, modD_i, powD_i, ltD_i, ltD_s, leD_i, leD_s, gtD_i, gtD_s, geD_i, geD_s, inD_l, inD_t, inD_s, isBl_b, cmpD_eq, cmpD_ne, cmpD_lt, cmpD_le, cmpD_gt, cmpD_ge, cmpD_in, cmpD_notin, cmpD_isN, cmpD_notN, cmpD_isB, cmpD_notB, isNon_n, isNon_i, isNon_b, isNon_s, isNon_l, isNon_t, items_l, items_t, itemsI_l, itemsI_t, itemsI_s, ixD_l, ixD_t, ixD_s, slD_l, slD_t, slD_s, lenD_l, lenD_t, lenD_s, lenD_d, absD_i, minD_i, maxD_i, minD_1, maxD_1, bestD_c, sortedD_1, listD_1, tupleD_1, allD_l, anyD_l, sumD_l, sumD_t, intD_i, intD_b, boolD_b, boolD_i, joinD_s, retK_sh, retK_nw, retK_bw, kdOf_0, kdOf_1, kdOf_2, inKd_sh, inKd_nw, inKd_bw, inKd_b2, toKd_t, toKd_f, notBw_sh, notBw_nw, notBw_bw, notBw_b2, exact_sh, exact_nw, exact_bw, ownOk_l, ownOk_K, ownOk_T, ownOk_2, tyD_ii, tyD_ib, tyD_is, tyD_in, tyD_il, tyD_it, tyD_bi, tyD_bb, tyD_bs, tyD_bn, tyD_bl, tyD_bt, tyD_si, tyD_sb, tyD_ss, tyD_sn, tyD_sl, tyD_st, tyD_ti, tyD_tb, tyD_ts, tyD_tn, tyD_tl, tyD_tt, tyD_li, tyD_lb, tyD_ls, tyD_ln, tyD_ll, tyD_lt, biD_1, biD_2, biD_3, biD_4, biD_5, biD_6, biD_7, biD_8, biD_9, biD_10, biD_11, biD_12, biD_13, biD_14, biD_15, op2D_1, op2D_2, op2D_3, op2D_4, op2D_5, op2D_6, oR_some, Option.map_some, true_or, false_or, lend_ret, notB2_sh, notB2_nw, notB2_bw, resOk_bl, resOk_int, resOk_non, resOk_str, resOk_l, resOk_t, mapD, ix0, ix1]
  refine a_loop2 (ties := ties) hn names (fun _ _ => False) [] 0 none none _ ⟨fun _ _ z => z.elim, Nat.le_refl _⟩ (by omega) fun kvs s2 s3 h => ?_
  simp only [id_eq, R.bind_ok, R.guard_true, ss_cons, ss_nil, Sq, Fl, W_bind, W_ok, W_guard, R.ite_true, R.ite_false, W_ite, evS, evE, evEs, evO, evTs, evIt, strD_i, keyD_i, keyD_s, keysD_n, keysD_c, dgetD_s, dgetD_i, dgetD_t, dinD_s, dinD_i, dinD_t, setPat_v, setPat_t, setPats_n, setPats_c, setSlot, start0, wipeE, ownL, stoD, dstD, rangeD, List.map_cons, List.map_nil, List.cons_append, List.nil_append, List.append_nil, List.length_cons, List.length_nil, List.replicate_succ, List.replicate_zero, List.getElem?_cons_zero, List.getElem?_cons_succ, List.set_cons_zero, List.set_cons_succ, List.all_cons, List.all_nil, Nat.add_sub_cancel, Nat.reduceAdd, Nat.reduceSub, Bool.and_true, Bool.true_and, Bool.and_self, Bool.not_true, Bool.not_false, true_and, and_true, decide_eq_true_eq, Nat.zero_add, decide_eq_false_iff_not, Int.reduceLT, Int.reduceEq, eqD_i, eqD_s, shp_i, shp_s, shp_b, shp_n, Int.reduceLE, Int.reduceMul, Int.reduceAdd, Int.reduceMod, Int.reduceNeg, Int.reduceSub, Int.reduceToNat, reduceCtorEq, false_implies, true_implies, decide_true, decide_false, forall_const, Bool.false_eq_true, Bool.not_eq_true', Bool.and_eq_true, Bool.or_eq_true, addD_i, addD_s, addD_l, addD_t, subD_i, mulD_i, mulD_s, fdivD_i, modD_i, powD_i, ltD_i, ltD_s, leD_i, leD_s, gtD_i, gtD_s, geD_i, geD_s, inD_l, inD_t, inD_s, isBl_b, cmpD_eq, cmpD_ne, cmpD_lt, cmpD_le, cmpD_gt, cmpD_ge, cmpD_in, cmpD_notin, cmpD_isN, cmpD_notN, cmpD_isB, cmpD_notB, isNon_n, isNon_i, isNon_b, isNon_s, isNon_l, isNon_t, items_l, items_t, itemsI_l, itemsI_t, itemsI_s, ixD_l, ixD_t, ixD_s, slD_l, slD_t, slD_s, lenD_l, lenD_t, lenD_s, lenD_d, absD_i, minD_i, maxD_i, minD_1, maxD_1, bestD_c, sortedD_1, listD_1, tupleD_1, allD_l, anyD_l, sumD_l, sumD_t, intD_i, intD_b, boolD_b, boolD_i, joinD_s, retK_sh, retK_nw, retK_bw, kdOf_0, kdOf_1, kdOf_2, inKd_sh, inKd_nw, inKd_bw, inKd_b2, toKd_t, toKd_f, notBw_sh, notBw_nw, notBw_bw, notBw_b2, exact_sh, exact_nw, exact_bw, ownOk_l, ownOk_K, ownOk_T, ownOk_2, tyD_ii, tyD_ib, tyD_is, tyD_in, tyD_il, tyD_it, tyD_bi, tyD_bb, tyD_bs, tyD_bn, tyD_bl, tyD_bt, tyD_si, tyD_sb, tyD_ss, tyD_sn, tyD_sl, tyD_st, tyD_ti, tyD_tb, tyD_ts, tyD_tn, tyD_tl, tyD_tt, tyD_li, tyD_lb, tyD_ls, tyD_ln, tyD_ll, tyD_lt, biD_1, biD_2, biD_3, biD_4, biD_5, biD_6, biD_7, biD_8, biD_9, biD_10, biD_11, biD_12, biD_13, biD_14, biD_15, op2D_1, op2D_2, op2D_3, op2D_4, op2D_5, op2D_6, oR_some, Option.map_some, true_or, false_or, lend_ret, notB2_sh, notB2_nw, notB2_bw, resOk_bl, resOk_int, resOk_non, resOk_str, resOk_l, resOk_t, mapD, ix0, ix1]
  refine l_loop T ties [] kvs s2 s3 none _ ⟨fun a ha b hb => let ⟨i, e, h0, h1, h2, h3⟩ := h.cov a b (.inr ⟨ha, hb⟩); ⟨i, e, h0, h1, fun hl => by rw [h3 (h2 hl), ← h2 hl]; exact .nil, h3⟩, fun t ht => (nomatch ht), by have := h.len; omega⟩ rfl fun kvs s2 s3 s4 h => ?_
  simp only [id_eq, R.bind_ok, R.guard_true, ss_cons, ss_nil, Sq, Fl, W_bind, W_ok, W_guard, R.ite_true, R.ite_false, W_ite, evS, evE, evEs, evO, evTs, evIt, strD_i, keyD_i, keyD_s, keysD_n, keysD_c, dgetD_s, dgetD_i, dgetD_t, dinD_s, dinD_i, dinD_t, setPat_v, setPat_t, setPats_n, setPats_c, setSlot, start0, wipeE, ownL, stoD, dstD, rangeD, List.map_cons, List.map_nil, List.cons_append, List.nil_append, List.append_nil, List.length_cons, List.length_nil, List.replicate_succ, List.replicate_zero, List.getElem?_cons_zero, List.getElem?_cons_succ, List.set_cons_zero, List.set_cons_succ, List.all_cons, List.all_nil, Nat.add_sub_cancel, Nat.reduceAdd, Nat.reduceSub, Bool.and_true, Bool.true_and, Bool.and_self, Bool.not_true, Bool.not_false, true_and, and_true, decide_eq_true_eq, Nat.zero_add, decide_eq_false_iff_not, Int.reduceLT, Int.reduceEq, eqD_i, eqD_s, shp_i, shp_s, shp_b, shp_n, Int.reduceLE, Int.reduceMul, Int.reduceAdd, Int.reduceMod, Int.reduceNeg, Int.reduceSub, Int.reduceToNat, reduceCtorEq, false_implies, true_implies, decide_true, decide_false, forall_const, Bool.false_eq_true, Bool.not_eq_true', Bool.and_eq_true, Bool.or_eq_true, addD_i, addD_s, addD_l, addD_t, subD_i, mulD_i, mulD_s, fdivD_i, modD_i, powD_i, ltD_i, ltD_s, leD_i, leD_s, gtD_i, gtD_s, geD_i, geD_s, inD_l, inD_t, inD_s, isBl_b, cmpD_eq, cmpD_ne, cmpD_lt, cmpD_le, cmpD_gt, cmpD_ge, cmpD_in, cmpD_notin, cmpD_isN, cmpD_notN, cmpD_isB, cmpD_notB, isNon_n, isNon_i, isNon_b, isNon_s, isNon_l, isNon_t, items_l, items_t, itemsI_l, itemsI_t, itemsI_s, ixD_l, ixD_t, ixD_s, slD_l, slD_t, slD_s, lenD_l, lenD_t, lenD_s, lenD_d, absD_i, minD_i, maxD_i, minD_1, maxD_1, bestD_c, sortedD_1, listD_1, tupleD_1, allD_l, anyD_l, sumD_l, sumD_t, intD_i, intD_b, boolD_b, boolD_i, joinD_s, retK_sh, retK_nw, retK_bw, kdOf_0, kdOf_1, kdOf_2, inKd_sh, inKd_nw, inKd_bw, inKd_b2, toKd_t, toKd_f, notBw_sh, notBw_nw, notBw_bw, notBw_b2, exact_sh, exact_nw, exact_bw, ownOk_l, ownOk_K, ownOk_T, ownOk_2, tyD_ii, tyD_ib, tyD_is, tyD_in, tyD_il, tyD_it, tyD_bi, tyD_bb, tyD_bs, tyD_bn, tyD_bl, tyD_bt, tyD_si, tyD_sb, tyD_ss, tyD_sn, tyD_sl, tyD_st, tyD_ti, tyD_tb, tyD_ts, tyD_tn, tyD_tl, tyD_tt, tyD_li, tyD_lb, tyD_ls, tyD_ln, tyD_ll, tyD_lt, biD_1, biD_2, biD_3, biD_4, biD_5, biD_6, biD_7, biD_8, biD_9, biD_10, biD_11, biD_12, biD_13, biD_14, biD_15, op2D_1, op2D_2, op2D_3, op2D_4, op2D_5, op2D_6, oR_some, Option.map_some, true_or, false_or, lend_ret, notB2_sh, notB2_nw, notB2_bw, resOk_bl, resOk_int, resOk_non, resOk_str, resOk_l, resOk_t, mapD, ix0, ix1]
  refine far_loop T names (fun _ => False) kvs s2 s3 none _ ⟨fun a ha b hb => let ⟨i, e, _⟩ := h.cov a ha b hb; ⟨i, e⟩, fun a ha b hb => ?_, fun a ha b hb => ?_, h.tie, fun m hm z => z.elim, by have := h.len; omega, fun a ha b hb hlt => ?_, fun a ha => ?_⟩ (fun b hb => hb) fun kvs s2 s3 s5 h => ?_
  · obtain ⟨i, e, h0, _, _⟩ := h.cov a ha b hb
    rw [dOf_eq e]; exact h0
  · obtain ⟨i, e, _, h1, _⟩ := h.cov a ha b hb
    rw [dOf_eq e]; exact h1
  · obtain ⟨i, e, _, _, h2, _⟩ := h.cov a ha b hb
    rw [dOf_eq e] at hlt ⊢
    exact h2 hlt
  · obtain ⟨i, e, _, _, _, h2⟩ := h.cov a ha a ha
    rw [dOf_eq e]; exact h2 rfl
  · simp only [id_eq, R.bind_ok, R.guard_true, ss_cons, ss_nil, Sq, Fl, W_bind, W_ok, W_guard, R.ite_true, R.ite_false, W_ite, evS, evE, evEs, evO, evTs, evIt, strD_i, keyD_i, keyD_s, keysD_n, keysD_c, dgetD_s, dgetD_i, dgetD_t, dinD_s, dinD_i, dinD_t, setPat_v, setPat_t, setPats_n, setPats_c, setSlot, start0, wipeE, ownL, stoD, dstD, rangeD, List.map_cons, List.map_nil, List.cons_append, List.nil_append, List.append_nil, List.length_cons, List.length_nil, List.replicate_succ, List.replicate_zero, List.getElem?_cons_zero, List.getElem?_cons_succ, List.set_cons_zero, List.set_cons_succ, List.all_cons, List.all_nil, Nat.add_sub_cancel, Nat.reduceAdd, Nat.reduceSub, Bool.and_true, Bool.true_and, Bool.and_self, Bool.not_true, Bool.not_false, true_and, and_true, decide_eq_true_eq, Nat.zero_add, decide_eq_false_iff_not, Int.reduceLT, Int.reduceEq, eqD_i, eqD_s, shp_i, shp_s, shp_b, shp_n, Int.reduceLE, Int.reduceMul, Int.reduceAdd, Int.reduceMod, Int.reduceNeg, Int.reduceSub, Int.reduceToNat, reduceCtorEq, false_implies, true_implies, decide_true, decide_false, forall_const, Bool.false_eq_true, Bool.not_eq_true', Bool.and_eq_true, Bool.or_eq_true, addD_i, addD_s, addD_l, addD_t, subD_i, mulD_i, mulD_s, fdivD_i, modD_i, powD_i, ltD_i, ltD_s, leD_i, leD_s, gtD_i, gtD_s, geD_i, geD_s, inD_l, inD_t, inD_s, isBl_b, cmpD_eq, cmpD_ne, cmpD_lt, cmpD_le, cmpD_gt, cmpD_ge, cmpD_in, cmpD_notin, cmpD_isN, cmpD_notN, cmpD_isB, cmpD_notB, isNon_n, isNon_i, isNon_b, isNon_s, isNon_l, isNon_t, items_l, items_t, itemsI_l, itemsI_t, itemsI_s, ixD_l, ixD_t, ixD_s, slD_l, slD_t, slD_s, lenD_l, lenD_t, lenD_s, lenD_d, absD_i, minD_i, maxD_i, minD_1, maxD_1, bestD_c, sortedD_1, listD_1, tupleD_1, allD_l, anyD_l, sumD_l, sumD_t, intD_i, intD_b, boolD_b, boolD_i, joinD_s, retK_sh, retK_nw, retK_bw, kdOf_0, kdOf_1, kdOf_2, inKd_sh, inKd_nw, inKd_bw, inKd_b2, toKd_t, toKd_f, notBw_sh, notBw_nw, notBw_bw, notBw_b2, exact_sh, exact_nw, exact_bw, ownOk_l, ownOk_K, ownOk_T, ownOk_2, tyD_ii, tyD_ib, tyD_is, tyD_in, tyD_il, tyD_it, tyD_bi, tyD_bb, tyD_bs, tyD_bn, tyD_bl, tyD_bt, tyD_si, tyD_sb, tyD_ss, tyD_sn, tyD_sl, tyD_st, tyD_ti, tyD_tb, tyD_ts, tyD_tn, tyD_tl, tyD_tt, tyD_li, tyD_lb, tyD_ls, tyD_ln, tyD_ll, tyD_lt, biD_1, biD_2, biD_3, biD_4, biD_5, biD_6, biD_7, biD_8, biD_9, biD_10, biD_11, biD_12, biD_13, biD_14, biD_15, op2D_1, op2D_2, op2D_3, op2D_4, op2D_5, op2D_6, oR_some, Option.map_some, true_or, false_or, lend_ret, notB2_sh, notB2_nw, notB2_bw, resOk_bl, resOk_int, resOk_non, resOk_str, resOk_l, resOk_t]
    exact ⟨_, rfl, h.cov, h.nn, h.ub, h.tie, fun m hm hM => h.tri m hm (.inr hM), h.len, h.wk, h.slf⟩
end Fw

namespace Fw
open L2
/-! ### the distance is the least way's length -/
theorem Way.least {names : List PySem.Str} {ties : List Tie} (T : TiesOk names ties) {kvs : Kvs} (F : Far names ties (fun x => x ∈ names) kvs) {a : PySem.Str} (ha : a ∈ names) {p : List PySem.Str} {L : Int} (h : Way ties a p L) : ∀ b r, p = b :: r → b ∈ names ∧ dOf kvs a b ≤ L := by
  induction h with
  | nil =>
    intro b r e
    cases e
    exact ⟨ha, by rw [F.slf a ha]; exact Int.le_refl _⟩
  | @snoc c b r L l w ad hn ih =>
    intro b' r' e
    cases e
    obtain ⟨hc, hl⟩ := ih c r rfl
    have hb := (ad.mem T).2
    have t := F.tri c hc hc a ha b hb
    obtain ⟨t0, ht, rfl, h12⟩ := ad
    have ht2 := F.tie t0 ht
    rcases h12 with ⟨rfl, rfl⟩ | ⟨rfl, rfl⟩
    · exact ⟨hb, by omega⟩
    · exact ⟨hb, by omega⟩
theorem Way.len_le {names : List PySem.Str} {ties : List Tie} (T : TiesOk names ties) {a : PySem.Str} {p : List PySem.Str} {L : Int} (h : Way ties a p L) : 0 ≤ L ∧ L ≤ 50 * ((p.length : Int) - 1) := by
  induction h with
  | nil => exact ⟨Int.le_refl _, by simp⟩
  | snoc w ad hn ih =>
    have := ad.len T
    rw [List.length_cons]
    omega
theorem Way.in_names {names : List PySem.Str} {ties : List Tie} (T : TiesOk names ties) {a : PySem.Str} (ha : a ∈ names) {p : List PySem.Str} {L : Int} (h : Way ties a p L) : ∀ x ∈ p, x ∈ names := by
  induction h with
  | nil => intro x hx; rw [List.mem_singleton] at hx; subst hx; exact ha
  | snoc w ad hn ih =>
    intro x hx
    rcases List.mem_cons.mp hx with e | hx
    · subst e; exact (ad.mem T).2
    · exact ih x hx
theorem nodup_le {α : Type} [DecidableEq α] : ∀ {p q : List α}, p.Nodup → (∀ x ∈ p, x ∈ q) → p.length ≤ q.length
  | [], _, _, _ => Nat.zero_le _
  | x :: p, q, hn, hs => by
    have hx : x ∈ q := hs x List.mem_cons_self
    rw [List.nodup_cons] at hn
    have := nodup_le (q := q.erase x) hn.2 fun y hy => by
      have hne : y ≠ x := fun e => by subst e; exact hn.1 hy
      exact (List.mem_erase_of_ne hne).mpr (hs y (List.mem_cons_of_mem _ hy))
    rw [List.length_erase_of_mem hx] at this
    have h0 : 0 < q.length := List.length_pos_of_mem hx
    rw [List.length_cons]
    omega
/-- the distance, as the ways tell it -/
theorem far_way {names : List PySem.Str} {ties : List Tie} (T : TiesOk names ties) (hn : names.length ≤ 8) (hT : Tied names ties) {kvs : Kvs} (F : Far names ties (fun x => x ∈ names) kvs) {a b : PySem.Str} (ha : a ∈ names) (hb : b ∈ names) : ∃ r, Way ties a (b :: r) (dOf kvs a b) := by
  obtain ⟨L0, w0⟩ := hT a ha b hb
  obtain ⟨r0, M0, v0, _⟩ := w0.way T
  have l1 := (v0.least T F ha b r0 rfl).2
  have l2 := (v0.len_le T).2
  have l3 := nodup_le v0.nodup (v0.in_names T ha)
  have hlt : dOf kvs a b < 9999 := by omega
  obtain ⟨r, M, v, hM⟩ := (F.wk a ha b hb hlt).way T
  have l4 := (v.least T F ha b r rfl).2
  have e : M = dOf kvs a b := by omega
  exact ⟨r, e ▸ v⟩
end Fw

namespace Fw
def C_beside : List S := [.asg (.v 2) (.lc [3, 4, 5] (.v 4) (.t [.v 3, .v 4, .v 5]) (.seq (.v 0)) [.cmp .eq (.v 3) (.v 1)]) 0, .ret (.bi .sorted [.op .add (.v 2) (.lc [3, 4, 5] (.v 3) (.t [.v 3, .v 4, .v 5]) (.seq (.v 0)) [.cmp .eq (.v 4) (.v 1)])])]
end Fw
namespace Fw
open L2
theorem lc_fmap {α : Type} {f : D → R (Option D)} (g : α → D) (c : α → Option D) : ∀ {l : List α}, (∀ t ∈ l, f (g t) = .ok (c t)) → lcGo f (l.map g) = .ok (l.filterMap c)
  | [], _ => rfl
  | t :: r, h => by
    rw [List.map_cons, lcGo, h t List.mem_cons_self, R.bind_ok, lc_fmap g c fun x hx => h x (List.mem_cons_of_mem _ hx), R.bind_ok, List.filterMap_cons]
    cases c t <;> rfl
def nbrs (ties : List Tie) (a : PySem.Str) : List PySem.Str := (ties.filterMap fun t => if t.1 = a then some t.2.1 else none) ++ (ties.filterMap fun t => if t.2.1 = a then some t.1 else none)
theorem beside_ok {F : List Fn} {fi : Nat} (hf : F[fi]? = some ⟨2, 6, C_beside⟩) (n : Nat) (ties : List Tie) (hc : ties.length ≤ 1000) (a : PySem.Str) : run F (n + 1) fi [.tup (ties.map tieD), .str a] = .ok (.lst (((nbrs ties a).mergeSort leS).map .str), true) := by
  have w : W (run F (n + 1) fi [.tup (ties.map tieD), .str a]) fun r => r = (.lst (((nbrs ties a).mergeSort leS).map .str), true) := by
    refine run_W hf rfl ?_
    simp only [C_beside]
    simp only [id_eq, R.bind_ok, R.guard_true, ss_cons, ss_nil, Sq, Fl, W_bind, W_ok, W_guard, R.ite_true, R.ite_false, W_ite, evS, evE, evEs, evO, evTs, evIt, strD_i, keyD_i, keyD_s, keysD_n, keysD_c, dgetD_s, dgetD_i, dgetD_t, dinD_s, dinD_i, dinD_t, setPat_v, setPat_t, setPats_n, setPats_c, setSlot, start0, wipeE, ownL, stoD, dstD, rangeD, List.map_cons, List.map_nil, List.cons_append, List.nil_append, List.append_nil, List.length_cons, List.length_nil, List.replicate_succ, List.replicate_zero, List.getElem?_cons_zero, List.getElem?_cons_succ, List.set_cons_zero, List.set_cons_succ, List.all_cons, List.all_nil, Nat.add_sub_cancel, Nat.reduceAdd, Nat.reduceSub, Bool.and_true, Bool.true_and, Bool.and_self, Bool.not_true, Bool.not_false, true_and, and_true, decide_eq_true_eq, Nat.zero_add, decide_eq_false_iff_not, Int.reduceLT, Int.reduceEq, eqD_i, eqD_s, shp_i, shp_s, shp_b, shp_n, Int.reduceLE, Int.reduceMul, Int.reduceAdd, Int.reduceMod, Int.reduceNeg, Int.reduceSub, Int.reduceToNat, reduceCtorEq, false_implies, true_implies, decide_true, decide_false, forall_const, Bool.false_eq_true, Bool.not_eq_true', Bool.and_eq_true, Bool.or_eq_true, addD_i, addD_s, addD_l, addD_t, subD_i, mulD_i, mulD_s, fdivD_i, modD_i, powD_i, ltD_i, ltD_s, leD_i, leD_s, gtD_i, gtD_s, geD_i, geD_s, inD_l, inD_t, inD_s, isBl_b, cmpD_eq, cmpD_ne, cmpD_lt, cmpD_le, cmpD_gt, cmpD_ge, cmpD_in, cmpD_notin, cmpD_isN, cmpD_notN, cmpD_isB, cmpD_notB, isNon_n, isNon_i, isNon_b, isNon_s, isNon_l, isNon_t, items_l, items_t, itemsI_l, itemsI_t, itemsI_s, ixD_l, ixD_t, ixD_s, slD_l, slD_t, slD_s, lenD_l, lenD_t, lenD_s, lenD_d, absD_i, minD_i, maxD_i, minD_1, maxD_1, bestD_c, sortedD_1, listD_1, tupleD_1, allD_l, anyD_l, sumD_l, sumD_t, intD_i, intD_b, boolD_b, boolD_i, joinD_s, retK_sh, retK_nw, retK_bw, kdOf_0, kdOf_1, kdOf_2, inKd_sh, inKd_nw, inKd_bw, inKd_b2, toKd_t, toKd_f, notBw_sh, notBw_nw, notBw_bw, notBw_b2, exact_sh, exact_nw, exact_bw, ownOk_l, ownOk_K, ownOk_T, ownOk_2, tyD_ii, tyD_ib, tyD_is, tyD_in, tyD_il, tyD_it, tyD_bi, tyD_bb, tyD_bs, tyD_bn, tyD_bl, tyD_bt, tyD_si, tyD_sb, tyD_ss, tyD_sn, tyD_sl, tyD_st, tyD_ti, tyD_tb, tyD_ts, tyD_tn, tyD_tl, tyD_tt, tyD_li, tyD_lb, tyD_ls, tyD_ln, tyD_ll, tyD_lt, biD_1, biD_2, biD_3, biD_4, biD_5, biD_6, biD_7, biD_8, biD_9, biD_10, biD_11, biD_12, biD_13, biD_14, biD_15, op2D_1, op2D_2, op2D_3, op2D_4, op2D_5, op2D_6, oR_some, Option.map_some, true_or, false_or, lend_ret, notB2_sh, notB2_nw, notB2_bw, resOk_bl, resOk_int, resOk_non, resOk_str, resOk_l, resOk_t]
    rw [lc_fmap tieD (fun t => if t.1 = a then some (.str t.2.1) else none) fun t ht => by
      unfold tieD
      simp only [id_eq, R.bind_ok, R.guard_true, ss_cons, ss_nil, Sq, Fl, W_bind, W_ok, W_guard, R.ite_true, R.ite_false, W_ite, evS, evE, evEs, evO, evTs, evIt, strD_i, keyD_i, keyD_s, keysD_n, keysD_c, dgetD_s, dgetD_i, dgetD_t, dinD_s, dinD_i, dinD_t, setPat_v, setPat_t, setPats_n, setPats_c, setSlot, start0, wipeE, ownL, stoD, dstD, rangeD, List.map_cons, List.map_nil, List.cons_append, List.nil_append, List.append_nil, List.length_cons, List.length_nil, List.replicate_succ, List.replicate_zero, List.getElem?_cons_zero, List.getElem?_cons_succ, List.set_cons_zero, List.set_cons_succ, List.all_cons, List.all_nil, Nat.add_sub_cancel, Nat.reduceAdd, Nat.reduceSub, Bool.and_true, Bool.true_and, Bool.and_self, Bool.not_true, Bool.not_false, true_and, and_true, decide_eq_true_eq, Nat.zero_add, decide_eq_false_iff_not, Int.reduceLT, Int.reduceEq, eqD_i, eqD_s, shp_i, shp_s, shp_b, shp_n, Int.reduceLE, Int.reduceMul, Int.reduceAdd, Int.reduceMod, Int.reduceNeg, Int.reduceSub, Int.reduceToNat, reduceCtorEq, false_implies, true_implies, decide_true, decide_false, forall_const, Bool.false_eq_true, Bool.not_eq_true', Bool.and_eq_true, Bool.or_eq_true, addD_i, addD_s, addD_l, addD_t, subD_i, mulD_i, mulD_s, fdivD_i, modD_i, powD_i, ltD_i, ltD_s, leD_i, leD_s, gtD_i, gtD_s, geD_i, geD_s, inD_l, inD_t, inD_s, isBl_b, cmpD_eq, cmpD_ne, cmpD_lt, cmpD_le, cmpD_gt, cmpD_ge, cmpD_in, cmpD_notin, cmpD_isN, cmpD_notN, cmpD_isB, cmpD_notB, isNon_n, isNon_i, isNon_b, isNon_s, isNon_l, isNon_t, items_l, items_t, itemsI_l, itemsI_t, itemsI_s, ixD_l, ixD_t, ixD_s, slD_l, slD_t, slD_s, lenD_l, lenD_t, lenD_s, lenD_d, absD_i, minD_i, maxD_i, minD_1, maxD_1, bestD_c, sortedD_1, listD_1, tupleD_1, allD_l, anyD_l, sumD_l, sumD_t, intD_i, intD_b, boolD_b, boolD_i, joinD_s, retK_sh, retK_nw, retK_bw, kdOf_0, kdOf_1, kdOf_2, inKd_sh, inKd_nw, inKd_bw, inKd_b2, toKd_t, toKd_f, notBw_sh, notBw_nw, notBw_bw, notBw_b2, exact_sh, exact_nw, exact_bw, ownOk_l, ownOk_K, ownOk_T, ownOk_2, tyD_ii, tyD_ib, tyD_is, tyD_in, tyD_il, tyD_it, tyD_bi, tyD_bb, tyD_bs, tyD_bn, tyD_bl, tyD_bt, tyD_si, tyD_sb, tyD_ss, tyD_sn, tyD_sl, tyD_st, tyD_ti, tyD_tb, tyD_ts, tyD_tn, tyD_tl, tyD_tt, tyD_li, tyD_lb, tyD_ls, tyD_ln, tyD_ll, tyD_lt, biD_1, biD_2, biD_3, biD_4, biD_5, biD_6, biD_7, biD_8, biD_9, biD_10, biD_11, biD_12, biD_13, biD_14, biD_15, op2D_1, op2D_2, op2D_3, op2D_4, op2D_5, op2D_6, oR_some, Option.map_some, true_or, false_or, lend_ret, notB2_sh, notB2_nw, notB2_bw, resOk_bl, resOk_int, resOk_non, resOk_str, resOk_l, resOk_t]
      by_cases h : t.1 = a
      · rw [if_pos h, decide_eq_true h]; rfl
      · rw [if_neg h, decide_eq_false h]; rfl]
    simp only [id_eq, R.bind_ok, R.guard_true, ss_cons, ss_nil, Sq, Fl, W_bind, W_ok, W_guard, R.ite_true, R.ite_false, W_ite, evS, evE, evEs, evO, evTs, evIt, strD_i, keyD_i, keyD_s, keysD_n, keysD_c, dgetD_s, dgetD_i, dgetD_t, dinD_s, dinD_i, dinD_t, setPat_v, setPat_t, setPats_n, setPats_c, setSlot, start0, wipeE, ownL, stoD, dstD, rangeD, List.map_cons, List.map_nil, List.cons_append, List.nil_append, List.append_nil, List.length_cons, List.length_nil, List.replicate_succ, List.replicate_zero, List.getElem?_cons_zero, List.getElem?_cons_succ, List.set_cons_zero, List.set_cons_succ, List.all_cons, List.all_nil, Nat.add_sub_cancel, Nat.reduceAdd, Nat.reduceSub, Bool.and_true, Bool.true_and, Bool.and_self, Bool.not_true, Bool.not_false, true_and, and_true, decide_eq_true_eq, Nat.zero_add, decide_eq_false_iff_not, Int.reduceLT, Int.reduceEq, eqD_i, eqD_s, shp_i, shp_s, shp_b, shp_n, Int.reduceLE, Int.reduceMul, Int.reduceAdd, Int.reduceMod, Int.reduceNeg, Int.reduceSub, Int.reduceToNat, reduceCtorEq, false_implies, true_implies, decide_true, decide_false, forall_const, Bool.false_eq_true, Bool.not_eq_true', Bool.and_eq_true, Bool.or_eq_true, addD_i, addD_s, addD_l, addD_t, subD_i, mulD_i, mulD_s, fdivD_i, modD_i, powD_i, ltD_i, ltD_s, leD_i, leD_s, gtD_i, gtD_s, geD_i, geD_s, inD_l, inD_t, inD_s, isBl_b, cmpD_eq, cmpD_ne, cmpD_lt, cmpD_le, cmpD_gt, cmpD_ge, cmpD_in, cmpD_notin, cmpD_isN, cmpD_notN, cmpD_isB, cmpD_notB, isNon_n, isNon_i, isNon_b, isNon_s, isNon_l, isNon_t, items_l, items_t, itemsI_l, itemsI_t, itemsI_s, ixD_l, ixD_t, ixD_s, slD_l, slD_t, slD_s, lenD_l, lenD_t, lenD_s, lenD_d, absD_i, minD_i, maxD_i, minD_1, maxD_1, bestD_c, sortedD_1, listD_1, tupleD_1, allD_l, anyD_l, sumD_l, sumD_t, intD_i, intD_b, boolD_b, boolD_i, joinD_s, retK_sh, retK_nw, retK_bw, kdOf_0, kdOf_1, kdOf_2, inKd_sh, inKd_nw, inKd_bw, inKd_b2, toKd_t, toKd_f, notBw_sh, notBw_nw, notBw_bw, notBw_b2, exact_sh, exact_nw, exact_bw, ownOk_l, ownOk_K, ownOk_T, ownOk_2, tyD_ii, tyD_ib, tyD_is, tyD_in, tyD_il, tyD_it, tyD_bi, tyD_bb, tyD_bs, tyD_bn, tyD_bl, tyD_bt, tyD_si, tyD_sb, tyD_ss, tyD_sn, tyD_sl, tyD_st, tyD_ti, tyD_tb, tyD_ts, tyD_tn, tyD_tl, tyD_tt, tyD_li, tyD_lb, tyD_ls, tyD_ln, tyD_ll, tyD_lt, biD_1, biD_2, biD_3, biD_4, biD_5, biD_6, biD_7, biD_8, biD_9, biD_10, biD_11, biD_12, biD_13, biD_14, biD_15, op2D_1, op2D_2, op2D_3, op2D_4, op2D_5, op2D_6, oR_some, Option.map_some, true_or, false_or, lend_ret, notB2_sh, notB2_nw, notB2_bw, resOk_bl, resOk_int, resOk_non, resOk_str, resOk_l, resOk_t]
    rw [lc_fmap tieD (fun t => if t.2.1 = a then some (.str t.1) else none) fun t ht => by
      unfold tieD
      simp only [id_eq, R.bind_ok, R.guard_true, ss_cons, ss_nil, Sq, Fl, W_bind, W_ok, W_guard, R.ite_true, R.ite_false, W_ite, evS, evE, evEs, evO, evTs, evIt, strD_i, keyD_i, keyD_s, keysD_n, keysD_c, dgetD_s, dgetD_i, dgetD_t, dinD_s, dinD_i, dinD_t, setPat_v, setPat_t, setPats_n, setPats_c, setSlot, start0, wipeE, ownL, stoD, dstD, rangeD, List.map_cons, List.map_nil, List.cons_append, List.nil_append, List.append_nil, List.length_cons, List.length_nil, List.replicate_succ, List.replicate_zero, List.getElem?_cons_zero, List.getElem?_cons_succ, List.set_cons_zero, List.set_cons_succ, List.all_cons, List.all_nil, Nat.add_sub_cancel, Nat.reduceAdd, Nat.reduceSub, Bool.and_true, Bool.true_and, Bool.and_self, Bool.not_true, Bool.not_false, true_and, and_true, decide_eq_true_eq, Nat.zero_add, decide_eq_false_iff_not, Int.reduceLT, Int.reduceEq, eqD_i, eqD_s, shp_i, shp_s, shp_b, shp_n, Int.reduceLE, Int.reduceMul, Int.reduceAdd, Int.reduceMod, Int.reduceNeg, Int.reduceSub, Int.reduceToNat, reduceCtorEq, false_implies, true_implies, decide_true, decide_false, forall_const, Bool.false_eq_true, Bool.not_eq_true', Bool.and_eq_true, Bool.or_eq_true, addD_i, addD_s, addD_l, addD_t, subD_i, mulD_i, mulD_s, fdivD_i, modD_i, powD_i, ltD_i, ltD_s, leD_i, leD_s, gtD_i, gtD_s, geD_i, geD_s, inD_l, inD_t, inD_s, isBl_b, cmpD_eq, cmpD_ne, cmpD_lt, cmpD_le, cmpD_gt, cmpD_ge, cmpD_in, cmpD_notin, cmpD_isN, cmpD_notN, cmpD_isB, cmpD_notB, isNon_n, isNon_i, isNon_b, isNon_s, isNon_l, isNon_t, items_l, items_t, itemsI_l, itemsI_t, itemsI_s, ixD_l, ixD_t, ixD_s, slD_l, slD_t, slD_s, lenD_l, lenD_t, lenD_s, lenD_d, absD_i, minD_i, maxD_i, minD_1, maxD_1, bestD_c, sortedD_1, listD_1, tupleD_1, allD_l, anyD_l, sumD_l, sumD_t, intD_i, intD_b, boolD_b, boolD_i, joinD_s, retK_sh, retK_nw, retK_bw, kdOf_0, kdOf_1, kdOf_2, inKd_sh, inKd_nw, inKd_bw, inKd_b2, toKd_t, toKd_f, notBw_sh, notBw_nw, notBw_bw, notBw_b2, exact_sh, exact_nw, exact_bw, ownOk_l, ownOk_K, ownOk_T, ownOk_2, tyD_ii, tyD_ib, tyD_is, tyD_in, tyD_il, tyD_it, tyD_bi, tyD_bb, tyD_bs, tyD_bn, tyD_bl, tyD_bt, tyD_si, tyD_sb, tyD_ss, tyD_sn, tyD_sl, tyD_st, tyD_ti, tyD_tb, tyD_ts, tyD_tn, tyD_tl, tyD_tt, tyD_li, tyD_lb, tyD_ls, tyD_ln, tyD_ll, tyD_lt, biD_1, biD_2, biD_3, biD_4, biD_5, biD_6, biD_7, biD_8, biD_9, biD_10, biD_11, biD_12, biD_13, biD_14, biD_15, op2D_1, op2D_2, op2D_3, op2D_4, op2D_5, op2D_6, oR_some, Option.map_some, true_or, false_or, lend_ret, notB2_sh, notB2_nw, notB2_bw, resOk_bl, resOk_int, resOk_non, resOk_str, resOk_l, resOk_t]
      by_cases h : t.2.1 = a
      · rw [if_pos h, decide_eq_true h]; rfl
      · rw [if_neg h, decide_eq_false h]; rfl]
    have e1 : ∀ (p : Tie → Bool) (q : Tie → PySem.Str), (ties.filterMap fun t => if p t = true then some (D.str (q t)) else none) = (ties.filterMap fun t => if p t = true then some (q t) else none).map .str := fun p q => by
      rw [List.map_filterMap]
      congr 1
      funext t
      by_cases h : p t = true <;> simp [h]
    have l1 := List.length_filterMap_le (fun t : Tie => if t.1 = a then some (D.str t.2.1) else none) ties
    have l2 := List.length_filterMap_le (fun t : Tie => if t.2.1 = a then some (D.str t.1) else none) ties
    simp only [id_eq, R.bind_ok, R.guard_true, ss_cons, ss_nil, Sq, Fl, W_bind, W_ok, W_guard, R.ite_true, R.ite_false, W_ite, evS, evE, evEs, evO, evTs, evIt, strD_i, keyD_i, keyD_s, keysD_n, keysD_c, dgetD_s, dgetD_i, dgetD_t, dinD_s, dinD_i, dinD_t, setPat_v, setPat_t, setPats_n, setPats_c, setSlot, start0, wipeE, ownL, stoD, dstD, rangeD, List.map_cons, List.map_nil, List.cons_append, List.nil_append, List.append_nil, List.length_cons, List.length_nil, List.replicate_succ, List.replicate_zero, List.getElem?_cons_zero, List.getElem?_cons_succ, List.set_cons_zero, List.set_cons_succ, List.all_cons, List.all_nil, Nat.add_sub_cancel, Nat.reduceAdd, Nat.reduceSub, Bool.and_true, Bool.true_and, Bool.and_self, Bool.not_true, Bool.not_false, true_and, and_true, decide_eq_true_eq, Nat.zero_add, decide_eq_false_iff_not, Int.reduceLT, Int.reduceEq, eqD_i, eqD_s, shp_i, shp_s, shp_b, shp_n, Int.reduceLE, Int.reduceMul, Int.reduceAdd, Int.reduceMod, Int.reduceNeg, Int.reduceSub, Int.reduceToNat, reduceCtorEq, false_implies, true_implies, decide_true, decide_false, forall_const, Bool.false_eq_true, Bool.not_eq_true', Bool.and_eq_true, Bool.or_eq_true, addD_i, addD_s, addD_l, addD_t, subD_i, mulD_i, mulD_s, fdivD_i, modD_i, powD_i, ltD_i, ltD_s, leD_i, leD_s, gtD_i, gtD_s, geD_i, geD_s, inD_l, inD_t, inD_s, isBl_b, cmpD_eq, cmpD_ne, cmpD_lt, cmpD_le, cmpD_gt, cmpD_ge, cmpD_in, cmpD_notin, cmpD_isN, cmpD_notN, cmpD_isB, cmpD_notB, isNon_n, isNon_i, isNon_b, isNon_s, isNon_l, isNon_t, items_l, items_t, itemsI_l, itemsI_t, itemsI_s, ixD_l, ixD_t, ixD_s, slD_l, slD_t, slD_s, lenD_l, lenD_t, lenD_s, lenD_d, absD_i, minD_i, maxD_i, minD_1, maxD_1, bestD_c, sortedD_1, listD_1, tupleD_1, allD_l, anyD_l, sumD_l, sumD_t, intD_i, intD_b, boolD_b, boolD_i, joinD_s, retK_sh, retK_nw, retK_bw, kdOf_0, kdOf_1, kdOf_2, inKd_sh, inKd_nw, inKd_bw, inKd_b2, toKd_t, toKd_f, notBw_sh, notBw_nw, notBw_bw, notBw_b2, exact_sh, exact_nw, exact_bw, ownOk_l, ownOk_K, ownOk_T, ownOk_2, tyD_ii, tyD_ib, tyD_is, tyD_in, tyD_il, tyD_it, tyD_bi, tyD_bb, tyD_bs, tyD_bn, tyD_bl, tyD_bt, tyD_si, tyD_sb, tyD_ss, tyD_sn, tyD_sl, tyD_st, tyD_ti, tyD_tb, tyD_ts, tyD_tn, tyD_tl, tyD_tt, tyD_li, tyD_lb, tyD_ls, tyD_ln, tyD_ll, tyD_lt, biD_1, biD_2, biD_3, biD_4, biD_5, biD_6, biD_7, biD_8, biD_9, biD_10, biD_11, biD_12, biD_13, biD_14, biD_15, op2D_1, op2D_2, op2D_3, op2D_4, op2D_5, op2D_6, oR_some, Option.map_some, true_or, false_or, lend_ret, notB2_sh, notB2_nw, notB2_bw, resOk_bl, resOk_int, resOk_non, resOk_str, resOk_l, resOk_t]
    refine ⟨by simp only [line]; omega, ?_⟩
    have e2 : (ties.filterMap fun t => if t.1 = a then some (D.str t.2.1) else none) ++ (ties.filterMap fun t => if t.2.1 = a then some (D.str t.1) else none) = (nbrs ties a).map .str := by
      have := e1 (fun t => decide (t.1 = a)) (fun t => t.2.1)
      have h2 := e1 (fun t => decide (t.2.1 = a)) (fun t => t.1)
      simp only [decide_eq_true_eq] at this h2
      rw [this, h2, ← List.map_append]
      rfl
    rw [e2, sort_strs]
    simp only [id_eq, R.bind_ok, R.guard_true, ss_cons, ss_nil, Sq, Fl, W_bind, W_ok, W_guard, R.ite_true, R.ite_false, W_ite, evS, evE, evEs, evO, evTs, evIt, strD_i, keyD_i, keyD_s, keysD_n, keysD_c, dgetD_s, dgetD_i, dgetD_t, dinD_s, dinD_i, dinD_t, setPat_v, setPat_t, setPats_n, setPats_c, setSlot, start0, wipeE, ownL, stoD, dstD, rangeD, List.map_cons, List.map_nil, List.cons_append, List.nil_append, List.append_nil, List.length_cons, List.length_nil, List.replicate_succ, List.replicate_zero, List.getElem?_cons_zero, List.getElem?_cons_succ, List.set_cons_zero, List.set_cons_succ, List.all_cons, List.all_nil, Nat.add_sub_cancel, Nat.reduceAdd, Nat.reduceSub, Bool.and_true, Bool.true_and, Bool.and_self, Bool.not_true, Bool.not_false, true_and, and_true, decide_eq_true_eq, Nat.zero_add, decide_eq_false_iff_not, Int.reduceLT, Int.reduceEq, eqD_i, eqD_s, shp_i, shp_s, shp_b, shp_n, Int.reduceLE, Int.reduceMul, Int.reduceAdd, Int.reduceMod, Int.reduceNeg, Int.reduceSub, Int.reduceToNat, reduceCtorEq, false_implies, true_implies, decide_true, decide_false, forall_const, Bool.false_eq_true, Bool.not_eq_true', Bool.and_eq_true, Bool.or_eq_true, addD_i, addD_s, addD_l, addD_t, subD_i, mulD_i, mulD_s, fdivD_i, modD_i, powD_i, ltD_i, ltD_s, leD_i, leD_s, gtD_i, gtD_s, geD_i, geD_s, inD_l, inD_t, inD_s, isBl_b, cmpD_eq, cmpD_ne, cmpD_lt, cmpD_le, cmpD_gt, cmpD_ge, cmpD_in, cmpD_notin, cmpD_isN, cmpD_notN, cmpD_isB, cmpD_notB, isNon_n, isNon_i, isNon_b, isNon_s, isNon_l, isNon_t, items_l, items_t, itemsI_l, itemsI_t, itemsI_s, ixD_l, ixD_t, ixD_s, slD_l, slD_t, slD_s, lenD_l, lenD_t, lenD_s, lenD_d, absD_i, minD_i, maxD_i, minD_1, maxD_1, bestD_c, sortedD_1, listD_1, tupleD_1, allD_l, anyD_l, sumD_l, sumD_t, intD_i, intD_b, boolD_b, boolD_i, joinD_s, retK_sh, retK_nw, retK_bw, kdOf_0, kdOf_1, kdOf_2, inKd_sh, inKd_nw, inKd_bw, inKd_b2, toKd_t, toKd_f, notBw_sh, notBw_nw, notBw_bw, notBw_b2, exact_sh, exact_nw, exact_bw, ownOk_l, ownOk_K, ownOk_T, ownOk_2, tyD_ii, tyD_ib, tyD_is, tyD_in, tyD_il, tyD_it, tyD_bi, tyD_bb, tyD_bs, tyD_bn, tyD_bl, tyD_bt, tyD_si, tyD_sb, tyD_ss, tyD_sn, tyD_sl, tyD_st, tyD_ti, tyD_tb, tyD_ts, tyD_tn, tyD_tl, tyD_tt, tyD_li, tyD_lb, tyD_ls, tyD_ln, tyD_ll, tyD_lt, biD_1, biD_2, biD_3, biD_4, biD_5, biD_6, biD_7, biD_8, biD_9, biD_10, biD_11, biD_12, biD_13, biD_14, biD_15, op2D_1, op2D_2, op2D_3, op2D_4, op2D_5, op2D_6, oR_some, Option.map_some, true_or, false_or, lend_ret, notB2_sh, notB2_nw, notB2_bw, resOk_bl, resOk_int, resOk_non, resOk_str, resOk_l, resOk_t]
  obtain ⟨x, e, rfl⟩ := w
  exact e
end Fw

namespace Fw
def C_lengths : List S := [.asg (.v 1) (.dict0 true) 1, .for_ (.t [.v 2, .v 3, .v 4]) (.seq (.ix (.v 0) (.k (.int 1)))) [.dst 1 (.tup [.v 2, .v 3]) (.v 4), .dst 1 (.tup [.v 3, .v 2]) (.v 4)], .ret (.v 1)]
def C_check : List S := [.ite (.cmp .notin (.v 1) (.ix (.v 0) (.k (.int 0)))) [.never] []]
end Fw
namespace Fw
open L2
structure Lens (pre : List Tie) (kvs : Kvs) : Prop where
  at_ : ∀ t ∈ pre, valK kvs (ky t.1 t.2.1) = some (.int t.2.2) ∧ valK kvs (ky t.2.1 t.1) = some (.int t.2.2)
  len : kvs.length ≤ 2 * pre.length
  on : ∀ a b d, valK kvs (ky a b) = some d → ∃ l, Adj pre a b l
theorem Lens.put {pre : List Tie} {kvs : Kvs} (h : Lens pre kvs) {t : Tie} (hl : ltS t.1 t.2.1) (hp : ∀ u ∈ pre, ltS u.1 u.2.1 ∧ ¬ (u.1 = t.1 ∧ u.2.1 = t.2.1)) : Lens (pre ++ [t]) (putD (putD kvs (ky t.1 t.2.1) (.int t.2.2)) (ky t.2.1 t.1) (.int t.2.2)) := by
  have hne := ltS_ne hl
  refine ⟨fun u hu => ?_, ?_, fun a b d e => ?_⟩
  · rw [valK_putD, valK_putD, valK_putD, valK_putD]
    rcases List.mem_append.mp hu with hu | hu
    · obtain ⟨l2, n2⟩ := hp u hu
      have n3 : ¬ (u.1 = t.2.1 ∧ u.2.1 = t.1) := fun ⟨e1, e2⟩ => by
        rw [e1, e2] at l2
        exact ltS_irrefl _ (ltS_trans hl l2)
      rw [if_neg fun e => n3 ⟨(ky_inj e).1.symm, (ky_inj e).2.symm⟩, if_neg fun e => n2 ⟨(ky_inj e).1.symm, (ky_inj e).2.symm⟩, if_neg fun e => n2 ⟨(ky_inj e).2.symm, (ky_inj e).1.symm⟩, if_neg fun e => n3 ⟨(ky_inj e).2.symm, (ky_inj e).1.symm⟩]
      exact h.at_ u hu
    · rw [List.mem_singleton] at hu
      subst hu
      rw [if_neg fun e => hne (ky_inj e).1.symm, if_pos rfl, if_pos rfl]
      exact ⟨rfl, rfl⟩
  · have l1 := putD_len kvs (ky t.1 t.2.1) (.int t.2.2)
    have l2 := putD_len (putD kvs (ky t.1 t.2.1) (.int t.2.2)) (ky t.2.1 t.1) (.int t.2.2)
    have := h.len
    rw [List.length_append, List.length_singleton]
    omega
  · have me : t ∈ pre ++ [t] := List.mem_append.mpr (.inr (List.mem_singleton_self _))
    rw [valK_putD, valK_putD] at e
    split at e
    · rename_i k
      obtain ⟨rfl, rfl⟩ := ky_inj k
      exact ⟨_, t, me, rfl, .inr ⟨rfl, rfl⟩⟩
    · split at e
      · rename_i k
        obtain ⟨rfl, rfl⟩ := ky_inj k
        exact ⟨_, t, me, rfl, .inl ⟨rfl, rfl⟩⟩
      · obtain ⟨l, u, hu, e1, e2⟩ := h.on a b d e
        exact ⟨l, u, List.mem_append.mpr (.inl hu), e1, e2⟩
theorem lens_loop {C : CallT} {names : List PySem.Str} {ties : List Tie} (T : TiesOk names ties) (hc : ties.length ≤ 1000) {s0 : Option Slot} : ∀ (suf pre : List Tie) (kvs : Kvs) (s2 s3 s4 : Option Slot) (Q : Flow → Prop), Lens pre kvs → pre ++ suf = ties →
    (∀ kvs s2 s3 s4, Lens ties kvs → Q (.nx [s0, some ⟨.dT kvs, 1⟩, s2, s3, s4])) →
    W (forGo (.t [.v 2, .v 3, .v 4]) (fun ρ => evSs C L_body ρ) (suf.map tieD) [s0, some ⟨.dT kvs, 1⟩, s2, s3, s4]) Q := by
  intro suf
  induction suf with
  | nil =>
    intro pre kvs s2 s3 s4 Q h he hq
    rw [List.append_nil] at he
    subst he
    rw [List.map_nil, forGo, W_ok]
    exact hq kvs s2 s3 s4 h
  | cons t suf ih =>
    intro pre kvs s2 s3 s4 Q h he hq
    have ht : t ∈ ties := by rw [← he]; exact List.mem_append.mpr (.inr List.mem_cons_self)
    have hd := T.dis
    rw [← he, List.pairwise_append] at hd
    have hp := h.put (T.lt t ht) fun u hu => ⟨T.lt u (by rw [← he]; exact List.mem_append.mpr (.inl hu)), hd.2.2 u hu t List.mem_cons_self⟩
    have l1 := h.len
    have l2 := putD_len kvs (ky t.1 t.2.1) (.int t.2.2)
    have l3 : pre.length ≤ 1000 := by
      have := congrArg List.length he
      rw [List.length_append] at this
      omega
    rw [List.map_cons, forGo, W_bind]
    rw [show setPat (.t [.v 2, .v 3, .v 4]) (tieD t) _ = .ok _ from rfl, W_ok, W_bind]
    simp only [L_body]
    simp only [id_eq, R.bind_ok, R.guard_true, ss_cons, ss_nil, Sq, Fl, W_bind, W_ok, W_guard, R.ite_true, R.ite_false, W_ite, evS, evE, evEs, evO, evTs, evIt, strD_i, keyD_i, keyD_s, keysD_n, keysD_c, dgetD_s, dgetD_i, dgetD_t, dinD_s, dinD_i, dinD_t, setPat_v, setPat_t, setPats_n, setPats_c, setSlot, start0, wipeE, ownL, stoD, dstD, rangeD, List.map_cons, List.map_nil, List.cons_append, List.nil_append, List.append_nil, List.length_cons, List.length_nil, List.replicate_succ, List.replicate_zero, List.getElem?_cons_zero, List.getElem?_cons_succ, List.set_cons_zero, List.set_cons_succ, List.all_cons, List.all_nil, Nat.add_sub_cancel, Nat.reduceAdd, Nat.reduceSub, Bool.and_true, Bool.true_and, Bool.and_self, Bool.not_true, Bool.not_false, true_and, and_true, decide_eq_true_eq, Nat.zero_add, decide_eq_false_iff_not, Int.reduceLT, Int.reduceEq, eqD_i, eqD_s, shp_i, shp_s, shp_b, shp_n, Int.reduceLE, Int.reduceMul, Int.reduceAdd, Int.reduceMod, Int.reduceNeg, Int.reduceSub, Int.reduceToNat, reduceCtorEq, false_implies, true_implies, decide_true, decide_false, forall_const, Bool.false_eq_true, Bool.not_eq_true', Bool.and_eq_true, Bool.or_eq_true, addD_i, addD_s, addD_l, addD_t, subD_i, mulD_i, mulD_s, fdivD_i, modD_i, powD_i, ltD_i, ltD_s, leD_i, leD_s, gtD_i, gtD_s, geD_i, geD_s, inD_l, inD_t, inD_s, isBl_b, cmpD_eq, cmpD_ne, cmpD_lt, cmpD_le, cmpD_gt, cmpD_ge, cmpD_in, cmpD_notin, cmpD_isN, cmpD_notN, cmpD_isB, cmpD_notB, isNon_n, isNon_i, isNon_b, isNon_s, isNon_l, isNon_t, items_l, items_t, itemsI_l, itemsI_t, itemsI_s, ixD_l, ixD_t, ixD_s, slD_l, slD_t, slD_s, lenD_l, lenD_t, lenD_s, lenD_d, absD_i, minD_i, maxD_i, minD_1, maxD_1, bestD_c, sortedD_1, listD_1, tupleD_1, allD_l, anyD_l, sumD_l, sumD_t, intD_i, intD_b, boolD_b, boolD_i, joinD_s, retK_sh, retK_nw, retK_bw, kdOf_0, kdOf_1, kdOf_2, inKd_sh, inKd_nw, inKd_bw, inKd_b2, toKd_t, toKd_f, notBw_sh, notBw_nw, notBw_bw, notBw_b2, exact_sh, exact_nw, exact_bw, ownOk_l, ownOk_K, ownOk_T, ownOk_2, tyD_ii, tyD_ib, tyD_is, tyD_in, tyD_il, tyD_it, tyD_bi, tyD_bb, tyD_bs, tyD_bn, tyD_bl, tyD_bt, tyD_si, tyD_sb, tyD_ss, tyD_sn, tyD_sl, tyD_st, tyD_ti, tyD_tb, tyD_ts, tyD_tn, tyD_tl, tyD_tt, tyD_li, tyD_lb, tyD_ls, tyD_ln, tyD_ll, tyD_lt, biD_1, biD_2, biD_3, biD_4, biD_5, biD_6, biD_7, biD_8, biD_9, biD_10, biD_11, biD_12, biD_13, biD_14, biD_15, op2D_1, op2D_2, op2D_3, op2D_4, op2D_5, op2D_6, oR_some, Option.map_some, true_or, false_or, lend_ret, notB2_sh, notB2_nw, notB2_bw, resOk_bl, resOk_int, resOk_non, resOk_str, resOk_l, resOk_t]
    refine ⟨by simp only [line]; omega, ?_, ?_⟩
    · show (putD kvs (ky t.1 t.2.1) (.int t.2.2)).length < _
      simp only [line]; omega
    · exact ih (pre ++ [t]) _ _ _ _ Q hp (by rw [List.append_assoc]; exact he) hq
theorem lengths_ok {F : List Fn} {fi : Nat} (hf : F[fi]? = some ⟨1, 5, C_lengths⟩) (n : Nat) {names : List PySem.Str} {ties : List Tie} (T : TiesOk names ties) (hc : ties.length ≤ 1000) : W (run F (n + 1) fi [mapD names ties]) fun r => ∃ kvs, r = (.dT kvs, true) ∧ (∀ a b l, Adj ties a b l → valK kvs (ky a b) = some (.int l)) ∧ ∀ a b d, valK kvs (ky a b) = some d → ∃ l, Adj ties a b l := by
  refine run_W hf rfl ?_
  simp only [C_lengths]
  simp only [id_eq, R.bind_ok, R.guard_true, ss_cons, ss_nil, Sq, Fl, W_bind, W_ok, W_guard, R.ite_true, R.ite_false, W_ite, evS, evE, evEs, evO, evTs, evIt, strD_i, keyD_i, keyD_s, keysD_n, keysD_c, dgetD_s, dgetD_i, dgetD_t, dinD_s, dinD_i, dinD_t, setPat_v, setPat_t, setPats_n, setPats_c, setSlot, start0, wipeE, ownL, stoD, dstD, rangeD, List.map_cons, List.map_nil, List.cons_append, List.nil_append, List.append_nil, List.length_cons, List.length_nil, List.replicate_succ, List.replicate_zero, List.getElem?_cons_zero, List.getElem?_cons_succ, List.set_cons_zero, List.set_cons_succ, List.all_cons, List.all_nil, Nat.add_sub_cancel, Nat.reduceAdd, Nat.reduceSub, Bool.and_true, Bool.true_and, Bool.and_self, Bool.not_true, Bool.not_false, true_and, and_true, decide_eq_true_eq, Nat.zero_add, decide_eq_false_iff_not, Int.reduceLT, Int.reduceEq, eqD_i, eqD_s, shp_i, shp_s, shp_b, shp_n, Int.reduceLE, Int.reduceMul, Int.reduceAdd, Int.reduceMod, Int.reduceNeg, Int.reduceSub, Int.reduceToNat, reduceCtorEq, false_implies, true_implies, decide_true, decide_false, forall_const, Bool.false_eq_true, Bool.not_eq_true', Bool.and_eq_true, Bool.or_eq_true, addD_i, addD_s, addD_l, addD_t, subD_i, mulD_i, mulD_s, fdivD_i, modD_i, powD_i, ltD_i, ltD_s, leD_i, leD_s, gtD_i, gtD_s, geD_i, geD_s, inD_l, inD_t, inD_s, isBl_b, cmpD_eq, cmpD_ne, cmpD_lt, cmpD_le, cmpD_gt, cmpD_ge, cmpD_in, cmpD_notin, cmpD_isN, cmpD_notN, cmpD_isB, cmpD_notB, isNon_n, isNon_i, isNon_b, isNon_s, isNon_l, isNon_t, items_l, items_t, itemsI_l, itemsI_t, itemsI_s, ixD_l, ixD_t, ixD_s, slD_l, slD_t, slD_s, lenD_l, lenD_t, lenD_s, lenD_d, absD_i, minD_i, maxD_i, minD_1, maxD_1, bestD_c, sortedD_1, listD_1, tupleD_1, allD_l, anyD_l, sumD_l, sumD_t, intD_i, intD_b, boolD_b, boolD_i, joinD_s, retK_sh, retK_nw, retK_bw, kdOf_0, kdOf_1, kdOf_2, inKd_sh, inKd_nw, inKd_bw, inKd_b2, toKd_t, toKd_f, notBw_sh, notBw_nw, notBw_bw, notBw_b2, exact_sh, exact_nw, exact_bw, ownOk_l, ownOk_K, ownOk_T, ownOk_2, tyD_ii, tyD_ib, tyD_is, tyD_in, tyD_il, tyD_it, tyD_bi, tyD_bb, tyD_bs, tyD_bn, tyD_bl, tyD_bt, tyD_si, tyD_sb, tyD_ss, tyD_sn, tyD_sl, tyD_st, tyD_ti, tyD_tb, tyD_ts, tyD_tn, tyD_tl, tyD_tt, tyD_li, tyD_lb, tyD_ls, tyD_ln, tyD_ll, tyD_lt, biD_1, biD_2, biD_3, biD_4, biD_5, biD_6, biD_7, biD_8, biD_9, biD_10, biD_11, biD_12, biD_13, biD_14, biD_15, op2D_1, op2D_2, op2D_3, op2D_4, op2D_5, op2D_6, oR_some, Option.map_some, true_or, false_or, lend_ret, notB2_sh, notB2_nw, notB2_bw, resOk_bl, resOk_int, resOk_non, resOk_str, resOk_l, resOk_t, mapD, ix0, ix1]
  refine lens_loop T hc ties [] [] none none none _ ⟨fun t ht => (nomatch ht), Nat.le_refl _, fun a b d e => (nomatch e)⟩ rfl fun kvs s2 s3 s4 h => ?_
  simp only [id_eq, R.bind_ok, R.guard_true, ss_cons, ss_nil, Sq, Fl, W_bind, W_ok, W_guard, R.ite_true, R.ite_false, W_ite, evS, evE, evEs, evO, evTs, evIt, strD_i, keyD_i, keyD_s, keysD_n, keysD_c, dgetD_s, dgetD_i, dgetD_t, dinD_s, dinD_i, dinD_t, setPat_v, setPat_t, setPats_n, setPats_c, setSlot, start0, wipeE, ownL, stoD, dstD, rangeD, List.map_cons, List.map_nil, List.cons_append, List.nil_append, List.append_nil, List.length_cons, List.length_nil, List.replicate_succ, List.replicate_zero, List.getElem?_cons_zero, List.getElem?_cons_succ, List.set_cons_zero, List.set_cons_succ, List.all_cons, List.all_nil, Nat.add_sub_cancel, Nat.reduceAdd, Nat.reduceSub, Bool.and_true, Bool.true_and, Bool.and_self, Bool.not_true, Bool.not_false, true_and, and_true, decide_eq_true_eq, Nat.zero_add, decide_eq_false_iff_not, Int.reduceLT, Int.reduceEq, eqD_i, eqD_s, shp_i, shp_s, shp_b, shp_n, Int.reduceLE, Int.reduceMul, Int.reduceAdd, Int.reduceMod, Int.reduceNeg, Int.reduceSub, Int.reduceToNat, reduceCtorEq, false_implies, true_implies, decide_true, decide_false, forall_const, Bool.false_eq_true, Bool.not_eq_true', Bool.and_eq_true, Bool.or_eq_true, addD_i, addD_s, addD_l, addD_t, subD_i, mulD_i, mulD_s, fdivD_i, modD_i, powD_i, ltD_i, ltD_s, leD_i, leD_s, gtD_i, gtD_s, geD_i, geD_s, inD_l, inD_t, inD_s, isBl_b, cmpD_eq, cmpD_ne, cmpD_lt, cmpD_le, cmpD_gt, cmpD_ge, cmpD_in, cmpD_notin, cmpD_isN, cmpD_notN, cmpD_isB, cmpD_notB, isNon_n, isNon_i, isNon_b, isNon_s, isNon_l, isNon_t, items_l, items_t, itemsI_l, itemsI_t, itemsI_s, ixD_l, ixD_t, ixD_s, slD_l, slD_t, slD_s, lenD_l, lenD_t, lenD_s, lenD_d, absD_i, minD_i, maxD_i, minD_1, maxD_1, bestD_c, sortedD_1, listD_1, tupleD_1, allD_l, anyD_l, sumD_l, sumD_t, intD_i, intD_b, boolD_b, boolD_i, joinD_s, retK_sh, retK_nw, retK_bw, kdOf_0, kdOf_1, kdOf_2, inKd_sh, inKd_nw, inKd_bw, inKd_b2, toKd_t, toKd_f, notBw_sh, notBw_nw, notBw_bw, notBw_b2, exact_sh, exact_nw, exact_bw, ownOk_l, ownOk_K, ownOk_T, ownOk_2, tyD_ii, tyD_ib, tyD_is, tyD_in, tyD_il, tyD_it, tyD_bi, tyD_bb, tyD_bs, tyD_bn, tyD_bl, tyD_bt, tyD_si, tyD_sb, tyD_ss, tyD_sn, tyD_sl, tyD_st, tyD_ti, tyD_tb, tyD_ts, tyD_tn, tyD_tl, tyD_tt, tyD_li, tyD_lb, tyD_ls, tyD_ln, tyD_ll, tyD_lt, biD_1, biD_2, biD_3, biD_4, biD_5, biD_6, biD_7, biD_8, biD_9, biD_10, biD_11, biD_12, biD_13, biD_14, biD_15, op2D_1, op2D_2, op2D_3, op2D_4, op2D_5, op2D_6, oR_some, Option.map_some, true_or, false_or, lend_ret, notB2_sh, notB2_nw, notB2_bw, resOk_bl, resOk_int, resOk_non, resOk_str, resOk_l, resOk_t]
  refine ⟨kvs, rfl, fun a b l had => ?_, h.on⟩
  obtain ⟨t, ht, rfl, ⟨rfl, rfl⟩ | ⟨rfl, rfl⟩⟩ := had
  · exact (h.at_ t ht).1
  · exact (h.at_ t ht).2
theorem flat_strs (l : List PySem.Str) : (l.map D.str).all flatD = true := by
  rw [List.all_eq_true]
  intro x hx
  obtain ⟨a, _, rfl⟩ := List.mem_map.mp hx
  rfl
theorem any_str (l : List PySem.Str) (a : PySem.Str) : ((l.map D.str).any fun y => eqD y (.str a)) = decide (a ∈ l) := by
  induction l with
  | nil => rfl
  | cons x r ih =>
    rw [List.map_cons, List.any_cons, ih, eqD_s]
    by_cases h : x = a
    · subst h; simp
    · have h2 : ¬ a = x := fun e => h e.symm
      simp [h, h2]
theorem check_ok {F : List Fn} {fi : Nat} (hf : F[fi]? = some ⟨2, 2, C_check⟩) (n : Nat) {names : List PySem.Str} {ties : List Tie} {a : PySem.Str} (ha : a ∈ names) : run F (n + 1) fi [mapD names ties, .str a] = .ok (.non, false) := by
  have w : W (run F (n + 1) fi [mapD names ties, .str a]) fun r => r = (.non, false) := by
    refine run_W hf rfl ?_
    simp only [C_check]
    simp only [id_eq, R.bind_ok, R.guard_true, ss_cons, ss_nil, Sq, Fl, W_bind, W_ok, W_guard, R.ite_true, R.ite_false, W_ite, evS, evE, evEs, evO, evTs, evIt, strD_i, keyD_i, keyD_s, keysD_n, keysD_c, dgetD_s, dgetD_i, dgetD_t, dinD_s, dinD_i, dinD_t, setPat_v, setPat_t, setPats_n, setPats_c, setSlot, start0, wipeE, ownL, stoD, dstD, rangeD, List.map_cons, List.map_nil, List.cons_append, List.nil_append, List.append_nil, List.length_cons, List.length_nil, List.replicate_succ, List.replicate_zero, List.getElem?_cons_zero, List.getElem?_cons_succ, List.set_cons_zero, List.set_cons_succ, List.all_cons, List.all_nil, Nat.add_sub_cancel, Nat.reduceAdd, Nat.reduceSub, Bool.and_true, Bool.true_and, Bool.and_self, Bool.not_true, Bool.not_false, true_and, and_true, decide_eq_true_eq, Nat.zero_add, decide_eq_false_iff_not, Int.reduceLT, Int.reduceEq, eqD_i, eqD_s, shp_i, shp_s, shp_b, shp_n, Int.reduceLE, Int.reduceMul, Int.reduceAdd, Int.reduceMod, Int.reduceNeg, Int.reduceSub, Int.reduceToNat, reduceCtorEq, false_implies, true_implies, decide_true, decide_false, forall_const, Bool.false_eq_true, Bool.not_eq_true', Bool.and_eq_true, Bool.or_eq_true, addD_i, addD_s, addD_l, addD_t, subD_i, mulD_i, mulD_s, fdivD_i, modD_i, powD_i, ltD_i, ltD_s, leD_i, leD_s, gtD_i, gtD_s, geD_i, geD_s, inD_l, inD_t, inD_s, isBl_b, cmpD_eq, cmpD_ne, cmpD_lt, cmpD_le, cmpD_gt, cmpD_ge, cmpD_in, cmpD_notin, cmpD_isN, cmpD_notN, cmpD_isB, cmpD_notB, isNon_n, isNon_i, isNon_b, isNon_s, isNon_l, isNon_t, items_l, items_t, itemsI_l, itemsI_t, itemsI_s, ixD_l, ixD_t, ixD_s, slD_l, slD_t, slD_s, lenD_l, lenD_t, lenD_s, lenD_d, absD_i, minD_i, maxD_i, minD_1, maxD_1, bestD_c, sortedD_1, listD_1, tupleD_1, allD_l, anyD_l, sumD_l, sumD_t, intD_i, intD_b, boolD_b, boolD_i, joinD_s, retK_sh, retK_nw, retK_bw, kdOf_0, kdOf_1, kdOf_2, inKd_sh, inKd_nw, inKd_bw, inKd_b2, toKd_t, toKd_f, notBw_sh, notBw_nw, notBw_bw, notBw_b2, exact_sh, exact_nw, exact_bw, ownOk_l, ownOk_K, ownOk_T, ownOk_2, tyD_ii, tyD_ib, tyD_is, tyD_in, tyD_il, tyD_it, tyD_bi, tyD_bb, tyD_bs, tyD_bn, tyD_bl, tyD_bt, tyD_si, tyD_sb, tyD_ss, tyD_sn, tyD_sl, tyD_st, tyD_ti, tyD_tb, tyD_ts, tyD_tn, tyD_tl, tyD_tt, tyD_li, tyD_lb, tyD_ls, tyD_ln, tyD_ll, tyD_lt, biD_1, biD_2, biD_3, biD_4, biD_5, biD_6, biD_7, biD_8, biD_9, biD_10, biD_11, biD_12, biD_13, biD_14, biD_15, op2D_1, op2D_2, op2D_3, op2D_4, op2D_5, op2D_6, oR_some, Option.map_some, true_or, false_or, lend_ret, notB2_sh, notB2_nw, notB2_bw, resOk_bl, resOk_int, resOk_non, resOk_str, resOk_l, resOk_t, mapD, ix0, flat_strs, any_str]
    rw [decide_eq_true ha]
    exact ⟨rfl, by simp; exact fun h => absurd ha h⟩
  obtain ⟨x, e, rfl⟩ := w
  exact e
end Fw

namespace Fw
open L2
/-! ### neighbours -/
theorem mem_nbrs {ties : List Tie} {a b : PySem.Str} : b ∈ nbrs ties a ↔ ∃ l, Adj ties a b l := by
  unfold nbrs Adj
  rw [List.mem_append, List.mem_filterMap, List.mem_filterMap]
  constructor
  · rintro (⟨t, ht, h⟩ | ⟨t, ht, h⟩)
    · split at h
      · rename_i e
        cases h
        exact ⟨_, t, ht, rfl, .inl ⟨e, rfl⟩⟩
      · cases h
    · split at h
      · rename_i e
        cases h
        exact ⟨_, t, ht, rfl, .inr ⟨rfl, e⟩⟩
      · cases h
  · rintro ⟨l, t, ht, _, ⟨rfl, rfl⟩ | ⟨rfl, rfl⟩⟩
    · exact .inl ⟨t, ht, by rw [if_pos rfl]⟩
    · exact .inr ⟨t, ht, by rw [if_pos rfl]⟩
theorem nbrs_nodup {names : List PySem.Str} {ties : List Tie} (T : TiesOk names ties) (a : PySem.Str) : (nbrs ties a).Nodup := by
  unfold nbrs
  rw [List.nodup_append]
  refine ⟨?_, ?_, ?_⟩
  · unfold List.Nodup
    rw [List.pairwise_filterMap]
    refine T.dis.imp fun {t u} h b hb c hc e => ?_
    split at hb <;> split at hc <;> simp_all
  · unfold List.Nodup
    rw [List.pairwise_filterMap]
    refine T.dis.imp fun {t u} h b hb c hc e => ?_
    split at hb <;> split at hc <;> simp_all
  · intro b hb c hc e
    subst e
    rw [List.mem_filterMap] at hb hc
    obtain ⟨t, ht, h1⟩ := hb
    obtain ⟨u, hu, h2⟩ := hc
    split at h1 <;> split at h2 <;> (first | (cases h1; done) | (cases h2; done) | skip)
    rename_i e1 e2
    cases h1
    injection h2 with h2
    have l1 := T.lt t ht
    have l2 := T.lt u hu
    rw [e1] at l1
    rw [e2, h2] at l2
    exact ltS_irrefl _ (ltS_trans l1 l2)
theorem sorted_mem {ties : List Tie} {a b : PySem.Str} : b ∈ (nbrs ties a).mergeSort leS ↔ ∃ l, Adj ties a b l := by
  rw [List.mem_mergeSort]
  exact mem_nbrs
/-! ### all ways -/
abbrev Row := Int × List PySem.Str
def rowD (r : Row) : D := .tup [.int r.1, .tup (r.2.reverse.map .str)]
/-- how much work a row still makes -/
def wt : Nat → Nat
  | 0 => 1
  | r + 1 => 1 + (r + 1) * wt r
def load (n : Nat) (rows : List Row) : Nat := (rows.map fun r => wt (n - r.2.length)).sum
theorem wt_pos (r : Nat) : 1 ≤ wt r := by cases r <;> simp [wt] <;> omega
theorem load_len (n : Nat) (rows : List Row) : rows.length ≤ load n rows := by
  unfold load
  induction rows with
  | nil => exact Nat.zero_le _
  | cons r rs ih =>
    rw [List.length_cons, List.map_cons, List.sum_cons]
    have := wt_pos (n - r.2.length)
    omega
theorem load_append (n : Nat) (r s : List Row) : load n (r ++ s) = load n r + load n s := by
  unfold load
  rw [List.map_append, List.sum_append]
theorem load_same (n k : Nat) : ∀ rows : List Row, (∀ r ∈ rows, r.2.length = k) → load n rows = rows.length * wt (n - k)
  | [], _ => by simp [load]
  | r :: rs, h => by
    have ih := load_same n k rs fun x hx => h x (List.mem_cons_of_mem _ hx)
    unfold load at ih ⊢
    rw [List.map_cons, List.sum_cons, ih, h r List.mem_cons_self, List.length_cons, Nat.add_mul, Nat.one_mul, Nat.add_comm]
/-- what a row is made to -/
def nexts (ties : List Tie) (kvs : Kvs) (r : Row) (nb : List PySem.Str) : List Row := (nb.filter fun b => decide (b ∉ r.2)).map fun b => (r.1 + dOf kvs (r.2.headD ⟨#[]⟩) b, b :: r.2)
end Fw

namespace Fw
def X_body : List S := [.ite (.cmp .notin (.v 7) (.v 6)) [.app 3 (.tup [.op .add (.v 5) (.dget (.v 2) (.tup [.ix (.v 6) (.neg (.k (.int 1))), .v 7])), .op .add (.v 6) (.tup [.v 7])])] []]
def W_body (iBes : Nat) : List S := [.asg (.t [.v 5, .v 6]) (.ix (.v 3) (.v 4)) 0, .for_ (.v 7) (.seq (.call iBes [.ix (.v 0) (.k (.int 1)), .ix (.v 6) (.neg (.k (.int 1)))])) X_body, .asg (.v 4) (.op .add (.v 4) (.k (.int 1))) 0]
def C_ways (iLen iBes : Nat) : List S := [.asg (.v 2) (.call iLen [.v 0]) 0, .asg (.v 3) (.lst [.tup [.k (.int 0), .tup [.v 1]]]) 1, .asg (.v 4) (.k (.int 0)) 0, .whl (.cmp .lt (.v 4) (.bi .len [.v 3])) (W_body iBes), .ret (.v 3)]
end Fw
namespace Fw
open L2
theorem last_at (a : PySem.Str) (r : List PySem.Str) : atI ((a :: r).reverse.map D.str) (-1) = some (.str a) := by
  rw [List.reverse_cons, List.map_append]
  exact atI_last _ _
theorem x_loop {C : CallT} {ties : List Tie} {kvs : Kvs} {L : Int} {a : PySem.Str} {r : List PySem.Str} (hr : r.length ≤ 100) {s0 s1 s4 : Option Slot} : ∀ (nb : List PySem.Str) (rows : List Row) (s7 : Option Slot) (Q : Flow → Prop), (∀ b ∈ nb, ∃ i : Int, valK kvs (ky a b) = some (.int i)) → rows.length + nb.length ≤ 100000 →
    (∀ s7, Q (.nx [s0, s1, some ⟨.dT kvs, 0⟩, some ⟨.lst ((rows ++ nexts ties kvs (L, a :: r) nb).map rowD), 1⟩, s4, some ⟨.int L, 0⟩, some ⟨.tup ((a :: r).reverse.map .str), 0⟩, s7])) →
    W (forGo (.v 7) (fun ρ => evSs C X_body ρ) (nb.map .str) [s0, s1, some ⟨.dT kvs, 0⟩, some ⟨.lst (rows.map rowD), 1⟩, s4, some ⟨.int L, 0⟩, some ⟨.tup ((a :: r).reverse.map .str), 0⟩, s7]) Q := by
  intro nb
  induction nb with
  | nil =>
    intro rows s7 Q hv hl hq
    rw [List.map_nil, forGo, W_ok]
    have := hq s7
    unfold nexts at this
    rw [List.filter_nil, List.map_nil, List.append_nil] at this
    exact this
  | cons b nb ih =>
    intro rows s7 Q hv hl hq
    rw [List.length_cons] at hl
    obtain ⟨i, hi⟩ := hv b List.mem_cons_self
    have hi' : valK kvs [Sum.inr a, Sum.inr b] = some (.int i) := hi
    rw [List.map_cons, forGo, W_bind]
    rw [show setPat (.v 7) (.str b) _ = .ok _ from rfl, W_ok, W_bind]
    simp only [X_body]
    simp only [id_eq, R.bind_ok, R.guard_true, ss_cons, ss_nil, Sq, Fl, W_bind, W_ok, W_guard, R.ite_true, R.ite_false, W_ite, evS, evE, evEs, evO, evTs, evIt, strD_i, keyD_i, keyD_s, keysD_n, keysD_c, dgetD_s, dgetD_i, dgetD_t, dinD_s, dinD_i, dinD_t, setPat_v, setPat_t, setPats_n, setPats_c, setSlot, start0, wipeE, ownL, stoD, dstD, rangeD, List.map_cons, List.map_nil, List.cons_append, List.nil_append, List.append_nil, List.length_cons, List.length_nil, List.replicate_succ, List.replicate_zero, List.getElem?_cons_zero, List.getElem?_cons_succ, List.set_cons_zero, List.set_cons_succ, List.all_cons, List.all_nil, Nat.add_sub_cancel, Nat.reduceAdd, Nat.reduceSub, Bool.and_true, Bool.true_and, Bool.and_self, Bool.not_true, Bool.not_false, true_and, and_true, decide_eq_true_eq, Nat.zero_add, decide_eq_false_iff_not, Int.reduceLT, Int.reduceEq, eqD_i, eqD_s, shp_i, shp_s, shp_b, shp_n, Int.reduceLE, Int.reduceMul, Int.reduceAdd, Int.reduceMod, Int.reduceNeg, Int.reduceSub, Int.reduceToNat, reduceCtorEq, false_implies, true_implies, decide_true, decide_false, forall_const, Bool.false_eq_true, Bool.not_eq_true', Bool.and_eq_true, Bool.or_eq_true, addD_i, addD_s, addD_l, addD_t, subD_i, mulD_i, mulD_s, fdivD_i, modD_i, powD_i, ltD_i, ltD_s, leD_i, leD_s, gtD_i, gtD_s, geD_i, geD_s, inD_l, inD_t, inD_s, isBl_b, cmpD_eq, cmpD_ne, cmpD_lt, cmpD_le, cmpD_gt, cmpD_ge, cmpD_in, cmpD_notin, cmpD_isN, cmpD_notN, cmpD_isB, cmpD_notB, isNon_n, isNon_i, isNon_b, isNon_s, isNon_l, isNon_t, items_l, items_t, itemsI_l, itemsI_t, itemsI_s, ixD_l, ixD_t, ixD_s, slD_l, slD_t, slD_s, lenD_l, lenD_t, lenD_s, lenD_d, absD_i, minD_i, maxD_i, minD_1, maxD_1, bestD_c, sortedD_1, listD_1, tupleD_1, allD_l, anyD_l, sumD_l, sumD_t, intD_i, intD_b, boolD_b, boolD_i, joinD_s, retK_sh, retK_nw, retK_bw, kdOf_0, kdOf_1, kdOf_2, inKd_sh, inKd_nw, inKd_bw, inKd_b2, toKd_t, toKd_f, notBw_sh, notBw_nw, notBw_bw, notBw_b2, exact_sh, exact_nw, exact_bw, ownOk_l, ownOk_K, ownOk_T, ownOk_2, tyD_ii, tyD_ib, tyD_is, tyD_in, tyD_il, tyD_it, tyD_bi, tyD_bb, tyD_bs, tyD_bn, tyD_bl, tyD_bt, tyD_si, tyD_sb, tyD_ss, tyD_sn, tyD_sl, tyD_st, tyD_ti, tyD_tb, tyD_ts, tyD_tn, tyD_tl, tyD_tt, tyD_li, tyD_lb, tyD_ls, tyD_ln, tyD_ll, tyD_lt, biD_1, biD_2, biD_3, biD_4, biD_5, biD_6, biD_7, biD_8, biD_9, biD_10, biD_11, biD_12, biD_13, biD_14, biD_15, op2D_1, op2D_2, op2D_3, op2D_4, op2D_5, op2D_6, oR_some, Option.map_some, true_or, false_or, lend_ret, notB2_sh, notB2_nw, notB2_bw, resOk_bl, resOk_int, resOk_non, resOk_str, resOk_l, resOk_t, flat_strs, any_str, last_at, hi', List.length_append, List.length_map, List.length_reverse]
    have hmem : (b ∈ (a :: r).reverse) ↔ b ∈ a :: r := List.mem_reverse
    refine ⟨rfl, fun h => ?_, fun h => ?_⟩
    · have hb : b ∉ a :: r := by rw [← hmem]; simpa using h
      refine ⟨by simp only [line]; omega, by simp only [line]; omega, ?_⟩
      have e : (rows.map rowD ++ [D.tup [.int (L + i), .tup ((a :: r).reverse.map .str ++ [.str b])]]) = (rows ++ [(L + i, b :: a :: r)]).map rowD := by
        rw [List.map_append]
        congr 1
        unfold rowD
        simp
      rw [e]
      refine ih _ _ Q (fun c hc => hv c (List.mem_cons_of_mem _ hc)) (by rw [List.length_append, List.length_singleton]; omega) fun s7 => ?_
      have := hq s7
      unfold nexts at this ⊢
      rw [List.filter_cons, if_pos (by rw [decide_eq_true_eq]; exact hb), List.map_cons] at this
      rw [List.append_assoc]
      have ed : dOf kvs (((L, a :: r) : Row).2.headD ⟨#[]⟩) b = i := dOf_eq hi
      rw [ed] at this
      exact this
    · have hb : b ∈ a :: r := by
        rw [← hmem]
        cases e : decide (b ∈ (a :: r).reverse) with
        | true => exact of_decide_eq_true e
        | false => rw [e] at h; cases h
      refine ih _ _ Q (fun c hc => hv c (List.mem_cons_of_mem _ hc)) (by omega) fun s7 => ?_
      have := hq s7
      unfold nexts at this ⊢
      rw [List.filter_cons, if_neg (by rw [decide_eq_true_eq]; exact fun h => h hb)] at this
      exact this
end Fw

namespace Fw
open L2
structure WI (names : List PySem.Str) (ties : List Tie) (kvs : Kvs) (one : PySem.Str) (rows : List Row) (k : Nat) : Prop where
  le : k ≤ rows.length
  way : ∀ r ∈ rows, Way ties one r.2 r.1
  fst : ((0, [one]) : Row) ∈ rows
  cl : ∀ i r, i < k → rows[i]? = some r → ∀ x ∈ nexts ties kvs r ((nbrs ties (r.2.headD ⟨#[]⟩)).mergeSort leS), x ∈ rows
  cap : k + load names.length (rows.drop k) ≤ 13700
  nd : (rows.map (·.2)).Nodup
  fr : ∀ r ∈ rows, r.2 = [one] ∨ ∃ (i : Nat) (q : Row) (b : PySem.Str), i < k ∧ rows[i]? = some q ∧ r.2 = b :: q.2
theorem nexts_way {names : List PySem.Str} {ties : List Tie} (T : TiesOk names ties) {kvs : Kvs} (hk : ∀ a b l, Adj ties a b l → valK kvs (ky a b) = some (.int l)) {one : PySem.Str} {L : Int} {a : PySem.Str} {p : List PySem.Str} (w : Way ties one (a :: p) L) : ∀ x ∈ nexts ties kvs (L, a :: p) ((nbrs ties a).mergeSort leS), Way ties one x.2 x.1 ∧ x.2.length = p.length + 2 := by
  intro x hx
  unfold nexts at hx
  obtain ⟨b, hb, rfl⟩ := List.mem_map.mp hx
  rw [List.mem_filter, decide_eq_true_eq] at hb
  obtain ⟨l, ad⟩ := sorted_mem.mp hb.1
  have e : dOf kvs (((L, a :: p) : Row).2.headD ⟨#[]⟩) b = l := dOf_eq (hk a b l ad)
  rw [e]
  exact ⟨.snoc w ad hb.2, rfl⟩
theorem nexts_few {names : List PySem.Str} {ties : List Tie} (T : TiesOk names ties) {kvs : Kvs} {one : PySem.Str} (ho : one ∈ names) {L : Int} {a : PySem.Str} {p : List PySem.Str} (w : Way ties one (a :: p) L) : (nexts ties kvs (L, a :: p) ((nbrs ties a).mergeSort leS)).length + (p.length + 1) ≤ names.length := by
  unfold nexts
  rw [List.length_map]
  have hn : (((nbrs ties a).mergeSort leS).filter (fun b => decide (b ∉ a :: p)) ++ (a :: p)).Nodup := by
    rw [List.nodup_append]
    refine ⟨?_, w.nodup, fun x hx y hy e => ?_⟩
    · exact ((List.mergeSort_perm _ _).nodup_iff.mpr (nbrs_nodup T a)).sublist List.filter_sublist
    · subst e
      rw [List.mem_filter, decide_eq_true_eq] at hx
      exact hx.2 hy
  have := nodup_le (q := names) hn fun x hx => by
    rcases List.mem_append.mp hx with hx | hx
    · rw [List.mem_filter] at hx
      obtain ⟨l, ad⟩ := sorted_mem.mp hx.1
      exact (ad.mem T).2
    · exact w.in_names T ho x hx
  rw [List.length_append, List.length_cons] at this
  omega
theorem WI.turn {names : List PySem.Str} {ties : List Tie} (T : TiesOk names ties) {kvs : Kvs} (hk : ∀ a b l, Adj ties a b l → valK kvs (ky a b) = some (.int l)) {one : PySem.Str} (ho : one ∈ names) {rows : List Row} {k : Nat} (h : WI names ties kvs one rows k) {L : Int} {a : PySem.Str} {p : List PySem.Str} (hr : rows[k]? = some (L, a :: p)) :
    WI names ties kvs one (rows ++ nexts ties kvs (L, a :: p) ((nbrs ties a).mergeSort leS)) (k + 1) ∧ load names.length ((rows ++ nexts ties kvs (L, a :: p) ((nbrs ties a).mergeSort leS)).drop (k + 1)) < load names.length (rows.drop k) := by
  obtain ⟨hlt, hre⟩ := List.getElem?_eq_some_iff.mp hr
  have w : Way ties one (a :: p) L := h.way (L, a :: p) (List.mem_of_getElem? hr)
  have hw := nexts_way T hk w
  have hf := nexts_few (kvs := kvs) T ho w
  have hnx : ∀ x ∈ nexts ties kvs (L, a :: p) ((nbrs ties a).mergeSort leS), ∃ b, x.2 = b :: a :: p := by
    intro x hx
    unfold nexts at hx
    obtain ⟨b, hb, rfl⟩ := List.mem_map.mp hx
    exact ⟨b, rfl⟩
  have hnn : ((nexts ties kvs (L, a :: p) ((nbrs ties a).mergeSort leS)).map (·.2)).Nodup := by
    unfold nexts
    rw [List.map_map]
    have e : ((fun r : Row => r.2) ∘ fun b => (((L, a :: p) : Row).1 + dOf kvs (((L, a :: p) : Row).2.headD ⟨#[]⟩) b, b :: ((L, a :: p) : Row).2)) = fun b => b :: a :: p := rfl
    rw [e]
    unfold List.Nodup
    rw [List.pairwise_map]
    exact (((List.mergeSort_perm _ _).nodup_iff.mpr (nbrs_nodup T a)).sublist List.filter_sublist).imp fun h z => h (List.cons.inj z).1
  generalize hN : nexts ties kvs (L, a :: p) ((nbrs ties a).mergeSort leS) = N at hw hf hnx hnn ⊢
  have e1 : rows.drop k = (L, a :: p) :: rows.drop (k + 1) := by rw [List.drop_eq_getElem_cons hlt, hre]
  have e2 : (rows ++ N).drop (k + 1) = rows.drop (k + 1) ++ N := by rw [List.drop_append_of_le_length (by omega)]
  have l1 : load names.length (rows.drop k) = wt (names.length - (p.length + 1)) + load names.length (rows.drop (k + 1)) := by
    rw [e1]
    rfl
  have l2 : load names.length N = N.length * wt (names.length - (p.length + 2)) := load_same _ _ N fun x hx => (hw x hx).2
  have lt : load names.length ((rows ++ N).drop (k + 1)) < load names.length (rows.drop k) := by
    rw [e2, load_append, l1, l2]
    cases hz : names.length - (p.length + 1) with
    | zero =>
      have : N.length = 0 := by omega
      rw [this, Nat.zero_mul]
      have := wt_pos 0
      omega
    | succ m =>
      have e3 : names.length - (p.length + 2) = m := by omega
      rw [e3]
      have : N.length * wt m ≤ (m + 1) * wt m := Nat.mul_le_mul_right _ (by omega)
      show _ < 1 + (m + 1) * wt m + _
      omega
  refine ⟨⟨by rw [List.length_append]; omega, fun r hr => ?_, List.mem_append.mpr (.inl h.fst), fun i r hi hri x hx => ?_, ?_, ?_, ?_⟩, lt⟩
  · rcases List.mem_append.mp hr with hr | hr
    · exact h.way r hr
    · exact (hw r hr).1
  · have hil : i < rows.length := by omega
    rw [List.getElem?_append_left hil] at hri
    by_cases hik : i < k
    · exact List.mem_append.mpr (.inl (h.cl i r hik hri x hx))
    · have : i = k := by omega
      subst this
      rw [hr] at hri
      cases hri
      refine List.mem_append.mpr (.inr ?_)
      rw [← hN]
      exact hx
  · have := h.cap
    omega
  · rw [List.map_append, List.nodup_append]
    refine ⟨h.nd, hnn, fun x hx y hy e => ?_⟩
    subst e
    obtain ⟨r, hr1, rfl⟩ := List.mem_map.mp hx
    obtain ⟨s, hs, e⟩ := List.mem_map.mp hy
    obtain ⟨b, eb⟩ := hnx s hs
    have e' : r.2 = b :: a :: p := e.symm.trans eb
    rcases h.fr r hr1 with e2 | ⟨i, q, b', hi, hq, e2⟩
    · rw [e2] at e'; simp at e'
    · rw [e2] at e'
      obtain ⟨rfl, e3⟩ := List.cons.inj e'
      have hil : i < (rows.map (·.2)).length := by rw [List.length_map]; omega
      have := (List.getElem?_inj (l := rows.map (·.2)) (i := i) (j := k) hil h.nd).mp (by rw [List.getElem?_map, List.getElem?_map, hq, hr]; simp [e3])
      omega
  · intro r hr1
    rcases List.mem_append.mp hr1 with hr1 | hr1
    · rcases h.fr r hr1 with e2 | ⟨i, q, b', hi, hq, e2⟩
      · exact .inl e2
      · exact .inr ⟨i, q, b', by omega, by rw [List.getElem?_append_left (by omega)]; exact hq, e2⟩
    · obtain ⟨b, eb⟩ := hnx r hr1
      exact .inr ⟨k, (L, a :: p), b, by omega, by rw [List.getElem?_append_left hlt]; exact hr, eb⟩
theorem WI.all {names : List PySem.Str} {ties : List Tie} {kvs : Kvs} (hk : ∀ a b l, Adj ties a b l → valK kvs (ky a b) = some (.int l)) {one : PySem.Str} {rows : List Row} {k : Nat} (h : WI names ties kvs one rows k) (he : k = rows.length) : ∀ p L, Way ties one p L → ((L, p) : Row) ∈ rows := by
  intro p L w
  induction w with
  | nil => exact h.fst
  | @snoc a b r L l w ad hn ih =>
    obtain ⟨i, hi, e⟩ := List.getElem_of_mem ih
    refine h.cl i (L, a :: r) (by omega) (by rw [List.getElem?_eq_getElem hi, e]) _ ?_
    unfold nexts
    refine List.mem_map.mpr ⟨b, ?_, ?_⟩
    · rw [List.mem_filter, decide_eq_true_eq]
      exact ⟨sorted_mem.mpr ⟨l, ad⟩, hn⟩
    · show (L + dOf kvs a b, b :: a :: r) = _
      rw [dOf_eq (hk a b l ad)]
end Fw

namespace Fw
open L2
theorem Way.cons {ties : List Tie} {one : PySem.Str} {p : List PySem.Str} {L : Int} (w : Way ties one p L) : ∃ a r, p = a :: r := by
  cases w with
  | nil => exact ⟨_, _, rfl⟩
  | snoc => exact ⟨_, _, rfl⟩
theorem ways_ok {F : List Fn} {fi iLen iBes : Nat} (hf : F[fi]? = some ⟨2, 8, C_ways iLen iBes⟩) (hL : F[iLen]? = some ⟨1, 5, C_lengths⟩) (hB : F[iBes]? = some ⟨2, 6, C_beside⟩) (n : Nat) {names : List PySem.Str} {ties : List Tie} (T : TiesOk names ties) (hn : names.length ≤ 8) {one : PySem.Str} (ho : one ∈ names) :
    W (run F (n + 2) fi [mapD names ties, .str one]) fun r => ∃ rows : List Row, r = (.lst (rows.map rowD), true) ∧ (∀ r ∈ rows, Way ties one r.2 r.1) ∧ (∀ p L, Way ties one p L → ((L, p) : Row) ∈ rows) ∧ rows.length ≤ 13700 ∧ (rows.map (·.2)).Nodup := by
  have hc : ties.length ≤ 1000 := by have := T.cnt; omega
  refine run_W hf rfl ?_
  simp only [C_ways]
  simp only [id_eq, R.bind_ok, R.guard_true, ss_cons, ss_nil, Sq, Fl, W_bind, W_ok, W_guard, R.ite_true, R.ite_false, W_ite, evS, evE, evEs, evO, evTs, evIt, strD_i, keyD_i, keyD_s, keysD_n, keysD_c, dgetD_s, dgetD_i, dgetD_t, dinD_s, dinD_i, dinD_t, setPat_v, setPat_t, setPats_n, setPats_c, setSlot, start0, wipeE, ownL, stoD, dstD, rangeD, List.map_cons, List.map_nil, List.cons_append, List.nil_append, List.append_nil, List.length_cons, List.length_nil, List.replicate_succ, List.replicate_zero, List.getElem?_cons_zero, List.getElem?_cons_succ, List.set_cons_zero, List.set_cons_succ, List.all_cons, List.all_nil, Nat.add_sub_cancel, Nat.reduceAdd, Nat.reduceSub, Bool.and_true, Bool.true_and, Bool.and_self, Bool.not_true, Bool.not_false, true_and, and_true, decide_eq_true_eq, Nat.zero_add, decide_eq_false_iff_not, Int.reduceLT, Int.reduceEq, eqD_i, eqD_s, shp_i, shp_s, shp_b, shp_n, Int.reduceLE, Int.reduceMul, Int.reduceAdd, Int.reduceMod, Int.reduceNeg, Int.reduceSub, Int.reduceToNat, reduceCtorEq, false_implies, true_implies, decide_true, decide_false, forall_const, Bool.false_eq_true, Bool.not_eq_true', Bool.and_eq_true, Bool.or_eq_true, addD_i, addD_s, addD_l, addD_t, subD_i, mulD_i, mulD_s, fdivD_i, modD_i, powD_i, ltD_i, ltD_s, leD_i, leD_s, gtD_i, gtD_s, geD_i, geD_s, inD_l, inD_t, inD_s, isBl_b, cmpD_eq, cmpD_ne, cmpD_lt, cmpD_le, cmpD_gt, cmpD_ge, cmpD_in, cmpD_notin, cmpD_isN, cmpD_notN, cmpD_isB, cmpD_notB, isNon_n, isNon_i, isNon_b, isNon_s, isNon_l, isNon_t, items_l, items_t, itemsI_l, itemsI_t, itemsI_s, ixD_l, ixD_t, ixD_s, slD_l, slD_t, slD_s, lenD_l, lenD_t, lenD_s, lenD_d, absD_i, minD_i, maxD_i, minD_1, maxD_1, bestD_c, sortedD_1, listD_1, tupleD_1, allD_l, anyD_l, sumD_l, sumD_t, intD_i, intD_b, boolD_b, boolD_i, joinD_s, retK_sh, retK_nw, retK_bw, kdOf_0, kdOf_1, kdOf_2, inKd_sh, inKd_nw, inKd_bw, inKd_b2, toKd_t, toKd_f, notBw_sh, notBw_nw, notBw_bw, notBw_b2, exact_sh, exact_nw, exact_bw, ownOk_l, ownOk_K, ownOk_T, ownOk_2, tyD_ii, tyD_ib, tyD_is, tyD_in, tyD_il, tyD_it, tyD_bi, tyD_bb, tyD_bs, tyD_bn, tyD_bl, tyD_bt, tyD_si, tyD_sb, tyD_ss, tyD_sn, tyD_sl, tyD_st, tyD_ti, tyD_tb, tyD_ts, tyD_tn, tyD_tl, tyD_tt, tyD_li, tyD_lb, tyD_ls, tyD_ln, tyD_ll, tyD_lt, biD_1, biD_2, biD_3, biD_4, biD_5, biD_6, biD_7, biD_8, biD_9, biD_10, biD_11, biD_12, biD_13, biD_14, biD_15, op2D_1, op2D_2, op2D_3, op2D_4, op2D_5, op2D_6, oR_some, Option.map_some, true_or, false_or, lend_ret, notB2_sh, notB2_nw, notB2_bw, resOk_bl, resOk_int, resOk_non, resOk_str, resOk_l, resOk_t]
  refine (lengths_ok hL n T hc).mono fun r ⟨kvs, e, hk, _⟩ => ?_
  subst e
  simp only [id_eq, R.bind_ok, R.guard_true, ss_cons, ss_nil, Sq, Fl, W_bind, W_ok, W_guard, R.ite_true, R.ite_false, W_ite, evS, evE, evEs, evO, evTs, evIt, strD_i, keyD_i, keyD_s, keysD_n, keysD_c, dgetD_s, dgetD_i, dgetD_t, dinD_s, dinD_i, dinD_t, setPat_v, setPat_t, setPats_n, setPats_c, setSlot, start0, wipeE, ownL, stoD, dstD, rangeD, List.map_cons, List.map_nil, List.cons_append, List.nil_append, List.append_nil, List.length_cons, List.length_nil, List.replicate_succ, List.replicate_zero, List.getElem?_cons_zero, List.getElem?_cons_succ, List.set_cons_zero, List.set_cons_succ, List.all_cons, List.all_nil, Nat.add_sub_cancel, Nat.reduceAdd, Nat.reduceSub, Bool.and_true, Bool.true_and, Bool.and_self, Bool.not_true, Bool.not_false, true_and, and_true, decide_eq_true_eq, Nat.zero_add, decide_eq_false_iff_not, Int.reduceLT, Int.reduceEq, eqD_i, eqD_s, shp_i, shp_s, shp_b, shp_n, Int.reduceLE, Int.reduceMul, Int.reduceAdd, Int.reduceMod, Int.reduceNeg, Int.reduceSub, Int.reduceToNat, reduceCtorEq, false_implies, true_implies, decide_true, decide_false, forall_const, Bool.false_eq_true, Bool.not_eq_true', Bool.and_eq_true, Bool.or_eq_true, addD_i, addD_s, addD_l, addD_t, subD_i, mulD_i, mulD_s, fdivD_i, modD_i, powD_i, ltD_i, ltD_s, leD_i, leD_s, gtD_i, gtD_s, geD_i, geD_s, inD_l, inD_t, inD_s, isBl_b, cmpD_eq, cmpD_ne, cmpD_lt, cmpD_le, cmpD_gt, cmpD_ge, cmpD_in, cmpD_notin, cmpD_isN, cmpD_notN, cmpD_isB, cmpD_notB, isNon_n, isNon_i, isNon_b, isNon_s, isNon_l, isNon_t, items_l, items_t, itemsI_l, itemsI_t, itemsI_s, ixD_l, ixD_t, ixD_s, slD_l, slD_t, slD_s, lenD_l, lenD_t, lenD_s, lenD_d, absD_i, minD_i, maxD_i, minD_1, maxD_1, bestD_c, sortedD_1, listD_1, tupleD_1, allD_l, anyD_l, sumD_l, sumD_t, intD_i, intD_b, boolD_b, boolD_i, joinD_s, retK_sh, retK_nw, retK_bw, kdOf_0, kdOf_1, kdOf_2, inKd_sh, inKd_nw, inKd_bw, inKd_b2, toKd_t, toKd_f, notBw_sh, notBw_nw, notBw_bw, notBw_b2, exact_sh, exact_nw, exact_bw, ownOk_l, ownOk_K, ownOk_T, ownOk_2, tyD_ii, tyD_ib, tyD_is, tyD_in, tyD_il, tyD_it, tyD_bi, tyD_bb, tyD_bs, tyD_bn, tyD_bl, tyD_bt, tyD_si, tyD_sb, tyD_ss, tyD_sn, tyD_sl, tyD_st, tyD_ti, tyD_tb, tyD_ts, tyD_tn, tyD_tl, tyD_tt, tyD_li, tyD_lb, tyD_ls, tyD_ln, tyD_ll, tyD_lt, biD_1, biD_2, biD_3, biD_4, biD_5, biD_6, biD_7, biD_8, biD_9, biD_10, biD_11, biD_12, biD_13, biD_14, biD_15, op2D_1, op2D_2, op2D_3, op2D_4, op2D_5, op2D_6, oR_some, Option.map_some, true_or, false_or, lend_ret, notB2_sh, notB2_nw, notB2_bw, resOk_bl, resOk_int, resOk_non, resOk_str, resOk_l, resOk_t]
  have h1 : 1 ≤ names.length := List.length_pos_of_mem ho
  have h0 : WI names ties kvs one [(0, [one])] 0 := by
    refine ⟨Nat.zero_le _, fun r hr => ?_, List.mem_singleton_self _, fun i r hi => absurd hi (Nat.not_lt_zero i), ?_, by simp, fun r hr => by rw [List.mem_singleton] at hr; subst hr; exact .inl rfl⟩
    · rw [List.mem_singleton] at hr
      subst hr
      exact .nil
    · show 0 + (wt (names.length - 1) + 0) ≤ 13700
      have : ∀ m : Nat, m ≤ 7 → wt m ≤ 13700 := by decide
      have := this (names.length - 1) (by omega)
      omega
  refine whl_W (fun fl ρ => ∃ (rows : List Row) (k : Nat) (s5 s6 s7 : Option Slot), ρ = [some ⟨mapD names ties, 0⟩, some ⟨.str one, 0⟩, some ⟨.dT kvs, 0⟩, some ⟨.lst (rows.map rowD), 1⟩, some ⟨.int k, 0⟩, s5, s6, s7] ∧ WI names ties kvs one rows k ∧ load names.length (rows.drop k) < fl) ⟨[(0, [one])], 0, none, none, none, rfl, h0, ?_⟩ ?_
  · have := h0.cap
    unfold fuel
    omega
  · rintro fl ρ ⟨rows, k, s5, s6, s7, rfl, hW, hfl⟩
    have hlen : ((rows.map rowD).length : Int) = rows.length := by rw [List.length_map]
    simp only [id_eq, R.bind_ok, R.guard_true, ss_cons, ss_nil, Sq, Fl, W_bind, W_ok, W_guard, R.ite_true, R.ite_false, W_ite, evS, evE, evEs, evO, evTs, evIt, strD_i, keyD_i, keyD_s, keysD_n, keysD_c, dgetD_s, dgetD_i, dgetD_t, dinD_s, dinD_i, dinD_t, setPat_v, setPat_t, setPats_n, setPats_c, setSlot, start0, wipeE, ownL, stoD, dstD, rangeD, List.map_cons, List.map_nil, List.cons_append, List.nil_append, List.append_nil, List.length_cons, List.length_nil, List.replicate_succ, List.replicate_zero, List.getElem?_cons_zero, List.getElem?_cons_succ, List.set_cons_zero, List.set_cons_succ, List.all_cons, List.all_nil, Nat.add_sub_cancel, Nat.reduceAdd, Nat.reduceSub, Bool.and_true, Bool.true_and, Bool.and_self, Bool.not_true, Bool.not_false, true_and, and_true, decide_eq_true_eq, Nat.zero_add, decide_eq_false_iff_not, Int.reduceLT, Int.reduceEq, eqD_i, eqD_s, shp_i, shp_s, shp_b, shp_n, Int.reduceLE, Int.reduceMul, Int.reduceAdd, Int.reduceMod, Int.reduceNeg, Int.reduceSub, Int.reduceToNat, reduceCtorEq, false_implies, true_implies, decide_true, decide_false, forall_const, Bool.false_eq_true, Bool.not_eq_true', Bool.and_eq_true, Bool.or_eq_true, addD_i, addD_s, addD_l, addD_t, subD_i, mulD_i, mulD_s, fdivD_i, modD_i, powD_i, ltD_i, ltD_s, leD_i, leD_s, gtD_i, gtD_s, geD_i, geD_s, inD_l, inD_t, inD_s, isBl_b, cmpD_eq, cmpD_ne, cmpD_lt, cmpD_le, cmpD_gt, cmpD_ge, cmpD_in, cmpD_notin, cmpD_isN, cmpD_notN, cmpD_isB, cmpD_notB, isNon_n, isNon_i, isNon_b, isNon_s, isNon_l, isNon_t, items_l, items_t, itemsI_l, itemsI_t, itemsI_s, ixD_l, ixD_t, ixD_s, slD_l, slD_t, slD_s, lenD_l, lenD_t, lenD_s, lenD_d, absD_i, minD_i, maxD_i, minD_1, maxD_1, bestD_c, sortedD_1, listD_1, tupleD_1, allD_l, anyD_l, sumD_l, sumD_t, intD_i, intD_b, boolD_b, boolD_i, joinD_s, retK_sh, retK_nw, retK_bw, kdOf_0, kdOf_1, kdOf_2, inKd_sh, inKd_nw, inKd_bw, inKd_b2, toKd_t, toKd_f, notBw_sh, notBw_nw, notBw_bw, notBw_b2, exact_sh, exact_nw, exact_bw, ownOk_l, ownOk_K, ownOk_T, ownOk_2, tyD_ii, tyD_ib, tyD_is, tyD_in, tyD_il, tyD_it, tyD_bi, tyD_bb, tyD_bs, tyD_bn, tyD_bl, tyD_bt, tyD_si, tyD_sb, tyD_ss, tyD_sn, tyD_sl, tyD_st, tyD_ti, tyD_tb, tyD_ts, tyD_tn, tyD_tl, tyD_tt, tyD_li, tyD_lb, tyD_ls, tyD_ln, tyD_ll, tyD_lt, biD_1, biD_2, biD_3, biD_4, biD_5, biD_6, biD_7, biD_8, biD_9, biD_10, biD_11, biD_12, biD_13, biD_14, biD_15, op2D_1, op2D_2, op2D_3, op2D_4, op2D_5, op2D_6, oR_some, Option.map_some, true_or, false_or, lend_ret, notB2_sh, notB2_nw, notB2_bw, resOk_bl, resOk_int, resOk_non, resOk_str, resOk_l, resOk_t, hlen]
    by_cases hkl : k < rows.length
    · rw [decide_eq_true (by omega : (k : Int) < (rows.length : Int))]
      obtain ⟨m, rfl⟩ : ∃ m, fl = m + 1 := ⟨fl - 1, by omega⟩
      refine ⟨m, rfl, ?_⟩
      have hr := List.getElem?_eq_getElem hkl
      generalize hrow : rows[k] = row at hr
      obtain ⟨L, p⟩ := row
      have w : Way ties one p L := hW.way (L, p) (List.mem_of_getElem? hr)
      obtain ⟨a, q, rfl⟩ := w.cons
      obtain ⟨W2, hlt⟩ := hW.turn T hk ho hr
      have er : atI (rows.map rowD) (k : Int) = some (rowD (L, a :: q)) := by
        refine atI_nat ?_
        rw [List.getElem?_map, hr]
        rfl
      have ll := load_len names.length (rows.drop k)
      rw [List.length_drop] at ll
      have hcap := hW.cap
      have few := nexts_few (kvs := kvs) T ho w
      have nbl : ((nbrs ties a).mergeSort leS).length ≤ 18 := by
        rw [List.length_mergeSort]
        unfold nbrs
        rw [List.length_append]
        have a1 := List.length_filterMap_le (fun t : Tie => if t.1 = a then some t.2.1 else none) ties
        have a2 := List.length_filterMap_le (fun t : Tie => if t.2.1 = a then some t.1 else none) ties
        have := T.cnt
        omega
      have ql := nodup_le w.nodup (w.in_names T ho)
      rw [List.length_cons] at ql
      simp only [W_body]
      simp only [id_eq, R.bind_ok, R.guard_true, ss_cons, ss_nil, Sq, Fl, W_bind, W_ok, W_guard, R.ite_true, R.ite_false, W_ite, evS, evE, evEs, evO, evTs, evIt, strD_i, keyD_i, keyD_s, keysD_n, keysD_c, dgetD_s, dgetD_i, dgetD_t, dinD_s, dinD_i, dinD_t, setPat_v, setPat_t, setPats_n, setPats_c, setSlot, start0, wipeE, ownL, stoD, dstD, rangeD, List.map_cons, List.map_nil, List.cons_append, List.nil_append, List.append_nil, List.length_cons, List.length_nil, List.replicate_succ, List.replicate_zero, List.getElem?_cons_zero, List.getElem?_cons_succ, List.set_cons_zero, List.set_cons_succ, List.all_cons, List.all_nil, Nat.add_sub_cancel, Nat.reduceAdd, Nat.reduceSub, Bool.and_true, Bool.true_and, Bool.and_self, Bool.not_true, Bool.not_false, true_and, and_true, decide_eq_true_eq, Nat.zero_add, decide_eq_false_iff_not, Int.reduceLT, Int.reduceEq, eqD_i, eqD_s, shp_i, shp_s, shp_b, shp_n, Int.reduceLE, Int.reduceMul, Int.reduceAdd, Int.reduceMod, Int.reduceNeg, Int.reduceSub, Int.reduceToNat, reduceCtorEq, false_implies, true_implies, decide_true, decide_false, forall_const, Bool.false_eq_true, Bool.not_eq_true', Bool.and_eq_true, Bool.or_eq_true, addD_i, addD_s, addD_l, addD_t, subD_i, mulD_i, mulD_s, fdivD_i, modD_i, powD_i, ltD_i, ltD_s, leD_i, leD_s, gtD_i, gtD_s, geD_i, geD_s, inD_l, inD_t, inD_s, isBl_b, cmpD_eq, cmpD_ne, cmpD_lt, cmpD_le, cmpD_gt, cmpD_ge, cmpD_in, cmpD_notin, cmpD_isN, cmpD_notN, cmpD_isB, cmpD_notB, isNon_n, isNon_i, isNon_b, isNon_s, isNon_l, isNon_t, items_l, items_t, itemsI_l, itemsI_t, itemsI_s, ixD_l, ixD_t, ixD_s, slD_l, slD_t, slD_s, lenD_l, lenD_t, lenD_s, lenD_d, absD_i, minD_i, maxD_i, minD_1, maxD_1, bestD_c, sortedD_1, listD_1, tupleD_1, allD_l, anyD_l, sumD_l, sumD_t, intD_i, intD_b, boolD_b, boolD_i, joinD_s, retK_sh, retK_nw, retK_bw, kdOf_0, kdOf_1, kdOf_2, inKd_sh, inKd_nw, inKd_bw, inKd_b2, toKd_t, toKd_f, notBw_sh, notBw_nw, notBw_bw, notBw_b2, exact_sh, exact_nw, exact_bw, ownOk_l, ownOk_K, ownOk_T, ownOk_2, tyD_ii, tyD_ib, tyD_is, tyD_in, tyD_il, tyD_it, tyD_bi, tyD_bb, tyD_bs, tyD_bn, tyD_bl, tyD_bt, tyD_si, tyD_sb, tyD_ss, tyD_sn, tyD_sl, tyD_st, tyD_ti, tyD_tb, tyD_ts, tyD_tn, tyD_tl, tyD_tt, tyD_li, tyD_lb, tyD_ls, tyD_ln, tyD_ll, tyD_lt, biD_1, biD_2, biD_3, biD_4, biD_5, biD_6, biD_7, biD_8, biD_9, biD_10, biD_11, biD_12, biD_13, biD_14, biD_15, op2D_1, op2D_2, op2D_3, op2D_4, op2D_5, op2D_6, oR_some, Option.map_some, true_or, false_or, lend_ret, notB2_sh, notB2_nw, notB2_bw, resOk_bl, resOk_int, resOk_non, resOk_str, resOk_l, resOk_t, er, rowD, mapD, ix1, last_at, beside_ok hB n ties hc a]
      refine x_loop (ties := ties) (kvs := kvs) (by omega) ((nbrs ties a).mergeSort leS) rows s7 _ (fun b hb => ?_) (by omega) fun s7 => ?_
      · obtain ⟨l, ad⟩ := sorted_mem.mp hb
        exact ⟨l, hk a b l ad⟩
      · simp only [id_eq, R.bind_ok, R.guard_true, ss_cons, ss_nil, Sq, Fl, W_bind, W_ok, W_guard, R.ite_true, R.ite_false, W_ite, evS, evE, evEs, evO, evTs, evIt, strD_i, keyD_i, keyD_s, keysD_n, keysD_c, dgetD_s, dgetD_i, dgetD_t, dinD_s, dinD_i, dinD_t, setPat_v, setPat_t, setPats_n, setPats_c, setSlot, start0, wipeE, ownL, stoD, dstD, rangeD, List.map_cons, List.map_nil, List.cons_append, List.nil_append, List.append_nil, List.length_cons, List.length_nil, List.replicate_succ, List.replicate_zero, List.getElem?_cons_zero, List.getElem?_cons_succ, List.set_cons_zero, List.set_cons_succ, List.all_cons, List.all_nil, Nat.add_sub_cancel, Nat.reduceAdd, Nat.reduceSub, Bool.and_true, Bool.true_and, Bool.and_self, Bool.not_true, Bool.not_false, true_and, and_true, decide_eq_true_eq, Nat.zero_add, decide_eq_false_iff_not, Int.reduceLT, Int.reduceEq, eqD_i, eqD_s, shp_i, shp_s, shp_b, shp_n, Int.reduceLE, Int.reduceMul, Int.reduceAdd, Int.reduceMod, Int.reduceNeg, Int.reduceSub, Int.reduceToNat, reduceCtorEq, false_implies, true_implies, decide_true, decide_false, forall_const, Bool.false_eq_true, Bool.not_eq_true', Bool.and_eq_true, Bool.or_eq_true, addD_i, addD_s, addD_l, addD_t, subD_i, mulD_i, mulD_s, fdivD_i, modD_i, powD_i, ltD_i, ltD_s, leD_i, leD_s, gtD_i, gtD_s, geD_i, geD_s, inD_l, inD_t, inD_s, isBl_b, cmpD_eq, cmpD_ne, cmpD_lt, cmpD_le, cmpD_gt, cmpD_ge, cmpD_in, cmpD_notin, cmpD_isN, cmpD_notN, cmpD_isB, cmpD_notB, isNon_n, isNon_i, isNon_b, isNon_s, isNon_l, isNon_t, items_l, items_t, itemsI_l, itemsI_t, itemsI_s, ixD_l, ixD_t, ixD_s, slD_l, slD_t, slD_s, lenD_l, lenD_t, lenD_s, lenD_d, absD_i, minD_i, maxD_i, minD_1, maxD_1, bestD_c, sortedD_1, listD_1, tupleD_1, allD_l, anyD_l, sumD_l, sumD_t, intD_i, intD_b, boolD_b, boolD_i, joinD_s, retK_sh, retK_nw, retK_bw, kdOf_0, kdOf_1, kdOf_2, inKd_sh, inKd_nw, inKd_bw, inKd_b2, toKd_t, toKd_f, notBw_sh, notBw_nw, notBw_bw, notBw_b2, exact_sh, exact_nw, exact_bw, ownOk_l, ownOk_K, ownOk_T, ownOk_2, tyD_ii, tyD_ib, tyD_is, tyD_in, tyD_il, tyD_it, tyD_bi, tyD_bb, tyD_bs, tyD_bn, tyD_bl, tyD_bt, tyD_si, tyD_sb, tyD_ss, tyD_sn, tyD_sl, tyD_st, tyD_ti, tyD_tb, tyD_ts, tyD_tn, tyD_tl, tyD_tt, tyD_li, tyD_lb, tyD_ls, tyD_ln, tyD_ll, tyD_lt, biD_1, biD_2, biD_3, biD_4, biD_5, biD_6, biD_7, biD_8, biD_9, biD_10, biD_11, biD_12, biD_13, biD_14, biD_15, op2D_1, op2D_2, op2D_3, op2D_4, op2D_5, op2D_6, oR_some, Option.map_some, true_or, false_or, lend_ret, notB2_sh, notB2_nw, notB2_bw, resOk_bl, resOk_int, resOk_non, resOk_str, resOk_l, resOk_t]
        exact ⟨_, k + 1, _, _, _, rfl, W2, by omega⟩
    · rw [decide_eq_false (by omega : ¬ (k : Int) < (rows.length : Int))]
      refine ⟨by omega, ?_⟩
      have hke : k = rows.length := by have := hW.le; omega
      refine ⟨rows, rfl, hW.way, hW.all hk hke, ?_, hW.nd⟩
      have := hW.cap
      omega
end Fw

namespace Fw
open L2
/-! ### typed data: how values of a type lie in data -/
structure Typ {α : Type} (f : α → D) (n : Nat) : Prop where
  al : ∀ a b, PySem.W.alike (toPy (f a)) (toPy (f b)) = true
  eq : ∀ a b, eqD (f a) (f b) = true ↔ a = b
  sh : ∀ a, noD n (f a) = true
mutual
theorem noD_up : ∀ {n m : Nat} (d : D), n ≤ m → noD n d = true → noD m d = true
  | _, _, .non, _, _ => rfl
  | _, _, .bl _, _, _ => rfl
  | _, _, .int _, _, _ => rfl
  | _, _, .str _, _, _ => rfl
  | n + 1, m + 1, .lst xs, h, e => by
    rw [noD] at e ⊢
    exact nosD_up xs (Nat.le_of_succ_le_succ h) e
  | n + 1, m + 1, .tup xs, h, e => by
    rw [noD] at e ⊢
    exact nosD_up xs (Nat.le_of_succ_le_succ h) e
  | n + 1, 0, _, h, _ => absurd h (Nat.not_succ_le_zero _)
  | 0, _, .lst _, _, e => by simp [noD] at e
  | 0, _, .tup _, _, e => by simp [noD] at e
  | 0, _, .dK _, _, e => by simp [noD] at e
  | 0, _, .dT _, _, e => by simp [noD] at e
  | _ + 1, _, .dK _, _, e => by simp [noD] at e
  | _ + 1, _, .dT _, _, e => by simp [noD] at e
theorem nosD_up : ∀ {n m : Nat} (d : List D), n ≤ m → nosD n d = true → nosD m d = true
  | _, _, [], _, _ => rfl
  | n, m, x :: xs, h, e => by
    rw [nosD, Bool.and_eq_true] at e ⊢
    exact ⟨noD_up x h e.1, nosD_up xs h e.2⟩
end
theorem nosD_map {α : Type} {f : α → D} {n : Nat} (h : ∀ a, noD n (f a) = true) : ∀ l : List α, nosD n (l.map f) = true
  | [] => rfl
  | x :: r => by rw [List.map_cons, nosD, h x, nosD_map h r]; rfl
theorem nosD_mem {n : Nat} : ∀ {l : List D}, (∀ a ∈ l, noD n a = true) → nosD n l = true
  | [], _ => rfl
  | x :: r, h => by rw [nosD, h x List.mem_cons_self, nosD_mem fun a ha => h a (List.mem_cons_of_mem _ ha)]; rfl
theorem alikeAll_map {α : Type} {f : α → D} (h : ∀ a b, PySem.W.alike (toPy (f a)) (toPy (f b)) = true) : ∀ l m : List α, PySem.W.alikeAll (toPys (l.map f)) (toPys (m.map f)) = true
  | [], [] => rfl
  | [], _ :: _ => rfl
  | _ :: _, [] => rfl
  | x :: l, y :: m => by
    rw [List.map_cons, List.map_cons, toPys, toPys, PySem.W.alikeAll, h x y, alikeAll_map h l m]
    rfl
theorem eqvAll_map {α : Type} {f : α → D} (h : ∀ a b, eqD (f a) (f b) = true ↔ a = b) : ∀ l m : List α, PySem.PyData.eqvAll (toPys (l.map f)) (toPys (m.map f)) = true ↔ l = m
  | [], [] => by simp [toPys, PySem.PyData.eqvAll]
  | [], _ :: _ => by simp [toPys, PySem.PyData.eqvAll]
  | _ :: _, [] => by simp [toPys, PySem.PyData.eqvAll]
  | x :: l, y :: m => by
    rw [List.map_cons, List.map_cons, toPys, toPys, PySem.PyData.eqvAll, Bool.and_eq_true, eqvAll_map h l m]
    rw [show (PySem.PyData.eqv (toPy (f x)) (toPy (f y)) = true) ↔ x = y from h x y]
    simp
theorem Typ.up {α : Type} {f : α → D} {n m : Nat} (h : Typ f n) (hl : n ≤ m) : Typ f m := ⟨h.al, h.eq, fun a => noD_up _ hl (h.sh a)⟩
theorem Typ.shp {α : Type} {f : α → D} {n : Nat} (h : Typ f n) (hl : n ≤ 60 := by decide) (a : α) : shp (f a) = true := noD_up _ hl (h.sh a)
theorem Typ.int : Typ D.int 0 := ⟨fun a b => rfl, fun a b => by rw [eqD_i, decide_eq_true_eq], fun a => rfl⟩
theorem Typ.str : Typ D.str 0 := ⟨fun a b => rfl, fun a b => by rw [eqD_s, decide_eq_true_eq], fun a => rfl⟩
theorem Typ.tups {α : Type} {f : α → D} {n : Nat} (h : Typ f n) : Typ (fun l : List α => .tup (l.map f)) (n + 1) :=
  ⟨fun a b => by simp only [toPy, PySem.W.alike]; exact alikeAll_map h.al a b, fun a b => by simp only [eqD, toPy, PySem.PyData.eqv]; exact eqvAll_map h.eq a b, fun a => by rw [noD]; exact nosD_map h.sh a⟩
theorem Typ.lsts {α : Type} {f : α → D} {n : Nat} (h : Typ f n) : Typ (fun l : List α => .lst (l.map f)) (n + 1) :=
  ⟨fun a b => by simp only [toPy, PySem.W.alike]; exact alikeAll_map h.al a b, fun a b => by simp only [eqD, toPy, PySem.PyData.eqv]; exact eqvAll_map h.eq a b, fun a => by rw [noD]; exact nosD_map h.sh a⟩
theorem Typ.pair {α β : Type} {f : α → D} {g : β → D} {n : Nat} (h : Typ f n) (k : Typ g n) : Typ (fun p : α × β => .tup [f p.1, g p.2]) (n + 1) :=
  ⟨fun a b => by simp only [toPy, toPys, PySem.W.alike, PySem.W.alikeAll, h.al, k.al, Bool.and_self], fun a b => by
    simp only [eqD, toPy, toPys, PySem.PyData.eqv, PySem.PyData.eqvAll, Bool.and_true, Bool.and_eq_true]
    rw [show (PySem.PyData.eqv (toPy (f a.1)) (toPy (f b.1)) = true) ↔ a.1 = b.1 from h.eq a.1 b.1, show (PySem.PyData.eqv (toPy (g a.2)) (toPy (g b.2)) = true) ↔ a.2 = b.2 from k.eq a.2 b.2]
    exact ⟨fun ⟨x, y⟩ => Prod.ext x y, fun e => by rw [e]; exact ⟨rfl, rfl⟩⟩, fun a => by simp only [noD, nosD, h.sh, k.sh, Bool.and_self]⟩
theorem Typ.tri {α β γ : Type} {f : α → D} {g : β → D} {e : γ → D} {n : Nat} (h : Typ f n) (k : Typ g n) (j : Typ e n) : Typ (fun p : α × β × γ => .tup [f p.1, g p.2.1, e p.2.2]) (n + 1) :=
  ⟨fun a b => by simp only [toPy, toPys, PySem.W.alike, PySem.W.alikeAll, h.al, k.al, j.al, Bool.and_self], fun a b => by
    simp only [eqD, toPy, toPys, PySem.PyData.eqv, PySem.PyData.eqvAll, Bool.and_true, Bool.and_eq_true]
    rw [show (PySem.PyData.eqv (toPy (f a.1)) (toPy (f b.1)) = true) ↔ a.1 = b.1 from h.eq a.1 b.1, show (PySem.PyData.eqv (toPy (g a.2.1)) (toPy (g b.2.1)) = true) ↔ a.2.1 = b.2.1 from k.eq a.2.1 b.2.1, show (PySem.PyData.eqv (toPy (e a.2.2)) (toPy (e b.2.2)) = true) ↔ a.2.2 = b.2.2 from j.eq a.2.2 b.2.2]
    exact ⟨fun ⟨x, y, z⟩ => Prod.ext x (Prod.ext y z), fun e => by rw [e]; exact ⟨rfl, rfl, rfl⟩⟩, fun a => by simp only [noD, nosD, h.sh, k.sh, j.sh, Bool.and_self]⟩
theorem Typ.eqd {α : Type} [DecidableEq α] {f : α → D} {n : Nat} (h : Typ f n) (a b : α) : eqD (f a) (f b) = decide (a = b) := by
  rw [Bool.eq_iff_iff, h.eq, decide_eq_true_eq]
theorem Typ.inj {α : Type} {f : α → D} {n : Nat} (h : Typ f n) {a b : α} (e : f a = f b) : a = b := (h.eq a b).mp (by rw [e]; exact (h.eq b b).mpr rfl)
theorem Typ.any {α : Type} [DecidableEq α] {f : α → D} {n : Nat} (h : Typ f n) (a : α) : ∀ l : List α, ((l.map f).any fun y => eqD y (f a)) = decide (a ∈ l)
  | [] => rfl
  | x :: r => by
    rw [List.map_cons, List.any_cons, h.any a r, h.eqd]
    by_cases e : x = a
    · subst e; simp
    · have e2 : ¬ a = x := fun z => e z.symm
      simp [e, e2]
theorem Typ.inl {α : Type} [DecidableEq α] {f : α → D} {n : Nat} (h : Typ f n) (hl : n + 1 ≤ 60 := by decide) (a : α) (l : List α) : inD (f a) (.lst (l.map f)) = .ok (decide (a ∈ l)) := by
  rw [inD_l, h.any, h.shp (by omega), h.lsts.shp hl l]
  rfl
/-- the order of two -/
def leQ {α : Type} (f : α → D) (a b : α) : Bool := PySem.W.dataLe false toPy (f a) (f b)
def ltQ {α : Type} (f : α → D) (a b : α) : Bool := PySem.W.dataLt (toPy (f a)) (toPy (f b))
theorem leQ_lt {α : Type} {f : α → D} {a b : α} : leQ f a b = !ltQ f b a := by
  unfold leQ ltQ
  rw [PySem.W.dataLe_eq]
  rfl
theorem leQ_trans {α : Type} (f : α → D) (a b c : α) : leQ f a b = true → leQ f b c = true → leQ f a c = true := dataLe_trans toPy (f a) (f b) (f c)
theorem leQ_total {α : Type} (f : α → D) (a b : α) : (leQ f a b || leQ f b a) = true := dataLe_total toPy (f a) (f b)
theorem leQ_refl {α : Type} (f : α → D) (a : α) : leQ f a a = true := by
  have := leQ_total f a a
  rw [Bool.or_self] at this
  exact this
theorem lexLt_low (t m : List (Int ⊕ List Nat)) : PyProof.Rows.lexLt PyProof.Rows.itemOrd t (t ++ .inl 0 :: m) = true := by
  induction t with
  | nil => rfl
  | cons a t ih => rw [List.cons_append, PyProof.Rows.lex_self]; exact ih
theorem lexLt_low2 (t m : List (Int ⊕ List Nat)) : PyProof.Rows.lexLt PyProof.Rows.itemOrd (t ++ .inl 0 :: m) t = false := by
  induction t with
  | nil => rfl
  | cons a t ih => rw [List.cons_append, PyProof.Rows.lex_self]; exact ih
theorem eqv_of_toks {x y : PySem.PyData} (h : PySem.W.alike x y = true) (e : PySem.W.keyToks x = PySem.W.keyToks y) : PySem.PyData.eqv x y = true := by
  cases hv : PySem.PyData.eqv x y with
  | true => rfl
  | false =>
    have t := (PySem.W.toks_eqv x y h).2 hv
    have a := t [] (.inl 0 :: [])
    have b := t (.inl 0 :: []) []
    rw [List.append_nil, e] at a
    rw [List.append_nil, e] at b
    rw [lexLt_low] at a
    rw [lexLt_low2] at b
    rw [← a] at b
    exact (Bool.false_ne_true b).elim
theorem Typ.anti {α : Type} {f : α → D} {n : Nat} (h : Typ f n) {a b : α} (h1 : leQ f a b = true) (h2 : leQ f b a = true) : a = b := by
  rw [leQ_lt, Bool.not_eq_true'] at h1 h2
  have e : PySem.W.keyToks (toPy (f a)) = PySem.W.keyToks (toPy (f b)) := (PyProof.Rows.listOrd PyProof.Rows.itemOrd).total _ _ h2 h1
  exact (h.eq a b).mp (eqv_of_toks (h.al a b) e)
theorem leQ_sorted {α : Type} (f : α → D) (l : List α) : (l.mergeSort (leQ f)).Pairwise fun a b => leQ f a b = true := List.pairwise_mergeSort (leQ_trans f) (leQ_total f) l
theorem Typ.sorted_eq {α : Type} {f : α → D} {n : Nat} (h : Typ f n) {l m : List α} (hl : l.Pairwise fun a b => leQ f a b = true) (hm : m.Pairwise fun a b => leQ f a b = true) (p : l.Perm m) : l = m := p.eq_of_pairwise (fun a b _ _ h1 h2 => h.anti h1 h2) hl hm
theorem Typ.sort_perm {α : Type} {f : α → D} {n : Nat} (h : Typ f n) {l m : List α} (p : l.Perm m) : l.mergeSort (leQ f) = m.mergeSort (leQ f) := h.sorted_eq (leQ_sorted f l) (leQ_sorted f m) (((List.mergeSort_perm l _).trans p).trans (List.mergeSort_perm m _).symm)
theorem Typ.sort_id {α : Type} {f : α → D} {n : Nat} (h : Typ f n) {l m : List α} (hl : l.Pairwise fun a b => leQ f a b = true) (p : l.Perm m) : m.mergeSort (leQ f) = l := h.sorted_eq (leQ_sorted f m) hl ((List.mergeSort_perm m _).trans p.symm)
/-- what may be sorted at once -/
def sorT : D → Bool
  | .tup (_ :: _) => true
  | _ => false
def sorA : D → Bool
  | .int _ => true
  | .str _ => true
  | _ => false
theorem Typ.sort {α : Type} {f : α → D} {n : Nat} (h : Typ f n) (hl : n ≤ 60) (hs : (∀ a, sorT (f a) = true) ∨ (∀ a, sorA (f a) = true)) (l : List α) : sortD (l.map f) = .ok (.lst ((l.mergeSort (leQ f)).map f), .nw) := by
  unfold sortD
  have g : (allAlike (l.map f) && sortableD (l.map f) && (l.map f).all Fw.shp) = true := by
    rw [Bool.and_eq_true, Bool.and_eq_true]
    refine ⟨⟨?_, ?_⟩, ?_⟩
    · unfold allAlike
      rw [List.all_eq_true]
      intro x hx
      rw [List.all_eq_true]
      intro y hy
      obtain ⟨a, _, rfl⟩ := List.mem_map.mp hx
      obtain ⟨b, _, rfl⟩ := List.mem_map.mp hy
      exact h.al a b
    · unfold sortableD
      rw [Bool.or_eq_true]
      refine hs.imp (fun hs => ?_) fun hs => ?_
      · rw [List.all_eq_true]
        intro x hx
        obtain ⟨a, _, rfl⟩ := List.mem_map.mp hx
        have := hs a
        revert this
        cases f a <;> (try intro z; cases z; done)
        rename_i xs
        cases xs <;> (intro z; first | (cases z; done) | rfl)
      · rw [List.all_eq_true]
        intro x hx
        obtain ⟨a, _, rfl⟩ := List.mem_map.mp hx
        have := hs a
        revert this
        cases f a <;> (intro z; first | (cases z; done) | rfl)
    · rw [List.all_eq_true]
      intro x hx
      obtain ⟨a, _, rfl⟩ := List.mem_map.mp hx
      exact h.shp hl a
  rw [g, R.guard_true]
  congr 3
  symm
  exact List.map_mergeSort fun a _ b _ => rfl
/-- the least of some -/
def minQ {α : Type} (f : α → D) (x : α) (xs : List α) : α := xs.foldl (fun a y => if ltQ f y a = true then y else a) x
theorem minQ_ok {α : Type} (f : α → D) : ∀ (xs : List α) (x : α), minQ f x xs ∈ x :: xs ∧ ∀ y ∈ x :: xs, leQ f (minQ f x xs) y = true
  | [], x => ⟨List.mem_cons_self, fun y hy => by rw [List.mem_singleton] at hy; subst hy; exact leQ_refl f y⟩
  | y :: xs, x => by
    have e : minQ f x (y :: xs) = minQ f (if ltQ f y x = true then y else x) xs := rfl
    rw [e]
    obtain ⟨h1, h2⟩ := minQ_ok f xs (if ltQ f y x = true then y else x)
    have hz := h2 _ List.mem_cons_self
    refine ⟨?_, fun z hz2 => ?_⟩
    · rcases List.mem_cons.mp h1 with h1 | h1
      · rw [h1]; split
        · exact List.mem_cons_of_mem _ List.mem_cons_self
        · exact List.mem_cons_self
      · exact List.mem_cons_of_mem _ (List.mem_cons_of_mem _ h1)
    · rcases List.mem_cons.mp hz2 with rfl | hz2
      · refine leQ_trans f _ _ _ hz ?_
        split
        · rename_i h
          have t := leQ_total f y z
          rw [Bool.or_eq_true] at t
          rcases t with t | t
          · exact t
          · rw [leQ_lt, h] at t; cases t
        · exact leQ_refl f _
      · rcases List.mem_cons.mp hz2 with rfl | hz2
        · refine leQ_trans f _ _ _ hz ?_
          split
          · exact leQ_refl f _
          · rename_i h
            rw [leQ_lt, Bool.not_eq_true']
            exact Bool.eq_false_iff.mpr h
        · exact h2 z (List.mem_cons_of_mem _ hz2)
theorem isNon_sor {d : D} (h : sorT d = true ∨ sorA d = true) : isNon d = false := by
  cases d <;> (first | rfl | (rcases h with h | h <;> cases h))
theorem Typ.best {α : Type} {f : α → D} {n : Nat} (h : Typ f n) (hl : n ≤ 60) (hs : ∀ a, isNon (f a) = false) (g : D → List D → D) (x : α) (xs : List α) : bestD g ((x :: xs).map f) = .ok (g (f x) (xs.map f), .sh) := by
  rw [List.map_cons, bestD_c]
  have e : bestOk (f x :: xs.map f) = true := by
    unfold bestOk
    rw [Bool.and_eq_true, Bool.and_eq_true, ← List.map_cons]
    refine ⟨⟨?_, ?_⟩, ?_⟩
    · unfold allAlike
      rw [List.all_eq_true]
      intro x hx
      rw [List.all_eq_true]
      intro y hy
      obtain ⟨a, _, rfl⟩ := List.mem_map.mp hx
      obtain ⟨b, _, rfl⟩ := List.mem_map.mp hy
      exact h.al a b
    · rw [List.all_eq_true]
      intro x hx
      obtain ⟨a, _, rfl⟩ := List.mem_map.mp hx
      exact h.shp hl a
    · rw [List.all_eq_true]
      intro x hx
      obtain ⟨a, _, rfl⟩ := List.mem_map.mp hx
      rw [hs a]; rfl
  rw [e]
  rfl
theorem minOf_map {α : Type} (f : α → D) : ∀ (xs : List α) (x : α), minOf (f x) (xs.map f) = f (minQ f x xs)
  | [], _ => rfl
  | y :: xs, x => by
    have e1 : minOf (f x) ((y :: xs).map f) = minOf (if ltQ f y x = true then f y else f x) (xs.map f) := rfl
    have e2 : minQ f x (y :: xs) = minQ f (if ltQ f y x = true then y else x) xs := rfl
    rw [e1, e2]
    by_cases h : ltQ f y x = true
    · rw [if_pos h, if_pos h]; exact minOf_map f xs y
    · rw [if_neg h, if_neg h]; exact minOf_map f xs x
theorem Typ.min {α : Type} {f : α → D} {n : Nat} (h : Typ f n) (hl : n ≤ 60) (hs : ∀ a, isNon (f a) = false) (x : α) (xs : List α) : bestD minOf ((x :: xs).map f) = .ok (f (minQ f x xs), .sh) := by
  rw [h.best hl hs, minOf_map]
theorem leQ_int (a b : Int) : leQ D.int a b = decide (a ≤ b) := by
  rw [leQ_lt]
  unfold ltQ
  rw [toPy, toPy, PySem.W.dataLt_int]
  by_cases h : a ≤ b
  · rw [decide_eq_true h, decide_eq_false (by omega)]; rfl
  · rw [decide_eq_false h, decide_eq_true (by omega)]; rfl
/-- a pair's order begins with the first -/
theorem leQ_pair {α β : Type} {f : α → D} {g : β → D} {n : Nat} (h : Typ f n) (k : Typ g n) (a b : α × β) (hle : leQ (fun p : α × β => .tup [f p.1, g p.2]) a b = true) : leQ f a.1 b.1 = true := by
  rw [leQ_lt] at hle ⊢
  unfold ltQ at hle ⊢
  simp only [toPy, toPys] at hle
  rw [PySem.W.dataLt_pair (h.al b.1 a.1) (k.al b.2 a.2)] at hle
  by_cases e : PySem.PyData.eqv (toPy (f b.1)) (toPy (f a.1)) = true
  · have e2 : b.1 = a.1 := (h.eq b.1 a.1).mp e
    rw [e2]
    have := leQ_refl f a.1
    rw [leQ_lt] at this
    exact this
  · rw [if_neg e] at hle
    exact hle
end Fw

namespace Fw
def C_between (iCheck iWays : Nat) : List S := [.ex (.call iCheck [.v 0, .v 1]), .ex (.call iCheck [.v 0, .v 2]), .ret (.bi .sorted [.lc [3] (.v 3) (.v 3) (.seq (.call iWays [.v 0, .v 1])) [.cmp .eq (.ix (.ix (.v 3) (.k (.int 1))) (.neg (.k (.int 1)))) (.v 2)]])]
def C_howfar (iBetween : Nat) : List S := [.ret (.ix (.ix (.call iBetween [.v 0, .v 1, .v 2]) (.k (.int 0))) (.k (.int 0)))]
def C_whole : List S := [.ret (.and (.isi (.v 0) .int) (.not (.isi (.v 0) .bool)))]
end Fw
namespace Fw
open L2
theorem Typ.comp {α β : Type} {f : α → D} {n : Nat} (h : Typ f n) (g : β → α) (hg : ∀ a b, g a = g b → a = b) : Typ (fun b => f (g b)) n :=
  ⟨fun a b => h.al _ _, fun a b => by rw [h.eq]; exact ⟨hg a b, fun e => by rw [e]⟩, fun a => h.sh _⟩
theorem Typ.row : Typ rowD 2 := by
  have h := ((Typ.int.up (by decide : 0 ≤ 1)).pair Typ.str.tups).comp (fun r : Row => (r.1, r.2.reverse)) (fun a b e => by
    obtain ⟨a1, a2⟩ := a
    obtain ⟨b1, b2⟩ := b
    simp only [Prod.mk.injEq, List.reverse_inj] at e
    rw [e.1, e.2])
  exact h
theorem leQ_row {r s : Row} (h : leQ rowD r s = true) : r.1 ≤ s.1 := by
  have := leQ_pair (f := D.int) (g := fun l : List PySem.Str => .tup (l.map .str)) (Typ.int.up (by decide : 0 ≤ 1)) Typ.str.tups (r.1, r.2.reverse) (s.1, s.2.reverse) h
  rw [leQ_int, decide_eq_true_eq] at this
  exact this
theorem lc_filter {α : Type} {f : D → R (Option D)} (g : α → D) (c : α → Bool) : ∀ {l : List α}, (∀ t ∈ l, f (g t) = .ok (if c t = true then some (g t) else none)) → lcGo f (l.map g) = .ok ((l.filter c).map g)
  | [], _ => rfl
  | t :: r, h => by
    rw [List.map_cons, lcGo, h t List.mem_cons_self, R.bind_ok, lc_filter g c fun x hx => h x (List.mem_cons_of_mem _ hx), R.bind_ok, List.filter_cons]
    by_cases e : c t = true
    · rw [if_pos e, if_pos e]; rfl
    · rw [if_neg e, if_neg e]
/-- a list comprehension: what is kept of each -/
theorem lc_fm {α β : Type} {f : D → R (Option D)} (g : α → D) (g' : β → D) (c : α → Option β) : ∀ {l : List α}, (∀ t ∈ l, f (g t) = .ok ((c t).map g')) → lcGo f (l.map g) = .ok ((l.filterMap c).map g')
  | [], _ => rfl
  | t :: r, h => by
    rw [List.map_cons, lcGo, h t List.mem_cons_self, R.bind_ok, lc_fm g g' c fun x hx => h x (List.mem_cons_of_mem _ hx), R.bind_ok, List.filterMap_cons]
    cases c t <;> rfl
/-- all ways from the one to the other, in order -/
structure IsWays (ties : List Tie) (a b : PySem.Str) (ws : List Row) : Prop where
  so : ws.Pairwise fun r s => leQ rowD r s = true
  nd : (ws.map (·.2)).Nodup
  mem : ∀ L p, ((L, p) : Row) ∈ ws ↔ Way ties a p L ∧ p.head? = some b
theorem nodup_of_map {α β : Type} (f : α → β) {l : List α} (h : (l.map f).Nodup) : l.Nodup := by
  unfold List.Nodup at h ⊢
  rw [List.pairwise_map] at h
  exact h.imp fun hne e => hne (by rw [e])
theorem perm_of_mem {α : Type} {l m : List α} (hl : l.Nodup) (hm : m.Nodup) (h : ∀ a, a ∈ l ↔ a ∈ m) : l.Perm m := by
  classical
  exact (List.perm_ext_iff_of_nodup hl hm).mpr h
theorem IsWays.uniq {ties : List Tie} {a b : PySem.Str} {ws vs : List Row} (h : IsWays ties a b ws) (k : IsWays ties a b vs) : ws = vs :=
  Typ.row.sorted_eq h.so k.so (perm_of_mem (nodup_of_map _ h.nd) (nodup_of_map _ k.nd) fun ⟨L, p⟩ => by rw [h.mem, k.mem])
theorem Way.first {ties : List Tie} {a : PySem.Str} {p : List PySem.Str} {L : Int} (h : Way ties a p L) : p.getLast? = some a := by
  induction h with
  | nil => rfl
  | snoc _ _ _ ih => rw [List.getLast?_cons_cons]; exact ih
/-- the least length of all ways -/
def IsDist (ties : List Tie) (a b : PySem.Str) (d : Int) : Prop := (∃ r, Way ties a (b :: r) d) ∧ ∀ r L, Way ties a (b :: r) L → d ≤ L
theorem IsDist.uniq {ties : List Tie} {a b : PySem.Str} {d e : Int} (h : IsDist ties a b d) (k : IsDist ties a b e) : d = e := by
  obtain ⟨⟨r, w⟩, l⟩ := h
  obtain ⟨⟨s, v⟩, m⟩ := k
  have := l s e v
  have := m r d w
  omega
theorem Far.dist {names : List PySem.Str} {ties : List Tie} (T : TiesOk names ties) (hn : names.length ≤ 8) (hT : Tied names ties) {kvs : Kvs} (F : Far names ties (fun x => x ∈ names) kvs) {a b : PySem.Str} (ha : a ∈ names) (hb : b ∈ names) : IsDist ties a b (dOf kvs a b) := by
  refine ⟨far_way T hn hT F ha hb, fun r L w => (w.least T F ha b r rfl).2⟩
theorem Tied.way {names : List PySem.Str} {ties : List Tie} (T : TiesOk names ties) (hT : Tied names ties) {a b : PySem.Str} (ha : a ∈ names) (hb : b ∈ names) : ∃ r L, Way ties a (b :: r) L := by
  obtain ⟨L0, w0⟩ := hT a ha b hb
  obtain ⟨r0, M0, v0, _⟩ := w0.way T
  exact ⟨r0, M0, v0⟩
/-- ways turned about -/
theorem WalkS.least {names : List PySem.Str} {ties : List Tie} (T : TiesOk names ties) {a b : PySem.Str} {d L : Int} (h : IsDist ties a b d) (w : WalkS ties a b L) : d ≤ L := by
  obtain ⟨r, M, v, hM⟩ := w.way T
  have := h.2 r M v
  omega
theorem IsDist.walk {ties : List Tie} {a b : PySem.Str} {d : Int} (h : IsDist ties a b d) : WalkS ties a b d := by
  obtain ⟨r, w⟩ := h.1
  obtain ⟨c, s, e, v⟩ := w.walk
  cases e
  exact v
theorem IsDist.symm {names : List PySem.Str} {ties : List Tie} (T : TiesOk names ties) {a b : PySem.Str} {d e : Int} (h : IsDist ties a b d) (k : IsDist ties b a e) : d = e := by
  have h1 := WalkS.least T h k.walk.symm
  have h2 := WalkS.least T k h.walk.symm
  omega
theorem IsDist.self {names : List PySem.Str} {ties : List Tie} (T : TiesOk names ties) {a : PySem.Str} {d : Int} (h : IsDist ties a a d) : d = 0 := by
  have h1 := WalkS.least T h .nil
  obtain ⟨r, w⟩ := h.1
  have := w.nonneg T
  omega
theorem Way.pos {names : List PySem.Str} {ties : List Tie} (T : TiesOk names ties) {a b : PySem.Str} {r : List PySem.Str} {L : Int} (h : Way ties a (b :: r) L) (hne : a ≠ b) : 1 ≤ L := by
  cases h with
  | nil => exact absurd rfl hne
  | snoc w ad _ =>
    have := w.nonneg T
    have := ad.len T
    omega
theorem between_ok {F : List Fn} {fi iCheck iWays iLen iBes : Nat} (hf : F[fi]? = some ⟨3, 4, C_between iCheck iWays⟩) (hC : F[iCheck]? = some ⟨2, 2, C_check⟩) (hW : F[iWays]? = some ⟨2, 8, C_ways iLen iBes⟩) (hL : F[iLen]? = some ⟨1, 5, C_lengths⟩) (hB : F[iBes]? = some ⟨2, 6, C_beside⟩)
    (n : Nat) {names : List PySem.Str} {ties : List Tie} (T : TiesOk names ties) (hn : names.length ≤ 8) {a b : PySem.Str} (ha : a ∈ names) (hb : b ∈ names) :
    ∃ ws, IsWays ties a b ws ∧ run F (n + 3) fi [mapD names ties, .str a, .str b] = .ok (.lst (ws.map rowD), true) := by
  have w : W (run F (n + 3) fi [mapD names ties, .str a, .str b]) fun r => ∃ ws, IsWays ties a b ws ∧ r = (.lst (ws.map rowD), true) := by
    refine run_W hf rfl ?_
    simp only [C_between]
    simp only [id_eq, R.bind_ok, R.guard_true, ss_cons, ss_nil, Sq, Fl, W_bind, W_ok, W_guard, R.ite_true, R.ite_false, W_ite, evS, evE, evEs, evO, evTs, evIt, strD_i, keyD_i, keyD_s, keysD_n, keysD_c, dgetD_s, dgetD_i, dgetD_t, dinD_s, dinD_i, dinD_t, setPat_v, setPat_t, setPats_n, setPats_c, setSlot, start0, wipeE, ownL, stoD, dstD, rangeD, List.map_cons, List.map_nil, List.cons_append, List.nil_append, List.append_nil, List.length_cons, List.length_nil, List.replicate_succ, List.replicate_zero, List.getElem?_cons_zero, List.getElem?_cons_succ, List.set_cons_zero, List.set_cons_succ, List.all_cons, List.all_nil, Nat.add_sub_cancel, Nat.reduceAdd, Nat.reduceSub, Bool.and_true, Bool.true_and, Bool.and_self, Bool.not_true, Bool.not_false, true_and, and_true, decide_eq_true_eq, Nat.zero_add, decide_eq_false_iff_not, Int.reduceLT, Int.reduceEq, eqD_i, eqD_s, shp_i, shp_s, shp_b, shp_n, Int.reduceLE, Int.reduceMul, Int.reduceAdd, Int.reduceMod, Int.reduceNeg, Int.reduceSub, Int.reduceToNat, reduceCtorEq, false_implies, true_implies, decide_true, decide_false, forall_const, Bool.false_eq_true, Bool.not_eq_true', Bool.and_eq_true, Bool.or_eq_true, addD_i, addD_s, addD_l, addD_t, subD_i, mulD_i, mulD_s, fdivD_i, modD_i, powD_i, ltD_i, ltD_s, leD_i, leD_s, gtD_i, gtD_s, geD_i, geD_s, inD_l, inD_t, inD_s, isBl_b, cmpD_eq, cmpD_ne, cmpD_lt, cmpD_le, cmpD_gt, cmpD_ge, cmpD_in, cmpD_notin, cmpD_isN, cmpD_notN, cmpD_isB, cmpD_notB, isNon_n, isNon_i, isNon_b, isNon_s, isNon_l, isNon_t, items_l, items_t, itemsI_l, itemsI_t, itemsI_s, ixD_l, ixD_t, ixD_s, slD_l, slD_t, slD_s, lenD_l, lenD_t, lenD_s, lenD_d, absD_i, minD_i, maxD_i, minD_1, maxD_1, bestD_c, sortedD_1, listD_1, tupleD_1, allD_l, anyD_l, sumD_l, sumD_t, intD_i, intD_b, boolD_b, boolD_i, joinD_s, retK_sh, retK_nw, retK_bw, kdOf_0, kdOf_1, kdOf_2, inKd_sh, inKd_nw, inKd_bw, inKd_b2, toKd_t, toKd_f, notBw_sh, notBw_nw, notBw_bw, notBw_b2, exact_sh, exact_nw, exact_bw, ownOk_l, ownOk_K, ownOk_T, ownOk_2, tyD_ii, tyD_ib, tyD_is, tyD_in, tyD_il, tyD_it, tyD_bi, tyD_bb, tyD_bs, tyD_bn, tyD_bl, tyD_bt, tyD_si, tyD_sb, tyD_ss, tyD_sn, tyD_sl, tyD_st, tyD_ti, tyD_tb, tyD_ts, tyD_tn, tyD_tl, tyD_tt, tyD_li, tyD_lb, tyD_ls, tyD_ln, tyD_ll, tyD_lt, biD_1, biD_2, biD_3, biD_4, biD_5, biD_6, biD_7, biD_8, biD_9, biD_10, biD_11, biD_12, biD_13, biD_14, biD_15, op2D_1, op2D_2, op2D_3, op2D_4, op2D_5, op2D_6, oR_some, Option.map_some, true_or, false_or, lend_ret, notB2_sh, notB2_nw, notB2_bw, resOk_bl, resOk_int, resOk_non, resOk_str, resOk_l, resOk_t, check_ok hC (n + 1) ha, check_ok hC (n + 1) hb]
    refine (ways_ok hW hL hB n T hn ha).mono fun r ⟨rows, e, h1, h2, h3, h4⟩ => ?_
    subst e
    simp only [id_eq, R.bind_ok, R.guard_true, ss_cons, ss_nil, Sq, Fl, W_bind, W_ok, W_guard, R.ite_true, R.ite_false, W_ite, evS, evE, evEs, evO, evTs, evIt, strD_i, keyD_i, keyD_s, keysD_n, keysD_c, dgetD_s, dgetD_i, dgetD_t, dinD_s, dinD_i, dinD_t, setPat_v, setPat_t, setPats_n, setPats_c, setSlot, start0, wipeE, ownL, stoD, dstD, rangeD, List.map_cons, List.map_nil, List.cons_append, List.nil_append, List.append_nil, List.length_cons, List.length_nil, List.replicate_succ, List.replicate_zero, List.getElem?_cons_zero, List.getElem?_cons_succ, List.set_cons_zero, List.set_cons_succ, List.all_cons, List.all_nil, Nat.add_sub_cancel, Nat.reduceAdd, Nat.reduceSub, Bool.and_true, Bool.true_and, Bool.and_self, Bool.not_true, Bool.not_false, true_and, and_true, decide_eq_true_eq, Nat.zero_add, decide_eq_false_iff_not, Int.reduceLT, Int.reduceEq, eqD_i, eqD_s, shp_i, shp_s, shp_b, shp_n, Int.reduceLE, Int.reduceMul, Int.reduceAdd, Int.reduceMod, Int.reduceNeg, Int.reduceSub, Int.reduceToNat, reduceCtorEq, false_implies, true_implies, decide_true, decide_false, forall_const, Bool.false_eq_true, Bool.not_eq_true', Bool.and_eq_true, Bool.or_eq_true, addD_i, addD_s, addD_l, addD_t, subD_i, mulD_i, mulD_s, fdivD_i, modD_i, powD_i, ltD_i, ltD_s, leD_i, leD_s, gtD_i, gtD_s, geD_i, geD_s, inD_l, inD_t, inD_s, isBl_b, cmpD_eq, cmpD_ne, cmpD_lt, cmpD_le, cmpD_gt, cmpD_ge, cmpD_in, cmpD_notin, cmpD_isN, cmpD_notN, cmpD_isB, cmpD_notB, isNon_n, isNon_i, isNon_b, isNon_s, isNon_l, isNon_t, items_l, items_t, itemsI_l, itemsI_t, itemsI_s, ixD_l, ixD_t, ixD_s, slD_l, slD_t, slD_s, lenD_l, lenD_t, lenD_s, lenD_d, absD_i, minD_i, maxD_i, minD_1, maxD_1, bestD_c, sortedD_1, listD_1, tupleD_1, allD_l, anyD_l, sumD_l, sumD_t, intD_i, intD_b, boolD_b, boolD_i, joinD_s, retK_sh, retK_nw, retK_bw, kdOf_0, kdOf_1, kdOf_2, inKd_sh, inKd_nw, inKd_bw, inKd_b2, toKd_t, toKd_f, notBw_sh, notBw_nw, notBw_bw, notBw_b2, exact_sh, exact_nw, exact_bw, ownOk_l, ownOk_K, ownOk_T, ownOk_2, tyD_ii, tyD_ib, tyD_is, tyD_in, tyD_il, tyD_it, tyD_bi, tyD_bb, tyD_bs, tyD_bn, tyD_bl, tyD_bt, tyD_si, tyD_sb, tyD_ss, tyD_sn, tyD_sl, tyD_st, tyD_ti, tyD_tb, tyD_ts, tyD_tn, tyD_tl, tyD_tt, tyD_li, tyD_lb, tyD_ls, tyD_ln, tyD_ll, tyD_lt, biD_1, biD_2, biD_3, biD_4, biD_5, biD_6, biD_7, biD_8, biD_9, biD_10, biD_11, biD_12, biD_13, biD_14, biD_15, op2D_1, op2D_2, op2D_3, op2D_4, op2D_5, op2D_6, oR_some, Option.map_some, true_or, false_or, lend_ret, notB2_sh, notB2_nw, notB2_bw, resOk_bl, resOk_int, resOk_non, resOk_str, resOk_l, resOk_t]
    refine W.eq (lc_filter rowD (fun r => decide (r.2.headD ⟨#[]⟩ = b)) fun r hr => ?_) ?_
    · obtain ⟨L, p⟩ := r
      obtain ⟨c, s, rfl⟩ := (h1 _ hr).cons
      simp only [id_eq, R.bind_ok, R.guard_true, ss_cons, ss_nil, Sq, Fl, W_bind, W_ok, W_guard, R.ite_true, R.ite_false, W_ite, evS, evE, evEs, evO, evTs, evIt, strD_i, keyD_i, keyD_s, keysD_n, keysD_c, dgetD_s, dgetD_i, dgetD_t, dinD_s, dinD_i, dinD_t, setPat_v, setPat_t, setPats_n, setPats_c, setSlot, start0, wipeE, ownL, stoD, dstD, rangeD, List.map_cons, List.map_nil, List.cons_append, List.nil_append, List.append_nil, List.length_cons, List.length_nil, List.replicate_succ, List.replicate_zero, List.getElem?_cons_zero, List.getElem?_cons_succ, List.set_cons_zero, List.set_cons_succ, List.all_cons, List.all_nil, Nat.add_sub_cancel, Nat.reduceAdd, Nat.reduceSub, Bool.and_true, Bool.true_and, Bool.and_self, Bool.not_true, Bool.not_false, true_and, and_true, decide_eq_true_eq, Nat.zero_add, decide_eq_false_iff_not, Int.reduceLT, Int.reduceEq, eqD_i, eqD_s, shp_i, shp_s, shp_b, shp_n, Int.reduceLE, Int.reduceMul, Int.reduceAdd, Int.reduceMod, Int.reduceNeg, Int.reduceSub, Int.reduceToNat, reduceCtorEq, false_implies, true_implies, decide_true, decide_false, forall_const, Bool.false_eq_true, Bool.not_eq_true', Bool.and_eq_true, Bool.or_eq_true, addD_i, addD_s, addD_l, addD_t, subD_i, mulD_i, mulD_s, fdivD_i, modD_i, powD_i, ltD_i, ltD_s, leD_i, leD_s, gtD_i, gtD_s, geD_i, geD_s, inD_l, inD_t, inD_s, isBl_b, cmpD_eq, cmpD_ne, cmpD_lt, cmpD_le, cmpD_gt, cmpD_ge, cmpD_in, cmpD_notin, cmpD_isN, cmpD_notN, cmpD_isB, cmpD_notB, isNon_n, isNon_i, isNon_b, isNon_s, isNon_l, isNon_t, items_l, items_t, itemsI_l, itemsI_t, itemsI_s, ixD_l, ixD_t, ixD_s, slD_l, slD_t, slD_s, lenD_l, lenD_t, lenD_s, lenD_d, absD_i, minD_i, maxD_i, minD_1, maxD_1, bestD_c, sortedD_1, listD_1, tupleD_1, allD_l, anyD_l, sumD_l, sumD_t, intD_i, intD_b, boolD_b, boolD_i, joinD_s, retK_sh, retK_nw, retK_bw, kdOf_0, kdOf_1, kdOf_2, inKd_sh, inKd_nw, inKd_bw, inKd_b2, toKd_t, toKd_f, notBw_sh, notBw_nw, notBw_bw, notBw_b2, exact_sh, exact_nw, exact_bw, ownOk_l, ownOk_K, ownOk_T, ownOk_2, tyD_ii, tyD_ib, tyD_is, tyD_in, tyD_il, tyD_it, tyD_bi, tyD_bb, tyD_bs, tyD_bn, tyD_bl, tyD_bt, tyD_si, tyD_sb, tyD_ss, tyD_sn, tyD_sl, tyD_st, tyD_ti, tyD_tb, tyD_ts, tyD_tn, tyD_tl, tyD_tt, tyD_li, tyD_lb, tyD_ls, tyD_ln, tyD_ll, tyD_lt, biD_1, biD_2, biD_3, biD_4, biD_5, biD_6, biD_7, biD_8, biD_9, biD_10, biD_11, biD_12, biD_13, biD_14, biD_15, op2D_1, op2D_2, op2D_3, op2D_4, op2D_5, op2D_6, oR_some, Option.map_some, true_or, false_or, lend_ret, notB2_sh, notB2_nw, notB2_bw, resOk_bl, resOk_int, resOk_non, resOk_str, resOk_l, resOk_t, rowD, ix1, last_at]
      by_cases e : c = b
      · simp [e, R.ite]
      · simp [e, R.ite]
    · simp only [id_eq, R.bind_ok, R.guard_true, ss_cons, ss_nil, Sq, Fl, W_bind, W_ok, W_guard, R.ite_true, R.ite_false, W_ite, evS, evE, evEs, evO, evTs, evIt, strD_i, keyD_i, keyD_s, keysD_n, keysD_c, dgetD_s, dgetD_i, dgetD_t, dinD_s, dinD_i, dinD_t, setPat_v, setPat_t, setPats_n, setPats_c, setSlot, start0, wipeE, ownL, stoD, dstD, rangeD, List.map_cons, List.map_nil, List.cons_append, List.nil_append, List.append_nil, List.length_cons, List.length_nil, List.replicate_succ, List.replicate_zero, List.getElem?_cons_zero, List.getElem?_cons_succ, List.set_cons_zero, List.set_cons_succ, List.all_cons, List.all_nil, Nat.add_sub_cancel, Nat.reduceAdd, Nat.reduceSub, Bool.and_true, Bool.true_and, Bool.and_self, Bool.not_true, Bool.not_false, true_and, and_true, decide_eq_true_eq, Nat.zero_add, decide_eq_false_iff_not, Int.reduceLT, Int.reduceEq, eqD_i, eqD_s, shp_i, shp_s, shp_b, shp_n, Int.reduceLE, Int.reduceMul, Int.reduceAdd, Int.reduceMod, Int.reduceNeg, Int.reduceSub, Int.reduceToNat, reduceCtorEq, false_implies, true_implies, decide_true, decide_false, forall_const, Bool.false_eq_true, Bool.not_eq_true', Bool.and_eq_true, Bool.or_eq_true, addD_i, addD_s, addD_l, addD_t, subD_i, mulD_i, mulD_s, fdivD_i, modD_i, powD_i, ltD_i, ltD_s, leD_i, leD_s, gtD_i, gtD_s, geD_i, geD_s, inD_l, inD_t, inD_s, isBl_b, cmpD_eq, cmpD_ne, cmpD_lt, cmpD_le, cmpD_gt, cmpD_ge, cmpD_in, cmpD_notin, cmpD_isN, cmpD_notN, cmpD_isB, cmpD_notB, isNon_n, isNon_i, isNon_b, isNon_s, isNon_l, isNon_t, items_l, items_t, itemsI_l, itemsI_t, itemsI_s, ixD_l, ixD_t, ixD_s, slD_l, slD_t, slD_s, lenD_l, lenD_t, lenD_s, lenD_d, absD_i, minD_i, maxD_i, minD_1, maxD_1, bestD_c, sortedD_1, listD_1, tupleD_1, allD_l, anyD_l, sumD_l, sumD_t, intD_i, intD_b, boolD_b, boolD_i, joinD_s, retK_sh, retK_nw, retK_bw, kdOf_0, kdOf_1, kdOf_2, inKd_sh, inKd_nw, inKd_bw, inKd_b2, toKd_t, toKd_f, notBw_sh, notBw_nw, notBw_bw, notBw_b2, exact_sh, exact_nw, exact_bw, ownOk_l, ownOk_K, ownOk_T, ownOk_2, tyD_ii, tyD_ib, tyD_is, tyD_in, tyD_il, tyD_it, tyD_bi, tyD_bb, tyD_bs, tyD_bn, tyD_bl, tyD_bt, tyD_si, tyD_sb, tyD_ss, tyD_sn, tyD_sl, tyD_st, tyD_ti, tyD_tb, tyD_ts, tyD_tn, tyD_tl, tyD_tt, tyD_li, tyD_lb, tyD_ls, tyD_ln, tyD_ll, tyD_lt, biD_1, biD_2, biD_3, biD_4, biD_5, biD_6, biD_7, biD_8, biD_9, biD_10, biD_11, biD_12, biD_13, biD_14, biD_15, op2D_1, op2D_2, op2D_3, op2D_4, op2D_5, op2D_6, oR_some, Option.map_some, true_or, false_or, lend_ret, notB2_sh, notB2_nw, notB2_bw, resOk_bl, resOk_int, resOk_non, resOk_str, resOk_l, resOk_t, Typ.row.sort (by decide) (.inl fun a => rfl)]
      refine ⟨_, ⟨leQ_sorted _ _, ?_, fun L p => ?_⟩, rfl⟩
      · have pm := (List.mergeSort_perm (rows.filter fun r => decide (r.2.headD ⟨#[]⟩ = b)) (leQ rowD)).map (·.2)
        rw [pm.nodup_iff]
        exact h4.sublist (List.filter_sublist.map _)
      · rw [List.mem_mergeSort, List.mem_filter, decide_eq_true_eq]
        constructor
        · rintro ⟨hm, e⟩
          obtain ⟨c, s, rfl⟩ := (h1 _ hm).cons
          exact ⟨h1 _ hm, by rw [List.head?_cons]; exact congrArg some e⟩
        · rintro ⟨hw, e⟩
          obtain ⟨c, s, rfl⟩ := hw.cons
          exact ⟨h2 _ _ hw, by rw [List.head?_cons] at e; exact Option.some.inj e⟩
  obtain ⟨r, e, ws, h, rfl⟩ := w
  exact ⟨ws, h, e⟩
theorem IsWays.head {names : List PySem.Str} {ties : List Tie} (T : TiesOk names ties) (hT : Tied names ties) {a b : PySem.Str} (ha : a ∈ names) (hb : b ∈ names) {ws : List Row} (h : IsWays ties a b ws) : ∃ r s, ws = r :: s ∧ IsDist ties a b r.1 := by
  obtain ⟨q, L, w⟩ := hT.way T ha hb
  have m := (h.mem L (b :: q)).mpr ⟨w, rfl⟩
  cases ws with
  | nil => cases m
  | cons r s =>
    refine ⟨r, s, rfl, ?_, fun q' L' w' => ?_⟩
    · obtain ⟨L1, p⟩ := r
      have := (h.mem L1 p).mp List.mem_cons_self
      obtain ⟨w1, e⟩ := this
      obtain ⟨c, t, rfl⟩ := w1.cons
      rw [List.head?_cons] at e
      cases e
      exact ⟨t, w1⟩
    · have m' := (h.mem L' (b :: q')).mpr ⟨w', rfl⟩
      rcases List.mem_cons.mp m' with e | m'
      · rw [← e]; exact Int.le_refl _
      · have := (List.pairwise_cons.mp h.so).1 _ m'
        exact leQ_row this
theorem atI_zero {α : Type} (x : α) (r : List α) : atI (x :: r) 0 = some x := atI_nat (j := 0) (xs := x :: r) rfl
theorem howfar_ok {F : List Fn} {fi iBet iCheck iWays iLen iBes : Nat} (hf : F[fi]? = some ⟨3, 3, C_howfar iBet⟩) (hb' : F[iBet]? = some ⟨3, 4, C_between iCheck iWays⟩) (hC : F[iCheck]? = some ⟨2, 2, C_check⟩) (hW : F[iWays]? = some ⟨2, 8, C_ways iLen iBes⟩) (hL : F[iLen]? = some ⟨1, 5, C_lengths⟩) (hB : F[iBes]? = some ⟨2, 6, C_beside⟩)
    (n : Nat) {names : List PySem.Str} {ties : List Tie} (T : TiesOk names ties) (hT : Tied names ties) (hn : names.length ≤ 8) {a b : PySem.Str} (ha : a ∈ names) (hb : b ∈ names) :
    ∃ d, IsDist ties a b d ∧ run F (n + 4) fi [mapD names ties, .str a, .str b] = .ok (.int d, false) := by
  obtain ⟨ws, h, e⟩ := between_ok hb' hC hW hL hB n T hn ha hb
  obtain ⟨r, s, rfl, hd⟩ := h.head T hT ha hb
  have w : W (run F (n + 4) fi [mapD names ties, .str a, .str b]) fun x => x = (.int r.1, false) := by
    refine run_W hf rfl ?_
    simp only [C_howfar]
    simp only [id_eq, R.bind_ok, R.guard_true, ss_cons, ss_nil, Sq, Fl, W_bind, W_ok, W_guard, R.ite_true, R.ite_false, W_ite, evS, evE, evEs, evO, evTs, evIt, strD_i, keyD_i, keyD_s, keysD_n, keysD_c, dgetD_s, dgetD_i, dgetD_t, dinD_s, dinD_i, dinD_t, setPat_v, setPat_t, setPats_n, setPats_c, setSlot, start0, wipeE, ownL, stoD, dstD, rangeD, List.map_cons, List.map_nil, List.cons_append, List.nil_append, List.append_nil, List.length_cons, List.length_nil, List.replicate_succ, List.replicate_zero, List.getElem?_cons_zero, List.getElem?_cons_succ, List.set_cons_zero, List.set_cons_succ, List.all_cons, List.all_nil, Nat.add_sub_cancel, Nat.reduceAdd, Nat.reduceSub, Bool.and_true, Bool.true_and, Bool.and_self, Bool.not_true, Bool.not_false, true_and, and_true, decide_eq_true_eq, Nat.zero_add, decide_eq_false_iff_not, Int.reduceLT, Int.reduceEq, eqD_i, eqD_s, shp_i, shp_s, shp_b, shp_n, Int.reduceLE, Int.reduceMul, Int.reduceAdd, Int.reduceMod, Int.reduceNeg, Int.reduceSub, Int.reduceToNat, reduceCtorEq, false_implies, true_implies, decide_true, decide_false, forall_const, Bool.false_eq_true, Bool.not_eq_true', Bool.and_eq_true, Bool.or_eq_true, addD_i, addD_s, addD_l, addD_t, subD_i, mulD_i, mulD_s, fdivD_i, modD_i, powD_i, ltD_i, ltD_s, leD_i, leD_s, gtD_i, gtD_s, geD_i, geD_s, inD_l, inD_t, inD_s, isBl_b, cmpD_eq, cmpD_ne, cmpD_lt, cmpD_le, cmpD_gt, cmpD_ge, cmpD_in, cmpD_notin, cmpD_isN, cmpD_notN, cmpD_isB, cmpD_notB, isNon_n, isNon_i, isNon_b, isNon_s, isNon_l, isNon_t, items_l, items_t, itemsI_l, itemsI_t, itemsI_s, ixD_l, ixD_t, ixD_s, slD_l, slD_t, slD_s, lenD_l, lenD_t, lenD_s, lenD_d, absD_i, minD_i, maxD_i, minD_1, maxD_1, bestD_c, sortedD_1, listD_1, tupleD_1, allD_l, anyD_l, sumD_l, sumD_t, intD_i, intD_b, boolD_b, boolD_i, joinD_s, retK_sh, retK_nw, retK_bw, kdOf_0, kdOf_1, kdOf_2, inKd_sh, inKd_nw, inKd_bw, inKd_b2, toKd_t, toKd_f, notBw_sh, notBw_nw, notBw_bw, notBw_b2, exact_sh, exact_nw, exact_bw, ownOk_l, ownOk_K, ownOk_T, ownOk_2, tyD_ii, tyD_ib, tyD_is, tyD_in, tyD_il, tyD_it, tyD_bi, tyD_bb, tyD_bs, tyD_bn, tyD_bl, tyD_bt, tyD_si, tyD_sb, tyD_ss, tyD_sn, tyD_sl, tyD_st, tyD_ti, tyD_tb, tyD_ts, tyD_tn, tyD_tl, tyD_tt, tyD_li, tyD_lb, tyD_ls, tyD_ln, tyD_ll, tyD_lt, biD_1, biD_2, biD_3, biD_4, biD_5, biD_6, biD_7, biD_8, biD_9, biD_10, biD_11, biD_12, biD_13, biD_14, biD_15, op2D_1, op2D_2, op2D_3, op2D_4, op2D_5, op2D_6, oR_some, Option.map_some, true_or, false_or, lend_ret, notB2_sh, notB2_nw, notB2_bw, resOk_bl, resOk_int, resOk_non, resOk_str, resOk_l, resOk_t, e]
    rw [atI_zero]
    simp only [id_eq, R.bind_ok, R.guard_true, ss_cons, ss_nil, Sq, Fl, W_bind, W_ok, W_guard, R.ite_true, R.ite_false, W_ite, evS, evE, evEs, evO, evTs, evIt, strD_i, keyD_i, keyD_s, keysD_n, keysD_c, dgetD_s, dgetD_i, dgetD_t, dinD_s, dinD_i, dinD_t, setPat_v, setPat_t, setPats_n, setPats_c, setSlot, start0, wipeE, ownL, stoD, dstD, rangeD, List.map_cons, List.map_nil, List.cons_append, List.nil_append, List.append_nil, List.length_cons, List.length_nil, List.replicate_succ, List.replicate_zero, List.getElem?_cons_zero, List.getElem?_cons_succ, List.set_cons_zero, List.set_cons_succ, List.all_cons, List.all_nil, Nat.add_sub_cancel, Nat.reduceAdd, Nat.reduceSub, Bool.and_true, Bool.true_and, Bool.and_self, Bool.not_true, Bool.not_false, true_and, and_true, decide_eq_true_eq, Nat.zero_add, decide_eq_false_iff_not, Int.reduceLT, Int.reduceEq, eqD_i, eqD_s, shp_i, shp_s, shp_b, shp_n, Int.reduceLE, Int.reduceMul, Int.reduceAdd, Int.reduceMod, Int.reduceNeg, Int.reduceSub, Int.reduceToNat, reduceCtorEq, false_implies, true_implies, decide_true, decide_false, forall_const, Bool.false_eq_true, Bool.not_eq_true', Bool.and_eq_true, Bool.or_eq_true, addD_i, addD_s, addD_l, addD_t, subD_i, mulD_i, mulD_s, fdivD_i, modD_i, powD_i, ltD_i, ltD_s, leD_i, leD_s, gtD_i, gtD_s, geD_i, geD_s, inD_l, inD_t, inD_s, isBl_b, cmpD_eq, cmpD_ne, cmpD_lt, cmpD_le, cmpD_gt, cmpD_ge, cmpD_in, cmpD_notin, cmpD_isN, cmpD_notN, cmpD_isB, cmpD_notB, isNon_n, isNon_i, isNon_b, isNon_s, isNon_l, isNon_t, items_l, items_t, itemsI_l, itemsI_t, itemsI_s, ixD_l, ixD_t, ixD_s, slD_l, slD_t, slD_s, lenD_l, lenD_t, lenD_s, lenD_d, absD_i, minD_i, maxD_i, minD_1, maxD_1, bestD_c, sortedD_1, listD_1, tupleD_1, allD_l, anyD_l, sumD_l, sumD_t, intD_i, intD_b, boolD_b, boolD_i, joinD_s, retK_sh, retK_nw, retK_bw, kdOf_0, kdOf_1, kdOf_2, inKd_sh, inKd_nw, inKd_bw, inKd_b2, toKd_t, toKd_f, notBw_sh, notBw_nw, notBw_bw, notBw_b2, exact_sh, exact_nw, exact_bw, ownOk_l, ownOk_K, ownOk_T, ownOk_2, tyD_ii, tyD_ib, tyD_is, tyD_in, tyD_il, tyD_it, tyD_bi, tyD_bb, tyD_bs, tyD_bn, tyD_bl, tyD_bt, tyD_si, tyD_sb, tyD_ss, tyD_sn, tyD_sl, tyD_st, tyD_ti, tyD_tb, tyD_ts, tyD_tn, tyD_tl, tyD_tt, tyD_li, tyD_lb, tyD_ls, tyD_ln, tyD_ll, tyD_lt, biD_1, biD_2, biD_3, biD_4, biD_5, biD_6, biD_7, biD_8, biD_9, biD_10, biD_11, biD_12, biD_13, biD_14, biD_15, op2D_1, op2D_2, op2D_3, op2D_4, op2D_5, op2D_6, oR_some, Option.map_some, true_or, false_or, lend_ret, notB2_sh, notB2_nw, notB2_bw, resOk_bl, resOk_int, resOk_non, resOk_str, resOk_l, resOk_t, rowD, ix0]
  obtain ⟨x, e2, rfl⟩ := w
  exact ⟨r.1, hd, e2⟩
theorem whole_ok {F : List Fn} {fi : Nat} (hf : F[fi]? = some ⟨1, 1, C_whole⟩) (n : Nat) (d : D) : run F (n + 1) fi [d] = .ok (.bl (tyD .int d && !tyD .bool d), false) := by
  have w : W (run F (n + 1) fi [d]) fun r => r = (.bl (tyD .int d && !tyD .bool d), false) := by
    refine run_W hf rfl ?_
    simp only [C_whole]
    simp only [id_eq, R.bind_ok, R.guard_true, ss_cons, ss_nil, Sq, Fl, W_bind, W_ok, W_guard, R.ite_true, R.ite_false, W_ite, evS, evE, evEs, evO, evTs, evIt, strD_i, keyD_i, keyD_s, keysD_n, keysD_c, dgetD_s, dgetD_i, dgetD_t, dinD_s, dinD_i, dinD_t, setPat_v, setPat_t, setPats_n, setPats_c, setSlot, start0, wipeE, ownL, stoD, dstD, rangeD, List.map_cons, List.map_nil, List.cons_append, List.nil_append, List.append_nil, List.length_cons, List.length_nil, List.replicate_succ, List.replicate_zero, List.getElem?_cons_zero, List.getElem?_cons_succ, List.set_cons_zero, List.set_cons_succ, List.all_cons, List.all_nil, Nat.add_sub_cancel, Nat.reduceAdd, Nat.reduceSub, Bool.and_true, Bool.true_and, Bool.and_self, Bool.not_true, Bool.not_false, true_and, and_true, decide_eq_true_eq, Nat.zero_add, decide_eq_false_iff_not, Int.reduceLT, Int.reduceEq, eqD_i, eqD_s, shp_i, shp_s, shp_b, shp_n, Int.reduceLE, Int.reduceMul, Int.reduceAdd, Int.reduceMod, Int.reduceNeg, Int.reduceSub, Int.reduceToNat, reduceCtorEq, false_implies, true_implies, decide_true, decide_false, forall_const, Bool.false_eq_true, Bool.not_eq_true', Bool.and_eq_true, Bool.or_eq_true, addD_i, addD_s, addD_l, addD_t, subD_i, mulD_i, mulD_s, fdivD_i, modD_i, powD_i, ltD_i, ltD_s, leD_i, leD_s, gtD_i, gtD_s, geD_i, geD_s, inD_l, inD_t, inD_s, isBl_b, cmpD_eq, cmpD_ne, cmpD_lt, cmpD_le, cmpD_gt, cmpD_ge, cmpD_in, cmpD_notin, cmpD_isN, cmpD_notN, cmpD_isB, cmpD_notB, isNon_n, isNon_i, isNon_b, isNon_s, isNon_l, isNon_t, items_l, items_t, itemsI_l, itemsI_t, itemsI_s, ixD_l, ixD_t, ixD_s, slD_l, slD_t, slD_s, lenD_l, lenD_t, lenD_s, lenD_d, absD_i, minD_i, maxD_i, minD_1, maxD_1, bestD_c, sortedD_1, listD_1, tupleD_1, allD_l, anyD_l, sumD_l, sumD_t, intD_i, intD_b, boolD_b, boolD_i, joinD_s, retK_sh, retK_nw, retK_bw, kdOf_0, kdOf_1, kdOf_2, inKd_sh, inKd_nw, inKd_bw, inKd_b2, toKd_t, toKd_f, notBw_sh, notBw_nw, notBw_bw, notBw_b2, exact_sh, exact_nw, exact_bw, ownOk_l, ownOk_K, ownOk_T, ownOk_2, tyD_ii, tyD_ib, tyD_is, tyD_in, tyD_il, tyD_it, tyD_bi, tyD_bb, tyD_bs, tyD_bn, tyD_bl, tyD_bt, tyD_si, tyD_sb, tyD_ss, tyD_sn, tyD_sl, tyD_st, tyD_ti, tyD_tb, tyD_ts, tyD_tn, tyD_tl, tyD_tt, tyD_li, tyD_lb, tyD_ls, tyD_ln, tyD_ll, tyD_lt, biD_1, biD_2, biD_3, biD_4, biD_5, biD_6, biD_7, biD_8, biD_9, biD_10, biD_11, biD_12, biD_13, biD_14, biD_15, op2D_1, op2D_2, op2D_3, op2D_4, op2D_5, op2D_6, oR_some, Option.map_some, true_or, false_or, lend_ret, notB2_sh, notB2_nw, notB2_bw, resOk_bl, resOk_int, resOk_non, resOk_str, resOk_l, resOk_t]
    cases tyD .int d <;> simp
  obtain ⟨r, e, rfl⟩ := w
  exact e
end Fw

namespace Fw
open L2
/-! ### loops over what lies as data; slices -/
theorem for_pre {α : Type} {enc : α → D} {p : Pat} {f : Env → R Flow} {Q : Flow → Prop} (E : List α → Env → Prop) {l : List α} {ρ : Env} (h0 : E [] ρ)
    (hs : ∀ pre a suf, l = pre ++ a :: suf → ∀ ρ, E pre ρ → W (setPat p (enc a) ρ) fun ρ' => W (f ρ') (Fl Q (E (pre ++ [a])))) (hq : ∀ ρ, E l ρ → Q (.nx ρ)) : W (forGo p f (l.map enc) ρ) Q := by
  have key : ∀ (suf pre : List α) (ρ : Env), l = pre ++ suf → E pre ρ → W (forGo p f (suf.map enc) ρ) Q := by
    intro suf
    induction suf with
    | nil =>
      intro pre ρ e h
      rw [List.append_nil] at e
      subst e
      exact ⟨_, rfl, hq ρ h⟩
    | cons a suf ih =>
      intro pre ρ e h
      rw [List.map_cons, forGo, W_bind]
      refine (hs pre a suf e ρ h).mono fun ρ' h' => ?_
      rw [W_bind]
      refine h'.mono fun o ho => ?_
      have e' : l = (pre ++ [a]) ++ suf := by rw [List.append_assoc]; exact e
      cases o with
      | nx ρ'' => exact ih _ _ e' ho
      | ct ρ'' => exact ih _ _ e' ho
      | bk ρ'' => exact ⟨_, rfl, ho⟩
      | rt d k => exact ⟨_, rfl, ho⟩
  exact key l [] ρ rfl h0
theorem for_each {α : Type} {enc : α → D} {p : Pat} {f : Env → R Flow} {Q : Flow → Prop} (E : Env → Prop) {l : List α} {ρ : Env} (h0 : E ρ)
    (hs : ∀ a ∈ l, ∀ ρ, E ρ → W (setPat p (enc a) ρ) fun ρ' => W (f ρ') (Fl Q E)) (hq : ∀ ρ, E ρ → Q (.nx ρ)) : W (forGo p f (l.map enc) ρ) Q :=
  for_pre (fun _ => E) h0 (fun pre a suf e ρ h => hs a (by rw [e]; exact List.mem_append.mpr (.inr List.mem_cons_self)) ρ h) hq
theorem for_fold {α σ : Type} {enc : α → D} {p : Pat} {f : Env → R Flow} {Q : Flow → Prop} (st : σ → α → σ) (E : σ → Env → Prop) {s : σ} {l : List α} {ρ : Env} (h0 : E s ρ)
    (hs : ∀ a ∈ l, ∀ s ρ, E s ρ → W (setPat p (enc a) ρ) fun ρ' => W (f ρ') (Fl Q (E (st s a)))) (hq : ∀ ρ, E (l.foldl st s) ρ → Q (.nx ρ)) : W (forGo p f (l.map enc) ρ) Q :=
  for_pre (fun pre => E (pre.foldl st s)) h0 (fun pre a suf e ρ h => by
    rw [List.foldl_append]
    exact hs a (by rw [e]; exact List.mem_append.mpr (.inr List.mem_cons_self)) _ ρ h) hq
theorem sIx_nat (n : Nat) (a d : Nat) (h : a ≤ n) : HT.sIx n d (some (a : Int)) = a := by
  show (if (a : Int) < 0 then ((a : Int) + (n : Int)).toNat else min (a : Int).toNat n) = _
  rw [if_neg (by omega)]
  omega
theorem cutL_map {α β : Type} (f : α → β) (l : List α) (lo hi : Option Int) : cutL (l.map f) lo hi = (cutL l lo hi).map f := by
  unfold cutL
  rw [List.length_map, List.map_take, List.map_drop]
theorem cutL_to {α : Type} (l : List α) {a : Nat} (h : a ≤ l.length) : cutL l none (some (a : Int)) = l.take a := by
  unfold cutL
  rw [sIx_nat _ _ _ h]
  show (l.drop 0).take (a - 0) = _
  rw [List.drop_zero, Nat.sub_zero]
theorem cutL_from {α : Type} (l : List α) {a : Nat} (h : a ≤ l.length) : cutL l (some (a : Int)) none = l.drop a := by
  unfold cutL
  rw [sIx_nat _ _ _ h]
  show (l.drop a).take (l.length - a) = _
  rw [List.take_of_length_le]
  rw [List.length_drop]
  exact Nat.le_refl _
theorem cutL_mid {α : Type} (l : List α) {a b : Nat} (h : a ≤ l.length) (h2 : b ≤ l.length) : cutL l (some (a : Int)) (some (b : Int)) = (l.drop a).take (b - a) := by
  unfold cutL
  rw [sIx_nat _ _ _ h, sIx_nat _ _ _ h2]
theorem set_cut {α : Type} (l : List α) {a : Nat} (h : a < l.length) (x : α) : l.take a ++ [x] ++ l.drop (a + 1) = l.set a x := by
  rw [List.set_eq_take_append_cons_drop, if_pos h, List.append_assoc]
  rfl
/-- an index that lies in it -/
theorem emod_ix (x : Int) {n : Nat} (h : 0 < n) : ∃ k : Nat, x % (n : Int) = k ∧ k < n := by
  have a := Int.emod_nonneg x (b := (n : Int)) (by omega)
  have b := Int.emod_lt_of_pos x (b := (n : Int)) (by omega)
  exact ⟨(x % n).toNat, by omega, by omega⟩
theorem atI_map {α β : Type} (f : α → β) (l : List α) {k : Nat} (h : k < l.length) : atI (l.map f) (k : Int) = some (f l[k]) := by
  refine atI_nat ?_
  rw [List.getElem?_map, List.getElem?_eq_getElem h]
  rfl
theorem atI_get {α : Type} (l : List α) {k : Nat} (h : k < l.length) : atI l (k : Int) = some l[k] := by
  refine atI_nat ?_
  rw [List.getElem?_eq_getElem h]
theorem ixD_map0 (names : List PySem.Str) (ties : List Tie) : ixD (mapD names ties) (.int 0) = .ok (.tup (names.map .str)) := rfl
theorem ixD_map1 (names : List PySem.Str) (ties : List Tie) : ixD (mapD names ties) (.int 1) = .ok (.tup (ties.map tieD)) := rfl
theorem rowD_0 (r : Row) : ixD (rowD r) (.int 0) = .ok (.int r.1) := rfl
theorem rowD_1 (r : Row) : ixD (rowD r) (.int 1) = .ok (.tup (r.2.reverse.map .str)) := rfl
/-! ### a tie of another length -/
def setLen (ties : List Tie) (i : Nat) (l : Int) : List Tie := ties.set i ((ties.getD i (⟨#[]⟩, ⟨#[]⟩, 0)).1, (ties.getD i (⟨#[]⟩, ⟨#[]⟩, 0)).2.1, l)
theorem setLen_eq {ties : List Tie} {i : Nat} (h : i < ties.length) (l : Int) : setLen ties i l = ties.set i (ties[i].1, ties[i].2.1, l) := by
  unfold setLen
  rw [List.getD_eq_getElem?_getD, List.getElem?_eq_getElem h]
  rfl
theorem mem_set {α : Type} {l : List α} {i : Nat} {x y : α} (h : y ∈ l.set i x) : y = x ∨ ∃ j, ∃ h : j < l.length, j ≠ i ∧ l[j] = y := by
  obtain ⟨j, hj, e⟩ := List.getElem_of_mem h
  rw [List.length_set] at hj
  rw [List.getElem_set] at e
  split at e
  · exact .inl e.symm
  · rename_i hne
    exact .inr ⟨j, hj, fun z => hne z.symm, e⟩
theorem TiesOk.setLen {names : List PySem.Str} {ties : List Tie} (T : TiesOk names ties) {i : Nat} (h : i < ties.length) {l : Int} (hl : 1 ≤ l ∧ l ≤ 50) : TiesOk names (Fw.setLen ties i l) := by
  rw [setLen_eq h]
  have hm := List.getElem_mem h
  refine ⟨fun t ht => ?_, fun t ht => ?_, fun t ht => ?_, ?_, ?_⟩
  · rcases mem_set ht with rfl | ⟨j, hj, _, rfl⟩
    · exact T.mem ties[i] hm
    · exact T.mem _ (List.getElem_mem hj)
  · rcases mem_set ht with rfl | ⟨j, hj, _, rfl⟩
    · exact T.lt ties[i] hm
    · exact T.lt _ (List.getElem_mem hj)
  · rcases mem_set ht with rfl | ⟨j, hj, _, rfl⟩
    · exact hl
    · exact T.len _ (List.getElem_mem hj)
  · rw [List.pairwise_iff_getElem]
    intro j k hj hk hjk
    rw [List.length_set] at hj hk
    have d := (List.pairwise_iff_getElem.mp T.dis) j k hj hk hjk
    rw [List.getElem_set, List.getElem_set]
    split
    · rename_i e; subst e; split
      · omega
      · exact d
    · split
      · rename_i e; subst e; exact d
      · exact d
  · rw [List.length_set]; exact T.cnt
theorem Adj.setLen {ties : List Tie} {i : Nat} (h : i < ties.length) {l0 : Int} (l : Int) {a b : PySem.Str} (ad : Adj ties a b l0) : Adj (Fw.setLen ties i l) a b l0 ∨ (l0 = ties[i].2.2 ∧ ((ties[i].1 = a ∧ ties[i].2.1 = b) ∨ (ties[i].1 = b ∧ ties[i].2.1 = a)) ∧ Adj (Fw.setLen ties i l) a b l) := by
  obtain ⟨t, ht, rfl, hab⟩ := ad
  rw [setLen_eq h]
  obtain ⟨j, hj, rfl⟩ := List.getElem_of_mem ht
  by_cases e : j = i
  · subst e
    refine .inr ⟨rfl, hab, _, List.mem_iff_getElem.mpr ⟨j, by rw [List.length_set]; exact hj, List.getElem_set_self ..⟩, rfl, hab⟩
  · refine .inl ⟨ties[j], List.mem_iff_getElem.mpr ⟨j, by rw [List.length_set]; exact hj, ?_⟩, rfl, hab⟩
    rw [List.getElem_set, if_neg (fun z => e z.symm)]
theorem Way.setLen {ties : List Tie} {i : Nat} (h : i < ties.length) (l : Int) {one : PySem.Str} {p : List PySem.Str} {L : Int} (w : Way ties one p L) : Way (Fw.setLen ties i l) one p L ∨ (ties[i].1 ∈ p ∧ ties[i].2.1 ∈ p ∧ Way (Fw.setLen ties i l) one p (L + (l - ties[i].2.2))) := by
  induction w with
  | nil => exact .inl .nil
  | @snoc a b r L l0 w ad hn ih =>
    rcases ad.setLen h l with ad | ⟨rfl, hab, ad⟩
    · rcases ih with ih | ⟨m1, m2, ih⟩
      · exact .inl (.snoc ih ad hn)
      · refine .inr ⟨List.mem_cons_of_mem _ m1, List.mem_cons_of_mem _ m2, ?_⟩
        have := Way.snoc ih ad hn
        rw [show L + l0 + (l - ties[i].2.2) = L + (l - ties[i].2.2) + l0 by omega]
        exact this
    · rcases ih with ih | ⟨m1, m2, ih⟩
      · have := Way.snoc ih ad hn
        rw [show L + l = L + ties[i].2.2 + (l - ties[i].2.2) by omega] at this
        refine .inr ⟨?_, ?_, this⟩
        · rcases hab with ⟨e1, e2⟩ | ⟨e1, e2⟩
          · rw [e1]; exact List.mem_cons_of_mem _ List.mem_cons_self
          · rw [e1]; exact List.mem_cons_self
        · rcases hab with ⟨e1, e2⟩ | ⟨e1, e2⟩
          · rw [e2]; exact List.mem_cons_self
          · rw [e2]; exact List.mem_cons_of_mem _ List.mem_cons_self
      · rcases hab with ⟨e1, e2⟩ | ⟨e1, e2⟩
        · exact absurd (e2 ▸ m2) hn
        · exact absurd (e1 ▸ m1) hn
theorem setLen_back {ties : List Tie} {i : Nat} (h : i < ties.length) (l : Int) : Fw.setLen (Fw.setLen ties i l) i ties[i].2.2 = ties := by
  have h2 : i < (Fw.setLen ties i l).length := by rw [setLen_eq h, List.length_set]; exact h
  have e1 : (Fw.setLen ties i l)[i] = (ties[i].1, ties[i].2.1, l) := by simp [setLen_eq h]
  rw [setLen_eq h2, e1]
  simp only [setLen_eq h, List.set_set]
  exact List.set_getElem_self h
theorem setLen_at {ties : List Tie} {i : Nat} (h : i < ties.length) (l : Int) (h2 : i < (Fw.setLen ties i l).length) : (Fw.setLen ties i l)[i] = (ties[i].1, ties[i].2.1, l) := by simp [setLen_eq h]
theorem setLen_len (ties : List Tie) (i : Nat) (l : Int) : (Fw.setLen ties i l).length = ties.length := by unfold setLen; rw [List.length_set]
theorem IsDist.setLen {ties : List Tie} {i : Nat} (h : i < ties.length) (l : Int) {a b : PySem.Str} {d e : Int} (hd : IsDist ties a b d) (he : IsDist (Fw.setLen ties i l) a b e) : (e ≤ d ∨ e ≤ d + (l - ties[i].2.2)) ∧ (d ≤ e ∨ d ≤ e - (l - ties[i].2.2)) := by
  constructor
  · obtain ⟨r, w⟩ := hd.1
    rcases w.setLen h l with w | ⟨_, _, w⟩
    · exact .inl (he.2 _ _ w)
    · exact .inr (he.2 _ _ w)
  · obtain ⟨r, w⟩ := he.1
    have h2 : i < (Fw.setLen ties i l).length := by rw [setLen_len]; exact h
    rcases w.setLen h2 ties[i].2.2 with w | ⟨_, _, w⟩
    · rw [setLen_back h] at w
      exact .inl (hd.2 _ _ w)
    · rw [setLen_back h, setLen_at h l h2] at w
      have := hd.2 _ _ w
      exact .inr (by simp only at this; omega)
theorem WalkS.setLen {ties : List Tie} {i : Nat} (h : i < ties.length) (l : Int) {a b : PySem.Str} {L : Int} (w : WalkS ties a b L) : ∃ L', WalkS (Fw.setLen ties i l) a b L' := by
  induction w with
  | nil => exact ⟨0, .nil⟩
  | snoc w ad ih =>
    obtain ⟨L', w'⟩ := ih
    rcases ad.setLen h l with ad' | ⟨_, _, ad'⟩
    · exact ⟨_, .snoc w' ad'⟩
    · exact ⟨_, .snoc w' ad'⟩
theorem Tied.setLen {names : List PySem.Str} {ties : List Tie} (hT : Tied names ties) {i : Nat} (h : i < ties.length) (l : Int) : Tied names (Fw.setLen ties i l) := by
  intro a ha b hb
  obtain ⟨L, w⟩ := hT a ha b hb
  exact w.setLen h l
end Fw

namespace Fw
open L2
/-! ### ties as a graph: what hangs together, bridges, leaves -/
abbrev Nm := PySem.Str
def Cn (ties : List Tie) (a b : Nm) : Prop := ∃ L, WalkS ties a b L
theorem Cn.refl (ties : List Tie) (a : Nm) : Cn ties a a := ⟨0, .nil⟩
theorem Cn.symm {ties : List Tie} {a b : Nm} (h : Cn ties a b) : Cn ties b a := let ⟨L, w⟩ := h; ⟨L, w.symm⟩
theorem Cn.trans {ties : List Tie} {a b c : Nm} (h : Cn ties a b) (k : Cn ties b c) : Cn ties a c := let ⟨L, w⟩ := h; let ⟨M, v⟩ := k; ⟨L + M, w.trans v⟩
theorem Cn.one {ties : List Tie} {a b : Nm} {l : Int} (h : Adj ties a b l) : Cn ties a b := ⟨l, .one h⟩
theorem Adj.mono {K K' : List Tie} (s : ∀ t ∈ K, t ∈ K') {a b : Nm} {l : Int} (h : Adj K a b l) : Adj K' a b l := let ⟨t, ht, e, h⟩ := h; ⟨t, s t ht, e, h⟩
theorem WalkS.mono {K K' : List Tie} (s : ∀ t ∈ K, t ∈ K') {a b : Nm} {L : Int} (h : WalkS K a b L) : WalkS K' a b L := by
  induction h with
  | nil => exact .nil
  | snoc _ ad ih => exact .snoc ih (ad.mono s)
theorem Cn.mono {K K' : List Tie} (s : ∀ t ∈ K, t ∈ K') {a b : Nm} (h : Cn K a b) : Cn K' a b := let ⟨L, w⟩ := h; ⟨L, w.mono s⟩
theorem Way.mono {K K' : List Tie} (s : ∀ t ∈ K, t ∈ K') {a : Nm} {p : List Nm} {L : Int} (h : Way K a p L) : Way K' a p L := by
  induction h with
  | nil => exact .nil
  | snoc _ ad hn ih => exact .snoc ih (ad.mono s) hn
/-- an induction along what hangs together -/
theorem Cn.ind {ties : List Tie} {a : Nm} {P : Nm → Prop} (h0 : P a) (hs : ∀ b c l, Cn ties a b → P b → Adj ties b c l → P c) {b : Nm} (h : Cn ties a b) : P b := by
  obtain ⟨L, w⟩ := h
  induction w with
  | nil => exact h0
  | snoc w ad ih => exact hs _ _ _ ⟨_, w⟩ ih ad
theorem Cn.of_steps {K K' : List Tie} (s : ∀ b c l, Adj K b c l → Cn K' b c) {a b : Nm} (h : Cn K a b) : Cn K' a b :=
  Cn.ind (P := fun x => Cn K' a x) (Cn.refl _ _) (fun b c l _ hb ad => hb.trans (s b c l ad)) h
/-- ties of a simple kind -/
structure Smp (K : List Tie) : Prop where
  lt : ∀ t ∈ K, ltS t.1 t.2.1
  un : ∀ t ∈ K, ∀ u ∈ K, t.1 = u.1 → t.2.1 = u.2.1 → t = u
theorem Smp.sub {K K' : List Tie} (h : Smp K) (s : ∀ t ∈ K', t ∈ K) : Smp K' := ⟨fun t ht => h.lt t (s t ht), fun t ht u hu => h.un t (s t ht) u (s u hu)⟩
theorem TiesOk.smp {names : List Nm} {ties : List Tie} (T : TiesOk names ties) : Smp ties := by
  refine ⟨T.lt, fun t ht u hu e1 e2 => ?_⟩
  obtain ⟨i, hi, rfl⟩ := List.getElem_of_mem ht
  obtain ⟨j, hj, rfl⟩ := List.getElem_of_mem hu
  have d := List.pairwise_iff_getElem.mp T.dis
  rcases Nat.lt_trichotomy i j with h | h | h
  · exact absurd ⟨e1, e2⟩ (d i j hi hj h)
  · subst h; rfl
  · exact absurd ⟨e1.symm, e2.symm⟩ (d j i hj hi h)
theorem TiesOk.nodup {names : List Nm} {ties : List Tie} (T : TiesOk names ties) : ties.Nodup := T.dis.imp fun h e => h ⟨by rw [e], by rw [e]⟩
/-- the tie between two -/
def Ends (t : Tie) (a b : Nm) : Prop := (t.1 = a ∧ t.2.1 = b) ∨ (t.1 = b ∧ t.2.1 = a)
theorem Ends.symm {t : Tie} {a b : Nm} (h : Ends t a b) : Ends t b a := Or.symm h
theorem Ends.adj {K : List Tie} {t : Tie} (ht : t ∈ K) {a b : Nm} (h : Ends t a b) : Adj K a b t.2.2 := ⟨t, ht, rfl, h⟩
theorem Smp.ne {K : List Tie} (h : Smp K) {t : Tie} (ht : t ∈ K) {a b : Nm} (e : Ends t a b) : a ≠ b := by
  have := ltS_ne (h.lt t ht)
  rcases e with ⟨rfl, rfl⟩ | ⟨rfl, rfl⟩
  · exact this
  · exact this.symm
theorem Smp.adj_ne {K : List Tie} (h : Smp K) {a b : Nm} {l : Int} (ad : Adj K a b l) : a ≠ b := let ⟨t, ht, _, e⟩ := ad; h.ne ht e
theorem Smp.ends_un {K : List Tie} (h : Smp K) {t u : Tie} (ht : t ∈ K) (hu : u ∈ K) {a b : Nm} (e : Ends t a b) (k : Ends u a b) : t = u := by
  have l1 := h.lt t ht
  have l2 := h.lt u hu
  rcases e with ⟨e1, e2⟩ | ⟨e1, e2⟩ <;> rcases k with ⟨k1, k2⟩ | ⟨k1, k2⟩
  · exact h.un t ht u hu (e1.trans k1.symm) (e2.trans k2.symm)
  · rw [e1, e2] at l1; rw [k1, k2] at l2; exact absurd (ltS_trans l1 l2) (ltS_irrefl _)
  · rw [e1, e2] at l1; rw [k1, k2] at l2; exact absurd (ltS_trans l1 l2) (ltS_irrefl _)
  · exact h.un t ht u hu (e1.trans k1.symm) (e2.trans k2.symm)
theorem Smp.adj_un {K : List Tie} (h : Smp K) {a b : Nm} {l m : Int} (ad : Adj K a b l) (ad2 : Adj K a b m) : l = m := by
  obtain ⟨t, ht, rfl, e⟩ := ad
  obtain ⟨u, hu, rfl, k⟩ := ad2
  rw [h.ends_un ht hu e k]
/-- without a tie -/
def wo (ties : List Tie) (t : Tie) : List Tie := ties.filter fun u => decide (u ≠ t)
theorem mem_wo {ties : List Tie} {t u : Tie} : u ∈ wo ties t ↔ u ∈ ties ∧ u ≠ t := by unfold wo; rw [List.mem_filter, decide_eq_true_eq]
theorem wo_sub {ties : List Tie} {t : Tie} : ∀ u ∈ wo ties t, u ∈ ties := fun u h => (mem_wo.mp h).1
theorem wo_lt {ties : List Tie} {t : Tie} (h : t ∈ ties) : (wo ties t).length < ties.length := by
  unfold wo
  rw [List.length_filter_lt_length_iff_exists]
  exact ⟨t, h, by simp⟩
theorem wo_len {ties : List Tie} (hn : ties.Nodup) {t : Tie} (h : t ∈ ties) : (wo ties t).length + 1 = ties.length := by
  have e : wo ties t = ties.erase t := by
    rw [hn.erase_eq_filter]
    unfold wo
    congr 1
    funext u
    by_cases e : u = t <;> simp [e]
  rw [e, List.length_erase_of_mem h]
  have := List.length_pos_of_mem h
  omega
/-- a tie that isn't needed -/
def Loose (K : List Tie) (t : Tie) : Prop := Cn (wo K t) t.1 t.2.1
theorem Loose.mono {K K' : List Tie} (s : ∀ t ∈ K, t ∈ K') {t : Tie} (h : Loose K t) : Loose K' t :=
  Cn.mono (fun u hu => mem_wo.mpr ⟨s u (mem_wo.mp hu).1, (mem_wo.mp hu).2⟩) h
theorem Loose.ends {K : List Tie} {t : Tie} {a b : Nm} (e : Ends t a b) : Loose K t ↔ Cn (wo K t) a b := by
  unfold Loose
  rcases e with ⟨rfl, rfl⟩ | ⟨rfl, rfl⟩
  · exact Iff.rfl
  · exact ⟨Cn.symm, Cn.symm⟩
theorem Loose.cn {K : List Tie} {t : Tie} (h : Loose K t) {a b : Nm} (c : Cn K a b) : Cn (wo K t) a b := by
  refine c.of_steps fun b c l ⟨u, hu, _, e⟩ => ?_
  by_cases hut : u = t
  · subst hut
    exact (Loose.ends e).mp h
  · exact Cn.one (Ends.adj (mem_wo.mpr ⟨hu, hut⟩) e)
theorem Loose.tied {names : List Nm} {K : List Tie} {t : Tie} (h : Loose K t) (hT : Tied names K) : Tied names (wo K t) := fun a ha b hb => h.cn (hT a ha b hb)
/-! so many ties hang so many places together -/
def mvE (x y v : Nm) : Nm := if v = y then x else v
inductive Rch (es : List (Nm × Nm)) (a : Nm) : Nm → Prop
  | nil : Rch es a a
  | snoc {b c : Nm} : Rch es a b → ((b, c) ∈ es ∨ (c, b) ∈ es) → Rch es a c
theorem Rch.map {es : List (Nm × Nm)} {x y a b : Nm} (h : Rch ((x, y) :: es) a b) : Rch (es.map fun e => (mvE x y e.1, mvE x y e.2)) (mvE x y a) (mvE x y b) := by
  have hx : mvE x y x = x := by unfold mvE; split <;> rfl
  have hy : mvE x y y = x := by unfold mvE; rw [if_pos rfl]
  induction h with
  | nil => exact .nil
  | @snoc b c _ e ih =>
    rcases e with e | e
    · rcases List.mem_cons.mp e with e | e
      · cases e
        rw [hx] at ih; rw [hy]; exact ih
      · exact .snoc ih (.inl (List.mem_map.mpr ⟨(b, c), e, rfl⟩))
    · rcases List.mem_cons.mp e with e | e
      · cases e
        rw [hy] at ih; rw [hx]; exact ih
      · exact .snoc ih (.inr (List.mem_map.mpr ⟨(c, b), e, rfl⟩))
theorem rch_count : ∀ (n : Nat) (es : List (Nm × Nm)) (U : List Nm), es.length = n → U.Nodup → (∀ a ∈ U, ∀ b ∈ U, Rch es a b) → U.length ≤ es.length + 1 := by
  intro n
  induction n with
  | zero =>
    intro es U hl hn h
    have e : es = [] := List.eq_nil_of_length_eq_zero hl
    subst e
    match U, hn, h with
    | [], _, _ => exact Nat.zero_le _
    | [_], _, _ => exact Nat.le_refl _
    | a :: b :: r, hn, h =>
      have hab := h a List.mem_cons_self b (List.mem_cons_of_mem _ List.mem_cons_self)
      have e : a = b := by
        cases hab with
        | nil => rfl
        | snoc _ e => rcases e with e | e <;> cases e
      subst e
      rw [List.nodup_cons] at hn
      exact absurd List.mem_cons_self hn.1
  | succ n ih =>
    intro es U hl hn h
    match es, hl, h with
    | (x, y) :: es, hl, h =>
      have hl' : es.length = n := by simpa using hl
      have key : ∀ U' : List Nm, U'.Nodup → (∀ a ∈ U', a ∈ U ∧ a ≠ y) → U'.length ≤ n + 1 := fun U' hn' hs => by
        have := ih (es.map fun e => (mvE x y e.1, mvE x y e.2)) U' (by rw [List.length_map]; exact hl') hn' fun a ha b hb => by
          have m := (h a (hs a ha).1 b (hs b hb).1).map
          unfold mvE at m
          rw [if_neg (hs a ha).2, if_neg (hs b hb).2] at m
          exact m
        rw [List.length_map] at this
        omega
      rw [List.length_cons]
      by_cases hy : y ∈ U
      · have := key (U.erase y) (hn.erase y) fun a ha => by
          rw [hn.mem_erase_iff] at ha
          exact ⟨ha.2, ha.1⟩
        rw [List.length_erase_of_mem hy] at this
        omega
      · have := key U hn fun a ha => ⟨ha, fun e => hy (e ▸ ha)⟩
        omega
theorem cn_rch {K : List Tie} {a b : Nm} (h : Cn K a b) : Rch (K.map fun t => (t.1, t.2.1)) a b := by
  refine Cn.ind (P := fun x => Rch (K.map fun t => (t.1, t.2.1)) a x) .nil (fun b c l _ hb ad => ?_) h
  obtain ⟨t, ht, _, ⟨rfl, rfl⟩ | ⟨rfl, rfl⟩⟩ := ad
  · exact .snoc hb (.inl (List.mem_map.mpr ⟨t, ht, rfl⟩))
  · exact .snoc hb (.inr (List.mem_map.mpr ⟨t, ht, rfl⟩))
theorem tied_count {names : List Nm} (hn : names.Nodup) {K : List Tie} (hT : Tied names K) : names.length ≤ K.length + 1 := by
  have := rch_count _ (K.map fun t => (t.1, t.2.1)) names rfl hn fun a ha b hb => cn_rch (hT a ha b hb)
  rw [List.length_map] at this
  exact this
/-- in a tree no tie is loose -/
theorem tree_tight {names : List Nm} (hn : names.Nodup) {K : List Tie} (hT : Tied names K) (hc : K.length + 1 ≤ names.length) {t : Tie} (ht : t ∈ K) : ¬ Loose K t := fun h => by
  have := tied_count hn (h.tied hT)
  have := wo_lt ht
  omega
/-! leaves -/
theorem Way.inside {K : List Tie} {a : Nm} {p : List Nm} {L : Int} (h : Way K a p L) : ∀ x ∈ p, ∀ y ∈ p, Cn (K.filter fun u => decide (u.1 ∈ p ∧ u.2.1 ∈ p)) x y := by
  induction h with
  | nil =>
    intro x hx y hy
    rw [List.mem_singleton] at hx hy
    rw [hx, hy]
    exact Cn.refl _ _
  | @snoc b c r L l w ad hn ih =>
    have up : ∀ x ∈ b :: r, ∀ y ∈ b :: r, Cn (K.filter fun u => decide (u.1 ∈ c :: b :: r ∧ u.2.1 ∈ c :: b :: r)) x y := fun x hx y hy => (ih x hx y hy).mono fun t ht => by
      rw [List.mem_filter, decide_eq_true_eq] at ht ⊢
      exact ⟨ht.1, List.mem_cons_of_mem _ ht.2.1, List.mem_cons_of_mem _ ht.2.2⟩
    obtain ⟨t, ht, rfl, e⟩ := ad
    have one : Cn (K.filter fun u => decide (u.1 ∈ c :: b :: r ∧ u.2.1 ∈ c :: b :: r)) b c := by
      refine Cn.one (Ends.adj (t := t) ?_ e)
      rw [List.mem_filter, decide_eq_true_eq]
      refine ⟨ht, ?_⟩
      rcases e with ⟨rfl, rfl⟩ | ⟨rfl, rfl⟩
      · exact ⟨List.mem_cons_of_mem _ List.mem_cons_self, List.mem_cons_self⟩
      · exact ⟨List.mem_cons_self, List.mem_cons_of_mem _ List.mem_cons_self⟩
    intro x hx y hy
    rcases List.mem_cons.mp hx with e1 | h1 <;> rcases List.mem_cons.mp hy with e2 | h2
    · rw [e1, e2]; exact Cn.refl _ _
    · rw [e1]; exact one.symm.trans (up b List.mem_cons_self y h2)
    · rw [e2]; exact (up x h1 b List.mem_cons_self).trans one
    · exact up x h1 y h2
def nbr (K : List Tie) (x y : Nm) : Prop := ∃ l, Adj K x y l
theorem nbr.symm {K : List Tie} {x y : Nm} (h : nbr K x y) : nbr K y x := let ⟨l, h⟩ := h; ⟨l, h.symm⟩
theorem nbr.mono {K K' : List Tie} (s : ∀ t ∈ K, t ∈ K') {x y : Nm} (h : nbr K x y) : nbr K' x y := let ⟨l, h⟩ := h; ⟨l, h.mono s⟩
theorem nbr.tie {K : List Tie} {x y : Nm} (h : nbr K x y) : ∃ t ∈ K, Ends t x y := let ⟨_, t, ht, _, e⟩ := h; ⟨t, ht, e⟩
theorem nbr.of {K : List Tie} {t : Tie} (ht : t ∈ K) {x y : Nm} (e : Ends t x y) : nbr K x y := ⟨_, e.adj ht⟩
theorem Smp.nbr_ne {K : List Tie} (h : Smp K) {x y : Nm} (n : nbr K x y) : x ≠ y := let ⟨_, ad⟩ := n; h.adj_ne ad
/-- without all ties at a place -/
def woP (K : List Tie) (a : Nm) : List Tie := K.filter fun u => decide (u.1 ≠ a ∧ u.2.1 ≠ a)
theorem mem_woP {K : List Tie} {a : Nm} {u : Tie} : u ∈ woP K a ↔ u ∈ K ∧ u.1 ≠ a ∧ u.2.1 ≠ a := by unfold woP; rw [List.mem_filter, decide_eq_true_eq]
theorem woP_sub {K : List Tie} {a : Nm} : ∀ u ∈ woP K a, u ∈ K := fun u h => (mem_woP.mp h).1
theorem woP_wo {K : List Tie} {a b : Nm} {t : Tie} (e : Ends t a b) : ∀ u ∈ woP K a, u ∈ wo K t := fun u h => by
  rw [mem_woP] at h
  refine mem_wo.mpr ⟨h.1, fun z => ?_⟩
  subst z
  rcases e with ⟨e1, _⟩ | ⟨_, e1⟩
  · exact h.2.1 e1
  · exact h.2.2 e1
/-- from a tie on: a ring, or a leaf -/
theorem leaf_or_loose {K : List Tie} (S : Smp K) {names : List Nm} (hm : ∀ t ∈ K, t.1 ∈ names ∧ t.2.1 ∈ names) {a b : Nm} (hab : nbr K a b) :
    (∃ t ∈ K, Loose K t) ∨ ∃ z y, z ≠ a ∧ Cn (woP K a) b z ∧ nbr K z y ∧ ∀ w, nbr K z w → w = y := by
  have ham : a ∈ names := by
    obtain ⟨t, ht, ⟨rfl, _⟩ | ⟨_, rfl⟩⟩ := hab.tie
    · exact (hm t ht).1
    · exact (hm t ht).2
  have key : ∀ (n : Nat) (z y : Nm) (r : List Nm) (L : Int), Way K a (z :: y :: r) L → Cn (woP K a) b z → names.length ≤ n + (z :: y :: r).length → 
      (∃ t ∈ K, Loose K t) ∨ ∃ z y, z ≠ a ∧ Cn (woP K a) b z ∧ nbr K z y ∧ ∀ w, nbr K z w → w = y := by
    intro n
    induction n with
    | zero =>
      intro z y r L w hc hl
      by_cases hx : ∃ x, nbr K z x ∧ x ≠ y
      · obtain ⟨x, hzx, hxy⟩ := hx
        have hxp : x ∈ z :: y :: r := by
          apply Classical.byContradiction
          intro hxp
          obtain ⟨l, ad⟩ := hzx
          have w2 := Way.snoc w ad hxp
          have := nodup_le (q := names) w2.nodup fun v hv => by
            clear hl hc
            have : ∀ {p : List Nm} {L : Int}, Way K a p L → ∀ x ∈ p, x ∈ names := by
              intro p L h
              induction h with
              | nil => intro x hx; rw [List.mem_singleton] at hx; subst hx; exact ham
              | snoc _ ad _ ih =>
                intro x hx
                rcases List.mem_cons.mp hx with rfl | hx
                · obtain ⟨t, ht, _, ⟨_, rfl⟩ | ⟨rfl, _⟩⟩ := ad
                  · exact (hm t ht).2
                  · exact (hm t ht).1
                · exact ih x hx
            exact this w2 v hv
          rw [List.length_cons] at this
          omega
        refine .inl ?_
        have hxz : x ≠ z := (S.nbr_ne hzx).symm
        have hxr : x ∈ y :: r := (List.mem_cons.mp hxp).resolve_left hxz
        obtain ⟨t, ht, e⟩ := hzx.tie
        cases w with
        | snoc w ad hn =>
          refine ⟨t, ht, (Loose.ends e.symm).mpr ?_⟩
          have c1 := w.inside x hxr y List.mem_cons_self
          have c2 : Cn (wo K t) x y := c1.mono fun u hu => by
            rw [List.mem_filter, decide_eq_true_eq] at hu
            refine mem_wo.mpr ⟨hu.1, fun z' => ?_⟩
            subst z'
            rcases e with ⟨e1, _⟩ | ⟨_, e1⟩
            · rw [e1] at hu; exact hn hu.2.1
            · rw [e1] at hu; exact hn hu.2.2
          refine c2.trans ?_
          obtain ⟨u, hu, _, eu⟩ := ad
          refine Cn.one (Ends.adj (t := u) (mem_wo.mpr ⟨hu, fun z' => ?_⟩) eu)
          subst z'
          rcases e with ⟨e1, e2⟩ | ⟨e1, e2⟩ <;> rcases eu with ⟨f1, f2⟩ | ⟨f1, f2⟩
          · exact hn (by rw [← e1, f1]; exact List.mem_cons_self)
          · exact hxy (by rw [← e2, f2])
          · exact hxy (by rw [← e1, f1])
          · exact hn (by rw [← e2, f2]; exact List.mem_cons_self)
      · cases w with
        | snoc w ad hn =>
          refine .inr ⟨z, y, fun e => ?_, hc, ⟨_, ad.symm⟩, fun x hzx => Classical.byContradiction fun hxy => hx ⟨x, hzx, hxy⟩⟩
          subst e
          have := w.first
          exact hn (List.mem_of_getLast? this)
    | succ n ih =>
      intro z y r L w hc hl
      by_cases hx : ∃ x, nbr K z x ∧ x ≠ y
      · obtain ⟨x, hzx, hxy⟩ := hx
        by_cases hxp : x ∈ z :: y :: r
        · refine .inl ?_
          have hxz : x ≠ z := (S.nbr_ne hzx).symm
          have hxr : x ∈ y :: r := (List.mem_cons.mp hxp).resolve_left hxz
          obtain ⟨t, ht, e⟩ := hzx.tie
          cases w with
          | snoc w ad hn =>
            refine ⟨t, ht, (Loose.ends e.symm).mpr ?_⟩
            have c1 := w.inside x hxr y List.mem_cons_self
            have c2 : Cn (wo K t) x y := c1.mono fun u hu => by
              rw [List.mem_filter, decide_eq_true_eq] at hu
              refine mem_wo.mpr ⟨hu.1, fun z' => ?_⟩
              subst z'
              rcases e with ⟨e1, _⟩ | ⟨_, e1⟩
              · rw [e1] at hu; exact hn hu.2.1
              · rw [e1] at hu; exact hn hu.2.2
            refine c2.trans ?_
            obtain ⟨u, hu, _, eu⟩ := ad
            refine Cn.one (Ends.adj (t := u) (mem_wo.mpr ⟨hu, fun z' => ?_⟩) eu)
            subst z'
            rcases e with ⟨e1, e2⟩ | ⟨e1, e2⟩ <;> rcases eu with ⟨f1, f2⟩ | ⟨f1, f2⟩
            · exact hn (by rw [← e1, f1]; exact List.mem_cons_self)
            · exact hxy (by rw [← e2, f2])
            · exact hxy (by rw [← e1, f1])
            · exact hn (by rw [← e2, f2]; exact List.mem_cons_self)
        · have hza : z ≠ a := fun e => by
            subst e
            cases w with
            | snoc w ad hn => exact hn (List.mem_of_getLast? w.first)
          have hxa : x ≠ a := fun e => by
            subst e
            exact hxp (List.mem_of_getLast? w.first)
          obtain ⟨l, ad⟩ := hzx
          have w2 := Way.snoc w ad hxp
          obtain ⟨t, ht, rfl, e⟩ := ad
          refine ih x z (y :: r) _ w2 (hc.trans (Cn.one (Ends.adj (t := t) (mem_woP.mpr ⟨ht, ?_⟩) e))) (by rw [List.length_cons]; omega)
          rcases e with ⟨rfl, rfl⟩ | ⟨rfl, rfl⟩
          · exact ⟨hza, hxa⟩
          · exact ⟨hxa, hza⟩
      · cases w with
        | snoc w ad hn =>
          refine .inr ⟨z, y, fun e => ?_, hc, ⟨_, ad.symm⟩, fun x hzx => Classical.byContradiction fun hxy => hx ⟨x, hzx, hxy⟩⟩
          subst e
          have := w.first
          exact hn (List.mem_of_getLast? this)
  obtain ⟨l, ad⟩ := hab
  have w := Way.snoc (Way.nil (ties := K) (one := a)) ad (by rw [List.mem_singleton]; exact fun e => S.adj_ne ad e.symm)
  exact key names.length b a [] _ w (Cn.refl _ _) (by omega)
/-- each place of ties has two neighbours at least -/
def Two (K : List Tie) : Prop := ∀ x y, nbr K x y → ∃ w, nbr K x w ∧ w ≠ y
theorem two_loose {K : List Tie} (S : Smp K) {names : List Nm} (hm : ∀ t ∈ K, t.1 ∈ names ∧ t.2.1 ∈ names) (h2 : Two K) (hne : K ≠ []) : ∃ t ∈ K, Loose K t := by
  obtain ⟨t, ht⟩ := List.exists_mem_of_ne_nil K hne
  rcases leaf_or_loose S hm (nbr.of ht (.inl ⟨rfl, rfl⟩)) with h | ⟨z, y, _, _, hy, h⟩
  · exact h
  · obtain ⟨w, hw, hwy⟩ := h2 z y hy
    exact absurd (h w hw) hwy
/-- where no tie is loose, ties are fewer than places -/
theorem forest_count : ∀ (n : Nat) (K : List Tie) (V : List Nm), K.length = n → K.Nodup → Smp K → V.Nodup → V ≠ [] → (∀ t ∈ K, t.1 ∈ V ∧ t.2.1 ∈ V) → (∀ t ∈ K, ¬ Loose K t) → K.length + 1 ≤ V.length := by
  intro n
  induction n using Nat.strongRecOn with
  | ind n ih =>
    intro K V hl hk S hV hV0 hm hL
    match K, hl, hk, S, hm, hL with
    | [], _, _, _, _, _ =>
      have := List.length_pos_iff.mpr hV0
      simp; omega
    | t :: K, hl, hk, S, hm, hL =>
      rcases leaf_or_loose S hm (nbr.of List.mem_cons_self (.inl ⟨rfl, rfl⟩)) with ⟨u, hu, h⟩ | ⟨z, y, hza, _, hzy, h⟩
      · exact absurd h (hL u hu)
      · generalize hK : t :: K = J at *
        have hzV : z ∈ V := by
          obtain ⟨t, ht, ⟨rfl, _⟩ | ⟨_, rfl⟩⟩ := hzy.tie
          · exact (hm t ht).1
          · exact (hm t ht).2
        have hyV : y ∈ V := by
          obtain ⟨t, ht, ⟨_, rfl⟩ | ⟨rfl, _⟩⟩ := hzy.tie
          · exact (hm t ht).2
          · exact (hm t ht).1
        obtain ⟨u, hu, eu⟩ := hzy.tie
        have e : wo J u = woP J z := by
          unfold wo woP
          apply List.filter_congr
          intro v hv
          have : v ≠ u ↔ (v.1 ≠ z ∧ v.2.1 ≠ z) := by
            constructor
            · intro hne
              constructor
              · intro e1
                have : Ends v z v.2.1 := .inl ⟨e1, rfl⟩
                have e2 := h _ (nbr.of hv this)
                rw [e2] at this
                exact hne (S.ends_un hv hu this eu)
              · intro e1
                have : Ends v z v.1 := .inr ⟨rfl, e1⟩
                have e2 := h _ (nbr.of hv this)
                rw [e2] at this
                exact hne (S.ends_un hv hu this eu)
            · rintro ⟨h1, h2⟩ rfl
              rcases eu with ⟨e1, _⟩ | ⟨_, e1⟩
              · exact h1 e1
              · exact h2 e1
          rw [decide_eq_decide.mpr this]
        have hlen := wo_len hk hu
        have hyz : y ≠ z := (S.nbr_ne hzy).symm
        have := ih (wo J u).length (by omega) (wo J u) (V.erase z) rfl (hk.sublist List.filter_sublist) (S.sub wo_sub) (hV.erase z) (by
            intro e
            have : y ∈ V.erase z := hV.mem_erase_iff.mpr ⟨hyz, hyV⟩
            rw [e] at this
            cases this) (fun v hv => by
            have h1 := hm v (wo_sub v hv)
            rw [e, mem_woP] at hv
            exact ⟨hV.mem_erase_iff.mpr ⟨hv.2.1, h1.1⟩, hV.mem_erase_iff.mpr ⟨hv.2.2, h1.2⟩⟩) fun v hv hlo => hL v (wo_sub v hv) (hlo.mono wo_sub)
        rw [List.length_erase_of_mem hzV] at this
        have := List.length_pos_of_mem hzV
        omega
end Fw

namespace Fw
open L2
/-! ### a map: its ring -/
structure Mp (names : List Nm) (ties : List Tie) : Prop where
  T : TiesOk names ties
  tied : Tied names ties
  nd : names.Nodup
  few : ties.length ≤ names.length
section
variable {names : List Nm} {ties : List Tie}
/-- where a loose tie ends there is another one -/
theorem loose_two (S : Smp ties) {t : Tie} (ht : t ∈ ties) (hl : Loose ties t) {x y : Nm} (e : Ends t x y) : ∃ w u, u ∈ ties ∧ Loose ties u ∧ Ends u x w ∧ w ≠ y := by
  have c := ((Loose.ends e).mp hl).symm
  have hxy : x ≠ y := S.ne ht e
  obtain ⟨L, w⟩ := c
  -- a way from y to x without t
  have key : ∀ {b : Nm} {L : Int}, WalkS (wo ties t) y b L → ∃ r M, Way (wo ties t) y (b :: r) M := by
    intro b L h
    induction h with
    | nil => exact ⟨_, _, .nil⟩
    | @snoc a b L l _ ad ih =>
      obtain ⟨r, M, w⟩ := ih
      by_cases hb : b ∈ a :: r
      · have : ∀ {p : List Nm} {M : Int}, Way (wo ties t) y p M → b ∈ p → ∃ r M, Way (wo ties t) y (b :: r) M := by
          intro p M h
          induction h with
          | nil => intro hb; rw [List.mem_singleton] at hb; subst hb; exact ⟨_, _, .nil⟩
          | snoc w ad hn ih =>
            intro hb
            rcases List.mem_cons.mp hb with e | hb
            · subst e; exact ⟨_, _, .snoc w ad hn⟩
            · exact ih hb
        exact this w hb
      · exact ⟨_, _, .snoc w ad hb⟩
  obtain ⟨r, M, v⟩ := key w
  cases v with
  | nil => exact absurd rfl hxy
  | @snoc a _ r L l v ad hn =>
    obtain ⟨u, hu, _, eu⟩ := ad
    have hu' := mem_wo.mp hu
    have hay : a ≠ y := fun e1 => by
      subst e1
      exact hu'.2 (S.ends_un hu'.1 ht eu.symm e)
    refine ⟨a, u, hu'.1, ?_, eu.symm, hay⟩
    refine (Loose.ends eu).mpr ?_
    have c1 := v.inside a List.mem_cons_self y (List.mem_of_getLast? v.first)
    have c2 : Cn (wo ties u) a y := c1.mono fun z hz => by
      rw [List.mem_filter, decide_eq_true_eq] at hz
      refine mem_wo.mpr ⟨wo_sub z hz.1, fun e2 => ?_⟩
      subst e2
      rcases eu with ⟨_, e3⟩ | ⟨e3, _⟩
      · rw [e3] at hz; exact hn hz.2.2
      · rw [e3] at hz; exact hn hz.2.1
    exact c2.trans (Cn.one (Ends.adj (t := t) (mem_wo.mpr ⟨ht, fun e2 => hu'.2 e2.symm⟩) e.symm))
theorem Two.ends {K : List Tie} (S : Smp K) (h2 : Two K) {t0 : Tie} {z y : Nm} (hy : ∀ w, nbr (wo K t0) z w → w = y) (hzy : nbr K z y) (ht0 : t0 ∈ K) : ∃ w, Ends t0 z w := by
  obtain ⟨w, hw, hwy⟩ := h2 z y hzy
  obtain ⟨u, hu, eu⟩ := hw.tie
  by_cases e : u = t0
  · subst e; exact ⟨w, eu⟩
  · exact absurd (hy w (nbr.of (mem_wo.mpr ⟨hu, e⟩) eu)) hwy
theorem Mp.tree (M : Mp names ties) {t : Tie} (ht : t ∈ ties) (hl : Loose ties t) : ∀ u ∈ wo ties t, ¬ Loose (wo ties t) u := by
  intro u hu
  refine tree_tight M.nd (hl.tied M.tied) ?_ hu
  have := wo_lt ht
  have := M.few
  omega
/-- what is left of a map, each place with two neighbours at least, is loose -/
theorem Mp.core_loose (M : Mp names ties) {K : List Tie} (hs : ∀ t ∈ K, t ∈ ties) (h2 : Two K) : ∀ t ∈ K, Loose ties t := by
  intro t ht
  have S := M.T.smp
  have SK := S.sub hs
  have hm : ∀ t ∈ K, t.1 ∈ names ∧ t.2.1 ∈ names := fun t ht => M.T.mem t (hs t ht)
  obtain ⟨t0, ht0, hl0⟩ := two_loose SK hm h2 (List.ne_nil_of_mem ht)
  have hl0' : Loose ties t0 := hl0.mono hs
  by_cases he : t = t0
  · subst he; exact hl0'
  have tight := M.tree (hs t0 ht0) hl0'
  have hs0 : ∀ u ∈ wo K t0, u ∈ wo ties t0 := fun u hu => mem_wo.mpr ⟨hs u (mem_wo.mp hu).1, (mem_wo.mp hu).2⟩
  have nl : ¬ ∃ u ∈ wo K t0, Loose (wo K t0) u := fun ⟨u, hu, h⟩ => tight u (hs0 u hu) (h.mono hs0)
  have htw : t ∈ wo K t0 := mem_wo.mpr ⟨ht, he⟩
  have e1 : Ends t t.1 t.2.1 := .inl ⟨rfl, rfl⟩
  obtain ⟨z, y, hz, c, hzy, hy⟩ := (leaf_or_loose (SK.sub wo_sub) (fun u hu => hm u (wo_sub u hu)) (nbr.of htw e1)).resolve_left nl
  obtain ⟨z', y', hz', c', hzy', hy'⟩ := (leaf_or_loose (SK.sub wo_sub) (fun u hu => hm u (wo_sub u hu)) (nbr.of htw e1.symm)).resolve_left nl
  obtain ⟨w, ew⟩ := h2.ends SK hy (hzy.mono wo_sub) ht0
  obtain ⟨w', ew'⟩ := h2.ends SK hy' (hzy'.mono wo_sub) ht0
  have c1 : Cn (wo (wo K t0) t) t.2.1 z := c.mono (woP_wo e1)
  have c2 : Cn (wo (wo K t0) t) t.1 z' := c'.mono (woP_wo e1.symm)
  by_cases hzz : z = z'
  · subst hzz
    exact absurd ⟨t, htw, c2.trans c1.symm⟩ nl
  · have ezz : Ends t0 z' z := by
      rcases ew with ⟨a1, a2⟩ | ⟨a1, a2⟩ <;> rcases ew' with ⟨b1, b2⟩ | ⟨b1, b2⟩
      · exact absurd (a1.symm.trans b1) hzz
      · exact .inr ⟨a1, b2⟩
      · exact .inl ⟨b1, a2⟩
      · exact absurd (a2.symm.trans b2) hzz
    have up : ∀ u ∈ wo (wo K t0) t, u ∈ wo ties t := fun u hu => mem_wo.mpr ⟨hs u (wo_sub u (wo_sub u hu)), (mem_wo.mp hu).2⟩
    exact (c2.mono up).trans ((Cn.one (Ends.adj (t := t0) (mem_wo.mpr ⟨hs t0 ht0, fun e => he e.symm⟩) ezz)).trans (c1.mono up).symm)
/-- .. and each of its places has just two -/
theorem Mp.core_two (M : Mp names ties) {K : List Tie} (hs : ∀ t ∈ K, t ∈ ties) (h2 : Two K) {x y1 y2 y3 : Nm} (n1 : nbr K x y1) (n2 : nbr K x y2) (n3 : nbr K x y3) (h12 : y1 ≠ y2) (h13 : y1 ≠ y3) : y2 = y3 := by
  apply Classical.byContradiction
  intro h23
  have S := M.T.smp
  have SK := S.sub hs
  have hm : ∀ t ∈ K, t.1 ∈ names ∧ t.2.1 ∈ names := fun t ht => M.T.mem t (hs t ht)
  obtain ⟨t1, ht1, e1⟩ := n1.tie
  obtain ⟨t2, ht2, e2⟩ := n2.tie
  obtain ⟨t3, ht3, e3⟩ := n3.tie
  have un : ∀ {t u : Tie} {a b c : Nm}, t ∈ K → u ∈ K → Ends t a b → Ends u a c → b ≠ c → t ≠ u := by
    intro t u a b c ht hu e k hbc z
    subst z
    have hab := SK.ne ht e
    rcases e with ⟨p1, p2⟩ | ⟨p1, p2⟩ <;> rcases k with ⟨q1, q2⟩ | ⟨q1, q2⟩
    · exact hbc (p2.symm.trans q2)
    · exact hab (p1.symm.trans (q1.trans (by rw [← q1, p1, ← q2, p2])))
    · exact hab (p2.symm.trans (q2.trans (by rw [← q2, p2, ← q1, p1])))
    · exact hbc (p1.symm.trans q1)
  have tight := M.tree (hs t1 ht1) (M.core_loose hs h2 t1 ht1)
  have hs0 : ∀ u ∈ wo K t1, u ∈ wo ties t1 := fun u hu => mem_wo.mpr ⟨hs u (mem_wo.mp hu).1, (mem_wo.mp hu).2⟩
  have nl : ¬ ∃ u ∈ wo K t1, Loose (wo K t1) u := fun ⟨u, hu, h⟩ => tight u (hs0 u hu) (h.mono hs0)
  have m2 : t2 ∈ wo K t1 := mem_wo.mpr ⟨ht2, (un ht1 ht2 e1 e2 h12).symm⟩
  have m3 : t3 ∈ wo K t1 := mem_wo.mpr ⟨ht3, (un ht1 ht3 e1 e3 h13).symm⟩
  have to1 : ∀ {t : Tie} {y : Nm}, t ∈ wo K t1 → Ends t x y → Cn (woP (wo K t1) x) y y1 := by
    intro t y ht e
    obtain ⟨z, y', hz, c, hzy, hy⟩ := (leaf_or_loose (SK.sub wo_sub) (fun u hu => hm u (wo_sub u hu)) (nbr.of ht e)).resolve_left nl
    obtain ⟨w, ew⟩ := h2.ends SK hy (hzy.mono wo_sub) ht1
    have : z = y1 := by
      rcases e1 with ⟨p1, p2⟩ | ⟨p1, p2⟩ <;> rcases ew with ⟨q1, q2⟩ | ⟨q1, q2⟩
      · exact absurd (q1.symm.trans p1) hz
      · exact q2.symm.trans p2
      · exact q1.symm.trans p1
      · exact absurd (q2.symm.trans p2) hz
    subst this
    exact c
  have c := ((to1 m2 e2).trans (to1 m3 e3).symm).mono (woP_wo e2)
  have c3 : Cn (wo (wo K t1) t2) x y3 := Cn.one (Ends.adj (t := t3) (mem_wo.mpr ⟨m3, (un ht2 ht3 e2 e3 h23).symm⟩) e3)
  exact nl ⟨t2, m2, (Loose.ends e2).mpr (c3.trans c.symm)⟩
/-- the ring's ties, in their order -/
noncomputable def ringT (ties : List Tie) : List Tie := by
  classical
  exact ties.filter fun t => decide (Loose ties t)
theorem mem_ringT {t : Tie} : t ∈ ringT ties ↔ t ∈ ties ∧ Loose ties t := by
  classical
  unfold ringT
  rw [List.mem_filter, decide_eq_true_eq]
theorem ringT_sub : ∀ t ∈ ringT ties, t ∈ ties := fun t h => (mem_ringT.mp h).1
theorem ringT_two (S : Smp ties) : Two (ringT ties) := by
  intro x y h
  obtain ⟨t, ht, e⟩ := h.tie
  have := mem_ringT.mp ht
  obtain ⟨w, u, hu, hl, eu, hw⟩ := loose_two S this.1 this.2 e
  exact ⟨w, nbr.of (mem_ringT.mpr ⟨hu, hl⟩) eu, hw⟩
/-- some of a list, in its order -/
theorem sublist_filter {α : Type} [DecidableEq α] {l n : List α} (hl : l.Sublist n) : n.Nodup → l = n.filter fun a => decide (a ∈ l) := by
  induction hl with
  | slnil => intro _; rfl
  | @cons l n a hl ih =>
    intro hn
    rw [List.nodup_cons] at hn
    have ha : a ∉ l := fun z => hn.1 (hl.subset z)
    rw [List.filter_cons, if_neg (by rw [decide_eq_true_eq]; exact ha)]
    exact ih hn.2
  | @cons_cons l n a hl ih =>
    intro hn
    rw [List.nodup_cons] at hn
    rw [List.filter_cons, if_pos (by rw [decide_eq_true_eq]; exact List.mem_cons_self)]
    congr 1
    refine (ih hn.2).trans (List.filter_congr fun b hb => ?_)
    have hba : b ≠ a := fun z => hn.1 (z ▸ hb)
    simp [hba]
theorem sub_eq {α : Type} {l m n : List α} (hn : n.Nodup) (hl : l.Sublist n) (hm : m.Sublist n) (h : ∀ a, a ∈ l ↔ a ∈ m) : l = m := by
  classical
  rw [sublist_filter hl hn, sublist_filter hm hn]
  apply List.filter_congr
  intro a _
  rw [decide_eq_decide]
  exact h a
theorem ringT_sublist : (ringT ties).Sublist ties := by
  classical
  unfold ringT
  exact List.filter_sublist
end
end Fw

namespace Fw
open L2
/-! ### once round the ring -/
theorem Smp.nbrs_nodup {K : List Tie} (hk : K.Nodup) (S : Smp K) (a : Nm) : (nbrs K a).Nodup := by
  have dis : K.Pairwise fun t u => ¬ (t.1 = u.1 ∧ t.2.1 = u.2.1) := by
    rw [List.pairwise_iff_getElem]
    intro i j hi hj hij ⟨e1, e2⟩
    have := S.un _ (List.getElem_mem hi) _ (List.getElem_mem hj) e1 e2
    have := (List.getElem_inj hk).mp this
    omega
  unfold nbrs
  rw [List.nodup_append]
  refine ⟨?_, ?_, ?_⟩
  · unfold List.Nodup
    rw [List.pairwise_filterMap]
    refine dis.imp fun {t u} h b hb c hc e => ?_
    split at hb <;> split at hc <;> simp_all
  · unfold List.Nodup
    rw [List.pairwise_filterMap]
    refine dis.imp fun {t u} h b hb c hc e => ?_
    split at hb <;> split at hc <;> simp_all
  · intro b hb c hc e
    subst e
    rw [List.mem_filterMap] at hb hc
    obtain ⟨t, ht, h1⟩ := hb
    obtain ⟨u, hu, h2⟩ := hc
    split at h1 <;> split at h2 <;> (first | (cases h1; done) | (cases h2; done) | skip)
    rename_i e1 e2
    cases h1
    injection h2 with h2
    have l1 := S.lt t ht
    have l2 := S.lt u hu
    rw [e1] at l1
    rw [e2, h2] at l2
    exact ltS_irrefl _ (ltS_trans l1 l2)
theorem mem_nbr {K : List Tie} {a b : Nm} : b ∈ nbrs K a ↔ nbr K a b := mem_nbrs
/-- the other neighbour -/
def nx (K : List Tie) (x y : Nm) : Nm := ((nbrs K x).filter fun w => decide (w ≠ y)).headD ⟨#[]⟩
/-- ties that make rings: each place has just two neighbours -/
structure TwoOk (K : List Tie) : Prop where
  S : Smp K
  nd : K.Nodup
  two : Two K
  only : ∀ x y1 y2 y3, nbr K x y1 → nbr K x y2 → nbr K x y3 → y1 ≠ y2 → y1 ≠ y3 → y2 = y3
theorem Mp.twoOk {names : List Nm} {ties : List Tie} (M : Mp names ties) {K : List Tie} (hs : ∀ t ∈ K, t ∈ ties) (hk : K.Nodup) (h2 : Two K) : TwoOk K :=
  ⟨M.T.smp.sub hs, hk, h2, fun x y1 y2 y3 n1 n2 n3 h12 h13 => M.core_two hs h2 n1 n2 n3 h12 h13⟩
theorem Mp.ring_ok {names : List Nm} {ties : List Tie} (M : Mp names ties) : TwoOk (ringT ties) := M.twoOk ringT_sub (M.T.nodup.sublist ringT_sublist) (ringT_two M.T.smp)
section
variable {K : List Tie}
theorem TwoOk.nx_list (h : TwoOk K) {x y : Nm} (n : nbr K x y) {l : List Nm} (hl : l.Nodup) (hm : ∀ z, z ∈ l ↔ nbr K x z) : l.filter (fun w => decide (w ≠ y)) = [nx K x y] ∧ nbr K x (nx K x y) ∧ nx K x y ≠ y := by
  have key : ∀ {l : List Nm}, l.Nodup → (∀ z, z ∈ l ↔ nbr K x z) → ∃ w, l.filter (fun w => decide (w ≠ y)) = [w] ∧ nbr K x w ∧ w ≠ y := by
    intro l hl hm
    obtain ⟨w, hw, hwy⟩ := h.two x y n
    refine ⟨w, ?_, hw, hwy⟩
    have h1 : ∀ z ∈ l.filter (fun w => decide (w ≠ y)), z = w := fun z hz => by
      rw [List.mem_filter, decide_eq_true_eq, hm] at hz
      exact h.only x y z w n hz.1 hw hz.2.symm hwy.symm
    have h2 : w ∈ l.filter (fun w => decide (w ≠ y)) := by
      rw [List.mem_filter, decide_eq_true_eq, hm]
      exact ⟨hw, hwy⟩
    have h3 : (l.filter (fun w => decide (w ≠ y))).Nodup := hl.sublist List.filter_sublist
    generalize l.filter (fun w => decide (w ≠ y)) = m at h1 h2 h3
    match m, h1, h2, h3 with
    | [], _, h2, _ => cases h2
    | [z], h1, _, _ => rw [h1 z List.mem_cons_self]
    | z :: z' :: r, h1, _, h3 =>
      have e1 := h1 z List.mem_cons_self
      have e2 := h1 z' (List.mem_cons_of_mem _ List.mem_cons_self)
      rw [List.nodup_cons] at h3
      exact absurd (by rw [e1, e2]; exact List.mem_cons_self) h3.1
  obtain ⟨w, e, hw, hwy⟩ := key (h.S.nbrs_nodup h.nd x) (fun z => mem_nbr)
  have enx : nx K x y = w := by unfold nx; rw [e]; rfl
  obtain ⟨v, e2, hv, hvy⟩ := key hl hm
  have : v = w := h.only x y v w n hv hw hvy.symm hwy.symm
  rw [enx, e2, this]
  exact ⟨rfl, hw, hwy⟩
theorem TwoOk.nx_nbr (h : TwoOk K) {x y : Nm} (n : nbr K x y) : nbr K x (nx K x y) := (h.nx_list n (h.S.nbrs_nodup h.nd x) (fun z => mem_nbr)).2.1
theorem TwoOk.nx_ne (h : TwoOk K) {x y : Nm} (n : nbr K x y) : nx K x y ≠ y := (h.nx_list n (h.S.nbrs_nodup h.nd x) (fun z => mem_nbr)).2.2
theorem TwoOk.nx_all (h : TwoOk K) {x y : Nm} (n : nbr K x y) {z : Nm} (hz : nbr K x z) : z = y ∨ z = nx K x y := by
  by_cases e : z = y
  · exact .inl e
  · exact .inr (h.only x y z _ n hz (h.nx_nbr n) (fun e' => e e'.symm) (h.nx_ne n).symm)
theorem TwoOk.nbrs_len (h : TwoOk K) {x y : Nm} (n : nbr K x y) : (nbrs K x).length = 2 := by
  have p : (nbrs K x).Perm [y, nx K x y] := perm_of_mem (h.S.nbrs_nodup h.nd x) (by
    rw [List.nodup_cons, List.mem_singleton]
    exact ⟨(h.nx_ne n).symm, List.nodup_cons.mpr ⟨fun h => (nomatch h), List.nodup_nil⟩⟩) fun z => by
    rw [mem_nbr, List.mem_cons, List.mem_singleton]
    refine ⟨h.nx_all n, fun e => ?_⟩
    rcases e with rfl | rfl
    · exact n
    · exact h.nx_nbr n
  rw [p.length_eq]
  rfl
end
/-! as many places as ties -/
theorem sum_one {V : List Nm} (hV : V.Nodup) {a : Nm} (ha : a ∈ V) : (V.map fun x => if a = x then 1 else 0).sum = 1 := by
  induction V with
  | nil => cases ha
  | cons v V ih =>
    rw [List.nodup_cons] at hV
    rw [List.map_cons, List.sum_cons]
    by_cases e : a = v
    · subst e
      rw [if_pos rfl]
      have : (V.map fun x => if a = x then 1 else 0) = V.map fun _ => 0 := List.map_congr_left fun x hx => by
        rw [if_neg]
        rintro rfl
        exact hV.1 hx
      rw [this]
      have : ∀ V : List Nm, (V.map fun _ => 0).sum = 0 := fun V => by induction V with
        | nil => rfl
        | cons _ _ ih => rw [List.map_cons, List.sum_cons, ih]
      rw [this]
    · rw [if_neg e, ih hV.2 ((List.mem_cons.mp ha).resolve_left e)]
theorem sum_add {α : Type} (V : List α) (f g : α → Nat) : (V.map fun x => f x + g x).sum = (V.map f).sum + (V.map g).sum := by
  induction V with
  | nil => rfl
  | cons v V ih => rw [List.map_cons, List.map_cons, List.map_cons, List.sum_cons, List.sum_cons, List.sum_cons, ih]; omega
theorem sum_count {V : List Nm} (hV : V.Nodup) (g : Tie → Nm) : ∀ {K : List Tie}, (∀ t ∈ K, g t ∈ V) → (V.map fun x => K.countP fun t => decide (g t = x)).sum = K.length
  | [], _ => by
    have : ∀ V : List Nm, (V.map fun x => ([] : List Tie).countP fun t => decide (g t = x)).sum = 0 := fun V => by induction V with
      | nil => rfl
      | cons _ _ ih => rw [List.map_cons, List.sum_cons, ih]; rfl
    rw [this]
    rfl
  | t :: K, h => by
    have ih := sum_count hV g (K := K) fun u hu => h u (List.mem_cons_of_mem _ hu)
    have e : (V.map fun x => (t :: K).countP fun t => decide (g t = x)) = V.map fun x => (K.countP fun t => decide (g t = x)) + (if g t = x then 1 else 0) := List.map_congr_left fun x _ => by
      rw [List.countP_cons]
      simp
    rw [e, sum_add, ih, sum_one hV (h t List.mem_cons_self), List.length_cons]
theorem nbrs_count (K : List Tie) (x : Nm) : (nbrs K x).length = (K.countP fun t => decide (t.1 = x)) + (K.countP fun t => decide (t.2.1 = x)) := by
  unfold nbrs
  rw [List.length_append]
  congr 1
  · induction K with
    | nil => rfl
    | cons t K ih =>
      rw [List.filterMap_cons, List.countP_cons]
      by_cases e : t.1 = x
      · simp [e, ih]
      · simp [e, ih]
  · induction K with
    | nil => rfl
    | cons t K ih =>
      rw [List.filterMap_cons, List.countP_cons]
      by_cases e : t.2.1 = x
      · simp [e, ih]
      · simp [e, ih]
/-- the places of ties -/
def spots (names : List Nm) (K : List Tie) : List Nm := names.filter fun x => decide (nbrs K x ≠ [])
section
variable {names : List Nm} {K : List Tie}
theorem mem_spots (hm : ∀ t ∈ K, t.1 ∈ names ∧ t.2.1 ∈ names) {x : Nm} : x ∈ spots names K ↔ ∃ y, nbr K x y := by
  unfold spots
  rw [List.mem_filter, decide_eq_true_eq]
  constructor
  · rintro ⟨_, h⟩
    obtain ⟨y, hy⟩ := List.exists_mem_of_ne_nil _ h
    exact ⟨y, mem_nbr.mp hy⟩
  · rintro ⟨y, hy⟩
    refine ⟨?_, List.ne_nil_of_mem (mem_nbr.mpr hy)⟩
    obtain ⟨t, ht, ⟨rfl, _⟩ | ⟨_, rfl⟩⟩ := hy.tie
    · exact (hm t ht).1
    · exact (hm t ht).2
theorem spots_len (hn : names.Nodup) (hm : ∀ t ∈ K, t.1 ∈ names ∧ t.2.1 ∈ names) (h : TwoOk K) : (spots names K).length = K.length := by
  have hV : (spots names K).Nodup := hn.sublist List.filter_sublist
  have m1 : ∀ t ∈ K, t.1 ∈ spots names K := fun t ht => (mem_spots hm).mpr ⟨t.2.1, nbr.of ht (.inl ⟨rfl, rfl⟩)⟩
  have m2 : ∀ t ∈ K, t.2.1 ∈ spots names K := fun t ht => (mem_spots hm).mpr ⟨t.1, nbr.of ht (.inr ⟨rfl, rfl⟩)⟩
  have e1 : ((spots names K).map fun x => (nbrs K x).length).sum = 2 * K.length := by
    have : ((spots names K).map fun x => (nbrs K x).length) = (spots names K).map fun x => (K.countP fun t => decide (t.1 = x)) + (K.countP fun t => decide (t.2.1 = x)) := List.map_congr_left fun x _ => nbrs_count K x
    rw [this, sum_add, sum_count hV (fun t => t.1) m1, sum_count hV (fun t => t.2.1) m2]
    omega
  have e2 : ((spots names K).map fun x => (nbrs K x).length).sum = 2 * (spots names K).length := by
    have : ((spots names K).map fun x => (nbrs K x).length) = (spots names K).map fun x => 2 := List.map_congr_left fun x hx => by
      obtain ⟨y, hy⟩ := (mem_spots hm).mp hx
      exact h.nbrs_len hy
    rw [this]
    have : ∀ V : List Nm, (V.map fun _ => 2).sum = 2 * V.length := fun V => by induction V with
      | nil => rfl
      | cons _ _ ih => rw [List.map_cons, List.sum_cons, ih, List.length_cons]; omega
    rw [this]
  omega
end
/-- step by step -/
def rg (K : List Tie) (a b : Nm) : Nat → Nm × Nm
  | 0 => (a, b)
  | i + 1 => ((rg K a b i).2, nx K (rg K a b i).2 (rg K a b i).1)
def rgf (K : List Tie) (a b : Nm) (i : Nat) : Nm := (rg K a b i).1
theorem rgf_0 (K : List Tie) (a b : Nm) : rgf K a b 0 = a := rfl
theorem rgf_1 (K : List Tie) (a b : Nm) : rgf K a b 1 = b := rfl
theorem rgf_2 (K : List Tie) (a b : Nm) (i : Nat) : rgf K a b (i + 2) = nx K (rgf K a b (i + 1)) (rgf K a b i) := rfl
section
variable {names : List Nm} {ties K : List Tie} {a b : Nm}
theorem TwoOk.step (h : TwoOk K) (hab : nbr K a b) : ∀ i, nbr K (rgf K a b i) (rgf K a b (i + 1))
  | 0 => hab
  | i + 1 => by
    have ih := h.step hab i
    rw [rgf_2]
    exact h.nx_nbr ih.symm
theorem TwoOk.back (h : TwoOk K) (hab : nbr K a b) (i : Nat) : rgf K a b (i + 2) ≠ rgf K a b i := by
  rw [rgf_2]
  exact h.nx_ne (h.step hab i).symm
theorem TwoOk.both (h : TwoOk K) (hab : nbr K a b) (i : Nat) {z : Nm} (hz : nbr K (rgf K a b (i + 1)) z) : z = rgf K a b i ∨ z = rgf K a b (i + 2) := by
  rw [rgf_2]
  exact h.nx_all (h.step hab i).symm hz
/-- where the first place comes back it is the first one that does -/
theorem TwoOk.meet (h : TwoOk K) (hab : nbr K a b) {j : Nat} (ih : ∀ j' ≤ j, ∀ i < j', rgf K a b i ≠ rgf K a b j') {i : Nat} (hi : i < j + 1) (e : rgf K a b i = rgf K a b (j + 1)) : i = 0 ∧ 2 ≤ j := by
  have h1 : i ≠ j := fun z => by
    subst z
    exact h.S.nbr_ne (h.step hab i) e
  have h2 : i + 1 ≠ j := fun z => by
    subst z
    exact h.back hab i e.symm
  refine ⟨?_, by omega⟩
  match i, hi, e, h1, h2 with
  | 0, _, _, _, _ => rfl
  | i + 1, hi, e, h1, h2 =>
    have n := (h.step hab j).symm
    rw [← e] at n
    rcases h.both hab i n with e2 | e2
    · exact absurd e2.symm (ih j (Nat.le_refl _) i (by omega))
    · exact absurd e2.symm (ih j (Nat.le_refl _) (i + 2) (by omega))
theorem Mp.ring_inj (M : Mp names ties) (hs : ∀ t ∈ K, t ∈ ties) (h : TwoOk K) (hab : nbr K a b) : ∀ j < K.length, ∀ i < j, rgf K a b i ≠ rgf K a b j := by
  intro j
  induction j using Nat.strongRecOn with
  | ind j ih =>
    intro hj i hi e
    match j, ih, hj, hi, e with
    | j + 1, ih, hj, hi, e =>
      have ih' : ∀ j' ≤ j, ∀ i < j', rgf K a b i ≠ rgf K a b j' := fun j' hj' i hi => ih j' (by omega) (by omega) i hi
      obtain ⟨rfl, hj2⟩ := h.meet hab ih' hi e
      -- closed early
      have hm : ∀ t ∈ K, t.1 ∈ names ∧ t.2.1 ∈ names := fun t ht => M.T.mem t (hs t ht)
      generalize hS : (List.range (j + 1)).map (rgf K a b) = S
      have mS : ∀ x, x ∈ S ↔ ∃ i, i < j + 1 ∧ rgf K a b i = x := fun x => by
        rw [← hS, List.mem_map]
        exact ⟨fun ⟨i, h1, h2⟩ => ⟨i, List.mem_range.mp h1, h2⟩, fun ⟨i, h1, h2⟩ => ⟨i, List.mem_range.mpr h1, h2⟩⟩
      have cl : ∀ x ∈ S, ∀ y, nbr K x y → y ∈ S := by
        intro x hx y hxy
        obtain ⟨i, hi, rfl⟩ := (mS x).mp hx
        match i, hi, hxy with
        | 0, _, hxy =>
          have n := (h.step hab j).symm
          rw [← e] at n
          have hne : rgf K a b 1 ≠ rgf K a b j := ih' j (Nat.le_refl _) 1 (by omega)
          by_cases e1 : y = rgf K a b 1
          · subst e1; exact (mS _).mpr ⟨1, by omega, rfl⟩
          · have := h.only _ _ _ _ (h.step hab 0) hxy n (fun z => e1 z.symm) hne
            rw [this]
            exact (mS _).mpr ⟨j, by omega, rfl⟩
        | i + 1, hi, hxy =>
          rcases h.both hab i hxy with e1 | e1
          · rw [e1]; exact (mS _).mpr ⟨i, by omega, rfl⟩
          · by_cases hij : i + 2 = j + 1
            · rw [e1, hij, ← e]; exact (mS _).mpr ⟨0, by omega, rfl⟩
            · rw [e1]; exact (mS _).mpr ⟨i + 2, by omega, rfl⟩
      have hv : ∃ v ∈ spots names K, v ∉ S := by
        apply Classical.byContradiction
        intro hno
        have := nodup_le (p := spots names K) (q := S) (M.nd.sublist List.filter_sublist) fun v hv => Classical.byContradiction fun hvS => hno ⟨v, hv, hvS⟩
        rw [spots_len M.nd hm h, ← hS, List.length_map, List.length_range] at this
        omega
      obtain ⟨v, hv, hvS⟩ := hv
      obtain ⟨w, hvw⟩ := (mem_spots hm).mp hv
      have sub : ∀ t ∈ K.filter (fun t => decide (t.1 ∉ S)), t ∈ K := fun t ht => (List.mem_filter.mp ht).1
      have keep : ∀ {t : Tie} {x y : Nm}, t ∈ K → Ends t x y → x ∉ S → t ∈ K.filter (fun t => decide (t.1 ∉ S)) := by
        intro t x y ht et hx
        rw [List.mem_filter, decide_eq_true_eq]
        refine ⟨ht, fun z => ?_⟩
        rcases et with ⟨rfl, rfl⟩ | ⟨rfl, rfl⟩
        · exact hx z
        · exact hx (cl _ z _ (nbr.of ht (.inl ⟨rfl, rfl⟩)))
      have K2 : Two (K.filter (fun t => decide (t.1 ∉ S))) := by
        intro x y hxy
        obtain ⟨w, hw, hwy⟩ := h.two x y (hxy.mono sub)
        have hx : x ∉ S := by
          obtain ⟨t, ht, et⟩ := hxy.tie
          rw [List.mem_filter, decide_eq_true_eq] at ht
          rcases et with ⟨rfl, rfl⟩ | ⟨rfl, rfl⟩
          · exact ht.2
          · exact fun z => ht.2 (cl _ z _ (nbr.of ht.1 (.inr ⟨rfl, rfl⟩)))
        obtain ⟨u, hu, eu⟩ := hw.tie
        exact ⟨w, nbr.of (keep hu eu hx) eu, hwy⟩
      obtain ⟨t, ht, et⟩ := hvw.tie
      obtain ⟨t2, ht2, hl2⟩ := two_loose (h.S.sub sub) (fun t ht => hm t (sub t ht)) K2 (List.ne_nil_of_mem (keep ht et hvS))
      obtain ⟨t1, ht1, et1⟩ := hab.tie
      have hl1 := M.core_loose hs h.two t1 ht1
      have hs1 : ∀ u ∈ K.filter (fun t => decide (t.1 ∉ S)), u ∈ wo ties t1 := fun u hu => mem_wo.mpr ⟨hs u (sub u hu), fun z => by
        subst z
        rw [List.mem_filter, decide_eq_true_eq] at hu
        have ha : a ∈ S := (mS a).mpr ⟨0, by omega, rfl⟩
        rcases et1 with ⟨e1, _⟩ | ⟨e1, _⟩
        · exact hu.2 (e1 ▸ ha)
        · exact hu.2 (e1 ▸ cl a ha b hab)⟩
      exact M.tree (hs t1 ht1) hl1 t2 (hs1 t2 ht2) (hl2.mono hs1)
/-- the ring, place by place -/
structure RingOk (names : List Nm) (K : List Tie) (f : Nat → Nm) : Prop where
  three : 3 ≤ K.length
  inj : ∀ j < K.length, ∀ i < j, f i ≠ f j
  close : f K.length = f 0
  step : ∀ i, nbr K (f i) (f (i + 1))
  only : ∀ i z, nbr K (f (i + 1)) z → z = f i ∨ z = f (i + 2)
  all : ∀ x y, nbr K x y → ∃ i < K.length, f i = x
theorem Mp.ring_walk (M : Mp names ties) (hs : ∀ t ∈ K, t ∈ ties) (h : TwoOk K) (hab : nbr K a b) : RingOk names K (rgf K a b) := by
  have hm : ∀ t ∈ K, t.1 ∈ names ∧ t.2.1 ∈ names := fun t ht => M.T.mem t (hs t ht)
  have inj := M.ring_inj hs h hab
  have vn : (spots names K).Nodup := M.nd.sublist List.filter_sublist
  have vl := spots_len M.nd hm h
  have vm : ∀ i, rgf K a b i ∈ spots names K := fun i => (mem_spots hm).mpr ⟨_, h.step hab i⟩
  have h3 : 3 ≤ K.length := by
    rw [← vl]
    have := nodup_le (p := [rgf K a b 0, rgf K a b 1, rgf K a b 2]) (q := spots names K) (by
      rw [List.nodup_cons, List.mem_cons, List.mem_singleton, List.nodup_cons, List.mem_singleton]
      refine ⟨fun z => ?_, fun z => ?_, List.nodup_cons.mpr ⟨fun z => (nomatch z), List.nodup_nil⟩⟩
      · rcases z with z | z
        · exact h.S.nbr_ne (h.step hab 0) z
        · exact h.back hab 0 z.symm
      · exact h.S.nbr_ne (h.step hab 1) z) fun x hx => by
      rcases List.mem_cons.mp hx with rfl | hx
      · exact vm 0
      rcases List.mem_cons.mp hx with rfl | hx
      · exact vm 1
      rw [List.mem_singleton] at hx
      subst hx
      exact vm 2
    exact this
  have nd : ((List.range K.length).map (rgf K a b)).Nodup := by
    unfold List.Nodup
    rw [List.pairwise_map]
    have hr : (List.range K.length).Pairwise (· < ·) := List.pairwise_lt_range
    refine hr.imp_of_mem fun {i j} hi hj hij => ?_
    exact inj j (List.mem_range.mp hj) i hij
  have all : ∀ x ∈ spots names K, ∃ i < K.length, rgf K a b i = x := by
    intro x hx
    apply Classical.byContradiction
    intro hno
    have := nodup_le (p := x :: (List.range K.length).map (rgf K a b)) (q := spots names K) (List.nodup_cons.mpr ⟨fun z => by
      obtain ⟨i, hi, e⟩ := List.mem_map.mp z
      exact hno ⟨i, List.mem_range.mp hi, e⟩, nd⟩) fun y hy => by
      rcases List.mem_cons.mp hy with rfl | hy
      · exact hx
      · obtain ⟨i, _, rfl⟩ := List.mem_map.mp hy
        exact vm i
    rw [List.length_cons, List.length_map, List.length_range, vl] at this
    omega
  refine ⟨h3, inj, ?_, h.step hab, fun i z hz => h.both hab i hz, fun x y hxy => all x ((mem_spots hm).mpr ⟨y, hxy⟩)⟩
  obtain ⟨i, hi, e⟩ := all _ (vm K.length)
  obtain ⟨j, hj⟩ : ∃ j, K.length = j + 1 := ⟨K.length - 1, by omega⟩
  rw [hj] at e hi ⊢
  have := h.meet hab (j := j) (fun j' hj' i hi => inj j' (by omega) i hi) hi e
  rw [this.1] at e
  exact e.symm
end
end Fw

namespace Fw
open L2
/-! ### how many ways there are; ways turned about -/
theorem MapOk.mp {names : List Nm} {ties : List Tie} (h : MapOk names ties) : Mp names ties := by
  refine ⟨h.ties, h.tied, h.nms.nodup, ?_⟩
  obtain ⟨order, around, par, lens, hp, ek, hl, rfl⟩ := h.made
  have hpos := h.pos
  rw [List.length_mergeSort, List.length_map, List.length_zipIdx]
  unfold endsF
  rw [List.length_append, List.length_map, List.length_range']
  split <;> simp only [List.length_nil, List.length_cons] <;> omega
/-- at most one ring -/
def Tame (K : List Tie) : Prop := ∀ t ∈ K, Loose K t → ∀ u ∈ wo K t, ¬ Loose (wo K t) u
theorem Mp.tame {names : List Nm} {ties : List Tie} (M : Mp names ties) : Tame ties := fun _ ht hl u hu => M.tree ht hl u hu
theorem wo_mono {K K' : List Tie} (s : ∀ t ∈ K', t ∈ K) {t : Tie} : ∀ u ∈ wo K' t, u ∈ wo K t := fun u hu => mem_wo.mpr ⟨s u (mem_wo.mp hu).1, (mem_wo.mp hu).2⟩
theorem Tame.sub {K K' : List Tie} (h : Tame K) (s : ∀ t ∈ K', t ∈ K) : Tame K' := fun t ht hl u hu k =>
  h t (s t ht) (hl.mono s) u (wo_mono s u hu) (k.mono (wo_mono s))
theorem Way.strip {K : List Tie} {a b : Nm} {p : List Nm} {L : Int} (h : Way K a p L) (hb : b ∉ p) : Way (woP K b) a p L := by
  induction h with
  | nil => exact .nil
  | @snoc x y r L l w ad hn ih =>
    have hx : b ∉ x :: r := fun z => hb (List.mem_cons_of_mem _ z)
    refine .snoc (ih hx) ?_ hn
    obtain ⟨t, ht, e, h⟩ := ad
    refine ⟨t, mem_woP.mpr ⟨ht, ?_⟩, e, h⟩
    have h1 : x ≠ b := fun z => hb (by rw [z]; exact List.mem_cons_of_mem _ List.mem_cons_self)
    have h2 : y ≠ b := fun z => hb (by rw [z]; exact List.mem_cons_self)
    rcases h with ⟨rfl, rfl⟩ | ⟨rfl, rfl⟩
    · exact ⟨h1, h2⟩
    · exact ⟨h2, h1⟩
theorem Way.back {K : List Tie} {a b : Nm} {r : List Nm} {L : Int} (h : Way K a (b :: r) L) : (b = a ∧ r = []) ∨ (b ≠ a ∧ ∃ x q M l, r = x :: q ∧ Way (woP K b) a (x :: q) M ∧ Adj K x b l ∧ b ∉ x :: q) := by
  cases h with
  | nil => exact .inl ⟨rfl, rfl⟩
  | @snoc x _ q L l w ad hn =>
    refine .inr ⟨fun e => ?_, x, q, L, l, rfl, w.strip hn, ad, hn⟩
    have := w.first
    subst e
    exact hn (List.mem_of_getLast? this)
theorem Way.cn {K : List Tie} {a b : Nm} {r : List Nm} {L : Int} (h : Way K a (b :: r) L) : Cn K a b := by
  obtain ⟨c, s, e, w⟩ := h.walk
  cases e
  exact ⟨L, w⟩
/-- two that end at b by different ties: both are loose -/
theorem two_ends {K : List Tie} (S : Smp K) {b x y : Nm} (hxy : x ≠ y) (c : Cn (woP K b) x y) {l m : Int} (ax : Adj K x b l) (ay : Adj K y b m) : ∃ t ∈ K, Ends t x b ∧ Loose K t := by
  obtain ⟨t, ht, _, et⟩ := ax
  obtain ⟨u, hu, _, eu⟩ := ay
  refine ⟨t, ht, et, (Loose.ends et).mpr ?_⟩
  refine (c.mono (woP_wo (Ends.symm et))).trans (Cn.one (Ends.adj (t := u) (mem_wo.mpr ⟨hu, fun z => ?_⟩) eu))
  subst z
  have hb : x ≠ b := S.ne ht et
  have hb2 : y ≠ b := S.ne hu eu
  rcases et with ⟨e1, e2⟩ | ⟨e1, e2⟩ <;> rcases eu with ⟨f1, f2⟩ | ⟨f1, f2⟩
  · exact hxy (e1.symm.trans f1)
  · exact hb (e1.symm.trans f1)
  · exact hb2 (f1.symm.trans e1)
  · exact hxy (e2.symm.trans f2)
theorem two_ways : ∀ (n : Nat) {K : List Tie} (S : Smp K) {a b : Nm} {p q : List Nm} {L M : Int}, p.length ≤ n → Way K a (b :: p) L → Way K a (b :: q) M → p ≠ q → ∃ t ∈ K, Loose K t := by
  intro n
  induction n with
  | zero =>
    intro K S a b p q L M hn h k hne
    have hp : p = [] := List.eq_nil_of_length_eq_zero (Nat.le_zero.mp hn)
    subst hp
    rcases h.back with ⟨e, _⟩ | ⟨_, x, q', _, _, e, _⟩
    · rcases k.back with ⟨_, e2⟩ | ⟨e2, _⟩
      · exact absurd e2.symm hne
      · exact absurd e e2
    · cases e
  | succ n ih =>
    intro K S a b p q L M hn h k hne
    rcases h.back with ⟨e, e2⟩ | ⟨hba, x, p', M1, l, rfl, w, ax, hb⟩
    · rcases k.back with ⟨_, e3⟩ | ⟨e3, _⟩
      · exact absurd (e2.trans e3.symm) hne
      · exact absurd e e3
    rcases k.back with ⟨e, _⟩ | ⟨_, y, q', M2, m, rfl, v, ay, hb2⟩
    · exact absurd e hba
    by_cases hxy : x = y
    · subst hxy
      obtain ⟨t, ht, hl⟩ := ih (S.sub woP_sub) (by simpa using hn) w v fun e => hne (by rw [e])
      exact ⟨t, woP_sub t ht, hl.mono woP_sub⟩
    · obtain ⟨t, ht, _, hl⟩ := two_ends S hxy (w.cn.symm.trans v.cn) ax ay
      exact ⟨t, ht, hl⟩
theorem three_ways : ∀ (n : Nat) {K : List Tie} (S : Smp K) (A : Tame K) {a b : Nm} {p q r : List Nm} {L M N : Int}, p.length ≤ n → Way K a (b :: p) L → Way K a (b :: q) M → Way K a (b :: r) N → p ≠ q → p ≠ r → q ≠ r → False := by
  intro n
  induction n with
  | zero =>
    intro K S A a b p q r L M N hn h k j hpq hpr hqr
    have hp : p = [] := List.eq_nil_of_length_eq_zero (Nat.le_zero.mp hn)
    subst hp
    rcases h.back with ⟨e, _⟩ | ⟨_, x, q', _, _, e, _⟩
    · rcases k.back with ⟨_, e2⟩ | ⟨e2, _⟩
      · exact absurd e2.symm hpq
      · exact absurd e e2
    · cases e
  | succ n ih =>
    intro K S A a b p q r L M N hn h k j hpq hpr hqr
    rcases h.back with ⟨e, e2⟩ | ⟨hba, x, p', M1, l1, rfl, w1, a1, b1⟩
    · rcases k.back with ⟨_, e3⟩ | ⟨e3, _⟩
      · exact absurd (e2.trans e3.symm) hpq
      · exact absurd e e3
    rcases k.back with ⟨e, _⟩ | ⟨_, y, q', M2, l2, rfl, w2, a2, b2⟩
    · exact absurd e hba
    rcases j.back with ⟨e, _⟩ | ⟨_, z, r', M3, l3, rfl, w3, a3, b3⟩
    · exact absurd e hba
    have c12 := w1.cn.symm.trans w2.cn
    have c13 := w1.cn.symm.trans w3.cn
    have c23 := w2.cn.symm.trans w3.cn
    -- two alike, one other
    have alike : ∀ {x z : Nm} {p q : List Nm} {M1 M2 l1 l3 : Int}, Way (woP K b) a (x :: p) M1 → Way (woP K b) a (x :: q) M2 → p ≠ q → x ≠ z → Cn (woP K b) x z → Adj K x b l1 → Adj K z b l3 → False := by
      intro x z p q M1 M2 l1 l3 w1 w2 hne hxz c a1 a3
      obtain ⟨t, ht, hl⟩ := two_ways _ (S.sub woP_sub) (Nat.le_refl _) w1 w2 hne
      have htK := woP_sub t ht
      have c' := hl.cn c
      have sub : ∀ u ∈ wo (woP K b) t, u ∈ woP (wo K t) b := fun u hu => by
        rw [mem_wo, mem_woP] at hu
        exact mem_woP.mpr ⟨mem_wo.mpr ⟨hu.1.1, hu.2⟩, hu.1.2⟩
      have keep : ∀ {x : Nm} {l : Int}, Adj K x b l → Adj (wo K t) x b l := by
        intro x l ⟨u, hu, e, h⟩
        refine ⟨u, mem_wo.mpr ⟨hu, fun z => ?_⟩, e, h⟩
        subst z
        have := (mem_woP.mp ht).2
        rcases h with ⟨_, e⟩ | ⟨e, _⟩
        · exact this.2 e
        · exact this.1 e
      obtain ⟨u, hu, _, hul⟩ := two_ends (S.sub wo_sub) hxz (c'.mono sub) (keep a1) (keep a3)
      exact A t htK (hl.mono woP_sub) u hu hul
    by_cases hxy : x = y
    · subst hxy
      by_cases hxz : x = z
      · subst hxz
        exact ih (S.sub woP_sub) (A.sub woP_sub) (by simpa using hn) w1 w2 w3 (fun e => hpq (by rw [e])) (fun e => hpr (by rw [e])) (fun e => hqr (by rw [e]))
      · exact alike w1 w2 (fun e => hpq (by rw [e])) hxz c13 a1 a3
    · by_cases hxz : x = z
      · subst hxz
        exact alike w1 w3 (fun e => hpr (by rw [e])) hxy c12 a1 a2
      · by_cases hyz : y = z
        · subst hyz
          exact alike w2 w3 (fun e => hqr (by rw [e])) (fun e => hxy e.symm) c12.symm a2 a1
        · obtain ⟨t, ht, et, hl⟩ := two_ends S hxy c12 a1 a2
          have keep : ∀ {y : Nm} {l : Int}, y ≠ x → Adj K y b l → Adj (wo K t) y b l := by
            intro y l hyx ⟨u, hu, e, h⟩
            refine ⟨u, mem_wo.mpr ⟨hu, fun z => ?_⟩, e, h⟩
            subst z
            have hxb := S.ne ht et
            rcases et with ⟨e1, e2⟩ | ⟨e1, e2⟩ <;> rcases h with ⟨f1, f2⟩ | ⟨f1, f2⟩
            · exact hyx (f1.symm.trans e1)
            · exact hxb (e1.symm.trans f1)
            · exact hxb (e2.symm.trans f2)
            · exact hyx (f2.symm.trans e2)
          have sub : ∀ u ∈ woP K b, u ∈ woP (wo K t) b := fun u hu => by
            have h1 := mem_woP.mp hu
            exact mem_woP.mpr ⟨woP_wo et.symm u hu, h1.2⟩
          obtain ⟨u, hu, _, hul⟩ := two_ends (S.sub wo_sub) hyz (c23.mono sub) (keep (fun e => hxy e.symm) a2) (keep (fun e => hxz e.symm) a3)
          exact A t ht hl u hu hul
theorem IsWays.tail {ties : List Tie} {a b : Nm} {ws : List Row} (h : IsWays ties a b ws) : ∀ r ∈ ws, ∃ p, r.2 = b :: p ∧ Way ties a (b :: p) r.1 := by
  intro r hr
  obtain ⟨L, p⟩ := r
  obtain ⟨w, e⟩ := (h.mem L p).mp hr
  obtain ⟨c, s, rfl⟩ := w.cons
  rw [List.head?_cons] at e
  cases e
  exact ⟨s, rfl, w⟩
theorem IsWays.lt3 {names : List Nm} {ties : List Tie} (M : Mp names ties) {a b : Nm} {ws : List Row} (h : IsWays ties a b ws) : ws.length < 3 := by
  have nd := h.nd
  have tl := h.tail
  match ws, nd, tl with
  | [], _, _ => exact Nat.zero_lt_succ _
  | [_], _, _ => exact (by decide : 1 < 3)
  | [_, _], _, _ => exact (by decide : 2 < 3)
  | r :: s :: t :: q, nd, tl =>
    exfalso
    obtain ⟨p1, e1, w1⟩ := tl r List.mem_cons_self
    obtain ⟨p2, e2, w2⟩ := tl s (List.mem_cons_of_mem _ List.mem_cons_self)
    obtain ⟨p3, e3, w3⟩ := tl t (List.mem_cons_of_mem _ (List.mem_cons_of_mem _ List.mem_cons_self))
    rw [List.map_cons, List.map_cons, List.map_cons, e1, e2, e3, List.nodup_cons, List.nodup_cons] at nd
    refine three_ways _ M.T.smp M.tame (Nat.le_refl _) w1 w2 w3 (fun e => ?_) (fun e => ?_) (fun e => ?_)
    · exact nd.1 (by rw [e]; exact List.mem_cons_self)
    · exact nd.1 (by rw [e]; exact List.mem_cons_of_mem _ List.mem_cons_self)
    · exact nd.2.1 (by rw [e]; exact List.mem_cons_self)
theorem IsWays.one {names : List Nm} {ties : List Tie} (M : Mp names ties) (hc : ties.length < names.length) {a b : Nm} {ws : List Row} (h : IsWays ties a b ws) : ws.length ≤ 1 := by
  have nd := h.nd
  have tl := h.tail
  match ws, nd, tl with
  | [], _, _ => exact Nat.zero_le _
  | [_], _, _ => exact Nat.le_refl _
  | r :: s :: q, nd, tl =>
    exfalso
    obtain ⟨p1, e1, w1⟩ := tl r List.mem_cons_self
    obtain ⟨p2, e2, w2⟩ := tl s (List.mem_cons_of_mem _ List.mem_cons_self)
    rw [List.map_cons, List.map_cons, e1, e2, List.nodup_cons] at nd
    obtain ⟨t, ht, hl⟩ := two_ways _ M.T.smp (Nat.le_refl _) w1 w2 (fun e => nd.1 (by rw [e]; exact List.mem_cons_self))
    exact tree_tight M.nd M.tied (by omega) ht hl
/-- ways turned about -/
theorem Way.front {K : List Tie} {a c : Nm} {l : Int} (ad : Adj K c a l) {p : List Nm} {L : Int} (h : Way K a p L) (hc : c ∉ p) : Way K c (p ++ [c]) (l + L) := by
  induction h with
  | nil =>
    have := Way.snoc (Way.nil (ties := K) (one := c)) ad (fun z => hc (by rw [List.mem_singleton] at z ⊢; exact z.symm))
    rw [Int.zero_add] at this
    rw [Int.add_zero]
    exact this
  | @snoc x y r L m w ad2 hn ih =>
    have := Way.snoc (ih fun z => hc (List.mem_cons_of_mem _ z)) ad2 (by
      intro z
      have z : y ∈ (x :: r) ++ [c] := z
      rcases List.mem_append.mp z with z | z
      · exact hn z
      · rw [List.mem_singleton] at z
        exact hc (by rw [z]; exact List.mem_cons_self))
    rw [← Int.add_assoc]
    exact this
theorem Way.turn {K : List Tie} {a : Nm} {p : List Nm} {L : Int} (h : Way K a p L) : ∀ b q, p = b :: q → Way K b p.reverse L := by
  induction h with
  | nil => intro b q e; cases e; exact .nil
  | @snoc x y r L l w ad hn ih =>
    intro b q e
    cases e
    have := (ih x r rfl).front ad.symm (by rw [List.mem_reverse]; exact hn)
    rw [Int.add_comm] at this
    rw [List.reverse_cons]
    exact this
theorem IsWays.turn {ties : List Tie} {a b : Nm} {ws : List Row} (h : IsWays ties a b ws) : IsWays ties b a ((ws.map fun r => ((r.1, r.2.reverse) : Row)).mergeSort (leQ rowD)) := by
  have pm := List.mergeSort_perm (ws.map fun r => ((r.1, r.2.reverse) : Row)) (leQ rowD)
  refine ⟨leQ_sorted _ _, ?_, fun L p => ?_⟩
  · rw [(pm.map (·.2)).nodup_iff, List.map_map]
    have e : ((fun r : Row => r.2) ∘ fun r : Row => ((r.1, r.2.reverse) : Row)) = List.reverse ∘ fun r : Row => r.2 := rfl
    rw [e, ← List.map_map]
    have nd := h.nd
    unfold List.Nodup at nd ⊢
    rw [List.pairwise_map]
    exact nd.imp fun hne z => hne (List.reverse_inj.mp z)
  · rw [pm.mem_iff, List.mem_map]
    constructor
    · rintro ⟨⟨L', q⟩, hr, e⟩
      obtain ⟨e1, e2⟩ := Prod.mk.inj e
      simp only at e1 e2
      subst e1 e2
      obtain ⟨w, e⟩ := (h.mem L' q).mp hr
      obtain ⟨c, s, rfl⟩ := w.cons
      rw [List.head?_cons] at e
      cases e
      refine ⟨w.turn _ _ rfl, ?_⟩
      rw [List.head?_reverse]
      exact w.first
    · rintro ⟨w, e⟩
      obtain ⟨c, s, rfl⟩ := w.cons
      rw [List.head?_cons] at e
      cases e
      refine ⟨(L, (a :: s).reverse), (h.mem _ _).mpr ⟨w.turn _ _ rfl, ?_⟩, ?_⟩
      · rw [List.head?_reverse]
        exact w.first
      · rw [List.reverse_reverse]
theorem IsWays.self {ties : List Tie} {a : Nm} {ws : List Row} (h : IsWays ties a a ws) : ws = [(0, [a])] := by
  refine h.uniq ⟨List.pairwise_singleton _ _, by simp, fun L p => ?_⟩
  rw [List.mem_singleton]
  constructor
  · intro e
    cases e
    exact ⟨.nil, rfl⟩
  · rintro ⟨w, e⟩
    obtain ⟨c, s, rfl⟩ := w.cons
    rw [List.head?_cons] at e
    cases e
    cases w with
    | nil => rfl
    | snoc w _ hn => exact absurd (List.mem_of_getLast? w.first) hn
end Fw

namespace Fw
def LW_in : List S := [.ite (.and (.cmp .notin (.v 9) (.v 8)) (.din (.tup [.ix (.v 8) (.op .sub (.bi .len [.v 8]) (.k (.int 1))), .v 9]) (.v 2))) [.app 6 (.tup [.op .add (.v 7) (.dget (.v 2) (.tup [.ix (.v 8) (.op .sub (.bi .len [.v 8]) (.k (.int 1))), .v 9])), .op .add (.v 8) (.tup [.v 9])])] []]
def LW_mid : List S := [.for_ (.v 9) (.seq (.ix (.v 0) (.k (.int 0)))) LW_in]
def LW_turn : List S := [.asg (.v 6) (.lst []) 1, .for_ (.t [.v 7, .v 8]) (.seq (.v 4)) LW_mid, .ext 3 (.v 6), .frz 6, .asg (.v 4) (.v 6) 0]
def C_lways (iLen : Nat) : List S := [.asg (.v 2) (.call iLen [.v 0]) 0, .asg (.v 3) (.lst [.tup [.k (.int 0), .tup [.v 1]]]) 1, .asg (.v 4) (.bi .list [.v 3]) 0, .for_ (.v 5) (.rng1 (.bi .len [.ix (.v 0) (.k (.int 0))])) LW_turn, .ret (.v 3)]
end Fw
namespace Fw
open L2
/-! ### all ways, length by length -/
def nxt (kvs : Kvs) (ns : List Nm) (r : Row) : List Row := (ns.filter fun b => decide (b ∉ r.2) && (valK kvs (ky (r.2.headD ⟨#[]⟩) b)).isSome).map fun b => (r.1 + dOf kvs (r.2.headD ⟨#[]⟩) b, b :: r.2)
structure LI (ties : List Tie) (one : Nm) (k : Nat) (found last : List Row) : Prop where
  way : ∀ r ∈ found, Way ties one r.2 r.1 ∧ r.2.length ≤ k + 1
  all : ∀ p L, Way ties one p L → p.length ≤ k + 1 → ((L, p) : Row) ∈ found
  lw : ∀ r ∈ last, Way ties one r.2 r.1 ∧ r.2.length = k + 1
  lall : ∀ p L, Way ties one p L → p.length = k + 1 → ((L, p) : Row) ∈ last
  nd : (found.map (·.2)).Nodup
  lnd : (last.map (·.2)).Nodup
theorem Way.len_pos {ties : List Tie} {one : Nm} {p : List Nm} {L : Int} (w : Way ties one p L) : 1 ≤ p.length := by
  obtain ⟨a, r, rfl⟩ := w.cons
  rw [List.length_cons]
  omega
theorem LI.start (ties : List Tie) (one : Nm) : LI ties one 0 [(0, [one])] [(0, [one])] := by
  have h1 : ∀ r ∈ [((0, [one]) : Row)], Way ties one r.2 r.1 ∧ r.2.length = 1 := fun r hr => by
    rw [List.mem_singleton] at hr
    subst hr
    exact ⟨.nil, rfl⟩
  have h2 : ∀ p L, Way ties one p L → p.length ≤ 1 → ((L, p) : Row) ∈ [((0, [one]) : Row)] := fun p L w h => by
    cases w with
    | nil => exact List.mem_singleton_self _
    | snoc w _ _ => simp only [List.length_cons] at h; omega
  exact ⟨fun r hr => ⟨(h1 r hr).1, by rw [(h1 r hr).2]; exact Nat.le_refl _⟩, h2, h1, fun p L w h => h2 p L w (by omega), by simp, by simp⟩
theorem nxt_ways {names : List Nm} {ties : List Tie} {kvs : Kvs} (hk : ∀ a b l, Adj ties a b l → valK kvs (ky a b) = some (.int l)) (ho : ∀ a b d, valK kvs (ky a b) = some d → ∃ l, Adj ties a b l) {one : Nm} {r : Row} (w : Way ties one r.2 r.1) (ns : List Nm) :
    ∀ x ∈ nxt kvs ns r, Way ties one x.2 x.1 ∧ ∃ b, b ∈ ns ∧ x.2 = b :: r.2 := by
  intro x hx
  unfold nxt at hx
  obtain ⟨b, hb, rfl⟩ := List.mem_map.mp hx
  rw [List.mem_filter, Bool.and_eq_true, decide_eq_true_eq] at hb
  obtain ⟨hbn, hb1, hb2⟩ := hb
  obtain ⟨L, p⟩ := r
  obtain ⟨a, q, e⟩ := w.cons
  simp only at e
  subst e
  obtain ⟨d, hd⟩ := Option.isSome_iff_exists.mp hb2
  obtain ⟨l, ad⟩ := ho a b d hd
  have e : dOf kvs (((L, a :: q) : Row).2.headD ⟨#[]⟩) b = l := dOf_eq (hk a b l ad)
  rw [e]
  exact ⟨.snoc w ad hb1, b, hbn, rfl⟩
theorem LI.turn {names : List Nm} (hn : names.Nodup) {ties : List Tie} (T : TiesOk names ties) {kvs : Kvs} (hk : ∀ a b l, Adj ties a b l → valK kvs (ky a b) = some (.int l)) (ho : ∀ a b d, valK kvs (ky a b) = some d → ∃ l, Adj ties a b l) {one : Nm} {k : Nat} {found last : List Row} (h : LI ties one k found last) :
    LI ties one (k + 1) (found ++ last.flatMap (nxt kvs names)) (last.flatMap (nxt kvs names)) := by
  have mw : ∀ x ∈ last.flatMap (nxt kvs names), Way ties one x.2 x.1 ∧ x.2.length = k + 1 + 1 := fun x hx => by
    obtain ⟨r, hr, hx⟩ := List.mem_flatMap.mp hx
    obtain ⟨w, b, _, e⟩ := nxt_ways (names := names) hk ho (h.lw r hr).1 names x hx
    exact ⟨w, by rw [e, List.length_cons, (h.lw r hr).2]⟩
  have ma : ∀ p L, Way ties one p L → p.length = k + 1 + 1 → ((L, p) : Row) ∈ last.flatMap (nxt kvs names) := fun p L w hl => by
    cases w with
    | nil => simp only [List.length_cons, List.length_nil] at hl; omega
    | @snoc a b r L l w ad hb =>
      rw [List.length_cons] at hl
      refine List.mem_flatMap.mpr ⟨(L, a :: r), h.lall _ _ w (by omega), ?_⟩
      unfold nxt
      refine List.mem_map.mpr ⟨b, ?_, ?_⟩
      · rw [List.mem_filter, Bool.and_eq_true, decide_eq_true_eq]
        refine ⟨(ad.mem T).2, hb, ?_⟩
        show (valK kvs (ky a b)).isSome = true
        rw [hk a b l ad]
        rfl
      · show (L + dOf kvs a b, b :: a :: r) = _
        rw [dOf_eq (hk a b l ad)]
  have mn : ((last.flatMap (nxt kvs names)).map (·.2)).Nodup := by
    unfold List.Nodup
    rw [List.pairwise_map, List.pairwise_flatMap]
    refine ⟨fun r hr => ?_, ?_⟩
    · unfold nxt
      rw [List.pairwise_map]
      exact (hn.sublist List.filter_sublist).imp fun hne e => hne (List.cons.inj e).1
    · have := h.lnd
      unfold List.Nodup at this
      rw [List.pairwise_map] at this
      refine this.imp_of_mem fun {r s} hr hs hne x hx y hy e => ?_
      obtain ⟨_, b, _, e1⟩ := nxt_ways (names := names) hk ho (h.lw r hr).1 names x hx
      obtain ⟨_, c, _, e2⟩ := nxt_ways (names := names) hk ho (h.lw s hs).1 names y hy
      rw [e1, e2] at e
      exact hne (List.cons.inj e).2
  refine ⟨fun r hr => ?_, fun p L w hl => ?_, mw, ma, ?_, mn⟩
  · rcases List.mem_append.mp hr with hr | hr
    · exact ⟨(h.way r hr).1, by have := (h.way r hr).2; omega⟩
    · exact ⟨(mw r hr).1, by have := (mw r hr).2; omega⟩
  · by_cases e : p.length = k + 1 + 1
    · exact List.mem_append.mpr (.inr (ma p L w e))
    · exact List.mem_append.mpr (.inl (h.all p L w (by omega)))
  · rw [List.map_append, List.nodup_append]
    refine ⟨h.nd, mn, fun x hx y hy e => ?_⟩
    obtain ⟨r, hr, rfl⟩ := List.mem_map.mp hx
    obtain ⟨s, hs, rfl⟩ := List.mem_map.mp hy
    have := (h.way r hr).2
    have := (mw s hs).2
    rw [e] at *
    omega
theorem last_len (a : Nm) (r : List Nm) : atI ((a :: r).reverse.map D.str) ((((a :: r).reverse.map D.str).length : Nat) - 1 : Int) = some (.str a) := by
  have h := last_at a r
  have e : ((((a :: r).reverse.map D.str).length : Nat) - 1 : Int) = (r.length : Nat) := by
    rw [List.length_map, List.length_reverse, List.length_cons]
    omega
  rw [e]
  refine atI_nat ?_
  rw [List.getElem?_map, List.reverse_cons, List.getElem?_append_right (by rw [List.length_reverse]; exact Nat.le_refl _), List.length_reverse, Nat.sub_self]
  rfl
theorem nxt_snoc (kvs : Kvs) (pre : List Nm) (b : Nm) (r : Row) : nxt kvs (pre ++ [b]) r = nxt kvs pre r ++ (if b ∉ r.2 ∧ (valK kvs (ky (r.2.headD ⟨#[]⟩) b)).isSome = true then [(r.1 + dOf kvs (r.2.headD ⟨#[]⟩) b, b :: r.2)] else []) := by
  unfold nxt
  rw [List.filter_append, List.map_append]
  congr 1
  rw [List.filter_cons]
  by_cases h : b ∉ r.2 ∧ (valK kvs (ky (r.2.headD ⟨#[]⟩) b)).isSome = true
  · rw [if_pos h, if_pos (by rw [decide_eq_true h.1, h.2]; rfl)]
    rfl
  · rw [if_neg h, if_neg (by simpa using h)]
    rfl
theorem nxt_app (kvs : Kvs) (xs ys : List Nm) (r : Row) : nxt kvs (xs ++ ys) r = nxt kvs xs r ++ nxt kvs ys r := by
  unfold nxt
  rw [List.filter_append, List.map_append]
theorem inD_strs (a : Nm) (l : List Nm) : inD (.str a) (.tup (l.map .str)) = .ok (decide (a ∈ l)) := by
  rw [inD_t, any_str, flat_strs]
  rfl
theorem getIf {c : Prop} [Decidable c] {α : Type} (a b : α) (P : α → Prop) (h1 : c → P a) (h2 : ¬ c → P b) : P (if c then a else b) := by
  split
  · exact h1 ‹_›
  · exact h2 ‹_›
theorem lw_mid {C : CallT} {names : List Nm} {ties : List Tie} {kvs : Kvs} (hk : ∀ a b l, Adj ties a b l → valK kvs (ky a b) = some (.int l)) (ho : ∀ a b d, valK kvs (ky a b) = some d → ∃ l, Adj ties a b l) {L : Int} {a : Nm} {q : List Nm} (hq : q.length ≤ 100) {s1 s3 s4 s5 s9 : Option Slot} {N : List Row} (hl : N.length + (nxt kvs names (L, a :: q)).length ≤ 13700) :
    W (evSs C LW_mid [some ⟨mapD names ties, 0⟩, s1, some ⟨.dT kvs, 0⟩, s3, s4, s5, some ⟨.lst (N.map rowD), 1⟩, some ⟨.int L, 0⟩, some ⟨.tup ((a :: q).reverse.map .str), 0⟩, s9]) fun o => ∃ s9, o = .nx [some ⟨mapD names ties, 0⟩, s1, some ⟨.dT kvs, 0⟩, s3, s4, s5, some ⟨.lst ((N ++ nxt kvs names (L, a :: q)).map rowD), 1⟩, some ⟨.int L, 0⟩, some ⟨.tup ((a :: q).reverse.map .str), 0⟩, s9] := by
  simp only [LW_mid]
  simp only [id_eq, R.bind_ok, R.guard_true, ss_cons, ss_nil, Sq, Fl, W_bind, W_ok, W_guard, R.ite_true, R.ite_false, W_ite, evS, evE, evEs, evO, evTs, evIt, strD_i, keyD_i, keyD_s, keysD_n, keysD_c, dgetD_s, dgetD_i, dgetD_t, dinD_s, dinD_i, dinD_t, setPat_v, setPat_t, setPats_n, setPats_c, setSlot, start0, wipeE, ownL, stoD, dstD, rangeD, List.map_cons, List.map_nil, List.cons_append, List.nil_append, List.append_nil, List.length_cons, List.length_nil, List.replicate_succ, List.replicate_zero, List.getElem?_cons_zero, List.getElem?_cons_succ, List.set_cons_zero, List.set_cons_succ, List.all_cons, List.all_nil, Nat.add_sub_cancel, Nat.reduceAdd, Nat.reduceSub, Bool.and_true, Bool.true_and, Bool.and_self, Bool.not_true, Bool.not_false, true_and, and_true, decide_eq_true_eq, Nat.zero_add, decide_eq_false_iff_not, Int.reduceLT, Int.reduceEq, eqD_i, eqD_s, shp_i, shp_s, shp_b, shp_n, Int.reduceLE, Int.reduceMul, Int.reduceAdd, Int.reduceMod, Int.reduceNeg, Int.reduceSub, Int.reduceToNat, reduceCtorEq, false_implies, true_implies, decide_true, decide_false, forall_const, Bool.false_eq_true, Bool.not_eq_true', Bool.and_eq_true, Bool.or_eq_true, addD_i, addD_s, addD_l, addD_t, subD_i, mulD_i, mulD_s, fdivD_i, modD_i, powD_i, ltD_i, ltD_s, leD_i, leD_s, gtD_i, gtD_s, geD_i, geD_s, inD_l, inD_t, inD_s, isBl_b, cmpD_eq, cmpD_ne, cmpD_lt, cmpD_le, cmpD_gt, cmpD_ge, cmpD_in, cmpD_notin, cmpD_isN, cmpD_notN, cmpD_isB, cmpD_notB, isNon_n, isNon_i, isNon_b, isNon_s, isNon_l, isNon_t, items_l, items_t, itemsI_l, itemsI_t, itemsI_s, ixD_l, ixD_t, ixD_s, slD_l, slD_t, slD_s, lenD_l, lenD_t, lenD_s, lenD_d, absD_i, minD_i, maxD_i, minD_1, maxD_1, bestD_c, sortedD_1, listD_1, tupleD_1, allD_l, anyD_l, sumD_l, sumD_t, intD_i, intD_b, boolD_b, boolD_i, joinD_s, retK_sh, retK_nw, retK_bw, kdOf_0, kdOf_1, kdOf_2, inKd_sh, inKd_nw, inKd_bw, inKd_b2, toKd_t, toKd_f, notBw_sh, notBw_nw, notBw_bw, notBw_b2, exact_sh, exact_nw, exact_bw, ownOk_l, ownOk_K, ownOk_T, ownOk_2, tyD_ii, tyD_ib, tyD_is, tyD_in, tyD_il, tyD_it, tyD_bi, tyD_bb, tyD_bs, tyD_bn, tyD_bl, tyD_bt, tyD_si, tyD_sb, tyD_ss, tyD_sn, tyD_sl, tyD_st, tyD_ti, tyD_tb, tyD_ts, tyD_tn, tyD_tl, tyD_tt, tyD_li, tyD_lb, tyD_ls, tyD_ln, tyD_ll, tyD_lt, biD_1, biD_2, biD_3, biD_4, biD_5, biD_6, biD_7, biD_8, biD_9, biD_10, biD_11, biD_12, biD_13, biD_14, biD_15, op2D_1, op2D_2, op2D_3, op2D_4, op2D_5, op2D_6, oR_some, Option.map_some, true_or, false_or, lend_ret, notB2_sh, notB2_nw, notB2_bw, resOk_bl, resOk_int, resOk_non, resOk_str, resOk_l, resOk_t, ixD_map0, ixD_map1, rowD_0, rowD_1, atI_zero, eqD_bl, shp_bl, oR_some]
  refine for_pre (fun pre ρ => ∃ s9, ρ = [some ⟨mapD names ties, 0⟩, s1, some ⟨.dT kvs, 0⟩, s3, s4, s5, some ⟨.lst ((N ++ nxt kvs pre (L, a :: q)).map rowD), 1⟩, some ⟨.int L, 0⟩, some ⟨.tup ((a :: q).reverse.map .str), 0⟩, s9]) ⟨s9, by rw [show nxt kvs [] (L, a :: q) = [] from rfl, List.append_nil]⟩ ?_ ?_
  · rintro pre b suf e ρ ⟨s9, rfl⟩
    have sn := nxt_snoc kvs pre b (L, a :: q)
    have le : (N ++ nxt kvs pre (L, a :: q)).length ≤ 13700 := by
      rw [e, nxt_app, List.length_append] at hl
      rw [List.length_append]
      omega
    simp only [LW_in]
    cases hv : valK kvs (ky a b) with
    | none =>
      have hv' : valK kvs [Sum.inr a, Sum.inr b] = none := hv
      have en : nxt kvs (pre ++ [b]) (L, a :: q) = nxt kvs pre (L, a :: q) := by
        rw [sn, if_neg (fun z => by have := z.2; rw [show valK kvs (ky ((L, a :: q).snd.headD ⟨#[]⟩) b) = valK kvs (ky a b) from rfl, hv] at this; cases this), List.append_nil]
      simp only [id_eq, R.bind_ok, R.guard_true, ss_cons, ss_nil, Sq, Fl, W_bind, W_ok, W_guard, R.ite_true, R.ite_false, W_ite, evS, evE, evEs, evO, evTs, evIt, strD_i, keyD_i, keyD_s, keysD_n, keysD_c, dgetD_s, dgetD_i, dgetD_t, dinD_s, dinD_i, dinD_t, setPat_v, setPat_t, setPats_n, setPats_c, setSlot, start0, wipeE, ownL, stoD, dstD, rangeD, List.map_cons, List.map_nil, List.cons_append, List.nil_append, List.append_nil, List.length_cons, List.length_nil, List.replicate_succ, List.replicate_zero, List.getElem?_cons_zero, List.getElem?_cons_succ, List.set_cons_zero, List.set_cons_succ, List.all_cons, List.all_nil, Nat.add_sub_cancel, Nat.reduceAdd, Nat.reduceSub, Bool.and_true, Bool.true_and, Bool.and_self, Bool.not_true, Bool.not_false, true_and, and_true, decide_eq_true_eq, Nat.zero_add, decide_eq_false_iff_not, Int.reduceLT, Int.reduceEq, eqD_i, eqD_s, shp_i, shp_s, shp_b, shp_n, Int.reduceLE, Int.reduceMul, Int.reduceAdd, Int.reduceMod, Int.reduceNeg, Int.reduceSub, Int.reduceToNat, reduceCtorEq, false_implies, true_implies, decide_true, decide_false, forall_const, Bool.false_eq_true, Bool.not_eq_true', Bool.and_eq_true, Bool.or_eq_true, addD_i, addD_s, addD_l, addD_t, subD_i, mulD_i, mulD_s, fdivD_i, modD_i, powD_i, ltD_i, ltD_s, leD_i, leD_s, gtD_i, gtD_s, geD_i, geD_s, inD_l, inD_t, inD_s, isBl_b, cmpD_eq, cmpD_ne, cmpD_lt, cmpD_le, cmpD_gt, cmpD_ge, cmpD_in, cmpD_notin, cmpD_isN, cmpD_notN, cmpD_isB, cmpD_notB, isNon_n, isNon_i, isNon_b, isNon_s, isNon_l, isNon_t, items_l, items_t, itemsI_l, itemsI_t, itemsI_s, ixD_l, ixD_t, ixD_s, slD_l, slD_t, slD_s, lenD_l, lenD_t, lenD_s, lenD_d, absD_i, minD_i, maxD_i, minD_1, maxD_1, bestD_c, sortedD_1, listD_1, tupleD_1, allD_l, anyD_l, sumD_l, sumD_t, intD_i, intD_b, boolD_b, boolD_i, joinD_s, retK_sh, retK_nw, retK_bw, kdOf_0, kdOf_1, kdOf_2, inKd_sh, inKd_nw, inKd_bw, inKd_b2, toKd_t, toKd_f, notBw_sh, notBw_nw, notBw_bw, notBw_b2, exact_sh, exact_nw, exact_bw, ownOk_l, ownOk_K, ownOk_T, ownOk_2, tyD_ii, tyD_ib, tyD_is, tyD_in, tyD_il, tyD_it, tyD_bi, tyD_bb, tyD_bs, tyD_bn, tyD_bl, tyD_bt, tyD_si, tyD_sb, tyD_ss, tyD_sn, tyD_sl, tyD_st, tyD_ti, tyD_tb, tyD_ts, tyD_tn, tyD_tl, tyD_tt, tyD_li, tyD_lb, tyD_ls, tyD_ln, tyD_ll, tyD_lt, biD_1, biD_2, biD_3, biD_4, biD_5, biD_6, biD_7, biD_8, biD_9, biD_10, biD_11, biD_12, biD_13, biD_14, biD_15, op2D_1, op2D_2, op2D_3, op2D_4, op2D_5, op2D_6, oR_some, Option.map_some, true_or, false_or, lend_ret, notB2_sh, notB2_nw, notB2_bw, resOk_bl, resOk_int, resOk_non, resOk_str, resOk_l, resOk_t, ixD_map0, ixD_map1, rowD_0, rowD_1, atI_zero, eqD_bl, shp_bl, oR_some, any_str, flat_strs, List.mem_reverse, last_len, hv', Option.isSome_none, en]
      exact ⟨rfl, fun _ => ⟨_, rfl⟩, fun _ => ⟨_, rfl⟩⟩
    | some d =>
      obtain ⟨l, ad⟩ := ho a b d hv
      have hl' := hk a b l ad
      rw [hv] at hl'
      cases hl'
      have hv' : valK kvs [Sum.inr a, Sum.inr b] = some (.int l) := hv
      have ed : dOf kvs a b = l := dOf_eq hv
      by_cases hb : b ∈ a :: q
      · have en : nxt kvs (pre ++ [b]) (L, a :: q) = nxt kvs pre (L, a :: q) := by
          rw [sn, if_neg (fun z => z.1 hb), List.append_nil]
        simp only [id_eq, R.bind_ok, R.guard_true, ss_cons, ss_nil, Sq, Fl, W_bind, W_ok, W_guard, R.ite_true, R.ite_false, W_ite, evS, evE, evEs, evO, evTs, evIt, strD_i, keyD_i, keyD_s, keysD_n, keysD_c, dgetD_s, dgetD_i, dgetD_t, dinD_s, dinD_i, dinD_t, setPat_v, setPat_t, setPats_n, setPats_c, setSlot, start0, wipeE, ownL, stoD, dstD, rangeD, List.map_cons, List.map_nil, List.cons_append, List.nil_append, List.append_nil, List.length_cons, List.length_nil, List.replicate_succ, List.replicate_zero, List.getElem?_cons_zero, List.getElem?_cons_succ, List.set_cons_zero, List.set_cons_succ, List.all_cons, List.all_nil, Nat.add_sub_cancel, Nat.reduceAdd, Nat.reduceSub, Bool.and_true, Bool.true_and, Bool.and_self, Bool.not_true, Bool.not_false, true_and, and_true, decide_eq_true_eq, Nat.zero_add, decide_eq_false_iff_not, Int.reduceLT, Int.reduceEq, eqD_i, eqD_s, shp_i, shp_s, shp_b, shp_n, Int.reduceLE, Int.reduceMul, Int.reduceAdd, Int.reduceMod, Int.reduceNeg, Int.reduceSub, Int.reduceToNat, reduceCtorEq, false_implies, true_implies, decide_true, decide_false, forall_const, Bool.false_eq_true, Bool.not_eq_true', Bool.and_eq_true, Bool.or_eq_true, addD_i, addD_s, addD_l, addD_t, subD_i, mulD_i, mulD_s, fdivD_i, modD_i, powD_i, ltD_i, ltD_s, leD_i, leD_s, gtD_i, gtD_s, geD_i, geD_s, inD_l, inD_t, inD_s, isBl_b, cmpD_eq, cmpD_ne, cmpD_lt, cmpD_le, cmpD_gt, cmpD_ge, cmpD_in, cmpD_notin, cmpD_isN, cmpD_notN, cmpD_isB, cmpD_notB, isNon_n, isNon_i, isNon_b, isNon_s, isNon_l, isNon_t, items_l, items_t, itemsI_l, itemsI_t, itemsI_s, ixD_l, ixD_t, ixD_s, slD_l, slD_t, slD_s, lenD_l, lenD_t, lenD_s, lenD_d, absD_i, minD_i, maxD_i, minD_1, maxD_1, bestD_c, sortedD_1, listD_1, tupleD_1, allD_l, anyD_l, sumD_l, sumD_t, intD_i, intD_b, boolD_b, boolD_i, joinD_s, retK_sh, retK_nw, retK_bw, kdOf_0, kdOf_1, kdOf_2, inKd_sh, inKd_nw, inKd_bw, inKd_b2, toKd_t, toKd_f, notBw_sh, notBw_nw, notBw_bw, notBw_b2, exact_sh, exact_nw, exact_bw, ownOk_l, ownOk_K, ownOk_T, ownOk_2, tyD_ii, tyD_ib, tyD_is, tyD_in, tyD_il, tyD_it, tyD_bi, tyD_bb, tyD_bs, tyD_bn, tyD_bl, tyD_bt, tyD_si, tyD_sb, tyD_ss, tyD_sn, tyD_sl, tyD_st, tyD_ti, tyD_tb, tyD_ts, tyD_tn, tyD_tl, tyD_tt, tyD_li, tyD_lb, tyD_ls, tyD_ln, tyD_ll, tyD_lt, biD_1, biD_2, biD_3, biD_4, biD_5, biD_6, biD_7, biD_8, biD_9, biD_10, biD_11, biD_12, biD_13, biD_14, biD_15, op2D_1, op2D_2, op2D_3, op2D_4, op2D_5, op2D_6, oR_some, Option.map_some, true_or, false_or, lend_ret, notB2_sh, notB2_nw, notB2_bw, resOk_bl, resOk_int, resOk_non, resOk_str, resOk_l, resOk_t, ixD_map0, ixD_map1, rowD_0, rowD_1, atI_zero, eqD_bl, shp_bl, oR_some, any_str, flat_strs, List.mem_reverse, last_len, hv', Option.isSome_some, en, decide_eq_true hb]
        exact ⟨rfl, _, rfl⟩
      · have en : nxt kvs (pre ++ [b]) (L, a :: q) = nxt kvs pre (L, a :: q) ++ [(L + l, b :: a :: q)] := by
          rw [sn, if_pos ⟨hb, by rw [show valK kvs (ky ((L, a :: q).snd.headD ⟨#[]⟩) b) = valK kvs (ky a b) from rfl, hv]; rfl⟩]
          rw [show dOf kvs ((L, a :: q).snd.headD ⟨#[]⟩) b = dOf kvs a b from rfl, ed]
        simp only [id_eq, R.bind_ok, R.guard_true, ss_cons, ss_nil, Sq, Fl, W_bind, W_ok, W_guard, R.ite_true, R.ite_false, W_ite, evS, evE, evEs, evO, evTs, evIt, strD_i, keyD_i, keyD_s, keysD_n, keysD_c, dgetD_s, dgetD_i, dgetD_t, dinD_s, dinD_i, dinD_t, setPat_v, setPat_t, setPats_n, setPats_c, setSlot, start0, wipeE, ownL, stoD, dstD, rangeD, List.map_cons, List.map_nil, List.cons_append, List.nil_append, List.append_nil, List.length_cons, List.length_nil, List.replicate_succ, List.replicate_zero, List.getElem?_cons_zero, List.getElem?_cons_succ, List.set_cons_zero, List.set_cons_succ, List.all_cons, List.all_nil, Nat.add_sub_cancel, Nat.reduceAdd, Nat.reduceSub, Bool.and_true, Bool.true_and, Bool.and_self, Bool.not_true, Bool.not_false, true_and, and_true, decide_eq_true_eq, Nat.zero_add, decide_eq_false_iff_not, Int.reduceLT, Int.reduceEq, eqD_i, eqD_s, shp_i, shp_s, shp_b, shp_n, Int.reduceLE, Int.reduceMul, Int.reduceAdd, Int.reduceMod, Int.reduceNeg, Int.reduceSub, Int.reduceToNat, reduceCtorEq, false_implies, true_implies, decide_true, decide_false, forall_const, Bool.false_eq_true, Bool.not_eq_true', Bool.and_eq_true, Bool.or_eq_true, addD_i, addD_s, addD_l, addD_t, subD_i, mulD_i, mulD_s, fdivD_i, modD_i, powD_i, ltD_i, ltD_s, leD_i, leD_s, gtD_i, gtD_s, geD_i, geD_s, inD_l, inD_t, inD_s, isBl_b, cmpD_eq, cmpD_ne, cmpD_lt, cmpD_le, cmpD_gt, cmpD_ge, cmpD_in, cmpD_notin, cmpD_isN, cmpD_notN, cmpD_isB, cmpD_notB, isNon_n, isNon_i, isNon_b, isNon_s, isNon_l, isNon_t, items_l, items_t, itemsI_l, itemsI_t, itemsI_s, ixD_l, ixD_t, ixD_s, slD_l, slD_t, slD_s, lenD_l, lenD_t, lenD_s, lenD_d, absD_i, minD_i, maxD_i, minD_1, maxD_1, bestD_c, sortedD_1, listD_1, tupleD_1, allD_l, anyD_l, sumD_l, sumD_t, intD_i, intD_b, boolD_b, boolD_i, joinD_s, retK_sh, retK_nw, retK_bw, kdOf_0, kdOf_1, kdOf_2, inKd_sh, inKd_nw, inKd_bw, inKd_b2, toKd_t, toKd_f, notBw_sh, notBw_nw, notBw_bw, notBw_b2, exact_sh, exact_nw, exact_bw, ownOk_l, ownOk_K, ownOk_T, ownOk_2, tyD_ii, tyD_ib, tyD_is, tyD_in, tyD_il, tyD_it, tyD_bi, tyD_bb, tyD_bs, tyD_bn, tyD_bl, tyD_bt, tyD_si, tyD_sb, tyD_ss, tyD_sn, tyD_sl, tyD_st, tyD_ti, tyD_tb, tyD_ts, tyD_tn, tyD_tl, tyD_tt, tyD_li, tyD_lb, tyD_ls, tyD_ln, tyD_ll, tyD_lt, biD_1, biD_2, biD_3, biD_4, biD_5, biD_6, biD_7, biD_8, biD_9, biD_10, biD_11, biD_12, biD_13, biD_14, biD_15, op2D_1, op2D_2, op2D_3, op2D_4, op2D_5, op2D_6, oR_some, Option.map_some, true_or, false_or, lend_ret, notB2_sh, notB2_nw, notB2_bw, resOk_bl, resOk_int, resOk_non, resOk_str, resOk_l, resOk_t, ixD_map0, ixD_map1, rowD_0, rowD_1, atI_zero, eqD_bl, shp_bl, oR_some, any_str, flat_strs, List.mem_reverse, last_len, hv', Option.isSome_some, en, decide_eq_false hb]
        have er : (N ++ (nxt kvs pre (L, a :: q) ++ [(L + l, b :: a :: q)])).map rowD = (N ++ nxt kvs pre (L, a :: q)).map rowD ++ [D.tup [.int (L + l), .tup ((a :: q).reverse.map .str ++ [.str b])]] := by
          rw [← List.append_assoc, List.map_append]
          simp [rowD]
        rw [er]
        refine ⟨rfl, ?_, ?_, _, rfl⟩
        · rw [List.length_map, List.length_reverse, List.length_cons]; simp only [line]; omega
        · rw [List.length_map]; simp only [line]; omega
  · rintro ρ ⟨s9, rfl⟩
    simp only [id_eq, R.bind_ok, R.guard_true, ss_cons, ss_nil, Sq, Fl, W_bind, W_ok, W_guard, R.ite_true, R.ite_false, W_ite, evS, evE, evEs, evO, evTs, evIt, strD_i, keyD_i, keyD_s, keysD_n, keysD_c, dgetD_s, dgetD_i, dgetD_t, dinD_s, dinD_i, dinD_t, setPat_v, setPat_t, setPats_n, setPats_c, setSlot, start0, wipeE, ownL, stoD, dstD, rangeD, List.map_cons, List.map_nil, List.cons_append, List.nil_append, List.append_nil, List.length_cons, List.length_nil, List.replicate_succ, List.replicate_zero, List.getElem?_cons_zero, List.getElem?_cons_succ, List.set_cons_zero, List.set_cons_succ, List.all_cons, List.all_nil, Nat.add_sub_cancel, Nat.reduceAdd, Nat.reduceSub, Bool.and_true, Bool.true_and, Bool.and_self, Bool.not_true, Bool.not_false, true_and, and_true, decide_eq_true_eq, Nat.zero_add, decide_eq_false_iff_not, Int.reduceLT, Int.reduceEq, eqD_i, eqD_s, shp_i, shp_s, shp_b, shp_n, Int.reduceLE, Int.reduceMul, Int.reduceAdd, Int.reduceMod, Int.reduceNeg, Int.reduceSub, Int.reduceToNat, reduceCtorEq, false_implies, true_implies, decide_true, decide_false, forall_const, Bool.false_eq_true, Bool.not_eq_true', Bool.and_eq_true, Bool.or_eq_true, addD_i, addD_s, addD_l, addD_t, subD_i, mulD_i, mulD_s, fdivD_i, modD_i, powD_i, ltD_i, ltD_s, leD_i, leD_s, gtD_i, gtD_s, geD_i, geD_s, inD_l, inD_t, inD_s, isBl_b, cmpD_eq, cmpD_ne, cmpD_lt, cmpD_le, cmpD_gt, cmpD_ge, cmpD_in, cmpD_notin, cmpD_isN, cmpD_notN, cmpD_isB, cmpD_notB, isNon_n, isNon_i, isNon_b, isNon_s, isNon_l, isNon_t, items_l, items_t, itemsI_l, itemsI_t, itemsI_s, ixD_l, ixD_t, ixD_s, slD_l, slD_t, slD_s, lenD_l, lenD_t, lenD_s, lenD_d, absD_i, minD_i, maxD_i, minD_1, maxD_1, bestD_c, sortedD_1, listD_1, tupleD_1, allD_l, anyD_l, sumD_l, sumD_t, intD_i, intD_b, boolD_b, boolD_i, joinD_s, retK_sh, retK_nw, retK_bw, kdOf_0, kdOf_1, kdOf_2, inKd_sh, inKd_nw, inKd_bw, inKd_b2, toKd_t, toKd_f, notBw_sh, notBw_nw, notBw_bw, notBw_b2, exact_sh, exact_nw, exact_bw, ownOk_l, ownOk_K, ownOk_T, ownOk_2, tyD_ii, tyD_ib, tyD_is, tyD_in, tyD_il, tyD_it, tyD_bi, tyD_bb, tyD_bs, tyD_bn, tyD_bl, tyD_bt, tyD_si, tyD_sb, tyD_ss, tyD_sn, tyD_sl, tyD_st, tyD_ti, tyD_tb, tyD_ts, tyD_tn, tyD_tl, tyD_tt, tyD_li, tyD_lb, tyD_ls, tyD_ln, tyD_ll, tyD_lt, biD_1, biD_2, biD_3, biD_4, biD_5, biD_6, biD_7, biD_8, biD_9, biD_10, biD_11, biD_12, biD_13, biD_14, biD_15, op2D_1, op2D_2, op2D_3, op2D_4, op2D_5, op2D_6, oR_some, Option.map_some, true_or, false_or, lend_ret, notB2_sh, notB2_nw, notB2_bw, resOk_bl, resOk_int, resOk_non, resOk_str, resOk_l, resOk_t, ixD_map0, ixD_map1, rowD_0, rowD_1, atI_zero, eqD_bl, shp_bl, oR_some]
    exact ⟨s9, rfl⟩
theorem lways_ok {F : List Fn} {fi iLen : Nat} (hf : F[fi]? = some ⟨2, 10, C_lways iLen⟩) (hL : F[iLen]? = some ⟨1, 5, C_lengths⟩) (n : Nat) {names : List Nm} (hn : names.Nodup) {ties : List Tie} (T : TiesOk names ties) (h8 : names.length ≤ 8) {one : Nm} (h1 : one ∈ names) {Rs : List Row} (hR : ∀ p L, Way ties one p L → ((L, p) : Row) ∈ Rs) (hr : Rs.length ≤ 13700) :
    W (run F (n + 2) fi [mapD names ties, .str one]) fun r => ∃ rows : List Row, r = (.lst (rows.map rowD), true) ∧ (∀ r ∈ rows, Way ties one r.2 r.1) ∧ (∀ p L, Way ties one p L → ((L, p) : Row) ∈ rows) ∧ (rows.map (·.2)).Nodup ∧ rows.length ≤ 13700 := by
  have hc : ties.length ≤ 1000 := by have := T.cnt; omega
  have cap : ∀ {l : List Row}, (∀ r ∈ l, Way ties one r.2 r.1) → (l.map (·.2)).Nodup → l.length ≤ 13700 := fun {l} hw hd => by
    have := nodup_le (p := l.map (·.2)) (q := Rs.map (·.2)) hd fun x hx => by
      obtain ⟨r, hr, rfl⟩ := List.mem_map.mp hx
      exact List.mem_map.mpr ⟨_, hR _ _ (hw r hr), rfl⟩
    rw [List.length_map, List.length_map] at this
    omega
  refine run_W hf rfl ?_
  simp only [C_lways]
  simp only [id_eq, R.bind_ok, R.guard_true, ss_cons, ss_nil, Sq, Fl, W_bind, W_ok, W_guard, R.ite_true, R.ite_false, W_ite, evS, evE, evEs, evO, evTs, evIt, strD_i, keyD_i, keyD_s, keysD_n, keysD_c, dgetD_s, dgetD_i, dgetD_t, dinD_s, dinD_i, dinD_t, setPat_v, setPat_t, setPats_n, setPats_c, setSlot, start0, wipeE, ownL, stoD, dstD, rangeD, List.map_cons, List.map_nil, List.cons_append, List.nil_append, List.append_nil, List.length_cons, List.length_nil, List.replicate_succ, List.replicate_zero, List.getElem?_cons_zero, List.getElem?_cons_succ, List.set_cons_zero, List.set_cons_succ, List.all_cons, List.all_nil, Nat.add_sub_cancel, Nat.reduceAdd, Nat.reduceSub, Bool.and_true, Bool.true_and, Bool.and_self, Bool.not_true, Bool.not_false, true_and, and_true, decide_eq_true_eq, Nat.zero_add, decide_eq_false_iff_not, Int.reduceLT, Int.reduceEq, eqD_i, eqD_s, shp_i, shp_s, shp_b, shp_n, Int.reduceLE, Int.reduceMul, Int.reduceAdd, Int.reduceMod, Int.reduceNeg, Int.reduceSub, Int.reduceToNat, reduceCtorEq, false_implies, true_implies, decide_true, decide_false, forall_const, Bool.false_eq_true, Bool.not_eq_true', Bool.and_eq_true, Bool.or_eq_true, addD_i, addD_s, addD_l, addD_t, subD_i, mulD_i, mulD_s, fdivD_i, modD_i, powD_i, ltD_i, ltD_s, leD_i, leD_s, gtD_i, gtD_s, geD_i, geD_s, inD_l, inD_t, inD_s, isBl_b, cmpD_eq, cmpD_ne, cmpD_lt, cmpD_le, cmpD_gt, cmpD_ge, cmpD_in, cmpD_notin, cmpD_isN, cmpD_notN, cmpD_isB, cmpD_notB, isNon_n, isNon_i, isNon_b, isNon_s, isNon_l, isNon_t, items_l, items_t, itemsI_l, itemsI_t, itemsI_s, ixD_l, ixD_t, ixD_s, slD_l, slD_t, slD_s, lenD_l, lenD_t, lenD_s, lenD_d, absD_i, minD_i, maxD_i, minD_1, maxD_1, bestD_c, sortedD_1, listD_1, tupleD_1, allD_l, anyD_l, sumD_l, sumD_t, intD_i, intD_b, boolD_b, boolD_i, joinD_s, retK_sh, retK_nw, retK_bw, kdOf_0, kdOf_1, kdOf_2, inKd_sh, inKd_nw, inKd_bw, inKd_b2, toKd_t, toKd_f, notBw_sh, notBw_nw, notBw_bw, notBw_b2, exact_sh, exact_nw, exact_bw, ownOk_l, ownOk_K, ownOk_T, ownOk_2, tyD_ii, tyD_ib, tyD_is, tyD_in, tyD_il, tyD_it, tyD_bi, tyD_bb, tyD_bs, tyD_bn, tyD_bl, tyD_bt, tyD_si, tyD_sb, tyD_ss, tyD_sn, tyD_sl, tyD_st, tyD_ti, tyD_tb, tyD_ts, tyD_tn, tyD_tl, tyD_tt, tyD_li, tyD_lb, tyD_ls, tyD_ln, tyD_ll, tyD_lt, biD_1, biD_2, biD_3, biD_4, biD_5, biD_6, biD_7, biD_8, biD_9, biD_10, biD_11, biD_12, biD_13, biD_14, biD_15, op2D_1, op2D_2, op2D_3, op2D_4, op2D_5, op2D_6, oR_some, Option.map_some, true_or, false_or, lend_ret, notB2_sh, notB2_nw, notB2_bw, resOk_bl, resOk_int, resOk_non, resOk_str, resOk_l, resOk_t, ixD_map0, ixD_map1, rowD_0, rowD_1, atI_zero, eqD_bl, shp_bl, oR_some]
  refine (lengths_ok hL n T hc).mono fun r ⟨kvs, e, hk, ho⟩ => ?_
  subst e
  have nl : ((names.map D.str).length : Int) = names.length := by rw [List.length_map]
  have en : ((names.length : Int) - 0).toNat = names.length := by omega
  simp only [id_eq, R.bind_ok, R.guard_true, ss_cons, ss_nil, Sq, Fl, W_bind, W_ok, W_guard, R.ite_true, R.ite_false, W_ite, evS, evE, evEs, evO, evTs, evIt, strD_i, keyD_i, keyD_s, keysD_n, keysD_c, dgetD_s, dgetD_i, dgetD_t, dinD_s, dinD_i, dinD_t, setPat_v, setPat_t, setPats_n, setPats_c, setSlot, start0, wipeE, ownL, stoD, dstD, rangeD, List.map_cons, List.map_nil, List.cons_append, List.nil_append, List.append_nil, List.length_cons, List.length_nil, List.replicate_succ, List.replicate_zero, List.getElem?_cons_zero, List.getElem?_cons_succ, List.set_cons_zero, List.set_cons_succ, List.all_cons, List.all_nil, Nat.add_sub_cancel, Nat.reduceAdd, Nat.reduceSub, Bool.and_true, Bool.true_and, Bool.and_self, Bool.not_true, Bool.not_false, true_and, and_true, decide_eq_true_eq, Nat.zero_add, decide_eq_false_iff_not, Int.reduceLT, Int.reduceEq, eqD_i, eqD_s, shp_i, shp_s, shp_b, shp_n, Int.reduceLE, Int.reduceMul, Int.reduceAdd, Int.reduceMod, Int.reduceNeg, Int.reduceSub, Int.reduceToNat, reduceCtorEq, false_implies, true_implies, decide_true, decide_false, forall_const, Bool.false_eq_true, Bool.not_eq_true', Bool.and_eq_true, Bool.or_eq_true, addD_i, addD_s, addD_l, addD_t, subD_i, mulD_i, mulD_s, fdivD_i, modD_i, powD_i, ltD_i, ltD_s, leD_i, leD_s, gtD_i, gtD_s, geD_i, geD_s, inD_l, inD_t, inD_s, isBl_b, cmpD_eq, cmpD_ne, cmpD_lt, cmpD_le, cmpD_gt, cmpD_ge, cmpD_in, cmpD_notin, cmpD_isN, cmpD_notN, cmpD_isB, cmpD_notB, isNon_n, isNon_i, isNon_b, isNon_s, isNon_l, isNon_t, items_l, items_t, itemsI_l, itemsI_t, itemsI_s, ixD_l, ixD_t, ixD_s, slD_l, slD_t, slD_s, lenD_l, lenD_t, lenD_s, lenD_d, absD_i, minD_i, maxD_i, minD_1, maxD_1, bestD_c, sortedD_1, listD_1, tupleD_1, allD_l, anyD_l, sumD_l, sumD_t, intD_i, intD_b, boolD_b, boolD_i, joinD_s, retK_sh, retK_nw, retK_bw, kdOf_0, kdOf_1, kdOf_2, inKd_sh, inKd_nw, inKd_bw, inKd_b2, toKd_t, toKd_f, notBw_sh, notBw_nw, notBw_bw, notBw_b2, exact_sh, exact_nw, exact_bw, ownOk_l, ownOk_K, ownOk_T, ownOk_2, tyD_ii, tyD_ib, tyD_is, tyD_in, tyD_il, tyD_it, tyD_bi, tyD_bb, tyD_bs, tyD_bn, tyD_bl, tyD_bt, tyD_si, tyD_sb, tyD_ss, tyD_sn, tyD_sl, tyD_st, tyD_ti, tyD_tb, tyD_ts, tyD_tn, tyD_tl, tyD_tt, tyD_li, tyD_lb, tyD_ls, tyD_ln, tyD_ll, tyD_lt, biD_1, biD_2, biD_3, biD_4, biD_5, biD_6, biD_7, biD_8, biD_9, biD_10, biD_11, biD_12, biD_13, biD_14, biD_15, op2D_1, op2D_2, op2D_3, op2D_4, op2D_5, op2D_6, oR_some, Option.map_some, true_or, false_or, lend_ret, notB2_sh, notB2_nw, notB2_bw, resOk_bl, resOk_int, resOk_non, resOk_str, resOk_l, resOk_t, ixD_map0, ixD_map1, rowD_0, rowD_1, atI_zero, eqD_bl, shp_bl, oR_some, nl, en]
  refine ⟨by omega, ?_⟩
  refine for_pre (fun pre ρ => ∃ (found last : List Row) (s5 s6 s7 s8 s9 : Option Slot), ρ = [some ⟨mapD names ties, 0⟩, some ⟨.str one, 0⟩, some ⟨.dT kvs, 0⟩, some ⟨.lst (found.map rowD), 1⟩, some ⟨.lst (last.map rowD), 0⟩, s5, s6, s7, s8, s9] ∧ LI ties one pre.length found last) ⟨[(0, [one])], [(0, [one])], none, none, none, none, none, rfl, LI.start ties one⟩ ?_ ?_
  · rintro pre k suf e ρ ⟨found, last, s5, s6, s7, s8, s9, rfl, hI⟩
    have hI2 := hI.turn hn T hk ho
    have c1 := cap (fun r hr => (hI2.way r hr).1) hI2.nd
    have c2 := cap (fun r hr => (hI2.lw r hr).1) hI2.lnd
    simp only [LW_turn]
    simp only [id_eq, R.bind_ok, R.guard_true, ss_cons, ss_nil, Sq, Fl, W_bind, W_ok, W_guard, R.ite_true, R.ite_false, W_ite, evS, evE, evEs, evO, evTs, evIt, strD_i, keyD_i, keyD_s, keysD_n, keysD_c, dgetD_s, dgetD_i, dgetD_t, dinD_s, dinD_i, dinD_t, setPat_v, setPat_t, setPats_n, setPats_c, setSlot, start0, wipeE, ownL, stoD, dstD, rangeD, List.map_cons, List.map_nil, List.cons_append, List.nil_append, List.append_nil, List.length_cons, List.length_nil, List.replicate_succ, List.replicate_zero, List.getElem?_cons_zero, List.getElem?_cons_succ, List.set_cons_zero, List.set_cons_succ, List.all_cons, List.all_nil, Nat.add_sub_cancel, Nat.reduceAdd, Nat.reduceSub, Bool.and_true, Bool.true_and, Bool.and_self, Bool.not_true, Bool.not_false, true_and, and_true, decide_eq_true_eq, Nat.zero_add, decide_eq_false_iff_not, Int.reduceLT, Int.reduceEq, eqD_i, eqD_s, shp_i, shp_s, shp_b, shp_n, Int.reduceLE, Int.reduceMul, Int.reduceAdd, Int.reduceMod, Int.reduceNeg, Int.reduceSub, Int.reduceToNat, reduceCtorEq, false_implies, true_implies, decide_true, decide_false, forall_const, Bool.false_eq_true, Bool.not_eq_true', Bool.and_eq_true, Bool.or_eq_true, addD_i, addD_s, addD_l, addD_t, subD_i, mulD_i, mulD_s, fdivD_i, modD_i, powD_i, ltD_i, ltD_s, leD_i, leD_s, gtD_i, gtD_s, geD_i, geD_s, inD_l, inD_t, inD_s, isBl_b, cmpD_eq, cmpD_ne, cmpD_lt, cmpD_le, cmpD_gt, cmpD_ge, cmpD_in, cmpD_notin, cmpD_isN, cmpD_notN, cmpD_isB, cmpD_notB, isNon_n, isNon_i, isNon_b, isNon_s, isNon_l, isNon_t, items_l, items_t, itemsI_l, itemsI_t, itemsI_s, ixD_l, ixD_t, ixD_s, slD_l, slD_t, slD_s, lenD_l, lenD_t, lenD_s, lenD_d, absD_i, minD_i, maxD_i, minD_1, maxD_1, bestD_c, sortedD_1, listD_1, tupleD_1, allD_l, anyD_l, sumD_l, sumD_t, intD_i, intD_b, boolD_b, boolD_i, joinD_s, retK_sh, retK_nw, retK_bw, kdOf_0, kdOf_1, kdOf_2, inKd_sh, inKd_nw, inKd_bw, inKd_b2, toKd_t, toKd_f, notBw_sh, notBw_nw, notBw_bw, notBw_b2, exact_sh, exact_nw, exact_bw, ownOk_l, ownOk_K, ownOk_T, ownOk_2, tyD_ii, tyD_ib, tyD_is, tyD_in, tyD_il, tyD_it, tyD_bi, tyD_bb, tyD_bs, tyD_bn, tyD_bl, tyD_bt, tyD_si, tyD_sb, tyD_ss, tyD_sn, tyD_sl, tyD_st, tyD_ti, tyD_tb, tyD_ts, tyD_tn, tyD_tl, tyD_tt, tyD_li, tyD_lb, tyD_ls, tyD_ln, tyD_ll, tyD_lt, biD_1, biD_2, biD_3, biD_4, biD_5, biD_6, biD_7, biD_8, biD_9, biD_10, biD_11, biD_12, biD_13, biD_14, biD_15, op2D_1, op2D_2, op2D_3, op2D_4, op2D_5, op2D_6, oR_some, Option.map_some, true_or, false_or, lend_ret, notB2_sh, notB2_nw, notB2_bw, resOk_bl, resOk_int, resOk_non, resOk_str, resOk_l, resOk_t, ixD_map0, ixD_map1, rowD_0, rowD_1, atI_zero, eqD_bl, shp_bl, oR_some]
    refine for_pre (fun pre ρ => ∃ (s7 s8 s9 : Option Slot), ρ = [some ⟨mapD names ties, 0⟩, some ⟨.str one, 0⟩, some ⟨.dT kvs, 0⟩, some ⟨.lst (found.map rowD), 1⟩, some ⟨.lst (last.map rowD), 0⟩, some ⟨.int (0 + k), 0⟩, some ⟨.lst ((pre.flatMap (nxt kvs names)).map rowD), 1⟩, s7, s8, s9]) ⟨_, _, _, rfl⟩ ?_ ?_
    · rintro pre2 r suf2 e2 ρ ⟨s7, s8, s9, rfl⟩
      obtain ⟨L, p⟩ := r
      have hm : ((L, p) : Row) ∈ last := by rw [e2]; exact List.mem_append.mpr (.inr List.mem_cons_self)
      have hw := (hI.lw _ hm).1
      obtain ⟨a, q, e3⟩ := hw.cons
      simp only at e3
      subst e3
      have ql := nodup_le hw.nodup (hw.in_names T h1)
      rw [List.length_cons] at ql
      have bl : (pre2.flatMap (nxt kvs names)).length + (nxt kvs names (L, a :: q)).length ≤ 13700 := by
        rw [e2, List.flatMap_append, List.length_append, List.flatMap_cons, List.length_append] at c2
        omega
      simp only [id_eq, R.bind_ok, R.guard_true, ss_cons, ss_nil, Sq, Fl, W_bind, W_ok, W_guard, R.ite_true, R.ite_false, W_ite, evS, evE, evEs, evO, evTs, evIt, strD_i, keyD_i, keyD_s, keysD_n, keysD_c, dgetD_s, dgetD_i, dgetD_t, dinD_s, dinD_i, dinD_t, setPat_v, setPat_t, setPats_n, setPats_c, setSlot, start0, wipeE, ownL, stoD, dstD, rangeD, List.map_cons, List.map_nil, List.cons_append, List.nil_append, List.append_nil, List.length_cons, List.length_nil, List.replicate_succ, List.replicate_zero, List.getElem?_cons_zero, List.getElem?_cons_succ, List.set_cons_zero, List.set_cons_succ, List.all_cons, List.all_nil, Nat.add_sub_cancel, Nat.reduceAdd, Nat.reduceSub, Bool.and_true, Bool.true_and, Bool.and_self, Bool.not_true, Bool.not_false, true_and, and_true, decide_eq_true_eq, Nat.zero_add, decide_eq_false_iff_not, Int.reduceLT, Int.reduceEq, eqD_i, eqD_s, shp_i, shp_s, shp_b, shp_n, Int.reduceLE, Int.reduceMul, Int.reduceAdd, Int.reduceMod, Int.reduceNeg, Int.reduceSub, Int.reduceToNat, reduceCtorEq, false_implies, true_implies, decide_true, decide_false, forall_const, Bool.false_eq_true, Bool.not_eq_true', Bool.and_eq_true, Bool.or_eq_true, addD_i, addD_s, addD_l, addD_t, subD_i, mulD_i, mulD_s, fdivD_i, modD_i, powD_i, ltD_i, ltD_s, leD_i, leD_s, gtD_i, gtD_s, geD_i, geD_s, inD_l, inD_t, inD_s, isBl_b, cmpD_eq, cmpD_ne, cmpD_lt, cmpD_le, cmpD_gt, cmpD_ge, cmpD_in, cmpD_notin, cmpD_isN, cmpD_notN, cmpD_isB, cmpD_notB, isNon_n, isNon_i, isNon_b, isNon_s, isNon_l, isNon_t, items_l, items_t, itemsI_l, itemsI_t, itemsI_s, ixD_l, ixD_t, ixD_s, slD_l, slD_t, slD_s, lenD_l, lenD_t, lenD_s, lenD_d, absD_i, minD_i, maxD_i, minD_1, maxD_1, bestD_c, sortedD_1, listD_1, tupleD_1, allD_l, anyD_l, sumD_l, sumD_t, intD_i, intD_b, boolD_b, boolD_i, joinD_s, retK_sh, retK_nw, retK_bw, kdOf_0, kdOf_1, kdOf_2, inKd_sh, inKd_nw, inKd_bw, inKd_b2, toKd_t, toKd_f, notBw_sh, notBw_nw, notBw_bw, notBw_b2, exact_sh, exact_nw, exact_bw, ownOk_l, ownOk_K, ownOk_T, ownOk_2, tyD_ii, tyD_ib, tyD_is, tyD_in, tyD_il, tyD_it, tyD_bi, tyD_bb, tyD_bs, tyD_bn, tyD_bl, tyD_bt, tyD_si, tyD_sb, tyD_ss, tyD_sn, tyD_sl, tyD_st, tyD_ti, tyD_tb, tyD_ts, tyD_tn, tyD_tl, tyD_tt, tyD_li, tyD_lb, tyD_ls, tyD_ln, tyD_ll, tyD_lt, biD_1, biD_2, biD_3, biD_4, biD_5, biD_6, biD_7, biD_8, biD_9, biD_10, biD_11, biD_12, biD_13, biD_14, biD_15, op2D_1, op2D_2, op2D_3, op2D_4, op2D_5, op2D_6, oR_some, Option.map_some, true_or, false_or, lend_ret, notB2_sh, notB2_nw, notB2_bw, resOk_bl, resOk_int, resOk_non, resOk_str, resOk_l, resOk_t, ixD_map0, ixD_map1, rowD_0, rowD_1, atI_zero, eqD_bl, shp_bl, oR_some, rowD]
      refine (lw_mid hk ho (by omega) bl).mono ?_
      rintro o ⟨s9, rfl⟩
      simp only [id_eq, R.bind_ok, R.guard_true, ss_cons, ss_nil, Sq, Fl, W_bind, W_ok, W_guard, R.ite_true, R.ite_false, W_ite, evS, evE, evEs, evO, evTs, evIt, strD_i, keyD_i, keyD_s, keysD_n, keysD_c, dgetD_s, dgetD_i, dgetD_t, dinD_s, dinD_i, dinD_t, setPat_v, setPat_t, setPats_n, setPats_c, setSlot, start0, wipeE, ownL, stoD, dstD, rangeD, List.map_cons, List.map_nil, List.cons_append, List.nil_append, List.append_nil, List.length_cons, List.length_nil, List.replicate_succ, List.replicate_zero, List.getElem?_cons_zero, List.getElem?_cons_succ, List.set_cons_zero, List.set_cons_succ, List.all_cons, List.all_nil, Nat.add_sub_cancel, Nat.reduceAdd, Nat.reduceSub, Bool.and_true, Bool.true_and, Bool.and_self, Bool.not_true, Bool.not_false, true_and, and_true, decide_eq_true_eq, Nat.zero_add, decide_eq_false_iff_not, Int.reduceLT, Int.reduceEq, eqD_i, eqD_s, shp_i, shp_s, shp_b, shp_n, Int.reduceLE, Int.reduceMul, Int.reduceAdd, Int.reduceMod, Int.reduceNeg, Int.reduceSub, Int.reduceToNat, reduceCtorEq, false_implies, true_implies, decide_true, decide_false, forall_const, Bool.false_eq_true, Bool.not_eq_true', Bool.and_eq_true, Bool.or_eq_true, addD_i, addD_s, addD_l, addD_t, subD_i, mulD_i, mulD_s, fdivD_i, modD_i, powD_i, ltD_i, ltD_s, leD_i, leD_s, gtD_i, gtD_s, geD_i, geD_s, inD_l, inD_t, inD_s, isBl_b, cmpD_eq, cmpD_ne, cmpD_lt, cmpD_le, cmpD_gt, cmpD_ge, cmpD_in, cmpD_notin, cmpD_isN, cmpD_notN, cmpD_isB, cmpD_notB, isNon_n, isNon_i, isNon_b, isNon_s, isNon_l, isNon_t, items_l, items_t, itemsI_l, itemsI_t, itemsI_s, ixD_l, ixD_t, ixD_s, slD_l, slD_t, slD_s, lenD_l, lenD_t, lenD_s, lenD_d, absD_i, minD_i, maxD_i, minD_1, maxD_1, bestD_c, sortedD_1, listD_1, tupleD_1, allD_l, anyD_l, sumD_l, sumD_t, intD_i, intD_b, boolD_b, boolD_i, joinD_s, retK_sh, retK_nw, retK_bw, kdOf_0, kdOf_1, kdOf_2, inKd_sh, inKd_nw, inKd_bw, inKd_b2, toKd_t, toKd_f, notBw_sh, notBw_nw, notBw_bw, notBw_b2, exact_sh, exact_nw, exact_bw, ownOk_l, ownOk_K, ownOk_T, ownOk_2, tyD_ii, tyD_ib, tyD_is, tyD_in, tyD_il, tyD_it, tyD_bi, tyD_bb, tyD_bs, tyD_bn, tyD_bl, tyD_bt, tyD_si, tyD_sb, tyD_ss, tyD_sn, tyD_sl, tyD_st, tyD_ti, tyD_tb, tyD_ts, tyD_tn, tyD_tl, tyD_tt, tyD_li, tyD_lb, tyD_ls, tyD_ln, tyD_ll, tyD_lt, biD_1, biD_2, biD_3, biD_4, biD_5, biD_6, biD_7, biD_8, biD_9, biD_10, biD_11, biD_12, biD_13, biD_14, biD_15, op2D_1, op2D_2, op2D_3, op2D_4, op2D_5, op2D_6, oR_some, Option.map_some, true_or, false_or, lend_ret, notB2_sh, notB2_nw, notB2_bw, resOk_bl, resOk_int, resOk_non, resOk_str, resOk_l, resOk_t, ixD_map0, ixD_map1, rowD_0, rowD_1, atI_zero, eqD_bl, shp_bl, oR_some]
      exact ⟨_, _, _, by rw [List.flatMap_append, List.flatMap_cons, List.flatMap_nil, List.append_nil]⟩
    · rintro ρ ⟨s7, s8, s9, rfl⟩
      simp only [id_eq, R.bind_ok, R.guard_true, ss_cons, ss_nil, Sq, Fl, W_bind, W_ok, W_guard, R.ite_true, R.ite_false, W_ite, evS, evE, evEs, evO, evTs, evIt, strD_i, keyD_i, keyD_s, keysD_n, keysD_c, dgetD_s, dgetD_i, dgetD_t, dinD_s, dinD_i, dinD_t, setPat_v, setPat_t, setPats_n, setPats_c, setSlot, start0, wipeE, ownL, stoD, dstD, rangeD, List.map_cons, List.map_nil, List.cons_append, List.nil_append, List.append_nil, List.length_cons, List.length_nil, List.replicate_succ, List.replicate_zero, List.getElem?_cons_zero, List.getElem?_cons_succ, List.set_cons_zero, List.set_cons_succ, List.all_cons, List.all_nil, Nat.add_sub_cancel, Nat.reduceAdd, Nat.reduceSub, Bool.and_true, Bool.true_and, Bool.and_self, Bool.not_true, Bool.not_false, true_and, and_true, decide_eq_true_eq, Nat.zero_add, decide_eq_false_iff_not, Int.reduceLT, Int.reduceEq, eqD_i, eqD_s, shp_i, shp_s, shp_b, shp_n, Int.reduceLE, Int.reduceMul, Int.reduceAdd, Int.reduceMod, Int.reduceNeg, Int.reduceSub, Int.reduceToNat, reduceCtorEq, false_implies, true_implies, decide_true, decide_false, forall_const, Bool.false_eq_true, Bool.not_eq_true', Bool.and_eq_true, Bool.or_eq_true, addD_i, addD_s, addD_l, addD_t, subD_i, mulD_i, mulD_s, fdivD_i, modD_i, powD_i, ltD_i, ltD_s, leD_i, leD_s, gtD_i, gtD_s, geD_i, geD_s, inD_l, inD_t, inD_s, isBl_b, cmpD_eq, cmpD_ne, cmpD_lt, cmpD_le, cmpD_gt, cmpD_ge, cmpD_in, cmpD_notin, cmpD_isN, cmpD_notN, cmpD_isB, cmpD_notB, isNon_n, isNon_i, isNon_b, isNon_s, isNon_l, isNon_t, items_l, items_t, itemsI_l, itemsI_t, itemsI_s, ixD_l, ixD_t, ixD_s, slD_l, slD_t, slD_s, lenD_l, lenD_t, lenD_s, lenD_d, absD_i, minD_i, maxD_i, minD_1, maxD_1, bestD_c, sortedD_1, listD_1, tupleD_1, allD_l, anyD_l, sumD_l, sumD_t, intD_i, intD_b, boolD_b, boolD_i, joinD_s, retK_sh, retK_nw, retK_bw, kdOf_0, kdOf_1, kdOf_2, inKd_sh, inKd_nw, inKd_bw, inKd_b2, toKd_t, toKd_f, notBw_sh, notBw_nw, notBw_bw, notBw_b2, exact_sh, exact_nw, exact_bw, ownOk_l, ownOk_K, ownOk_T, ownOk_2, tyD_ii, tyD_ib, tyD_is, tyD_in, tyD_il, tyD_it, tyD_bi, tyD_bb, tyD_bs, tyD_bn, tyD_bl, tyD_bt, tyD_si, tyD_sb, tyD_ss, tyD_sn, tyD_sl, tyD_st, tyD_ti, tyD_tb, tyD_ts, tyD_tn, tyD_tl, tyD_tt, tyD_li, tyD_lb, tyD_ls, tyD_ln, tyD_ll, tyD_lt, biD_1, biD_2, biD_3, biD_4, biD_5, biD_6, biD_7, biD_8, biD_9, biD_10, biD_11, biD_12, biD_13, biD_14, biD_15, op2D_1, op2D_2, op2D_3, op2D_4, op2D_5, op2D_6, oR_some, Option.map_some, true_or, false_or, lend_ret, notB2_sh, notB2_nw, notB2_bw, resOk_bl, resOk_int, resOk_non, resOk_str, resOk_l, resOk_t, ixD_map0, ixD_map1, rowD_0, rowD_1, atI_zero, eqD_bl, shp_bl, oR_some]
      refine ⟨?_, found ++ last.flatMap (nxt kvs names), last.flatMap (nxt kvs names), _, _, _, _, _, ⟨by rw [List.map_append], ?_⟩⟩
      · rw [List.length_append] at c1
        rw [List.length_map, List.length_map]; simp only [line]; omega
      · rw [List.length_append]
        exact hI2
  · rintro ρ ⟨found, last, s5, s6, s7, s8, s9, rfl, hI⟩
    simp only [id_eq, R.bind_ok, R.guard_true, ss_cons, ss_nil, Sq, Fl, W_bind, W_ok, W_guard, R.ite_true, R.ite_false, W_ite, evS, evE, evEs, evO, evTs, evIt, strD_i, keyD_i, keyD_s, keysD_n, keysD_c, dgetD_s, dgetD_i, dgetD_t, dinD_s, dinD_i, dinD_t, setPat_v, setPat_t, setPats_n, setPats_c, setSlot, start0, wipeE, ownL, stoD, dstD, rangeD, List.map_cons, List.map_nil, List.cons_append, List.nil_append, List.append_nil, List.length_cons, List.length_nil, List.replicate_succ, List.replicate_zero, List.getElem?_cons_zero, List.getElem?_cons_succ, List.set_cons_zero, List.set_cons_succ, List.all_cons, List.all_nil, Nat.add_sub_cancel, Nat.reduceAdd, Nat.reduceSub, Bool.and_true, Bool.true_and, Bool.and_self, Bool.not_true, Bool.not_false, true_and, and_true, decide_eq_true_eq, Nat.zero_add, decide_eq_false_iff_not, Int.reduceLT, Int.reduceEq, eqD_i, eqD_s, shp_i, shp_s, shp_b, shp_n, Int.reduceLE, Int.reduceMul, Int.reduceAdd, Int.reduceMod, Int.reduceNeg, Int.reduceSub, Int.reduceToNat, reduceCtorEq, false_implies, true_implies, decide_true, decide_false, forall_const, Bool.false_eq_true, Bool.not_eq_true', Bool.and_eq_true, Bool.or_eq_true, addD_i, addD_s, addD_l, addD_t, subD_i, mulD_i, mulD_s, fdivD_i, modD_i, powD_i, ltD_i, ltD_s, leD_i, leD_s, gtD_i, gtD_s, geD_i, geD_s, inD_l, inD_t, inD_s, isBl_b, cmpD_eq, cmpD_ne, cmpD_lt, cmpD_le, cmpD_gt, cmpD_ge, cmpD_in, cmpD_notin, cmpD_isN, cmpD_notN, cmpD_isB, cmpD_notB, isNon_n, isNon_i, isNon_b, isNon_s, isNon_l, isNon_t, items_l, items_t, itemsI_l, itemsI_t, itemsI_s, ixD_l, ixD_t, ixD_s, slD_l, slD_t, slD_s, lenD_l, lenD_t, lenD_s, lenD_d, absD_i, minD_i, maxD_i, minD_1, maxD_1, bestD_c, sortedD_1, listD_1, tupleD_1, allD_l, anyD_l, sumD_l, sumD_t, intD_i, intD_b, boolD_b, boolD_i, joinD_s, retK_sh, retK_nw, retK_bw, kdOf_0, kdOf_1, kdOf_2, inKd_sh, inKd_nw, inKd_bw, inKd_b2, toKd_t, toKd_f, notBw_sh, notBw_nw, notBw_bw, notBw_b2, exact_sh, exact_nw, exact_bw, ownOk_l, ownOk_K, ownOk_T, ownOk_2, tyD_ii, tyD_ib, tyD_is, tyD_in, tyD_il, tyD_it, tyD_bi, tyD_bb, tyD_bs, tyD_bn, tyD_bl, tyD_bt, tyD_si, tyD_sb, tyD_ss, tyD_sn, tyD_sl, tyD_st, tyD_ti, tyD_tb, tyD_ts, tyD_tn, tyD_tl, tyD_tt, tyD_li, tyD_lb, tyD_ls, tyD_ln, tyD_ll, tyD_lt, biD_1, biD_2, biD_3, biD_4, biD_5, biD_6, biD_7, biD_8, biD_9, biD_10, biD_11, biD_12, biD_13, biD_14, biD_15, op2D_1, op2D_2, op2D_3, op2D_4, op2D_5, op2D_6, oR_some, Option.map_some, true_or, false_or, lend_ret, notB2_sh, notB2_nw, notB2_bw, resOk_bl, resOk_int, resOk_non, resOk_str, resOk_l, resOk_t, ixD_map0, ixD_map1, rowD_0, rowD_1, atI_zero, eqD_bl, shp_bl, oR_some]
    rw [List.length_range] at hI
    refine ⟨found, rfl, fun r hr => (hI.way r hr).1, fun p L w => hI.all p L w ?_, hI.nd, cap (fun r hr => (hI.way r hr).1) hI.nd⟩
    have := nodup_le w.nodup (w.in_names T h1)
    omega
end Fw

namespace Law
open PySem L2 Fw
abbrev sq (l : List Nat) : Str := ⟨l.toArray⟩
def top (i : Nat) : Stmt := PySem.Challenge.pw_leastcarry_k07_all_ways.main.body.getD i (.Pass ⟨0, 0, 0, 0⟩)
abbrev s_beside : Stmt := top 4
abbrev N_beside : List Str := ["ties", "name", "ahead", "one", "other", "length"]
def b_beside : List S := [.asg (.v 2) (.lc [3, 4, 5] (.v 4) (.t [.v 3, .v 4, .v 5]) (.seq (.v 0)) [.cmp .eq (.v 3) (.v 1)]) 0, .ret (.bi .sorted [.op .add (.v 2) (.lc [3, 4, 5] (.v 3) (.t [.v 3, .v 4, .v 5]) (.seq (.v 0)) [.cmp .eq (.v 4) (.v 1)])])]
abbrev s_check_place : Stmt := top 6
abbrev N_check_place : List Str := ["the_map", "name"]
def b_check_place : List S := [.ite (.cmp .notin (.v 1) (.ix (.v 0) (.k (.int 0)))) [.never] []]
abbrev s_lengths_of : Stmt := top 7
abbrev N_lengths_of : List Str := ["the_map", "found", "one", "other", "length"]
def b_lengths_of : List S := [.asg (.v 1) (.dict0 true) 1, .for_ (.t [.v 2, .v 3, .v 4]) (.seq (.ix (.v 0) (.k (.int 1)))) [.dst 1 (.tup [.v 2, .v 3]) (.v 4), .dst 1 (.tup [.v 3, .v 2]) (.v 4)], .ret (.v 1)]
abbrev s_ways_from : Stmt := top 8
abbrev N_ways_from : List Str := ["the_map", "one", "lengths", "found", "at", "length", "way", "name"]
def b_ways_from : List S := [.asg (.v 2) (.call 2 [.v 0]) 0, .asg (.v 3) (.lst [.tup [.k (.int 0), .tup [.v 1]]]) 1, .asg (.v 4) (.k (.int 0)) 0, .whl (.cmp .lt (.v 4) (.bi .len [.v 3])) [.asg (.t [.v 5, .v 6]) (.ix (.v 3) (.v 4)) 0, .for_ (.v 7) (.seq (.call 0 [.ix (.v 0) (.k (.int 1)), .ix (.v 6) (.neg (.k (.int 1)))])) [.ite (.cmp .notin (.v 7) (.v 6)) [.app 3 (.tup [.op .add (.v 5) (.dget (.v 2) (.tup [.ix (.v 6) (.neg (.k (.int 1))), .v 7])), .op .add (.v 6) (.tup [.v 7])])] []], .asg (.v 4) (.op .add (.v 4) (.k (.int 1))) 0], .ret (.v 3)]
abbrev s_ways_between : Stmt := top 9
abbrev N_ways_between : List Str := ["the_map", "one", "other", "row"]
def b_ways_between : List S := [.ex (.call 1 [.v 0, .v 1]), .ex (.call 1 [.v 0, .v 2]), .ret (.bi .sorted [.lc [3] (.v 3) (.v 3) (.seq (.call 3 [.v 0, .v 1])) [.cmp .eq (.ix (.ix (.v 3) (.k (.int 1))) (.neg (.k (.int 1)))) (.v 2)]])]
abbrev s__law_cell : Stmt := top 11
abbrev N__law_cell : List Str := ["_law_script", "_law_k", "_law_state", "_law_cell_here"]
def b__law_cell : List S := [.ite (.cmp .lt (.v 1) (.bi .len [.v 0])) [.ret (.ix (.v 0) (.v 1))] [], .asg (.v 2) (.op .mod (.op .mul (.k (.int 48271)) (.op .add (.op .add (.op .mul (.v 1) (.v 1)) (.op .mul (.k (.int 7)) (.v 1))) (.k (.int 11)))) (.k (.int 2147483647))) 0, .for_ (.v 3) (.seq (.sl (.v 0) (none) (some (.k (.int 3))))) [.asg (.v 2) (.op .mod (.op .add (.op .mul (.v 2) (.k (.int 69621))) (.v 3)) (.k (.int 2147483647))) 0], .ret (.v 2)]
abbrev s__law_numbers : Stmt := top 12
abbrev N__law_numbers : List Str := ["_law_cell_here", "_law_many", "_law_found", "_law_state", "_law_digits", "_law_k"]
def b__law_numbers : List S := [.asg (.v 2) (.lst []) 1, .asg (.v 3) (.op .mod (.op .mul (.op .add (.op .mod (.v 0) (.k (.int 1999999973))) (.k (.int 31))) (.k (.int 765432101))) (.k (.int 1999999973))) 0, .asg (.v 4) (.k (.int 0)) 0, .ite (.or (.cmp .lt (.v 0) (.k (.int 0))) (.cmp .ge (.v 0) (.op .pow (.k (.int 10)) (.k (.int 18))))) [.asg (.v 4) (.bi .abs [.v 0]) 0] [], .for_ (.v 5) (.rng1 (.v 1)) [.asg (.v 3) (.op .mod (.op .add (.op .add (.op .mul (.v 3) (.op .add (.op .mod (.v 3) (.k (.int 65521))) (.k (.int 40487)))) (.op .mul (.k (.int 7)) (.v 5))) (.k (.int 5))) (.k (.int 1999999973))) 0, .app 2 (.ix (.lst [.v 3, .op .mod (.v 4) (.k (.int 1000000))]) (.bi .int [.cmp .gt (.v 4) (.k (.int 0))])), .asg (.v 4) (.op .fdiv (.v 4) (.k (.int 1000000))) 0], .ret (.v 2)]
abbrev s__law_names : Stmt := top 13
abbrev N__law_names : List Str := ["_law_xs", "_law_many", "_law_letters", "_law_found", "_law_k", "_law_name", "_law_tail", "_law_stem", "_law_at", "_law_amid"]
def b__law_names : List S := [.asg (.v 2) (.k (.str (sq [97, 98, 99, 100, 101, 102, 103, 104, 105, 106, 107, 108, 109, 110, 111, 112, 113, 114, 115, 116, 117, 118, 119, 120, 121, 122]))) 0, .asg (.v 3) (.lst []) 1, .for_ (.v 4) (.rng1 (.v 1)) [.asg (.v 5) (.ix (.v 2) (.op .mod (.op .add (.ix (.v 0) (.k (.int 0))) (.op .mul (.k (.int 7)) (.v 4))) (.k (.int 26)))) 0, .ite (.cmp .eq (.op .mod (.ix (.v 0) (.k (.int 1))) (.k (.int 5))) (.k (.int 1))) [.asg (.v 5) (.op .add (.ix (.k (.str (sq [97, 98, 99, 100, 101, 102, 103, 104]))) (.v 4)) (.op .mul (.ix (.v 2) (.op .mod (.ix (.v 0) (.k (.int 2))) (.k (.int 26)))) (.op .mod (.ix (.v 0) (.k (.int 3))) (.k (.int 8))))) 0] [], .ite (.cmp .eq (.op .mod (.ix (.v 0) (.k (.int 1))) (.k (.int 5))) (.k (.int 2))) [.asg (.v 5) (.op .mul (.ix (.v 2) (.op .mod (.ix (.v 0) (.k (.int 2))) (.k (.int 26)))) (.op .add (.k (.int 1)) (.v 4))) 0] [], .ite (.cmp .eq (.op .mod (.ix (.v 0) (.k (.int 1))) (.k (.int 5))) (.k (.int 3))) [.asg (.v 6) (.op .mul (.ix (.v 2) (.op .mod (.ix (.v 0) (.k (.int 3))) (.k (.int 26)))) (.op .mod (.op .add (.ix (.v 0) (.k (.int 4))) (.v 4)) (.k (.int 7)))) 0, .asg (.v 5) (.op .add (.ix (.v 2) (.op .mod (.op .add (.ix (.v 0) (.k (.int 2))) (.op .mul (.k (.int 3)) (.v 4))) (.k (.int 26)))) (.v 6)) 0] [], .ite (.cmp .eq (.op .mod (.ix (.v 0) (.k (.int 1))) (.k (.int 5))) (.k (.int 4))) [.asg (.v 7) (.op .mul (.ix (.v 2) (.op .mod (.ix (.v 0) (.k (.int 3))) (.k (.int 26)))) (.op .mod (.ix (.v 0) (.k (.int 4))) (.k (.int 8)))) 0, .asg (.v 8) (.op .mod (.op .fdiv (.ix (.v 0) (.k (.int 4))) (.k (.int 8))) (.op .add (.bi .len [.v 7]) (.k (.int 1)))) 0, .asg (.v 9) (.ix (.v 2) (.op .mod (.op .add (.ix (.v 0) (.k (.int 2))) (.op .mul (.k (.int 3)) (.v 4))) (.k (.int 26)))) 0, .asg (.v 5) (.op .add (.op .add (.sl (.v 7) (none) (some (.v 8))) (.v 9)) (.sl (.v 7) (some (.v 8)) (none))) 0] [], .app 3 (.v 5)], .ret (.bi .sorted [.v 3])]
abbrev s__law_ends : Stmt := top 14
abbrev N__law_ends : List Str := ["_law_kind", "_law_many", "_law_xs", "_law_ends_here", "_law_around", "_law_k"]
def b__law_ends : List S := [.asg (.v 3) (.lst []) 1, .asg (.v 4) (.k (.int 0)) 0, .ite (.and (.cmp .eq (.v 0) (.k (.int 2))) (.cmp .gt (.v 1) (.k (.int 2)))) [.asg (.v 4) (.op .add (.k (.int 3)) (.op .mod (.ix (.v 2) (.k (.int 8))) (.op .sub (.v 1) (.k (.int 2))))) 0, .app 3 (.tup [.op .sub (.v 4) (.k (.int 1)), .k (.int 0)])] [], .for_ (.v 5) (.rng2 (.k (.int 1)) (.v 1)) [.ite (.or (.cmp .eq (.v 0) (.k (.int 1))) (.cmp .lt (.v 5) (.v 4))) [.app 3 (.tup [.op .sub (.v 5) (.k (.int 1)), .v 5])] [.app 3 (.tup [.op .mod (.ix (.v 2) (.v 5)) (.v 5), .v 5])]], .ret (.v 3)]
abbrev s__law_map : Stmt := top 15
abbrev N__law_map : List Str := ["_law_script", "_law_at", "_law_most", "_law_head", "_law_xs", "_law_many", "_law_names_here", "_law_order", "_law_left", "_law_k", "_law_ties", "_law_one", "_law_other", "_law_length"]
def b__law_map : List S := [.asg (.v 3) (.call 6 [.call 5 [.v 0, .v 1], .k (.int 12)]) 0, .asg (.v 4) (.call 6 [.call 5 [.v 0, .op .add (.v 1) (.k (.int 1))], .k (.int 20)]) 0, .asg (.v 5) (.op .add (.k (.int 1)) (.op .mod (.ix (.v 3) (.k (.int 7))) (.v 2))) 0, .asg (.v 6) (.call 7 [.v 3, .v 5]) 0, .asg (.v 7) (.lst []) 1, .asg (.v 8) (.bi .list [.v 6]) 1, .for_ (.v 9) (.rng1 (.v 5)) [.appPop 7 8 (.op .mod (.op .fdiv (.ix (.v 3) (.k (.int 8))) (.op .add (.v 9) (.k (.int 1)))) (.bi .len [.v 8]))], .asg (.v 10) (.lst []) 1, .for_ (.t [.v 9, .t [.v 11, .v 12]]) (.enum (.call 8 [.ix (.lst [.k (.int 0), .k (.int 1), .k (.int 2), .k (.int 2)]) (.op .mod (.ix (.v 3) (.k (.int 5))) (.k (.int 4))), .v 5, .v 4])) [.asg (.v 13) (.op .add (.k (.int 1)) (.op .mod (.ix (.v 4) (.op .add (.k (.int 9)) (.v 9))) (.ix (.lst [.k (.int 3), .k (.int 9), .k (.int 50)]) (.op .mod (.ix (.v 3) (.k (.int 6))) (.k (.int 3)))))) 0, .app 10 (.op .add (.bi .tuple [.bi .sorted [.lst [.ix (.v 7) (.v 11), .ix (.v 7) (.v 12)]]]) (.tup [.v 13]))], .ret (.tup [.bi .tuple [.v 6], .bi .tuple [.bi .sorted [.v 10]]])]
abbrev s__law_whole : Stmt := top 16
abbrev N__law_whole : List Str := ["_law_thing"]
def b__law_whole : List S := [.ret (.and (.isi (.v 0) .int) (.not (.isi (.v 0) .bool)))]
abbrev s__law_lengths : Stmt := top 17
abbrev N__law_lengths : List Str := ["_law_spot", "_law_found", "_law_one", "_law_other", "_law_length"]
def b__law_lengths : List S := [.asg (.v 1) (.dict0 true) 1, .for_ (.t [.v 2, .v 3, .v 4]) (.seq (.ix (.v 0) (.k (.int 1)))) [.dst 1 (.tup [.v 2, .v 3]) (.v 4), .dst 1 (.tup [.v 3, .v 2]) (.v 4)], .ret (.v 1)]
abbrev s__law_ways : Stmt := top 18
abbrev N__law_ways : List Str := ["_law_spot", "_law_one", "_law_lengths_here", "_law_found", "_law_last", "_law_turn", "_law_longer", "_law_length", "_law_way", "_law_name"]
def b__law_ways : List S := [.asg (.v 2) (.call 11 [.v 0]) 0, .asg (.v 3) (.lst [.tup [.k (.int 0), .tup [.v 1]]]) 1, .asg (.v 4) (.bi .list [.v 3]) 0, .for_ (.v 5) (.rng1 (.bi .len [.ix (.v 0) (.k (.int 0))])) [.asg (.v 6) (.lst []) 1, .for_ (.t [.v 7, .v 8]) (.seq (.v 4)) [.for_ (.v 9) (.seq (.ix (.v 0) (.k (.int 0)))) [.ite (.and (.cmp .notin (.v 9) (.v 8)) (.din (.tup [.ix (.v 8) (.op .sub (.bi .len [.v 8]) (.k (.int 1))), .v 9]) (.v 2))) [.app 6 (.tup [.op .add (.v 7) (.dget (.v 2) (.tup [.ix (.v 8) (.op .sub (.bi .len [.v 8]) (.k (.int 1))), .v 9])), .op .add (.v 8) (.tup [.v 9])])] []]], .ext 3 (.v 6), .frz 6, .asg (.v 4) (.v 6) 0], .ret (.v 3)]
abbrev s__law_right : Stmt := top 19
abbrev N__law_right : List Str := ["_law_spot", "_law_one", "_law_other", "_law_ways_here", "_law_due", "_law_found", "_law_row", "_law_kept", "_law_length", "_law_way"]
def b__law_right : List S := [.asg (.v 4) (.bi .sorted [.lc [6] (.v 6) (.v 6) (.seq (.v 3)) [.cmp .eq (.ix (.ix (.v 6) (.k (.int 1))) (.op .sub (.bi .len [.ix (.v 6) (.k (.int 1))]) (.k (.int 1)))) (.v 2)]]) 0, .asg (.v 5) (.call 4 [.v 0, .v 1, .v 2]) 1, .ite (.or (.not (.isi (.v 5) .list)) (.or (.cmp .ne (.v 5) (.v 4)) (.not (.chain .lt .lt (.k (.int 0)) (.bi .len [.v 5]) (.k (.int 3)))))) [.ret (.k (.bl false))] [], .for_ (.v 6) (.seq (.v 5)) [.ite (.or (.not (.isi (.v 6) .tuple)) (.or (.not (.call 10 [.ix (.v 6) (.k (.int 0))])) (.not (.isi (.ix (.v 6) (.k (.int 1))) .tuple)))) [.ret (.k (.bl false))] []], .ite (.and (.cmp .lt (.bi .len [.ix (.v 0) (.k (.int 1))]) (.bi .len [.ix (.v 0) (.k (.int 0))])) (.cmp .ne (.bi .len [.v 5]) (.k (.int 1)))) [.ret (.k (.bl false))] [], .ite (.cmp .ne (.bi .sorted [.lc [8, 9] (.tup [.v 8, .rev (.v 9)]) (.t [.v 8, .v 9]) (.seq (.v 5)) []]) (.call 4 [.v 0, .v 2, .v 1])) [.ret (.k (.bl false))] [], .asg (.v 7) (.call 4 [.v 0, .v 2, .v 2]) 0, .m0 .rev 5, .app 5 (.tup [.k (.int 0), .tup []]), .ret (.and (.cmp .eq (.call 4 [.v 0, .v 1, .v 2]) (.v 4)) (.cmp .eq (.v 7) (.lst [.tup [.k (.int 0), .tup [.v 2]]])))]
abbrev s_law : Stmt := top 20
abbrev N_law : List Str := ["_law_script", "_law_spot", "_law_one", "_law_ways_here", "_law_other"]
def b_law : List S := [.asg (.v 1) (.call 9 [.v 0, .k (.int 0), .k (.int 8)]) 0, .for_ (.v 2) (.seq (.ix (.v 1) (.k (.int 0)))) [.asg (.v 3) (.call 12 [.v 1, .v 2]) 0, .ite (.not (.bi .all [.lc [4] (.call 13 [.v 1, .v 2, .v 4, .v 3]) (.v 4) (.seq (.ix (.v 1) (.k (.int 0)))) []])) [.ret (.k (.bl false))] []], .ret (.k (.bl true))]
def Fs : List Fn := [⟨2, 6, b_beside⟩, ⟨2, 2, b_check_place⟩, ⟨1, 5, b_lengths_of⟩, ⟨2, 8, b_ways_from⟩, ⟨3, 4, b_ways_between⟩, ⟨2, 4, b__law_cell⟩, ⟨2, 6, b__law_numbers⟩, ⟨2, 10, b__law_names⟩, ⟨3, 6, b__law_ends⟩, ⟨3, 14, b__law_map⟩, ⟨1, 1, b__law_whole⟩, ⟨1, 5, b__law_lengths⟩, ⟨2, 10, b__law_ways⟩, ⟨4, 10, b__law_right⟩, ⟨1, 5, b_law⟩]
abbrev bis : List Str := ["abs", "all", "bool", "enumerate", "int", "isinstance", "len", "list", "range", "sorted", "tuple"]
abbrev kis : List (Str × Int) := []
abbrev kts : List (Str × Str) := []
theorem sc_beside : FnScope N_beside ["ties", "name"] (defScope s_beside) := ⟨rfl, rfl, rfl, by decide +kernel, rfl, by decide +kernel, by decide +kernel⟩
theorem sc_check_place : FnScope N_check_place ["the_map", "name"] (defScope s_check_place) := ⟨rfl, rfl, rfl, by decide +kernel, rfl, by decide +kernel, by decide +kernel⟩
theorem sc_lengths_of : FnScope N_lengths_of ["the_map"] (defScope s_lengths_of) := ⟨rfl, rfl, rfl, by decide +kernel, rfl, by decide +kernel, by decide +kernel⟩
theorem sc_ways_from : FnScope N_ways_from ["the_map", "one"] (defScope s_ways_from) := ⟨rfl, rfl, rfl, by decide +kernel, rfl, by decide +kernel, by decide +kernel⟩
theorem sc_ways_between : FnScope N_ways_between ["the_map", "one", "other"] (defScope s_ways_between) := ⟨rfl, rfl, rfl, by decide +kernel, rfl, by decide +kernel, by decide +kernel⟩
theorem sc__law_cell : FnScope N__law_cell ["_law_script", "_law_k"] (defScope s__law_cell) := ⟨rfl, rfl, rfl, by decide +kernel, rfl, by decide +kernel, by decide +kernel⟩
theorem sc__law_numbers : FnScope N__law_numbers ["_law_cell_here", "_law_many"] (defScope s__law_numbers) := ⟨rfl, rfl, rfl, by decide +kernel, rfl, by decide +kernel, by decide +kernel⟩
theorem sc__law_names : FnScope N__law_names ["_law_xs", "_law_many"] (defScope s__law_names) := ⟨rfl, rfl, rfl, by decide +kernel, rfl, by decide +kernel, by decide +kernel⟩
theorem sc__law_ends : FnScope N__law_ends ["_law_kind", "_law_many", "_law_xs"] (defScope s__law_ends) := ⟨rfl, rfl, rfl, by decide +kernel, rfl, by decide +kernel, by decide +kernel⟩
theorem sc__law_map : FnScope N__law_map ["_law_script", "_law_at", "_law_most"] (defScope s__law_map) := ⟨rfl, rfl, rfl, by decide +kernel, rfl, by decide +kernel, by decide +kernel⟩
theorem sc__law_whole : FnScope N__law_whole ["_law_thing"] (defScope s__law_whole) := ⟨rfl, rfl, rfl, by decide +kernel, rfl, by decide +kernel, by decide +kernel⟩
theorem sc__law_lengths : FnScope N__law_lengths ["_law_spot"] (defScope s__law_lengths) := ⟨rfl, rfl, rfl, by decide +kernel, rfl, by decide +kernel, by decide +kernel⟩
theorem sc__law_ways : FnScope N__law_ways ["_law_spot", "_law_one"] (defScope s__law_ways) := ⟨rfl, rfl, rfl, by decide +kernel, rfl, by decide +kernel, by decide +kernel⟩
theorem sc__law_right : FnScope N__law_right ["_law_spot", "_law_one", "_law_other", "_law_ways_here"] (defScope s__law_right) := ⟨rfl, rfl, rfl, by decide +kernel, rfl, by decide +kernel, by decide +kernel⟩
theorem sc_law : FnScope N_law ["_law_script"] (defScope s_law) := ⟨rfl, rfl, rfl, by decide +kernel, rfl, by decide +kernel, by decide +kernel⟩
abbrev df_beside : List (Str × Nat × Nat) := []
theorem ck_beside : chkSs b_beside (ckOf N_beside (defScope s_beside) bis kis kts df_beside) (defBody s_beside) = true := by decide +kernel
abbrev df_check_place : List (Str × Nat × Nat) := []
theorem ck_check_place : chkSs b_check_place (ckOf N_check_place (defScope s_check_place) bis kis kts df_check_place) (defBody s_check_place) = true := by decide +kernel
abbrev df_lengths_of : List (Str × Nat × Nat) := []
theorem ck_lengths_of : chkSs b_lengths_of (ckOf N_lengths_of (defScope s_lengths_of) bis kis kts df_lengths_of) (defBody s_lengths_of) = true := by decide +kernel
abbrev df_ways_from : List (Str × Nat × Nat) := [("lengths_of", 2, 1), ("beside", 0, 2)]
theorem ck_ways_from : chkSs b_ways_from (ckOf N_ways_from (defScope s_ways_from) bis kis kts df_ways_from) (defBody s_ways_from) = true := by decide +kernel
abbrev df_ways_between : List (Str × Nat × Nat) := [("check_place", 1, 2), ("ways_from", 3, 2)]
theorem ck_ways_between : chkSs b_ways_between (ckOf N_ways_between (defScope s_ways_between) bis kis kts df_ways_between) (defBody s_ways_between) = true := by decide +kernel
abbrev df__law_cell : List (Str × Nat × Nat) := []
theorem ck__law_cell : chkSs b__law_cell (ckOf N__law_cell (defScope s__law_cell) bis kis kts df__law_cell) (defBody s__law_cell) = true := by decide +kernel
abbrev df__law_numbers : List (Str × Nat × Nat) := []
theorem ck__law_numbers : chkSs b__law_numbers (ckOf N__law_numbers (defScope s__law_numbers) bis kis kts df__law_numbers) (defBody s__law_numbers) = true := by decide +kernel
abbrev df__law_names : List (Str × Nat × Nat) := []
theorem ck__law_names : chkSs b__law_names (ckOf N__law_names (defScope s__law_names) bis kis kts df__law_names) (defBody s__law_names) = true := by decide +kernel
abbrev df__law_ends : List (Str × Nat × Nat) := []
theorem ck__law_ends : chkSs b__law_ends (ckOf N__law_ends (defScope s__law_ends) bis kis kts df__law_ends) (defBody s__law_ends) = true := by decide +kernel
abbrev df__law_map : List (Str × Nat × Nat) := [("_law_numbers", 6, 2), ("_law_names", 7, 2), ("_law_cell", 5, 2), ("_law_ends", 8, 3)]
theorem ck__law_map : chkSs b__law_map (ckOf N__law_map (defScope s__law_map) bis kis kts df__law_map) (defBody s__law_map) = true := by decide +kernel
abbrev df__law_whole : List (Str × Nat × Nat) := []
theorem ck__law_whole : chkSs b__law_whole (ckOf N__law_whole (defScope s__law_whole) bis kis kts df__law_whole) (defBody s__law_whole) = true := by decide +kernel
abbrev df__law_lengths : List (Str × Nat × Nat) := []
theorem ck__law_lengths : chkSs b__law_lengths (ckOf N__law_lengths (defScope s__law_lengths) bis kis kts df__law_lengths) (defBody s__law_lengths) = true := by decide +kernel
abbrev df__law_ways : List (Str × Nat × Nat) := [("_law_lengths", 11, 1)]
theorem ck__law_ways : chkSs b__law_ways (ckOf N__law_ways (defScope s__law_ways) bis kis kts df__law_ways) (defBody s__law_ways) = true := by decide +kernel
abbrev df__law_right : List (Str × Nat × Nat) := [("ways_between", 4, 3), ("_law_whole", 10, 1)]
theorem ck__law_right : chkSs b__law_right (ckOf N__law_right (defScope s__law_right) bis kis kts df__law_right) (defBody s__law_right) = true := by decide +kernel
abbrev df_law : List (Str × Nat × Nat) := [("_law_map", 9, 3), ("_law_ways", 12, 2), ("_law_right", 13, 4)]
theorem ck_law : chkSs b_law (ckOf N_law (defScope s_law) bis kis kts df_law) (defBody s_law) = true := by decide +kernel
structure Txt (mg : Str → Option Value) : Prop where
  bi : ∀ x ∈ bis, mg x = none
  ki : ∀ (x : Str) (i : Int), (x, i) ∈ kis → ∃ t, mg x = some (.int i t)
  kt : ∀ (x y : Str), (x, y) ∈ kts → ∃ t, mg x = some (.str y t)
section
variable {P : Program} {w : World} {K : PySem.W.Frag} {mg : Str → Option Value} {base : Heap}
theorem ok_beside (T : Txt mg) (Di : DefIn K mg "beside" s_beside ["ties", "name"]) : ∀ n, OkDef P w K mg base "beside" 1 (run Fs n) 0 2 := fn_ok Di sc_beside rfl fun n f cdv A outer s H E hr => body_ok ⟨T.bi, T.ki, T.kt, dfs_nil⟩ (by decide +kernel) (by decide +kernel) (by decide +kernel) ck_beside hr
theorem ok_check_place (T : Txt mg) (Di : DefIn K mg "check_place" s_check_place ["the_map", "name"]) : ∀ n, OkDef P w K mg base "check_place" 1 (run Fs n) 1 2 := fn_ok Di sc_check_place rfl fun n f cdv A outer s H E hr => body_ok ⟨T.bi, T.ki, T.kt, dfs_nil⟩ (by decide +kernel) (by decide +kernel) (by decide +kernel) ck_check_place hr
theorem ok_lengths_of (T : Txt mg) (Di : DefIn K mg "lengths_of" s_lengths_of ["the_map"]) : ∀ n, OkDef P w K mg base "lengths_of" 1 (run Fs n) 2 1 := fn_ok Di sc_lengths_of rfl fun n f cdv A outer s H E hr => body_ok ⟨T.bi, T.ki, T.kt, dfs_nil⟩ (by decide +kernel) (by decide +kernel) (by decide +kernel) ck_lengths_of hr
theorem ok_ways_from (T : Txt mg) (h_lengths_of : ∀ n, OkDef P w K mg base "lengths_of" 1 (run Fs n) 2 1) (h_beside : ∀ n, OkDef P w K mg base "beside" 1 (run Fs n) 0 2) (Di : DefIn K mg "ways_from" s_ways_from ["the_map", "one"]) : ∀ n, OkDef P w K mg base "ways_from" 2 (run Fs n) 3 2 := fn_ok Di sc_ways_from rfl fun n f cdv A outer s H E hr => body_ok ⟨T.bi, T.ki, T.kt, (dfs_cons (by decide) (h_lengths_of n) (dfs_cons (by decide) (h_beside n) dfs_nil))⟩ (by decide +kernel) (by decide +kernel) (by decide +kernel) ck_ways_from hr
theorem ok_ways_between (T : Txt mg) (h_check_place : ∀ n, OkDef P w K mg base "check_place" 1 (run Fs n) 1 2) (h_ways_from : ∀ n, OkDef P w K mg base "ways_from" 2 (run Fs n) 3 2) (Di : DefIn K mg "ways_between" s_ways_between ["the_map", "one", "other"]) : ∀ n, OkDef P w K mg base "ways_between" 3 (run Fs n) 4 3 := fn_ok Di sc_ways_between rfl fun n f cdv A outer s H E hr => body_ok ⟨T.bi, T.ki, T.kt, (dfs_cons (by decide) (h_check_place n) (dfs_cons (by decide) (h_ways_from n) dfs_nil))⟩ (by decide +kernel) (by decide +kernel) (by decide +kernel) ck_ways_between hr
theorem ok__law_cell (T : Txt mg) (Di : DefIn K mg "_law_cell" s__law_cell ["_law_script", "_law_k"]) : ∀ n, OkDef P w K mg base "_law_cell" 1 (run Fs n) 5 2 := fn_ok Di sc__law_cell rfl fun n f cdv A outer s H E hr => body_ok ⟨T.bi, T.ki, T.kt, dfs_nil⟩ (by decide +kernel) (by decide +kernel) (by decide +kernel) ck__law_cell hr
theorem ok__law_numbers (T : Txt mg) (Di : DefIn K mg "_law_numbers" s__law_numbers ["_law_cell_here", "_law_many"]) : ∀ n, OkDef P w K mg base "_law_numbers" 1 (run Fs n) 6 2 := fn_ok Di sc__law_numbers rfl fun n f cdv A outer s H E hr => body_ok ⟨T.bi, T.ki, T.kt, dfs_nil⟩ (by decide +kernel) (by decide +kernel) (by decide +kernel) ck__law_numbers hr
theorem ok__law_names (T : Txt mg) (Di : DefIn K mg "_law_names" s__law_names ["_law_xs", "_law_many"]) : ∀ n, OkDef P w K mg base "_law_names" 1 (run Fs n) 7 2 := fn_ok Di sc__law_names rfl fun n f cdv A outer s H E hr => body_ok ⟨T.bi, T.ki, T.kt, dfs_nil⟩ (by decide +kernel) (by decide +kernel) (by decide +kernel) ck__law_names hr
theorem ok__law_ends (T : Txt mg) (Di : DefIn K mg "_law_ends" s__law_ends ["_law_kind", "_law_many", "_law_xs"]) : ∀ n, OkDef P w K mg base "_law_ends" 1 (run Fs n) 8 3 := fn_ok Di sc__law_ends rfl fun n f cdv A outer s H E hr => body_ok ⟨T.bi, T.ki, T.kt, dfs_nil⟩ (by decide +kernel) (by decide +kernel) (by decide +kernel) ck__law_ends hr
theorem ok__law_map (T : Txt mg) (h__law_numbers : ∀ n, OkDef P w K mg base "_law_numbers" 1 (run Fs n) 6 2) (h__law_names : ∀ n, OkDef P w K mg base "_law_names" 1 (run Fs n) 7 2) (h__law_cell : ∀ n, OkDef P w K mg base "_law_cell" 1 (run Fs n) 5 2) (h__law_ends : ∀ n, OkDef P w K mg base "_law_ends" 1 (run Fs n) 8 3) (Di : DefIn K mg "_law_map" s__law_map ["_law_script", "_law_at", "_law_most"]) : ∀ n, OkDef P w K mg base "_law_map" 2 (run Fs n) 9 3 := fn_ok Di sc__law_map rfl fun n f cdv A outer s H E hr => body_ok ⟨T.bi, T.ki, T.kt, (dfs_cons (by decide) (h__law_numbers n) (dfs_cons (by decide) (h__law_names n) (dfs_cons (by decide) (h__law_cell n) (dfs_cons (by decide) (h__law_ends n) dfs_nil))))⟩ (by decide +kernel) (by decide +kernel) (by decide +kernel) ck__law_map hr
theorem ok__law_whole (T : Txt mg) (Di : DefIn K mg "_law_whole" s__law_whole ["_law_thing"]) : ∀ n, OkDef P w K mg base "_law_whole" 1 (run Fs n) 10 1 := fn_ok Di sc__law_whole rfl fun n f cdv A outer s H E hr => body_ok ⟨T.bi, T.ki, T.kt, dfs_nil⟩ (by decide +kernel) (by decide +kernel) (by decide +kernel) ck__law_whole hr
theorem ok__law_lengths (T : Txt mg) (Di : DefIn K mg "_law_lengths" s__law_lengths ["_law_spot"]) : ∀ n, OkDef P w K mg base "_law_lengths" 1 (run Fs n) 11 1 := fn_ok Di sc__law_lengths rfl fun n f cdv A outer s H E hr => body_ok ⟨T.bi, T.ki, T.kt, dfs_nil⟩ (by decide +kernel) (by decide +kernel) (by decide +kernel) ck__law_lengths hr
theorem ok__law_ways (T : Txt mg) (h__law_lengths : ∀ n, OkDef P w K mg base "_law_lengths" 1 (run Fs n) 11 1) (Di : DefIn K mg "_law_ways" s__law_ways ["_law_spot", "_law_one"]) : ∀ n, OkDef P w K mg base "_law_ways" 2 (run Fs n) 12 2 := fn_ok Di sc__law_ways rfl fun n f cdv A outer s H E hr => body_ok ⟨T.bi, T.ki, T.kt, (dfs_cons (by decide) (h__law_lengths n) dfs_nil)⟩ (by decide +kernel) (by decide +kernel) (by decide +kernel) ck__law_ways hr
theorem ok__law_right (T : Txt mg) (h_ways_between : ∀ n, OkDef P w K mg base "ways_between" 3 (run Fs n) 4 3) (h__law_whole : ∀ n, OkDef P w K mg base "_law_whole" 1 (run Fs n) 10 1) (Di : DefIn K mg "_law_right" s__law_right ["_law_spot", "_law_one", "_law_other", "_law_ways_here"]) : ∀ n, OkDef P w K mg base "_law_right" 4 (run Fs n) 13 4 := fn_ok Di sc__law_right rfl fun n f cdv A outer s H E hr => body_ok ⟨T.bi, T.ki, T.kt, (dfs_cons (by decide) (h_ways_between n) (dfs_cons (by decide) (h__law_whole n) dfs_nil))⟩ (by decide +kernel) (by decide +kernel) (by decide +kernel) ck__law_right hr
theorem ok_law {f : Addr} {fd : FuncData} (T : Txt mg) (h__law_map : ∀ n, OkDef P w K mg base "_law_map" 2 (run Fs n) 9 3) (h__law_ways : ∀ n, OkDef P w K mg base "_law_ways" 2 (run Fs n) 12 2) (h__law_right : ∀ n, OkDef P w K mg base "_law_right" 4 (run Fs n) 13 4) (Fu : Fun K "law" "law" s_law f fd) : ∀ n, FnOk P w K mg base CX0 5 f fd ["_law_script"] (spC K (run Fs n) 14 1) := fn_okE Fu sc_law rfl fun n f cdv A outer s H E hr => body_ok ⟨T.bi, T.ki, T.kt, (dfs_cons (by decide) (h__law_map n) (dfs_cons (by decide) (h__law_ways n) (dfs_cons (by decide) (h__law_right n) dfs_nil)))⟩ (by decide +kernel) (by decide +kernel) (by decide +kernel) ck_law hr
end
end Law

namespace Law
open L2 Fw
theorem between7 {names : List PySem.Str} {ties : List Tie} (T : TiesOk names ties) (hn : names.length ≤ 8) {a b : PySem.Str} (ha : a ∈ names) (hb : b ∈ names) (n : Nat) : ∃ ws, IsWays ties a b ws ∧ run Fs (n + 3) 4 [mapD names ties, .str a, .str b] = .ok (.lst (ws.map rowD), true) :=
  between_ok (F := Fs) (fi := 4) (iCheck := 1) (iWays := 3) (iLen := 2) (iBes := 0) rfl rfl rfl rfl rfl n T hn ha hb
theorem right7 {names : List PySem.Str} {ties : List Tie} (M : Mp names ties) (h8 : names.length ≤ 8) {a b : PySem.Str} (ha : a ∈ names) (hb : b ∈ names) {rows : List Row} (r1 : ∀ r ∈ rows, Way ties a r.2 r.1) (r2 : ∀ p L, Way ties a p L → ((L, p) : Row) ∈ rows) (r3 : (rows.map (·.2)).Nodup) (n : Nat) :
    run Fs (n + 5) 13 [mapD names ties, .str a, .str b, .lst (rows.map rowD)] = .ok (.bl true, false) := by
  have w : W (run Fs (n + 5) 13 [mapD names ties, .str a, .str b, .lst (rows.map rowD)]) fun r => r = (.bl true, false) := by
    obtain ⟨ws, hw, e1⟩ := between7 M.T h8 ha hb (n + 1)
    obtain ⟨vs, hv, e2⟩ := between7 M.T h8 hb ha (n + 1)
    obtain ⟨us, hu, e3⟩ := between7 M.T h8 hb hb (n + 1)
    have eu := hu.self
    subst eu
    have ev := hw.turn.uniq hv
    have hd : IsWays ties a b ((rows.filter fun r => decide (r.2.headD ⟨#[]⟩ = b)).mergeSort (leQ rowD)) := by
      refine ⟨leQ_sorted _ _, ?_, fun L p => ?_⟩
      · have pm := (List.mergeSort_perm (rows.filter fun r => decide (r.2.headD ⟨#[]⟩ = b)) (leQ rowD)).map (·.2)
        rw [pm.nodup_iff]
        exact r3.sublist (List.filter_sublist.map _)
      · rw [List.mem_mergeSort, List.mem_filter, decide_eq_true_eq]
        constructor
        · rintro ⟨hm, e⟩
          obtain ⟨c, s, rfl⟩ := (r1 _ hm).cons
          exact ⟨r1 _ hm, by rw [List.head?_cons]; exact congrArg some e⟩
        · rintro ⟨hw, e⟩
          obtain ⟨c, s, rfl⟩ := hw.cons
          exact ⟨r2 _ _ hw, by rw [List.head?_cons] at e; exact Option.some.inj e⟩
    have ed := hd.uniq hw
    obtain ⟨r0, s0, e0, _⟩ := hw.head M.T M.tied ha hb
    have lp : 0 < ws.length := by rw [e0]; exact Nat.zero_lt_succ _
    have l3 := hw.lt3 M
    refine run_W (fn := ⟨4, 10, b__law_right⟩) rfl rfl ?_
    simp only [b__law_right]
    simp only [id_eq, R.bind_ok, R.guard_true, ss_cons, ss_nil, Sq, Fl, W_bind, W_ok, W_guard, R.ite_true, R.ite_false, W_ite, evS, evE, evEs, evO, evTs, evIt, strD_i, keyD_i, keyD_s, keysD_n, keysD_c, dgetD_s, dgetD_i, dgetD_t, dinD_s, dinD_i, dinD_t, setPat_v, setPat_t, setPats_n, setPats_c, setSlot, start0, wipeE, ownL, stoD, dstD, rangeD, List.map_cons, List.map_nil, List.cons_append, List.nil_append, List.append_nil, List.length_cons, List.length_nil, List.replicate_succ, List.replicate_zero, List.getElem?_cons_zero, List.getElem?_cons_succ, List.set_cons_zero, List.set_cons_succ, List.all_cons, List.all_nil, Nat.add_sub_cancel, Nat.reduceAdd, Nat.reduceSub, Bool.and_true, Bool.true_and, Bool.and_self, Bool.not_true, Bool.not_false, true_and, and_true, decide_eq_true_eq, Nat.zero_add, decide_eq_false_iff_not, Int.reduceLT, Int.reduceEq, eqD_i, eqD_s, shp_i, shp_s, shp_b, shp_n, Int.reduceLE, Int.reduceMul, Int.reduceAdd, Int.reduceMod, Int.reduceNeg, Int.reduceSub, Int.reduceToNat, reduceCtorEq, false_implies, true_implies, decide_true, decide_false, forall_const, Bool.false_eq_true, Bool.not_eq_true', Bool.and_eq_true, Bool.or_eq_true, addD_i, addD_s, addD_l, addD_t, subD_i, mulD_i, mulD_s, fdivD_i, modD_i, powD_i, ltD_i, ltD_s, leD_i, leD_s, gtD_i, gtD_s, geD_i, geD_s, inD_l, inD_t, inD_s, isBl_b, cmpD_eq, cmpD_ne, cmpD_lt, cmpD_le, cmpD_gt, cmpD_ge, cmpD_in, cmpD_notin, cmpD_isN, cmpD_notN, cmpD_isB, cmpD_notB, isNon_n, isNon_i, isNon_b, isNon_s, isNon_l, isNon_t, items_l, items_t, itemsI_l, itemsI_t, itemsI_s, ixD_l, ixD_t, ixD_s, slD_l, slD_t, slD_s, lenD_l, lenD_t, lenD_s, lenD_d, absD_i, minD_i, maxD_i, minD_1, maxD_1, bestD_c, sortedD_1, listD_1, tupleD_1, allD_l, anyD_l, sumD_l, sumD_t, intD_i, intD_b, boolD_b, boolD_i, joinD_s, retK_sh, retK_nw, retK_bw, kdOf_0, kdOf_1, kdOf_2, inKd_sh, inKd_nw, inKd_bw, inKd_b2, toKd_t, toKd_f, notBw_sh, notBw_nw, notBw_bw, notBw_b2, exact_sh, exact_nw, exact_bw, ownOk_l, ownOk_K, ownOk_T, ownOk_2, tyD_ii, tyD_ib, tyD_is, tyD_in, tyD_il, tyD_it, tyD_bi, tyD_bb, tyD_bs, tyD_bn, tyD_bl, tyD_bt, tyD_si, tyD_sb, tyD_ss, tyD_sn, tyD_sl, tyD_st, tyD_ti, tyD_tb, tyD_ts, tyD_tn, tyD_tl, tyD_tt, tyD_li, tyD_lb, tyD_ls, tyD_ln, tyD_ll, tyD_lt, biD_1, biD_2, biD_3, biD_4, biD_5, biD_6, biD_7, biD_8, biD_9, biD_10, biD_11, biD_12, biD_13, biD_14, biD_15, op2D_1, op2D_2, op2D_3, op2D_4, op2D_5, op2D_6, oR_some, Option.map_some, true_or, false_or, Bool.true_or, Bool.false_or, lend_ret, notB2_sh, notB2_nw, notB2_bw, resOk_bl, resOk_int, resOk_non, resOk_str, resOk_l, resOk_t, ixD_map0, ixD_map1, rowD_0, rowD_1, atI_zero, eqD_bl, shp_bl, oR_some]
    refine W.eq (lc_filter rowD (fun r => decide (r.2.headD ⟨#[]⟩ = b)) fun r hr => ?_) ?_
    · obtain ⟨L, p⟩ := r
      obtain ⟨c, s, rfl⟩ := (r1 _ hr).cons
      simp only [id_eq, R.bind_ok, R.guard_true, ss_cons, ss_nil, Sq, Fl, W_bind, W_ok, W_guard, R.ite_true, R.ite_false, W_ite, evS, evE, evEs, evO, evTs, evIt, strD_i, keyD_i, keyD_s, keysD_n, keysD_c, dgetD_s, dgetD_i, dgetD_t, dinD_s, dinD_i, dinD_t, setPat_v, setPat_t, setPats_n, setPats_c, setSlot, start0, wipeE, ownL, stoD, dstD, rangeD, List.map_cons, List.map_nil, List.cons_append, List.nil_append, List.append_nil, List.length_cons, List.length_nil, List.replicate_succ, List.replicate_zero, List.getElem?_cons_zero, List.getElem?_cons_succ, List.set_cons_zero, List.set_cons_succ, List.all_cons, List.all_nil, Nat.add_sub_cancel, Nat.reduceAdd, Nat.reduceSub, Bool.and_true, Bool.true_and, Bool.and_self, Bool.not_true, Bool.not_false, true_and, and_true, decide_eq_true_eq, Nat.zero_add, decide_eq_false_iff_not, Int.reduceLT, Int.reduceEq, eqD_i, eqD_s, shp_i, shp_s, shp_b, shp_n, Int.reduceLE, Int.reduceMul, Int.reduceAdd, Int.reduceMod, Int.reduceNeg, Int.reduceSub, Int.reduceToNat, reduceCtorEq, false_implies, true_implies, decide_true, decide_false, forall_const, Bool.false_eq_true, Bool.not_eq_true', Bool.and_eq_true, Bool.or_eq_true, addD_i, addD_s, addD_l, addD_t, subD_i, mulD_i, mulD_s, fdivD_i, modD_i, powD_i, ltD_i, ltD_s, leD_i, leD_s, gtD_i, gtD_s, geD_i, geD_s, inD_l, inD_t, inD_s, isBl_b, cmpD_eq, cmpD_ne, cmpD_lt, cmpD_le, cmpD_gt, cmpD_ge, cmpD_in, cmpD_notin, cmpD_isN, cmpD_notN, cmpD_isB, cmpD_notB, isNon_n, isNon_i, isNon_b, isNon_s, isNon_l, isNon_t, items_l, items_t, itemsI_l, itemsI_t, itemsI_s, ixD_l, ixD_t, ixD_s, slD_l, slD_t, slD_s, lenD_l, lenD_t, lenD_s, lenD_d, absD_i, minD_i, maxD_i, minD_1, maxD_1, bestD_c, sortedD_1, listD_1, tupleD_1, allD_l, anyD_l, sumD_l, sumD_t, intD_i, intD_b, boolD_b, boolD_i, joinD_s, retK_sh, retK_nw, retK_bw, kdOf_0, kdOf_1, kdOf_2, inKd_sh, inKd_nw, inKd_bw, inKd_b2, toKd_t, toKd_f, notBw_sh, notBw_nw, notBw_bw, notBw_b2, exact_sh, exact_nw, exact_bw, ownOk_l, ownOk_K, ownOk_T, ownOk_2, tyD_ii, tyD_ib, tyD_is, tyD_in, tyD_il, tyD_it, tyD_bi, tyD_bb, tyD_bs, tyD_bn, tyD_bl, tyD_bt, tyD_si, tyD_sb, tyD_ss, tyD_sn, tyD_sl, tyD_st, tyD_ti, tyD_tb, tyD_ts, tyD_tn, tyD_tl, tyD_tt, tyD_li, tyD_lb, tyD_ls, tyD_ln, tyD_ll, tyD_lt, biD_1, biD_2, biD_3, biD_4, biD_5, biD_6, biD_7, biD_8, biD_9, biD_10, biD_11, biD_12, biD_13, biD_14, biD_15, op2D_1, op2D_2, op2D_3, op2D_4, op2D_5, op2D_6, oR_some, Option.map_some, true_or, false_or, Bool.true_or, Bool.false_or, lend_ret, notB2_sh, notB2_nw, notB2_bw, resOk_bl, resOk_int, resOk_non, resOk_str, resOk_l, resOk_t, ixD_map0, ixD_map1, rowD_0, rowD_1, atI_zero, eqD_bl, shp_bl, oR_some, last_len]
      by_cases e : c = b
      · simp [e, R.ite]
      · simp [e, R.ite]
    have q1 : (((ws.map rowD).length : Nat) : Int) = ws.length := by rw [List.length_map]
    have q2 := Typ.row.lsts.shp (by decide) ws
    have q3 : eqD (.lst (ws.map rowD)) (.lst (ws.map rowD)) = true := (Typ.row.lsts.eq ws ws).mpr rfl
    simp only [id_eq, R.bind_ok, R.guard_true, ss_cons, ss_nil, Sq, Fl, W_bind, W_ok, W_guard, R.ite_true, R.ite_false, W_ite, evS, evE, evEs, evO, evTs, evIt, strD_i, keyD_i, keyD_s, keysD_n, keysD_c, dgetD_s, dgetD_i, dgetD_t, dinD_s, dinD_i, dinD_t, setPat_v, setPat_t, setPats_n, setPats_c, setSlot, start0, wipeE, ownL, stoD, dstD, rangeD, List.map_cons, List.map_nil, List.cons_append, List.nil_append, List.append_nil, List.length_cons, List.length_nil, List.replicate_succ, List.replicate_zero, List.getElem?_cons_zero, List.getElem?_cons_succ, List.set_cons_zero, List.set_cons_succ, List.all_cons, List.all_nil, Nat.add_sub_cancel, Nat.reduceAdd, Nat.reduceSub, Bool.and_true, Bool.true_and, Bool.and_self, Bool.not_true, Bool.not_false, true_and, and_true, decide_eq_true_eq, Nat.zero_add, decide_eq_false_iff_not, Int.reduceLT, Int.reduceEq, eqD_i, eqD_s, shp_i, shp_s, shp_b, shp_n, Int.reduceLE, Int.reduceMul, Int.reduceAdd, Int.reduceMod, Int.reduceNeg, Int.reduceSub, Int.reduceToNat, reduceCtorEq, false_implies, true_implies, decide_true, decide_false, forall_const, Bool.false_eq_true, Bool.not_eq_true', Bool.and_eq_true, Bool.or_eq_true, addD_i, addD_s, addD_l, addD_t, subD_i, mulD_i, mulD_s, fdivD_i, modD_i, powD_i, ltD_i, ltD_s, leD_i, leD_s, gtD_i, gtD_s, geD_i, geD_s, inD_l, inD_t, inD_s, isBl_b, cmpD_eq, cmpD_ne, cmpD_lt, cmpD_le, cmpD_gt, cmpD_ge, cmpD_in, cmpD_notin, cmpD_isN, cmpD_notN, cmpD_isB, cmpD_notB, isNon_n, isNon_i, isNon_b, isNon_s, isNon_l, isNon_t, items_l, items_t, itemsI_l, itemsI_t, itemsI_s, ixD_l, ixD_t, ixD_s, slD_l, slD_t, slD_s, lenD_l, lenD_t, lenD_s, lenD_d, absD_i, minD_i, maxD_i, minD_1, maxD_1, bestD_c, sortedD_1, listD_1, tupleD_1, allD_l, anyD_l, sumD_l, sumD_t, intD_i, intD_b, boolD_b, boolD_i, joinD_s, retK_sh, retK_nw, retK_bw, kdOf_0, kdOf_1, kdOf_2, inKd_sh, inKd_nw, inKd_bw, inKd_b2, toKd_t, toKd_f, notBw_sh, notBw_nw, notBw_bw, notBw_b2, exact_sh, exact_nw, exact_bw, ownOk_l, ownOk_K, ownOk_T, ownOk_2, tyD_ii, tyD_ib, tyD_is, tyD_in, tyD_il, tyD_it, tyD_bi, tyD_bb, tyD_bs, tyD_bn, tyD_bl, tyD_bt, tyD_si, tyD_sb, tyD_ss, tyD_sn, tyD_sl, tyD_st, tyD_ti, tyD_tb, tyD_ts, tyD_tn, tyD_tl, tyD_tt, tyD_li, tyD_lb, tyD_ls, tyD_ln, tyD_ll, tyD_lt, biD_1, biD_2, biD_3, biD_4, biD_5, biD_6, biD_7, biD_8, biD_9, biD_10, biD_11, biD_12, biD_13, biD_14, biD_15, op2D_1, op2D_2, op2D_3, op2D_4, op2D_5, op2D_6, oR_some, Option.map_some, true_or, false_or, Bool.true_or, Bool.false_or, lend_ret, notB2_sh, notB2_nw, notB2_bw, resOk_bl, resOk_int, resOk_non, resOk_str, resOk_l, resOk_t, ixD_map0, ixD_map1, rowD_0, rowD_1, atI_zero, eqD_bl, shp_bl, oR_some, Typ.row.sort (by decide) (.inl fun a => rfl), ed, e1, q1, q2, q3, cmpD]
    refine ⟨fun _ => ⟨fun z => absurd (by omega) z, fun _ => ?_⟩, fun z => absurd (by omega) z⟩
    have q5 : run Fs (n + 4) 4 [mapD names ties, .str b, .str a] = .ok (.lst (vs.map rowD), true) := e2
    have q6 : eqD (.lst (vs.map rowD)) (.lst (vs.map rowD)) = true := (Typ.row.lsts.eq vs vs).mpr rfl
    have q7 := Typ.row.lsts.shp (by decide) vs
    have n1 : ((ties.map tieD).length : Int) = ties.length := by rw [List.length_map]
    have n2 : ((names.map D.str).length : Int) = names.length := by rw [List.length_map]
    refine for_each (fun ρ => ∃ s6, ρ = [some ⟨mapD names ties, 0⟩, some ⟨.str a, 0⟩, some ⟨.str b, 0⟩, some ⟨.lst (rows.map rowD), 0⟩, some ⟨.lst (ws.map rowD), 0⟩, some ⟨.lst (ws.map rowD), 1⟩, s6, none, none, none]) ⟨_, rfl⟩ ?_ ?_
    · rintro r hr ρ ⟨s6, rfl⟩
      have e4 : run Fs (n + 4) 10 [D.int r.1] = .ok (.bl true, false) := whole_ok (F := Fs) (fi := 10) rfl (n + 3) (.int r.1)
      simp only [id_eq, R.bind_ok, R.guard_true, ss_cons, ss_nil, Sq, Fl, W_bind, W_ok, W_guard, R.ite_true, R.ite_false, W_ite, evS, evE, evEs, evO, evTs, evIt, strD_i, keyD_i, keyD_s, keysD_n, keysD_c, dgetD_s, dgetD_i, dgetD_t, dinD_s, dinD_i, dinD_t, setPat_v, setPat_t, setPats_n, setPats_c, setSlot, start0, wipeE, ownL, stoD, dstD, rangeD, List.map_cons, List.map_nil, List.cons_append, List.nil_append, List.append_nil, List.length_cons, List.length_nil, List.replicate_succ, List.replicate_zero, List.getElem?_cons_zero, List.getElem?_cons_succ, List.set_cons_zero, List.set_cons_succ, List.all_cons, List.all_nil, Nat.add_sub_cancel, Nat.reduceAdd, Nat.reduceSub, Bool.and_true, Bool.true_and, Bool.and_self, Bool.not_true, Bool.not_false, true_and, and_true, decide_eq_true_eq, Nat.zero_add, decide_eq_false_iff_not, Int.reduceLT, Int.reduceEq, eqD_i, eqD_s, shp_i, shp_s, shp_b, shp_n, Int.reduceLE, Int.reduceMul, Int.reduceAdd, Int.reduceMod, Int.reduceNeg, Int.reduceSub, Int.reduceToNat, reduceCtorEq, false_implies, true_implies, decide_true, decide_false, forall_const, Bool.false_eq_true, Bool.not_eq_true', Bool.and_eq_true, Bool.or_eq_true, addD_i, addD_s, addD_l, addD_t, subD_i, mulD_i, mulD_s, fdivD_i, modD_i, powD_i, ltD_i, ltD_s, leD_i, leD_s, gtD_i, gtD_s, geD_i, geD_s, inD_l, inD_t, inD_s, isBl_b, cmpD_eq, cmpD_ne, cmpD_lt, cmpD_le, cmpD_gt, cmpD_ge, cmpD_in, cmpD_notin, cmpD_isN, cmpD_notN, cmpD_isB, cmpD_notB, isNon_n, isNon_i, isNon_b, isNon_s, isNon_l, isNon_t, items_l, items_t, itemsI_l, itemsI_t, itemsI_s, ixD_l, ixD_t, ixD_s, slD_l, slD_t, slD_s, lenD_l, lenD_t, lenD_s, lenD_d, absD_i, minD_i, maxD_i, minD_1, maxD_1, bestD_c, sortedD_1, listD_1, tupleD_1, allD_l, anyD_l, sumD_l, sumD_t, intD_i, intD_b, boolD_b, boolD_i, joinD_s, retK_sh, retK_nw, retK_bw, kdOf_0, kdOf_1, kdOf_2, inKd_sh, inKd_nw, inKd_bw, inKd_b2, toKd_t, toKd_f, notBw_sh, notBw_nw, notBw_bw, notBw_b2, exact_sh, exact_nw, exact_bw, ownOk_l, ownOk_K, ownOk_T, ownOk_2, tyD_ii, tyD_ib, tyD_is, tyD_in, tyD_il, tyD_it, tyD_bi, tyD_bb, tyD_bs, tyD_bn, tyD_bl, tyD_bt, tyD_si, tyD_sb, tyD_ss, tyD_sn, tyD_sl, tyD_st, tyD_ti, tyD_tb, tyD_ts, tyD_tn, tyD_tl, tyD_tt, tyD_li, tyD_lb, tyD_ls, tyD_ln, tyD_ll, tyD_lt, biD_1, biD_2, biD_3, biD_4, biD_5, biD_6, biD_7, biD_8, biD_9, biD_10, biD_11, biD_12, biD_13, biD_14, biD_15, op2D_1, op2D_2, op2D_3, op2D_4, op2D_5, op2D_6, oR_some, Option.map_some, true_or, false_or, Bool.true_or, Bool.false_or, lend_ret, notB2_sh, notB2_nw, notB2_bw, resOk_bl, resOk_int, resOk_non, resOk_str, resOk_l, resOk_t, ixD_map0, ixD_map1, rowD_0, rowD_1, atI_zero, eqD_bl, shp_bl, oR_some, rowD]
      simp only [id_eq, R.bind_ok, R.guard_true, ss_cons, ss_nil, Sq, Fl, W_bind, W_ok, W_guard, R.ite_true, R.ite_false, W_ite, evS, evE, evEs, evO, evTs, evIt, strD_i, keyD_i, keyD_s, keysD_n, keysD_c, dgetD_s, dgetD_i, dgetD_t, dinD_s, dinD_i, dinD_t, setPat_v, setPat_t, setPats_n, setPats_c, setSlot, start0, wipeE, ownL, stoD, dstD, rangeD, List.map_cons, List.map_nil, List.cons_append, List.nil_append, List.append_nil, List.length_cons, List.length_nil, List.replicate_succ, List.replicate_zero, List.getElem?_cons_zero, List.getElem?_cons_succ, List.set_cons_zero, List.set_cons_succ, List.all_cons, List.all_nil, Nat.add_sub_cancel, Nat.reduceAdd, Nat.reduceSub, Bool.and_true, Bool.true_and, Bool.and_self, Bool.not_true, Bool.not_false, true_and, and_true, decide_eq_true_eq, Nat.zero_add, decide_eq_false_iff_not, Int.reduceLT, Int.reduceEq, eqD_i, eqD_s, shp_i, shp_s, shp_b, shp_n, Int.reduceLE, Int.reduceMul, Int.reduceAdd, Int.reduceMod, Int.reduceNeg, Int.reduceSub, Int.reduceToNat, reduceCtorEq, false_implies, true_implies, decide_true, decide_false, forall_const, Bool.false_eq_true, Bool.not_eq_true', Bool.and_eq_true, Bool.or_eq_true, addD_i, addD_s, addD_l, addD_t, subD_i, mulD_i, mulD_s, fdivD_i, modD_i, powD_i, ltD_i, ltD_s, leD_i, leD_s, gtD_i, gtD_s, geD_i, geD_s, inD_l, inD_t, inD_s, isBl_b, cmpD_eq, cmpD_ne, cmpD_lt, cmpD_le, cmpD_gt, cmpD_ge, cmpD_in, cmpD_notin, cmpD_isN, cmpD_notN, cmpD_isB, cmpD_notB, isNon_n, isNon_i, isNon_b, isNon_s, isNon_l, isNon_t, items_l, items_t, itemsI_l, itemsI_t, itemsI_s, ixD_l, ixD_t, ixD_s, slD_l, slD_t, slD_s, lenD_l, lenD_t, lenD_s, lenD_d, absD_i, minD_i, maxD_i, minD_1, maxD_1, bestD_c, sortedD_1, listD_1, tupleD_1, allD_l, anyD_l, sumD_l, sumD_t, intD_i, intD_b, boolD_b, boolD_i, joinD_s, retK_sh, retK_nw, retK_bw, kdOf_0, kdOf_1, kdOf_2, inKd_sh, inKd_nw, inKd_bw, inKd_b2, toKd_t, toKd_f, notBw_sh, notBw_nw, notBw_bw, notBw_b2, exact_sh, exact_nw, exact_bw, ownOk_l, ownOk_K, ownOk_T, ownOk_2, tyD_ii, tyD_ib, tyD_is, tyD_in, tyD_il, tyD_it, tyD_bi, tyD_bb, tyD_bs, tyD_bn, tyD_bl, tyD_bt, tyD_si, tyD_sb, tyD_ss, tyD_sn, tyD_sl, tyD_st, tyD_ti, tyD_tb, tyD_ts, tyD_tn, tyD_tl, tyD_tt, tyD_li, tyD_lb, tyD_ls, tyD_ln, tyD_ll, tyD_lt, biD_1, biD_2, biD_3, biD_4, biD_5, biD_6, biD_7, biD_8, biD_9, biD_10, biD_11, biD_12, biD_13, biD_14, biD_15, op2D_1, op2D_2, op2D_3, op2D_4, op2D_5, op2D_6, oR_some, Option.map_some, true_or, false_or, Bool.true_or, Bool.false_or, lend_ret, notB2_sh, notB2_nw, notB2_bw, resOk_bl, resOk_int, resOk_non, resOk_str, resOk_l, resOk_t, ixD_map0, ixD_map1, rowD_0, rowD_1, atI_zero, eqD_bl, shp_bl, oR_some, ix0, ix1, e4]
      exact ⟨_, rfl⟩
    · rintro ρ ⟨s6, rfl⟩
      simp only [id_eq, R.bind_ok, R.guard_true, ss_cons, ss_nil, Sq, Fl, W_bind, W_ok, W_guard, R.ite_true, R.ite_false, W_ite, evS, evE, evEs, evO, evTs, evIt, strD_i, keyD_i, keyD_s, keysD_n, keysD_c, dgetD_s, dgetD_i, dgetD_t, dinD_s, dinD_i, dinD_t, setPat_v, setPat_t, setPats_n, setPats_c, setSlot, start0, wipeE, ownL, stoD, dstD, rangeD, List.map_cons, List.map_nil, List.cons_append, List.nil_append, List.append_nil, List.length_cons, List.length_nil, List.replicate_succ, List.replicate_zero, List.getElem?_cons_zero, List.getElem?_cons_succ, List.set_cons_zero, List.set_cons_succ, List.all_cons, List.all_nil, Nat.add_sub_cancel, Nat.reduceAdd, Nat.reduceSub, Bool.and_true, Bool.true_and, Bool.and_self, Bool.not_true, Bool.not_false, true_and, and_true, decide_eq_true_eq, Nat.zero_add, decide_eq_false_iff_not, Int.reduceLT, Int.reduceEq, eqD_i, eqD_s, shp_i, shp_s, shp_b, shp_n, Int.reduceLE, Int.reduceMul, Int.reduceAdd, Int.reduceMod, Int.reduceNeg, Int.reduceSub, Int.reduceToNat, reduceCtorEq, false_implies, true_implies, decide_true, decide_false, forall_const, Bool.false_eq_true, Bool.not_eq_true', Bool.and_eq_true, Bool.or_eq_true, addD_i, addD_s, addD_l, addD_t, subD_i, mulD_i, mulD_s, fdivD_i, modD_i, powD_i, ltD_i, ltD_s, leD_i, leD_s, gtD_i, gtD_s, geD_i, geD_s, inD_l, inD_t, inD_s, isBl_b, cmpD_eq, cmpD_ne, cmpD_lt, cmpD_le, cmpD_gt, cmpD_ge, cmpD_in, cmpD_notin, cmpD_isN, cmpD_notN, cmpD_isB, cmpD_notB, isNon_n, isNon_i, isNon_b, isNon_s, isNon_l, isNon_t, items_l, items_t, itemsI_l, itemsI_t, itemsI_s, ixD_l, ixD_t, ixD_s, slD_l, slD_t, slD_s, lenD_l, lenD_t, lenD_s, lenD_d, absD_i, minD_i, maxD_i, minD_1, maxD_1, bestD_c, sortedD_1, listD_1, tupleD_1, allD_l, anyD_l, sumD_l, sumD_t, intD_i, intD_b, boolD_b, boolD_i, joinD_s, retK_sh, retK_nw, retK_bw, kdOf_0, kdOf_1, kdOf_2, inKd_sh, inKd_nw, inKd_bw, inKd_b2, toKd_t, toKd_f, notBw_sh, notBw_nw, notBw_bw, notBw_b2, exact_sh, exact_nw, exact_bw, ownOk_l, ownOk_K, ownOk_T, ownOk_2, tyD_ii, tyD_ib, tyD_is, tyD_in, tyD_il, tyD_it, tyD_bi, tyD_bb, tyD_bs, tyD_bn, tyD_bl, tyD_bt, tyD_si, tyD_sb, tyD_ss, tyD_sn, tyD_sl, tyD_st, tyD_ti, tyD_tb, tyD_ts, tyD_tn, tyD_tl, tyD_tt, tyD_li, tyD_lb, tyD_ls, tyD_ln, tyD_ll, tyD_lt, biD_1, biD_2, biD_3, biD_4, biD_5, biD_6, biD_7, biD_8, biD_9, biD_10, biD_11, biD_12, biD_13, biD_14, biD_15, op2D_1, op2D_2, op2D_3, op2D_4, op2D_5, op2D_6, oR_some, Option.map_some, true_or, false_or, Bool.true_or, Bool.false_or, lend_ret, notB2_sh, notB2_nw, notB2_bw, resOk_bl, resOk_int, resOk_non, resOk_str, resOk_l, resOk_t, ixD_map0, ixD_map1, rowD_0, rowD_1, atI_zero, eqD_bl, shp_bl, oR_some, n1, n2, q1]
      have t1 : ties.length < names.length → ws.length = 1 := fun h => by have := hw.one M h; omega
      refine ⟨fun h => ⟨fun z => absurd (by rw [t1 (by omega)]; rfl) z, fun _ => ?_⟩, fun _ => ?_⟩
      all_goals
        refine W.eq (lc_fm rowD rowD (fun r => some ((r.1, r.2.reverse) : Row)) fun r hr => ?_) ?_
        · simp only [id_eq, R.bind_ok, R.guard_true, ss_cons, ss_nil, Sq, Fl, W_bind, W_ok, W_guard, R.ite_true, R.ite_false, W_ite, evS, evE, evEs, evO, evTs, evIt, strD_i, keyD_i, keyD_s, keysD_n, keysD_c, dgetD_s, dgetD_i, dgetD_t, dinD_s, dinD_i, dinD_t, setPat_v, setPat_t, setPats_n, setPats_c, setSlot, start0, wipeE, ownL, stoD, dstD, rangeD, List.map_cons, List.map_nil, List.cons_append, List.nil_append, List.append_nil, List.length_cons, List.length_nil, List.replicate_succ, List.replicate_zero, List.getElem?_cons_zero, List.getElem?_cons_succ, List.set_cons_zero, List.set_cons_succ, List.all_cons, List.all_nil, Nat.add_sub_cancel, Nat.reduceAdd, Nat.reduceSub, Bool.and_true, Bool.true_and, Bool.and_self, Bool.not_true, Bool.not_false, true_and, and_true, decide_eq_true_eq, Nat.zero_add, decide_eq_false_iff_not, Int.reduceLT, Int.reduceEq, eqD_i, eqD_s, shp_i, shp_s, shp_b, shp_n, Int.reduceLE, Int.reduceMul, Int.reduceAdd, Int.reduceMod, Int.reduceNeg, Int.reduceSub, Int.reduceToNat, reduceCtorEq, false_implies, true_implies, decide_true, decide_false, forall_const, Bool.false_eq_true, Bool.not_eq_true', Bool.and_eq_true, Bool.or_eq_true, addD_i, addD_s, addD_l, addD_t, subD_i, mulD_i, mulD_s, fdivD_i, modD_i, powD_i, ltD_i, ltD_s, leD_i, leD_s, gtD_i, gtD_s, geD_i, geD_s, inD_l, inD_t, inD_s, isBl_b, cmpD_eq, cmpD_ne, cmpD_lt, cmpD_le, cmpD_gt, cmpD_ge, cmpD_in, cmpD_notin, cmpD_isN, cmpD_notN, cmpD_isB, cmpD_notB, isNon_n, isNon_i, isNon_b, isNon_s, isNon_l, isNon_t, items_l, items_t, itemsI_l, itemsI_t, itemsI_s, ixD_l, ixD_t, ixD_s, slD_l, slD_t, slD_s, lenD_l, lenD_t, lenD_s, lenD_d, absD_i, minD_i, maxD_i, minD_1, maxD_1, bestD_c, sortedD_1, listD_1, tupleD_1, allD_l, anyD_l, sumD_l, sumD_t, intD_i, intD_b, boolD_b, boolD_i, joinD_s, retK_sh, retK_nw, retK_bw, kdOf_0, kdOf_1, kdOf_2, inKd_sh, inKd_nw, inKd_bw, inKd_b2, toKd_t, toKd_f, notBw_sh, notBw_nw, notBw_bw, notBw_b2, exact_sh, exact_nw, exact_bw, ownOk_l, ownOk_K, ownOk_T, ownOk_2, tyD_ii, tyD_ib, tyD_is, tyD_in, tyD_il, tyD_it, tyD_bi, tyD_bb, tyD_bs, tyD_bn, tyD_bl, tyD_bt, tyD_si, tyD_sb, tyD_ss, tyD_sn, tyD_sl, tyD_st, tyD_ti, tyD_tb, tyD_ts, tyD_tn, tyD_tl, tyD_tt, tyD_li, tyD_lb, tyD_ls, tyD_ln, tyD_ll, tyD_lt, biD_1, biD_2, biD_3, biD_4, biD_5, biD_6, biD_7, biD_8, biD_9, biD_10, biD_11, biD_12, biD_13, biD_14, biD_15, op2D_1, op2D_2, op2D_3, op2D_4, op2D_5, op2D_6, oR_some, Option.map_some, true_or, false_or, Bool.true_or, Bool.false_or, lend_ret, notB2_sh, notB2_nw, notB2_bw, resOk_bl, resOk_int, resOk_non, resOk_str, resOk_l, resOk_t, ixD_map0, ixD_map1, rowD_0, rowD_1, atI_zero, eqD_bl, shp_bl, oR_some, rowD]
          simp [R.guard]
        · rw [show (ws.filterMap fun r => some ((r.1, r.2.reverse) : Row)) = ws.map fun r => ((r.1, r.2.reverse) : Row) from congrFun (List.filterMap_eq_map (f := fun r : Row => ((r.1, r.2.reverse) : Row))) ws]
          have q8 : D.lst [D.tup [.int 0, .tup [.str b]]] = .lst (([(0, [b])] : List Row).map rowD) := rfl
          have q9 : eqD (.lst (([(0, [b])] : List Row).map rowD)) (.lst (([(0, [b])] : List Row).map rowD)) = true := (Typ.row.lsts.eq _ _).mpr rfl
          have q10 := Typ.row.lsts.shp (by decide) ([(0, [b])] : List Row)
          have ll : (ws.map rowD).reverse.length < line := by rw [List.length_reverse, List.length_map]; simp only [line]; omega
          simp only [id_eq, R.bind_ok, R.guard_true, ss_cons, ss_nil, Sq, Fl, W_bind, W_ok, W_guard, R.ite_true, R.ite_false, W_ite, evS, evE, evEs, evO, evTs, evIt, strD_i, keyD_i, keyD_s, keysD_n, keysD_c, dgetD_s, dgetD_i, dgetD_t, dinD_s, dinD_i, dinD_t, setPat_v, setPat_t, setPats_n, setPats_c, setSlot, start0, wipeE, ownL, stoD, dstD, rangeD, List.map_cons, List.map_nil, List.cons_append, List.nil_append, List.append_nil, List.length_cons, List.length_nil, List.replicate_succ, List.replicate_zero, List.getElem?_cons_zero, List.getElem?_cons_succ, List.set_cons_zero, List.set_cons_succ, List.all_cons, List.all_nil, Nat.add_sub_cancel, Nat.reduceAdd, Nat.reduceSub, Bool.and_true, Bool.true_and, Bool.and_self, Bool.not_true, Bool.not_false, true_and, and_true, decide_eq_true_eq, Nat.zero_add, decide_eq_false_iff_not, Int.reduceLT, Int.reduceEq, eqD_i, eqD_s, shp_i, shp_s, shp_b, shp_n, Int.reduceLE, Int.reduceMul, Int.reduceAdd, Int.reduceMod, Int.reduceNeg, Int.reduceSub, Int.reduceToNat, reduceCtorEq, false_implies, true_implies, decide_true, decide_false, forall_const, Bool.false_eq_true, Bool.not_eq_true', Bool.and_eq_true, Bool.or_eq_true, addD_i, addD_s, addD_l, addD_t, subD_i, mulD_i, mulD_s, fdivD_i, modD_i, powD_i, ltD_i, ltD_s, leD_i, leD_s, gtD_i, gtD_s, geD_i, geD_s, inD_l, inD_t, inD_s, isBl_b, cmpD_eq, cmpD_ne, cmpD_lt, cmpD_le, cmpD_gt, cmpD_ge, cmpD_in, cmpD_notin, cmpD_isN, cmpD_notN, cmpD_isB, cmpD_notB, isNon_n, isNon_i, isNon_b, isNon_s, isNon_l, isNon_t, items_l, items_t, itemsI_l, itemsI_t, itemsI_s, ixD_l, ixD_t, ixD_s, slD_l, slD_t, slD_s, lenD_l, lenD_t, lenD_s, lenD_d, absD_i, minD_i, maxD_i, minD_1, maxD_1, bestD_c, sortedD_1, listD_1, tupleD_1, allD_l, anyD_l, sumD_l, sumD_t, intD_i, intD_b, boolD_b, boolD_i, joinD_s, retK_sh, retK_nw, retK_bw, kdOf_0, kdOf_1, kdOf_2, inKd_sh, inKd_nw, inKd_bw, inKd_b2, toKd_t, toKd_f, notBw_sh, notBw_nw, notBw_bw, notBw_b2, exact_sh, exact_nw, exact_bw, ownOk_l, ownOk_K, ownOk_T, ownOk_2, tyD_ii, tyD_ib, tyD_is, tyD_in, tyD_il, tyD_it, tyD_bi, tyD_bb, tyD_bs, tyD_bn, tyD_bl, tyD_bt, tyD_si, tyD_sb, tyD_ss, tyD_sn, tyD_sl, tyD_st, tyD_ti, tyD_tb, tyD_ts, tyD_tn, tyD_tl, tyD_tt, tyD_li, tyD_lb, tyD_ls, tyD_ln, tyD_ll, tyD_lt, biD_1, biD_2, biD_3, biD_4, biD_5, biD_6, biD_7, biD_8, biD_9, biD_10, biD_11, biD_12, biD_13, biD_14, biD_15, op2D_1, op2D_2, op2D_3, op2D_4, op2D_5, op2D_6, oR_some, Option.map_some, true_or, false_or, Bool.true_or, Bool.false_or, lend_ret, notB2_sh, notB2_nw, notB2_bw, resOk_bl, resOk_int, resOk_non, resOk_str, resOk_l, resOk_t, ixD_map0, ixD_map1, rowD_0, rowD_1, atI_zero, eqD_bl, shp_bl, oR_some, Typ.row.sort (by decide) (.inl fun a => rfl), ev, q5, q6, q7, e3, e1, q2, q3]
          refine ⟨ll, ⟨q10, q10⟩, ?_⟩
          rw [show eqD (D.lst [rowD (0, [b])]) (D.lst [D.tup [D.int 0, D.tup [D.str b]]]) = true from q9]
  obtain ⟨r, e, rfl⟩ := w
  exact e
theorem lc_all {names : List PySem.Str} {f : D → R (Option D)} (h : ∀ a ∈ names, f (.str a) = .ok (some (.bl true))) : lcGo f (names.map .str) = .ok (List.replicate names.length (.bl true)) := by
  induction names with
  | nil => rfl
  | cons a r ih =>
    rw [List.map_cons, lcGo, h a List.mem_cons_self, R.bind_ok, ih fun b hb => h b (List.mem_cons_of_mem _ hb), R.bind_ok]
    rfl
theorem law7 (ns : List Int) (hns : ns.length ≤ 63) : W (run Fs 6 14 [.lst (ns.map .int)]) fun r => r = (.bl true, false) := by
  refine run_W (fn := ⟨1, 5, b_law⟩) rfl rfl ?_
  simp only [b_law]
  simp only [id_eq, R.bind_ok, R.guard_true, ss_cons, ss_nil, Sq, Fl, W_bind, W_ok, W_guard, R.ite_true, R.ite_false, W_ite, evS, evE, evEs, evO, evTs, evIt, strD_i, keyD_i, keyD_s, keysD_n, keysD_c, dgetD_s, dgetD_i, dgetD_t, dinD_s, dinD_i, dinD_t, setPat_v, setPat_t, setPats_n, setPats_c, setSlot, start0, wipeE, ownL, stoD, dstD, rangeD, List.map_cons, List.map_nil, List.cons_append, List.nil_append, List.append_nil, List.length_cons, List.length_nil, List.replicate_succ, List.replicate_zero, List.getElem?_cons_zero, List.getElem?_cons_succ, List.set_cons_zero, List.set_cons_succ, List.all_cons, List.all_nil, Nat.add_sub_cancel, Nat.reduceAdd, Nat.reduceSub, Bool.and_true, Bool.true_and, Bool.and_self, Bool.not_true, Bool.not_false, true_and, and_true, decide_eq_true_eq, Nat.zero_add, decide_eq_false_iff_not, Int.reduceLT, Int.reduceEq, eqD_i, eqD_s, shp_i, shp_s, shp_b, shp_n, Int.reduceLE, Int.reduceMul, Int.reduceAdd, Int.reduceMod, Int.reduceNeg, Int.reduceSub, Int.reduceToNat, reduceCtorEq, false_implies, true_implies, decide_true, decide_false, forall_const, Bool.false_eq_true, Bool.not_eq_true', Bool.and_eq_true, Bool.or_eq_true, addD_i, addD_s, addD_l, addD_t, subD_i, mulD_i, mulD_s, fdivD_i, modD_i, powD_i, ltD_i, ltD_s, leD_i, leD_s, gtD_i, gtD_s, geD_i, geD_s, inD_l, inD_t, inD_s, isBl_b, cmpD_eq, cmpD_ne, cmpD_lt, cmpD_le, cmpD_gt, cmpD_ge, cmpD_in, cmpD_notin, cmpD_isN, cmpD_notN, cmpD_isB, cmpD_notB, isNon_n, isNon_i, isNon_b, isNon_s, isNon_l, isNon_t, items_l, items_t, itemsI_l, itemsI_t, itemsI_s, ixD_l, ixD_t, ixD_s, slD_l, slD_t, slD_s, lenD_l, lenD_t, lenD_s, lenD_d, absD_i, minD_i, maxD_i, minD_1, maxD_1, bestD_c, sortedD_1, listD_1, tupleD_1, allD_l, anyD_l, sumD_l, sumD_t, intD_i, intD_b, boolD_b, boolD_i, joinD_s, retK_sh, retK_nw, retK_bw, kdOf_0, kdOf_1, kdOf_2, inKd_sh, inKd_nw, inKd_bw, inKd_b2, toKd_t, toKd_f, notBw_sh, notBw_nw, notBw_bw, notBw_b2, exact_sh, exact_nw, exact_bw, ownOk_l, ownOk_K, ownOk_T, ownOk_2, tyD_ii, tyD_ib, tyD_is, tyD_in, tyD_il, tyD_it, tyD_bi, tyD_bb, tyD_bs, tyD_bn, tyD_bl, tyD_bt, tyD_si, tyD_sb, tyD_ss, tyD_sn, tyD_sl, tyD_st, tyD_ti, tyD_tb, tyD_ts, tyD_tn, tyD_tl, tyD_tt, tyD_li, tyD_lb, tyD_ls, tyD_ln, tyD_ll, tyD_lt, biD_1, biD_2, biD_3, biD_4, biD_5, biD_6, biD_7, biD_8, biD_9, biD_10, biD_11, biD_12, biD_13, biD_14, biD_15, op2D_1, op2D_2, op2D_3, op2D_4, op2D_5, op2D_6, oR_some, Option.map_some, true_or, false_or, Bool.true_or, Bool.false_or, lend_ret, notB2_sh, notB2_nw, notB2_bw, resOk_bl, resOk_int, resOk_non, resOk_str, resOk_l, resOk_t, ixD_map0, ixD_map1, rowD_0, rowD_1, atI_zero, eqD_bl, shp_bl, oR_some]
  refine (map_ok (F := Fs) (fi := 9) (iCell := 5) (iNum := 6) (iNames := 7) (iEnds := 8) rfl rfl rfl rfl rfl 3 ns 0 8 (by omega) (by omega) (by decide) (by decide)).mono fun r ⟨names, ties, M, _, e⟩ => ?_
  subst e
  have T := M.ties
  have n8 := M.le
  have mp := M.mp
  simp only [id_eq, R.bind_ok, R.guard_true, ss_cons, ss_nil, Sq, Fl, W_bind, W_ok, W_guard, R.ite_true, R.ite_false, W_ite, evS, evE, evEs, evO, evTs, evIt, strD_i, keyD_i, keyD_s, keysD_n, keysD_c, dgetD_s, dgetD_i, dgetD_t, dinD_s, dinD_i, dinD_t, setPat_v, setPat_t, setPats_n, setPats_c, setSlot, start0, wipeE, ownL, stoD, dstD, rangeD, List.map_cons, List.map_nil, List.cons_append, List.nil_append, List.append_nil, List.length_cons, List.length_nil, List.replicate_succ, List.replicate_zero, List.getElem?_cons_zero, List.getElem?_cons_succ, List.set_cons_zero, List.set_cons_succ, List.all_cons, List.all_nil, Nat.add_sub_cancel, Nat.reduceAdd, Nat.reduceSub, Bool.and_true, Bool.true_and, Bool.and_self, Bool.not_true, Bool.not_false, true_and, and_true, decide_eq_true_eq, Nat.zero_add, decide_eq_false_iff_not, Int.reduceLT, Int.reduceEq, eqD_i, eqD_s, shp_i, shp_s, shp_b, shp_n, Int.reduceLE, Int.reduceMul, Int.reduceAdd, Int.reduceMod, Int.reduceNeg, Int.reduceSub, Int.reduceToNat, reduceCtorEq, false_implies, true_implies, decide_true, decide_false, forall_const, Bool.false_eq_true, Bool.not_eq_true', Bool.and_eq_true, Bool.or_eq_true, addD_i, addD_s, addD_l, addD_t, subD_i, mulD_i, mulD_s, fdivD_i, modD_i, powD_i, ltD_i, ltD_s, leD_i, leD_s, gtD_i, gtD_s, geD_i, geD_s, inD_l, inD_t, inD_s, isBl_b, cmpD_eq, cmpD_ne, cmpD_lt, cmpD_le, cmpD_gt, cmpD_ge, cmpD_in, cmpD_notin, cmpD_isN, cmpD_notN, cmpD_isB, cmpD_notB, isNon_n, isNon_i, isNon_b, isNon_s, isNon_l, isNon_t, items_l, items_t, itemsI_l, itemsI_t, itemsI_s, ixD_l, ixD_t, ixD_s, slD_l, slD_t, slD_s, lenD_l, lenD_t, lenD_s, lenD_d, absD_i, minD_i, maxD_i, minD_1, maxD_1, bestD_c, sortedD_1, listD_1, tupleD_1, allD_l, anyD_l, sumD_l, sumD_t, intD_i, intD_b, boolD_b, boolD_i, joinD_s, retK_sh, retK_nw, retK_bw, kdOf_0, kdOf_1, kdOf_2, inKd_sh, inKd_nw, inKd_bw, inKd_b2, toKd_t, toKd_f, notBw_sh, notBw_nw, notBw_bw, notBw_b2, exact_sh, exact_nw, exact_bw, ownOk_l, ownOk_K, ownOk_T, ownOk_2, tyD_ii, tyD_ib, tyD_is, tyD_in, tyD_il, tyD_it, tyD_bi, tyD_bb, tyD_bs, tyD_bn, tyD_bl, tyD_bt, tyD_si, tyD_sb, tyD_ss, tyD_sn, tyD_sl, tyD_st, tyD_ti, tyD_tb, tyD_ts, tyD_tn, tyD_tl, tyD_tt, tyD_li, tyD_lb, tyD_ls, tyD_ln, tyD_ll, tyD_lt, biD_1, biD_2, biD_3, biD_4, biD_5, biD_6, biD_7, biD_8, biD_9, biD_10, biD_11, biD_12, biD_13, biD_14, biD_15, op2D_1, op2D_2, op2D_3, op2D_4, op2D_5, op2D_6, oR_some, Option.map_some, true_or, false_or, Bool.true_or, Bool.false_or, lend_ret, notB2_sh, notB2_nw, notB2_bw, resOk_bl, resOk_int, resOk_non, resOk_str, resOk_l, resOk_t, ixD_map0, ixD_map1, rowD_0, rowD_1, atI_zero, eqD_bl, shp_bl, oR_some]
  refine for_each (fun ρ => ∃ s2 s3 s4, ρ = [some ⟨.lst (ns.map .int), 0⟩, some ⟨mapD names ties, 0⟩, s2, s3, s4]) ⟨_, _, _, rfl⟩ ?_ ?_
  · rintro a ha ρ ⟨s2, s3, s4, rfl⟩
    simp only [id_eq, R.bind_ok, R.guard_true, ss_cons, ss_nil, Sq, Fl, W_bind, W_ok, W_guard, R.ite_true, R.ite_false, W_ite, evS, evE, evEs, evO, evTs, evIt, strD_i, keyD_i, keyD_s, keysD_n, keysD_c, dgetD_s, dgetD_i, dgetD_t, dinD_s, dinD_i, dinD_t, setPat_v, setPat_t, setPats_n, setPats_c, setSlot, start0, wipeE, ownL, stoD, dstD, rangeD, List.map_cons, List.map_nil, List.cons_append, List.nil_append, List.append_nil, List.length_cons, List.length_nil, List.replicate_succ, List.replicate_zero, List.getElem?_cons_zero, List.getElem?_cons_succ, List.set_cons_zero, List.set_cons_succ, List.all_cons, List.all_nil, Nat.add_sub_cancel, Nat.reduceAdd, Nat.reduceSub, Bool.and_true, Bool.true_and, Bool.and_self, Bool.not_true, Bool.not_false, true_and, and_true, decide_eq_true_eq, Nat.zero_add, decide_eq_false_iff_not, Int.reduceLT, Int.reduceEq, eqD_i, eqD_s, shp_i, shp_s, shp_b, shp_n, Int.reduceLE, Int.reduceMul, Int.reduceAdd, Int.reduceMod, Int.reduceNeg, Int.reduceSub, Int.reduceToNat, reduceCtorEq, false_implies, true_implies, decide_true, decide_false, forall_const, Bool.false_eq_true, Bool.not_eq_true', Bool.and_eq_true, Bool.or_eq_true, addD_i, addD_s, addD_l, addD_t, subD_i, mulD_i, mulD_s, fdivD_i, modD_i, powD_i, ltD_i, ltD_s, leD_i, leD_s, gtD_i, gtD_s, geD_i, geD_s, inD_l, inD_t, inD_s, isBl_b, cmpD_eq, cmpD_ne, cmpD_lt, cmpD_le, cmpD_gt, cmpD_ge, cmpD_in, cmpD_notin, cmpD_isN, cmpD_notN, cmpD_isB, cmpD_notB, isNon_n, isNon_i, isNon_b, isNon_s, isNon_l, isNon_t, items_l, items_t, itemsI_l, itemsI_t, itemsI_s, ixD_l, ixD_t, ixD_s, slD_l, slD_t, slD_s, lenD_l, lenD_t, lenD_s, lenD_d, absD_i, minD_i, maxD_i, minD_1, maxD_1, bestD_c, sortedD_1, listD_1, tupleD_1, allD_l, anyD_l, sumD_l, sumD_t, intD_i, intD_b, boolD_b, boolD_i, joinD_s, retK_sh, retK_nw, retK_bw, kdOf_0, kdOf_1, kdOf_2, inKd_sh, inKd_nw, inKd_bw, inKd_b2, toKd_t, toKd_f, notBw_sh, notBw_nw, notBw_bw, notBw_b2, exact_sh, exact_nw, exact_bw, ownOk_l, ownOk_K, ownOk_T, ownOk_2, tyD_ii, tyD_ib, tyD_is, tyD_in, tyD_il, tyD_it, tyD_bi, tyD_bb, tyD_bs, tyD_bn, tyD_bl, tyD_bt, tyD_si, tyD_sb, tyD_ss, tyD_sn, tyD_sl, tyD_st, tyD_ti, tyD_tb, tyD_ts, tyD_tn, tyD_tl, tyD_tt, tyD_li, tyD_lb, tyD_ls, tyD_ln, tyD_ll, tyD_lt, biD_1, biD_2, biD_3, biD_4, biD_5, biD_6, biD_7, biD_8, biD_9, biD_10, biD_11, biD_12, biD_13, biD_14, biD_15, op2D_1, op2D_2, op2D_3, op2D_4, op2D_5, op2D_6, oR_some, Option.map_some, true_or, false_or, Bool.true_or, Bool.false_or, lend_ret, notB2_sh, notB2_nw, notB2_bw, resOk_bl, resOk_int, resOk_non, resOk_str, resOk_l, resOk_t, ixD_map0, ixD_map1, rowD_0, rowD_1, atI_zero, eqD_bl, shp_bl, oR_some]
    obtain ⟨_, _, Rs, _, _, hR, hl, _⟩ := ways_ok (F := Fs) (fi := 3) (iLen := 2) (iBes := 0) rfl rfl rfl 0 T n8 ha
    refine (lways_ok (F := Fs) (fi := 12) (iLen := 11) rfl rfl 3 mp.nd T n8 ha hR hl).mono fun r ⟨rows, e, r1, r2, r3, _⟩ => ?_
    subst e
    simp only [id_eq, R.bind_ok, R.guard_true, ss_cons, ss_nil, Sq, Fl, W_bind, W_ok, W_guard, R.ite_true, R.ite_false, W_ite, evS, evE, evEs, evO, evTs, evIt, strD_i, keyD_i, keyD_s, keysD_n, keysD_c, dgetD_s, dgetD_i, dgetD_t, dinD_s, dinD_i, dinD_t, setPat_v, setPat_t, setPats_n, setPats_c, setSlot, start0, wipeE, ownL, stoD, dstD, rangeD, List.map_cons, List.map_nil, List.cons_append, List.nil_append, List.append_nil, List.length_cons, List.length_nil, List.replicate_succ, List.replicate_zero, List.getElem?_cons_zero, List.getElem?_cons_succ, List.set_cons_zero, List.set_cons_succ, List.all_cons, List.all_nil, Nat.add_sub_cancel, Nat.reduceAdd, Nat.reduceSub, Bool.and_true, Bool.true_and, Bool.and_self, Bool.not_true, Bool.not_false, true_and, and_true, decide_eq_true_eq, Nat.zero_add, decide_eq_false_iff_not, Int.reduceLT, Int.reduceEq, eqD_i, eqD_s, shp_i, shp_s, shp_b, shp_n, Int.reduceLE, Int.reduceMul, Int.reduceAdd, Int.reduceMod, Int.reduceNeg, Int.reduceSub, Int.reduceToNat, reduceCtorEq, false_implies, true_implies, decide_true, decide_false, forall_const, Bool.false_eq_true, Bool.not_eq_true', Bool.and_eq_true, Bool.or_eq_true, addD_i, addD_s, addD_l, addD_t, subD_i, mulD_i, mulD_s, fdivD_i, modD_i, powD_i, ltD_i, ltD_s, leD_i, leD_s, gtD_i, gtD_s, geD_i, geD_s, inD_l, inD_t, inD_s, isBl_b, cmpD_eq, cmpD_ne, cmpD_lt, cmpD_le, cmpD_gt, cmpD_ge, cmpD_in, cmpD_notin, cmpD_isN, cmpD_notN, cmpD_isB, cmpD_notB, isNon_n, isNon_i, isNon_b, isNon_s, isNon_l, isNon_t, items_l, items_t, itemsI_l, itemsI_t, itemsI_s, ixD_l, ixD_t, ixD_s, slD_l, slD_t, slD_s, lenD_l, lenD_t, lenD_s, lenD_d, absD_i, minD_i, maxD_i, minD_1, maxD_1, bestD_c, sortedD_1, listD_1, tupleD_1, allD_l, anyD_l, sumD_l, sumD_t, intD_i, intD_b, boolD_b, boolD_i, joinD_s, retK_sh, retK_nw, retK_bw, kdOf_0, kdOf_1, kdOf_2, inKd_sh, inKd_nw, inKd_bw, inKd_b2, toKd_t, toKd_f, notBw_sh, notBw_nw, notBw_bw, notBw_b2, exact_sh, exact_nw, exact_bw, ownOk_l, ownOk_K, ownOk_T, ownOk_2, tyD_ii, tyD_ib, tyD_is, tyD_in, tyD_il, tyD_it, tyD_bi, tyD_bb, tyD_bs, tyD_bn, tyD_bl, tyD_bt, tyD_si, tyD_sb, tyD_ss, tyD_sn, tyD_sl, tyD_st, tyD_ti, tyD_tb, tyD_ts, tyD_tn, tyD_tl, tyD_tt, tyD_li, tyD_lb, tyD_ls, tyD_ln, tyD_ll, tyD_lt, biD_1, biD_2, biD_3, biD_4, biD_5, biD_6, biD_7, biD_8, biD_9, biD_10, biD_11, biD_12, biD_13, biD_14, biD_15, op2D_1, op2D_2, op2D_3, op2D_4, op2D_5, op2D_6, oR_some, Option.map_some, true_or, false_or, Bool.true_or, Bool.false_or, lend_ret, notB2_sh, notB2_nw, notB2_bw, resOk_bl, resOk_int, resOk_non, resOk_str, resOk_l, resOk_t, ixD_map0, ixD_map1, rowD_0, rowD_1, atI_zero, eqD_bl, shp_bl, oR_some]
    refine W.eq (lc_all fun b hb => ?_) ?_
    · simp only [id_eq, R.bind_ok, R.guard_true, ss_cons, ss_nil, Sq, Fl, W_bind, W_ok, W_guard, R.ite_true, R.ite_false, W_ite, evS, evE, evEs, evO, evTs, evIt, strD_i, keyD_i, keyD_s, keysD_n, keysD_c, dgetD_s, dgetD_i, dgetD_t, dinD_s, dinD_i, dinD_t, setPat_v, setPat_t, setPats_n, setPats_c, setSlot, start0, wipeE, ownL, stoD, dstD, rangeD, List.map_cons, List.map_nil, List.cons_append, List.nil_append, List.append_nil, List.length_cons, List.length_nil, List.replicate_succ, List.replicate_zero, List.getElem?_cons_zero, List.getElem?_cons_succ, List.set_cons_zero, List.set_cons_succ, List.all_cons, List.all_nil, Nat.add_sub_cancel, Nat.reduceAdd, Nat.reduceSub, Bool.and_true, Bool.true_and, Bool.and_self, Bool.not_true, Bool.not_false, true_and, and_true, decide_eq_true_eq, Nat.zero_add, decide_eq_false_iff_not, Int.reduceLT, Int.reduceEq, eqD_i, eqD_s, shp_i, shp_s, shp_b, shp_n, Int.reduceLE, Int.reduceMul, Int.reduceAdd, Int.reduceMod, Int.reduceNeg, Int.reduceSub, Int.reduceToNat, reduceCtorEq, false_implies, true_implies, decide_true, decide_false, forall_const, Bool.false_eq_true, Bool.not_eq_true', Bool.and_eq_true, Bool.or_eq_true, addD_i, addD_s, addD_l, addD_t, subD_i, mulD_i, mulD_s, fdivD_i, modD_i, powD_i, ltD_i, ltD_s, leD_i, leD_s, gtD_i, gtD_s, geD_i, geD_s, inD_l, inD_t, inD_s, isBl_b, cmpD_eq, cmpD_ne, cmpD_lt, cmpD_le, cmpD_gt, cmpD_ge, cmpD_in, cmpD_notin, cmpD_isN, cmpD_notN, cmpD_isB, cmpD_notB, isNon_n, isNon_i, isNon_b, isNon_s, isNon_l, isNon_t, items_l, items_t, itemsI_l, itemsI_t, itemsI_s, ixD_l, ixD_t, ixD_s, slD_l, slD_t, slD_s, lenD_l, lenD_t, lenD_s, lenD_d, absD_i, minD_i, maxD_i, minD_1, maxD_1, bestD_c, sortedD_1, listD_1, tupleD_1, allD_l, anyD_l, sumD_l, sumD_t, intD_i, intD_b, boolD_b, boolD_i, joinD_s, retK_sh, retK_nw, retK_bw, kdOf_0, kdOf_1, kdOf_2, inKd_sh, inKd_nw, inKd_bw, inKd_b2, toKd_t, toKd_f, notBw_sh, notBw_nw, notBw_bw, notBw_b2, exact_sh, exact_nw, exact_bw, ownOk_l, ownOk_K, ownOk_T, ownOk_2, tyD_ii, tyD_ib, tyD_is, tyD_in, tyD_il, tyD_it, tyD_bi, tyD_bb, tyD_bs, tyD_bn, tyD_bl, tyD_bt, tyD_si, tyD_sb, tyD_ss, tyD_sn, tyD_sl, tyD_st, tyD_ti, tyD_tb, tyD_ts, tyD_tn, tyD_tl, tyD_tt, tyD_li, tyD_lb, tyD_ls, tyD_ln, tyD_ll, tyD_lt, biD_1, biD_2, biD_3, biD_4, biD_5, biD_6, biD_7, biD_8, biD_9, biD_10, biD_11, biD_12, biD_13, biD_14, biD_15, op2D_1, op2D_2, op2D_3, op2D_4, op2D_5, op2D_6, oR_some, Option.map_some, true_or, false_or, Bool.true_or, Bool.false_or, lend_ret, notB2_sh, notB2_nw, notB2_bw, resOk_bl, resOk_int, resOk_non, resOk_str, resOk_l, resOk_t, ixD_map0, ixD_map1, rowD_0, rowD_1, atI_zero, eqD_bl, shp_bl, oR_some, right7 mp n8 ha hb r1 r2 r3 0]
    · have e2 : (List.replicate names.length (D.bl true)) = (List.replicate names.length true).map .bl := by rw [List.map_replicate]
      have e3 : (List.replicate names.length true).all id = true := by
        rw [List.all_eq_true]
        intro x hx
        exact (List.mem_replicate.mp hx).2
      rw [e2, boolsD_map, W_ok, e3]
      exact ⟨fun z => (nomatch z), fun _ => ⟨_, _, _, rfl⟩⟩
  · rintro ρ ⟨s2, s3, s4, rfl⟩
    simp only [id_eq, R.bind_ok, R.guard_true, ss_cons, ss_nil, Sq, Fl, W_bind, W_ok, W_guard, R.ite_true, R.ite_false, W_ite, evS, evE, evEs, evO, evTs, evIt, strD_i, keyD_i, keyD_s, keysD_n, keysD_c, dgetD_s, dgetD_i, dgetD_t, dinD_s, dinD_i, dinD_t, setPat_v, setPat_t, setPats_n, setPats_c, setSlot, start0, wipeE, ownL, stoD, dstD, rangeD, List.map_cons, List.map_nil, List.cons_append, List.nil_append, List.append_nil, List.length_cons, List.length_nil, List.replicate_succ, List.replicate_zero, List.getElem?_cons_zero, List.getElem?_cons_succ, List.set_cons_zero, List.set_cons_succ, List.all_cons, List.all_nil, Nat.add_sub_cancel, Nat.reduceAdd, Nat.reduceSub, Bool.and_true, Bool.true_and, Bool.and_self, Bool.not_true, Bool.not_false, true_and, and_true, decide_eq_true_eq, Nat.zero_add, decide_eq_false_iff_not, Int.reduceLT, Int.reduceEq, eqD_i, eqD_s, shp_i, shp_s, shp_b, shp_n, Int.reduceLE, Int.reduceMul, Int.reduceAdd, Int.reduceMod, Int.reduceNeg, Int.reduceSub, Int.reduceToNat, reduceCtorEq, false_implies, true_implies, decide_true, decide_false, forall_const, Bool.false_eq_true, Bool.not_eq_true', Bool.and_eq_true, Bool.or_eq_true, addD_i, addD_s, addD_l, addD_t, subD_i, mulD_i, mulD_s, fdivD_i, modD_i, powD_i, ltD_i, ltD_s, leD_i, leD_s, gtD_i, gtD_s, geD_i, geD_s, inD_l, inD_t, inD_s, isBl_b, cmpD_eq, cmpD_ne, cmpD_lt, cmpD_le, cmpD_gt, cmpD_ge, cmpD_in, cmpD_notin, cmpD_isN, cmpD_notN, cmpD_isB, cmpD_notB, isNon_n, isNon_i, isNon_b, isNon_s, isNon_l, isNon_t, items_l, items_t, itemsI_l, itemsI_t, itemsI_s, ixD_l, ixD_t, ixD_s, slD_l, slD_t, slD_s, lenD_l, lenD_t, lenD_s, lenD_d, absD_i, minD_i, maxD_i, minD_1, maxD_1, bestD_c, sortedD_1, listD_1, tupleD_1, allD_l, anyD_l, sumD_l, sumD_t, intD_i, intD_b, boolD_b, boolD_i, joinD_s, retK_sh, retK_nw, retK_bw, kdOf_0, kdOf_1, kdOf_2, inKd_sh, inKd_nw, inKd_bw, inKd_b2, toKd_t, toKd_f, notBw_sh, notBw_nw, notBw_bw, notBw_b2, exact_sh, exact_nw, exact_bw, ownOk_l, ownOk_K, ownOk_T, ownOk_2, tyD_ii, tyD_ib, tyD_is, tyD_in, tyD_il, tyD_it, tyD_bi, tyD_bb, tyD_bs, tyD_bn, tyD_bl, tyD_bt, tyD_si, tyD_sb, tyD_ss, tyD_sn, tyD_sl, tyD_st, tyD_ti, tyD_tb, tyD_ts, tyD_tn, tyD_tl, tyD_tt, tyD_li, tyD_lb, tyD_ls, tyD_ln, tyD_ll, tyD_lt, biD_1, biD_2, biD_3, biD_4, biD_5, biD_6, biD_7, biD_8, biD_9, biD_10, biD_11, biD_12, biD_13, biD_14, biD_15, op2D_1, op2D_2, op2D_3, op2D_4, op2D_5, op2D_6, oR_some, Option.map_some, true_or, false_or, Bool.true_or, Bool.false_or, lend_ret, notB2_sh, notB2_nw, notB2_bw, resOk_bl, resOk_int, resOk_non, resOk_str, resOk_l, resOk_t, ixD_map0, ixD_map1, rowD_0, rowD_1, atI_zero, eqD_bl, shp_bl, oR_some]
def fuelN : Nat := 6
theorem main (ns : List Int) (hns : ns.length ≤ 63) : ∃ b, run Fs fuelN 14 [.lst (ns.map .int)] = .ok (.bl true, b) := by
  obtain ⟨r, e, rfl⟩ := law7 ns hns
  exact ⟨_, e⟩
end Law

open PySem PySem.W PyProof.Rows
set_option maxRecDepth 100000 in
set_option maxHeartbeats 0 in
theorem PySem.Challenge.cw_leastcarry_k07_all_ways_holds : PySem.Challenge.rw_leastcarry_k07_all_ways.Holds := by
  w_on; o_law; k_head; (case hw => w_witness2)
  k_fill
  refine Fw.law_walk (l := PySem.Challenge.rw_leastcarry_k07_all_ways) (Fs := Law.Fs) (n := Law.fuelN) (k := 5) (fi := 14) (x := "_law_script") rfl rfl ⟨rfl, by decide, by decide⟩ (fun w h Y => PySem.W.kIn_of Y) Law.main ?F
  case F =>
    intro w mg h KX G
    have T : Law.Txt mg := by
      refine' ⟨(Fw.all_cons (PySem.W.mg_none_of KX G ?b_abs) (Fw.all_cons (PySem.W.mg_none_of KX G ?b_all) (Fw.all_cons (PySem.W.mg_none_of KX G ?b_bool) (Fw.all_cons (PySem.W.mg_none_of KX G ?b_enumerate) (Fw.all_cons (PySem.W.mg_none_of KX G ?b_int) (Fw.all_cons (PySem.W.mg_none_of KX G ?b_isinstance) (Fw.all_cons (PySem.W.mg_none_of KX G ?b_len) (Fw.all_cons (PySem.W.mg_none_of KX G ?b_list) (Fw.all_cons (PySem.W.mg_none_of KX G ?b_range) (Fw.all_cons (PySem.W.mg_none_of KX G ?b_sorted) (Fw.all_cons (PySem.W.mg_none_of KX G ?b_tuple) Fw.all_nil))))))))))), Fw.pairs_nil, Fw.pairs_nil⟩
      (case b_abs => k_is); (case b_all => k_is); (case b_bool => k_is); (case b_enumerate => k_is); (case b_int => k_is); (case b_isinstance => k_is); (case b_len => k_is); (case b_list => k_is); (case b_range => k_is); (case b_sorted => k_is); (case b_tuple => k_is)
    have d_beside := Fw.defIn_mk (nm := "beside") (st := Law.s_beside) (ps := ["ties", "name"]) KX G (by k_is) (by k_is) (by k_is) (by k_is) (fun _ _ _ _ _ _ us hl => match us, hl with | [_, _], _ => rfl)
    have d_check_place := Fw.defIn_mk (nm := "check_place") (st := Law.s_check_place) (ps := ["the_map", "name"]) KX G (by k_is) (by k_is) (by k_is) (by k_is) (fun _ _ _ _ _ _ us hl => match us, hl with | [_, _], _ => rfl)
    have d_lengths_of := Fw.defIn_mk (nm := "lengths_of") (st := Law.s_lengths_of) (ps := ["the_map"]) KX G (by k_is) (by k_is) (by k_is) (by k_is) (fun _ _ _ _ _ _ us hl => match us, hl with | [_], _ => rfl)
    have d_ways_from := Fw.defIn_mk (nm := "ways_from") (st := Law.s_ways_from) (ps := ["the_map", "one"]) KX G (by k_is) (by k_is) (by k_is) (by k_is) (fun _ _ _ _ _ _ us hl => match us, hl with | [_, _], _ => rfl)
    have d_ways_between := Fw.defIn_mk (nm := "ways_between") (st := Law.s_ways_between) (ps := ["the_map", "one", "other"]) KX G (by k_is) (by k_is) (by k_is) (by k_is) (fun _ _ _ _ _ _ us hl => match us, hl with | [_, _, _], _ => rfl)
    have d__law_cell := Fw.defIn_mk (nm := "_law_cell") (st := Law.s__law_cell) (ps := ["_law_script", "_law_k"]) KX G (by k_is) (by k_is) (by k_is) (by k_is) (fun _ _ _ _ _ _ us hl => match us, hl with | [_, _], _ => rfl)
    have d__law_numbers := Fw.defIn_mk (nm := "_law_numbers") (st := Law.s__law_numbers) (ps := ["_law_cell_here", "_law_many"]) KX G (by k_is) (by k_is) (by k_is) (by k_is) (fun _ _ _ _ _ _ us hl => match us, hl with | [_, _], _ => rfl)
    have d__law_names := Fw.defIn_mk (nm := "_law_names") (st := Law.s__law_names) (ps := ["_law_xs", "_law_many"]) KX G (by k_is) (by k_is) (by k_is) (by k_is) (fun _ _ _ _ _ _ us hl => match us, hl with | [_, _], _ => rfl)
    have d__law_ends := Fw.defIn_mk (nm := "_law_ends") (st := Law.s__law_ends) (ps := ["_law_kind", "_law_many", "_law_xs"]) KX G (by k_is) (by k_is) (by k_is) (by k_is) (fun _ _ _ _ _ _ us hl => match us, hl with | [_, _, _], _ => rfl)
    have d__law_map := Fw.defIn_mk (nm := "_law_map") (st := Law.s__law_map) (ps := ["_law_script", "_law_at", "_law_most"]) KX G (by k_is) (by k_is) (by k_is) (by k_is) (fun _ _ _ _ _ _ us hl => match us, hl with | [_, _, _], _ => rfl)
    have d__law_whole := Fw.defIn_mk (nm := "_law_whole") (st := Law.s__law_whole) (ps := ["_law_thing"]) KX G (by k_is) (by k_is) (by k_is) (by k_is) (fun _ _ _ _ _ _ us hl => match us, hl with | [_], _ => rfl)
    have d__law_lengths := Fw.defIn_mk (nm := "_law_lengths") (st := Law.s__law_lengths) (ps := ["_law_spot"]) KX G (by k_is) (by k_is) (by k_is) (by k_is) (fun _ _ _ _ _ _ us hl => match us, hl with | [_], _ => rfl)
    have d__law_ways := Fw.defIn_mk (nm := "_law_ways") (st := Law.s__law_ways) (ps := ["_law_spot", "_law_one"]) KX G (by k_is) (by k_is) (by k_is) (by k_is) (fun _ _ _ _ _ _ us hl => match us, hl with | [_, _], _ => rfl)
    have d__law_right := Fw.defIn_mk (nm := "_law_right") (st := Law.s__law_right) (ps := ["_law_spot", "_law_one", "_law_other", "_law_ways_here"]) KX G (by k_is) (by k_is) (by k_is) (by k_is) (fun _ _ _ _ _ _ us hl => match us, hl with | [_, _, _, _], _ => rfl)
    have d_law := Fw.defIn_mk (nm := "law") (st := Law.s_law) (ps := ["_law_script"]) KX G (by k_is) (by k_is) (by k_is) (by k_is) (fun _ _ _ _ _ _ us hl => match us, hl with | [_], _ => rfl)
    refine ⟨Law.s_law, d_law, fun fa fd Fu base h1 h2 => ?_⟩
    have o_beside := Law.ok_beside (P := PySem.Challenge.rw_leastcarry_k07_all_ways.prog) (w := w) (base := base) T d_beside
    have o_check_place := Law.ok_check_place (P := PySem.Challenge.rw_leastcarry_k07_all_ways.prog) (w := w) (base := base) T d_check_place
    have o_lengths_of := Law.ok_lengths_of (P := PySem.Challenge.rw_leastcarry_k07_all_ways.prog) (w := w) (base := base) T d_lengths_of
    have o_ways_from := Law.ok_ways_from (P := PySem.Challenge.rw_leastcarry_k07_all_ways.prog) (w := w) (base := base) T o_lengths_of o_beside d_ways_from
    have o_ways_between := Law.ok_ways_between (P := PySem.Challenge.rw_leastcarry_k07_all_ways.prog) (w := w) (base := base) T o_check_place o_ways_from d_ways_between
    have o__law_cell := Law.ok__law_cell (P := PySem.Challenge.rw_leastcarry_k07_all_ways.prog) (w := w) (base := base) T d__law_cell
    have o__law_numbers := Law.ok__law_numbers (P := PySem.Challenge.rw_leastcarry_k07_all_ways.prog) (w := w) (base := base) T d__law_numbers
    have o__law_names := Law.ok__law_names (P := PySem.Challenge.rw_leastcarry_k07_all_ways.prog) (w := w) (base := base) T d__law_names
    have o__law_ends := Law.ok__law_ends (P := PySem.Challenge.rw_leastcarry_k07_all_ways.prog) (w := w) (base := base) T d__law_ends
    have o__law_map := Law.ok__law_map (P := PySem.Challenge.rw_leastcarry_k07_all_ways.prog) (w := w) (base := base) T o__law_numbers o__law_names o__law_cell o__law_ends d__law_map
    have o__law_whole := Law.ok__law_whole (P := PySem.Challenge.rw_leastcarry_k07_all_ways.prog) (w := w) (base := base) T d__law_whole
    have o__law_lengths := Law.ok__law_lengths (P := PySem.Challenge.rw_leastcarry_k07_all_ways.prog) (w := w) (base := base) T d__law_lengths
    have o__law_ways := Law.ok__law_ways (P := PySem.Challenge.rw_leastcarry_k07_all_ways.prog) (w := w) (base := base) T o__law_lengths d__law_ways
    have o__law_right := Law.ok__law_right (P := PySem.Challenge.rw_leastcarry_k07_all_ways.prog) (w := w) (base := base) T o_ways_between o__law_whole d__law_right
    exact Law.ok_law T o__law_map o__law_ways o__law_right Fu Law.fuelN
