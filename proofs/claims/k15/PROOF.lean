import PyProof.Rows.All
import Wide.All
import OpenK.AllK
import Wide.FinOn
import PySem.Challenge.RW_gamecheck_k15_whole_moves_of_states
import HandS.ForMost
import HandS.TupAny
import HandS.TupMul
import HandS.Flow
import HandS.Style
import HandS.Deep
import HandS.IsInst
import HandS.Text
import KE.KDictKeyed
import KE.KDictDisplayH
import HandS.SetFor
import HandS.Dict
import PyProof.Rows.SetFrom
import HandS.TupSets
import PyProof.FactsAll.set_2
import HandS.SortInts
import PyProof.Rows.SortKeyStr
import HandS.Conv
import HandS.TupLen
import HandS.Walk
import PyProof.ListStr
import HandS.Keys
import HandS.Strs
import KE.KSortTup
import PyProof.ReprRoads
import PyProof.CallFns
import HandS.Zip
import HandS.Ends
import HandS.HeadEnd
import HandS.Defaults
import HandS.Zip0
import HandS.DictTup
import PyProof.CollectWalk
import KE.KDictList
import KE.KSlice
import KE.KRevSl
import KE.GoesEnum
import KE.GoesMore
import HandS.Head0
import HandS.Head1
import HandS.Head2
import HandS.HeadHook1
import HandS.HeadHook2
import HandS.HeadHook3
import HandS.HeadHook4
import PyProof.StrLawsRepr
import PyProof.Rows.StrJoinMade
import PyProof.Rows.ReprOcc
set_option Elab.async false
set_option linter.all false
set_option maxRecDepth 100000
/-! Ip, part 1: pure values, a small language, what it does. -/
namespace Ip
open PySem L2

/-- a pure value -/
inductive PV where
  | non | bl (b : Bool) | int (i : Int) | str (x : Str)
  | lst (xs : List PV) | tup (xs : List PV) | dct (n : Bool) (ks vs : List PV) | set (xs : List PV)
instance : Inhabited PV := ⟨.non⟩
/-- a value of a name: a pure one, a thing that may change (by its number), a def -/
inductive EV where
  | p (v : PV) | box (n : Nat) | fn (f : Nat)
instance : Inhabited EV := ⟨.p .non⟩
inductive Cell where
  | lst (xs : List PV) | dct (n : Bool) (ks vs : List PV) | dead
abbrev Store := List Cell
/-- an exception: the number of its class, what it bears -/
structure Exc where
  cls : Nat
  arg : PV
inductive Res (α : Type) where
  | ok (a : α) (S : Store)
  | exc (x : Exc) (S : Store)
  | stuck
abbrev M (α : Type) := Store → Res α
def M.pure {α : Type} (a : α) : M α := fun S => .ok a S
def M.bind {α β : Type} (m : M α) (f : α → M β) : M β := fun S =>
  match m S with
  | .ok a S' => f a S'
  | .exc x S' => .exc x S'
  | .stuck => .stuck
instance : Monad M where
  pure := M.pure
  bind := M.bind
def stk {α : Type} : M α := fun _ => .stuck
def ofO {α : Type} : Option α → M α
  | some a => M.pure a
  | none => stk
abbrev Nv := List (Option EV)

inductive Bop where
  | add | sub | mul | fdiv | mod | pow | bor
  deriving DecidableEq
inductive Cop where
  | eq | ne | lt | le | gt | ge | isin | notin | is_ | isnot
  deriving DecidableEq
inductive Blt where
  | len | abs | int | list | tuple | all | any | str | repr | sorted | set | dict | min | max | sum | range | enum | zip
  deriving DecidableEq
inductive Kd where
  | int | str | tuple | bool | list
  deriving DecidableEq
inductive Mt where
  | get | index | count | join | upper | append | pop | get2 | setd | remove
  deriving DecidableEq

/-- a target -/
inductive Tg where
  | nm (i : Nat)
  | tup (gs : List Tg)

mutual
inductive Ex where
  | var (i : Nat)
  | con (v : PV)
  | glo (x : Str) (v : PV)
  | fnv (f : Nat)
  | tup (es : List Ex)
  | lst (es : List Ex)
  | newL (es : List Ex)
  | dsp (n : Bool) (es : List Ex)
  | newD (n : Bool) (es : List Ex)
  | bin (op : Bop) (a b : Ex)
  | neg (a : Ex)
  | cmp (op : Cop) (a b : Ex)
  | chn (o1 o2 : Cop) (a b c : Ex)
  | and (a b : Ex)
  | or (a b : Ex)
  | not (a : Ex)
  | ite (c a b : Ex)
  | ix (a i : Ex)
  | sl (a : Ex) (lo hi : Option Ex)
  | call (f : Nat) (es : List Ex)
  | callv (i : Nat) (es : List Ex)
  | zipV (t : Bool) (a b : Ex)
  | slR (a c : Ex)
  | rngV (t : Bool) (a : Ex)
  | newDL (a : Ex)
  | newC (e : Ex) (own : List Nat) (g : Tg) (it : Itx) (ifs : List Ex)
  | blt (b : Blt) (es : List Ex)
  | meth (m : Mt) (o : Ex) (es : List Ex)
  | isi (e : Ex) (k : Kd)
  | comp (e : Ex) (own : List Nat) (g : Tg) (it : Itx) (ifs : List Ex)
  | comp2 (e : Ex) (own : List Nat) (g : Tg) (it : Itx) (ifs : List Ex) (own1 : List Nat) (g1 : Tg) (it1 : Itx) (ifs1 : List Ex)
/-- what is walked -/
inductive Itx where
  | seq (e : Ex)
  | rng1 (a : Ex)
  | rng2 (a b : Ex)
  | enum (e : Ex)
  | zip (a b : Ex)
end

inductive Sx where
  | asg (g : Tg) (e : Ex)
  | sub (o i : Ex) (e : Ex)
  | aug (i : Nat) (op : Bop) (e : Ex)
  | ex (e : Ex)
  | ret (e : Ex)
  | retN
  | ifS (c : Ex) (a b : List Sx)
  | whS (c : Ex) (b : List Sx)
  | forS (g : Tg) (it : Itx) (b : List Sx)
  | brk | cnt | pass
  | frz (i : Nat)
  | rse
  | asgs (is : List Nat) (es : List Ex)

/-! ### equality -/
mutual
def eqP : PV → PV → Bool
  | .non, .non => true
  | .bl a, .bl b => a == b
  | .bl a, .int j => (if a then 1 else 0) == j
  | .int i, .bl b => i == (if b then 1 else 0)
  | .int i, .int j => i == j
  | .str x, .str y => x == y
  | .lst xs, .lst ys => eqPs xs ys
  | .tup xs, .tup ys => eqPs xs ys
  | _, _ => false
def eqPs : List PV → List PV → Bool
  | [], [] => true
  | x :: xs, y :: ys => eqP x y && eqPs xs ys
  | _, _ => false
end
mutual
/-- no dict, no set within -/
def plain : PV → Bool
  | .lst xs => plains xs
  | .tup xs => plains xs
  | .dct _ _ _ => false
  | .set _ => false
  | _ => true
def plains : List PV → Bool
  | [] => true
  | x :: xs => plain x && plains xs
end
mutual
def dep : PV → Nat
  | .lst xs => deps xs + 1
  | .tup xs => deps xs + 1
  | _ => 0
def deps : List PV → Nat
  | [] => 0
  | x :: xs => max (dep x) (deps xs)
end
mutual
def toD : PV → PyData
  | .non => .none
  | .bl b => .bool b
  | .int i => .int i
  | .str x => .str x
  | .lst xs => .list (toDs xs)
  | .tup xs => .tuple (toDs xs)
  | .dct _ _ _ => .none
  | .set _ => .none
def toDs : List PV → List PyData
  | [] => []
  | x :: xs => toD x :: toDs xs
end

/-! ### dicts -/
mutual
/-- a key that is a tuple, or in one -/
def nk : PV → Option NestedKey
  | .non => some .none
  | .bl b => some (.num (if b then 1 else 0))
  | .int i => some (.num i)
  | .str x => some (.text x)
  | .tup xs => (nks xs).map .tup
  | _ => none
def nks : List PV → Option (List NestedKey)
  | [] => some []
  | x :: xs => match nk x, nks xs with
    | some a, some as => some (a :: as)
    | _, _ => none
end
def keyB (n : Bool) (v : PV) : Bool := match n, v with
  | false, .int _ => true
  | false, .str _ => true
  | true, .tup xs => (match nk (.tup xs) with
    | some k => decide (k.depth ≤ 8)
    | none => false)
  | _, _ => false
def findD (k : PV) : List PV → List PV → Option PV
  | k' :: ks, v :: vs => if eqP k' k then some v else findD k ks vs
  | _, _ => none
/-- in its place, or at the end -/
def putV (k v : PV) : List PV → List PV → List PV
  | k' :: ks, u :: vs => if eqP k' k then v :: vs else u :: putV k v ks vs
  | _, _ => [v]
def putKs (k : PV) : List PV → List PV
  | [] => [k]
  | k' :: ks => if eqP k' k then k' :: ks else k' :: putKs k ks
/-- pairs: keys and values in turn -/
def mergeD : List PV → List PV → List PV → List PV × List PV
  | ks, vs, k :: v :: r => mergeD (putKs k ks) (putV k v ks vs) r
  | ks, vs, _ => (ks, vs)
/-- the keys of such pairs are keys -/
def keysB (n : Bool) : List PV → Bool
  | k :: _ :: r => keyB n k && keysB n r
  | [] => true
  | _ => false
def prsOf : List PV → Option (List PV)
  | [] => some []
  | .tup [k, v] :: r => (prsOf r).map fun l => k :: v :: l
  | _ :: _ => none

/-! ### operations -/
abbrev Line : Nat := 16777216
def cmulB (i j : Int) : Bool := (decide (-(2 ^ 64) < i) && decide (i < 2 ^ 64)) || (decide (-(2 ^ 64) < j) && decide (j < 2 ^ 64))
def memP (x : PV) : List PV → Bool
  | [] => false
  | y :: ys => eqP y x || memP x ys
/-- a set: one more, if it is not there -/
def dedA (acc : List PV) (x : PV) : List PV := if memP x acc then acc else acc ++ [x]
def dedP (acc : List PV) : List PV → List PV
  | [] => acc
  | x :: r => dedP (dedA acc x) r
def setOf (xs : List PV) : Option PV := if xs.all (keyB false) && decide (xs.length < 4000) then some (.set (dedP [] xs)) else none
def binop : Bop → PV → PV → Option PV
  | .add, .int i, .int j => some (.int (i + j))
  | .add, .str x, .str y => if x.length + y.length ≤ Line then some (.str (x ++ y)) else none
  | .add, .lst xs, .lst ys => if xs.length + ys.length ≤ Line then some (.lst (xs ++ ys)) else none
  | .add, .tup xs, .tup ys => if xs.length + ys.length ≤ Line then some (.tup (xs ++ ys)) else none
  | .sub, .int i, .int j => some (.int (i - j))
  | .mul, .int i, .int j => if cmulB i j then some (.int (i * j)) else none
  | .mul, .tup xs, .int k => if xs ≠ [] ∧ 2 ≤ k ∧ k ≤ 1000 ∧ xs.length ≤ 1000 then some (.tup (List.replicate k.toNat xs).flatten) else none
  | .fdiv, .int i, .int j => if j ≠ 0 ∧ j.natAbs < 1073741824 then some (.int (i.fdiv j)) else none
  | .mod, .int i, .int j => if j ≠ 0 then some (.int (i.fmod j)) else none
  | .pow, .int i, .int j => if 0 ≤ j ∧ j ≤ 1000000 ∧ i.natAbs < 2 ^ 64 then some (.int (i ^ j.toNat)) else none
  | .bor, .set xs, .set ys => if xs.length + ys.length ≤ 4 then some (.set (dedP xs ys)) else none
  | _, _, _ => none
def okEq (a b : PV) : Bool := plain a && plain b && decide (min (dep a) (dep b) ≤ 60)
def cntP (x : PV) : List PV → Nat
  | [] => 0
  | y :: ys => (if eqP y x then 1 else 0) + cntP x ys
def ixP (x : PV) : List PV → Option Nat
  | [] => none
  | y :: ys => if eqP y x then some 0 else (ixP x ys).map (· + 1)
def occ (x y : Str) : Bool := !(Builtin.Str.occurrences y x 0 y.length 1).isEmpty
def isNon : PV → Bool
  | .non => true
  | _ => false
def cmpop : Cop → PV → PV → Option Bool
  | .eq, a, b => if okEq a b then some (eqP a b) else none
  | .ne, a, b => if okEq a b then some (!eqP a b) else none
  | .lt, .int i, .int j => some (decide (i < j))
  | .lt, .str i, .str j => some (decide (i.cps.toList < j.cps.toList))
  | .le, .int i, .int j => some (decide (i ≤ j))
  | .le, .str i, .str j => some (!decide (j.cps.toList < i.cps.toList))
  | .gt, .int i, .int j => some (decide (j < i))
  | .gt, .str i, .str j => some (decide (j.cps.toList < i.cps.toList))
  | .ge, .int i, .int j => some (decide (j ≤ i))
  | .ge, .str i, .str j => some (!decide (i.cps.toList < j.cps.toList))
  | .isin, x, .lst ys => if okEq x (.lst ys) then some (memP x ys) else none
  | .isin, x, .tup ys => if okEq x (.tup ys) then some (memP x ys) else none
  | .isin, .str x, .str y => some (occ x y)
  | .isin, x, .dct n ks vs => if keyB n x then some (findD x ks vs).isSome else none
  | .notin, x, .lst ys => if okEq x (.lst ys) then some (!memP x ys) else none
  | .notin, x, .tup ys => if okEq x (.tup ys) then some (!memP x ys) else none
  | .notin, .str x, .str y => some (!occ x y)
  | .notin, x, .dct n ks vs => if keyB n x then some (!(findD x ks vs).isSome) else none
  | .is_, x, .non => some (isNon x)
  | .isnot, x, .non => some (!isNon x)
  | .is_, .bl a, .bl b => some (decide (a = b))
  | .isnot, .bl a, .bl b => some (!decide (a = b))
  | _, _, _ => none
def truth : PV → Option Bool
  | .non => some false
  | .bl b => some b
  | .int i => some (i != 0)
  | .str x => if x.length ≤ Line then some ((x.length : Int) != 0) else none
  | .lst xs => some (!xs.isEmpty)
  | .tup xs => some (!xs.isEmpty)
  | _ => none
def allB : List PV → Option (List Bool)
  | [] => some []
  | .bl b :: r => (allB r).map (b :: ·)
  | _ :: _ => none
def allI : List PV → Option (List Int)
  | [] => some []
  | .int b :: r => (allI r).map (b :: ·)
  | _ :: _ => none
def allS : List PV → Option (List Str)
  | [] => some []
  | .str b :: r => (allS r).map (b :: ·)
  | _ :: _ => none
/-- a stable sort -/
def insS {α : Type} (lt : α → α → Bool) (x : α) : List α → List α
  | [] => [x]
  | y :: l => if lt y x then y :: insS lt x l else x :: y :: l
def isort {α : Type} (lt : α → α → Bool) : List α → List α
  | [] => []
  | x :: l => insS lt x (isort lt l)
abbrev ltZ (i j : Int) : Bool := decide (i < j)
abbrev ltT (x y : Str) : Bool := decide (x.cps.toList < y.cps.toList)
def sortP (xs : List PV) : Option (List PV) := match allI xs with
  | some ns => some ((isort ltZ ns).map PV.int)
  | none => (allS xs).map fun ss => (isort ltT ss).map PV.str
abbrev ltK : Key → Key → Bool
  | .inl i, .inl j => ltZ i j
  | .inr x, .inr y => ltT x y
  | .inl _, .inr _ => true
  | .inr _, .inl _ => false
/-- pairs, the first ahead of the second -/
def ltPr (p q : Key × Key) : Bool := if p.1 = q.1 then ltK p.2 q.2 else ltK p.1 q.1
def kP : Key → PV
  | .inl i => .int i
  | .inr x => .str x
def keyO : PV → Option Key
  | .int i => some (.inl i)
  | .str x => some (.inr x)
  | _ => none
def pairO : PV → Option (Key × Key)
  | .tup [a, b] => match keyO a, keyO b with
    | some x, some y => some (x, y)
    | _, _ => none
  | _ => none
def allPr : List PV → Option (List (Key × Key))
  | [] => some []
  | x :: r => match pairO x, allPr r with
    | some p, some l => some (p :: l)
    | _, _ => none
def sameK : List (Key × Key) → Bool
  | [] => true
  | p :: r => r.all fun q => q.1.isLeft == p.1.isLeft && q.2.isLeft == p.2.isLeft
def prP (p : Key × Key) : PV := .tup [kP p.1, kP p.2]
def sortQ (xs : List PV) : Option (List PV) := match allPr xs with
  | some l => if sameK l then some ((isort ltPr l).map prP) else none
  | none => none
def sortL (xs : List PV) : Option (List PV) := match sortP xs with
  | some ps => some ps
  | none => sortQ xs
def maxI : List Int → Int
  | [] => 0
  | [a] => a
  | a :: r => max a (maxI r)
def minI : List Int → Int
  | [] => 0
  | [a] => a
  | a :: r => min a (minI r)
def rngL (a b : Int) : List PV := (List.range (b - a).toNat).map fun i => .int (a + (i : Nat))
def small (i : Int) : Bool := decide (-(2 ^ 62) ≤ i) && decide (i < 2 ^ 62)
def signs (x : Str) : List PV := x.cps.toList.map fun c => .str ⟨#[c]⟩
/-- may its text be asked for? -/
def showB (v : PV) : Bool := plain v && ((toD v).showable && (decide (dep v ≤ 60) && (decide ((toD v).shown.length ≤ Line) && PyData.strOk (toD v).shown)))
def bltop : Blt → List PV → Option PV
  | .len, [.str x] => if x.length ≤ Line then some (.int x.length) else none
  | .len, [.lst xs] => some (.int xs.length)
  | .len, [.tup xs] => some (.int xs.length)
  | .len, [.dct _ ks _] => some (.int ks.length)
  | .len, [.set xs] => some (.int xs.length)
  | .set, [.lst xs] => setOf xs
  | .set, [.tup xs] => setOf xs
  | .abs, [.int i] => some (.int (if i < 0 then -i else i))
  | .int, [.int i] => some (.int i)
  | .int, [.bl k] => some (.int (if k then 1 else 0))
  | .list, [.lst xs] => some (.lst xs)
  | .list, [.tup xs] => some (.lst xs)
  | .list, [.dct _ ks _] => some (.lst ks)
  | .list, [.str x] => if x.length ≤ Line then some (.lst (signs x)) else none
  | .tuple, [.lst xs] => some (.tup xs)
  | .tuple, [.tup xs] => some (.tup xs)
  | .tuple, [.dct _ ks _] => some (.tup ks)
  | .dict, [.lst xs] => (prsOf xs).bind fun l => if keysB false l then some (.dct false (mergeD [] [] l).1 (mergeD [] [] l).2) else none
  | .all, [.lst xs] => (allB xs).map fun bs => .bl (bs.all id)
  | .any, [.lst xs] => (allB xs).map fun bs => .bl (bs.any id)
  | .str, [.int i] => if i.natAbs.log2 < 1920 then some (.str (toString i)) else none
  | .max, [.int i, .int j] => some (.int (if j > i then j else i))
  | .min, [.int i, .int j] => some (.int (if j < i then j else i))
  | .max, [.lst xs] => (allI xs).bind fun ns => if ns = [] then none else some (.int (maxI ns))
  | .min, [.lst xs] => (allI xs).bind fun ns => if ns = [] then none else some (.int (minI ns))
  | .sorted, [.lst xs] => (sortL xs).map PV.lst
  | .sorted, [.dct _ ks _] => (sortP ks).map PV.lst
  | .sorted, [.set xs] => (sortP xs).map PV.lst
  | .sum, [.lst xs] => (allI xs).map fun ns => .int ns.sum
  | .repr, [v] => if showB v = true then some (.str (toD v).shown) else none
  | _, _ => none
def ixop : PV → PV → Option PV
  | .dct n ks vs, k => if keyB n k then findD k ks vs else none
  | .lst xs, .int i => atI xs i
  | .tup xs, .int i => atI xs i
  | .str x, .int i => if x.length ≤ Line then (atI x.cps.toList i).map fun c => .str ⟨#[c]⟩ else none
  | _, _ => none
def cutP (xs : List PV) (lo hi : Option Int) : List PV := (xs.drop (HT.sIx xs.length 0 lo)).take (HT.sIx xs.length xs.length hi - HT.sIx xs.length 0 lo)
def slop : PV → Option Int → Option Int → Option PV
  | .lst xs, lo, hi => some (.lst (cutP xs lo hi))
  | .tup xs, lo, hi => some (.tup (cutP xs lo hi))
  | .str x, lo, hi => if x.length ≤ Line then some (.str (cutS x lo hi)) else none
  | _, _, _ => none
def kdop : Kd → PV → Bool
  | .int, .int _ => true
  | .int, .bl _ => true
  | .bool, .bl _ => true
  | .str, .str _ => true
  | .tuple, .tup _ => true
  | .list, .lst _ => true
  | _, _ => false
def itemsOf : PV → Option (List PV)
  | .lst xs => some xs
  | .tup xs => some xs
  | .str x => some (signs x)
  | .dct _ ks _ => some ks
  | _ => none
def enumL : Nat → List PV → List PV
  | _, [] => []
  | n, x :: xs => .tup [.int n, x] :: enumL (n + 1) xs
def zipL : List PV → List PV → List PV
  | x :: xs, y :: ys => .tup [x, y] :: zipL xs ys
  | _, _ => []
def seqOf : PV → Option (List PV)
  | .lst xs => some xs
  | .tup xs => some xs
  | _ => none
def zipop (t : Bool) (x y : PV) : Option PV := match seqOf x, seqOf y with
  | some xs, some ys => some (if t then .tup (zipL xs ys) else .lst (zipL xs ys))
  | _, _ => none
/-- xs[::1], xs[::-1] -/
def revop : PV → PV → Option PV
  | .lst xs, .int i => if i = 1 then some (.lst xs) else if i = -1 then some (.lst xs.reverse) else none
  | _, _ => none
def joinB (a : Str) (ys : List Str) : Bool := decide ((ys.map (·.length)).sum + ys.length * a.length ≤ Line) && PyData.strOk (Txt.join a ys)
/-! ### what is done -/
def cellV : Cell → Option PV
  | .lst xs => some (.lst xs)
  | .dct n ks vs => some (.dct n ks vs)
  | .dead => none
/-- a value as it is read now -/
def rd : EV → M PV
  | .p v => M.pure v
  | .box n => fun S => match S[n]? with
    | some c => (match cellV c with
      | some v => .ok v S
      | none => .stuck)
    | none => .stuck
  | .fn _ => stk
def pureE : EV → Option PV
  | .p v => some v
  | _ => none
def pures : List EV → Option (List PV)
  | [] => some []
  | .p v :: r => (pures r).map (v :: ·)
  | _ :: _ => none
def rds : List EV → M (List PV)
  | [] => M.pure []
  | e :: r => do
    let v ← rd e
    let vs ← rds r
    M.pure (v :: vs)
def truthE (v : EV) : M Bool := do
  let x ← rd v
  ofO (truth x)
def newCell (c : Cell) : M EV := fun S => .ok (.box S.length) (S ++ [c])
def setCell (n : Nat) (c : Cell) : M Unit := fun S => if n < S.length then .ok () (S.set n c) else .stuck
def wipeE (env : Nv) : List Nat → Nv
  | [] => env
  | i :: is => (wipeE env is).set i none
def getV (env : Nv) (i : Nat) : M EV := match env[i]? with
  | some (some v) => M.pure v
  | _ => stk
mutual
/-- a target is given a value -/
def asgT : Tg → PV → Nv → Option Nv
  | .nm i, v, env => some (env.set i (some (.p v)))
  | .tup gs, .tup vs, env => if gs.length = vs.length then asgTs gs vs env else none
  | .tup _, _, _ => none
def asgTs : List Tg → List PV → Nv → Option Nv
  | [], [], env => some env
  | g :: gs, v :: vs, env => (asgT g v env).bind (asgTs gs vs)
  | _, _, _ => none
end
def getD (o : PV) (k d : PV) : M EV := match o with
  | .dct n ks vs => if keyB n k then M.pure (.p ((findD k ks vs).getD d)) else stk
  | _ => stk
def methop (m : Mt) (o : EV) (as : List PV) : M EV :=
  match m, o, as with
  | .get, o, [k] => do
    let x ← rd o
    getD x k .non
  | .get2, o, [k, d] => do
    let x ← rd o
    getD x k d
  | .append, .box n, [v] => fun S => match S[n]? with
    | some (.lst xs) => if xs.length < Line then .ok (.p .non) (S.set n (.lst (xs ++ [v]))) else .stuck
    | _ => .stuck
  | .count, .p (.lst xs), [v] => if okEq v (.lst xs) then M.pure (.p (.int (cntP v xs : Nat))) else stk
  | .index, .p (.lst xs), [v] => if okEq v (.lst xs) then (match ixP v xs with
    | some j => M.pure (.p (.int (j : Nat)))
    | none => stk) else stk
  | .join, .p (.str a), [v] => (match seqOf v with
    | some xs => (match allS xs with
      | some ys => if joinB a ys = true then M.pure (.p (.str (Txt.join a ys))) else stk
      | none => stk)
    | none => stk)
  | _, _, _ => stk
def isD (o : EV) : M Unit := do
  let x ← rd o
  match x with
  | .dct _ _ _ => M.pure ()
  | _ => stk
/-- whose method it is -/
def chkM (m : Mt) (o : EV) : M Unit :=
  match m, o with
  | .append, .box n => fun S => match S[n]? with
    | some (.lst _) => .ok () S
    | _ => .stuck
  | .count, .p (.lst _) => M.pure ()
  | .index, .p (.lst _) => M.pure ()
  | .join, .p (.str _) => M.pure ()
  | .get, o => isD o
  | .get2, o => isD o
  | _, _ => stk
def cmpE (op : Cop) (a b : EV) : M EV := do
  let x ← rd a
  let y ← rd b
  let k ← ofO (cmpop op x y)
  M.pure (.p (.bl k))
def intO : Option EV → M (Option Int)
  | none => M.pure none
  | some (.p (.int i)) => M.pure (some i)
  | some _ => stk
/-- the items, one after another, that pass the tests -/
def compL (asg : PV → Option Nv) (ifs : Nv → M Bool) (elt : Nv → M PV) : List PV → M (List PV)
  | [] => M.pure []
  | x :: xs => do
    let env ← ofO (asg x)
    let b ← ifs env
    if b then do
      let v ← elt env
      let r ← compL asg ifs elt xs
      M.pure (v :: r)
    else compL asg ifs elt xs
def compF (asg : PV → Option Nv) (ifs : Nv → M Bool) (sub : Nv → M (List PV)) : List PV → M (List PV)
  | [] => M.pure []
  | x :: xs => do
    let env ← ofO (asg x)
    let b ← ifs env
    if b then do
      let v ← sub env
      let r ← compF asg ifs sub xs
      M.pure (v ++ r)
    else compF asg ifs sub xs
/-- no exception leaves it -/
def noX {α : Type} (m : M α) : M α := fun S => match m S with
  | .exc _ _ => .stuck
  | r => r
def lineL (xs : List PV) : M EV := if xs.length ≤ Line then M.pure (.p (.lst xs)) else stk
section
variable (G : Nat → List EV → M EV)
mutual
def ev : Ex → Nv → M EV
  | .var i, env => getV env i
  | .con v, _ => M.pure (.p v)
  | .glo _ v, _ => M.pure (.p v)
  | .fnv f, _ => M.pure (.fn f)
  | .tup es, env => do
    let vs ← evs es env
    let xs ← ofO (pures vs)
    M.pure (.p (.tup xs))
  | .lst es, env => do
    let vs ← evs es env
    let xs ← ofO (pures vs)
    M.pure (.p (.lst xs))
  | .newL es, env => do
    let vs ← evs es env
    let xs ← ofO (pures vs)
    newCell (.lst xs)
  | .dsp n es, env => do
    let vs ← evs es env
    let xs ← ofO (pures vs)
    if keysB n xs && decide (es.length ≤ 30) then M.pure (.p (.dct n (mergeD [] [] xs).1 (mergeD [] [] xs).2)) else stk
  | .newD n es, env => do
    let vs ← evs es env
    let xs ← ofO (pures vs)
    if keysB n xs && decide (es.length ≤ 30) then newCell (.dct n (mergeD [] [] xs).1 (mergeD [] [] xs).2) else stk
  | .bin op a b, env => do
    let x ← ev a env
    let y ← ev b env
    let x ← rd x
    let y ← rd y
    let v ← ofO (binop op x y)
    M.pure (.p v)
  | .neg a, env => do
    let x ← ev a env
    match x with
    | .p (.int i) => M.pure (.p (.int (-i)))
    | _ => stk
  | .cmp op a b, env => do
    let x ← ev a env
    let y ← ev b env
    cmpE op x y
  | .chn o1 o2 a b c, env => do
    let x ← ev a env
    let y ← ev b env
    let r ← cmpE o1 x y
    let k ← truthE r
    if k then do
      let z ← ev c env
      cmpE o2 y z
    else M.pure (.p (.bl false))
  | .and a b, env => do
    let x ← ev a env
    let k ← truthE x
    if k then ev b env else M.pure x
  | .or a b, env => do
    let x ← ev a env
    let k ← truthE x
    if k then M.pure x else ev b env
  | .not a, env => do
    let x ← ev a env
    let k ← truthE x
    M.pure (.p (.bl (!k)))
  | .ite c a b, env => do
    let x ← ev c env
    let k ← truthE x
    if k then ev a env else ev b env
  | .ix a i, env => do
    let x ← ev a env
    let y ← ev i env
    let x ← rd x
    let y ← rd y
    let v ← ofO (ixop x y)
    M.pure (.p v)
  | .sl a lo hi, env => do
    let x ← ev a env
    let l ← M.bind (evo lo env) intO
    let h ← M.bind (evo hi env) intO
    let x ← rd x
    let v ← ofO (slop x l h)
    M.pure (.p v)
  | .call f es, env => do
    let vs ← evs es env
    G f vs
  | .callv i es, env => do
    let vs ← evs es env
    let f ← getV env i
    match f with
    | .fn f => G f vs
    | _ => stk
  | .zipV t a b, env => do
    let x ← ev a env
    let y ← ev b env
    let x ← rd x
    let y ← rd y
    let v ← ofO (zipop t x y)
    M.pure (.p v)
  | .slR a c, env => do
    let x ← ev a env
    let y ← ev c env
    let x ← rd x
    let y ← rd y
    let v ← ofO (revop x y)
    M.pure (.p v)
  | .rngV t a, env => do
    let x ← ev a env
    match x with
    | .p (.int j) => if small j && decide (j ≤ Line) then M.pure (.p (if t then .tup (rngL 0 j) else .lst (rngL 0 j))) else stk
    | _ => stk
  | .newDL a, env => do
    let x ← ev a env
    let x ← rd x
    match x with
    | .lst xs => (match prsOf xs with
      | some l => if keysB false l then newCell (.dct false (mergeD [] [] l).1 (mergeD [] [] l).2) else stk
      | none => stk)
    | _ => stk
  | .newC e own g it ifs, env => do
    let xs ← evIt it env
    let vs ← noX (compL (fun x => asgT g x (wipeE env own)) (fun en => evIfs ifs en) (fun en => do
      let v ← ev e en
      ofO (pureE v)) xs)
    let _ ← lineL vs
    newCell (.lst vs)
  | .blt b es, env => do
    let vs ← evs es env
    let xs ← rds vs
    let v ← ofO (bltop b xs)
    M.pure (.p v)
  | .meth m o es, env => do
    let x ← ev o env
    let _ ← chkM m x
    let vs ← evs es env
    let xs ← ofO (pures vs)
    methop m x xs
  | .isi e k, env => do
    let x ← ev e env
    let v ← rd x
    M.pure (.p (.bl (kdop k v)))
  | .comp e own g it ifs, env => do
    let xs ← evIt it env
    let vs ← noX (compL (fun x => asgT g x (wipeE env own)) (fun en => evIfs ifs en) (fun en => do
      let v ← ev e en
      ofO (pureE v)) xs)
    lineL vs
  | .comp2 e own g it ifs own1 g1 it1 ifs1, env => do
    let xs ← evIt it env
    let vs ← noX (compF (fun x => asgT g x (wipeE env own)) (fun en => evIfs ifs en) (fun en => do
      let ys ← evIt it1 en
      compL (fun y => asgT g1 y (wipeE en own1)) (fun en1 => evIfs ifs1 en1) (fun en1 => do
        let v ← ev e en1
        ofO (pureE v)) ys) xs)
    lineL vs
def evo : Option Ex → Nv → M (Option EV)
  | none, _ => M.pure none
  | some e, env => do
    let v ← ev e env
    M.pure (some v)
def evs : List Ex → Nv → M (List EV)
  | [], _ => M.pure []
  | e :: es, env => do
    let v ← ev e env
    let vs ← evs es env
    M.pure (v :: vs)
def evIfs : List Ex → Nv → M Bool
  | [], _ => M.pure true
  | e :: es, env => do
    let v ← ev e env
    let k ← truthE v
    if k then evIfs es env else M.pure false
def evIt : Itx → Nv → M (List PV)
  | .seq e, env => do
    let v ← ev e env
    let x ← ofO (pureE v)
    ofO (itemsOf x)
  | .rng1 a, env => do
    let v ← ev a env
    match v with
    | .p (.int j) => if small j then M.pure (rngL 0 j) else stk
    | _ => stk
  | .rng2 a b, env => do
    let v ← ev a env
    let w ← ev b env
    match v, w with
    | .p (.int i), .p (.int j) => if small i && small j then M.pure (rngL i j) else stk
    | _, _ => stk
  | .enum e, env => do
    let v ← ev e env
    let x ← ofO (pureE v)
    match x with
    | .lst xs => M.pure (enumL 0 xs)
    | .tup xs => M.pure (enumL 0 xs)
    | _ => stk
  | .zip a b, env => do
    let v ← ev a env
    let w ← ev b env
    let x ← ofO (pureE v)
    let y ← ofO (pureE w)
    match x, y with
    | .lst xs, .lst ys => M.pure (zipL xs ys)
    | .tup xs, .tup ys => M.pure (zipL xs ys)
    | _, _ => stk
end
end
inductive Flw where
  | nx (env : Nv) | ret (v : EV) | bk (env : Nv) | ct (env : Nv)
/-- at most so many turns -/
def loopW (c : Nv → M Bool) (b : Nv → M Flw) : Nat → Nv → M Flw
  | 0, _ => stk
  | n + 1, env => do
    let k ← c env
    if k then do
      let f ← b env
      match f with
      | .nx e => loopW c b n e
      | .ct e => loopW c b n e
      | .bk e => M.pure (.nx e)
      | .ret v => M.pure (.ret v)
    else M.pure (.nx env)
def loopF (asg : PV → Nv → Option Nv) (b : Nv → M Flw) : List PV → Nv → M Flw
  | [], env => M.pure (.nx env)
  | x :: xs, env => do
    let e1 ← ofO (asg x env)
    let f ← b e1
    match f with
    | .nx e => loopF asg b xs e
    | .ct e => loopF asg b xs e
    | .bk e => M.pure (.nx e)
    | .ret v => M.pure (.ret v)
/-- the most turns of a while -/
def W : Nat := 100000
/-- a name's changing thing is taken as it stands -/
def frzE (i : Nat) (env : Nv) : M Nv := fun S => match env[i]? with
  | some (some (.box n)) => (match S[n]? with
    | some (.lst xs) => .ok (env.set i (some (.p (.lst xs)))) (S.set n .dead)
    | some (.dct m ks vs) => .ok (env.set i (some (.p (.dct m ks vs)))) (S.set n .dead)
    | _ => .stuck)
  | _ => .stuck
def asgV (g : Tg) (v : EV) (env : Nv) : Option Nv := match g, v with
  | .nm i, v => some (env.set i (some v))
  | g, .p v => asgT g v env
  | _, _ => none
/-- names, one by one -/
def setAll : List Nat → List EV → Nv → Option Nv
  | [], [], env => some env
  | i :: is, v :: vs, env => setAll is vs (env.set i (some v))
  | _, _, _ => none
def subop (o : EV) (i v : PV) : M Unit :=
  match o with
  | .box n => fun S => match S[n]?, i with
    | some (.lst xs), .int k => (match ixN xs.length k with
      | some j => .ok () (S.set n (.lst (xs.set j v)))
      | none => .stuck)
    | some (.dct m ks vs), k => if keyB m k && decide (ks.length < Line) then .ok () (S.set n (.dct m (putKs k ks) (putV k v ks vs))) else .stuck
    | _, _ => .stuck
  | _ => stk
section
variable (G : Nat → List EV → M EV)
mutual
def exS : Sx → Nv → M Flw
  | .asg g e, env => do
    let v ← ev G e env
    let e1 ← ofO (asgV g v env)
    M.pure (.nx e1)
  | .sub o i e, env => do
    let v ← ev G e env
    let v ← ofO (pureE v)
    let x ← ev G o env
    let y ← ev G i env
    let y ← ofO (pureE y)
    subop x y v
    M.pure (.nx env)
  | .aug i op e, env => do
    let x ← getV env i
    let y ← ev G e env
    let x ← ofO (pureE x)
    let y ← ofO (pureE y)
    match op, x, y with
    | .add, .int a, .int b => M.pure (.nx (env.set i (some (.p (.int (a + b))))))
    | _, _, _ => stk
  | .ex e, env => do
    let _ ← ev G e env
    M.pure (.nx env)
  | .ret e, env => do
    let v ← ev G e env
    M.pure (.ret v)
  | .retN, _ => M.pure (.ret (.p .non))
  | .ifS c a b, env => do
    let x ← ev G c env
    let k ← truthE x
    if k then exSs a env else exSs b env
  | .whS c b, env => loopW (fun en => do
      let x ← ev G c en
      truthE x) (fun en => exSs b en) W env
  | .forS g it b, env => do
    let xs ← evIt G it env
    loopF (fun x en => asgT g x en) (fun en => exSs b en) xs env
  | .brk, env => M.pure (.bk env)
  | .cnt, env => M.pure (.ct env)
  | .pass, env => M.pure (.nx env)
  | .frz i, env => do
    let e1 ← frzE i env
    M.pure (.nx e1)
  | .rse, _ => stk
  | .asgs is es, env => do
    let vs ← evs G es env
    let e1 ← ofO (setAll is vs env)
    M.pure (.nx e1)
def exSs : List Sx → Nv → M Flw
  | [], env => M.pure (.nx env)
  | s :: ss, env => do
    let f ← exS s env
    match f with
    | .nx e => exSs ss e
    | f => M.pure f
end
end
/-- a def: how many parameters, how many names, what it does; keep: what it makes may change behind it -/
structure Fn where
  np : Nat
  nl : Nat
  body : List Sx
  keep : Bool := false
/-- a def's end: its own things are let go -/
def leave (keep : Bool) (n0 : Nat) (f : Flw) : M EV := fun S =>
  match f with
  | .ret v => if keep then .ok v S else match v with
    | .p v => .ok (.p v) (S.take n0)
    | .fn f => .ok (.fn f) (S.take n0)
    | .box n => if n < n0 then .ok (.box n) (S.take n0) else match S[n]? with
      | some c => (match cellV c with
        | some v => .ok (.p v) (S.take n0)
        | none => .stuck)
      | none => .stuck
  | .nx _ => .ok (.p .non) (if keep then S else S.take n0)
  | _ => .stuck
def start (nl : Nat) (vs : List EV) : Nv := vs.map some ++ List.replicate (nl - vs.length) none
/-- the defs, k calls deep -/
def run (F : Nat → Option Fn) : Nat → Nat → List EV → M EV
  | 0, _, _ => stk
  | k + 1, f, vs => match F f with
    | none => stk
    | some d => if vs.length = d.np then fun S => M.bind (exSs (run F k) d.body (start d.nl vs)) (leave d.keep S.length) S else stk
end Ip

set_option Elab.async false
set_option linter.all false
set_option maxRecDepth 100000
set_option maxHeartbeats 3200000
/-! Ip, part 31: sets of ints and texts, made of a list or a tuple, gathered in whatever order (the library's level). -/
namespace Ip
open PySem L2 PySem.Spec PyProof.Rows
/-- the key that a value of a set is -/
def kyv : Value → Key
  | .int i _ => .inl i
  | .str x _ => .inr x
  | _ => .inl 0
def RwOk (P : Program) (w : World) (r : Int × Value) : Prop := ((mixKind P w).is (kyv r.2) r.2 = true ∧ r.1 = (mixKind P w).hash (kyv r.2)) ∧ r.2.scannable = true
abbrev ksOf (rows : Array (Int × Value)) : List Key := rows.toList.map fun r => kyv r.2
/-- one more, if it is not there -/
def hasKey (ks : List Key) (k : Key) : Bool := ks.any fun j => decide (j = k)
def addKey (ks : List Key) (k : Key) : List Key := if hasKey ks k = true then ks else ks ++ [k]
theorem hasKey_iff {ks : List Key} {k : Key} : hasKey ks k = true ↔ k ∈ ks := by simp [hasKey]
theorem addKey_in {ks : List Key} {k : Key} (h : k ∈ ks) : addKey ks k = ks := if_pos (hasKey_iff.mpr h)
theorem addKey_out {ks : List Key} {k : Key} (h : k ∉ ks) : addKey ks k = ks ++ [k] := if_neg fun z => h (hasKey_iff.mp z)
/-- the set at an address: its keys, as they came -/
def StAt (P : Program) (w : World) (h : Heap) (a : Addr) (ks : List Key) : Prop := ∃ (ob : Obj) (rows : Array (Int × Value)) (ep : Nat) (tb : SetTable),
  h.get? a = some ob ∧ ob.ExactSet ∧ ob.data = .set rows ep tb ∧ (∀ r ∈ rows.toList, RwOk P w r) ∧ (ksOf rows).Perm ks ∧ ks.Nodup ∧ rows.size < scanBound ∧ tb.fits rows.size = true ∧ Ris tb.place.toList ∧
  (w.params.followText "set-order" = true ∨ tb.led = true)
section
variable {P : Program} {w : World} {h h' : Heap} {a : Addr} {ks : List Key} {k : Key} {v : Value}
theorem is_kyv (q : (mixKind P w).is k v = true) : kyv v = k := by
  rcases keyIs_shape (show keyIs k v = true from q) with ⟨i, t, e1, e2⟩ | ⟨x, t, e1, e2⟩
  · subst e1 e2; rfl
  · subst e1 e2; rfl
theorem rw_is {r : Int × Value} (g : RwOk P w r) : (mixKind P w).is k r.2 = true ↔ kyv r.2 = k := ⟨is_kyv, fun e => e ▸ g.1.1⟩
theorem rw_elems {l : List (Int × Value)} (g : ∀ r ∈ l, RwOk P w r) : ElemsOf (mixKind P w) l := fun r hr => ⟨⟨_, (g r hr).1⟩, (g r hr).2⟩
theorem StAt.at (R : StAt P w h a ks) (kp : ∀ ob, h.get? a = some ob → h'.get? a = some ob) : StAt P w h' a ks := by
  obtain ⟨ob, rows, ep, tb, q0, q⟩ := R
  exact ⟨ob, rows, ep, tb, kp ob q0, q⟩
theorem StAt.len (R : StAt P w h a ks) : ks.length < scanBound := by
  obtain ⟨ob, rows, ep, tb, _, _, _, _, pm, _, q, _⟩ := R
  rw [← pm.length_eq, List.length_map, Array.length_toList]
  exact q
abbrev nuS (w : World) : Obj := { cls := .type "set", dict := none, data := .set #[] 0 (.fresh 0 0 (!w.params.followText "set-order")) }
theorem StAt.new (q : h.get? a = some (nuS w)) : StAt P w h a [] := by
  refine ⟨_, #[], 0, _, q, ⟨rfl, rfl, rfl⟩, rfl, fun r hr => by simp at hr, List.Perm.refl _, List.nodup_nil, by decide, rfl, List.Pairwise.nil, ?_⟩
  cases e : w.params.followText "set-order" with
  | true => exact .inl rfl
  | false => exact .inr rfl
end
section
variable {P : Program} {w : World} {A : Around} {E : Value → Shared → Prop} {s : Shared} {a : Addr} {ks : List Key} {k : Key} {x : Value}
/-- what a set is when its rows and table are put anew, be it that the table is laid anew, too -/
theorem st_tail {g : Bool → Sem Unit} (hg : ∀ (b : Bool) (s1 : Shared) (Q1 : Unit → Shared → Prop), Q1 () s1 → wpAny (model P w) A (g b) Q1 E s1) {ob : Obj} {rows : Array (Int × Value)} {ep : Nat} {tb : SetTable}
    (q0 : s.heap.get? a = some ob) (qx : ob.ExactSet) (qd : ob.data = .set rows ep tb) {nr : Array (Int × Value)} {nt : SetTable} {ls : List Key} (g1 : ∀ r ∈ nr.toList, RwOk P w r) (pm1 : (ksOf nr).Perm ls) (nd1 : ls.Nodup) (b1 : nr.size < scanBound)
    (f1 : nt.fits nr.size = true) (r1 : Ris nt.place.toList) (l1 : w.params.followText "set-order" = true ∨ nt.led = true) {was : Bool} {R : Option Bool → Shared → Prop}
    (fin : ∀ h', Heap.SameBut a s.heap h' → StAt P w h' a ls → R (some true) { s with heap := h' }) :
    wpAny (model P w) A (do
        storeSet a nr nt
        if (!was && nt.tooFull) = true then do
            g (relayAll nt nr (SetTable.grown nr.size)).2.2
            storeSet a (relayAll nt nr (SetTable.grown nr.size)).1 (relayAll nt nr (SetTable.grown nr.size)).2.1
            pure (some true)
          else pure (some true)) R E s := by
  have at1 := store_at (es' := nr) (t' := nt) q0 qd
  have but1 := Heap.SameBut.update s.heap a (Obj.putSet nr nt)
  refine wpAny_bind (wpAny_storeSet_of q0 qd ?_ (fits_of_scanBound b1))
  by_cases full : (!was && nt.tooFull) = true
  · rw [if_pos full]
    have e1 := relayAll_perm nt nr (SetTable.grown nr.size)
    have e2 := relayAll_fits nt nr (SetTable.grown nr.size)
    have e3 := relayAll_ris nt nr (SetTable.grown nr.size)
    have e4 := relayAll_led nt nr (SetTable.grown nr.size)
    cases hz : relayAll nt nr (SetTable.grown nr.size) with | mk mr m2 =>
    obtain ⟨mt, gv⟩ := m2
    rw [hz] at e1 e2 e3 e4
    have ln : mr.size = nr.size := by simpa using e1.length_eq
    have b2 : mr.size < scanBound := ln ▸ b1
    dsimp only at e1 e2 e3 e4 ⊢
    refine wpAny_bind (hg _ _ _ (wpAny_bind (wpAny_storeSet_of at1 rfl ?_ (fits_of_scanBound b2))))
    refine wpAny_pure (fin _ (but1.trans (Heap.SameBut.update _ a _)) ⟨_, mr, _, mt, store_at (es' := mr) (t' := mt) at1 rfl, qx, rfl, fun r hr => g1 r (e1.mem_iff.mp hr), (e1.map _).trans pm1, nd1, b2, e2, e3, ?_⟩)
    exact l1.imp id fun z => e4.trans z
  · rw [if_neg full]
    exact wpAny_pure (fin _ but1 ⟨_, nr, _, nt, at1, qx, rfl, g1, pm1, nd1, b1, f1, r1, l1⟩)
theorem st_add {Q : Bool → Shared → Prop} (hk : (mixKind P w).is k x = true) (hx : x.scannable = true) (R : StAt P w s.heap a ks) (room : ks.length + 1 < scanBound)
    (hQ : ∀ b h', Heap.SameBut a s.heap h' → StAt P w h' a (addKey ks k) → Q b { s with heap := h' }) : wpAny (model P w) A (setAddHashed a x ((mixKind P w).hash k)) Q E s := by
  obtain ⟨ob, rows, ep, tb, q0, qx, qd, gr, pm, nd, bd, ft, ri, ld⟩ := R
  have els : ElemsOf (mixKind P w) rows.toList := rw_elems gr
  have mem : k ∈ ks ↔ ∃ r ∈ rows.toList, kyv r.2 = k := by rw [← pm.mem_iff, List.mem_map]
  unfold setAddHashed setAddHashedIn
  refine wpAny_holding (wpAny_bind (wpAny_setState_of q0 qd ft ?_))
  dsimp only
  rw [byScan_of hx bd els, if_pos rfl]
  unfold setAddByScan
  refine wpAny_bind (wpAny_bind (wpAny_rule (wpAny_bind (wpAny_setScan_of hk q0 qd ft els ?_))))
  cases fi : List.findIdx? (fun r => (mixKind P w).is k r.2) rows.toList with
  | some j =>
    obtain ⟨jl, jp, _⟩ := List.findIdx?_eq_some_iff_getElem.mp fi
    have inn : k ∈ ks := mem.mpr ⟨_, List.getElem_mem jl, (rw_is (gr _ (List.getElem_mem jl))).mp jp⟩
    have old : addKey ks k = ks := addKey_in inn
    exact wpAny_pure (wpAny_pure (hQ _ s.heap (Heap.SameBut.refl a s.heap) (by rw [old]; exact ⟨ob, rows, ep, tb, q0, qx, qd, gr, pm, nd, bd, ft, ri, ld⟩)))
  | none =>
    have out : k ∉ ks := fun z => by
      obtain ⟨r, hr, e⟩ := mem.mp z
      have c := List.findIdx?_eq_none_iff.mp fi r hr
      rw [(rw_is (gr r hr)).mpr e] at c
      cases c
    have new : addKey ks k = ks ++ [k] := addKey_out out
    have gave : ∀ (b : Bool) {s1 : Shared} {Q1 : Unit → Shared → Prop}, Q1 () s1 → wpAny (model P w) A (match b with | true => rule "set.scan.the-table-gave-way" | false => pure ()) Q1 E s1 := fun b _ _ q => by
      cases b
      · exact wpAny_pure q
      · exact wpAny_rule q
    have e1 := layNew_perm tb rows ((mixKind P w).hash k) x
    have e2 := layNew_fits tb rows ((mixKind P w).hash k) x
    have e3 := layNew_ris tb rows ((mixKind P w).hash k) x ri
    have e4 := layNew_led tb rows ((mixKind P w).hash k) x
    dsimp only
    cases hz : layNew tb rows ((mixKind P w).hash k) x with | mk nr z2 =>
    obtain ⟨nt, was, gv⟩ := z2
    rw [hz] at e1 e2 e3 e4
    dsimp only at e1 e2 e3 e4 ⊢
    rw [Array.toList_push] at e1
    have e5 : ∀ r ∈ nr.toList, RwOk P w r := fun r hr => by
      rcases List.mem_append.mp (e1.mem_iff.mp hr) with z | z
      · exact gr r z
      · rw [List.mem_singleton.mp z]
        have kk := is_kyv hk
        exact ⟨⟨by rw [kk]; exact hk, by rw [kk]⟩, hx⟩
    have e6 : (ksOf nr).Perm (ks ++ [k]) := (e1.map _).trans (by rw [List.map_append]; exact (pm.append (by rw [List.map_singleton, is_kyv hk])))
    have e7 : (ks ++ [k]).Nodup := List.nodup_append.mpr ⟨nd, by simp, fun u hu u' hu' z => out (by rw [List.mem_singleton] at hu'; rw [← hu', ← z]; exact hu)⟩
    have e8 : nr.size = ks.length + 1 := by have := e6.length_eq; simpa using this
    have e9 : nr.size < scanBound := e8 ▸ room
    have ld1 : w.params.followText "set-order" = true ∨ nt.led = true := ld.imp id fun z => e4.trans z
    have fin : ∀ b h', Heap.SameBut a s.heap h' → StAt P w h' a (ks ++ [k]) → Q b { s with heap := h' } := fun b h' sb r => hQ b h' sb (by rw [new]; exact r)
    refine wpAny_bind (gave _ ?_)
    split
    · refine wpAny_bind ?_
      rw [hashByValue_scannable 8 hx]
      refine wpAny_pure (st_tail (fun b _ _ q => gave b q) q0 qx qd e5 e6 e7 e9 ?_ ?_ ?_ fun h' sb r => wpAny_pure (fin _ h' sb r))
      · first | exact e2 | (split <;> first | exact e2 | exact SetTable.fits_plain_off e2)
      · first | exact e3 | (split <;> exact e3)
      · first | exact ld1 | (split <;> exact ld1)
    · refine wpAny_bind (wpAny_pure ?_)
      rw [if_pos rfl]
      exact st_tail (fun b _ _ q => gave b q) q0 qx qd e5 e6 e7 e9 e2 e3 ld1 fun h' sb r => wpAny_pure (fin _ h' sb r)
end
end Ip

set_option Elab.async false
set_option linter.all false
set_option maxRecDepth 100000
set_option maxHeartbeats 3200000
/-! Ip, part 32: set(..) of a list or a tuple of keys. -/
namespace Ip
open PySem L2 PySem.Spec PyProof.Rows
def addAll (ks : List Key) : List Key → List Key
  | [] => ks
  | k :: r => addAll (addKey ks k) r
theorem addKey_len (ks : List Key) (k : Key) : (addKey ks k).length ≤ ks.length + 1 := by
  unfold addKey
  split <;> simp
theorem addAll_snoc : ∀ (l ks : List Key) (k : Key), addAll ks (l ++ [k]) = addKey (addAll ks l) k
  | [], _, _ => rfl
  | _ :: l, _, k => addAll_snoc l _ k
theorem addAll_len : ∀ (l ks : List Key), (addAll ks l).length ≤ ks.length + l.length
  | [], _ => by simp [addAll]
  | k :: l, ks => by
    have h1 := addAll_len l (addKey ks k)
    have h2 := addKey_len ks k
    simp only [addAll, List.length_cons]
    omega
theorem key_sc {k : Key} {u : Value} (r : RelV (kV k) u) : u.scannable = true := by
  cases k with
  | inl i => obtain ⟨t, e⟩ := (show ∃ t, u = Value.int i t from r); rw [e] <;> rfl
  | inr y => obtain ⟨t, e⟩ := (show ∃ t, u = Value.str y t from r); rw [e] <;> rfl
section
variable {P : Program} {w : World} {A : Around} {E : Value → Shared → Prop} {s : Shared}
theorem st_loop {I : Addr} {fp wr : List Addr} {G : Array GenState → Array GenState → Prop} {n : Nat} {Pv : Nat → Value → Prop} {St : Nat → Shared → Prop} {R : Result → Shared → Prop} (W : WalksS P w A.in1 I fp wr G n Pv St) (D : Addr) (hD : D ∉ fp)
    (k0 ns : List Key) (hn : n = ns.length) (room : k0.length + ns.length + 1 < scanBound) (item : ∀ i v, Pv i v → ∃ k, ns[i]? = some k ∧ RelV (kV k) v) :
    ∀ (m i : Nat) (s : Shared), n - i = m → i ≤ n → St i s → StAt P w s.heap D (addAll k0 (ns.take i)) →
      (∀ s1, Moved (D :: wr) G s s1 → StAt P w s1.heap D (addAll k0 ns) → R (.ok (.ret .none)) s1) →
      codeAny (model P w) A (.builtin "set.update.loop" ⟨[.ref D, .ref I], []⟩) R s := by
  have dw : D ∉ wr := fun z => hD (W.sub _ z)
  have up : ∀ b ∈ wr, b ∈ D :: wr := fun b z => .tail _ z
  intro m
  induction m with
  | zero =>
    intro i s em il st R0 fin
    obtain rfl : i = n := by omega
    have whole : ns.take i = ns := by rw [hn]; exact List.take_length
    rw [whole] at R0
    refine codeAny_builtin PyProof.Rows.F.entry_set_update_loop ?_
    rw [Around.under_plainId PyProof.Rows.F.plain_set_update_loop _]
    exact wpAny_bind (W.done s _ _ st fun s1 mv => wpAny_pure (fin s1 (mv.mono up) (R0.at fun ob q => mv.heap D ob dw q)))
  | succ m ih =>
    intro i s em il st R0 fin
    have lt : i < n := by omega
    refine codeAny_builtin PyProof.Rows.F.entry_set_update_loop ?_
    rw [Around.under_plainId PyProof.Rows.F.plain_set_update_loop _]
    refine wpAny_bind (W.item i s _ _ lt st fun v s1 pv st1 mv => ?_)
    obtain ⟨k, ek, rv⟩ := item i v pv
    have R1 := R0.at fun ob q => mv.heap D ob dw q
    show wpAny _ A.in1 (holding [v] (setAdd D v) >>= _) _ _ s1
    unfold setAdd
    refine wpAny_bind (wpAny_holding (wpAny_holding (wpAny_bind ((mixKind P w).pyHash (kV_is rv) ?_))))
    have few : (addAll k0 (ns.take i)).length + 1 < scanBound := by
      have := addAll_len (ns.take i) k0
      have := List.length_take_le i ns
      omega
    refine st_add (s := { s1 with toks := s1.toks + 1 }) (kV_is rv) (key_sc rv) R1 few fun _ h2 sb R2 => ?_
    have nxt : addKey (addAll k0 (ns.take i)) k = addAll k0 (ns.take (i + 1)) := by
      rw [List.take_add_one, ek]
      exact (addAll_snoc _ _ _).symm
    rw [nxt] at R2
    refine wpAny_pure ⟨plainId_quiet PyProof.Rows.F.plain_set_update_loop _, ih (i + 1) _ (by omega) lt (W.frame _ s1 _ _ st1 (Nat.le_succ _) fun b hb ob q => ?_) R2 fun s2 mv2 R3 => fin s2 (Moved.trans W.gtrans ((mv.mono up).then_heap (Nat.le_succ _) fun b ob hb q => ?_) mv2) R3⟩
    · rw [sb.2 b fun z => hD (z ▸ hb)]; exact q
    · rw [sb.2 b fun z => hb (z ▸ .head _)]; exact q
theorem call_set_list {l : Addr} {items : Array Value} {ns : List Key} {Q : Value → Shared → Prop} (hh : A.handled = none) (sq : s.heap.IsList l items) (hv : Vals (ns.map kV) items.toList) (room : ns.length + 1 < scanBound)
    (hQ : ∀ (h' : Heap) (tk : Nat), StAt P w h' s.heap.objs.size (addAll [] ns) → (∀ b ob, s.heap.get? b = some ob → h'.get? b = some ob) → Q (.ref s.heap.objs.size) { s with heap := h', toks := tk }) :
    wpAny (model P w) A (PySem.call (.type "set") [.ref l]) Q E s := by
  have ln : items.size = ns.length := by have := hv.length; simpa using this.symm
  obtain ⟨_, _, mro⟩ := PySem.F.called_set.mro
  have k1 := PySem.F.called_set.made; have k2 := PySem.F.called_set.sub; have k3 := PySem.F.called_set.notType; have k4 := PySem.F.called_set.canCreate
  have k5 := PySem.F.typeCall_set_1 (.ref l)
  refine wpAny_call (codeAny_of_tree ?_)
  show wpAny _ _ (callAny (.type "set") _) _ E s
  refine wpAny_pure ⟨Code.quiet_builtin _ (by decide +kernel), codeAny_builtin PySem.F.entry_type_call ?_⟩
  rw [Around.under_plain (weight_type_call_type "set" [.ref l] []) rfl]
  repeat any_goals first | assumption | wp_step
  refine codeAny_mono (code_set_led1 (.ref l) (E := E) (Q₁ := fun z s1 => z = .ref s.heap.objs.size ∧ s1 = { s with heap := s.heap.push (nuS w) }) ⟨rfl, rfl⟩) fun r s1 hr => ?_
  rcases r with e | fl
  · exact hr
  · cases fl with
    | ret z =>
      obtain ⟨rfl, rfl⟩ := hr
      have g0 : (s.heap.push (nuS w)).get? s.heap.objs.size = some (nuS w) := Heap.get?_push_size _ rfl
      have sz : (s.heap.push (nuS w)).objs.size = s.heap.objs.size + 1 := Heap.size_push ..
      have ty : Shared.TypeIs { s with heap := s.heap.push (nuS w) } (.ref s.heap.objs.size) "set" := ⟨_, g0, rfl⟩
      have k6 := PySem.F.called_set.init.lookup; have k7 := PySem.F.called_set.init.bind (.ref s.heap.objs.size)
      repeat any_goals first | assumption | wp_step
      refine codeAny_mono (codeAny_call_builtin (R := wants (fun r s2 => r = .none ∧ ∃ h' tk, s2 = { s with heap := h', toks := tk } ∧ StAt P w h' s.heap.objs.size (addAll [] ns) ∧ ∀ b ob, s.heap.get? b = some ob → h'.get? b = some ob) E)
        PySem.F.called_set.init.plain PySem.F.entry_set_init (check_set_init_1 ty ?_)) fun r2 s2 hr2 => ?_
      · obtain ⟨⟨oc, od, odt, osl⟩, g1, (c1 : oc = _), nl, (c2 : odt = _)⟩ := sq
        subst c1 c2
        have g2 : (s.heap.push (nuS w)).get? l = some { cls := .type "list", dict := od, data := .seq items nl, slots := osl } := Heap.get?_push_of_some _ g1
        have k8 := PySem.F.sub_list_set; have k9 := PySem.F.sub_list_frozenset
        have k10 : (Value.type "list" == Value.type "dict") = false := by decide
        have sq1 : (s.heap.push (nuS w)).IsList l items := ⟨_, g2, rfl, nl, rfl⟩
        unfold Builtin.«set.__init__» noKeywords Builtin.Frozenset.updateFrom
        generalize gi : pyIter = it
        wp_walk
        subst gi
        have ll : l < s.heap.objs.size := Heap.lt_size g1
        have nh : A.in1.in1.in1.handled = none := by simp [hh]
        have nI : l ≠ (s.heap.push (nuS w)).objs.size := by rw [sz]; exact Nat.ne_of_lt (Nat.lt_succ_of_lt ll)
        have nD : s.heap.objs.size ∉ [(s.heap.push (nuS w)).objs.size, l] := by
          rw [sz]
          simp only [List.mem_cons, List.not_mem_nil, or_false, not_or]
          exact ⟨Nat.ne_of_lt (Nat.lt_succ_self _), Nat.ne_of_gt ll⟩
        have item : ∀ (i : Nat) (v : Value), items[i]? = some v → ∃ k, ns[i]? = some k ∧ RelV (kV k) v := fun i v q => by
          have il : i < ns.length := by rw [← ln]; exact (Array.getElem?_eq_some_iff.mp q).1
          obtain ⟨u, q1, q2⟩ := hv.get (i := i) (x := kV ns[i]) (by simp [il])
          rw [Array.getElem?_toList, q] at q1
          cases q1
          exact ⟨_, List.getElem?_eq_getElem il, q2⟩
        refine wpAny_pyIter_list sq1 (wpAny_bind (wpAny_runValue (st_loop ((Walks.list nh _ l nI items).toS) s.heap.objs.size nD [] ns ln (by simpa using room) item (items.size - 0) 0 _ rfl (Nat.zero_le _) ⟨⟨_, Heap.get?_push_size _ rfl, rfl, rfl⟩, sq1.push _⟩
          (StAt.new (Heap.get?_push_of_some _ g0)) fun s3 mv R3 => ?_)))
        obtain ⟨h3, gn3, dr3, tk3, os3⟩ := s3
        obtain rfl : gn3 = s.gens := mv.gens
        obtain rfl : dr3 = s.drawn := mv.drawn
        obtain rfl : os3 = s.os := mv.os
        refine wpAny_pure (wpAny_pure ⟨rfl, h3, tk3, rfl, R3, fun b ob q => ?_⟩)
        have bl := Heap.lt_size q
        refine mv.heap b ob (fun z => ?_) (Heap.get?_push_of_some _ (Heap.get?_push_of_some _ q))
        rw [sz] at z
        simp only [List.mem_cons, List.not_mem_nil, or_false] at z
        rcases z with z | z
        · exact Nat.ne_of_lt bl z
        · exact Nat.ne_of_lt (Nat.lt_succ_of_lt bl) z
      · rcases r2 with e | fl2
        · exact hr2
        · cases fl2 with
          | ret z =>
            obtain ⟨rfl, h3, tk3, rfl, R3, kp⟩ := hr2
            repeat any_goals first | assumption | wp_step
            exact hQ _ _ R3 kp
          | _ => exact hr2.elim
    | _ => exact hr.elim

theorem call_set_tuple {l : Addr} {items : Array Value} {ns : List Key} {Q : Value → Shared → Prop} (hh : A.handled = none) (sq : s.heap.IsTuple l items) (hv : Vals (ns.map kV) items.toList) (room : ns.length + 1 < scanBound)
    (hQ : ∀ (h' : Heap) (tk : Nat), StAt P w h' s.heap.objs.size (addAll [] ns) → (∀ b ob, s.heap.get? b = some ob → h'.get? b = some ob) → Q (.ref s.heap.objs.size) { s with heap := h', toks := tk }) :
    wpAny (model P w) A (PySem.call (.type "set") [.ref l]) Q E s := by
  have ln : items.size = ns.length := by have := hv.length; simpa using this.symm
  obtain ⟨_, _, mro⟩ := PySem.F.called_set.mro
  have k1 := PySem.F.called_set.made; have k2 := PySem.F.called_set.sub; have k3 := PySem.F.called_set.notType; have k4 := PySem.F.called_set.canCreate
  have k5 := PySem.F.typeCall_set_1 (.ref l)
  refine wpAny_call (codeAny_of_tree ?_)
  show wpAny _ _ (callAny (.type "set") _) _ E s
  refine wpAny_pure ⟨Code.quiet_builtin _ (by decide +kernel), codeAny_builtin PySem.F.entry_type_call ?_⟩
  rw [Around.under_plain (weight_type_call_type "set" [.ref l] []) rfl]
  repeat any_goals first | assumption | wp_step
  refine codeAny_mono (code_set_led1 (.ref l) (E := E) (Q₁ := fun z s1 => z = .ref s.heap.objs.size ∧ s1 = { s with heap := s.heap.push (nuS w) }) ⟨rfl, rfl⟩) fun r s1 hr => ?_
  rcases r with e | fl
  · exact hr
  · cases fl with
    | ret z =>
      obtain ⟨rfl, rfl⟩ := hr
      have g0 : (s.heap.push (nuS w)).get? s.heap.objs.size = some (nuS w) := Heap.get?_push_size _ rfl
      have sz : (s.heap.push (nuS w)).objs.size = s.heap.objs.size + 1 := Heap.size_push ..
      have ty : Shared.TypeIs { s with heap := s.heap.push (nuS w) } (.ref s.heap.objs.size) "set" := ⟨_, g0, rfl⟩
      have k6 := PySem.F.called_set.init.lookup; have k7 := PySem.F.called_set.init.bind (.ref s.heap.objs.size)
      repeat any_goals first | assumption | wp_step
      refine codeAny_mono (codeAny_call_builtin (R := wants (fun r s2 => r = .none ∧ ∃ h' tk, s2 = { s with heap := h', toks := tk } ∧ StAt P w h' s.heap.objs.size (addAll [] ns) ∧ ∀ b ob, s.heap.get? b = some ob → h'.get? b = some ob) E)
        PySem.F.called_set.init.plain PySem.F.entry_set_init (check_set_init_1 ty ?_)) fun r2 s2 hr2 => ?_
      · obtain ⟨⟨oc, od, odt, osl⟩, g1, (c1 : oc = _), nl, (c2 : odt = _)⟩ := sq
        subst c1 c2
        have g2 : (s.heap.push (nuS w)).get? l = some { cls := .type "tuple", dict := od, data := .seq items nl, slots := osl } := Heap.get?_push_of_some _ g1
        have k8 := PySem.F.sub_tuple_set; have k9 := PySem.F.sub_tuple_frozenset
        have k10 : (Value.type "tuple" == Value.type "dict") = false := by decide
        have sq1 : (s.heap.push (nuS w)).IsTuple l items := ⟨_, g2, rfl, nl, rfl⟩
        unfold Builtin.«set.__init__» noKeywords Builtin.Frozenset.updateFrom
        generalize gi : pyIter = it
        wp_walk
        subst gi
        have ll : l < s.heap.objs.size := Heap.lt_size g1
        have nh : A.in1.in1.in1.handled = none := by simp [hh]
        have nI : l ≠ (s.heap.push (nuS w)).objs.size := by rw [sz]; exact Nat.ne_of_lt (Nat.lt_succ_of_lt ll)
        have nD : s.heap.objs.size ∉ [(s.heap.push (nuS w)).objs.size, l] := by
          rw [sz]
          simp only [List.mem_cons, List.not_mem_nil, or_false, not_or]
          exact ⟨Nat.ne_of_lt (Nat.lt_succ_self _), Nat.ne_of_gt ll⟩
        have item : ∀ (i : Nat) (v : Value), items[i]? = some v → ∃ k, ns[i]? = some k ∧ RelV (kV k) v := fun i v q => by
          have il : i < ns.length := by rw [← ln]; exact (Array.getElem?_eq_some_iff.mp q).1
          obtain ⟨u, q1, q2⟩ := hv.get (i := i) (x := kV ns[i]) (by simp [il])
          rw [Array.getElem?_toList, q] at q1
          cases q1
          exact ⟨_, List.getElem?_eq_getElem il, q2⟩
        refine wpAny_pyIter_tuple sq1 (wpAny_bind (wpAny_runValue (st_loop ((Walks.tuple nh _ l nI items).toS) s.heap.objs.size nD [] ns ln (by simpa using room) item (items.size - 0) 0 _ rfl (Nat.zero_le _) ⟨⟨_, Heap.get?_push_size _ rfl, rfl, rfl⟩, sq1.push _⟩
          (StAt.new (Heap.get?_push_of_some _ g0)) fun s3 mv R3 => ?_)))
        obtain ⟨h3, gn3, dr3, tk3, os3⟩ := s3
        obtain rfl : gn3 = s.gens := mv.gens
        obtain rfl : dr3 = s.drawn := mv.drawn
        obtain rfl : os3 = s.os := mv.os
        refine wpAny_pure (wpAny_pure ⟨rfl, h3, tk3, rfl, R3, fun b ob q => ?_⟩)
        have bl := Heap.lt_size q
        refine mv.heap b ob (fun z => ?_) (Heap.get?_push_of_some _ (Heap.get?_push_of_some _ q))
        rw [sz] at z
        simp only [List.mem_cons, List.not_mem_nil, or_false] at z
        rcases z with z | z
        · exact Nat.ne_of_lt bl z
        · exact Nat.ne_of_lt (Nat.lt_succ_of_lt bl) z
      · rcases r2 with e | fl2
        · exact hr2
        · cases fl2 with
          | ret z =>
            obtain ⟨rfl, h3, tk3, rfl, R3, kp⟩ := hr2
            repeat any_goals first | assumption | wp_step
            exact hQ _ _ R3 kp
          | _ => exact hr2.elim
    | _ => exact hr.elim
end
end Ip

set_option Elab.async false
set_option linter.all false
set_option maxRecDepth 100000
set_option maxHeartbeats 3200000
/-! Ip, part 33: set | set, both small (the library's level). -/
namespace Ip
open PySem L2 PySem.Spec PyProof.Rows
theorem setMerge_by (s o : Addr) (each : Sem Unit) : setMerge s o each = (do
    if s == o then return
    let (eo, epoch, to) ← setState o
    if eo.isEmpty then return
    setRoomFor s eo.size
    let (_, _, ts) ← setState s
    match ts.road to with
    | .slotForSlot => storeSet s eo { to with finger := ts.finger, led := ts.led && to.led, moves := ts.moves, plain := ts.plain && to.plain }
    | .clean =>
      let (es, t) ← (do
        let some (t, order) := (SetTable.laid ts.mask ts.finger ts.moves (led := ts.led && to.led) (plain := ts.plain && to.plain) (eo.map (·.1))) | unsupported "internal:set-table-without-room"
        let es' := order.filterMap (eo[·]?)
        if es'.size != eo.size then unsupported "internal:set-table-lost-an-element"
        pure (es', t) : Sem (Array (Int × Value) × SetTable))
      storeSet s es t
    | .oneByOne =>
      for (h, x) in ← setWalkUnseen o [s] (some s) do
        let _ ← holding [x] (setAddHashed s x h)
        each
        if (← setState o).2.1 != epoch then unsupported "set.changed-during-merge") := by rfl
/-- a small set whose table is as it was at first -/
def StF (P : Program) (w : World) (h : Heap) (a : Addr) (ks : List Key) : Prop := ∃ (ob : Obj) (rows : Array (Int × Value)) (ep : Nat) (tb : SetTable),
  h.get? a = some ob ∧ ob.ExactSet ∧ ob.data = .set rows ep tb ∧ (∀ r ∈ rows.toList, RwOk P w r) ∧ (ksOf rows).Perm ks ∧ ks.Nodup ∧ rows.size < scanBound ∧ tb.fits rows.size = true ∧ Ris tb.place.toList ∧
  (w.params.followText "set-order" = true ∨ tb.led = true) ∧ tb.mask = 7 ∧ tb.dummies = #[]
section
variable {P : Program} {w : World} {A : Around} {E : Value → Shared → Prop} {s : Shared} {ks : List Key}
theorem StF.st {h : Heap} {a : Addr} (R : StF P w h a ks) : StAt P w h a ks := by
  obtain ⟨ob, rows, ep, tb, h1, h2, h3, h4, h5, h6, h7, h8, h9, h10, _⟩ := R
  exact ⟨ob, rows, ep, tb, h1, h2, h3, h4, h5, h6, h7, h8, h9, h10⟩
theorem roomFor_none {t : SetTable} {n : Nat} (hm : t.mask = 7) (hf : t.fill + n ≤ 4) : t.roomFor n = none := by
  unfold SetTable.roomFor
  rw [hm, if_neg (by omega)]
theorem wp_roomFor {a : Addr} {n : Nat} {ob : Obj} {rows : Array (Int × Value)} {ep : Nat} {tb : SetTable} {Q : Unit → Shared → Prop} (q0 : s.heap.get? a = some ob) (qd : ob.data = .set rows ep tb) (ft : tb.fits rows.size = true) (hm : tb.mask = 7) (hf : tb.fill + n ≤ 4)
    (h : Q () s) : wpAny (model P w) A (setRoomFor a n) Q E s := by
  unfold setRoomFor
  refine wpAny_bind (wpAny_setState_of q0 qd ft ?_)
  dsimp only
  rw [roomFor_none hm hf]
  exact wpAny_pure h
theorem laid7 (led plain : Bool) (hs : Array Int) : SetTable.laid 7 0 0 led plain hs = ({ mask := 7, place := #[], dummies := #[], finger := 0, led := led, moves := 0, plain := plain } : SetTable).relaid hs 0 := by rfl
theorem order_all {es : Array (Int × Value)} {order : Array Nat} (hp : order.toList.Perm (List.range es.size)) : ((order.filterMap (es[·]?)).toList).Perm es.toList := by
  have h1 : (order.filterMap (es[·]?)).toList = order.toList.filterMap (es[·]?) := by simp
  rw [h1]
  refine (hp.filterMap _).trans ?_
  have key : ∀ n, n ≤ es.size → (List.range n).filterMap (fun i => es[i]?) = es.toList.take n := by
    intro n
    induction n with
    | zero => intro _; rfl
    | succ n ih =>
      intro hn
      have e : es[n]? = some es[n] := Array.getElem?_eq_getElem hn
      rw [List.range_succ, List.filterMap_append, ih (by omega), List.take_add_one]
      simp [e]
  rw [key es.size (Nat.le_refl _), ← Array.length_toList, List.take_length]
theorem merge_new {r o : Addr} {each : Sem Unit} {Q : Unit → Shared → Prop} (hr : s.heap.get? r = some (nuS w)) (ne : r ≠ o) (R : StAt P w s.heap o ks) (few : ks.length ≤ 4)
    (hQ : ∀ h', Heap.SameBut r s.heap h' → (ks = [] → h' = s.heap) → StF P w h' r ks → Q () { s with heap := h' }) : wpAny (model P w) A (setMerge r o each) Q E s := by
  obtain ⟨ob, rows, ep, tb, q0, qx, qd, gr, pm, nd, bd, ft, ri, ld⟩ := R
  have sz : rows.size = ks.length := by have := pm.length_eq; simpa using this
  have led0 : w.params.followText "set-order" = true ∨ ((!w.params.followText "set-order") && tb.led) = true := by
    cases e : w.params.followText "set-order" with
    | true => exact .inl rfl
    | false =>
      rw [e] at ld
      exact .inr (by simpa using ld)
  have f0 : (SetTable.fresh 0 0 (!w.params.followText "set-order")).fits 0 = true := rfl
  rw [setMerge_by]
  have ne' : (r == o) = false := by simpa using ne
  rw [ne', if_neg (by simp)]
  refine wpAny_bind (wpAny_setState_of q0 qd ft ?_)
  dsimp only
  by_cases em : rows.isEmpty = true
  · rw [if_pos em]
    have r0 : rows = #[] := by simpa using em
    have k0 : ks = [] := by
      have : ks.length = 0 := by rw [← sz, r0]; rfl
      exact List.eq_nil_of_length_eq_zero this
    subst k0
    refine wpAny_pure (hQ s.heap (Heap.SameBut.refl r s.heap) (fun _ => rfl) ⟨_, #[], 0, _, hr, ⟨rfl, rfl, rfl⟩, rfl, fun x hx => by simp at hx, List.Perm.refl _, List.nodup_nil, by decide, rfl, List.Pairwise.nil, ?_, rfl, rfl⟩)
    cases e : w.params.followText "set-order" with
    | true => exact .inl rfl
    | false => exact .inr rfl
  · rw [if_neg em]
    have kne : ks ≠ [] := fun z => em (by subst z; simpa using sz)
    refine wpAny_bind (wp_roomFor (ep := 0) (tb := SetTable.fresh 0 0 (!w.params.followText "set-order")) hr rfl f0 rfl (by show 0 + rows.size ≤ 4; omega) ?_)
    refine wpAny_bind (wpAny_setState_of (es := #[]) (ep := 0) (t := SetTable.fresh 0 0 (!w.params.followText "set-order")) hr rfl f0 ?_)
    dsimp only
    have fz : (SetTable.fresh 0 0 (!w.params.followText "set-order")).fill = 0 := rfl
    unfold SetTable.road
    rw [fz, if_neg (by simp)]
    by_cases mk : ((SetTable.fresh 0 0 (!w.params.followText "set-order")).mask == tb.mask && tb.dummies.isEmpty) = true
    · rw [if_pos mk]
      rw [Bool.and_eq_true, beq_iff_eq] at mk
      have m7 : tb.mask = 7 := mk.1.symm
      have d0 : tb.dummies = #[] := by simpa using mk.2
      dsimp only
      refine wpAny_storeSet_of hr rfl ?_ (fits_of_scanBound bd)
      exact hQ _ (Heap.SameBut.update s.heap r _) (fun z => absurd z kne) ⟨_, rows, _, _, store_at hr rfl, ⟨rfl, rfl, rfl⟩, rfl, gr, pm, nd, bd, ft, ri, led0, m7, d0⟩
    · rw [if_neg mk]
      dsimp only
      have hl : (rows.map (·.1)).size ≤ 7 := by rw [Array.size_map]; omega
      have e7 : (SetTable.fresh 0 0 (!w.params.followText "set-order")).mask = 7 := rfl
      obtain ⟨nt, order, e1, e2, e3, e4, e5, e6, e8⟩ := relaid_ok ({ mask := 7, place := #[], dummies := #[], finger := 0, led := (!w.params.followText "set-order") && tb.led, moves := 0, plain := true && tb.plain } : SetTable) (hs := rows.map (·.1)) (wanted := 0) (M := 7) (by decide +kernel) (.inl rfl) hl
      rw [Array.size_map] at e2
      have op := order_all (es := rows) e2
      have osz : (order.filterMap (rows[·]?)).size = rows.size := by have := op.length_eq; rw [Array.length_toList, Array.length_toList] at this; exact this
      have lay : SetTable.laid (SetTable.fresh 0 0 (!w.params.followText "set-order")).mask (SetTable.fresh 0 0 (!w.params.followText "set-order")).finger (SetTable.fresh 0 0 (!w.params.followText "set-order")).moves ((SetTable.fresh 0 0 (!w.params.followText "set-order")).led && tb.led) ((SetTable.fresh 0 0 (!w.params.followText "set-order")).plain && tb.plain) (rows.map (·.1)) = some (nt, order) := (laid7 _ _ _).trans e1
      rw [lay]
      dsimp only
      have nz : ((order.filterMap (rows[·]?)).size != rows.size) = false := by rw [osz]; simp
      rw [nz, if_neg (by simp)]
      refine wpAny_bind (wpAny_bind (wpAny_pure (wpAny_pure ?_)))
      refine wpAny_storeSet_of hr rfl ?_ (by rw [osz]; exact fits_of_scanBound bd)
      refine hQ _ (Heap.SameBut.update s.heap r _) (fun z => absurd z kne) ⟨_, _, _, nt, store_at hr rfl, ⟨rfl, rfl, rfl⟩, rfl, fun x hx => gr x (op.mem_iff.mp hx), (op.map _).trans pm, nd, by rw [osz]; exact bd, ?_, e3.ris, ?_, e4, e8⟩
      · have p1 := e3.sz
        unfold SetTable.fits SetTable.fill
        rw [e8, e4]
        simp only [Bool.and_eq_true, beq_iff_eq, decide_eq_true_eq]
        have p2 := e2.length_eq
        rw [List.length_map] at p1
        simp at p2
        rw [osz]
        simp
        simp at p1
        omega
      · rw [e5]; exact led0
end
end Ip

set_option Elab.async false
set_option linter.all false
set_option maxRecDepth 100000
set_option maxHeartbeats 3200000
/-! Ip, part 34: set | set, continued. -/
namespace Ip
open PySem L2 PySem.Spec PyProof.Rows MeetsSeq2
theorem setsQuiet_by (sets : List Addr) : setsQuiet sets = (do
  for a in sets do
    for (_, x) in ← setEntries a do
      if let .ref _ := x then
        if (← specialOf x "__eq__") != some (.builtin "object.__eq__") then return false
  return true) := by rfl
theorem setWalk_by (a : Addr) : setWalk a = (do
  let (es, epoch, t) ← setState a
  if ← setsByText then return pickOrder ((← ask).params.setOrder a epoch) es
  if (!t.plain && es.size > 1) then return (← drawOrder es.size es.toList).toArray
  (do if !t.led && es.size > 1 then unsupported "set:maker-not-led" : Sem Unit)
  return es) := by rfl
section
variable {P : Program} {w : World} {A : Around} {E : Value → Shared → Prop} {s : Shared} {ks ls : List Key} {a : Addr} {ob : Obj} {rows : Array (Int × Value)} {ep : Nat} {tb : SetTable}
theorem wp_walk_st {Q : Array (Int × Value) → Shared → Prop} (q0 : s.heap.get? a = some ob) (qd : ob.data = .set rows ep tb) (ft : tb.fits rows.size = true) (ld : w.params.followText "set-order" = true ∨ tb.led = true)
    (h : ∀ xs d, xs.toList.Perm rows.toList → Q xs { s with drawn := d }) : wpAny (model P w) A (setWalk a) Q E s := by
  have h0 : ∀ xs, xs.toList.Perm rows.toList → Q xs s := fun xs p => h xs s.drawn p
  rw [setWalk_by]
  refine wpAny_bind (wpAny_setState_of q0 qd ft ?_)
  dsimp only
  refine wpAny_bind (wpAny_byText ?_)
  cases e : w.params.followText "set-order" with
  | true =>
    rw [if_pos rfl]
    exact wpAny_bind (wpAny_askSetting (wpAny_pure (h0 _ (pick_perm _ _))))
  | false =>
    rw [if_neg (by simp)]
    have led : tb.led = true := ld.resolve_left (by rw [e]; simp)
    cases e2 : (!tb.plain && decide (rows.size > 1)) with
    | true =>
      rw [if_pos rfl]
      exact wpAny_bind (drawOrder_at _ _ _ _ (Nat.le_refl _) fun ys d p => wpAny_pure (h _ d (by simpa using p)))
    | false =>
      rw [if_neg (by simp), led]
      simp only [Bool.not_true, Bool.false_and, Bool.false_eq_true, if_false]
      exact wpAny_bind (wpAny_pure (wpAny_pure (h0 _ (List.Perm.refl _))))
theorem wp_quiet {sets : List Addr} {Q : Bool → Shared → Prop} (hs : ∀ a ∈ sets, ∃ ks, StAt P w s.heap a ks) (h : Q true s) : wpAny (model P w) A (setsQuiet sets) Q E s := by
  rw [setsQuiet_by]
  refine wpAny_bind (wpAny_forIn_list _ (fun l b s' => b.1 = none ∧ s' = s ∧ ∀ a ∈ l, a ∈ sets) _ ?_ ?_ _ _ ⟨rfl, rfl, fun a ha => ha⟩)
  · rintro a rest ⟨b1, b2⟩ s' ⟨hb, rfl, hl⟩
    obtain ⟨ks, ob, rows, ep, tb, q0, qx, qd, gr, pm, nd, bd, ft, ri, ld⟩ := hs a (hl a List.mem_cons_self)
    unfold setEntries
    refine wpAny_bind (wpAny_bind (wpAny_setState_of q0 qd ft (wpAny_pure ?_)))
    refine wpAny_bind (wpAny_forIn_array _ (fun l b s2 => b.1 = none ∧ s2 = s' ∧ ∀ r ∈ l, r ∈ rows.toList) _ ?_ ?_ _ _ ⟨rfl, rfl, fun a ha => ha⟩)
    · rintro ⟨hh, x⟩ rest2 ⟨c1, c2⟩ s2 ⟨hc, rfl, hl2⟩
      have sc := (gr _ (hl2 _ List.mem_cons_self)).2
      dsimp only
      cases x <;> first | (exact wpAny_pure ⟨rfl, rfl, fun r hr => hl2 r (List.mem_cons_of_mem _ hr)⟩) | (simp [Value.scannable] at sc)
    · rintro ⟨c1, c2⟩ s2 ⟨hc, rfl, _⟩
      dsimp only at hc ⊢
      subst hc
      exact wpAny_pure ⟨rfl, rfl, fun a ha => hl a (List.mem_cons_of_mem _ ha)⟩
  · rintro ⟨b1, b2⟩ s' ⟨hb, rfl, _⟩
    dsimp only at hb ⊢
    subst hb
    exact wpAny_pure h
end
end Ip

set_option Elab.async false
set_option linter.all false
set_option maxRecDepth 100000
set_option maxHeartbeats 3200000
/-! Ip, part 35: set | set, to its end. -/
namespace Ip
open PySem L2 PySem.Spec PyProof.Rows MeetsSeq2
theorem mem_addKey {ks : List Key} {k j : Key} : j ∈ addKey ks k ↔ j ∈ ks ∨ j = k := by
  by_cases h : k ∈ ks
  · rw [addKey_in h]
    exact ⟨.inl, fun z => z.elim id fun e => e ▸ h⟩
  · rw [addKey_out h]; simp
theorem mem_addAll {j : Key} : ∀ {l ks : List Key}, j ∈ addAll ks l ↔ j ∈ ks ∨ j ∈ l
  | [], _ => by simp [addAll]
  | k :: l, ks => by
    simp only [addAll, mem_addAll (l := l), mem_addKey, List.mem_cons, or_assoc]
theorem nd_addKey {ks : List Key} {k : Key} (h : ks.Nodup) : (addKey ks k).Nodup := by
  by_cases q : k ∈ ks
  · rw [addKey_in q]; exact h
  · rw [addKey_out q]
    exact List.nodup_append.mpr ⟨h, by simp, fun u hu u' hu' z => q (by rw [List.mem_singleton] at hu'; rw [← hu', ← z]; exact hu)⟩
theorem nd_addAll : ∀ {l ks : List Key}, ks.Nodup → (addAll ks l).Nodup
  | [], _, h => h
  | k :: l, _, h => nd_addAll (l := l) (nd_addKey h)
theorem addAll_perm {ks l l' : List Key} (h : ks.Nodup) (p : l.Perm l') : (addAll ks l).Perm (addAll ks l') := (List.perm_ext_iff_of_nodup (nd_addAll h) (nd_addAll h)).mpr fun k => by rw [mem_addAll, mem_addAll, p.mem_iff]
section
variable {P : Program} {w : World} {A : Around} {E : Value → Shared → Prop} {s : Shared} {ks ls : List Key} {a r o : Addr}
theorem StAt.nd {h : Heap} (R : StAt P w h a ks) : ks.Nodup := by
  obtain ⟨ob, rows, ep, tb, h1, h2, h3, h4, h5, h6, _⟩ := R
  exact h6
theorem StAt.perm {h : Heap} (R : StAt P w h a ks) (p : ks.Perm ls) : StAt P w h a ls := by
  obtain ⟨ob, rows, ep, tb, h1, h2, h3, h4, h5, h6, h7⟩ := R
  exact ⟨ob, rows, ep, tb, h1, h2, h3, h4, h5.trans p, p.nodup_iff.mp h6, h7⟩
theorem StAt.ty {R : StAt P w s.heap a ks} : s.TypeIs (.ref a) "set" := by
  obtain ⟨ob, rows, ep, tb, h1, h2, _⟩ := R
  exact ⟨ob, h1, h2.1⟩
theorem wp_unseen {ob : Obj} {rows : Array (Int × Value)} {ep : Nat} {tb : SetTable} {Q : Array (Int × Value) → Shared → Prop} (Rr : StAt P w s.heap r ks) (Ro : StAt P w s.heap o ls) (q0 : s.heap.get? o = some ob) (qd : ob.data = .set rows ep tb) (ft : tb.fits rows.size = true)
    (ld : w.params.followText "set-order" = true ∨ tb.led = true) (h : ∀ xs h' d, xs.toList.Perm rows.toList → Heap.SameBut r s.heap h' → StAt P w h' r ks → Q xs { s with heap := h', drawn := d }) : wpAny (model P w) A (setWalkUnseen o [r] (some r)) Q E s := by
  unfold setWalkUnseen
  refine wpAny_bind (wpAny_setState_of q0 qd ft ?_)
  dsimp only
  refine wpAny_bind (wpAny_byText ?_)
  split
  · exact wp_walk_st q0 qd ft ld fun xs d p => h xs s.heap d p (Heap.SameBut.refl r s.heap) Rr
  · rename_i c
    have nt : w.params.followText "set-order" = false := by
      cases e : w.params.followText "set-order" with
      | false => rfl
      | true => rw [e] at c; exact absurd rfl c
    have led : tb.led = true := ld.resolve_left (by rw [nt]; simp)
    refine wpAny_bind (wp_quiet (fun b hb => ?_) ?_)
    · rcases List.mem_cons.mp hb with z | z
      · exact ⟨ls, z ▸ Ro⟩
      · exact ⟨ks, (List.mem_singleton.mp z) ▸ Rr⟩
    · rw [if_neg (by simp)]
      refine wpAny_bind (wpAny_rule ?_)
      have Rr2 := Rr
      obtain ⟨obr, rr, er, tr, r0, rx, rd, rg, rp, rn, rb, rf, ri, rl⟩ := Rr
      refine wpAny_bind (wpAny_setState_of r0 rd rf ?_)
      dsimp only
      split
      · refine wpAny_bind (wpAny_storeSet_of r0 rd (wpAny_pure (h rows _ s.drawn (List.Perm.refl _) (Heap.SameBut.update s.heap r _) ⟨_, rr, _, _, store_at r0 rd, rx, rfl, rg, rp, rn, rb, rf, ri, ?_⟩)) (fits_of_scanBound rb))
        rw [led]
        simpa using rl
      · exact wpAny_pure (h rows s.heap s.drawn (List.Perm.refl _) (Heap.SameBut.refl r s.heap) Rr2)
theorem merge_more {each : Sem Unit} {Q : Unit → Shared → Prop} (Rr : StF P w s.heap r ks) (kne : ks ≠ []) (Ro : StAt P w s.heap o ls) (ne : r ≠ o) (few : ks.length + ls.length ≤ 4)
    (hE : ∀ (s1 : Shared) (Q1 : Unit → Shared → Prop), s1.heap.get? o = s.heap.get? o → Q1 () s1 → wpAny (model P w) A each Q1 E s1) (hQ : ∀ h' d, Heap.SameBut r s.heap h' → StAt P w h' r (addAll ks ls) → Q () { s with heap := h', drawn := d }) :
    wpAny (model P w) A (setMerge r o each) Q E s := by
  have Ro2 := Ro
  obtain ⟨ob, rows, ep, tb, q0, qx, qd, gr, pm, nd, bd, ft, ri, ld⟩ := Ro
  have Rs := Rr.st
  obtain ⟨obr, rr, er, tr, r0, rx, rd, rg, rp, rn, rb, rf, rri, rl, rm, rdm⟩ := Rr
  have szo : rows.size = ls.length := by have := pm.length_eq; simpa using this
  have szr : rr.size = ks.length := by have := rp.length_eq; simpa using this
  have fillr : tr.fill = ks.length := by
    unfold SetTable.fits at rf
    rw [Bool.and_eq_true, beq_iff_eq] at rf
    unfold SetTable.fill
    rw [rf.1, rdm, szr]; rfl
  have ne' : (r == o) = false := by simpa using ne
  rw [setMerge_by, ne', if_neg (by simp)]
  refine wpAny_bind (wpAny_setState_of q0 qd ft ?_)
  dsimp only
  by_cases em : rows.isEmpty = true
  · rw [if_pos em]
    have r1 : rows = #[] := by simpa using em
    have l0 : ls = [] := by
      have : ls.length = 0 := by rw [← szo, r1]; rfl
      exact List.eq_nil_of_length_eq_zero this
    subst l0
    exact wpAny_pure (hQ s.heap s.drawn (Heap.SameBut.refl r s.heap) Rs)
  · rw [if_neg em]
    refine wpAny_bind (wp_roomFor r0 rd rf rm (by rw [fillr, szo]; exact few) ?_)
    refine wpAny_bind (wpAny_setState_of r0 rd rf ?_)
    dsimp only
    have kl : ks.length ≠ 0 := fun z => kne (List.eq_nil_of_length_eq_zero z)
    unfold SetTable.road
    rw [fillr, if_pos (by simpa using kl)]
    dsimp only
    refine wpAny_bind (wp_unseen Rs Ro2 q0 qd ft ld fun xs h1 d1 xp sb1 R1 => ?_)
    refine wpAny_bind (wpAny_forIn_array _ (fun l b s2 => ∃ pre h2 d2, s2 = { s with heap := h2, drawn := d2 } ∧ Heap.SameBut r s.heap h2 ∧ pre ++ l = xs.toList ∧ StAt P w h2 r (addAll ks (pre.map fun e => kyv e.2))) _ ?_ ?_ _ _ ⟨[], h1, d1, rfl, sb1, rfl, (show StAt P w h1 r (addAll ks (([] : List (Int × Value)).map fun e => kyv e.2)) from R1)⟩)
    · rintro ⟨hh, x⟩ rest b s2 ⟨pre, h2, d2, rfl, sb2, hpre, R2⟩
      have hin : (hh, x) ∈ rows.toList := xp.mem_iff.mp (by rw [← hpre]; simp)
      have g1 := gr _ hin
      have hash : hh = (mixKind P w).hash (kyv x) := g1.1.2
      subst hash
      dsimp only
      refine wpAny_bind (wpAny_holding (st_add g1.1.1 g1.2 R2 ?_ fun b1 h3 sb3 R3 => ?_))
      · have a1 := addAll_len (pre.map fun e => kyv e.2) ks
        have a2 : pre.length + rest.length + 1 = rows.size := by
          have e1 := congrArg List.length hpre
          have e2 := xp.length_eq
          simp at e1 e2
          omega
        have a3 : scanBound = 4096 := rfl
        simp at a1
        omega
      · have sbo : h3.get? o = s.heap.get? o := by rw [sb3.2 o (Ne.symm ne)]; exact sb2.2 o (Ne.symm ne)
        refine wpAny_bind (hE _ _ sbo ?_)
        refine wpAny_bind (wpAny_setState_of (o := ob) (es := rows) (ep := ep) (t := tb) (by rw [show ({ s with heap := h3, drawn := d2 } : Shared).heap = h3 from rfl, sbo]; exact q0) qd ft ?_)
        dsimp only
        rw [if_neg (by simp)]
        refine wpAny_pure ⟨pre ++ [((mixKind P w).hash (kyv x), x)], h3, d2, rfl, sb2.trans sb3, by rw [← hpre]; simp, ?_⟩
        rw [List.map_append, List.map_singleton, addAll_snoc]
        exact R3
    · rintro b s2 ⟨pre, h2, d2, rfl, sb2, hpre, R2⟩
      rw [List.append_nil] at hpre
      refine wpAny_pure (hQ h2 d2 sb2 (R2.perm (addAll_perm rn ?_)))
      rw [hpre]
      exact (xp.map _).trans pm
end
end Ip

set_option Elab.async false
set_option linter.all false
set_option maxRecDepth 100000
set_option maxHeartbeats 3200000
/-! Ip, part 36: the call of set | set. -/
namespace Ip
open PySem L2 PySem.Spec PyProof.Rows MeetsSeq2
theorem entry_or : entryFor table "set.__or__" = some Builtin.«frozenset.__or__» :=
  entryFor_alias (id' := "frozenset.__or__") (by kernel_rfl) rfl (by decide +kernel) (by kernel_rfl)
section
variable {P : Program} {w : World} {A : Around} {E : Value → Shared → Prop} {s : Shared} {ks ls : List Key} {a r o : Addr}
theorem anySet_st {b : Addr} {Q : Bool → Shared → Prop} (hT : s.TypeIs (.ref b) "set") (h : Q true s) : wpAny (model P w) A (Builtin.Frozenset.isAnySet (.ref b)) Q E s := by
  unfold Builtin.Frozenset.isAnySet orM
  exact wpAny_bind (wpAny_isInstance (b := true) hT sub_set_self (wpAny_pure h))
theorem wp_copy {Q : Value → Shared → Prop} (Rl : StAt P w s.heap a ks) (few : ks.length ≤ 4)
    (hQ : ∀ h', Heap.SameBut s.heap.objs.size (s.heap.push (nuS w)) h' → StF P w h' s.heap.objs.size ks → (ks = [] → h' = s.heap.push (nuS w)) → Q (.ref s.heap.objs.size) { s with heap := h' }) : wpAny (model P w) A (Builtin.Frozenset.copyOf a) Q E s := by
  have hT : s.TypeIs (.ref a) "set" := StAt.ty (R := Rl)
  unfold Builtin.Frozenset.copyOf Builtin.Frozenset.baseOf
  refine wpAny_bind (wpAny_bind (wpAny_isInstance (b := true) hT sub_set_self (wpAny_pure ?_)))
  rw [if_pos rfl]
  unfold newSet
  refine wpAny_bind (wpAny_bind (wpAny_byText ?_))
  refine wpAny_newObj_type ?_
  have al : a < s.heap.objs.size := by
    obtain ⟨ob, rows, ep, tb, q0, _⟩ := Rl
    exact Heap.lt_size q0
  have g0 : (s.heap.push (nuS w)).get? s.heap.objs.size = some (nuS w) := Heap.get?_push_size _ rfl
  have Rl2 : StAt P w (s.heap.push (nuS w)) a ks := Rl.at fun ob q => Heap.get?_push_of_some _ q
  unfold Builtin.Frozenset.addrOf
  refine wpAny_bind (wpAny_pure ?_)
  refine wpAny_bind (merge_new (s := { s with heap := s.heap.push (nuS w) }) g0 (Nat.ne_of_gt al) Rl2 few fun h' sb e R => wpAny_pure (hQ h' sb R e))
theorem call_or {Q : Value → Shared → Prop} (Rl : StAt P w s.heap a ks) (Ro : StAt P w s.heap o ls) (few : ks.length + ls.length ≤ 4)
    (hQ : ∀ h' d, (∀ b ob, s.heap.get? b = some ob → h'.get? b = some ob) → s.heap.objs.size < h'.objs.size → StAt P w h' s.heap.objs.size (addAll ks ls) → Q (.ref s.heap.objs.size) { s with heap := h', drawn := d }) : wpAny (model P w) A (binaryOp .BitOr (.ref a) (.ref o)) Q E s := by
  have hT : s.TypeIs (.ref a) "set" := StAt.ty (R := Rl)
  have hU : s.TypeIs (.ref o) "set" := StAt.ty (R := Ro)
  have ol : o < s.heap.objs.size := by
    obtain ⟨ob, rows, ep, tb, q0, _⟩ := Ro
    exact Heap.lt_size q0
  refine wpAny_binaryOp_same (op := .BitOr) hT hU PySem.F.fills_set_or PySem.F.slot_set_or (wpAny_call_entry PySem.F.slot_set_or hT entry_or ?_ (PySem.F.args_set_or_2 _ _))
  unfold Builtin.«frozenset.__or__»
  wp_delta
  refine wpAny_bind (m := Builtin.Frozenset.slot1 "__or__" _) (wpAny_of_eq (a := (.ref a, .ref o)) (by rfl) ?_)
  dsimp only
  simp only [Bool.false_eq_true, if_false]
  unfold andM
  refine wpAny_bind (wpAny_bind (anySet_st hT ?_))
  refine anySet_st hU ?_
  rw [if_neg (by simp)]
  refine wpAny_bind (m := Builtin.Frozenset.addrOf (.ref a)) (wpAny_pure ?_)
  refine wpAny_bind ?_
  wp_delta
  refine wpAny_bind (wp_copy Rl (by omega) fun h1 sb1 R1 e1 => ?_)
  have fin : ∀ h' d, Heap.SameBut s.heap.objs.size (s.heap.push (nuS w)) h' → StAt P w h' s.heap.objs.size (addAll ks ls) → Q (.ref s.heap.objs.size) { s with heap := h', drawn := d } := fun h' d sb R => by
    have g0 : (s.heap.push (nuS w)).get? s.heap.objs.size = some (nuS w) := Heap.get?_push_size _ rfl
    refine hQ h' d (fun b ob q => ?_) ?_ R
    · rw [sb.2 b (Nat.ne_of_lt (Heap.lt_size q))]; exact Heap.get?_push_of_some _ q
    · obtain ⟨ob, rows, ep, tb, q0, _⟩ := R
      exact Heap.lt_size q0
  by_cases same : o = a
  · subst same
    have ne : (Value.ref o != Value.ref o) = false := by simp
    rw [ne, if_neg (by simp)]
    refine wpAny_pure (wpAny_pure ⟨_, rfl, by simp, fin h1 s.drawn sb1 (R1.st.perm ?_)⟩)
    have p1 : ls.Perm ks := by
      obtain ⟨ob, rows, ep, tb, q0, qx, qd, gr, pm, _⟩ := Rl
      obtain ⟨ob2, rows2, ep2, tb2, q02, qx2, qd2, gr2, pm2, _⟩ := Ro
      rw [q0] at q02; cases q02
      rw [qd] at qd2; cases qd2
      exact pm2.symm.trans pm
    refine (List.perm_ext_iff_of_nodup Rl.nd (nd_addAll Rl.nd)).mpr fun k => ?_
    rw [mem_addAll, p1.mem_iff, or_self]
  · have ne : (Value.ref o != Value.ref a) = true := by simpa using same
    rw [ne, if_pos rfl]
    have Ro1 : StAt P w h1 o ls := Ro.at fun ob q => by rw [sb1.2 o (Nat.ne_of_lt ol)]; exact Heap.get?_push_of_some _ q
    have hU1 : ({ s with heap := h1 } : Shared).TypeIs (.ref o) "set" := StAt.ty (R := Ro1)
    refine wpAny_bind (m := Builtin.Frozenset.addrOf (.ref s.heap.objs.size)) (wpAny_pure ?_)
    refine wpAny_bind (wpAny_holding ?_)
    unfold Builtin.Frozenset.updateFrom
    refine wpAny_bind (anySet_st hU1 ?_)
    rw [if_pos rfl]
    refine wpAny_bind (m := Builtin.Frozenset.addrOf (.ref o)) (wpAny_pure ?_)
    unfold Builtin.Frozenset.merge
    have Ro2 := Ro1
    obtain ⟨ob, rows, ep, tb, q0, qx, qd, gr, pm, nd, bd, ft, ri, ld⟩ := Ro1
    refine wpAny_bind (wpAny_setEpoch_of q0 qd ft ?_)
    by_cases k0 : ks = []
    · subst k0
      have e2 := e1 rfl
      have g0 : h1.get? s.heap.objs.size = some (nuS w) := by rw [e2]; exact Heap.get?_push_size _ rfl
      refine merge_new (s := { s with heap := h1 }) g0 (Nat.ne_of_gt ol) Ro2 (by simpa using few) fun h2 sb2 _ R2 => ?_
      refine wpAny_pure (wpAny_pure ⟨_, rfl, by simp, fin h2 s.drawn (sb1.trans sb2) (R2.st.perm ?_)⟩)
      refine (List.perm_ext_iff_of_nodup Ro.nd (nd_addAll Rl.nd)).mpr fun k => ?_
      rw [mem_addAll]; simp
    · refine merge_more (s := { s with heap := h1 }) R1 k0 Ro2 (Nat.ne_of_gt ol) few (fun s3 Q3 e3 q3 => ?_) fun h2 d sb2 R2 => ?_
      · unfold Builtin.Frozenset.unchanged
        refine wpAny_bind (wpAny_setEpoch_of (o := ob) (es := rows) (ep := ep) (t := tb) (by rw [e3]; exact q0) qd ft ?_)
        rw [if_neg (by simp)]; exact wpAny_pure q3
      · exact wpAny_pure (wpAny_pure ⟨_, rfl, by simp, fin h2 d (sb1.trans sb2) R2⟩)
end
end Ip

set_option Elab.async false
set_option linter.all false
set_option maxRecDepth 100000
/-! Ip, part 2: how the machine's values stand for the pure ones. -/
namespace Ip
open PySem L2

/-- what all values lean on: the fragment, the program, the world -/
structure FK where
  K : PySem.W.Frag
  P : Program
  w : World
/-- a dict whose keys are ints and texts, and what it is made of -/
def LDO (K : FK) (a : Addr) (kvs : List (Key × V)) (es : Array DictEntry) (ep : Nat) : HO := .ext fun h => kvs.length ≤ sizeLine ∧ (a == sysModules) = false ∧ h.DictRaw a es ep ∧ ∃ us, KV kvs us ∧ h.DictOf (mixKind K.P K.w) a us
/-- a dict whose keys are tuples -/
def NDO (K : FK) (a : Addr) (kvs : List (NestedKey × Addr × V)) (es : Array DictEntry) (ep : Nat) : HO := .ext fun h => kvs.length ≤ sizeLine ∧ (a == sysModules) = false ∧ ∃ xs : List (NestedKey × Addr × Value), Paired (fun (p : NestedKey × Addr × V) (q : NestedKey × Addr × Value) => p.1 = q.1 ∧ p.2.1 = q.2.1 ∧ RelV p.2.2 q.2.2) kvs xs ∧
  h.DictRaw a es ep ∧ es.toList = xs.map (entryOfKey (nestedKind K.P K.w)) ∧ (xs.map (·.1)).Nodup
/-- a set of ints and texts -/
def STO (K : FK) (a : Addr) (ks : List Key) : HO := .ext fun h => StAt K.P K.w h a ks
/-- where the things that may change stand, and lists that are being made -/
structure Ph where
  box : List (Option Addr)
  hid : List Addr
def Ph.has (φ : Ph) (a : Addr) : Prop := (Option.some a) ∈ φ.box ∨ a ∈ φ.hid
def WrT (K : PySem.W.Frag) (a : Addr) (xs : List V) : Prop :=
  ∃ (o : Obj) (its : Array Value) (n : Nat), K.lookup a = some o ∧ o.cls = .type "tuple" ∧ o.data = .seq its n ∧ its.size ≤ sizeLine ∧ Vals xs its.toList
def PurL (φ : Ph) (H : Hp) (a : Addr) (xs : List V) : Prop := ¬ φ.has a ∧ L2.Rd H a (.lst xs)
def PurT (K : FK) (φ : Ph) (H : Hp) (a : Addr) (xs : List V) : Prop := (¬ φ.has a ∧ L2.Rd H a (.tup xs)) ∨ WrT K.K a xs
theorem PurT.sq {K : FK} {φ : Ph} {H : Hp} {a : Addr} {xs : List V} (h : PurT K φ H a xs) : SqT K.K H a xs := h.elim (fun z => .inl z.2) .inr

def strOk (x : Str) : Prop := PyData.strOk x = true
def strK : Key → Prop
  | .inl _ => True
  | .inr x => strOk x

/-- keys and values, by key -/
def KyL (ks : List PV) (kvs : List (Key × V)) : Prop := ks = kvs.map (fun p => kP p.1) ∧ ∀ p ∈ kvs, strK p.1
def KyN (ks : List PV) (kvs : List (NestedKey × Addr × V)) : Prop := nks ks = some (kvs.map (·.1)) ∧ ∀ p ∈ kvs, p.1.depth ≤ 8
mutual
inductive Rep (K : FK) (φ : Ph) (H : Hp) : V → PV → Prop
  | non : Rep K φ H .non .non
  | bl (b : Bool) : Rep K φ H (.bl b) (.bl b)
  | int (i : Int) : Rep K φ H (.int i) (.int i)
  | str {x : Str} (h : strOk x) : Rep K φ H (.str x) (.str x)
  | lst {a : Addr} {xs : List V} {vs : List PV} : PurL φ H a xs → Reps K φ H xs vs → Rep K φ H (.ref a) (.lst vs)
  | tup {a : Addr} {xs : List V} {vs : List PV} : PurT K φ H a xs → Reps K φ H xs vs → Rep K φ H (.ref a) (.tup vs)
  | dctL {a : Addr} {kvs : List (Key × V)} {es : Array DictEntry} {ep : Nat} {ks vs : List PV} : ¬ φ.has a → L2.Rd H a (LDO K a kvs es ep) → KyL ks kvs → Reps K φ H (kvs.map (·.2)) vs → Rep K φ H (.ref a) (.dct false ks vs)
  | dctN {a : Addr} {kvs : List (NestedKey × Addr × V)} {es : Array DictEntry} {ep : Nat} {ks vs : List PV} : ¬ φ.has a → L2.Rd H a (NDO K a kvs es ep) → KyN ks kvs → Reps K φ H (kvs.map fun p => V.ref p.2.1) ks → Reps K φ H (kvs.map (·.2.2)) vs → Rep K φ H (.ref a) (.dct true ks vs)
  | set {a : Addr} {ks : List Key} {xs : List PV} : ¬ φ.has a → L2.Rd H a (STO K a ks) → xs = ks.map kP → (∀ k ∈ ks, strK k) → Rep K φ H (.ref a) (.set xs)
inductive Reps (K : FK) (φ : Ph) (H : Hp) : List V → List PV → Prop
  | nil : Reps K φ H [] []
  | cons {x : V} {xs : List V} {v : PV} {vs : List PV} : Rep K φ H x v → Reps K φ H xs vs → Reps K φ H (x :: xs) (v :: vs)
end

/-- what has become of a heap -/
structure Ext (φ : Ph) (H : Hp) (φ' : Ph) (H' : Hp) : Prop where
  len : φ.box.length ≤ φ'.box.length
  hid : ∀ a, a ∈ φ.hid → a ∈ φ'.hid
  old : ∀ n a, n < φ.box.length → φ'.box[n]? = some (some a) → φ.box[n]? = some (some a)
  new : ∀ a, φ'.has a → ¬ φ.has a → H a = none
  kept : ∀ a o, H a = some o → ¬ φ.has a → H' a = some o
  hkept : ∀ a, a ∈ φ.hid → H' a = H a
theorem Ext.refl (φ : Ph) (H : Hp) : Ext φ H φ H := ⟨Nat.le_refl _, fun _ h => h, fun _ _ _ h => h, fun _ h n => absurd h n, fun _ _ h _ => h, fun _ _ => rfl⟩
theorem Ext.stay {φ φ' : Ph} {H H' : Hp} (e : Ext φ H φ' H') {a : Addr} {o : HO} (h : H a = some o) (n : ¬ φ.has a) : ¬ φ'.has a := fun m => by
  have := e.new a m n
  rw [h] at this
  cases this
theorem Ext.trans {φ φ1 φ2 : Ph} {H H1 H2 : Hp} (x : Ext φ H φ1 H1) (y : Ext φ1 H1 φ2 H2) : Ext φ H φ2 H2 where
  len := Nat.le_trans x.len y.len
  hid := fun a h => y.hid a (x.hid a h)
  old := fun n a hn h => x.old n a hn (y.old n a (Nat.lt_of_lt_of_le hn x.len) h)
  new := fun a h n => by
    by_cases m : φ1.has a
    · exact x.new a m n
    · have h1 := y.new a h m
      cases q : H a with
      | none => rfl
      | some o =>
        have := x.kept a o q n
        rw [h1] at this
        cases this
  kept := fun a o h n => y.kept a o (x.kept a o h n) (x.stay h n)
  hkept := fun a h => (y.hkept a (x.hid a h)).trans (x.hkept a h)
/-- what is kept, be it that a list that is being made grows -/
structure Kp (φ : Ph) (H : Hp) (φ' : Ph) (H' : Hp) : Prop where
  len : φ.box.length ≤ φ'.box.length
  old : ∀ n a, n < φ.box.length → φ'.box[n]? = some (some a) → φ.box[n]? = some (some a)
  kept : ∀ a o, H a = some o → ¬ φ.has a → ¬ φ'.has a ∧ H' a = some o
theorem Ext.kp {φ φ' : Ph} {H H' : Hp} (e : Ext φ H φ' H') : Kp φ H φ' H' := ⟨e.len, e.old, fun a o h n => ⟨e.stay h n, e.kept a o h n⟩⟩
instance {φ φ' : Ph} {H H' : Hp} : Coe (Ext φ H φ' H') (Kp φ H φ' H') := ⟨Ext.kp⟩
theorem Kp.trans {φ φ1 φ2 : Ph} {H H1 H2 : Hp} (x : Kp φ H φ1 H1) (y : Kp φ1 H1 φ2 H2) : Kp φ H φ2 H2 where
  len := Nat.le_trans x.len y.len
  old := fun n a hn h => x.old n a hn (y.old n a (Nat.lt_of_lt_of_le hn x.len) h)
  kept := fun a o h n => y.kept a o (x.kept a o h n).2 (x.kept a o h n).1
abbrev Kpt (φ : Ph) (H : Hp) (φ' : Ph) (H' : Hp) : Prop := ∀ a o, H a = some o → ¬ φ.has a → ¬ φ'.has a ∧ H' a = some o
theorem Rd_kept {φ φ' : Ph} {H H' : Hp} (e : Kpt φ H φ' H') {a : Addr} {u : HO} (n : ¬ φ.has a) (h : L2.Rd H a u) : ¬ φ'.has a ∧ L2.Rd H' a u := by
  rcases h with h | ⟨o, h⟩
  · exact ⟨(e _ _ h n).1, .inl (e _ _ h n).2⟩
  · exact ⟨(e _ _ h n).1, .inr ⟨o, (e _ _ h n).2⟩⟩
section
variable {K : FK} {φ φ' : Ph} {H H' : Hp}
theorem PurL.keep {a : Addr} {xs : List V} (e : Kpt φ H φ' H') (h : PurL φ H a xs) : PurL φ' H' a xs := Rd_kept e h.1 h.2
theorem PurT.keep {a : Addr} {xs : List V} (e : Kpt φ H φ' H') (h : PurT K φ H a xs) : PurT K φ' H' a xs := h.imp (fun z => Rd_kept e z.1 z.2) id
mutual
theorem Rep.keep (e : Kpt φ H φ' H') : ∀ (v : PV) (x : V), Rep K φ H x v → Rep K φ' H' x v
  | .non, _, h => by cases h; exact .non
  | .bl b, _, h => by cases h; exact .bl b
  | .int i, _, h => by cases h; exact .int i
  | .str x, _, h => by cases h with | str k => exact .str k
  | .lst vs, _, h => by
    cases h with
    | lst p r => exact .lst (p.keep e) (Reps.keep e vs _ r)
  | .tup vs, _, h => by
    cases h with
    | tup p r => exact .tup (p.keep e) (Reps.keep e vs _ r)
  | .dct n ks vs, _, h => by
    cases h with
    | dctL n e1 k r => exact .dctL (Rd_kept e n e1).1 (Rd_kept e n e1).2 k (Reps.keep e vs _ r)
    | dctN n e1 k r r2 => exact .dctN (Rd_kept e n e1).1 (Rd_kept e n e1).2 k (Reps.keep e ks _ r) (Reps.keep e vs _ r2)
  | .set _, _, h => by
    cases h with
    | set n e1 k r => exact .set (Rd_kept e n e1).1 (Rd_kept e n e1).2 k r
theorem Reps.keep (e : Kpt φ H φ' H') : ∀ (vs : List PV) (xs : List V), Reps K φ H xs vs → Reps K φ' H' xs vs
  | [], _, h => by cases h; exact .nil
  | v :: vs, _, h => by
    cases h with
    | cons p r => exact .cons (Rep.keep e v _ p) (Reps.keep e vs _ r)
end
theorem PurL.mono {a : Addr} {xs : List V} (e : Kp φ H φ' H') (h : PurL φ H a xs) : PurL φ' H' a xs := h.keep e.kept
theorem PurT.mono {a : Addr} {xs : List V} (e : Kp φ H φ' H') (h : PurT K φ H a xs) : PurT K φ' H' a xs := h.keep e.kept
theorem Rep.mono (e : Kp φ H φ' H') (v : PV) (x : V) (r : Rep K φ H x v) : Rep K φ' H' x v := Rep.keep e.kept v x r
theorem Reps.mono (e : Kp φ H φ' H') (vs : List PV) (xs : List V) (r : Reps K φ H xs vs) : Reps K φ' H' xs vs := Reps.keep e.kept vs xs r
theorem Reps.length : ∀ {vs : List PV} {xs : List V}, Reps K φ H xs vs → xs.length = vs.length
  | [], _, h => by cases h; rfl
  | v :: vs, _, h => by
    cases h with
    | cons p r => simp [Reps.length r]
theorem Reps.get : ∀ {vs : List PV} {xs : List V} {i : Nat} {v : PV}, Reps K φ H xs vs → vs[i]? = some v → ∃ x, xs[i]? = some x ∧ Rep K φ H x v
  | [], _, _, _, h, e => by simp at e
  | w :: vs, _, 0, v, h, e => by
    cases h with
    | cons p r => simp at e; subst e; exact ⟨_, rfl, p⟩
  | w :: vs, _, i + 1, v, h, e => by
    cases h with
    | cons p r =>
      obtain ⟨x, h1, h2⟩ := Reps.get (i := i) r (by simpa using e)
      exact ⟨x, by simpa using h1, h2⟩
theorem Reps.append : ∀ {vs ws : List PV} {xs ys : List V}, Reps K φ H xs vs → Reps K φ H ys ws → Reps K φ H (xs ++ ys) (vs ++ ws)
  | [], _, _, _, h, k => by cases h; exact k
  | v :: vs, _, _, _, h, k => by
    cases h with
    | cons p r => exact .cons p (Reps.append r k)
theorem Reps.take : ∀ {vs : List PV} {xs : List V} (n : Nat), Reps K φ H xs vs → Reps K φ H (xs.take n) (vs.take n)
  | _, _, 0, _ => .nil
  | [], _, n + 1, h => by cases h; exact .nil
  | v :: vs, _, n + 1, h => by
    cases h with
    | cons p r => exact .cons p (Reps.take n r)
theorem Reps.drop : ∀ {vs : List PV} {xs : List V} (n : Nat), Reps K φ H xs vs → Reps K φ H (xs.drop n) (vs.drop n)
  | _, _, 0, h => h
  | [], _, n + 1, h => by cases h; exact .nil
  | v :: vs, _, n + 1, h => by
    cases h with
    | cons p r => exact Reps.drop n r
theorem Reps.set {v : PV} {x : V} (p : Rep K φ H x v) : ∀ {vs : List PV} {xs : List V} (i : Nat), Reps K φ H xs vs → Reps K φ H (xs.set i x) (vs.set i v)
  | [], _, i, h => by cases h; exact .nil
  | w :: vs, _, 0, h => by
    cases h with
    | cons q r => exact .cons p r
  | w :: vs, _, i + 1, h => by
    cases h with
    | cons q r => exact .cons q (Reps.set p i r)
theorem Reps.rep : ∀ (k : Nat) {vs : List PV} {xs : List V}, Reps K φ H xs vs → Reps K φ H (List.replicate k xs).flatten (List.replicate k vs).flatten
  | 0, _, _, _ => .nil
  | k + 1, vs, xs, h => by
    rw [List.replicate_succ, List.replicate_succ, List.flatten_cons, List.flatten_cons]
    exact h.append (Reps.rep k h)
theorem Reps.strs : ∀ (l : List Nat), (∀ c ∈ l, c < 0x110000) → Reps K φ H (l.map fun c => .str ⟨#[c]⟩) (l.map fun c => .str ⟨#[c]⟩)
  | [], _ => .nil
  | c :: l, h => .cons (.str (by simp [strOk, PyData.strOk]; exact h c List.mem_cons_self)) (Reps.strs l fun d hd => h d (List.mem_cons_of_mem _ hd))
theorem Reps.ints : ∀ (l : List Int), Reps K φ H (l.map V.int) (l.map PV.int)
  | [] => .nil
  | c :: l => .cons (.int c) (Reps.ints l)
end

/-! ### values of names, the store -/
structure RC where
  K : FK
  fad : Nat → Option Addr
def CellOk (K : FK) (φ : Ph) (H : Hp) (a : Addr) : Cell → Prop
  | .lst xs => ∃ vs, H a = some (.lst vs) ∧ Reps K φ H vs xs
  | .dct false ks vs => ∃ kvs es ep, H a = some (LDO K a kvs es ep) ∧ KyL ks kvs ∧ Reps K φ H (kvs.map (·.2)) vs
  | .dct true ks vs => ∃ kvs es ep, H a = some (NDO K a kvs es ep) ∧ KyN ks kvs ∧ Reps K φ H (kvs.map fun p => V.ref p.2.1) ks ∧ Reps K φ H (kvs.map (·.2.2)) vs
  | .dead => True
/-- a thing that may change stands as it is while it and all pure ones do -/
theorem CellOk.keep {K : FK} {φ φ' : Ph} {H H' : Hp} {a : Addr} {c : Cell} (e : Kpt φ H φ' H') (ha : ∀ o, H a = some o → H' a = some o) (h : CellOk K φ H a c) : CellOk K φ' H' a c := by
  cases c with
  | lst xs =>
    obtain ⟨vs, h1, h2⟩ := h
    exact ⟨vs, ha _ h1, Reps.keep e _ _ h2⟩
  | dct n ks vs =>
    cases n with
    | false =>
      obtain ⟨kvs, es, ep, h1, h2, h3⟩ := h
      exact ⟨kvs, es, ep, ha _ h1, h2, Reps.keep e _ _ h3⟩
    | true =>
      obtain ⟨kvs, es, ep, h1, h2, h3, h4⟩ := h
      exact ⟨kvs, es, ep, ha _ h1, h2, Reps.keep e _ _ h3, Reps.keep e _ _ h4⟩
  | dead => trivial
theorem CellOk.there {K : FK} {φ : Ph} {H : Hp} {a : Addr} {c : Cell} (h : CellOk K φ H a c) (d : c ≠ .dead) : ∃ o, H a = some o := by
  cases c with
  | lst xs => exact ⟨_, h.choose_spec.1⟩
  | dct n ks vs =>
    cases n with
    | false =>
      obtain ⟨_, _, _, h1, _⟩ := h
      exact ⟨_, h1⟩
    | true =>
      obtain ⟨_, _, _, h1, _⟩ := h
      exact ⟨_, h1⟩
  | dead => exact absurd rfl d
structure RepS (C : RC) (φ : Ph) (H : Hp) (S : Store) : Prop where
  len : φ.box.length = S.length
  cell : ∀ (n : Nat) (c : Cell), S[n]? = some c → c = .dead ∨ ∃ a, φ.box[n]? = some (some a) ∧ CellOk C.K φ H a c
  inj : ∀ (n m : Nat) (a : Addr), φ.box[n]? = some (some a) → φ.box[m]? = some (some a) → n = m
  there : ∀ a, φ.has a → H a ≠ none
  live : ∀ (n : Nat) (a : Addr), φ.box[n]? = some (some a) → S[n]? ≠ some .dead
  disj : ∀ (n : Nat) (a : Addr), φ.box[n]? = some (some a) → a ∉ φ.hid
def RepE (C : RC) (φ : Ph) (H : Hp) (x : V) : EV → Prop
  | .p v => Rep C.K φ H x v
  | .box n => n < φ.box.length ∧ ∀ a, φ.box[n]? = some (some a) → x = .ref a
  | .fn f => ∃ a, C.fad f = some a ∧ x = .ref a
structure RepEnv (C : RC) (φ : Ph) (H : Hp) (env : Nv) (σ : St) : Prop where
  len : env.length = σ.length
  val : ∀ (i : Nat) (v : EV), env[i]? = some (some v) → ∃ x, σ[i]? = some (some x) ∧ RepE C φ H x v
section
variable {C : RC} {φ φ' : Ph} {H H' : Hp} {S : Store} {env : Nv} {σ : St}
theorem RepE.mono (e : Kp φ H φ' H') {x : V} {v : EV} (h : RepE C φ H x v) : RepE C φ' H' x v := by
  cases v with
  | p v => exact Rep.mono e v x h
  | box n => exact ⟨Nat.lt_of_lt_of_le h.1 e.len, fun a q => h.2 a (e.old n a h.1 q)⟩
  | fn f => exact h
theorem RepEnv.mono (e : Kp φ H φ' H') (h : RepEnv C φ H env σ) : RepEnv C φ' H' env σ := ⟨h.len, fun i v q =>
  let ⟨x, h1, h2⟩ := h.val i v q
  ⟨x, h1, h2.mono e⟩⟩
theorem RepEnv.set {x : V} {v : EV} (h : RepEnv C φ H env σ) (i : Nat) (r : RepE C φ H x v) : RepEnv C φ H (env.set i (some v)) (σ.set i (some x)) := by
  refine ⟨by simp [h.len], fun j w q => ?_⟩
  by_cases hj : i = j
  · subst hj
    by_cases hl : i < env.length
    · rw [List.getElem?_set_self hl] at q
      cases q
      exact ⟨x, List.getElem?_set_self (h.len ▸ hl), r⟩
    · rw [List.getElem?_eq_none (by simpa using hl)] at q
      cases q
  · rw [List.getElem?_set_ne hj] at q
    obtain ⟨y, h1, h2⟩ := h.val j w q
    exact ⟨y, by rw [List.getElem?_set_ne hj]; exact h1, h2⟩
theorem RepEnv.wipe (h : RepEnv C φ H env σ) : ∀ (own : List Nat), RepEnv C φ H (wipeE env own) (L2.wipe σ own)
  | [] => h
  | i :: is => by
    have ih := h.wipe is
    refine ⟨by simp [wipeE, L2.wipe, ih.len], fun j w q => ?_⟩
    unfold wipeE at q
    by_cases hj : i = j
    · subst hj
      by_cases hl : i < (wipeE env is).length
      · rw [List.getElem?_set_self hl] at q; cases q
      · rw [List.getElem?_eq_none (by simpa using hl)] at q; cases q
    · rw [List.getElem?_set_ne hj] at q
      obtain ⟨y, h1, h2⟩ := ih.val j w q
      exact ⟨y, by unfold L2.wipe; rw [List.getElem?_set_ne hj]; exact h1, h2⟩
/-- a new object -/
theorem RepS.alloc {p : Addr} {o : HO} (h : RepS C φ H S) (hp : H p = none) : ¬ φ.has p ∧ Ext φ H φ (upd H p o) ∧ RepS C φ (upd H p o) S := by
  have np : ¬ φ.has p := fun m => h.there p m hp
  have e : Ext φ H φ (upd H p o) := ⟨Nat.le_refl _, fun _ h => h, fun _ _ _ q => q, fun _ m n => absurd m n, fun a u q _ => by rw [upd_ne (ne_of_none q hp)]; exact q, fun a m => upd_ne fun z => np (z ▸ Or.inr m)⟩
  refine ⟨np, e, h.len, fun n c q => ?_, h.inj, fun a m => ?_, h.live, h.disj⟩
  · rcases h.cell n c q with r | ⟨a, h1, h2⟩
    · exact .inl r
    · exact .inr ⟨a, h1, h2.keep e.kp.kept fun u q => by rw [upd_ne (ne_of_none q hp)]; exact q⟩
  · by_cases hq : a = p
    · subst hq; exact absurd m np
    · rw [upd_ne hq]; exact h.there a m
theorem Rep.newL {p : Addr} {xs : List V} {vs : List PV} {K : FK} (np : ¬ φ.has p) (r : Reps K φ (upd H p (.lst xs)) xs vs) : Rep K φ (upd H p (.lst xs)) (.ref p) (.lst vs) := .lst ⟨np, .inl upd_same⟩ r
theorem Rep.newT {p : Addr} {xs : List V} {vs : List PV} {K : FK} (np : ¬ φ.has p) (r : Reps K φ (upd H p (.tup xs)) xs vs) : Rep K φ (upd H p (.tup xs)) (.ref p) (.tup vs) := .tup (.inl ⟨np, .inl upd_same⟩) r
end

/-! ### what a computation's reading asks -/
abbrev EX := Exc → Store → Ph → Hp → Prop
section
variable (C : RC) (E : EX)
def Post {α β : Type} (R : Ph → Hp → β → α → Prop) (φ : Ph) (H : Hp) (r : Res α) (Q : β → Hp → Prop) : Prop :=
  match r with
  | .ok a S' => ∀ φ' H' b, Ext φ H φ' H' → RepS C φ' H' S' → R φ' H' b a → Q b H'
  | .exc x S' => ∀ φ' H', Ext φ H φ' H' → RepS C φ' H' S' → E x S' φ' H'
  | .stuck => False
def tM {α β : Type} (R : Ph → Hp → β → α → Prop) (m : Nv → M α) : St → Hp → (β → Hp → Prop) → Prop := fun σ H Q =>
  ∃ φ S env, RepS C φ H S ∧ RepEnv C φ H env σ ∧ Post C E R φ H (m env S) Q
inductive RepEs (φ : Ph) (H : Hp) : List V → List EV → Prop
  | nil : RepEs φ H [] []
  | cons {x xs v vs} : RepE C φ H x v → RepEs φ H xs vs → RepEs φ H (x :: xs) (v :: vs)
def EqB (_ : Ph) (_ : Hp) (b a : Bool) : Prop := b = a
/-- a value is read: a thing that may change, too -/
def VR (K : FK) (φ : Ph) (H : Hp) (x : V) : PV → Prop
  | .lst vs => ∃ a xs, x = .ref a ∧ L2.Rd H a (.lst xs) ∧ Reps K φ H xs vs
  | .dct false ks vs => ∃ a kvs es ep, x = .ref a ∧ L2.Rd H a (LDO K a kvs es ep) ∧ KyL ks kvs ∧ Reps K φ H (kvs.map (·.2)) vs
  | .dct true ks vs => ∃ a kvs es ep, x = .ref a ∧ L2.Rd H a (NDO K a kvs es ep) ∧ KyN ks kvs ∧ Reps K φ H (kvs.map fun p => V.ref p.2.1) ks ∧ Reps K φ H (kvs.map (·.2.2)) vs
  | .tup vs => ∃ a xs, x = .ref a ∧ PurT K φ H a xs ∧ Reps K φ H xs vs
  | v => Rep K φ H x v
end
section
variable {C : RC} {E : EX} {φ φ' : Ph} {H H' : Hp} {S : Store} {env : Nv} {σ : St} {α β γ δ : Type} {R : Ph → Hp → β → α → Prop} {R2 : Ph → Hp → δ → γ → Prop}
theorem Post.ext {r : Res α} {Q : β → Hp → Prop} (h : Post C E R φ H r Q) (e : Ext φ H φ' H') : Post C E R φ' H' r Q := by
  cases r with
  | ok a S' => exact fun φ2 H2 b x s r => h φ2 H2 b (e.trans x) s r
  | exc a S' => exact fun φ2 H2 x s => h φ2 H2 (e.trans x) s
  | stuck => exact h
theorem tM.mono {m : Nv → M α} {Q Q' : β → Hp → Prop} (h : tM C E R m σ H Q) (hq : ∀ b H1, Q b H1 → Q' b H1) : tM C E R m σ H Q' := by
  obtain ⟨φ, S, env, h1, h2, h3⟩ := h
  refine ⟨φ, S, env, h1, h2, ?_⟩
  revert h3
  cases m env S with
  | ok a S' => exact fun h φ' H' b x s r => hq b H' (h φ' H' b x s r)
  | exc a S' => exact id
  | stuck => exact id
/-- what stands behind a step -/
def Nxt (C : RC) (E : EX) (R1 : Ph → Hp → β → α → Prop) (R2 : Ph → Hp → δ → γ → Prop) (φ : Ph) (H : Hp) (env : Nv) (σ : St) (k : α → M γ) (Q : δ → Hp → Prop) (r : Res α) (b : β) (H1 : Hp) : Prop :=
  ∃ φ1 S1 a, r = .ok a S1 ∧ Ext φ H φ1 H1 ∧ RepS C φ1 H1 S1 ∧ RepEnv C φ1 H1 env σ ∧ R1 φ1 H1 b a ∧ Post C E R2 φ1 H1 (k a S1) Q
theorem step {m : Nv → M α} {k : α → M γ} {Q : δ → Hp → Prop} (hS : RepS C φ H S) (hE : RepEnv C φ H env σ) (h : Post C E R2 φ H (M.bind (m env) k S) Q) : tM C E R m σ H (Nxt C E R R2 φ H env σ k Q (m env S)) := by
  refine ⟨φ, S, env, hS, hE, ?_⟩
  unfold M.bind at h
  revert h
  cases m env S with
  | ok a S' => exact fun h φ' H' b x s r => ⟨φ', S', a, rfl, x, s, hE.mono x, r, Post.ext h x⟩
  | exc a S' => exact id
  | stuck => exact id
theorem Post.pure {a : α} {Q : β → Hp → Prop} (h : Post C E R φ H (M.pure a S) Q) : ∀ φ' H' b, Ext φ H φ' H' → RepS C φ' H' S → R φ' H' b a → Q b H' := h
theorem Post.ofO {o : Option α} {k : α → M γ} {Q : δ → Hp → Prop} (h : Post C E R2 φ H (M.bind (Ip.ofO o) k S) Q) : ∃ a, o = some a ∧ Post C E R2 φ H (k a S) Q := by
  cases o with
  | none => exact h.elim
  | some a => exact ⟨a, rfl, h⟩
theorem Post.ret {a : α} {k : α → M γ} {Q : δ → Hp → Prop} (h : Post C E R2 φ H (M.bind (M.pure a) k S) Q) : Post C E R2 φ H (k a S) Q := h
theorem Rep.vr {K : FK} {x : V} {v : PV} (r : Rep K φ H x v) : VR K φ H x v := by
  cases v with
  | lst vs => cases r with | lst p q => exact ⟨_, _, rfl, p.2, q⟩
  | tup vs => cases r with | tup p q => exact ⟨_, _, rfl, p, q⟩
  | dct n ks vs => cases r with
    | dctL n p k q => exact ⟨_, _, _, _, rfl, p, k, q⟩
    | dctN n p k q q2 => exact ⟨_, _, _, _, rfl, p, k, q, q2⟩
  | _ => exact r
theorem VR.mono {K : FK} {x : V} {v : PV} (e : Kp φ H φ' H') (hs : ∀ a xs, x = .ref a → v = .lst xs → True) (r : Rep K φ H x v) : VR K φ' H' x v := (Rep.mono e v x r).vr
theorem Post.rd {x : V} {v : EV} {k : PV → M γ} {Q : δ → Hp → Prop} (hS : RepS C φ H S) (r : RepE C φ H x v) (h : Post C E R2 φ H (M.bind (Ip.rd v) k S) Q) : ∃ w, VR C.K φ H x w ∧ Post C E R2 φ H (k w S) Q := by
  cases v with
  | p v => exact ⟨v, Rep.vr r, h⟩
  | fn f => exact h.elim
  | box n =>
    unfold Ip.rd M.bind at h
    dsimp only at h
    cases q : S[n]? with
    | none => rw [q] at h; exact h.elim
    | some c =>
      rw [q] at h
      dsimp only at h
      rcases hS.cell n c q with d | ⟨a, h1, h2⟩
      · subst d; exact h.elim
      · have ex := r.2 a h1
        subst ex
        cases c with
        | lst xs =>
          obtain ⟨vs, h3, h4⟩ := h2
          exact ⟨.lst xs, ⟨a, vs, rfl, .inl h3, h4⟩, h⟩
        | dct n ks vs =>
          cases n with
          | false =>
            obtain ⟨kvs, es, ep, h3, h4, h5⟩ := h2
            exact ⟨.dct false ks vs, ⟨a, kvs, es, ep, rfl, .inl h3, h4, h5⟩, h⟩
          | true =>
            obtain ⟨kvs, es, ep, h3, h4, h5, h6⟩ := h2
            exact ⟨.dct true ks vs, ⟨a, kvs, es, ep, rfl, .inl h3, h4, h5, h6⟩, h⟩
        | dead => exact h.elim
theorem pures_rep : ∀ {vs : List EV} {ws : List PV} {xs : List V}, RepEs C φ H xs vs → pures vs = some ws → Reps C.K φ H xs ws
  | [], ws, _, r, e => by
    cases r
    cases e
    exact .nil
  | .p v :: vs, ws, _, r, e => by
    cases r with
    | cons p q =>
      unfold pures at e
      cases f : pures vs with
      | none => rw [f] at e; cases e
      | some us =>
        rw [f] at e
        cases e
        exact .cons p (pures_rep q f)
  | .box n :: vs, ws, _, r, e => by cases e
  | .fn n :: vs, ws, _, r, e => by cases e
theorem RepEs.mono (e : Kp φ H φ' H') : ∀ {vs : List EV} {xs : List V}, RepEs C φ H xs vs → RepEs C φ' H' xs vs
  | [], _, r => by cases r; exact .nil
  | v :: vs, _, r => by
    cases r with
    | cons p q => exact .cons (p.mono e) (RepEs.mono e q)
theorem RepEs.length : ∀ {vs : List EV} {xs : List V}, RepEs C φ H xs vs → xs.length = vs.length
  | [], _, r => by cases r; rfl
  | v :: vs, _, r => by
    cases r with
    | cons p q => simp [RepEs.length q]
end
/-- the context's fragment, program, world are those of the values -/
structure KX (X : Cx) (K : FK) : Prop where
  k : X.K = K.K
  p : X.prog = K.P
  w : X.w = K.w
end Ip

set_option Elab.async false
set_option linter.all false
set_option maxRecDepth 100000
set_option maxHeartbeats 3200000
/-! Ip, part 37: sets as values. -/
namespace Ip
open PySem L2 PySem.Spec PyProof.Rows
theorem eqP_kP (j k : Key) : eqP (kP j) (kP k) = decide (j = k) := by
  cases j <;> cases k <;> simp [kP, eqP] <;> rfl
theorem memP_kP (k : Key) : ∀ ks : List Key, memP (kP k) (ks.map kP) = hasKey ks k
  | [] => rfl
  | j :: ks => by
    rw [List.map_cons]
    unfold memP
    rw [memP_kP k ks, eqP_kP]
    rfl
theorem dedA_kP (ks : List Key) (k : Key) : dedA (ks.map kP) (kP k) = (addKey ks k).map kP := by
  unfold dedA addKey
  rw [memP_kP]
  split <;> simp
theorem dedP_kP : ∀ (ls ks : List Key), dedP (ks.map kP) (ls.map kP) = (addAll ks ls).map kP
  | [], _ => rfl
  | k :: ls, ks => by
    rw [List.map_cons]
    unfold dedP addAll
    rw [dedA_kP, dedP_kP ls]
theorem strK_addKey {ks : List Key} {k : Key} (h : ∀ j ∈ ks, strK j) (hk : strK k) : ∀ j ∈ addKey ks k, strK j := fun j hj => (mem_addKey.mp hj).elim (h j) fun e => e ▸ hk
theorem strK_addAll {ls ks : List Key} (h : ∀ j ∈ ks, strK j) (hl : ∀ j ∈ ls, strK j) : ∀ j ∈ addAll ks ls, strK j := fun j hj => (mem_addAll.mp hj).elim (h j) (hl j)
section
variable {K : FK} {φ : Ph} {H : Hp}
/-- what are keys, as values -/
theorem Reps.keys : ∀ {vs : List PV} {xs : List V}, Reps K φ H xs vs → vs.all (keyB false) = true → ∃ ks : List Key, vs = ks.map kP ∧ xs = ks.map kV ∧ ∀ k ∈ ks, strK k
  | [], _, h, _ => by cases h; exact ⟨[], rfl, rfl, fun _ h => absurd h (by simp)⟩
  | v :: vs, _, h, e => by
    simp only [List.all_cons, Bool.and_eq_true] at e
    cases h with
    | cons p q =>
      obtain ⟨ks, rfl, rfl, hk⟩ := Reps.keys q e.2
      cases v <;> try (simp [keyB] at e; done)
      · cases p
        rename_i i
        exact ⟨.inl i :: ks, rfl, rfl, fun k hk' => (List.mem_cons.mp hk').elim (fun z => z ▸ trivial) (hk k)⟩
      · rename_i x
        cases p with
        | str g => exact ⟨.inr x :: ks, rfl, rfl, fun k hk' => (List.mem_cons.mp hk').elim (fun z => z ▸ g) (hk k)⟩
theorem Reps.ofKeys : ∀ {ks : List Key}, (∀ k ∈ ks, strK k) → Reps K φ H (ks.map kV) (ks.map kP)
  | [], _ => .nil
  | .inl i :: ks, h => .cons (.int i) (Reps.ofKeys fun k hk => h k (List.mem_cons_of_mem _ hk))
  | .inr x :: ks, h => .cons (.str (h _ List.mem_cons_self)) (Reps.ofKeys fun k hk => h k (List.mem_cons_of_mem _ hk))
end
section
variable {X : Cx} {K : FK} {φ : Ph} {H : Hp} {pins : List (Addr × Obj)} {σ : L2.St} {s : Shared} {ks ls : List Key} {a b : Addr} {Q : VK}
theorem sto_get (I : Inv X pins σ H s) (hX : KX X K) (e : L2.Rd H a (STO K a ks)) : StAt X.prog X.w s.heap a ks := by
  have h : ObjOk X.prog X.w H s.heap a (STO K a ks) := e.ok I.hok
  rw [hX.p, hX.w]
  exact h.1
theorem sto_new {h : Heap} (hX : KX X K) (R : StAt X.prog X.w h a ks) : ObjOk X.prog X.w H h a (STO K a ks) := by
  rw [hX.p, hX.w] at R
  have ⟨ob, _, _, _, q0, _⟩ := R
  exact ⟨R, ⟨ob, q0⟩, fun h1 h2 p kp => p.at kp⟩
theorem mkset_list {xs : List V} (I : Inv X pins σ H s) (hX : KX X K) (hc : X.calm = true) (hs : SqL X.K H a xs) (e : xs = ks.map kV) (room : ks.length < 4000) (q : ∀ p, H p = none → Q (.ref p) (upd H p (STO K p (addAll [] ks)))) :
    wpAny (model X.prog X.w) X.A (PySem.call (.type "set") [.ref a]) (EP X pins σ Q) X.xe s := by
  obtain ⟨its, rv, pl, hz⟩ := I.list hs
  subst e
  have hb : scanBound = 4096 := rfl
  refine call_set_list (I.ok.hd hc) pl.isList (by simpa using rv) (by omega) fun h' tk R kp => ?_
  exact ⟨.ref _, _, I.laid (t' := tk) kp (Nat.le_refl _) (sto_new hX R), rfl, q _ (I.hok.fresh (Nat.le_refl _))⟩
theorem mkset_tup {xs : List V} (I : Inv X pins σ H s) (hX : KX X K) (hc : X.calm = true) (hs : SqT X.K H a xs) (e : xs = ks.map kV) (room : ks.length < 4000) (q : ∀ p, H p = none → Q (.ref p) (upd H p (STO K p (addAll [] ks)))) :
    wpAny (model X.prog X.w) X.A (PySem.call (.type "set") [.ref a]) (EP X pins σ Q) X.xe s := by
  obtain ⟨its, rv, pl, hz⟩ := I.tuple hs
  subst e
  have hb : scanBound = 4096 := rfl
  refine call_set_tuple (I.ok.hd hc) pl (by simpa using rv) (by omega) fun h' tk R kp => ?_
  exact ⟨.ref _, _, I.laid (t' := tk) kp (Nat.le_refl _) (sto_new hX R), rfl, q _ (I.hok.fresh (Nat.le_refl _))⟩
theorem or_sets (I : Inv X pins σ H s) (hX : KX X K) (ea : L2.Rd H a (STO K a ks)) (eb : L2.Rd H b (STO K b ls)) (few : ks.length + ls.length ≤ 4) (q : ∀ p, H p = none → Q (.ref p) (upd H p (STO K p (addAll ks ls)))) :
    wpAny (model X.prog X.w) X.A (binaryOp .BitOr (.ref a) (.ref b)) (EP X pins σ Q) X.xe s := by
  refine call_or (sto_get I hX ea) (sto_get I hX eb) few fun h' d kp _ R => ?_
  have hn := I.hok.fresh (Nat.le_refl s.heap.objs.size)
  exact ⟨.ref _, _, I.call (ch := []) (t' := s.toks) (Un.laid kp (Nat.le_refl _) hn) (I.hok.laid kp (Nat.le_refl _) (sto_new hX R)) I.bare (fun _ z => nomatch z), rfl, q _ hn⟩
theorem len_set (I : Inv X pins σ H s) (hX : KX X K) (ea : L2.Rd H a (STO K a ks)) (q : Q (.int ks.length) H) : wpAny (model X.prog X.w) X.A (PySem.call (.builtin "len") [.ref a]) (EP X pins σ Q) X.xe s := by
  obtain ⟨ob, rows, ep, tb, q0, qx, qd, gr, pm, nd, bd, ft, ri, ld⟩ := sto_get I hX ea
  have sz : rows.size = ks.length := by have := pm.length_eq; simpa using this
  have hb : scanBound = 4096 := rfl
  exact call_len_set q0 qx qd ft (by omega) ⟨.int ks.length, H, I.tok _, ⟨_, by rw [sz]⟩, q⟩
end
end Ip

set_option Elab.async false
set_option linter.all false
set_option maxRecDepth 100000
set_option maxHeartbeats 2000000
/-! Ip, part 3: the machine's operators do what the pure ones say. -/
namespace Ip
open PySem L2 PySem.Spec PyProof.Rows

theorem line_eq : sizeLine = Line := sizeLine_eq
theorem strOk_append {x y : Str} (h : strOk x) (k : strOk y) : strOk (x ++ y) := by
  unfold strOk PyData.strOk at *
  show ((x.cps ++ y.cps).all _) = true
  rw [Array.all_append, h, k]; rfl
theorem strOk_iff {x : Str} : strOk x ↔ ∀ c ∈ x.cps.toList, c < 0x110000 := by
  unfold strOk PyData.strOk
  rw [← Array.all_toList, List.all_eq_true]
  simp
theorem strOk_sign {x : Str} (h : strOk x) {c : Nat} (hc : c ∈ x.cps.toList) : strOk ⟨#[c]⟩ := strOk_iff.mpr fun d hd => by
  have : d = c := by simpa using hd
  subst this
  exact strOk_iff.mp h _ hc
theorem strOk_ofString (s : String) : strOk (Str.ofString s) := strOk_iff.mpr fun c hc => by
  rw [Str.ofString_eq_toList] at hc
  simp only [List.mem_map] at hc
  obtain ⟨d, _, rfl⟩ := hc
  have h := d.valid
  simp only [UInt32.isValidChar, Nat.isValidChar] at h
  have : d.toNat = d.val.toNat := rfl
  omega

section
variable {K : FK} {φ φ' : Ph} {H H' : Hp}
mutual
theorem Rep.dp : ∀ (v : PV) (x : V), plain v = true → Rep K φ H x v → Dp K.K H x (toD v)
  | .non, _, _, h => by cases h; unfold toD; exact .non
  | .bl b, _, _, h => by cases h; unfold toD; exact .bl b
  | .int i, _, _, h => by cases h; unfold toD; exact .int i
  | .str x, _, _, h => by cases h; unfold toD; exact .str _
  | .lst vs, _, hp, h => by
    cases h with
    | lst p r => unfold toD; exact .lst (.inl p.2) (Reps.dp vs _ (by simpa [plain] using hp) r)
  | .tup vs, _, hp, h => by
    cases h with
    | tup p r => unfold toD; exact .tup p.sq (Reps.dp vs _ (by simpa [plain] using hp) r)
  | .dct _ _ _, _, hp, h => by simp [plain] at hp
  | .set _, _, hp, h => by simp [plain] at hp
theorem Reps.dp : ∀ (vs : List PV) (xs : List V), plains vs = true → Reps K φ H xs vs → DpAll K.K H xs (toDs vs)
  | [], _, _, h => by cases h; unfold toDs; exact .nil
  | v :: vs, _, hp, h => by
    cases h with
    | cons p r =>
      simp [plains] at hp
      unfold toDs; exact .cons (Rep.dp v _ hp.1 p) (Reps.dp vs _ hp.2 r)
end
theorem VR.dp {v : PV} {x : V} (hp : plain v = true) (h : VR K φ H x v) : Dp K.K H x (toD v) := by
  cases v with
  | lst vs =>
    obtain ⟨a, xs, rfl, p, r⟩ := h
    unfold toD
    exact .lst (.inl p) (Reps.dp vs _ (by simpa [plain] using hp) r)
  | tup vs =>
    obtain ⟨a, xs, rfl, p, r⟩ := h
    unfold toD
    exact .tup p.sq (Reps.dp vs _ (by simpa [plain] using hp) r)
  | dct _ _ _ => simp [plain] at hp
  | _ => exact Rep.dp _ _ hp h
mutual
theorem Rep.lay : ∀ (v : PV) (x : V), Rep K φ H x v → (toD v).canLay0 = true
  | .non, _, h => rfl
  | .bl b, _, h => rfl
  | .int i, _, h => rfl
  | .str x, _, h => by cases h with | str k => exact k
  | .lst vs, _, h => by
    cases h with
    | lst p r => unfold toD PyData.canLay0; exact Reps.lay vs _ r
  | .tup vs, _, h => by
    cases h with
    | tup p r => unfold toD PyData.canLay0; exact Reps.lay vs _ r
  | .dct _ _ _, _, h => rfl
  | .set _, _, h => rfl
theorem Reps.lay : ∀ (vs : List PV) (xs : List V), Reps K φ H xs vs → PyData.canLayAll0 (toDs vs) = true
  | [], _, h => rfl
  | v :: vs, _, h => by
    cases h with
    | cons p r => unfold toDs PyData.canLayAll0; rw [Rep.lay v _ p, Reps.lay vs _ r]; rfl
end
theorem VR.lay {v : PV} {x : V} (h : VR K φ H x v) : (toD v).canLay0 = true := by
  cases v with
  | lst vs =>
    obtain ⟨a, xs, rfl, p, r⟩ := h
    unfold toD PyData.canLay0
    exact Reps.lay vs _ r
  | tup vs =>
    obtain ⟨a, xs, rfl, p, r⟩ := h
    unfold toD PyData.canLay0
    exact Reps.lay vs _ r
  | dct n ks vs => rfl
  | _ => exact Rep.lay _ _ h
end
mutual
theorem toD_depth : ∀ v : PV, (toD v).depth = dep v
  | .non | .bl _ | .int _ | .str _ | .dct _ _ _ | .set _ => by simp [toD, PyData.depth, dep]
  | .lst vs => by simp [toD, PyData.depth, dep, toDs_depth vs]
  | .tup vs => by simp [toD, PyData.depth, dep, toDs_depth vs]
theorem toDs_depth : ∀ vs : List PV, PyData.depthAll (toDs vs) = deps vs
  | [] => rfl
  | v :: vs => by simp [toDs, PyData.depthAll, deps, toD_depth v, toDs_depth vs]
end
mutual
theorem toD_eqv : ∀ v w : PV, plain v = true → plain w = true → (toD v).eqv (toD w) = eqP v w
  | .non, w, _, hw => by cases w <;> simp [plain] at hw <;> simp [toD, eqP, PyData.eqv]
  | .bl _, w, _, hw => by cases w <;> simp [plain] at hw <;> simp [toD, eqP, PyData.eqv]
  | .int _, w, _, hw => by cases w <;> simp [plain] at hw <;> simp [toD, eqP, PyData.eqv]
  | .str _, w, _, hw => by cases w <;> simp [plain] at hw <;> simp [toD, eqP, PyData.eqv]
  | .dct _ _ _, _, h, _ => by simp [plain] at h
  | .set _, _, h, _ => by simp [plain] at h
  | .lst vs, w, hv, hw => by
    cases w <;> simp [plain] at hv hw <;> simp [toD, eqP, PyData.eqv]
    exact toDs_eqv vs _ hv hw
  | .tup vs, w, hv, hw => by
    cases w <;> simp [plain] at hv hw <;> simp [toD, eqP, PyData.eqv]
    exact toDs_eqv vs _ hv hw
theorem toDs_eqv : ∀ vs ws : List PV, plains vs = true → plains ws = true → PyData.eqvAll (toDs vs) (toDs ws) = eqPs vs ws
  | [], [], _, _ => rfl
  | [], _ :: _, _, _ => rfl
  | _ :: _, [], _, _ => rfl
  | v :: vs, w :: ws, hv, hw => by
    simp [plains] at hv hw
    simp [toDs, PyData.eqvAll, eqPs, toD_eqv v w hv.1 hw.1, toDs_eqv vs ws hv.2 hw.2]
end
theorem toDs_any (v : PV) (hv : plain v = true) : ∀ ws : List PV, plains ws = true → ((toDs ws).any fun z => PyData.eqv z (toD v)) = memP v ws
  | [], _ => rfl
  | w :: ws, hw => by
    simp [plains] at hw
    simp [toDs, memP, toD_eqv w v hw.1 hv, toDs_any v hv ws hw.2]

/-! ### + of two lists, read where they stand -/
section
variable {X : Cx}
theorem Inv.lstR {pins : List (Addr × Obj)} {σ : L2.St} {H : Hp} {s : Shared} {l : Addr} {xs : List V} (I : Inv X pins σ H s) (hH : L2.Rd H l (.lst xs)) : xs.length ≤ sizeLine ∧ ∃ (its : List Value) (n : Nat), Vals xs its ∧ xs.length = its.length ∧ s.heap.get? l = some { cls := .type "list", data := .seq its.toArray n } := by
  obtain ⟨z, its, n, r, e⟩ := hH.ok I.hok
  exact ⟨z, its, n, r, r.length, e⟩
def rCatR : R2 := fun x y H Q => ∃ l b xs zs, x = .ref l ∧ y = .ref b ∧ L2.Rd H l (.lst xs) ∧ L2.Rd H b (.lst zs) ∧ xs.length + zs.length ≤ sizeLine ∧ ∀ p, H p = none → Q (.ref p) (upd H p (.lst (xs ++ zs)))
theorem op_catR : OpR X (binaryOp .Add) rCatR := by
  intro pins s σ H x y v u Q I rx ry h
  obtain ⟨l, b, xs, zs, rfl, rfl, hH, hB, hz, q⟩ := h
  cases rx
  cases ry
  obtain ⟨z, its, n, r, hl, e⟩ := Inv.lstR I hH
  obtain ⟨z2, its2, n2, r2, hl2, e2⟩ := Inv.lstR I hB
  refine PySem.P.add_list e e2 ?_ (by rw [List.size_toArray, List.size_toArray]; omega)
  have ea : its.toArray ++ its2.toArray = (its ++ its2).toArray := by simp
  rw [ea]
  exact ⟨.ref _, _, I.lnew (t' := s.toks) (r.append r2) (by rw [List.length_append]; omega), rfl, q _ I.fresh⟩
end

def bopOf : Bop → Operator
  | .add => .Add
  | .sub => .Sub
  | .mul => .Mult
  | .fdiv => .FloorDiv
  | .mod => .Mod
  | .pow => .Pow
  | .bor => .BitOr
def copOf : Cop → CmpOp
  | .eq => .Eq
  | .ne => .NotEq
  | .lt => .Lt
  | .le => .LtE
  | .gt => .Gt
  | .ge => .GtE
  | .isin => .In
  | .notin => .NotIn
  | .is_ => .Is
  | .isnot => .IsNot
/-- what is wanted of a pure answer -/
def Fin (C : RC) (φ : Ph) (H : Hp) (S : Store) (u : PV) (Q : VK) : Prop := ∀ φ' H' z, Ext φ H φ' H' → RepS C φ' H' S → Rep C.K φ' H' z u → Q z H'
def rBin (C : RC) (op : Bop) : R2 := fun x y H Q => ∃ φ S v w u, RepS C φ H S ∧ VR C.K φ H x v ∧ VR C.K φ H y w ∧ binop op v w = some u ∧ Fin C φ H S u Q
section
variable {X : Cx} {C : RC} {φ : Ph} {H : Hp} {S : Store} {Q : VK}
theorem Fin.now {u : PV} {z : V} (hS : RepS C φ H S) (f : Fin C φ H S u Q) (r : Rep C.K φ H z u) : Q z H := f φ H z (Ext.refl _ _) hS r
theorem Fin.newL {us : List PV} {xs : List V} (hS : RepS C φ H S) (f : Fin C φ H S (.lst us) Q) (r : Reps C.K φ H xs us) : ∀ p, H p = none → Q (.ref p) (upd H p (.lst xs)) := fun p hp => by
  obtain ⟨np, e, s⟩ := hS.alloc (o := .lst xs) hp
  exact f φ _ _ e s (Rep.newL np (Reps.mono e _ _ r))
theorem Fin.newT {us : List PV} {xs : List V} (hS : RepS C φ H S) (f : Fin C φ H S (.tup us) Q) (r : Reps C.K φ H xs us) : ∀ p, H p = none → Q (.ref p) (upd H p (.tup xs)) := fun p hp => by
  obtain ⟨np, e, s⟩ := hS.alloc (o := .tup xs) hp
  exact f φ _ _ e s (Rep.newT np (Reps.mono e _ _ r))
theorem Fin.newS {ks : List Key} (hS : RepS C φ H S) (f : Fin C φ H S (.set (ks.map kP)) Q) (hk : ∀ k ∈ ks, strK k) : ∀ p, H p = none → Q (.ref p) (upd H p (STO C.K p ks)) := fun p hp => by
  obtain ⟨np, e, s⟩ := hS.alloc (o := STO C.K p ks) hp
  exact f φ _ _ e s (.set np (.inl upd_same) rfl hk)
theorem VR.int {x : V} {i : Int} (h : VR C.K φ H x (.int i)) : x = .int i := by
  have h : Rep C.K φ H x (.int i) := h
  cases h; rfl
theorem VR.str {x : V} {i : Str} (h : VR C.K φ H x (.str i)) : x = .str i ∧ strOk i := by
  have h : Rep C.K φ H x (.str i) := h
  cases h with
  | str k => exact ⟨rfl, k⟩
theorem VR.bl {x : V} {i : Bool} (h : VR C.K φ H x (.bl i)) : x = .bl i := by
  have h : Rep C.K φ H x (.bl i) := h
  cases h; rfl
theorem VR.non {x : V} (h : VR C.K φ H x .non) : x = .non := by
  have h : Rep C.K φ H x .non := h
  cases h; rfl
/-- a tuple of the abstract heap stays what it is: it may be handed on -/
theorem op_bin (hX : KX X C.K) (op : Bop) : OpR X (binaryOp (bopOf op)) (rBin C op) := by
  have hK := hX.k
  intro pins s σ H x y v u Q I rx ry h
  obtain ⟨φ, S, a, b, c, hS, hx, hy, he, f⟩ := h
  cases op <;> cases a <;> cases b <;> simp only [binop, reduceCtorEq] at he <;> try (cases he; done)
  -- add: ints
  · cases he
    exact op_add pins s σ H x y v u Q I rx ry ⟨_, _, hx.int, hy.int, f.now hS (.int _)⟩
  -- texts
  · split at he <;> cases he
    rename_i hl
    exact op_add_str pins s σ H x y v u Q I rx ry ⟨_, _, hx.str.1, hy.str.1, by rw [line_eq]; exact hl, f.now hS (.str (strOk_append hx.str.2 hy.str.2))⟩
  -- lists
  · split at he <;> cases he
    rename_i hl
    obtain ⟨p, xs, rfl, hp, hr⟩ := hx
    obtain ⟨q, ys, rfl, hq, hr2⟩ := hy
    exact op_catR pins s σ H _ _ v u Q I rx ry ⟨p, q, xs, ys, rfl, rfl, hp, hq, by rw [line_eq, hr.length, hr2.length]; exact hl, f.newL hS (hr.append hr2)⟩
  -- tuples
  · split at he <;> cases he
    rename_i vs ws hl
    obtain ⟨p, xs, rfl, hp, hr⟩ := hx
    obtain ⟨q, ys, rfl, hq, hr2⟩ := hy
    have hp' := hp.sq
    have hq' := hq.sq
    rw [← hK] at hp' hq'
    refine op_catA pins s σ H _ _ v u Q I rx ry ⟨p, q, xs, ys, rfl, rfl, hp', hq', by rw [line_eq, hr.length, hr2.length]; exact hl, fun e => ?_, fun e e2 => ?_, fun e e2 => f.newT hS (hr.append hr2)⟩
    · subst e
      cases hr
      exact f.now hS (.tup hq hr2)
    · subst e2
      cases hr2
      rw [List.append_nil] at f
      exact f.now hS (.tup hp hr)
  -- sub
  · cases he
    exact op_sub pins s σ H x y v u Q I rx ry ⟨_, _, hx.int, hy.int, f.now hS (.int _)⟩
  -- mul
  · split at he <;> cases he
    rename_i hc
    refine op_mul pins s σ H x y v u Q I rx ry ⟨_, _, hx.int, hy.int, ?_, f.now hS (.int _)⟩
    unfold cmulB at hc
    simp only [Bool.or_eq_true, Bool.and_eq_true, decide_eq_true_eq] at hc
    exact hc
  · split at he <;> cases he
    rename_i hc
    obtain ⟨h1, h2, h3, h4⟩ := hc
    obtain ⟨p, xs, rfl, hp, hr⟩ := hx
    have hp := hp.sq
    rw [← hK] at hp
    refine op_repT pins s σ H _ y v u Q I rx ry ⟨p, _, xs, rfl, hy.int, hp, ?_, h2, h3, by rw [hr.length]; exact h4, f.newT hS (hr.rep _)⟩
    intro e
    subst e
    cases hr
    exact h1 rfl
  -- fdiv
  · split at he <;> cases he
    rename_i hc
    exact op_fdivN pins s σ H x y v u Q I rx ry ⟨_, _, hx.int, hy.int, hc, f.now hS (.int _)⟩
  · split at he <;> cases he
    rename_i hc
    exact op_modN pins s σ H x y v u Q I rx ry ⟨_, _, hx.int, hy.int, hc, f.now hS (.int _)⟩
  · split at he <;> cases he
    rename_i hc
    exact op_pow pins s σ H x y v u Q I rx ry ⟨_, _, hx.int, hy.int, hc, f.now hS (.int _)⟩
  -- sets
  · split at he <;> cases he
    rename_i hc
    have hx : Rep C.K φ H x (.set _) := hx
    have hy : Rep C.K φ H y (.set _) := hy
    cases hx with
    | set n1 e1 q1 k1 =>
      cases hy with
      | set n2 e2 q2 k2 =>
        subst q1 q2
        cases rx
        cases ry
        rw [dedP_kP] at f
        refine or_sets I hX e1 e2 (by simpa using hc) (f.newS hS (strK_addAll k1 k2))
end
end Ip

set_option Elab.async false
set_option linter.all false
set_option maxRecDepth 100000
set_option maxHeartbeats 2000000
/-! Ip, part 3b: dicts. -/
namespace Ip
open PySem L2 PySem.Spec PyProof.Rows

/-! ### keys -/
mutual
theorem eqP_nk : ∀ (a b : PV) (x y : NestedKey), nk a = some x → nk b = some y → eqP a b = NestedKey.beq x y
  | .non, b, x, y, h, k => by
    cases h
    cases b <;> simp [nk] at k <;> first | (subst k; simp [eqP, NestedKey.beq]) | (obtain ⟨_, _, rfl⟩ := k; simp [eqP, NestedKey.beq])
  | .bl p, b, x, y, h, k => by
    cases h
    cases b <;> simp [nk] at k <;> first | (subst k; cases p <;> simp [eqP, NestedKey.beq] <;> (try rename_i q; cases q <;> simp) <;> rfl) | (obtain ⟨_, _, rfl⟩ := k; cases p <;> simp [eqP, NestedKey.beq])
  | .int i, b, x, y, h, k => by
    cases h
    cases b <;> simp [nk] at k <;> first | (subst k; simp [eqP, NestedKey.beq] <;> rfl) | (obtain ⟨_, _, rfl⟩ := k; simp [eqP, NestedKey.beq])
  | .str z, b, x, y, h, k => by
    cases h
    cases b <;> simp [nk] at k <;> first | (subst k; simp [eqP, NestedKey.beq] <;> rfl) | (obtain ⟨_, _, rfl⟩ := k; simp [eqP, NestedKey.beq])
  | .tup xs, b, x, y, h, k => by
    simp only [nk, Option.map_eq_some_iff] at h
    obtain ⟨as, h, rfl⟩ := h
    cases b <;> simp [nk] at k <;> first | (subst k; simp [eqP, NestedKey.beq]; done) | skip
    obtain ⟨bs, k, rfl⟩ := k
    simp only [eqP, NestedKey.beq]
    exact eqPs_nks xs _ as bs h k
  | .lst _, _, _, _, h, _ => by simp [nk] at h
  | .dct _ _ _, _, _, _, h, _ => by simp [nk] at h
  | .set _, _, _, _, h, _ => by simp [nk] at h
theorem eqPs_nks : ∀ (a b : List PV) (x y : List NestedKey), nks a = some x → nks b = some y → eqPs a b = NestedKey.beqAll x y
  | [], b, x, y, h, k => by
    cases h
    cases b with
    | nil => cases k; rfl
    | cons c b =>
      simp only [nks] at k
      split at k
      · cases k; rfl
      · cases k
  | c :: a, b, x, y, h, k => by
    simp only [nks] at h
    split at h
    · rename_i u us h1 h2
      cases h
      cases b with
      | nil => cases k; rfl
      | cons d b =>
        simp only [nks] at k
        split at k
        · rename_i w ws k1 k2
          cases k
          simp only [eqPs, NestedKey.beqAll]
          rw [eqP_nk c d u w h1 k1, eqPs_nks a b us ws h2 k2]
        · cases k
    · cases h
end
theorem beq_dec (x y : NestedKey) : NestedKey.beq x y = decide (x = y) := NestedKey.decide_eq x y |>.symm
theorem nks_len : ∀ {ks : List PV} {xs : List NestedKey}, nks ks = some xs → ks.length = xs.length
  | [], xs, h => by cases h; rfl
  | k :: ks, xs, h => by
    simp only [nks] at h
    split at h
    · rename_i a as h1 h2
      cases h
      simp [nks_len h2]
    · cases h

section
variable {X : Cx} {K : FK} {φ : Ph} {H : Hp} {pins : List (Addr × Obj)} {σ : L2.St} {s : Shared}
mutual
theorem Rep.nest (I : Inv X pins σ H s) (hK : X.K = K.K) : ∀ (v : PV) (x : V) (u : Value) (k : NestedKey), Rep K φ H x v → RelV x u → nk v = some k → NestedIs s.heap k u
  | .non, x, u, k, h, r, e => by cases h; cases e; cases (show u = _ from r); exact .none
  | .bl b, x, u, k, h, r, e => by cases h; cases e; cases (show u = _ from r); exact .bool rfl
  | .int b, x, u, k, h, r, e => by cases h; cases e; obtain ⟨t, rfl⟩ := r; exact .int _ t
  | .str b, x, u, k, h, r, e => by cases h; cases e; obtain ⟨t, rfl⟩ := r; exact .text _ t
  | .tup xs, x, u, k, h, r, e => by
    simp only [nk, Option.map_eq_some_iff] at e
    obtain ⟨as, e, rfl⟩ := e
    cases h with
    | tup p rr =>
      cases (show u = _ from r)
      have p' := p.sq
      rw [← hK] at p'
      obtain ⟨its, rv, ⟨o, h1, h2, n, h3⟩, _⟩ := I.tuple p'
      exact .tup h1 h2 h3 (by simpa using Reps.nest I hK xs _ its as rr rv e)
  | .lst _, _, _, _, _, _, e => by simp [nk] at e
  | .dct _ _ _, _, _, _, _, _, e => by simp [nk] at e
  | .set _, _, _, _, _, _, e => by simp [nk] at e
theorem Reps.nest (I : Inv X pins σ H s) (hK : X.K = K.K) : ∀ (vs : List PV) (xs : List V) (us : List Value) (ks : List NestedKey), Reps K φ H xs vs → Vals xs us → nks vs = some ks → NestedAll s.heap ks us
  | [], xs, us, ks, h, r, e => by cases h; cases e; cases r; exact .nil
  | v :: vs, xs, us, ks, h, r, e => by
    simp only [nks] at e
    split at e
    · rename_i a as h1 h2
      cases e
      cases h with
      | cons p q =>
        cases r with
        | cons r1 r2 => exact .cons (Rep.nest I hK v _ _ _ p r1 h1) (Reps.nest I hK vs _ _ _ q r2 h2)
    · cases e
end
theorem VR.key {n : Bool} {v : PV} {x : V} (hk : keyB n v = true) (h : VR K φ H x v) : Rep K φ H x v := by
  cases v with
  | lst _ => cases n <;> simp [keyB] at hk
  | dct _ _ _ => cases n <;> simp [keyB] at hk
  | tup vs => obtain ⟨a, xs, rfl, p, r⟩ := h; exact .tup p r
  | _ => exact h
/-- the value of a leaf key -/
theorem keyL {v : PV} {x : V} (hk : keyB false v = true) (h : Rep K φ H x v) : ∃ k : Key, v = kP k ∧ x = kV k ∧ strK k := by
  cases v <;> simp [keyB] at hk
  · cases h; exact ⟨.inl _, rfl, rfl, trivial⟩
  · cases h with
    | str k => exact ⟨.inr _, rfl, rfl, k⟩
theorem keyN {v : PV} (hk : keyB true v = true) : ∃ k, nk v = some k ∧ k.depth ≤ 8 ∧ ∃ xs, v = .tup xs := by
  cases v <;> simp [keyB] at hk
  rename_i xs
  split at hk
  · rename_i k hk2
    exact ⟨k, hk2, by simpa using hk, _, rfl⟩
  · cases hk
/-- what stands at a leaf key -/
theorem find_l (k : Key) : ∀ (kvs : List (Key × V)) (vs : List PV), Reps K φ H (kvs.map (·.2)) vs → (findD (kP k) (kvs.map fun p => kP p.1) vs = none ∧ valV kvs k = none) ∨ ∃ v x, findD (kP k) (kvs.map fun p => kP p.1) vs = some v ∧ valV kvs k = some x ∧ Rep K φ H x v
  | [], vs, h => .inl ⟨by cases vs <;> rfl, rfl⟩
  | (k', y) :: kvs, vs, h => by
    cases h with
    | cons p q =>
      rename_i v vs
      simp only [List.map_cons, findD]
      rw [eqP_kP]
      by_cases e : k' = k
      · rw [decide_eq_true e, if_pos rfl, valV_pos (p := (k', y)) e]
        exact .inr ⟨v, y, rfl, rfl, p⟩
      · rw [decide_eq_false e, if_neg (by decide), valV_neg (p := (k', y)) e]
        exact find_l k kvs vs q
abbrev NPr (kvs : List (NestedKey × Addr × V)) (xs : List (NestedKey × Addr × Value)) : Prop := Paired (fun (p : NestedKey × Addr × V) (q : NestedKey × Addr × Value) => p.1 = q.1 ∧ p.2.1 = q.2.1 ∧ RelV p.2.2 q.2.2) kvs xs
/-- what stands at a key that is a tuple -/
theorem find_n {key : PV} {k : NestedKey} (hk : nk key = some k) : ∀ (kvs : List (NestedKey × Addr × V)) (xs : List (NestedKey × Addr × Value)) (ks vs : List PV), NPr kvs xs → nks ks = some (kvs.map (·.1)) → Reps K φ H (kvs.map (·.2.2)) vs →
    (findD key ks vs = none ∧ atKey xs k = none) ∨ ∃ v x p, findD key ks vs = some v ∧ atKey xs k = some p ∧ RelV x p.2 ∧ Rep K φ H x v
  | [], xs, ks, vs, h, e, r => by
    cases h
    exact .inl ⟨by cases ks <;> first | rfl | (have := nks_len e; simp at this), rfl⟩
  | (k', b, y) :: kvs, xs, ks, vs, h, e, r => by
    cases h with
    | cons h1 h2 =>
      rename_i q xs
      obtain ⟨q1, q2, q3⟩ := q
      obtain ⟨rfl, rfl, rv⟩ := h1
      cases ks with
      | nil => have := nks_len e; simp at this
      | cons key' ks =>
        cases r with
        | cons p1 p2 =>
          rename_i v vs
          simp only [nks] at e
          split at e
          · rename_i a as e1 e2
            simp only [Option.some.injEq, List.map_cons, List.cons.injEq] at e
            obtain ⟨rfl, rfl⟩ := e
            simp only [findD]
            rw [eqP_nk key' key _ _ e1 hk, beq_dec]
            by_cases z : a = k
            · refine .inr ⟨v, y, (b, q3), by simp [z], by simp [atKey, z], rv, p1⟩
            · have ih := find_n hk kvs xs ks vs h2 e2 p2
              simpa [z, atKey] using ih
          · cases e
/-- a dict whose keys are tuples, as the library has it -/
theorem ndo_raw (I : Inv X pins σ H s) (hX : KX X K) {a : Addr} {kvs : List (NestedKey × Addr × V)} {es : Array DictEntry} {ep : Nat} {ks : List PV} (e : L2.Rd H a (NDO K a kvs es ep)) (ky : KyN ks kvs) (rk : Reps K φ H (kvs.map fun p => V.ref p.2.1) ks) :
    kvs.length ≤ sizeLine ∧ (a == sysModules) = false ∧ ∃ xs, NPr kvs xs ∧ s.heap.DictOfH (nestedKind X.prog X.w) a xs := by
  obtain ⟨⟨z, hd, xs, pr, ⟨o, h1, h2, h3⟩, h4, h5⟩, -⟩ := e.ok I.hok
  refine ⟨z, hd, xs, pr, o, es, ep, h1, h2, h3, by rw [hX.p, hX.w]; exact h4, ?_, h5⟩
  obtain ⟨kn, kd⟩ := ky
  clear h4 h5 z e
  induction pr generalizing ks with
  | nil => intro x hx; cases hx
  | @cons p q kvs xs h1 h2 ih =>
    obtain ⟨p1, p2, p3⟩ := p
    obtain ⟨q1, q2, q3⟩ := q
    obtain ⟨rfl, rfl, rv⟩ := h1
    cases ks with
    | nil => have := nks_len kn; simp at this
    | cons key ks =>
      cases rk with
      | cons r1 r2 =>
        simp only [nks] at kn
        split at kn
        · rename_i a' as e1 e2
          simp only [Option.some.injEq, List.map_cons, List.cons.injEq] at kn
          obtain ⟨rfl, rfl⟩ := kn
          intro x hx
          rcases List.mem_cons.mp hx with rfl | hx
          · exact ⟨Rep.nest I hX.k key _ _ _ r1 rfl e1, kd _ List.mem_cons_self⟩
          · exact ih r2 e2 (fun p hp => kd p (List.mem_cons_of_mem _ hp)) x hx
        · cases kn
/-- a dict whose keys are ints and texts, as the library has it -/
theorem ldo_raw (I : Inv X pins σ H s) (hX : KX X K) {a : Addr} {kvs : List (Key × V)} {es : Array DictEntry} {ep : Nat} (e : L2.Rd H a (LDO K a kvs es ep)) :
    kvs.length ≤ sizeLine ∧ (a == sysModules) = false ∧ ∃ us, KV kvs us ∧ s.heap.DictOf (mixKind X.prog X.w) a us := by
  obtain ⟨⟨z, hd, _, us, kv, dd⟩, -⟩ := e.ok I.hok
  exact ⟨z, hd, us, kv, by rw [hX.p, hX.w]; exact dd⟩
/-! ### operations -/
theorem room_n (hu : X.A.units + 65 < cLine) : (nestedKind X.prog X.w).room X.A.in1 := by
  show X.A.in1.units + 8 < cLine
  rw [Around.in1_units]
  omega
section
variable {n : Bool} {ks vs : List PV} {key : PV} {x y : V} {u uk : Value} {Q : VK}
theorem dct_in (hu : X.A.units + 65 < cLine) (I : Inv X pins σ H s) (hX : KX X K) (rx : RelV x u) (ry : RelV y uk) (hx : VR K φ H x (.dct n ks vs)) (hy : VR K φ H y key) (hk : keyB n key = true) :
    (Q (.bl (findD key ks vs).isSome) H → wpAny (model X.prog X.w) X.A (compareOp .In uk u) (EP X pins σ Q) X.xe s) ∧ (Q (.bl (!(findD key ks vs).isSome)) H → wpAny (model X.prog X.w) X.A (compareOp .NotIn uk u) (EP X pins σ Q) X.xe s) := by
  have hy := hy.key hk
  cases n with
  | false =>
    obtain ⟨a, kvs, es, ep, rfl, e, ⟨rfl, _⟩, r⟩ := hx
    cases (show u = _ from rx)
    obtain ⟨k, rfl, rfl, _⟩ := keyL hk hy
    obtain ⟨z, hd, us, rel, dd⟩ := ldo_raw I hX e
    have f : (findD (kP k) (kvs.map fun p => kP p.1) vs).isSome = (valV kvs k).isSome := by
      rcases find_l k kvs vs r with ⟨h1, h2⟩ | ⟨v, x, h1, h2, _⟩ <;> simp [h1, h2]
    rw [f]
    rw [(rel.val k).isSome_eq]
    exact ⟨fun q => wpAny_in_of (kV_is ry) hd dd.mapOf ⟨.bl _, H, I.tok _, rfl, q⟩, fun q => wpAny_notIn_of (kV_is ry) hd dd.mapOf ⟨.bl _, H, I.tok _, rfl, q⟩⟩
  | true =>
    obtain ⟨a, kvs, es, ep, rfl, e, ky, rk, r⟩ := hx
    cases (show u = _ from rx)
    obtain ⟨k, k1, k2, zs, rfl⟩ := keyN hk
    obtain ⟨z, hd, xs, pr, dd⟩ := ndo_raw I hX e ky rk
    have nk := Rep.nest I hX.k _ _ _ _ hy ry k1
    cases hy with
    | tup p rr =>
      cases (show uk = _ from ry)
      have f : (findD (.tup zs) ks vs).isSome = (atKey xs k).isSome := by
        rcases find_n k1 kvs xs ks vs pr ky.1 r with ⟨h1, h2⟩ | ⟨v, x, p, h1, h2, _⟩ <;> simp [h1, h2]
      rw [f]
      exact ⟨fun q => wpAny_in_heap (room_n hu) ⟨nk, k2⟩ hd dd ⟨.bl _, H, I.tok _, rfl, q⟩, fun q => wpAny_notIn_heap (room_n hu) ⟨nk, k2⟩ hd dd ⟨.bl _, H, I.tok _, rfl, q⟩⟩
theorem dct_typeIs (I : Inv X pins σ H s) (hX : KX X K) (rx : RelV x u) (hx : VR K φ H x (.dct n ks vs)) : ∃ a, u = .ref a ∧ x = .ref a ∧ s.TypeIs (.ref a) "dict" ∧ (∃ ob, s.heap.get? a = some ob ∧ ob.dict = none) ∧ (a == sysModules) = false := by
  cases n with
  | false =>
    obtain ⟨a, kvs, es, ep, rfl, e, _, r⟩ := hx
    cases (show u = _ from rx)
    obtain ⟨_, hd, vs, _, dd⟩ := ldo_raw I hX e
    obtain ⟨ob, h1, h2, h3, h4, _⟩ := id dd
    exact ⟨a, rfl, rfl, dd.typeIs, ⟨ob, h3, h4.2.1⟩, hd⟩
  | true =>
    obtain ⟨a, kvs, es, ep, rfl, e, ky, rk, r⟩ := hx
    cases (show u = _ from rx)
    obtain ⟨z, hd, xs, pr, dd⟩ := ndo_raw I hX e ky rk
    obtain ⟨ob, h1, h2, h3, h4, _⟩ := id dd
    exact ⟨a, rfl, rfl, dd.typeIs, ⟨ob, h3, h4.2.1⟩, hd⟩
theorem dct_getItem {v : PV} (hu : X.A.units + 65 < cLine) (I : Inv X pins σ H s) (hX : KX X K) (rx : RelV x u) (ry : RelV y uk) (hx : VR K φ H x (.dct n ks vs)) (hy : VR K φ H y key) (hk : keyB n key = true) (hv : findD key ks vs = some v) {P : Value → Shared → Prop}
    (q : ∀ z w' s', Inv X pins σ H s' → Rep K φ H z v → RelV z w' → P w' s') : wpAny (model X.prog X.w) X.A (getItem u uk) P X.xe s := by
  have hy := hy.key hk
  cases n with
  | false =>
    obtain ⟨a, kvs, es, ep, rfl, e, ⟨rfl, _⟩, r⟩ := hx
    cases (show u = _ from rx)
    obtain ⟨k, rfl, rfl, _⟩ := keyL hk hy
    obtain ⟨z, hd, us, rel, dd⟩ := ldo_raw I hX e
    rcases find_l k kvs vs r with ⟨h1, h2⟩ | ⟨v', x, h1, h2, h3⟩
    · rw [h1] at hv; cases hv
    · rw [h1] at hv
      cases hv
      obtain ⟨w', hw, rw'⟩ := RelO.some_of (v := x) (o := valueAt us k) (by rw [← h2]; exact rel.val k)
      exact wpAny_getItem_of (kV_is ry) dd.mapOf hw (q x w' _ (I.tok _) h3 rw')
  | true =>
    obtain ⟨a, kvs, es, ep, rfl, e, ky, rk, r⟩ := hx
    cases (show u = _ from rx)
    obtain ⟨k, k1, k2, zs, rfl⟩ := keyN hk
    obtain ⟨z, hd, xs, pr, dd⟩ := ndo_raw I hX e ky rk
    have nk := Rep.nest I hX.k _ _ _ _ hy ry k1
    cases hy with
    | tup p rr =>
      cases (show uk = _ from ry)
      rcases find_n k1 kvs xs ks vs pr ky.1 r with ⟨h1, h2⟩ | ⟨v', x, p, h1, h2, h3, h4⟩
      · rw [h1] at hv; cases hv
      · rw [h1] at hv
        cases hv
        exact wpAny_getItem_heap (room_n hu) ⟨nk, k2⟩ dd h2 (q x _ _ (I.tok _) h4 h3)
/-- d.get(k), d.get(k, d) -/
theorem dct_get2 {dv : PV} {d : V} {ud : Value} (hu : X.A.units + 65 < cLine) (I : Inv X pins σ H s) (hX : KX X K) (rx : RelV x u) (ry : RelV y uk) (rd : RelV d ud) (hx : VR K φ H x (.dct n ks vs)) (hy : VR K φ H y key) (hd : Rep K φ H d dv) (hk : keyB n key = true)
    (q : ∀ z, Rep K φ H z ((findD key ks vs).getD dv) → Q z H) : wpAny (model X.prog X.w) X.A (PySem.call (.builtin "dict.get") [u, uk, ud]) (EP X pins σ Q) X.xe s := by
  have hy := hy.key hk
  cases n with
  | false =>
    obtain ⟨a, kvs, es, ep, rfl, e, ⟨rfl, _⟩, r⟩ := hx
    cases (show u = _ from rx)
    obtain ⟨k, rfl, rfl, _⟩ := keyL hk hy
    obtain ⟨z, hm, us, rel, dd⟩ := ldo_raw I hX e
    refine call_meetsIn PySem.F.slot_dict_get dd.typeIs PySem.F.entry_dict_get (PySem.F.args_dict_get_3 _ _ _) (meets_dict_get_default (mixKind X.prog X.w) a (kV_is ry) hm ud) ⟨_, dd.mapOf, (valV kvs k).getD d, H, I.tok _, (rel.val k).getD rd, q _ ?_⟩
    rcases find_l k kvs vs r with ⟨h1, h2⟩ | ⟨v', x, h1, h2, h3⟩ <;> rw [h1, h2]
    · exact hd
    · exact h3
  | true =>
    obtain ⟨a, kvs, es, ep, rfl, e, ky, rk, r⟩ := hx
    cases (show u = _ from rx)
    obtain ⟨k, k1, k2, zs, rfl⟩ := keyN hk
    obtain ⟨z, hm, xs, pr, dd⟩ := ndo_raw I hX e ky rk
    have nk := Rep.nest I hX.k _ _ _ _ hy ry k1
    cases hy with
    | tup p rr =>
      cases (show uk = _ from ry)
      rcases find_n k1 kvs xs ks vs pr ky.1 r with ⟨h1, h2⟩ | ⟨v', x, p, h1, h2, h3, h4⟩
      · refine call_meetsIn PySem.F.slot_dict_get dd.typeIs PySem.F.entry_dict_get (PySem.F.args_dict_get_3 _ _ _) (meetsH_dict_get_default (nestedKind X.prog X.w) a _ hm ud) ⟨room_n hu, k, xs, ⟨nk, k2⟩, dd, ?_⟩
        rw [h2]
        exact ⟨d, H, I.tok _, rd, q _ (by rw [h1]; exact hd)⟩
      · refine call_meetsIn PySem.F.slot_dict_get dd.typeIs PySem.F.entry_dict_get (PySem.F.args_dict_get_3 _ _ _) (meetsH_dict_get_default (nestedKind X.prog X.w) a _ hm ud) ⟨room_n hu, k, xs, ⟨nk, k2⟩, dd, ?_⟩
        rw [h2]
        exact ⟨x, H, I.tok _, h3, q _ (by rw [h1]; exact h4)⟩
theorem dct_get1 (hu : X.A.units + 65 < cLine) (I : Inv X pins σ H s) (hX : KX X K) (rx : RelV x u) (ry : RelV y uk) (hx : VR K φ H x (.dct n ks vs)) (hy : VR K φ H y key) (hk : keyB n key = true)
    (q : ∀ z, Rep K φ H z ((findD key ks vs).getD .non) → Q z H) : wpAny (model X.prog X.w) X.A (PySem.call (.builtin "dict.get") [u, uk]) (EP X pins σ Q) X.xe s := by
  have hy := hy.key hk
  cases n with
  | false =>
    obtain ⟨a, kvs, es, ep, rfl, e, ⟨rfl, _⟩, r⟩ := hx
    cases (show u = _ from rx)
    obtain ⟨k, rfl, rfl, _⟩ := keyL hk hy
    obtain ⟨z, hm, us, rel, dd⟩ := ldo_raw I hX e
    refine call_meetsIn PySem.F.slot_dict_get dd.typeIs PySem.F.entry_dict_get (PySem.F.args_dict_get_2 _ _) (meets_dict_get (mixKind X.prog X.w) a (kV_is ry) hm) ⟨_, dd.mapOf, (valV kvs k).getD .non, H, I.tok _, (rel.val k).getD rfl, q _ ?_⟩
    rcases find_l k kvs vs r with ⟨h1, h2⟩ | ⟨v', x, h1, h2, h3⟩ <;> rw [h1, h2]
    · exact .non
    · exact h3
  | true =>
    obtain ⟨a, kvs, es, ep, rfl, e, ky, rk, r⟩ := hx
    cases (show u = _ from rx)
    obtain ⟨k, k1, k2, zs, rfl⟩ := keyN hk
    obtain ⟨z, hm, xs, pr, dd⟩ := ndo_raw I hX e ky rk
    have nk := Rep.nest I hX.k _ _ _ _ hy ry k1
    cases hy with
    | tup p rr =>
      cases (show uk = _ from ry)
      rcases find_n k1 kvs xs ks vs pr ky.1 r with ⟨h1, h2⟩ | ⟨v', x, p, h1, h2, h3, h4⟩
      · refine call_meetsIn PySem.F.slot_dict_get dd.typeIs PySem.F.entry_dict_get (PySem.F.args_dict_get_2 _ _) (meetsH_dict_get (nestedKind X.prog X.w) a _ hm) ⟨room_n hu, k, xs, ⟨nk, k2⟩, dd, ?_⟩
        rw [h2]
        exact ⟨.non, H, I.tok _, rfl, q _ (by rw [h1]; exact .non)⟩
      · refine call_meetsIn PySem.F.slot_dict_get dd.typeIs PySem.F.entry_dict_get (PySem.F.args_dict_get_2 _ _) (meetsH_dict_get (nestedKind X.prog X.w) a _ hm) ⟨room_n hu, k, xs, ⟨nk, k2⟩, dd, ?_⟩
        rw [h2]
        exact ⟨x, H, I.tok _, h3, q _ (by rw [h1]; exact h4)⟩
end
/-! ### d[k] = v -/
theorem nodup_K {P : Program} {w : World} {h : Heap} {a : Addr} {kvs : List (Key × V)} {us : List (Key × Value)} (rel : KV kvs us) (dd : h.DictOf (mixKind P w) a us) : (kvs.map (·.1)).Nodup := by
  obtain ⟨_, _, _, _, _, _, _, -, nd⟩ := dd
  have e : kvs.map (·.1) = us.map (·.1) := by
    clear nd
    unfold KV at rel
    induction rel with
    | nil => rfl
    | cons h _ ih => rw [List.map_cons, List.map_cons, ih, h.1]
  rw [e]; exact nd
theorem putK_cons {k k' : Key} {x y : V} {kvs : List (Key × V)} (nd : (((k', x) :: kvs).map (·.1)).Nodup) : putK ((k', x) :: kvs) k y = if k' = k then (k', y) :: kvs else (k', x) :: putK kvs k y := by
  unfold putK
  by_cases e : k' = k
  · subst e
    rw [List.map_cons, List.nodup_cons] at nd
    have same : kvs.map (fun kv => if kv.1 = k' then (kv.1, y) else kv) = kvs := by
      conv => rhs; rw [← List.map_id kvs]
      refine List.map_congr_left fun p hp => ?_
      have : p.1 ≠ k' := fun z => nd.1 (List.mem_map.mpr ⟨p, hp, z⟩)
      simp [this]
    simp [same]
  · by_cases q : (kvs.any fun kv => decide (kv.1 = k)) = true
    · simp [e, q]
    · simp [e, q]
theorem put_l (k : Key) {v : PV} {y : V} (hy : Rep K φ H y v) : ∀ (kvs : List (Key × V)) (vs : List PV), (kvs.map (·.1)).Nodup → Reps K φ H (kvs.map (·.2)) vs →
    (putK kvs k y).map (fun p => kP p.1) = putKs (kP k) (kvs.map fun p => kP p.1) ∧ Reps K φ H ((putK kvs k y).map (·.2)) (putV (kP k) v (kvs.map fun p => kP p.1) vs)
  | [], vs, nd, h => by
    cases h
    exact ⟨rfl, .cons hy .nil⟩
  | (k', x) :: kvs, vs, nd, h => by
    cases h with
    | cons p q =>
      rename_i v' vs
      rw [putK_cons nd]
      simp only [List.map_cons, putKs, putV]
      rw [eqP_kP]
      by_cases e : k' = k
      · rw [decide_eq_true e, if_pos rfl, if_pos rfl, if_pos e]
        exact ⟨rfl, .cons hy q⟩
      · rw [decide_eq_false e]
        simp only [Bool.false_eq_true, if_false, e]
        obtain ⟨i1, i2⟩ := put_l k hy kvs vs (by rw [List.map_cons, List.nodup_cons] at nd; exact nd.2) q
        exact ⟨by rw [List.map_cons, i1], .cons p i2⟩
def putN (k : NestedKey) (b : Addr) (y : V) : List (NestedKey × Addr × V) → List (NestedKey × Addr × V)
  | [] => [(k, b, y)]
  | p :: r => if p.1 = k then (p.1, p.2.1, y) :: r else p :: putN k b y r
theorem putN_len (k : NestedKey) (b : Addr) (y : V) : ∀ l, (putN k b y l).length ≤ l.length + 1
  | [] => Nat.le_refl _
  | p :: r => by
    unfold putN
    split
    · simp
    · have := putN_len k b y r
      simp only [List.length_cons]; omega
theorem storedH_cons {k : NestedKey} {b : Addr} {u : Value} {q : NestedKey × Addr × Value} {xs : List (NestedKey × Addr × Value)} (nd : ((q :: xs).map (·.1)).Nodup) : storedH (q :: xs) k b u = if q.1 = k then (q.1, q.2.1, u) :: xs else q :: storedH xs k b u := by
  unfold storedH
  by_cases e : q.1 = k
  · rw [List.map_cons, List.nodup_cons] at nd
    have same : xs.map (putAt k u) = xs := by
      conv => rhs; rw [← List.map_id xs]
      refine List.map_congr_left fun p hp => ?_
      have : p.1 ≠ k := fun z => nd.1 (List.mem_map.mpr ⟨p, hp, z.trans e.symm⟩)
      simp [putAt, this]
    have h1 : (atKey (q :: xs) k).isSome = true := by simp [atKey, e]
    rw [if_pos h1, if_pos e, List.map_cons, same]
    simp [putAt, e]
  · have h1 : (atKey (q :: xs) k).isSome = (atKey xs k).isSome := by simp [atKey, e]
    rw [h1, if_neg e]
    by_cases z : (atKey xs k).isSome = true
    · rw [if_pos z, if_pos z, List.map_cons]
      simp [putAt, e]
    · rw [if_neg z, if_neg z, List.cons_append]
theorem putN_pr {k : NestedKey} {b : Addr} {y : V} {u : Value} (r : RelV y u) : ∀ (kvs : List (NestedKey × Addr × V)) (xs : List (NestedKey × Addr × Value)), (xs.map (·.1)).Nodup → NPr kvs xs → NPr (putN k b y kvs) (storedH xs k b u)
  | [], xs, nd, h => by
    cases h
    exact .cons ⟨rfl, rfl, r⟩ .nil
  | p :: kvs, xs, nd, h => by
    cases h with
    | cons h1 h2 =>
      rename_i q xs
      rw [storedH_cons nd]
      unfold putN
      by_cases e : p.1 = k
      · rw [if_pos e, if_pos (h1.1.symm.trans e)]
        exact .cons ⟨h1.1, h1.2.1, r⟩ h2
      · rw [if_neg e, if_neg (fun z => e (h1.1.trans z))]
        exact .cons h1 (putN_pr r kvs xs (by rw [List.map_cons, List.nodup_cons] at nd; exact nd.2) h2)
theorem put_n {key : PV} {k : NestedKey} {b : Addr} {v : PV} {y : V} (hk : nk key = some k) (hb : Rep K φ H (.ref b) key) (hy : Rep K φ H y v) : ∀ (kvs : List (NestedKey × Addr × V)) (ks vs : List PV), nks ks = some (kvs.map (·.1)) → Reps K φ H (kvs.map fun p => V.ref p.2.1) ks → Reps K φ H (kvs.map (·.2.2)) vs →
    nks (putKs key ks) = some ((putN k b y kvs).map (·.1)) ∧ Reps K φ H ((putN k b y kvs).map fun p => V.ref p.2.1) (putKs key ks) ∧ Reps K φ H ((putN k b y kvs).map (·.2.2)) (putV key v ks vs)
  | [], ks, vs, e, r, r2 => by
    cases r
    cases r2
    exact ⟨by simp [putKs, putN, nks, hk], .cons hb .nil, .cons hy .nil⟩
  | (k', b', y') :: kvs, ks, vs, e, r, r2 => by
    cases r with
    | cons p1 p2 =>
      rename_i key' ks
      cases r2 with
      | cons q1 q2 =>
        rename_i v' vs
        simp only [nks] at e
        split at e
        · rename_i a as e1 e2
          simp only [Option.some.injEq, List.map_cons, List.cons.injEq] at e
          obtain ⟨rfl, rfl⟩ := e
          simp only [putKs, putV, putN]
          rw [eqP_nk key' key _ _ e1 hk, beq_dec]
          by_cases z : a = k
          · rw [decide_eq_true z, if_pos rfl, if_pos rfl, if_pos z]
            exact ⟨by simp [nks, e1, e2], .cons p1 p2, .cons hy q2⟩
          · rw [decide_eq_false z]
            simp only [Bool.false_eq_true, if_false, z]
            obtain ⟨i1, i2, i3⟩ := put_n hk hb hy kvs ks vs e2 p2 q2
            exact ⟨by simp [nks, e1, i1], .cons p1 i2, .cons q1 i3⟩
        · cases e
theorem putN_dep {k : NestedKey} {b : Addr} {y : V} (hk : k.depth ≤ 8) : ∀ kvs : List (NestedKey × Addr × V), (∀ p ∈ kvs, p.1.depth ≤ 8) → ∀ p ∈ putN k b y kvs, p.1.depth ≤ 8
  | [], h, p, m => by
    rcases List.mem_cons.mp m with rfl | m
    · exact hk
    · cases m
  | q :: r, h, p, m => by
    unfold putN at m
    split at m
    · rcases List.mem_cons.mp m with rfl | m
      · exact h q List.mem_cons_self
      · exact h p (List.mem_cons_of_mem _ m)
    · rcases List.mem_cons.mp m with rfl | m
      · exact h _ List.mem_cons_self
      · exact putN_dep hk r (fun p hp => h p (List.mem_cons_of_mem _ hp)) p m
theorem putK_str {k : Key} {y : V} (hk : strK k) (kvs : List (Key × V)) (h : ∀ p ∈ kvs, strK p.1) : ∀ p ∈ putK kvs k y, strK p.1 := fun p m => by
  unfold putK at m
  split at m
  · obtain ⟨q, hq, rfl⟩ := List.mem_map.mp m
    split
    · exact h q hq
    · exact h q hq
  · rcases List.mem_append.mp m with m | m
    · exact h p m
    · have e : p = (k, y) := by simpa using m
      subst e
      exact hk
theorem ndo_new {H' : Hp} {h' : Heap} {a : Addr} {kvs : List (NestedKey × Addr × V)} {xs : List (NestedKey × Addr × Value)} (hX : KX X K) (hl : kvs.length ≤ sizeLine) (hd : (a == sysModules) = false) (pr : NPr kvs xs) (dd : h'.DictOfH (nestedKind X.prog X.w) a xs) : ∃ es ep, ObjOk X.prog X.w H' h' a (NDO K a kvs es ep) := by
  obtain ⟨o, es, ep, h1, h2, h3, h4, h5, h6⟩ := dd
  refine ⟨es, ep, ⟨hl, hd, xs, pr, ⟨o, h1, h2, h3⟩, by rw [← hX.p, ← hX.w]; exact h4, h6⟩, ⟨o, h1⟩, fun g1 g2 z k => ?_⟩
  obtain ⟨z1, z2, xs, pr, ⟨o, z3, z5⟩, z4⟩ := z
  exact ⟨z1, z2, xs, pr, ⟨o, k _ z3, z5⟩, z4⟩
theorem ldo_new {H' : Hp} {h' : Heap} {a : Addr} {kvs : List (Key × V)} {us : List (Key × Value)} (hX : KX X K) (hl : kvs.length ≤ sizeLine) (hd : (a == sysModules) = false) (rel : KV kvs us) (dd : h'.DictOf (mixKind X.prog X.w) a us) : ∃ es ep, ObjOk X.prog X.w H' h' a (LDO K a kvs es ep) := by
  obtain ⟨o, es, ep, h1, h2, h3, h4⟩ := id dd
  refine ⟨es, ep, ⟨hl, hd, ⟨o, h1, h2, h3⟩, us, rel, by rw [← hX.p, ← hX.w]; exact dd⟩, ⟨o, h1⟩, fun g1 g2 z k => ?_⟩
  obtain ⟨z1, z2, ⟨o, z3, z5⟩, us, rel, o', es', ep', z6, z7⟩ := z
  exact ⟨z1, z2, ⟨o, k _ z3, z5⟩, us, rel, o', es', ep', k _ z6, z7⟩
theorem upd_kpt {a : Addr} {o : HO} (h : φ.has a) : Kpt φ H φ (upd H a o) := fun b u q m => ⟨m, by rw [upd_ne (fun z : b = a => m (z ▸ h))]; exact q⟩
theorem dct_set {n : Bool} {ks vs : List PV} {key v : PV} {y z : V} {uk uv : Value} {a : Addr} (hu : X.A.units + 65 < cLine) (I : Inv X pins σ H s) (hX : KX X K) (hc : CellOk K φ H a (.dct n ks vs)) (ha : φ.has a) (ry : RelV y uk) (hy : Rep K φ H y key) (hk : keyB n key = true) (rz : RelV z uv) (hz : Rep K φ H z v) (hl : ks.length < Line) {P : Unit → Shared → Prop}
    (q : ∀ o s', Inv X pins σ (upd H a o) s' → CellOk K φ (upd H a o) a (.dct n (putKs key ks) (putV key v ks vs)) → P () s') : wpAny (model X.prog X.w) X.A (setItem (.ref a) uk uv) P X.xe s := by
  cases n with
  | false =>
    obtain ⟨kvs, es, ep, e, ⟨rfl, st⟩, r⟩ := hc
    obtain ⟨k, rfl, rfl, sk⟩ := keyL hk hy
    obtain ⟨z0, hm, us, rel, dd⟩ := ldo_raw I hX (.inl e)
    have nd := nodup_K rel dd
    rw [List.length_map] at hl
    obtain ⟨p1, p2⟩ := put_l k hz kvs vs nd r
    refine wpAny_setItem_pairs (hsz := by rw [← rel.length]; exact z0) (kV_is ry) dd fun h' dd' hs => ?_
    have he : ∃ q, h'.get? a = some q := let ⟨q, _, _, hq, _⟩ := dd'; ⟨q, hq⟩
    have hlen : (putK kvs k z).length ≤ sizeLine := by
      have := length_putK kvs k z
      rw [line_eq]; omega
    obtain ⟨es', ep', ok⟩ := ldo_new (H' := H) hX hlen hm (rel.put k rz) dd'
    refine q (LDO K a (putK kvs k z) es' ep') _ (d_write I (by rw [e]; exact True.intro) hs he ok) ⟨_, _, _, upd_same, ⟨p1.symm, putK_str sk kvs st⟩, Reps.keep (upd_kpt ha) _ _ p2⟩
  | true =>
    obtain ⟨kvs, es, ep, e, ky, rk, r⟩ := hc
    obtain ⟨k, k1, k2, zs, rfl⟩ := keyN hk
    obtain ⟨z0, hm, xs, pr, dd⟩ := ndo_raw I hX (.inl e) ky rk
    have nk := Rep.nest I hX.k _ _ _ _ hy ry k1
    have hlen := nks_len ky.1
    rw [List.length_map] at hlen
    have hxs : kvs.length = xs.length := Paired.length pr
    obtain ⟨b, rfl⟩ : ∃ b, y = .ref b := by cases hy; exact ⟨_, rfl⟩
    cases (show uk = _ from ry)
    obtain ⟨p1, p2, p3⟩ := put_n (b := b) k1 hy hz kvs ks vs ky.1 rk r
    refine wpAny_setItem_heap (hsz := by rw [← hxs]; exact z0) (room_n hu) ⟨nk, k2⟩ dd fun h' dd' hs => ?_
    have nd : (xs.map (·.1)).Nodup := by obtain ⟨_, _, _, _, _, _, _, _, nd⟩ := dd; exact nd
    have he : ∃ q, h'.get? a = some q := let ⟨q, _, _, hq, _⟩ := dd'; ⟨q, hq⟩
    have hl2 : (putN k b z kvs).length ≤ sizeLine := by
      have := putN_len k b z kvs
      rw [line_eq]
      omega
    obtain ⟨es', ep', ok⟩ := ndo_new (H' := H) hX hl2 hm (putN_pr rz kvs xs nd pr) dd'
    exact q (NDO K a (putN k b z kvs) es' ep') _ (d_write I (by rw [e]; exact True.intro) hs he ok) ⟨_, _, _, upd_same, ⟨p1, putN_dep k2 kvs ky.2⟩, Reps.keep (upd_kpt ha) _ _ p2, Reps.keep (upd_kpt ha) _ _ p3⟩
end
end Ip

set_option Elab.async false
set_option linter.all false
set_option maxRecDepth 100000
set_option maxHeartbeats 2000000
/-! Ip, part 3c: dicts as they are walked, made, counted. -/
namespace Ip
open PySem L2 PySem.Spec PyProof.Rows
section
variable {X : Cx} {K : FK} {φ : Ph} {H : Hp} {pins : List (Addr × Obj)} {σ : L2.St} {s : Shared}
def HasRaw (P : Program) (w : World) (o : HO) (a : Addr) (es : Array DictEntry) (ep : Nat) : Prop := ∀ H h, ObjOk P w H h a o → h.DictRaw a es ep
theorem has_l {P : Program} {w : World} {a : Addr} {kvs : List (Key × V)} {es : Array DictEntry} {ep : Nat} : HasRaw P w (LDO K a kvs es ep) a es ep := fun H h x => x.1.2.2.1
theorem has_n {P : Program} {w : World} {a : Addr} {kvs : List (NestedKey × Addr × V)} {es : Array DictEntry} {ep : Nat} : HasRaw P w (NDO K a kvs es ep) a es ep := fun H h ⟨⟨_, _, _, _, r, _⟩, _⟩ => r
theorem vals_at : ∀ {xs : List V} {us : List Value}, xs.length = us.length → (∀ (j : Nat) (x : V) (u : Value), xs[j]? = some x → us[j]? = some u → RelV x u) → Vals xs us
  | [], [], _, _ => .nil
  | [], _ :: _, h, _ => by simp at h
  | _ :: _, [], h, _ => by simp at h
  | x :: xs, u :: us, h, f => .cons (f 0 x u rfl rfl) (vals_at (by simpa using h) fun j y w h1 h2 => f (j + 1) y w (by simpa using h1) (by simpa using h2))
theorem raw_same {h : Heap} {a : Addr} {es es' : Array DictEntry} {ep ep' : Nat} (x : h.DictRaw a es ep) (y : h.DictRaw a es' ep') : es' = es ∧ ep' = ep := by
  obtain ⟨o, h1, _, h2⟩ := x
  obtain ⟨o', k1, _, k2⟩ := y
  rw [h1] at k1
  cases k1
  rw [h2] at k2
  cases k2
  exact ⟨rfl, rfl⟩
/-- what a dict is made of -/
structure DRaw (X : Cx) (K : FK) (φ : Ph) (H : Hp) (s : Shared) (a : Addr) (n : Bool) (ks vs : List PV) (kx : List V) (es : Array DictEntry) (ep : Nat) : Prop where
  there : ∃ o, L2.Rd H a o ∧ HasRaw X.prog X.w o a es ep
  own : φ.has a ∨ ¬ φ.has a
  raw : s.heap.DictRaw a es ep
  sys : (a == sysModules) = false
  keys : Vals kx (es.toList.map (·.key))
  rep : Reps K φ H kx ks
  line : es.size ≤ sizeLine
theorem dct_raw (I : Inv X pins σ H s) (hX : KX X K) {n : Bool} {ks vs : List PV} {x : V} (hx : VR K φ H x (.dct n ks vs)) : ∃ a kx es ep, x = .ref a ∧ DRaw X K φ H s a n ks vs kx es ep := by
  cases n with
  | false =>
    obtain ⟨a, kvs, es, ep, rfl, e, ⟨rfl, st⟩, r⟩ := hx
    obtain ⟨z, hd, us, rel, dd⟩ := ldo_raw I hX e
    have raw := has_l (K := K) (kvs := kvs) (es := es) (ep := ep) (P := X.prog) (w := X.w) H s.heap (e.ok I.hok)
    obtain ⟨o, es', ep', h1, h2, h3, h4, pr, h6⟩ := id dd
    obtain ⟨rfl, rfl⟩ := raw_same raw ⟨o, h1, h2, h3⟩
    have hl : es'.size = us.length := by have := Pairs.length pr; simpa using this
    have hl2 : kvs.length = us.length := rel.length
    refine ⟨a, kvs.map (fun p => kV p.1), es', ep', rfl, ⟨_, e, has_l⟩, Classical.em _, raw, hd, vals_at (by simp [hl, hl2]) fun j x u q1 q2 => ?_, ?_, by rw [hl, ← hl2]; exact z⟩
    · rw [List.getElem?_map] at q1 q2
      cases g1 : kvs[j]? with
      | none => rw [g1] at q1; cases q1
      | some p =>
        cases g2 : es'.toList[j]? with
        | none => rw [g2] at q2; cases q2
        | some en =>
          rw [g1] at q1
          rw [g2] at q2
          cases q1
          cases q2
          obtain ⟨u', hu, _⟩ := kv_get rel g1
          exact relV_key (show keyIs p.1 en.key = true from (pr.get? g2 hu).1)
    · have : ∀ l : List (Key × V), (∀ p ∈ l, strK p.1) → Reps K φ H (l.map fun p => kV p.1) (l.map fun p => kP p.1) := by
        intro l
        induction l with
        | nil => intro _; exact .nil
        | cons p l ih =>
          intro h
          refine .cons ?_ (ih fun q hq => h q (List.mem_cons_of_mem _ hq))
          have := h p List.mem_cons_self
          cases hk : p.1 with
          | inl i => simp only [hk]; exact .int i
          | inr x => rw [hk] at this; simp only [hk]; exact .str this
      exact this kvs st
  | true =>
    obtain ⟨a, kvs, es, ep, rfl, e, ky, rk, r⟩ := hx
    obtain ⟨⟨z, hd, xs, pr, raw, he, nd⟩, -⟩ := e.ok I.hok
    have hl : es.size = xs.length := by rw [← Array.length_toList, he, List.length_map]
    have hl2 : kvs.length = xs.length := Paired.length pr
    refine ⟨a, kvs.map (fun p => V.ref p.2.1), es, ep, rfl, ⟨_, e, has_n⟩, Classical.em _, raw, hd, ?_, rk, by rw [hl, ← hl2]; exact z⟩
    rw [he, List.map_map]
    clear he nd hl hl2 e raw z ky rk r
    induction pr with
    | nil => exact .nil
    | cons h _ ih =>
      rename_i p q _ _ _
      refine .cons ?_ ih
      show (_ : Value) = Value.ref p.2.1
      rw [h.2.1]
      rfl
/-! walks -/
def ItD (P : Program) (w : World) (a : Addr) (es : Array DictEntry) (ep : Nat) (kx : List V) : It :=
  ⟨fun i H => (∃ o, L2.Rd H a o ∧ HasRaw P w o a es ep) ∧ i < kx.length, fun i H v H' => H' = H ∧ kx[i]? = some v, fun i H => (∃ o, L2.Rd H a o ∧ HasRaw P w o a es ep) ∧ kx.length ≤ i⟩
theorem turn_dct {P : Program} {w : World} {KK : PySem.W.Frag} {tg : Expr} {a : Addr} {es : Array DictEntry} {ep : Nat} {kx : List V} (hk : Vals kx (es.toList.map (·.key))) (it : Addr) :
    Turn P w KK tg (ItD P w a es ep kx) [it] it (fun i h => h.IsKeyIter it a i es.size ep) where
  mem := by simp
  obj := fun i h st b hb => by
    have e : b = it := by simpa using hb
    subst e
    obtain ⟨oi, e, c, dd⟩ := st
    exact ⟨oi, e, fun v z => by rw [dd] at z; cases z⟩
  keep := fun i h h' st k => st.at fun oi e => k it (by simp) oi e
  item := by
    intro X hP hw hK hc i pins s σ H E I hf st hg
    subst hP hw hK
    obtain ⟨⟨o, ho, hr⟩, hi⟩ := hg
    obtain ⟨f0, f1, f2, f3, f4, f5⟩ := hf it (by simp)
    have hl : kx.length = es.size := by have := hk.length; simpa using this
    have raw := hr H s.heap (ho.ok I.hok)
    refine PySem.wpAny_pyNext_keys_item_raw st raw (by omega) fun h' st' sb => ?_
    have I1 : Inv X pins σ H { s with heap := h' } := I.turned (t' := s.toks) (fun b ob hb e => (sb.2 b hb).trans e) f0 f1 f3 f4 f5
    obtain ⟨oi, e, c, dd⟩ := id st'
    obtain ⟨u, hu, ru⟩ := hk.get (List.getElem?_eq_getElem hi)
    rw [List.getElem?_map, Array.getElem?_toList, Array.getElem?_eq_getElem (by omega)] at hu
    cases hu
    exact ⟨_, rfl, go_of (s := { s with heap := h' }) e c dd (by decide) ⟨kx[i], H, I1, ru, ⟨rfl, List.getElem?_eq_getElem hi⟩, st', fun b hb => (hf b hb).1⟩⟩
  done := by
    intro X hP hw hK hc i pins s σ H E I hf st hg
    subst hP hw hK
    obtain ⟨⟨o, ho, hr⟩, hi⟩ := hg
    obtain ⟨f0, f1, f2, f3, f4, f5⟩ := hf it (by simp)
    have hl : kx.length = es.size := by have := hk.length; simpa using this
    have raw := hr H s.heap (ho.ok I.hok)
    exact PySem.wpAny_pyNext_keys_end_raw (I.ok.hd hc) st raw (by omega) fun h' eb => ⟨rfl, I.turned (t' := s.toks) (fun b ob hb e => eb b ob hb e) f0 f1 f3 f4 f5⟩
  self := fun A i s Q E st h => by
    refine wpAny_pyIter_slot st.typeIs PySem.F.slot_dict_keyiterator_iter (wpAny_call_entry PySem.F.slot_dict_keyiterator_iter st.typeIs PySem.F.entry_dict_keyiterator_iter ?_ (PySem.F.args_dict_keyiterator_iter_1 _))
    show wpAny _ _ (ret (.ref it)) _ _ s
    exact wpAny_pure ⟨_, rfl, "dict_keyiterator", _, st.typeIs, PySem.F.slot_dict_keyiterator_next.lookup, h⟩
theorem it_dct {tg : Expr} {R : It → Hp → Prop} {a : Addr} {n : Bool} {ks vs : List PV} {kx : List V} {es : Array DictEntry} {ep : Nat} (I : Inv X pins σ H s) (d : DRaw X K φ H s a n ks vs kx es ep) (q : R (ItD X.prog X.w a es ep kx) H) : wpAny (model X.prog X.w) X.A (pyIter (.ref a)) (PIE X pins σ tg R) X.xe s :=
  PySem.wpAny_pyIter_dict_raw d.sys d.raw (pi_one (tk := s.toks) I _ (turn_dct d.keys _) ⟨_, Heap.get?_push_size _ rfl, rfl, rfl⟩ q)
/-! len, list, tuple -/
theorem dct_len {n : Bool} {ks vs : List PV} {x : V} {u : Value} {Q : VK} (I : Inv X pins σ H s) (hX : KX X K) (rx : RelV x u) (hx : VR K φ H x (.dct n ks vs)) (q : Q (.int ks.length) H) : wpAny (model X.prog X.w) X.A (PySem.call (.builtin "len") [u]) (EP X pins σ Q) X.xe s := by
  cases n with
  | false =>
    obtain ⟨a, kvs, es, ep, rfl, e, ⟨rfl, st⟩, r⟩ := hx
    cases (show u = _ from rx)
    obtain ⟨z, hd, us, rel, dd⟩ := ldo_raw I hX e
    have hl : kvs.length = us.length := rel.length
    refine call_len_dict hd dd (by rw [sizeLine_eq] at z; omega) ?_
    rw [List.length_map, hl] at q
    exact ⟨.int _, H, I.tok _, ⟨_, rfl⟩, q⟩
  | true =>
    obtain ⟨a, kvs, es, ep, rfl, e, ky, rk, r⟩ := hx
    cases (show u = _ from rx)
    obtain ⟨z, hd, xs, pr, dd⟩ := ndo_raw I hX e ky rk
    have hl : kvs.length = xs.length := Paired.length pr
    have hl2 := nks_len ky.1
    rw [List.length_map] at hl2
    refine call_len_dictH hd dd (by rw [sizeLine_eq] at z; omega) ?_
    rw [hl2, hl] at q
    exact ⟨.int _, H, I.tok _, ⟨_, rfl⟩, q⟩
theorem keys_of_items {es : Array DictEntry} {acc : Array Value} (h : ItemsOf (fun i v => ∃ hi : i < es.size, v = es[i].key) acc es.size) : acc.toList = es.toList.map (·.key) := by
  refine List.ext_getElem? fun i => ?_
  rw [Array.getElem?_toList, List.getElem?_map, Array.getElem?_toList]
  by_cases hi : i < es.size
  · have h1 : i < acc.size := by rw [h.1]; exact hi
    obtain ⟨_, e⟩ := h.2 i acc[i] (by simp [h1])
    rw [Array.getElem?_eq_getElem h1, Array.getElem?_eq_getElem hi, e]
    rfl
  · rw [Array.getElem?_eq_none (by rw [h.1]; omega), Array.getElem?_eq_none (by omega)]
    rfl
theorem dct_list {a : Addr} {n : Bool} {ks vs : List PV} {kx : List V} {es : Array DictEntry} {ep : Nat} {Q : VK} (hc : X.calm = true) (I : Inv X pins σ H s) (d : DRaw X K φ H s a n ks vs kx es ep)
    (q : ∀ p, H p = none → Q (.ref p) (upd H p (.lst kx))) : wpAny (model X.prog X.w) X.A (PySem.call (.type "list") [.ref a]) (EP X pins σ Q) X.xe s := by
  refine PySem.W.kdl_call (KdlSrc.rawDict d.sys) (I.ok.hd hc) d.raw d.line fun h' tk acc c' hk hS hi => ?_
  have ea := keys_of_items hi
  have hl : kx.length = es.size := by have := d.keys.length; simpa using this
  have fresh := I.hok.fresh (a := s.heap.objs.size) (Nat.le_refl _)
  refine ⟨.ref s.heap.objs.size, _, I.laid (a := s.heap.objs.size) (o := .lst kx) (t' := tk) hk (Nat.le_refl _) ⟨by rw [hl]; exact d.line, acc.toList, c', by rw [ea]; exact d.keys, by rw [hS, Array.toArray_toList]⟩, rfl, q _ fresh⟩
theorem str_list {x : Str} {t : Tok} {Q : VK} (hc : X.calm = true) (I : Inv X pins σ H s) (hl : x.length ≤ sizeLine)
    (q : ∀ p, H p = none → Q (.ref p) (upd H p (.lst (x.cps.toList.map fun c => V.str ⟨#[c]⟩)))) : wpAny (model X.prog X.w) X.A (PySem.call (.type "list") [.str x t]) (EP X pins σ Q) X.xe s := by
  refine call_list_str (hn := hl) (I.ok.hd hc) x t fun h' tk acc c' hk hS hi => ?_
  have fresh := I.hok.fresh (a := s.heap.objs.size) (Nat.le_refl _)
  refine ⟨.ref s.heap.objs.size, _, I.laid (a := s.heap.objs.size) (o := .lst (x.cps.toList.map fun c => V.str ⟨#[c]⟩)) (t' := tk) hk (Nat.le_refl _) ⟨?_, acc.toList, c', ?_, by rw [hS, Array.toArray_toList]⟩, rfl, q _ fresh⟩
  · rw [List.length_map, Array.length_toList]; exact hl
  · refine vals_at (by rw [List.length_map, Array.length_toList, Array.length_toList, hi.1]) fun j y u h1 h2 => ?_
    obtain ⟨c, t', hc', rfl⟩ := hi.2 j u (by simpa using h2)
    rw [List.getElem?_map, Array.getElem?_toList, hc'] at h1
    cases h1
    exact ⟨t', rfl⟩
end
/-! what is collected -/
section
variable {prog : Program} {w : World} {A : Around} {E : Value → Shared → Prop} {s : Shared} {T : String} {r d : Addr} {n : Nat} {P : Nat → Value → Prop} {OK : Heap → Prop}
theorem collect_src {Q : List Value → Shared → Prop} (K : PySem.W.KdlSrc prog w T r d n P OK) (hh : A.handled = none) (hok : OK s.heap) (hn : n ≤ sizeLine)
    (hQ : ∀ (h' : Heap) (tk : Nat) (acc : Array Value), (∀ b o, s.heap.get? b = some o → h'.get? b = some o) → s.heap.objs.size < h'.objs.size → ItemsOf P acc n → Q acc.toList { s with heap := h', toks := tk }) :
    wpAny (model prog w) A (collect (.ref r)) Q E s := by
  unfold collect
  refine wpAny_bind (wpAny_runValue (codeAny_builtin PySem.F.entry_proto_collect ?_))
  rw [Around.under_plainId PySem.F.plain_proto_collect _]
  show wpAny _ A.in1 (newList [] >>= fun l => again (.builtin "list.__iadd__" ⟨[l, .ref r], []⟩)) _ _ s
  refine wpAny_bind (wpAny_newObj_type ?_)
  refine wpAny_pure ⟨plainId_quiet PySem.F.plain_list_iadd _, codeAny_builtin PySem.F.entry_list_iadd ?_⟩
  rw [Around.under_plainId PySem.F.plain_list_iadd _]
  show wpAny _ A.in1 (Builtin.List.listExtendWith (.ref s.heap.objs.size) (.ref r) (.ref s.heap.objs.size)) _ _ _
  have hS : (s.heap.push { cls := .type "list", data := .seq ([] : List Value).toArray }).get? s.heap.objs.size = some { cls := .type "list", data := .seq #[] 0 } := Heap.get?_push_size _ rfl
  have hlt := K.there _ hok
  refine wpAny_mono (PySem.W.kdl_extend (A := A) (R := fun rr s' => rr = .ok (.ret (.ref s.heap.objs.size)) ∧ ∃ (h' : Heap) (tk : Nat) (acc : Array Value) (c' : Nat), s' = { s with heap := h', toks := tk } ∧
      (∀ b o, s.heap.get? b = some o → h'.get? b = some o) ∧ h'.get? s.heap.objs.size = some { cls := .type "list", dict := none, data := .seq acc c', slots := #[] } ∧ ItemsOf P acc n)
    (s := { s with heap := s.heap.push { cls := .type "list", data := .seq ([] : List Value).toArray } }) K hh (K.keep _ _ hok fun b _ o e => Heap.get?_push_of_some _ e) s.heap.objs.size (Nat.ne_of_gt hlt.1) (Nat.ne_of_gt hlt.2) (.ref s.heap.objs.size) 0 hS
    (fun h' tk acc c' hk e hi => ⟨rfl, h', tk, acc, c', rfl, fun b o q => hk b o (Nat.ne_of_lt (Heap.lt_size q)) (Heap.get?_push_of_some _ q), e, hi⟩) hn) (fun fin s' h => ?_) (fun e s' h => ?_)
  · cases fin with
    | done f =>
      obtain ⟨e, h', tk, acc, c', rfl, hk, hS', hi⟩ := h
      cases e
      show wpAny _ A (load s.heap.objs.size >>= _) _ _ _
      exact wpAny_bind (wpAny_load hS' (wpAny_pure (hQ h' tk acc hk (Heap.lt_size hS') hi)))
    | again c' =>
      refine ⟨h.1, codeAny_mono h.2 fun rr s'' hr' => ?_⟩
      obtain ⟨rfl, h', tk, acc, c', rfl, hk, hS', hi⟩ := hr'
      show wpAny _ A (load s.heap.objs.size >>= _) _ _ _
      exact wpAny_bind (wpAny_load hS' (wpAny_pure (hQ h' tk acc hk (Heap.lt_size hS') hi)))
  · exact absurd h.1 (by simp)
theorem code_tuple_dict {Q₁ : Value → Shared → Prop} (K : PySem.W.KdlSrc prog w "dict" r d n P OK) (hh : A.handled = none) (hok : OK s.heap) (hn : n ≤ sizeLine)
    (h : ∀ (h' : Heap) (tk : Nat) (acc : Array Value), (∀ b o, s.heap.get? b = some o → h'.get? b = some o) → s.heap.objs.size < h'.objs.size → ItemsOf P acc n →
      Q₁ (.ref h'.objs.size) { s with heap := h'.push { cls := .type "tuple", data := .seq acc }, toks := tk }) :
    codeAny (model prog w) A (.call (.builtin "tuple.__new__") ⟨[.type "tuple", .ref r], []⟩) (wants Q₁ E) s := by
  refine codeAny_of_tree ?_
  show wpAny _ A.in1 (do checkBuiltinCall "tuple.__new__" ⟨[.type "tuple", .ref r], []⟩; again (.builtin "tuple.__new__" ⟨[.type "tuple", .ref r], []⟩)) _ _ s
  refine wpAny_bind (wpAny_of_eq (PySem.F.newCall_tuple_1 _) (wpAny_pure ⟨plainId_quiet PySem.F.plain_tuple_new _, codeAny_builtin PySem.F.entry_tuple_new ?_⟩))
  rw [Around.under_plainId PySem.F.plain_tuple_new _]
  have hsub := sub_tuple_self
  have hinit := init_tuple_lookup
  have hmh := madeHere_tuple
  have hTI : s.TypeIs (.ref r) "dict" := K.type s hok
  have hh1 : A.in1.handled = none := hh
  wp_walk using wpAny_typeOf hTI, collect_src (A := A.in1) K hh1 hok hn
  intro h' tk acc hk hz hacc
  show wpAny _ _ (Builtin.Tuple.tupleExact acc.toList.toArray >>= fun v => ret v) _ _ _
  unfold Builtin.Tuple.tupleExact
  refine wpAny_bind (wpAny_newObj_type ?_ (by show acc.toList.toArray.size ≤ sizeLine; simp only [Array.toArray_toList]; rw [hacc.1]; omega))
  refine wpAny_pure ?_
  have e : acc.toList.toArray = acc := by simp
  rw [e]
  exact h h' tk acc hk hz hacc
theorem call_tuple_dict {Q : Value → Shared → Prop} (K : PySem.W.KdlSrc prog w "dict" r d n P OK) (hh : A.handled = none) (hok : OK s.heap) (hn : n ≤ sizeLine)
    (hQ : ∀ (h' : Heap) (tk : Nat) (acc : Array Value), (∀ b o, s.heap.get? b = some o → h'.get? b = some o) → s.heap.objs.size < h'.objs.size → ItemsOf P acc n →
      Q (.ref h'.objs.size) { s with heap := h'.push { cls := .type "tuple", data := .seq acc }, toks := tk }) :
    wpAny (model prog w) A (PySem.call (.type "tuple") [.ref r]) Q E s := by
  refine callType_codes (Q₁ := fun obj s₁ => s₁.TypeIs obj "tuple" ∧ Q obj s₁) PySem.F.called_tuple (PySem.F.typeCall_tuple_1 _) PySem.F.entry_object_init
    (code_tuple_dict (A := A.in1) K hh hok hn fun h' tk acc hk hz hacc => ⟨⟨_, Heap.get?_push_size _ rfl, rfl⟩, hQ h' tk acc hk hz hacc⟩) fun obj s₁ h₁ => ?_
  exact ⟨h₁.1, PySem.F.args_object_init_2 obj _, object_init_meets PySem.F.called_tuple.init.lookup PySem.F.called_tuple.made (by decide) prog w A.in1 _ s₁ ⟨h₁.1, rfl, h₁.2⟩⟩
end
section
variable {X : Cx} {K : FK} {φ : Ph} {H : Hp} {pins : List (Addr × Obj)} {σ : L2.St} {s : Shared}
theorem dct_tuple {a : Addr} {n : Bool} {ks vs : List PV} {kx : List V} {es : Array DictEntry} {ep : Nat} {Q : VK} (hc : X.calm = true) (I : Inv X pins σ H s) (d : DRaw X K φ H s a n ks vs kx es ep)
    (q : ∀ p, H p = none → Q (.ref p) (upd H p (.tup kx))) : wpAny (model X.prog X.w) X.A (PySem.call (.type "tuple") [.ref a]) (EP X pins σ Q) X.xe s := by
  refine call_tuple_dict (KdlSrc.rawDict d.sys) (I.ok.hd hc) d.raw d.line fun h' tk acc hk hz hi => ?_
  have hsz := Nat.le_of_lt hz
  have ea := keys_of_items hi
  have hl : kx.length = es.size := by have := d.keys.length; simpa using this
  have fresh := I.hok.fresh (a := h'.objs.size) hsz
  refine ⟨.ref h'.objs.size, _, I.laid (a := h'.objs.size) (o := .tup kx) (t' := tk) (fun b o e => Heap.get?_push_of_some _ (hk b o e)) hsz ⟨by rw [hl]; exact d.line, acc.toList, by rw [ea]; exact d.keys, ⟨_, Heap.get?_push_size _ rfl, rfl, 0, by simp⟩⟩, rfl, q _ fresh⟩
end
end Ip

set_option Elab.async false
set_option linter.all false
set_option maxRecDepth 100000
set_option maxHeartbeats 2000000
/-! Ip, part 3d: dicts made. -/
namespace Ip
open PySem L2 PySem.Spec PyProof.Rows
def flatV : List (Value × Value) → List Value
  | [] => []
  | p :: r => p.1 :: p.2 :: flatV r
/-- the pairs of a display, keys and values in turn -/
structure PD (X : Cx) (pos : Pos) (keys : List (Option Expr)) (values : List Expr) (t : TA) : Prop where
  run : ∀ (pins : List (Addr × Obj)) (s : Shared) (σ : L2.St) (H : Hp) (Q : List V → Hp → Prop), Inv X pins σ H s → t σ H Q →
    wpAny (model X.prog X.w) X.A (evalPairs (pairTrees keys values X.env pos)) (fun vs s' => ∃ xs H', Inv X pins σ H' s' ∧ Vals xs (flatV vs) ∧ Q xs H') X.xe s
theorem pd_nil {X : Cx} {pos : Pos} : PD X pos [] [] tNil := ⟨fun pins s σ H Q I h => pairTrees_nil_walk ⟨[], H, I, .nil, h⟩⟩
theorem pd_cons {X : Cx} {pos : Pos} {k v : Expr} {ks : List (Option Expr)} {vs : List Expr} {tk tv : TE} {tr : TA} (hk : PE X k tk) (hv : PE X v tv) (hr : PD X pos ks vs tr) :
    PD X pos (some k :: ks) (v :: vs) (fun σ H Q => tk σ H fun x H1 => tv σ H1 fun y H2 => tr σ H2 fun zs H3 => Q (x :: y :: zs) H3) := ⟨fun pins s σ H Q I h =>
  pairTrees_cons_walk (thn (hk.run pins s σ H _ I h) fun u s1 ⟨x, H1, I1, rx, q1⟩ => thn (hv.run pins s1 σ H1 _ I1 q1) fun w2 s2 ⟨y, H2, I2, ry, q2⟩ =>
    thn (hr.run pins s2 σ H2 _ I2 q2) fun ws s3 ⟨ps, H3, I3, rel, q3⟩ => ⟨x :: y :: ps, H3, I3, .cons rx (.cons ry rel), q3⟩)⟩
theorem PD.imp {X : Cx} {pos : Pos} {ks : List (Option Expr)} {vs : List Expr} {t t' : TA} (h : PD X pos ks vs t) (i : ∀ σ H Q, t' σ H Q → t σ H Q) : PD X pos ks vs t' := ⟨fun pins s σ H Q I q => h.run pins s σ H Q I (i _ _ _ q)⟩
/-- a new dict's object -/
def DNew (K : FK) (φ : Ph) (H : Hp) (p : Addr) (o : HO) (n : Bool) (ks vs : List PV) : Prop := match n with
  | false => ∃ kvs es ep, o = LDO K p kvs es ep ∧ KyL ks kvs ∧ Reps K φ H (kvs.map (·.2)) vs
  | true => ∃ kvs es ep, o = NDO K p kvs es ep ∧ KyN ks kvs ∧ Reps K φ H (kvs.map fun q => V.ref q.2.1) ks ∧ Reps K φ H (kvs.map (·.2.2)) vs
theorem flat_len : ∀ vs : List (Value × Value), (flatV vs).length = 2 * vs.length
  | [] => rfl
  | p :: r => by simp [flatV, flat_len r]; omega
section
variable {X : Cx} {K : FK} {φ : Ph} {H : Hp} {pins : List (Addr × Obj)} {σ : L2.St} {s : Shared}
theorem nodup_put {k : Key} {y : V} {kvs : List (Key × V)} (nd : (kvs.map (·.1)).Nodup) : ((putK kvs k y).map (·.1)).Nodup := by
  induction kvs with
  | nil => simp [putK]
  | cons p kvs ih =>
    obtain ⟨k', x⟩ := p
    rw [putK_cons nd]
    have nd' := nd
    rw [List.map_cons, List.nodup_cons] at nd
    by_cases e : k' = k
    · rw [if_pos e]; exact nd'
    · rw [if_neg e, List.map_cons, List.nodup_cons]
      refine ⟨fun m => ?_, ih nd.2⟩
      obtain ⟨q, hq, hq2⟩ := List.mem_map.mp m
      unfold putK at hq
      split at hq
      · obtain ⟨r, hr, rfl⟩ := List.mem_map.mp hq
        refine nd.1 (List.mem_map.mpr ⟨r, hr, ?_⟩)
        rw [← hq2]
        split <;> rfl
      · rcases List.mem_append.mp hq with hq | hq
        · exact nd.1 (List.mem_map.mpr ⟨q, hq, hq2⟩)
        · have : q = (k, y) := by simpa using hq
          subst this
          exact e hq2.symm
/-- leaf pairs put one after another -/
theorem merge_l : ∀ (ws : List PV) (xs : List V) (acc : List (Key × V)) (ks vs : List PV), Reps K φ H xs ws → keysB false ws = true → KyL ks acc → (acc.map (·.1)).Nodup → Reps K φ H (acc.map (·.2)) vs →
    ∃ more : List (Key × V), xs = (more.flatMap fun p => [kV p.1, p.2]) ∧ KyL (mergeD ks vs ws).1 (mergeK acc more) ∧ Reps K φ H ((mergeK acc more).map (·.2)) (mergeD ks vs ws).2
  | [], xs, acc, ks, vs, r, hk, ky, nd, rv => by
    cases r
    exact ⟨[], rfl, ky, rv⟩
  | [_], xs, acc, ks, vs, r, hk, ky, nd, rv => by simp [keysB] at hk
  | kk :: v :: ws, xs, acc, ks, vs, r, hk, ky, nd, rv => by
    cases r with
    | cons r1 r =>
      cases r with
      | cons r2 r3 =>
        simp only [keysB, Bool.and_eq_true] at hk
        obtain ⟨k, rfl, rfl, sk⟩ := keyL hk.1 r1
        rename_i y xs
        obtain ⟨rfl, st⟩ := ky
        obtain ⟨p1, p2⟩ := put_l k r2 acc vs nd rv
        obtain ⟨more, h1, h2, h3⟩ := merge_l ws xs (putK acc k y) _ _ r3 hk.2 ⟨p1.symm, putK_str sk acc st⟩ (nodup_put nd) p2
        exact ⟨(k, y) :: more, by rw [h1]; rfl, h2, h3⟩
theorem vv_of : ∀ (more : List (Key × V)) (vs : List (Value × Value)), Vals (more.flatMap fun p => [kV p.1, p.2]) (flatV vs) → VV (more.map fun kv => (kV kv.1, kv.2)) vs
  | [], vs, h => by
    cases vs with
    | nil => exact .nil
    | cons p vs => cases h
  | p :: more, vs, h => by
    cases vs with
    | nil => cases h
    | cons q vs =>
      rw [List.flatMap_cons] at h
      cases h with
      | cons h1 h =>
        cases h with
        | cons h2 h3 => exact .cons ⟨h1, h2⟩ (vv_of more vs h3)
theorem pe_dspL {keys : List (Option Expr)} {values : List Expr} {pos : Pos} {ta : TA} (hX : KX X K) (hd : PD X pos keys values ta) (hall : keys.all (·.isSome) = true) (hl : keys.length = values.length) (h0 : keys ≠ []) (h15 : keys.length ≤ 15) :
    PE X (.Dict keys values pos) (fun σ H Q => ta σ H fun xs H2 => ∃ φ ws, Reps K φ H2 xs ws ∧ keysB false ws = true ∧ ∀ p o, H2 p = none → DNew K φ H2 p o false (mergeD [] [] ws).1 (mergeD [] [] ws).2 → Q (.ref p) (upd H2 p o)) := by
  refine ⟨fun pins s σ H Q I q => ?_⟩
  have hn := I.hok.fresh (Nat.le_refl s.heap.objs.size)
  have I1 := I.kept (h' := s.heap.push { cls := .type "dict", data := .dict #[] }) (t' := s.toks) (fun _ _ q => Heap.get?_push_of_some _ q)
  have fp := I.fpOk (Nat.le_refl s.heap.objs.size) hn
  have I2 := I1.pinned (fp := [s.heap.objs.size]) (fun b m => (List.mem_singleton.mp m) ▸ ⟨fp.1, fp.2⟩) (fun b m => (List.mem_singleton.mp m) ▸ ⟨_, Heap.get?_push_size _ rfl, fun v z => by cases z⟩)
  refine wpAny_Dict_walk (knd := mixKind X.prog X.w) hall hl h0 h15 (wpAny_mono (wpAny_evalPairs_len (hd.run _ _ σ _ _ I2 q)) (fun vs s2 hq => ?_) fun _ _ z => z)
  obtain ⟨hlen, xs, H2, I3, rel, φ, ws, rp, kb, q2⟩ := hq
  rw [pairTrees_length _ _ _ _ hall hl] at hlen
  obtain ⟨more, e1, e2, e3⟩ := merge_l (φ := φ) (H := H2) ws xs [] [] [] rp kb ⟨rfl, fun p m => by cases m⟩ List.nodup_nil .nil
  subst e1
  have vv := vv_of more vs rel
  obtain ⟨rs, c, rk⟩ := carries_of (P := X.prog) (w := X.w) vv
  have hp : (s.heap.objs.size, ({ cls := .type "dict", data := .dict #[] } : Obj)) ∈ pins ++ pinsAt [s.heap.objs.size] (s.heap.push { cls := .type "dict", data := .dict #[] }) := by
    refine List.mem_append_right _ ?_
    unfold pinsAt
    rw [List.filterMap_cons, Heap.get?_push_size _ rfl]
    exact List.mem_cons_self
  obtain ⟨g1, g2, g3, g4, g5⟩ := I3.pin _ (List.mem_append_right _ hp)
  refine ⟨rs, c, ⟨_, #[], 0, g1, ⟨rfl, rfl, rfl⟩, rfl, fun e m => by simp at m, .nil, List.nodup_nil⟩, fun h' dd' hs => ?_⟩
  have hm : (s.heap.objs.size == sysModules) = false := beq_eq_false_iff_ne.mpr (Nat.ne_of_gt I.big)
  have hz : (mergeK [] more).length ≤ sizeLine := by
    have h1 := length_mergeK more []
    have h2 : more.length = vs.length := by have := Paired.length vv; simpa using this
    rw [List.length_nil] at h1
    rw [sizeLine_eq]; omega
  obtain ⟨es, ep, ok⟩ := ldo_new (H' := upd H2 s.heap.objs.size (.dK [])) (K := K) hX hz hm (rk.merge .nil) dd'
  refine ⟨.ref s.heap.objs.size, upd H2 s.heap.objs.size (LDO K s.heap.objs.size (mergeK [] more) es ep), ?_, rfl, q2 _ _ g2 ⟨_, es, ep, rfl, e2, e3⟩⟩
  have I4 : Inv X pins σ H2 s2 := I3.unpinned
  exact I4.take (t' := _) (fun b ob hb e => (hs.2 b hb).trans e) ⟨g2, fp.2.1, fp.2.2.1, fp.2.2.2.1, fp.2.2.2.2.1, fp.2.2.2.2.2⟩ ok
/-- pairs with tuples as keys put one after another -/
def mergeN (acc : List (NestedKey × Addr × V)) : List (NestedKey × Addr × V) → List (NestedKey × Addr × V)
  | [] => acc
  | p :: r => mergeN (putN p.1 p.2.1 p.2.2 acc) r
theorem merge_n (I : Inv X pins σ H s) (hX : KX X K) : ∀ (ws : List PV) (xs : List V) (us : List (Value × Value)) (acc : List (NestedKey × Addr × V)) (ks vs : List PV), Reps K φ H xs ws → Vals xs (flatV us) → keysB true ws = true → KyN ks acc → Reps K φ H (acc.map fun p => V.ref p.2.1) ks → Reps K φ H (acc.map (·.2.2)) vs →
    ∃ (more : List (NestedKey × Addr × V)) (ps : List (NestedKey × Addr × Value)), CarriesH (nestedKind X.prog X.w) s.heap us ps ∧ NPr more ps ∧ KyN (mergeD ks vs ws).1 (mergeN acc more) ∧ Reps K φ H ((mergeN acc more).map fun p => V.ref p.2.1) (mergeD ks vs ws).1 ∧ Reps K φ H ((mergeN acc more).map (·.2.2)) (mergeD ks vs ws).2 ∧ more.length = us.length
  | [], xs, us, acc, ks, vs, r, rv, hk, ky, rk, rr => by
    cases r
    cases us with
    | nil => exact ⟨[], [], trivial, .nil, ky, rk, rr, rfl⟩
    | cons p us => cases rv
  | [_], xs, us, acc, ks, vs, r, rv, hk, ky, rk, rr => by simp [keysB] at hk
  | kk :: v :: ws, xs, us, acc, ks, vs, r, rv, hk, ky, rk, rr => by
    cases r with
    | cons r1 r =>
      cases r with
      | cons r2 r3 =>
        cases us with
        | nil => cases rv
        | cons p us =>
          cases rv with
          | cons v1 rv =>
            cases rv with
            | cons v2 v3 =>
              simp only [keysB, Bool.and_eq_true] at hk
              obtain ⟨k, k1, k2, zs, rfl⟩ := keyN hk.1
              rename_i x y xs
              obtain ⟨b, rfl⟩ : ∃ b, x = .ref b := by cases r1; exact ⟨_, rfl⟩
              have nk := Rep.nest I hX.k _ _ _ _ r1 v1 k1
              obtain ⟨p1, p2, p3⟩ := put_n (b := b) k1 r1 r2 acc ks vs ky.1 rk rr
              obtain ⟨more, ps, h1, h2, h3, h4, h5, h6⟩ := merge_n I hX ws xs us (putN k b y acc) _ _ r3 v3 hk.2 ⟨p1, putN_dep k2 acc ky.2⟩ p2 p3
              obtain ⟨u1, u2⟩ := p
              cases (show u1 = _ from v1)
              exact ⟨(k, b, y) :: more, (k, b, u2) :: ps, ⟨rfl, rfl, ⟨nk, k2⟩, h1⟩, .cons ⟨rfl, rfl, v2⟩ h2, h3, h4, h5, by simp [h6]⟩
theorem nodup_storedH {k : NestedKey} {b : Addr} {u : Value} : ∀ {xs : List (NestedKey × Addr × Value)}, (xs.map (·.1)).Nodup → ((storedH xs k b u).map (·.1)).Nodup
  | [], nd => by simp [storedH, atKey]
  | q :: xs, nd => by
    rw [storedH_cons nd]
    have nd' := nd
    rw [List.map_cons, List.nodup_cons] at nd
    by_cases e : q.1 = k
    · rw [if_pos e]; exact nd'
    · rw [if_neg e, List.map_cons, List.nodup_cons]
      refine ⟨fun m => ?_, nodup_storedH nd.2⟩
      obtain ⟨r, hr, hr2⟩ := List.mem_map.mp m
      unfold storedH at hr
      split at hr
      · obtain ⟨r', h1, rfl⟩ := List.mem_map.mp hr
        refine nd.1 (List.mem_map.mpr ⟨r', h1, ?_⟩)
        rw [← hr2]
        unfold putAt
        split <;> rfl
      · rcases List.mem_append.mp hr with hr | hr
        · exact nd.1 (List.mem_map.mpr ⟨r, hr, hr2⟩)
        · have : r = (k, b, u) := by simpa using hr
          subst this
          exact e hr2.symm
theorem mergeN_pr : ∀ (more : List (NestedKey × Addr × V)) (ps : List (NestedKey × Addr × Value)) (acc : List (NestedKey × Addr × V)) (xs : List (NestedKey × Addr × Value)), NPr more ps → (xs.map (·.1)).Nodup → NPr acc xs → NPr (mergeN acc more) (storedAllH xs ps)
  | [], ps, acc, xs, h, nd, r => by cases h; exact r
  | p :: more, ps, acc, xs, h, nd, r => by
    cases h with
    | cons h1 h2 =>
      rename_i q ps
      have e := putN_pr (k := p.1) (b := p.2.1) h1.2.2 acc xs nd r
      have := mergeN_pr more ps (putN p.1 p.2.1 p.2.2 acc) (storedH xs p.1 p.2.1 q.2.2) h2 (nodup_storedH nd) e
      show NPr (mergeN (putN p.1 p.2.1 p.2.2 acc) more) (storedAllH (storedH xs q.1 q.2.1 q.2.2) ps)
      rw [← h1.1, ← h1.2.1]
      exact this
theorem mergeN_len : ∀ (more acc : List (NestedKey × Addr × V)), (mergeN acc more).length ≤ acc.length + more.length
  | [], acc => Nat.le_refl _
  | p :: more, acc => by
    have h1 := mergeN_len more (putN p.1 p.2.1 p.2.2 acc)
    have h2 := putN_len p.1 p.2.1 p.2.2 acc
    show (mergeN (putN p.1 p.2.1 p.2.2 acc) more).length ≤ _
    rw [List.length_cons]; omega
theorem pe_dspN {keys : List (Option Expr)} {values : List Expr} {pos : Pos} {ta : TA} (hu : X.A.units + 65 < cLine) (hX : KX X K) (hd : PD X pos keys values ta) (hall : keys.all (·.isSome) = true) (hl : keys.length = values.length) (h0 : keys ≠ []) (h15 : keys.length ≤ 15) :
    PE X (.Dict keys values pos) (fun σ H Q => ta σ H fun xs H2 => ∃ φ ws, Reps K φ H2 xs ws ∧ keysB true ws = true ∧ ∀ p o, H2 p = none → DNew K φ H2 p o true (mergeD [] [] ws).1 (mergeD [] [] ws).2 → Q (.ref p) (upd H2 p o)) := by
  refine ⟨fun pins s σ H Q I q => ?_⟩
  have hn := I.hok.fresh (Nat.le_refl s.heap.objs.size)
  have I1 := I.kept (h' := s.heap.push { cls := .type "dict", data := .dict #[] }) (t' := s.toks) (fun _ _ q => Heap.get?_push_of_some _ q)
  have fp := I.fpOk (Nat.le_refl s.heap.objs.size) hn
  have I2 := I1.pinned (fp := [s.heap.objs.size]) (fun b m => (List.mem_singleton.mp m) ▸ ⟨fp.1, fp.2⟩) (fun b m => (List.mem_singleton.mp m) ▸ ⟨_, Heap.get?_push_size _ rfl, fun v z => by cases z⟩)
  have pl := pairTrees_length keys values X.env pos hall hl
  rw [arm_eval_Dict, zip_pairTrees keys values X.env pos hall hl, dictDisplay_pairs _ (by intro he; rw [he] at pl; exact h0 (List.length_eq_zero_iff.mp pl.symm)) (by omega)]
  refine wpAny_bind (wpAny_standAt (wpAny_bind (wpAny_subDictH (knd := nestedKind X.prog X.w) (Q := fun d s' => wpAny (model X.prog X.w) X.A (pure (Value.ref d)) (EP X pins σ Q) X.xe s') (show X.A.units + 8 < cLine by omega) (by omega) ?_)))
  refine wpAny_mono (wpAny_evalPairs_len (hd.run _ _ σ _ _ I2 q)) (fun vs s2 hq => ?_) fun _ _ z => z
  obtain ⟨hlen, xs, H2, I3, rel, φ, ws, rp, kb, q2⟩ := hq
  rw [pl] at hlen
  obtain ⟨more, ps, e1, e2, e3, e4, e5, e6⟩ := merge_n I3 hX ws xs vs [] [] [] rp rel kb ⟨rfl, fun p m => by cases m⟩ .nil .nil
  have hp : (s.heap.objs.size, ({ cls := .type "dict", data := .dict #[] } : Obj)) ∈ pins ++ pinsAt [s.heap.objs.size] (s.heap.push { cls := .type "dict", data := .dict #[] }) := by
    refine List.mem_append_right _ ?_
    unfold pinsAt
    rw [List.filterMap_cons, Heap.get?_push_size _ rfl]
    exact List.mem_cons_self
  obtain ⟨g1, g2, g3, g4, g5⟩ := I3.pin _ (List.mem_append_right _ hp)
  refine ⟨ps, e1, ⟨_, #[], 0, g1, ⟨rfl, rfl, rfl⟩, rfl, rfl, fun x m => (by cases m), List.nodup_nil⟩, fun h' tk dd' hs => wpAny_pure ?_⟩
  have hm : (s.heap.objs.size == sysModules) = false := beq_eq_false_iff_ne.mpr (Nat.ne_of_gt I.big)
  have hz : (mergeN [] more).length ≤ sizeLine := by
    have h1 := mergeN_len more []
    rw [List.length_nil] at h1
    rw [sizeLine_eq]; omega
  obtain ⟨es, ep, ok⟩ := ndo_new (H' := upd H2 s.heap.objs.size (.dK [])) (K := K) hX hz hm (mergeN_pr more ps [] [] e2 List.nodup_nil .nil) dd'
  refine ⟨.ref s.heap.objs.size, upd H2 s.heap.objs.size (NDO K s.heap.objs.size (mergeN [] more) es ep), ?_, rfl, q2 _ _ g2 ⟨_, es, ep, rfl, e3, e4, e5⟩⟩
  have I4 : Inv X pins σ H2 s2 := I3.unpinned
  exact I4.take (t' := tk) (fun b ob hb e => (hs.2 b hb).trans e) ⟨g2, fp.2.1, fp.2.2.1, fp.2.2.2.1, fp.2.2.2.2.1, fp.2.2.2.2.2⟩ ok
/-- {} -/
theorem pe_dsp0 {pos : Pos} (n : Bool) (hX : KX X K) : PE X (.Dict [] [] pos) (fun σ H Q => ∃ φ : Ph, ∀ p o, H p = none → DNew K φ H p o n [] [] → Q (.ref p) (upd H p o)) := ⟨fun pins s σ H Q I q => by
  obtain ⟨φ, q⟩ := q
  have hm : (s.heap.objs.size == sysModules) = false := beq_eq_false_iff_ne.mpr (Nat.ne_of_gt I.big)
  have hn := I.hok.fresh (Nat.le_refl s.heap.objs.size)
  have he := Heap.get?_push_size s.heap (o := { cls := .type "dict", data := .dict #[] }) rfl
  cases n with
  | false =>
    obtain ⟨es, ep, ok⟩ := ldo_new (H' := upd H s.heap.objs.size (.dK [])) (K := K) (kvs := []) (us := []) (a := s.heap.objs.size) (h' := s.heap.push { cls := .type "dict", data := .dict #[] }) hX (Nat.zero_le _) hm .nil ⟨_, #[], 0, he, ⟨rfl, rfl, rfl⟩, rfl, fun e m => by simp at m, .nil, List.nodup_nil⟩
    exact wpAny_Dict_empty ⟨.ref s.heap.objs.size, _, I.laid (a := s.heap.objs.size) (o := LDO K s.heap.objs.size [] es ep) (t' := s.toks) (fun _ _ q => Heap.get?_push_of_some _ q) (Nat.le_refl _) ok, rfl, q _ _ hn ⟨[], es, ep, rfl, ⟨rfl, fun p m => by cases m⟩, .nil⟩⟩
  | true =>
    obtain ⟨es, ep, ok⟩ := ndo_new (H' := upd H s.heap.objs.size (.dK [])) (K := K) (kvs := []) (xs := []) (a := s.heap.objs.size) (h' := s.heap.push { cls := .type "dict", data := .dict #[] }) hX (Nat.zero_le _) hm .nil ⟨_, #[], 0, he, ⟨rfl, rfl, rfl⟩, rfl, rfl, fun x m => (by cases m), List.nodup_nil⟩
    exact wpAny_Dict_empty ⟨.ref s.heap.objs.size, _, I.laid (a := s.heap.objs.size) (o := NDO K s.heap.objs.size [] es ep) (t' := s.toks) (fun _ _ q => Heap.get?_push_of_some _ q) (Nat.le_refl _) ok, rfl, q _ _ hn ⟨[], es, ep, rfl, ⟨rfl, fun p m => by cases m⟩, .nil, .nil⟩⟩⟩
end
end Ip

set_option Elab.async false
set_option linter.all false
set_option maxRecDepth 100000
set_option maxHeartbeats 4000000
/-! Ip, part 29: sorted(..) of ints and of texts. -/
namespace Ip
open PySem L2 PySem.Spec PyProof.Rows
/-! ### a stable sort -/
section
variable {α : Type} {lt : α → α → Bool}
theorem insS_mem {x z : α} : ∀ {l : List α}, z ∈ insS lt x l ↔ z = x ∨ z ∈ l
  | [] => by simp [insS]
  | y :: l => by
    unfold insS
    split
    · simp [insS_mem (l := l)]
      constructor
      · rintro (h | h | h) <;> simp [h]
      · rintro (h | h | h) <;> simp [h]
    · simp
theorem insS_srt (O : SrtO.Swo lt) {x : α} : ∀ {l : List α}, SrtO.Srtd lt l → SrtO.Srtd lt (insS lt x l)
  | [], _ => List.pairwise_singleton _ _
  | y :: l, h => by
    have h' := List.pairwise_cons.mp h
    unfold insS
    split
    · rename_i q
      refine List.pairwise_cons.mpr ⟨fun z hz => ?_, insS_srt O h'.2⟩
      rcases insS_mem.mp hz with rfl | hz
      · exact O.asym _ _ q
      · exact h'.1 z hz
    · rename_i q
      have q : lt y x = false := by simpa using q
      refine List.pairwise_cons.mpr ⟨fun z hz => ?_, h⟩
      rcases List.mem_cons.mp hz with rfl | hz
      · exact q
      · exact O.tr x y z q (h'.1 z hz)
theorem insS_stb (O : SrtO.Swo lt) {x : α} : ∀ {l : List α}, SrtO.Srtd lt l → SrtO.Stb lt (insS lt x l) (x :: l)
  | [], _ => SrtO.Stb.refl _
  | y :: l, h => by
    have h' := List.pairwise_cons.mp h
    unfold insS
    split
    · rename_i q
      have ih := insS_stb O (x := x) h'.2
      have s1 : SrtO.Stb lt (y :: insS lt x l) (y :: x :: l) := (SrtO.Stb.refl [y]).app ih
      have s2 : SrtO.Stb lt ([y] ++ [x]) ([x] ++ [y]) := SrtO.Stb.swap O fun a ha b hb => by
        rw [List.mem_singleton.mp ha, List.mem_singleton.mp hb]; exact q
      exact s1.trans (s2.app (SrtO.Stb.refl l))
    · exact SrtO.Stb.refl _
theorem isort_srt (O : SrtO.Swo lt) : ∀ l : List α, SrtO.Srtd lt (isort lt l)
  | [] => List.Pairwise.nil
  | x :: l => insS_srt O (isort_srt O l)
theorem isort_stb (O : SrtO.Swo lt) : ∀ l : List α, SrtO.Stb lt (isort lt l) l
  | [] => SrtO.Stb.refl _
  | x :: l => (insS_stb O (isort_srt O l)).trans ((SrtO.Stb.refl [x]).app (isort_stb O l))
theorem stb_symm {l m : List α} (h : SrtO.Stb lt l m) : SrtO.Stb lt m l := ⟨h.perm.symm, fun x => (h.cls x).symm⟩
/-- there is just one -/
theorem isort_of (O : SrtO.Swo lt) {l m : List α} (h1 : SrtO.Srtd lt m) (h2 : SrtO.Stb lt m l) : m = isort lt l :=
  SrtO.stb_uniq O h1 (isort_srt O l) (h2.trans (stb_symm (isort_stb O l)))
end
theorem swoZ : SrtO.Swo ltZ := ⟨fun x y h => by simp at h ⊢; omega, fun x y z h1 h2 => by simp at h1 h2 ⊢; omega⟩
theorem swoT : SrtO.Swo ltT := ⟨fun x y h => by
    simp only [decide_eq_true_eq, decide_eq_false_iff_not] at h ⊢
    exact fun z => List.lt_irrefl _ (List.lt_trans h z), fun x y z h1 h2 => by
    simp only [decide_eq_false_iff_not] at h1 h2 ⊢
    exact fun z1 => h2 (Std.lt_of_lt_of_le z1 (List.not_lt.mp h1))⟩
def sv : Value → Str
  | .str x _ => x
  | _ => Str.empty
theorem strs_mem : ∀ {vs : List Value} {ss : List Str}, StrsAre vs ss → ∀ v ∈ vs, ∃ i t, v = Value.str i t
  | _, _, .nil, v, h => absurd h (by simp)
  | _, _, .cons n t r, v, h => by
    rcases List.mem_cons.mp h with e | h
    · exact ⟨n, t, e⟩
    · exact strs_mem r v h
theorem strs_sv : ∀ {vs : List Value}, (∀ v ∈ vs, ∃ i t, v = Value.str i t) → StrsAre vs (vs.map sv)
  | [], _ => .nil
  | v :: vs, h => by
    obtain ⟨i, t, e⟩ := h v List.mem_cons_self
    subst e
    exact .cons i t (strs_sv fun u hu => h u (List.mem_cons_of_mem _ hu))
theorem sv_strs : ∀ {vs : List Value} {ns : List Str}, StrsAre vs ns → vs.map sv = ns
  | _, _, .nil => rfl
  | _, _, .cons n t r => congrArg (n :: ·) (sv_strs r)
/-! ### sorted(..) of what is collected -/
section
variable {prog : Program} {w : World} {A : Around} {E : Value → Shared → Prop} {s : Shared}
theorem sorted_src {r : Addr} {vs : List Value} {ltv : Value → Value → Bool} {Q : Value → Shared → Prop} (O : SrtO.Swo ltv)
    (hcol : ∀ (Q : List Value → Shared → Prop) (E : Value → Shared → Prop), (∀ (h' : Heap) (tk : Nat), (∀ b o, s.heap.get? b = some o → h'.get? b = some o) → s.heap.objs.size ≤ h'.objs.size → Q vs { s with heap := h', toks := tk }) → wpAny (model prog w) A.in1 (collect (.ref r)) Q E s)
    (hz : vs.length ≤ sizeLine) (hS : 2 ≤ vs.length → ∀ (s₁ : Shared) (a : Addr), SrtO.SortableO prog w A.in1.in1 s₁ a vs ltv)
    (h : ∀ (out : List Value) (h' : Heap) (tk : Nat) (D : Addr) (n : Nat), SrtO.Srtd ltv out → SrtO.Stb ltv out vs → (∀ b o, s.heap.get? b = some o → h'.get? b = some o) → s.heap.objs.size ≤ D → h'.get? D = some (seqObj "list" out.toArray n) → Q (.ref D) { s with heap := h', toks := tk }) :
    wpAny (model prog w) A (PySem.call (.builtin "sorted") [.ref r]) Q E s := by
  refine Calls.call_function_entry kind_sorted plain_sorted entry_sorted (args_sorted1 _) ?_
  unfold Builtin.«sorted»
  refine wpAny_bind (m := checkCount "sorted" 1 1 _) (wpAny_pure ?_)
  refine wpAny_bind (hcol _ _ fun h' tk hk hsz => ?_)
  refine wpAny_bind (wpAny_newList ?_ hz)
  have hoL : (h'.push (seqObj "list" vs.toArray 0)).get? h'.objs.size = some (seqObj "list" vs.toArray 0) := Heap.get?_push_size _ rfl
  refine wpAny_bind (wpAny_holding (wpAny_call_entry slot_list_sort ⟨_, hoL, rfl⟩ entry_list_sort (SrtO.list_sort_ord O hoL hz (fun h2 => hS h2 _ _) fun out hs hb => ⟨_, rfl, ?_⟩) (args_list_sort _)))
  obtain ⟨n, he⟩ := sortedHeap_at (vs := vs) (out := out.toArray) hoL
  refine wpAny_pure ⟨_, rfl, h out _ _ _ n hs hb (fun b o e => ?_) hsz he⟩
  have e1 := hk _ _ e
  have hlt := Heap.lt_size e1
  rw [sortedHeap_old (Nat.ne_of_lt hlt) (Nat.lt_of_lt_of_le hlt (by rw [Heap.size_push]; exact Nat.le_succ _))]
  exact Heap.get?_push_of_some _ e1
theorem strs_sortable {a : Addr} {vs : List Value} {ss : List Str} (hI : StrsAre vs ss) (h2 : 2 ≤ vs.length) : SrtO.SortableO prog w A s a vs fun v u => ltT (sv v) (sv u) := by
  intro h' _
  refine ⟨oneType', fun Q E hq => ?_, fun p q hm hm' => ?_⟩
  · match vs, hI, h2 with
    | v1 :: v2 :: rest, hI, _ =>
      rw [keyKind_strs hI]
      exact wpAny_pure hq
    | [], _, h => exact absurd h (by decide)
    | [v], _, h => exact absurd h (by simp)
  · obtain ⟨x, t, e⟩ := strs_mem hI _ hm
    obtain ⟨y, u, e'⟩ := strs_mem hI _ hm'
    show wpAny (model prog w) A (keyLt' oneType' p.1 q.1) (fun r s' => s' = _ ∧ r = ltT (sv p.1) (sv q.1)) (fun _ _ => False) _
    rw [e, e', keyLt'_oneType]
    exact oneLt_str ⟨rfl, rfl⟩
end
section
variable {K : FK} {φ : Ph} {H : Hp}
theorem allB_rep : ∀ {vs : List PV} {xs : List V} {bs : List Bool}, Reps K φ H xs vs → allB vs = some bs → xs = bs.map V.bl
  | [], _, _, h, e => by cases h; cases e; rfl
  | v :: vs, _, bs, h, e => by
    cases h with
    | cons p q =>
      cases v <;> simp only [allB, reduceCtorEq] at e <;> try (cases e; done)
      cases f : allB vs with
      | none => rw [f] at e; cases e
      | some cs =>
        rw [f] at e
        cases e
        cases p
        rw [List.map_cons, allB_rep q f]
theorem allI_rep : ∀ {vs : List PV} {xs : List V} {bs : List Int}, Reps K φ H xs vs → allI vs = some bs → xs = bs.map V.int
  | [], _, _, h, e => by cases h; cases e; rfl
  | v :: vs, _, bs, h, e => by
    cases h with
    | cons p q =>
      cases v <;> simp only [allI, reduceCtorEq] at e <;> try (cases e; done)
      cases f : allI vs with
      | none => rw [f] at e; cases e
      | some cs =>
        rw [f] at e
        cases e
        cases p
        rw [List.map_cons, allI_rep q f]
theorem allS_rep : ∀ {vs : List PV} {xs : List V} {bs : List Str}, Reps K φ H xs vs → allS vs = some bs → xs = bs.map V.str ∧ ∀ b ∈ bs, strOk b
  | [], _, _, h, e => by cases h; cases e; exact ⟨rfl, fun _ h => absurd h (by simp)⟩
  | v :: vs, _, bs, h, e => by
    cases h with
    | cons p q =>
      cases v <;> simp only [allS, reduceCtorEq] at e <;> try (cases e; done)
      cases f : allS vs with
      | none => rw [f] at e; cases e
      | some cs =>
        rw [f] at e
        cases e
        cases p with
        | str k =>
          obtain ⟨h1, h2⟩ := allS_rep q f
          exact ⟨by rw [List.map_cons, h1], fun b hb => (List.mem_cons.mp hb).elim (fun e => e ▸ k) (h2 b)⟩
theorem Reps.strsL : ∀ {ss : List Str}, (∀ s ∈ ss, strOk s) → Reps K φ H (ss.map V.str) (ss.map PV.str)
  | [], _ => .nil
  | s :: ss, h => .cons (.str (h s List.mem_cons_self)) (Reps.strsL fun t ht => h t (List.mem_cons_of_mem _ ht))
theorem sorted_vals {its : List Value} {xs : List V} {vs ps : List PV} (rv : Vals xs its) (rr : Reps K φ H xs vs) (hs : sortP vs = some ps) : ∃ ltv : Value → Value → Bool, SrtO.Swo ltv ∧
    (2 ≤ its.length → ∀ (prog : Program) (w : World) (A : Around) (s : Shared) (a : Addr), SrtO.SortableO prog w A s a its ltv) ∧
    ∀ out, SrtO.Srtd ltv out → SrtO.Stb ltv out its → ∃ zs, Vals zs out ∧ zs.length = xs.length ∧ Reps K φ H zs ps := by
  unfold sortP at hs
  cases hi : allI vs with
  | some ns =>
    rw [hi] at hs
    cases hs
    have e := allI_rep rr hi
    subst e
    have hI := rv.ints
    refine ⟨SrtO.ltIv, SrtO.swo_int, fun h2 prog w A s a => SrtO.ints_sortable hI h2, fun out h1 h2 => ?_⟩
    obtain ⟨k1, k2, k3⟩ := SrtO.ints_out hI h1 h2
    have e1 : out.map SrtO.iv = isort ltZ ns := by
      refine isort_of swoZ (SrtO.srtd_map (f := SrtO.iv) (lt := ltZ) h1) ?_
      have := SrtO.Stb.map (lt := ltZ) swoZ SrtO.iv h2
      rw [SrtO.iv_ints hI] at this
      exact this
    refine ⟨(out.map SrtO.iv).map V.int, vals_of_ints k1, by simpa using k2.length_eq, ?_⟩
    rw [e1]
    exact Reps.ints _
  | none =>
    rw [hi] at hs
    cases hq : allS vs with
    | none => rw [hq] at hs; cases hs
    | some ss =>
      rw [hq] at hs
      cases hs
      obtain ⟨e, hok⟩ := allS_rep rr hq
      subst e
      have hI := strsAre_of rv
      refine ⟨fun v u => ltT (sv v) (sv u), ⟨fun x y => swoT.asym _ _, fun x y z => swoT.tr _ _ _⟩, fun h2 prog w A s a => strs_sortable hI h2, fun out h1 h2 => ?_⟩
      have k1 : StrsAre out (out.map sv) := strs_sv fun v hv => strs_mem hI v (h2.perm.mem_iff.mp hv)
      have e2 : its.map sv = ss := sv_strs hI
      have e1 : out.map sv = isort ltT ss := by
        refine isort_of swoT (SrtO.srtd_map (f := sv) (lt := ltT) h1) ?_
        have := SrtO.Stb.map (lt := ltT) swoT sv h2
        rw [e2] at this
        exact this
      refine ⟨(out.map sv).map V.str, vals_of_strs k1, ?_, ?_⟩
      · rw [List.length_map, List.length_map, List.length_map, h2.len, ← e2, List.length_map]
      · rw [e1]
        exact Reps.strsL fun s hs => hok s ((isort_stb swoT ss).perm.mem_iff.mp hs)
end
section
variable {X : Cx} {K : FK} {φ : Ph} {H : Hp} {pins : List (Addr × Obj)} {σ : L2.St} {s : Shared}
theorem sorted_list {a : Addr} {xs : List V} {vs ps : List PV} {Q : VK} (I : Inv X pins σ H s) (hs : SqL X.K H a xs) (rr : Reps K φ H xs vs) (sp : sortP vs = some ps)
    (q : ∀ zs p, Reps K φ H zs ps → H p = none → Q (.ref p) (upd H p (.lst zs))) : wpAny (model X.prog X.w) X.A (PySem.call (.builtin "sorted") [.ref a]) (EP X pins σ Q) X.xe s := by
  obtain ⟨its, rv, hl, hz⟩ := I.list hs
  obtain ⟨ltv, O, hS, hout⟩ := sorted_vals rv rr sp
  refine SrtO.sorted_ord O hl.isList (by rw [← rv.length]; exact hz) (fun h2 h₁ a' _ _ => hS h2 _ _ _ _ _) fun out h1 h2 => ?_
  obtain ⟨zs, z1, z2, z3⟩ := hout out h1 h2
  obtain ⟨ep, he'⟩ := PyProof.Rows.sortedAll_at s.heap its out.toArray
  exact ⟨.ref _, upd H (s.heap.objs.size + 1) (.lst zs), I.laid (t' := s.toks) (fun _ _ => PyProof.Rows.sortedAll_old) (Nat.le_succ _) ⟨by rw [z2]; exact hz, out, ep, z1, he'⟩, rfl, q _ _ z3 (I.hok.fresh (Nat.le_succ _))⟩
theorem sorted_dict {a : Addr} {n : Bool} {ks vs ps : List PV} {kx : List V} {es : Array DictEntry} {ep : Nat} {Q : VK} (hc : X.calm = true) (I : Inv X pins σ H s) (d : DRaw X K φ H s a n ks vs kx es ep) (sp : sortP ks = some ps)
    (q : ∀ zs p, Reps K φ H zs ps → H p = none → Q (.ref p) (upd H p (.lst zs))) : wpAny (model X.prog X.w) X.A (PySem.call (.builtin "sorted") [.ref a]) (EP X pins σ Q) X.xe s := by
  obtain ⟨ltv, O, hS, hout⟩ := sorted_vals d.keys d.rep sp
  have hlen : (es.toList.map (·.key)).length ≤ sizeLine := by rw [List.length_map, Array.length_toList]; exact d.line
  refine sorted_src O (vs := es.toList.map (·.key)) (fun Q E hq => ?_) hlen (fun h2 s₁ a => hS h2 _ _ _ _ _) fun out h' tk D n h1 h2 hk hD hat => ?_
  · refine collect_src (A := X.A.in1) (KdlSrc.rawDict d.sys) (I.ok.hd hc) d.raw d.line fun h' tk acc hk hz hi => ?_
    rw [keys_of_items hi]
    exact hq h' tk hk (Nat.le_of_lt hz)
  · obtain ⟨zs, z1, z2, z3⟩ := hout out h1 h2
    exact ⟨.ref D, upd H D (.lst zs), I.laid (t' := tk) hk hD ⟨by rw [z2, d.keys.length]; exact hlen, out, n, z1, hat⟩, rfl, q _ _ z3 (I.hok.fresh hD)⟩
theorem allI_map : ∀ ns : List Int, allI (ns.map PV.int) = some ns
  | [] => rfl
  | n :: ns => by
    rw [List.map_cons]; unfold allI; rw [allI_map ns]; rfl
theorem allI_perm {vs ws : List PV} {ns : List Int} (p : vs.Perm ws) (e : allI vs = some ns) : ∃ ms, allI ws = some ms ∧ ms.Perm ns := by
  have inv : ∀ {vs : List PV} {ns : List Int}, allI vs = some ns → vs = ns.map PV.int := by
    intro vs
    induction vs with
    | nil => intro ns e; cases e; rfl
    | cons v vs ih =>
      intro ns e
      cases v <;> simp only [allI, reduceCtorEq] at e <;> try (cases e; done)
      cases f : allI vs with
      | none => rw [f] at e; cases e
      | some cs => rw [f] at e; cases e; rw [List.map_cons, ih f]
  have e1 := inv e
  subst e1
  have q : ∀ {l : List Int} {ws : List PV}, (l.map PV.int).Perm ws → ∃ ms : List Int, ws = ms.map PV.int ∧ ms.Perm l := by
    intro l ws p
    have all : ∀ v ∈ ws, ∃ i, v = PV.int i := fun v hv => by
      obtain ⟨i, _, rfl⟩ := List.mem_map.mp (p.mem_iff.mpr hv)
      exact ⟨i, rfl⟩
    refine ⟨ws.map fun v => match v with | .int i => i | _ => 0, ?_, ?_⟩
    · rw [List.map_map]
      conv => lhs; rw [← List.map_id ws]
      refine List.map_congr_left fun v hv => ?_
      obtain ⟨i, rfl⟩ := all v hv
      rfl
    · have := p.map fun v => match v with | PV.int i => i | _ => 0
      rw [List.map_map] at this
      exact (this.symm.trans (by rw [show ((fun v => match v with | PV.int i => i | _ => 0) ∘ PV.int) = id from rfl, List.map_id]))
  obtain ⟨ms, rfl, pm⟩ := q p
  exact ⟨ms, allI_map ms, pm⟩
theorem allS_map : ∀ ns : List Str, allS (ns.map PV.str) = some ns
  | [] => rfl
  | n :: ns => by
    rw [List.map_cons]; unfold allS; rw [allS_map ns]; rfl
theorem allS_perm {vs ws : List PV} {ns : List Str} (p : vs.Perm ws) (e : allS vs = some ns) : ∃ ms, allS ws = some ms ∧ ms.Perm ns := by
  have inv : ∀ {vs : List PV} {ns : List Str}, allS vs = some ns → vs = ns.map PV.str := by
    intro vs
    induction vs with
    | nil => intro ns e; cases e; rfl
    | cons v vs ih =>
      intro ns e
      cases v <;> simp only [allS, reduceCtorEq] at e <;> try (cases e; done)
      cases f : allS vs with
      | none => rw [f] at e; cases e
      | some cs => rw [f] at e; cases e; rw [List.map_cons, ih f]
  have e1 := inv e
  subst e1
  have q : ∀ {l : List Str} {ws : List PV}, (l.map PV.str).Perm ws → ∃ ms : List Str, ws = ms.map PV.str ∧ ms.Perm l := by
    intro l ws p
    have all : ∀ v ∈ ws, ∃ i, v = PV.str i := fun v hv => by
      obtain ⟨i, _, rfl⟩ := List.mem_map.mp (p.mem_iff.mpr hv)
      exact ⟨i, rfl⟩
    refine ⟨ws.map fun v => match v with | .str i => i | _ => "", ?_, ?_⟩
    · rw [List.map_map]
      conv => lhs; rw [← List.map_id ws]
      refine List.map_congr_left fun v hv => ?_
      obtain ⟨i, rfl⟩ := all v hv
      rfl
    · have := p.map fun v => match v with | PV.str i => i | _ => ""
      rw [List.map_map] at this
      exact (this.symm.trans (by rw [show ((fun v => match v with | PV.str i => i | _ => "") ∘ PV.str) = id from rfl, List.map_id]))
  obtain ⟨ms, rfl, pm⟩ := q p
  exact ⟨ms, allS_map ms, pm⟩
theorem isort_perm {α : Type} {lt : α → α → Bool} (O : SrtO.Swo lt) (anti : ∀ x y, lt x y = false → lt y x = false → x = y) {l m : List α} (p : l.Perm m) : isort lt l = isort lt m :=
  List.Perm.eq_of_pairwise (le := fun x y => lt y x = false) (fun x y _ _ h1 h2 => anti x y h2 h1) (isort_srt O l) (isort_srt O m) ((isort_stb O l).perm.trans (p.trans (isort_stb O m).perm.symm))
theorem sortP_perm {vs ws ps : List PV} (p : vs.Perm ws) (e : sortP vs = some ps) : sortP ws = some ps := by
  unfold sortP at e ⊢
  cases hi : allI vs with
  | some ns =>
    obtain ⟨ms, e1, e2⟩ := allI_perm p hi
    rw [hi] at e
    rw [e1]
    dsimp only at e ⊢
    rw [← e, isort_perm swoZ (fun x y h1 h2 => by simp at h1 h2; omega) e2]
  | none =>
    cases hj : allI ws with
    | some ms =>
      obtain ⟨ns, e1, _⟩ := allI_perm p.symm hj
      rw [hi] at e1; cases e1
    | none =>
      rw [hi] at e
      dsimp only at e ⊢
      cases hs : allS vs with
      | none => rw [hs] at e; cases e
      | some ss =>
        obtain ⟨ts, e1, e2⟩ := allS_perm p hs
        rw [hs] at e
        rw [e1]
        simp only [Option.map_some, Option.some.injEq] at e ⊢
        rw [← e, isort_perm swoT (fun x y h1 h2 => by
          simp only [decide_eq_false_iff_not, List.not_lt] at h1 h2
          have := List.le_antisymm h2 h1
          cases x; cases y
          simp only [Str.mk.injEq]
          exact Array.toList_inj.mp this) e2]
/-- a set's members, sorted -/
theorem sorted_set' {a : Addr} {ks : List Key} {ps : List PV} {Q : VK} (hc : X.calm = true) (I : Inv X pins σ H s) (hX : KX X K) (e : L2.Rd H a (STO K a ks)) (hk : ∀ k ∈ ks, strK k) (sp : sortP (ks.map kP) = some ps)
    (q : ∀ zs p, Reps K φ H zs ps → H p = none → Q (.ref p) (upd H p (.lst zs))) : wpAny (model X.prog X.w) X.A (PySem.call (.builtin "sorted") [.ref a]) (EP X pins σ Q) X.xe s := by
  obtain ⟨ob, rows, ep, tb, q0, qx, qd, gr, pm, nd, bd, ft, ri, ld⟩ := sto_get I hX e
  refine Calls.call_function_entry kind_sorted plain_sorted entry_sorted (args_sorted1 _) ?_
  unfold Builtin.«sorted»
  refine wpAny_bind (m := checkCount "sorted" 1 1 _) (wpAny_pure ?_)
  refine wpAny_bind (collect_set (A := X.A.in1) (I.ok.hd hc) ⟨ob, q0, qx.1, qd⟩ ft bd ri ld fun s1 vs kp hz g1 o1 vp => ?_)
  have vpk : (vs.map kyv).Perm ks := by
    have := vp.map kyv
    rw [List.map_map] at this
    exact this.trans pm
  have rel : Vals ((vs.map kyv).map kV) vs := by
    have gv : ∀ v ∈ vs, (mixKind X.prog X.w).is (kyv v) v = true := fun v hv => by
      obtain ⟨r, hr, rfl⟩ := List.mem_map.mp (vp.mem_iff.mp hv)
      exact (gr r hr).1.1
    clear vp vpk
    induction vs with
    | nil => exact .nil
    | cons v vs ih => exact .cons (relV_key (gv v List.mem_cons_self)) (ih fun u hu => gv u (List.mem_cons_of_mem _ hu))
  have hk2 : ∀ k ∈ vs.map kyv, strK k := fun k z => hk k (vpk.mem_iff.mp z)
  obtain ⟨ltv, O, hS, hout⟩ := sorted_vals (φ := φ) (H := H) rel (Reps.ofKeys (K := K) hk2) (sortP_perm (vpk.symm.map kP) sp)
  have vl : vs.length ≤ sizeLine := by
    have e1 : vs.length = rows.size := by rw [vp.length_eq, List.length_map]; exact Array.length_toList
    rw [e1]; exact fits_of_scanBound bd
  refine wpAny_bind (wpAny_newList ?_ vl)
  have hoL : (s1.heap.push (seqObj "list" vs.toArray 0)).get? s1.heap.objs.size = some (seqObj "list" vs.toArray 0) := Heap.get?_push_size _ rfl
  refine wpAny_bind (wpAny_holding (wpAny_call_entry slot_list_sort ⟨_, hoL, rfl⟩ entry_list_sort (SrtO.list_sort_ord O hoL vl (fun h2 => hS h2 _ _ _ _ _) fun out h1 h2 => ⟨_, rfl, ?_⟩) (args_list_sort _)))
  obtain ⟨zs, z1, z2, z3⟩ := hout out h1 h2
  obtain ⟨n, he⟩ := sortedHeap_at (vs := vs) (out := out.toArray) hoL
  have keep : ∀ b ob, s.heap.get? b = some ob → (sortedHeap (s1.heap.push (seqObj "list" vs.toArray 0)) s1.heap.objs.size vs out.toArray).get? b = some ob := fun b ob q => by
    have q1 := kp _ _ q
    have hlt := Heap.lt_size q1
    rw [sortedHeap_old (Nat.ne_of_lt hlt) (by rw [Heap.size_push]; exact Nat.lt_succ_of_lt hlt)]
    exact Heap.get?_push_of_some _ q1
  have hn : H s1.heap.objs.size = none := I.hok.fresh hz
  obtain ⟨h1', g1', d1', t1', o1'⟩ := s1
  dsimp only at g1 o1 hn hz he keep ⊢
  subst g1 o1
  exact wpAny_pure ⟨_, rfl, .ref h1'.objs.size, upd H h1'.objs.size (.lst zs), I.call (ch := []) (Un.laid keep hz hn) (I.hok.laid keep hz ⟨by rw [z2, List.length_map, List.length_map]; exact vl, out, n, z1, he⟩) I.bare (fun _ z => nomatch z), rfl, q _ _ z3 hn⟩
end
end Ip

set_option Elab.async false
set_option linter.all false
set_option maxRecDepth 100000
set_option maxHeartbeats 4000000
/-! Ip, part 38: sorted(..) of a list of pairs of keys. -/
namespace Ip
open PySem L2 PySem.Spec PyProof.Rows
theorem ltK_tri (a b : Key) : ltK a b = true ∧ ltK b a = false ∨ ltK b a = true ∧ ltK a b = false ∨ a = b := by
  rcases a with i | x <;> rcases b with j | y
  · rcases Int.lt_trichotomy i j with h | h | h
    · left; simp only [ltK, decide_eq_true_eq, decide_eq_false_iff_not]; omega
    · right; right; rw [h]
    · right; left; simp only [ltK, decide_eq_true_eq, decide_eq_false_iff_not]; omega
  · left; exact ⟨rfl, rfl⟩
  · right; left; exact ⟨rfl, rfl⟩
  · cases h1 : ltT x y with
    | true => left; exact ⟨h1, swoT.asym x y h1⟩
    | false =>
      cases h2 : ltT y x with
      | true => right; left; exact ⟨h2, h1⟩
      | false =>
        right; right
        simp only [decide_eq_false_iff_not, List.not_lt] at h1 h2
        have := List.le_antisymm h2 h1
        cases x; cases y
        simp only [Str.mk.injEq] at this ⊢
        exact congrArg _ (congrArg Str.mk (Array.toList_inj.mp this))
theorem swoK : SrtO.Swo ltK := by
  refine ⟨fun a b h => ?_, fun a b c h1 h2 => ?_⟩
  · rcases ltK_tri a b with ⟨g1, g2⟩ | ⟨g1, g2⟩ | g
    · exact g2
    · rw [g2] at h; cases h
    · subst g; rcases a with i | x
      · simp [ltK] at h
      · exact swoT.asym x x h
  · rcases a with i | x <;> rcases b with j | y <;> rcases c with k | z <;> first | rfl | (exact swoZ.tr _ _ _ h1 h2) | (exact swoT.tr _ _ _ h1 h2) | (simp [ltK] at h1; done) | (simp [ltK] at h2; done)
theorem ltK_irr (a : Key) : ltK a a = false := by
  cases h : ltK a a with
  | false => rfl
  | true => have := swoK.asym a a h; rw [h] at this; cases this
theorem swoPr : SrtO.Swo ltPr := by
  refine ⟨fun p q h => ?_, fun p q r h1 h2 => ?_⟩
  · unfold ltPr at h ⊢
    by_cases e : p.1 = q.1
    · rw [if_pos e] at h
      rw [if_pos e.symm]
      exact swoK.asym _ _ h
    · rw [if_neg e] at h
      rw [if_neg fun z => e z.symm]
      exact swoK.asym _ _ h
  · unfold ltPr at h1 h2 ⊢
    by_cases e : p.1 = q.1
    · rw [if_pos e.symm] at h1
      by_cases e2 : q.1 = r.1
      · rw [if_pos e2.symm] at h2
        rw [if_pos (e.trans e2).symm]
        exact swoK.tr _ _ _ h1 h2
      · rw [if_neg fun z => e2 z.symm] at h2
        rw [if_neg fun z => e2 (e.symm.trans z.symm), e]
        exact h2
    · rw [if_neg fun z => e z.symm] at h1
      by_cases e2 : q.1 = r.1
      · rw [if_neg fun z => e (z.symm.trans e2.symm), ← e2]
        exact h1
      · rw [if_neg fun z => e2 z.symm] at h2
        have h3 := swoK.tr _ _ _ h1 h2
        by_cases e3 : r.1 = p.1
        · rw [e3] at h2
          rcases ltK_tri q.1 p.1 with ⟨g1, g2⟩ | ⟨g1, g2⟩ | g
          · rw [g1] at h1; cases h1
          · rw [g1] at h2; cases h2
          · exact absurd g.symm e
        · rw [if_neg e3]
          exact h3
/-- the pair that stands at a value -/
def prOf (h : Heap) (v : Value) : Key × Key := match v with
  | .ref a => match h.get? a with
    | some o => match o.data with
      | .seq xs _ => (kyv (xs.getD 0 .none), kyv (xs.getD 1 .none))
      | _ => (.inl 0, .inl 0)
    | none => (.inl 0, .inl 0)
  | _ => (.inl 0, .inl 0)
def PrAt (h : Heap) (v : Value) (p : Key × Key) : Prop := ∃ (a : Addr) (o : Obj) (n : Nat) (u1 u2 : Value), v = .ref a ∧ h.get? a = some o ∧ o.cls = .type "tuple" ∧ o.data = .seq #[u1, u2] n ∧ RelV (kV p.1) u1 ∧ RelV (kV p.2) u2
theorem kyv_rel {k : Key} {u : Value} (r : RelV (kV k) u) : kyv u = k := by
  cases k with
  | inl i => obtain ⟨t, e⟩ := (show ∃ t, u = Value.int i t from r); rw [e]; rfl
  | inr y => obtain ⟨t, e⟩ := (show ∃ t, u = Value.str y t from r); rw [e]; rfl
theorem PrAt.of {h : Heap} {v : Value} {p : Key × Key} (x : PrAt h v p) : prOf h v = p := by
  obtain ⟨a, o, n, u1, u2, rfl, h1, h2, h3, r1, r2⟩ := x
  unfold prOf
  dsimp only
  rw [h1]
  dsimp only
  rw [h3]
  show (kyv u1, kyv u2) = p
  rw [kyv_rel r1, kyv_rel r2]
theorem PrAt.keep {h h' : Heap} {v : Value} {p : Key × Key} (x : PrAt h v p) (k : ∀ b o, h.get? b = some o → o.cls = .type "tuple" → h'.get? b = some o) : PrAt h' v p := by
  obtain ⟨a, o, n, u1, u2, e, h1, h2, h3, r⟩ := x
  exact ⟨a, o, n, u1, u2, e, k _ _ h1 h2, h2, h3, r⟩
def tyK (b : Bool) : String := if b then "int" else "str"
section
variable {prog : Program} {w : World} {A : Around} {E : Value → Shared → Prop} {s : Shared} {b1 b2 : Bool}
theorem oneLt_keys (c : Bool) {j k : Key} {u v : Value} (ru : RelV (kV j) u) (rv : RelV (kV k) v) (hk : j.isLeft = k.isLeft) {Q : Bool → Shared → Prop} (h : Q (ltK j k) s) : wpAny (model prog w) A (oneLt' c u v) Q E s := by
  rcases j with i | x <;> rcases k with l | y <;> simp at hk
  · obtain ⟨t, rfl⟩ := (show ∃ t, u = Value.int i t from ru)
    obtain ⟨t2, rfl⟩ := (show ∃ t, v = Value.int l t from rv)
    cases c with
    | true => exact oneLt_int h
    | false => exact PySem.W.kat_one _ _ (PyProof.Rows.lt_int (Q := PySem.W.BoolBack Q) h)
  · obtain ⟨t, rfl⟩ := (show ∃ t, u = Value.str x t from ru)
    obtain ⟨t2, rfl⟩ := (show ∃ t, v = Value.str y t from rv)
    cases c with
    | true => exact oneLt_str h
    | false => exact PySem.W.kat_one _ _ (PyProof.Rows.lt_str (Q := PySem.W.BoolBack Q) h)
theorem pairs_cmp {vs : List Value} (hv : ∀ v ∈ vs, ∃ p, PrAt s.heap v p ∧ p.1.isLeft = b1 ∧ p.2.isLeft = b2) : SrtO.Cmp prog w A s (tuples' true) (fun p => p.1 ∈ vs) (SrtO.lt2 fun v u => ltPr (prOf s.heap v) (prOf s.heap u)) := by
  intro p q hp hq
  obtain ⟨k, x1, e1, e2⟩ := hv _ hp
  obtain ⟨l, x2, e3, e4⟩ := hv _ hq
  show wpAny (model prog w) A (keyLt' (tuples' true) p.1 q.1) (fun r s' => s' = s ∧ r = ltPr (prOf s.heap p.1) (prOf s.heap q.1)) (fun _ _ => False) s
  rw [x1.of, x2.of]
  obtain ⟨a, o, n, u1, u2, g1, g2, g3, g4, r1, r2⟩ := x1
  obtain ⟨a', o', n', v1, v2, f1, f2, f3, f4, t1, t2⟩ := x2
  rw [g1, f1]
  refine PySem.W.kat_lt g2 g4 f2 f4 ?_
  show PySem.W.KatLex prog w A true _ _ [(u1, v1), (u2, v2)] 0 s
  refine PySem.W.kat_cons ((mixKind prog w).eqBool (kV_is r1) (kV_is t1) ?_)
  unfold ltPr
  by_cases d1 : k.1 = l.1
  · rw [decide_eq_true d1]
    refine PySem.W.kat_yes (PySem.W.kat_cons ((mixKind prog w).eqBool (kV_is r2) (kV_is t2) ?_))
    by_cases d2 : k.2 = l.2
    · rw [decide_eq_true d2]
      refine PySem.W.kat_yes (PySem.W.kat_nil ⟨rfl, ?_⟩)
      rw [if_pos d1, d2, ltK_irr]
      rfl
    · rw [decide_eq_false d2]
      exact PySem.W.kat_no (oneLt_keys _ r2 t2 (e2.trans e4.symm) ⟨rfl, by rw [if_pos d1]⟩)
  · rw [decide_eq_false d1]
    exact PySem.W.kat_no (oneLt_keys _ r1 t1 (e1.trans e3.symm) ⟨rfl, by rw [if_neg d1]⟩)
theorem pairs_firsts {h : Heap} : ∀ {vs : List Value}, (∀ v ∈ vs, ∃ p, PrAt h v p ∧ p.1.isLeft = b1 ∧ p.2.isLeft = b2) → ∃ fs, PySem.W.KatTups h vs fs ∧ fs.length = vs.length ∧ ∀ f ∈ fs, ∃ k : Key, RelV (kV k) f ∧ k.isLeft = b1
  | [], _ => ⟨[], .nil, rfl, fun f hf => absurd hf (by simp)⟩
  | v :: vs, x => by
    obtain ⟨fs, k, hl, hi⟩ := pairs_firsts fun u hu => x u (List.mem_cons_of_mem _ hu)
    obtain ⟨p, ⟨a, o, n, u1, u2, rfl, g2, g3, g4, r1, r2⟩, e1, e2⟩ := x v List.mem_cons_self
    refine ⟨u1 :: fs, .cons g2 g3 g4 rfl k, by simp [hl], fun f hf => ?_⟩
    rcases List.mem_cons.mp hf with rfl | hf
    · exact ⟨p.1, r1, e1⟩
    · exact hi f hf
theorem pairs_sortable {a : Addr} {vs : List Value} (hv : ∀ v ∈ vs, ∃ p, PrAt s.heap v p ∧ p.1.isLeft = b1 ∧ p.2.isLeft = b2) (h2 : 2 ≤ vs.length) (ha : ∀ o, s.heap.get? a = some o → o.cls ≠ .type "tuple") : SrtO.SortableO prog w A s a vs fun v u => ltPr (prOf s.heap v) (prOf s.heap u) := by
  intro h' keep
  have kp : ∀ b o, s.heap.get? b = some o → o.cls = .type "tuple" → h'.get? b = some o := fun b o q c => keep b o (fun z => ha o (z ▸ q) c) q
  have hv' : ∀ v ∈ vs, ∃ p, PrAt h' v p ∧ p.1.isLeft = b1 ∧ p.2.isLeft = b2 := fun v m => by
    obtain ⟨p, x, e⟩ := hv v m
    exact ⟨p, x.keep kp, e⟩
  refine ⟨tuples' true, fun Q E hq => ?_, ?_⟩
  · obtain ⟨fs, k, hl, hi⟩ := pairs_firsts hv'
    refine PySem.W.kat_kind (T := Value.type (tyK b1)) k (by omega) (fun f hf => ?_) (by cases b1 <;> rfl) (by cases b1 <;> exact hq)
    obtain ⟨kk, r, e⟩ := hi f hf
    cases kk with
    | inl i =>
      obtain ⟨t, rfl⟩ := (show ∃ t, f = Value.int i t from r)
      have e : b1 = true := e.symm
      subst e
      exact PySem.W.Looks.of_pure rfl
    | inr x =>
      obtain ⟨t, rfl⟩ := (show ∃ t, f = Value.str x t from r)
      have e : b1 = false := e.symm
      subst e
      exact PySem.W.Looks.of_pure rfl
  · have c := pairs_cmp (prog := prog) (w := w) (A := A) (s := { s with heap := h' }) hv'
    intro p q hp hq
    have := c p q hp hq
    obtain ⟨k, x1, _⟩ := hv _ hp
    obtain ⟨l, x2, _⟩ := hv _ hq
    have e1 : prOf h' p.1 = prOf s.heap p.1 := by rw [(x1.keep kp).of, x1.of]
    have e2 : prOf h' q.1 = prOf s.heap q.1 := by rw [(x2.keep kp).of, x2.of]
    have e : SrtO.lt2 (fun v u => ltPr (prOf h' v) (prOf h' u)) p q = SrtO.lt2 (fun v u => ltPr (prOf s.heap v) (prOf s.heap u)) p q := by
      show ltPr (prOf h' p.1) (prOf h' q.1) = ltPr (prOf s.heap p.1) (prOf s.heap q.1)
      rw [e1, e2]
    rw [← e]
    exact this
end
theorem keyO_inv {v : PV} {k : Key} (h : keyO v = some k) : v = kP k := by
  cases v <;> simp only [keyO, reduceCtorEq] at h <;> cases h <;> rfl
theorem allPr_inv : ∀ {vs : List PV} {l : List (Key × Key)}, allPr vs = some l → vs = l.map prP
  | [], l, h => by cases h; rfl
  | v :: vs, l, h => by
    unfold allPr at h
    split at h
    · rename_i p l' h1 h2
      cases h
      rw [List.map_cons, ← allPr_inv h2]
      congr 1
      unfold pairO at h1
      split at h1
      · split at h1
        · rename_i x y e1 e2
          cases h1
          rw [keyO_inv e1, keyO_inv e2]
          rfl
        · cases h1
      · cases h1
    · cases h
theorem Rep.key {K : FK} {φ : Ph} {H : Hp} {x : V} {k : Key} (h : Rep K φ H x (kP k)) : x = kV k := by
  cases k with
  | inl i => have h : Rep K φ H x (.int i) := h; cases h; rfl
  | inr y => have h : Rep K φ H x (.str y) := h; cases h; rfl
section
variable {X : Cx} {K : FK} {φ : Ph} {H : Hp} {pins : List (Addr × Obj)} {σ : L2.St} {s : Shared}
theorem rep_pair (I : Inv X pins σ H s) (hK : X.K = K.K) {x : V} {p : Key × Key} (r : Rep K φ H x (prP p)) : ∃ t, x = .ref t ∧ PrAt s.heap (.ref t) p := by
  have r : Rep K φ H x (.tup [kP p.1, kP p.2]) := r
  cases r with
  | tup pt rr =>
    rename_i a ys
    cases rr with
    | cons q1 rr =>
      cases rr with
      | cons q2 rr =>
        cases rr
        rw [q1.key, q2.key] at pt
        have p' := pt.sq
        rw [← hK] at p'
        obtain ⟨its, rv, ⟨o, h1, h2, n, h3⟩, _⟩ := I.tuple p'
        obtain ⟨u1, u2, e, r1, r2⟩ := vals2 rv
        refine ⟨a, rfl, a, o, n, u1, u2, rfl, h1, h2, ?_, r1, r2⟩
        rw [h3]
        congr 1
        exact Array.toList_inj.mp e
theorem reps_pairs (I : Inv X pins σ H s) (hK : X.K = K.K) : ∀ {l : List (Key × Key)} {xs : List V} {its : List Value}, Reps K φ H xs (l.map prP) → Vals xs its → its.map (prOf s.heap) = l ∧ xs = its.map bkV ∧ ∀ v ∈ its, PrAt s.heap v (prOf s.heap v) ∧ prOf s.heap v ∈ l ∧ Rep K φ H (bkV v) (prP (prOf s.heap v)) ∧ RelV (bkV v) v
  | [], _, _, h, r => by cases h; cases r; exact ⟨rfl, rfl, fun v hv => absurd hv (by simp)⟩
  | p :: l, _, _, h, r => by
    rw [List.map_cons] at h
    cases h with
    | cons h1 h2 =>
      cases r with
      | cons r1 r2 =>
        obtain ⟨e1, e2, e3⟩ := reps_pairs I hK h2 r2
        obtain ⟨t, rfl, at_⟩ := rep_pair I hK h1
        cases r1
        have ep := at_.of
        refine ⟨by rw [List.map_cons, e1, ep], by rw [List.map_cons, ← e2]; rfl, fun v hv => ?_⟩
        rcases List.mem_cons.mp hv with rfl | hv
        · rw [ep]
          exact ⟨at_, List.mem_cons_self, h1, rfl⟩
        · obtain ⟨g1, g2, g3⟩ := e3 v hv
          exact ⟨g1, List.mem_cons_of_mem _ g2, g3⟩
theorem sorted_listQ {a : Addr} {xs : List V} {vs ps : List PV} {Q : VK} (I : Inv X pins σ H s) (hX : KX X K) (hs : SqL X.K H a xs) (rr : Reps K φ H xs vs) (sp : sortQ vs = some ps)
    (q : ∀ zs p, Reps K φ H zs ps → H p = none → Q (.ref p) (upd H p (.lst zs))) : wpAny (model X.prog X.w) X.A (PySem.call (.builtin "sorted") [.ref a]) (EP X pins σ Q) X.xe s := by
  obtain ⟨its, rv, hl, hz⟩ := I.list hs
  unfold sortQ at sp
  split at sp
  · rename_i l el
    split at sp
    · rename_i sk
      cases sp
      have ev := allPr_inv el
      subst ev
      obtain ⟨e1, e2, e3⟩ := reps_pairs I hX.k rr rv
      obtain ⟨b1, b2, hb⟩ : ∃ b1 b2, ∀ p ∈ l, p.1.isLeft = b1 ∧ p.2.isLeft = b2 := by
        cases l with
        | nil => exact ⟨true, true, fun p hp => absurd hp (by simp)⟩
        | cons p l =>
          refine ⟨p.1.isLeft, p.2.isLeft, fun q hq => ?_⟩
          rcases List.mem_cons.mp hq with rfl | hq
          · exact ⟨rfl, rfl⟩
          · simpa using List.all_eq_true.mp sk q hq
      refine SrtO.sorted_ord (ltv := fun v u => ltPr (prOf s.heap v) (prOf s.heap u)) ⟨fun x y => swoPr.asym _ _, fun x y z => swoPr.tr _ _ _⟩ hl.isList (by rw [← rv.length]; exact hz) (fun h2 h₁ a' ha' kp => ?_) fun out h1 h2 => ?_
      · have hv : ∀ v ∈ its, ∃ p, PrAt h₁ v p ∧ p.1.isLeft = b1 ∧ p.2.isLeft = b2 := fun v m => by
          obtain ⟨g1, g2, _⟩ := e3 v m
          exact ⟨_, g1.keep fun b o q _ => (kp b o q).2, hb _ g2⟩
        have so := pairs_sortable (prog := X.prog) (w := X.w) (A := X.A.in1.in1) (s := { s with heap := h₁ }) (a := a') hv h2 (fun o q c => by rw [ha'] at q; cases q; have c : Value.type "list" = Value.type "tuple" := c; simp at c)
        intro h' keep
        obtain ⟨κ, c1, c2⟩ := so h' keep
        refine ⟨κ, c1, fun p q hp hq => ?_⟩
        have := c2 p q hp hq
        have ee : ∀ v ∈ its, prOf h₁ v = prOf s.heap v := fun v m => by
          obtain ⟨g1, _⟩ := e3 v m
          exact (g1.keep fun b o q _ => (kp b o q).2).of
        have e : SrtO.lt2 (fun v u => ltPr (prOf h₁ v) (prOf h₁ u)) p q = SrtO.lt2 (fun v u => ltPr (prOf s.heap v) (prOf s.heap u)) p q := by
          show ltPr (prOf h₁ p.1) (prOf h₁ q.1) = ltPr (prOf s.heap p.1) (prOf s.heap q.1)
          rw [ee _ hp, ee _ hq]
        rw [← e]
        exact this
      · obtain ⟨ep, he'⟩ := PyProof.Rows.sortedAll_at s.heap its out.toArray
        have mem : ∀ v ∈ out, v ∈ its := fun v m => h2.perm.mem_iff.mp m
        have es : out.map (prOf s.heap) = isort ltPr l := by
          refine isort_of swoPr (SrtO.srtd_map (f := prOf s.heap) (lt := ltPr) h1) ?_
          have := SrtO.Stb.map (lt := ltPr) swoPr (prOf s.heap) h2
          rw [e1] at this
          exact this
        have rz : ∀ l : List Value, (∀ v ∈ l, v ∈ its) → Reps K φ H (l.map bkV) ((l.map (prOf s.heap)).map prP) ∧ Vals (l.map bkV) l := by
          intro l
          induction l with
          | nil => intro _; exact ⟨.nil, .nil⟩
          | cons v l ih =>
            intro m
            obtain ⟨i1, i2⟩ := ih fun u hu => m u (List.mem_cons_of_mem _ hu)
            obtain ⟨_, _, g3, g4⟩ := e3 v (m v List.mem_cons_self)
            exact ⟨.cons g3 i1, .cons g4 i2⟩
        obtain ⟨z1, z2⟩ := rz out mem
        rw [es] at z1
        have zl : (out.map bkV).length ≤ sizeLine := by
          rw [List.length_map, h2.perm.length_eq, ← rv.length]; exact hz
        exact ⟨.ref _, upd H (s.heap.objs.size + 1) (.lst (out.map bkV)), I.laid (t' := s.toks) (fun _ _ => PyProof.Rows.sortedAll_old) (Nat.le_succ _) ⟨zl, out, ep, z2, he'⟩, rfl, q _ _ z1 (I.hok.fresh (Nat.le_succ _))⟩
    · cases sp
  · cases sp
theorem sorted_listL {a : Addr} {xs : List V} {vs ps : List PV} {Q : VK} (I : Inv X pins σ H s) (hX : KX X K) (hs : SqL X.K H a xs) (rr : Reps K φ H xs vs) (sp : sortL vs = some ps)
    (q : ∀ zs p, Reps K φ H zs ps → H p = none → Q (.ref p) (upd H p (.lst zs))) : wpAny (model X.prog X.w) X.A (PySem.call (.builtin "sorted") [.ref a]) (EP X pins σ Q) X.xe s := by
  unfold sortL at sp
  split at sp
  · rename_i p e
    cases sp
    exact sorted_list I hs rr e q
  · exact sorted_listQ I hX hs rr sp q
end
end Ip

set_option Elab.async false
set_option linter.all false
set_option maxRecDepth 100000
set_option maxHeartbeats 2000000
/-! Ip, part 4: comparisons, truth, built-in functions. -/
namespace Ip
open PySem L2 PySem.Spec PyProof.Rows

theorem in_tuple_reads {prog : Program} {w : World} {A : Around} {E : Value → Shared → Prop} {s : Shared} {c x : Value} {xs : List PyData} {d : PyData} {as bs : List Addr} {Q : Value → Shared → Prop} (rc : Reads s.heap c (.tuple xs) as) (rx : Reads s.heap x d bs) (hxs : PyData.canLayAll0 xs = true) (hd : d.canLay0 = true)
    (hu : A.units + 1 + min (PyData.depthAll xs) d.depth < cLine) (h : Q (.bool (xs.any fun y => PyData.eqv y d)) s) : wpAny (model prog w) A (compareOp .In x c) Q E s := by
  cases rc with
  | tuple h1 h2 h3 h4 => exact SeqAt.in_tupleAt _ ⟨_, h1, h2, _, h3⟩ (SeqAt.items_eqAt h4 rx hxs hd hu) (by rw [SeqAt.any_by_data h4 hxs]; exact h)
theorem notIn_tuple_reads {prog : Program} {w : World} {A : Around} {E : Value → Shared → Prop} {s : Shared} {c x : Value} {xs : List PyData} {d : PyData} {as bs : List Addr} {Q : Value → Shared → Prop} (rc : Reads s.heap c (.tuple xs) as) (rx : Reads s.heap x d bs) (hxs : PyData.canLayAll0 xs = true) (hd : d.canLay0 = true)
    (hu : A.units + 1 + min (PyData.depthAll xs) d.depth < cLine) (h : Q (.bool (!xs.any fun y => PyData.eqv y d)) s) : wpAny (model prog w) A (compareOp .NotIn x c) Q E s := by
  cases rc with
  | tuple h1 h2 h3 h4 => exact SeqAt.notIn_tupleAt _ ⟨_, h1, h2, _, h3⟩ (SeqAt.items_eqAt h4 rx hxs hd hu) (by rw [SeqAt.any_by_data h4 hxs]; exact h)

def rCmp (C : RC) (op : Cop) : R2 := fun x y H Q => ∃ φ v w k, VR C.K φ H x v ∧ VR C.K φ H y w ∧ cmpop op v w = some k ∧ Q (.bl k) H
theorem okEq_iff {a b : PV} : okEq a b = true ↔ plain a = true ∧ plain b = true ∧ min (dep a) (dep b) ≤ 60 := by
  unfold okEq
  simp only [Bool.and_eq_true, decide_eq_true_eq, and_assoc]
section
variable {X : Cx} {C : RC}
theorem cmp_eqs (hX : KX X C.K) (hu : X.A.units + 64 < cLine) {x y : V} {v u : Value} {a b : PV} {φ : Ph} {H : Hp} {pins : List (Addr × Obj)} {σ : L2.St} {s : Shared} {Q : VK} (I : Inv X pins σ H s) (rx : RelV x v) (ry : RelV y u) (hx : VR C.K φ H x a) (hy : VR C.K φ H y b)
    (ok : okEq a b = true) : (Q (.bl (eqP a b)) H → wpAny (model X.prog X.w) X.A (compareOp .Eq v u) (EP X pins σ Q) X.xe s) ∧ (Q (.bl (!eqP a b)) H → wpAny (model X.prog X.w) X.A (compareOp .NotEq v u) (EP X pins σ Q) X.xe s) := by
  obtain ⟨pa, pb, hd⟩ := okEq_iff.mp ok
  have dx := hx.dp pa
  have dy := hy.dp pb
  rw [← hX.k] at dx dy
  obtain ⟨as, r1⟩ := Dp.reads I _ x v dx rx
  obtain ⟨bs, r2⟩ := Dp.reads I _ y u dy ry
  have hr : X.A.units + min (toD a).depth (toD b).depth < cLine := by rw [toD_depth, toD_depth]; omega
  rw [← toD_eqv a b pa pb]
  exact ⟨fun q => SeqAt.compareEq_reads r1 r2 hx.lay hy.lay hr ⟨.bl _, H, I, rfl, q⟩, fun q => SeqAt.compareNe_reads r1 r2 hx.lay hy.lay hr ⟨.bl _, H, I, rfl, q⟩⟩
theorem deps_lst (ys : List PV) : dep (.lst ys) = deps ys + 1 := by simp [dep]
theorem deps_tup (ys : List PV) : dep (.tup ys) = deps ys + 1 := by simp [dep]
theorem cmp_ins (hX : KX X C.K) (hu : X.A.units + 65 < cLine) {x y : V} {v u : Value} {a : PV} {ys : List PV} {φ : Ph} {H : Hp} {pins : List (Addr × Obj)} {σ : L2.St} {s : Shared} {Q : VK} (I : Inv X pins σ H s) (rx : RelV x v) (ry : RelV y u) (hx : VR C.K φ H x a) (t : Bool)
    (hy : VR C.K φ H y (if t then .lst ys else .tup ys)) (ok : okEq a (if t then .lst ys else .tup ys) = true) : (Q (.bl (memP a ys)) H → wpAny (model X.prog X.w) X.A (compareOp .In v u) (EP X pins σ Q) X.xe s) ∧ (Q (.bl (!memP a ys)) H → wpAny (model X.prog X.w) X.A (compareOp .NotIn v u) (EP X pins σ Q) X.xe s) := by
  obtain ⟨pa, pb, hd⟩ := okEq_iff.mp ok
  have dx := hx.dp pa
  have dy := hy.dp pb
  have l2 := hy.lay
  rw [← hX.k] at dx dy
  obtain ⟨as, r1⟩ := Dp.reads I _ x v dx rx
  obtain ⟨bs, r2⟩ := Dp.reads I _ y u dy ry
  cases t with
  | true =>
    simp only [if_true] at *
    have hr : X.A.units + 1 + min (PyData.depthAll (toDs ys)) (toD a).depth < cLine := by rw [toD_depth, toDs_depth]; rw [deps_lst] at hd; omega
    have pb' : plains ys = true := by simpa [plain] using pb
    rw [← toDs_any a pa ys pb']
    simp only [toD] at r2 l2
    exact ⟨fun q => SeqAt.in_list_reads r2 r1 (by simpa [PyData.canLay0] using l2) hx.lay hr ⟨.bl _, H, I, rfl, q⟩, fun q => SeqAt.notIn_list_reads r2 r1 (by simpa [PyData.canLay0] using l2) hx.lay hr ⟨.bl _, H, I, rfl, q⟩⟩
  | false =>
    simp only [Bool.false_eq_true, if_false] at *
    have hr : X.A.units + 1 + min (PyData.depthAll (toDs ys)) (toD a).depth < cLine := by rw [toD_depth, toDs_depth]; rw [deps_tup] at hd; omega
    have pb' : plains ys = true := by simpa [plain] using pb
    rw [← toDs_any a pa ys pb']
    simp only [toD] at r2 l2
    exact ⟨fun q => in_tuple_reads r2 r1 (by simpa [PyData.canLay0] using l2) hx.lay hr ⟨.bl _, H, I, rfl, q⟩, fun q => notIn_tuple_reads r2 r1 (by simpa [PyData.canLay0] using l2) hx.lay hr ⟨.bl _, H, I, rfl, q⟩⟩
theorem VR.none_iff {x : V} {a : PV} {φ : Ph} {H : Hp} (h : VR C.K φ H x a) : decide (x = .non) = isNon a := by
  cases a with
  | non => rw [h.non]; rfl
  | bl b => rw [h.bl]; rfl
  | int b => rw [h.int]; rfl
  | str b => rw [h.str.1]; rfl
  | lst vs => obtain ⟨_, _, rfl, _⟩ := h; rfl
  | tup vs => obtain ⟨_, _, rfl, _⟩ := h; rfl
  | dct n ks vs => cases n <;> (obtain ⟨_, _, _, _, rfl, _⟩ := h; rfl)
  | set vs =>
    have h : Rep C.K φ H x (.set vs) := h
    cases h; rfl
theorem op_cmp (hX : KX X C.K) (hu : X.A.units + 65 < cLine) (op : Cop) : OpR X (compareOp (copOf op)) (rCmp C op) := by
  intro pins s σ H x y v u Q I rx ry h
  obtain ⟨φ, a, b, k, hx, hy, he, q⟩ := h
  have hu' : X.A.units + 64 < cLine := by omega
  cases op with
  | eq =>
    simp only [cmpop] at he
    split at he <;> cases he
    rename_i ok
    exact (cmp_eqs hX hu' I rx ry hx hy ok).1 q
  | ne =>
    simp only [cmpop] at he
    split at he <;> cases he
    rename_i ok
    exact (cmp_eqs hX hu' I rx ry hx hy ok).2 q
  | isin =>
    cases b with
    | lst ys =>
      simp only [cmpop] at he
      split at he <;> cases he
      rename_i ok
      exact (cmp_ins hX hu I rx ry hx true hy ok).1 q
    | tup ys =>
      simp only [cmpop] at he
      split at he <;> cases he
      rename_i ok
      exact (cmp_ins hX hu I rx ry hx false hy ok).1 q
    | str z =>
      cases a <;> simp only [cmpop, reduceCtorEq] at he <;> try (cases he; done)
      cases he
      exact op_in_str pins s σ H x y v u Q I rx ry ⟨_, _, hx.str.1, hy.str.1, q⟩
    | dct n ks vs =>
      have he : (if keyB n a = true then some (findD a ks vs).isSome else none) = some k := by cases a <;> exact he
      split at he <;> cases he
      rename_i hk
      exact (dct_in hu I hX ry rx hy hx hk).1 q
    | _ => cases a <;> simp only [cmpop, reduceCtorEq] at he <;> cases he
  | notin =>
    cases b with
    | lst ys =>
      simp only [cmpop] at he
      split at he <;> cases he
      rename_i ok
      exact (cmp_ins hX hu I rx ry hx true hy ok).2 q
    | tup ys =>
      simp only [cmpop] at he
      split at he <;> cases he
      rename_i ok
      exact (cmp_ins hX hu I rx ry hx false hy ok).2 q
    | str z =>
      cases a <;> simp only [cmpop, reduceCtorEq] at he <;> try (cases he; done)
      cases he
      exact op_notIn_str pins s σ H x y v u Q I rx ry ⟨_, _, hx.str.1, hy.str.1, q⟩
    | dct n ks vs =>
      have he : (if keyB n a = true then some (!(findD a ks vs).isSome) else none) = some k := by cases a <;> exact he
      split at he <;> cases he
      rename_i hk
      exact (dct_in hu I hX ry rx hy hx hk).2 q
    | _ => cases a <;> simp only [cmpop, reduceCtorEq] at he <;> cases he
  | is_ =>
    cases b with
    | non =>
      simp only [cmpop] at he
      have hn := hx.none_iff
      cases he
      exact op_isN pins s σ H x y v u Q I rx ry ⟨hy.non, by rw [hn]; exact q⟩
    | bl b =>
      cases a <;> simp only [cmpop, reduceCtorEq] at he <;> try (cases he; done)
      cases he
      exact op_isBl pins s σ H x y v u Q I rx ry ⟨_, _, hx.bl, hy.bl, q⟩
    | _ => cases a <;> simp only [cmpop, reduceCtorEq] at he <;> cases he
  | isnot =>
    cases b with
    | non =>
      simp only [cmpop] at he
      have hn := hx.none_iff
      cases he
      refine op_notN pins s σ H x y v u Q I rx ry ⟨hy.non, ?_⟩
      rw [hn]
      exact q
    | bl b =>
      cases a <;> simp only [cmpop, reduceCtorEq] at he <;> try (cases he; done)
      cases he
      exact op_notBl pins s σ H x y v u Q I rx ry ⟨_, _, hx.bl, hy.bl, q⟩
    | _ => cases a <;> simp only [cmpop, reduceCtorEq] at he <;> cases he
  | lt =>
    cases a <;> cases b <;> simp only [cmpop, reduceCtorEq] at he <;> try (cases he; done)
    · cases he
      exact op_lt pins s σ H x y v u Q I rx ry ⟨_, _, hx.int, hy.int, q⟩
    · cases he
      exact op_lt_str pins s σ H x y v u Q I rx ry ⟨_, _, hx.str.1, hy.str.1, q⟩
  | le =>
    cases a <;> cases b <;> simp only [cmpop, reduceCtorEq] at he <;> try (cases he; done)
    · cases he
      exact op_le pins s σ H x y v u Q I rx ry ⟨_, _, hx.int, hy.int, q⟩
    · cases he
      exact op_le_str pins s σ H x y v u Q I rx ry ⟨_, _, hx.str.1, hy.str.1, q⟩
  | gt =>
    cases a <;> cases b <;> simp only [cmpop, reduceCtorEq] at he <;> try (cases he; done)
    · cases he
      exact op_gt pins s σ H x y v u Q I rx ry ⟨_, _, hx.int, hy.int, q⟩
    · cases he
      exact op_gt_str pins s σ H x y v u Q I rx ry ⟨_, _, hx.str.1, hy.str.1, q⟩
  | ge =>
    cases a <;> cases b <;> simp only [cmpop, reduceCtorEq] at he <;> try (cases he; done)
    · cases he
      exact op_ge pins s σ H x y v u Q I rx ry ⟨_, _, hx.int, hy.int, q⟩
    · cases he
      exact op_ge_str pins s σ H x y v u Q I rx ry ⟨_, _, hx.str.1, hy.str.1, q⟩

/-! ### truth -/
theorem truV_of (hX : KX X C.K) {x : V} {a : PV} {k : Bool} {φ : Ph} {H : Hp} (h : VR C.K φ H x a) (e : truth a = some k) : TruV X.K x H k := by
  cases a with
  | non => rw [h.non]; cases e; rfl
  | bl b => rw [h.bl]; cases e; rfl
  | int i => rw [h.int]; cases e; rfl
  | str z =>
    rw [h.str.1]
    simp only [truth] at e
    split at e <;> cases e
    exact ⟨by rw [line_eq]; assumption, rfl⟩
  | lst vs =>
    obtain ⟨a, xs, rfl, p, r⟩ := h
    cases e
    refine .inl ⟨xs, .inl p, ?_⟩
    have := r.length
    cases xs <;> cases vs <;> simp at this <;> rfl
  | tup vs =>
    obtain ⟨a, xs, rfl, p, r⟩ := h
    cases e
    refine .inr (.inl ⟨xs, by rw [hX.k]; exact p.sq, ?_⟩)
    have := r.length
    cases xs <;> cases vs <;> simp at this <;> rfl
  | dct _ _ _ => cases e
  | set _ => cases e
end
end Ip

set_option Elab.async false
set_option linter.all false
set_option maxRecDepth 100000
set_option maxHeartbeats 2000000
/-! Ip, part 5: built-in functions, items, slices. -/
namespace Ip
open PySem L2 PySem.Spec PyProof.Rows

inductive VRs (K : FK) (φ : Ph) (H : Hp) : List V → List PV → Prop
  | nil : VRs K φ H [] []
  | cons {x xs v vs} : VR K φ H x v → VRs K φ H xs vs → VRs K φ H (x :: xs) (v :: vs)
def rBlt (C : RC) (b : Blt) : List V → Hp → VK → Prop := fun xs H Q => ∃ φ S vs u, RepS C φ H S ∧ VRs C.K φ H xs vs ∧ bltop b vs = some u ∧ Fin C φ H S u Q
section
variable {K : FK} {φ : Ph} {H : Hp}
theorem VRs.one {xs : List V} {v : PV} (h : VRs K φ H xs [v]) : ∃ x, xs = [x] ∧ VR K φ H x v := by
  cases h with
  | cons p q => cases q; exact ⟨_, rfl, p⟩
theorem VRs.two {xs : List V} {v w : PV} (h : VRs K φ H xs [v, w]) : ∃ x y, xs = [x, y] ∧ VR K φ H x v ∧ VR K φ H y w := by
  cases h with
  | cons p q =>
    cases q with
    | cons p2 q => cases q; exact ⟨_, _, rfl, p, p2⟩
end
theorem maxI_max : ∀ {ns : List Int}, ns ≠ [] → maxI ns ∈ ns ∧ ∀ y ∈ ns, y ≤ maxI ns
  | [a], _ => by simp [maxI]
  | a :: b :: r, _ => by
    have ih := maxI_max (ns := b :: r) (by simp)
    have e : maxI (a :: b :: r) = max a (maxI (b :: r)) := by simp [maxI]
    rw [e]
    refine ⟨?_, fun y hy => ?_⟩
    · rcases Int.le_total a (maxI (b :: r)) with h | h
      · rw [Int.max_eq_right h]; exact List.mem_cons_of_mem _ ih.1
      · rw [Int.max_eq_left h]; exact List.mem_cons_self
    · rcases List.mem_cons.mp hy with rfl | hy
      · exact Int.le_max_left _ _
      · exact Int.le_trans (ih.2 y hy) (Int.le_max_right _ _)
theorem minI_min : ∀ {ns : List Int}, ns ≠ [] → minI ns ∈ ns ∧ ∀ y ∈ ns, minI ns ≤ y
  | [a], _ => by simp [minI]
  | a :: b :: r, _ => by
    have ih := minI_min (ns := b :: r) (by simp)
    have e : minI (a :: b :: r) = min a (minI (b :: r)) := by simp [minI]
    rw [e]
    refine ⟨?_, fun y hy => ?_⟩
    · rcases Int.le_total a (minI (b :: r)) with h | h
      · rw [Int.min_eq_left h]; exact List.mem_cons_self
      · rw [Int.min_eq_right h]; exact List.mem_cons_of_mem _ ih.1
    · rcases List.mem_cons.mp hy with rfl | hy
      · exact Int.min_le_left _ _
      · exact Int.le_trans (Int.min_le_right _ _) (ih.2 y hy)
/-- the value that a built-in's name stands for -/
def bltV : Blt → Value
  | .len => .builtin "len"
  | .abs => .builtin "abs"
  | .int => .type "int"
  | .list => .type "list"
  | .tuple => .type "tuple"
  | .all => .builtin "all"
  | .any => .builtin "any"
  | .str => .type "str"
  | .repr => .builtin "repr"
  | .sorted => .builtin "sorted"
  | .set => .type "set"
  | .dict => .type "dict"
  | .min => .builtin "min"
  | .max => .builtin "max"
  | .sum => .builtin "sum"
  | .range => .type "range"
  | .enum => .type "enumerate"
  | .zip => .type "zip"
section
variable {X : Cx} {C : RC}
theorem repr_any (hX : KX X C.K) (hu : X.A.units + 65 < cLine) (hG : X.A.guards = some []) {φ : Ph} {H : Hp} {pins : List (Addr × Obj)} {σ : L2.St} {s : Shared} {Q : VK} {x : V} {u : Value} {a : PV} (I : Inv X pins σ H s) (r : RelV x u) (hx : VR C.K φ H x a) (hb : showB a = true) (q : Q (.str (toD a).shown) H) :
    wpAny (model X.prog X.w) X.A (PySem.call (.builtin "repr") [u]) (EP X pins σ Q) X.xe s := by
  unfold showB at hb
  simp only [Bool.and_eq_true, decide_eq_true_eq] at hb
  obtain ⟨b1, b2, b3, b4, _⟩ := hb
  have dx := hx.dp b1
  rw [← hX.k] at dx
  obtain ⟨as, rd⟩ := Dp.reads I _ x u dx r
  have ld := hx.lay
  have big : ∀ {p : Addr}, u = .ref p → wpAny (model X.prog X.w) X.A (PySem.call (.builtin "repr") [u]) (EP X pins σ Q) X.xe s := by
    rintro p rfl
    exact repr_of_reads' rd b2 (PyData.noDict_hsm (PyData.hasDict_of_canLay _ ld)) hG (by rw [toD_depth]; omega) (fun _ _ z => z) (fun h' t tk kp => ⟨.str (toD a).shown, H, I.kept (t' := tk) kp, ⟨t, rfl⟩, q⟩) (by rw [line_eq]; exact b4)
  cases a with
  | non =>
    rw [hx.non] at r
    cases (show u = .none from r)
    exact PySem.P.repr_of_none ⟨.str _, H, I.tok _, ⟨_, rfl⟩, q⟩
  | bl b =>
    rw [hx.bl] at r
    cases (show u = .bool b from r)
    exact PySem.P.repr_of_bool ⟨.str _, H, I.tok _, ⟨_, rfl⟩, q⟩
  | int i =>
    rw [hx.int] at r
    obtain ⟨t, rfl⟩ := r
    exact PySem.P.repr_of_int (by simpa [toD, PyData.showable] using b2) ⟨.str _, H, I.tok _, ⟨_, rfl⟩, q⟩
  | str z =>
    rw [hx.str.1] at r
    obtain ⟨t, rfl⟩ := r
    exact PySem.P.repr_of_str ⟨.str _, H, I.tok _, ⟨_, rfl⟩, q⟩ (by rw [line_eq]; exact b4)
  | lst vs =>
    obtain ⟨p, xs, rfl, _⟩ := hx
    exact big r
  | tup vs =>
    obtain ⟨p, xs, rfl, _⟩ := hx
    exact big r
  | dct _ _ _ => simp [plain] at b1
  | set vs => simp [plain] at b1
theorem relabel {K : FK} {pins : List (Addr × Obj)} {σ : L2.St} {H : Hp} {s : Shared} {p : Addr} {kvs : List (Key × V)} (hX : KX X K) (I : Inv X pins σ (upd H p (.dK kvs)) s) : ∃ es ep, Inv X pins σ (upd H p (LDO K p kvs es ep)) s := by
  obtain ⟨z, hd, us, rel, dd⟩ := dk_of I.hok (upd_same (H := H) (a := p) (o := .dK kvs))
  obtain ⟨es, ep, ok⟩ := ldo_new (H' := upd (upd H p (.dK kvs)) p (.dK [])) (K := K) hX z hd rel dd
  have he : ∃ q, s.heap.get? p = some q := let ⟨q, _, _, hq, _⟩ := dd; ⟨q, hq⟩
  have := d_write (t' := s.toks) (ob := LDO K p kvs es ep) I (by rw [upd_same]; exact True.intro) (Heap.SameBut.refl p s.heap) he ok
  rw [upd_upd] at this
  exact ⟨es, ep, this⟩
theorem prs_rep {K : FK} {φ : Ph} {H : Hp} : ∀ {ws l : List PV} {ys : List V}, Reps K φ H ys ws → prsOf ws = some l → keysB false l = true → ∃ (ps : List Addr) (xs : List V), ys = ps.map V.ref ∧ Reps K φ H xs l ∧ ∀ more : List (Key × V), xs = (more.flatMap fun p => [kV p.1, p.2]) → Paired (fun p kv => SqT K.K H p [kV kv.1, kv.2]) ps more
  | [], l, ys, r, e, kb => by
    cases r
    cases e
    refine ⟨[], [], rfl, .nil, fun more h => ?_⟩
    cases more with
    | nil => exact .nil
    | cons p m => simp at h
  | w :: ws, l, ys, r, e, kb => by
    cases r with
    | cons r1 r2 =>
      unfold prsOf at e
      split at e
      · rename_i heq
        cases heq
      · rename_i heq
        cases heq
        rename_i k v rest
        cases g : prsOf ws with
        | none => rw [g] at e; cases e
        | some l' =>
          rw [g] at e
          cases e
          simp only [keysB, Bool.and_eq_true] at kb
          obtain ⟨ps, xs, h1, h2, h3⟩ := prs_rep r2 g kb.2
          cases r1 with
          | tup p rr =>
            rename_i a zs
            cases rr with
            | cons q1 rr =>
              cases rr with
              | cons q2 rr =>
                cases rr
                rename_i x1 x2
                refine ⟨a :: ps, x1 :: x2 :: xs, by rw [h1]; rfl, .cons q1 (.cons q2 h2), fun more h => ?_⟩
                cases more with
                | nil => simp at h
                | cons m more =>
                  simp only [List.flatMap_cons, List.cons_append, List.nil_append, List.cons.injEq] at h
                  obtain ⟨rfl, rfl, h⟩ := h
                  exact .cons p.sq (h3 more h)
      · cases e
theorem dict_prs {C : RC} {pins : List (Addr × Obj)} {σ : L2.St} {H : Hp} {s : Shared} {φ : Ph} {S : Store} {Q : VK} {p : Addr} {ys : List V} {us : List Value} {ws l : List PV} (hc : X.calm = true) (hX : KX X C.K) (hS : RepS C φ H S) (I : Inv X pins σ H s) (r : Vals [V.ref p] us) (hp : SqL X.K H p ys) (hr : Reps C.K φ H ys ws) (g : prsOf ws = some l) (kb : keysB false l = true)
    (f : Fin C φ H S (.dct false (mergeD [] [] l).1 (mergeD [] [] l).2) Q) : wpAny (model X.prog X.w) X.A (PySem.call (.type "dict") us) (EP X pins σ Q) X.xe s := by
  obtain ⟨ps, xs, h1, h2, h3⟩ := prs_rep hr g kb
  subst h1
  obtain ⟨more, e1, e2, e3⟩ := merge_l (φ := φ) (H := H) l xs [] [] [] h2 kb ⟨rfl, fun p m => by cases m⟩ List.nodup_nil .nil
  have h4 := h3 more e1
  rw [← hX.k] at h4
  refine wpAny_mono (call_dictP hc pins s σ H _ us (fun x H' => ∃ q, x = .ref q ∧ H q = none ∧ H' = upd H q (.dK (mergeK [] more))) I r ⟨p, ps, more, rfl, hp, h4, fun q hq => ⟨q, rfl, hq, rfl⟩⟩) (fun u s' h => ?_) fun _ _ z => z
  obtain ⟨x, H', I', rx, q, rfl, hq, rfl⟩ := h
  obtain ⟨es, ep, I2⟩ := relabel (K := C.K) hX I'
  obtain ⟨np, ext, s2⟩ := hS.alloc (o := LDO C.K q (mergeK [] more) es ep) hq
  exact ⟨.ref q, _, I2, rx, f φ _ _ ext s2 (.dctL np (.inl upd_same) e2 (Reps.mono ext _ _ e3))⟩
def rDL (C : RC) : List V → Hp → VK → Prop := fun xs H Q => ∃ φ S x ws l, xs = [x] ∧ RepS C φ H S ∧ VR C.K φ H x (.lst ws) ∧ prsOf ws = some l ∧ keysB false l = true ∧
  ∀ q o, H q = none → (∀ φ' H', Kpt φ H φ' H' → H' q = some o → CellOk C.K φ' H' q (.dct false (mergeD [] [] l).1 (mergeD [] [] l).2)) → Q (.ref q) (upd H q o)
theorem call_dl (hX : KX X C.K) (hc : X.calm = true) : CallR X (.type "dict") (rDL C) := by
  intro pins s σ H xs us Q I r h
  obtain ⟨φ, S, x, ws, l, rfl, hS, ⟨p, ys, rfl, hp, hr⟩, g, kb, q⟩ := h
  obtain ⟨ps, xs, h1, h2, h3⟩ := prs_rep hr g kb
  subst h1
  obtain ⟨more, e1, e2, e3⟩ := merge_l (φ := φ) (H := H) l xs [] [] [] h2 kb ⟨rfl, fun p m => by cases m⟩ List.nodup_nil .nil
  have h4 := h3 more e1
  rw [← hX.k] at h4
  refine wpAny_mono (call_dictP hc pins s σ H _ us (fun x H' => ∃ q, x = .ref q ∧ H q = none ∧ H' = upd H q (.dK (mergeK [] more))) I r ⟨p, ps, more, rfl, .inl hp, h4, fun q hq => ⟨q, rfl, hq, rfl⟩⟩) (fun u s' h => ?_) fun _ _ z => z
  obtain ⟨x, H', I', rx, a, rfl, hq, rfl⟩ := h
  obtain ⟨es, ep, I2⟩ := relabel (K := C.K) hX I'
  exact ⟨.ref a, _, I2, rx, q a _ hq fun φ' H' k e => ⟨_, es, ep, e, e2, Reps.keep k _ _ e3⟩⟩
theorem call_blt (hX : KX X C.K) (hc : X.calm = true) (hu : X.A.units + 65 < cLine) (hG : X.A.guards = some []) (b : Blt) : CallR X (bltV b) (rBlt C b) := by
  intro pins s σ H xs us Q I r h
  obtain ⟨φ, S, vs, u, hS, hv, he, f⟩ := h
  cases b with
  | len =>
    rcases vs with _ | ⟨a, _ | ⟨b, t⟩⟩
    · cases he
    · obtain ⟨x, rfl, hx⟩ := hv.one
      cases a <;> simp only [bltop, reduceCtorEq] at he <;> try (cases he; done)
      · split at he <;> cases he
        rename_i z hl
        exact call_len pins s σ H _ us Q I r ⟨x, _, rfl, by rw [hx.str.1]; exact ⟨by rw [line_eq]; exact hl, rfl⟩, f.now hS (.int _)⟩
      · cases he
        obtain ⟨p, ys, rfl, hp, hr⟩ := hx
        exact call_len pins s σ H _ us Q I r ⟨_, _, rfl, .inl ⟨ys, .inl hp, rfl⟩, by rw [hr.length]; exact f.now hS (.int _)⟩
      · cases he
        obtain ⟨p, ys, rfl, hp, hr⟩ := hx
        exact call_len pins s σ H _ us Q I r ⟨_, _, rfl, .inr ⟨ys, by rw [hX.k]; exact hp.sq, rfl⟩, by rw [hr.length]; exact f.now hS (.int _)⟩
      · cases he
        obtain ⟨v, rfl, rv⟩ := r.one
        exact dct_len I hX rv hx (f.now hS (.int _))
      · cases he
        rename_i ws
        have hx : Rep C.K φ H x (.set ws) := hx
        cases hx with
        | set n1 e1 q1 k1 =>
          subst q1
          obtain ⟨v, rfl, rv⟩ := r.one
          cases rv
          refine len_set I hX e1 ?_
          rw [List.length_map] at f
          exact f.now hS (.int _)
    · cases a <;> cases he
  | set =>
    rcases vs with _ | ⟨a, _ | ⟨b, t⟩⟩
    · cases he
    · obtain ⟨x, rfl, hx⟩ := hv.one
      have key : ∀ {ws : List PV} {xs : List V}, Reps C.K φ H xs ws → setOf ws = some u → ∃ ks : List Key, xs = ks.map kV ∧ ks.length < 4000 ∧ ∀ p, H p = none → Q (.ref p) (upd H p (STO C.K p (addAll [] ks))) := fun {ws xs} rr e => by
        unfold setOf at e
        split at e
        · rename_i hc
          cases e
          simp only [Bool.and_eq_true, decide_eq_true_eq] at hc
          obtain ⟨ks, rfl, rfl, hk⟩ := rr.keys hc.1
          have e1 : dedP [] (ks.map kP) = (addAll [] ks).map kP := dedP_kP ks []
          rw [e1] at f
          exact ⟨ks, rfl, by simpa using hc.2, f.newS hS (strK_addAll (fun _ h => absurd h (by simp)) hk)⟩
        · cases e
      cases a <;> simp only [bltop, reduceCtorEq] at he <;> try (cases he; done)
      · obtain ⟨p, ys, rfl, hp, hr⟩ := hx
        obtain ⟨v, rfl, rv⟩ := r.one
        cases rv
        obtain ⟨ks, e1, e2, e3⟩ := key hr he
        exact mkset_list I hX hc (.inl hp) e1 e2 e3
      · obtain ⟨p, ys, rfl, hp, hr⟩ := hx
        obtain ⟨v, rfl, rv⟩ := r.one
        cases rv
        obtain ⟨ks, e1, e2, e3⟩ := key hr he
        exact mkset_tup I hX hc (by rw [hX.k]; exact hp.sq) e1 e2 e3
    · cases a <;> cases he
  | abs =>
    rcases vs with _ | ⟨a, _ | ⟨b, t⟩⟩
    · cases he
    · obtain ⟨x, rfl, hx⟩ := hv.one
      cases a <;> simp only [bltop, reduceCtorEq] at he <;> try (cases he; done)
      cases he
      exact call_abs pins s σ H _ us Q I r ⟨_, by rw [hx.int], f.now hS (.int _)⟩
    · cases a <;> cases he
  | int =>
    rcases vs with _ | ⟨a, _ | ⟨b, t⟩⟩
    · cases he
    · obtain ⟨x, rfl, hx⟩ := hv.one
      cases a <;> simp only [bltop, reduceCtorEq] at he <;> try (cases he; done)
      · cases he
        exact call_int1 pins s σ H _ us Q I r (.inr ⟨_, by rw [hx.bl], f.now hS (.int _)⟩)
      · cases he
        exact call_int1 pins s σ H _ us Q I r (.inl ⟨_, by rw [hx.int], f.now hS (.int _)⟩)
    · cases a <;> cases he
  | list =>
    rcases vs with _ | ⟨a, _ | ⟨b, t⟩⟩
    · cases he
    · obtain ⟨x, rfl, hx⟩ := hv.one
      cases a <;> simp only [bltop, reduceCtorEq] at he <;> try (cases he; done)
      · rename_i z
        split at he
        · rename_i hz
          cases he
          obtain ⟨e1, e2⟩ := hx.str
          subst e1
          obtain ⟨v, rfl, rv⟩ := r.one
          obtain ⟨t, rfl⟩ := rv
          exact str_list hc I (by rw [line_eq]; exact hz) (f.newL hS (Reps.strs _ (strOk_iff.mp e2)))
        · cases he
      · cases he
        obtain ⟨p, ys, rfl, hp, hr⟩ := hx
        exact call_list_of pins s σ H _ us Q I r ⟨p, ys, rfl, .inl (.inl hp), f.newL hS hr⟩
      · cases he
        obtain ⟨p, ys, rfl, hp, hr⟩ := hx
        exact call_list_of pins s σ H _ us Q I r ⟨p, ys, rfl, .inr (by rw [hX.k]; exact hp.sq), f.newL hS hr⟩
      · cases he
        obtain ⟨a, kx, es, ep, rfl, d⟩ := dct_raw I hX hx
        obtain ⟨v, rfl, rv⟩ := r.one
        cases rv
        exact dct_list hc I d (f.newL hS d.rep)
    · cases a <;> cases he
  | sorted =>
    rcases vs with _ | ⟨a, _ | ⟨b, t⟩⟩
    · cases he
    · obtain ⟨x, rfl, hx⟩ := hv.one
      cases a <;> simp only [bltop, reduceCtorEq] at he <;> try (cases he; done)
      · obtain ⟨p, ys, rfl, hp, hr⟩ := hx
        obtain ⟨v, rfl, rv⟩ := r.one
        cases rv
        rename_i ws
        cases sp : sortL ws with
        | none => rw [sp] at he; cases he
        | some ps =>
          rw [sp] at he
          cases he
          exact sorted_listL I hX (.inl hp) hr sp fun zs q rz hq => f.newL hS rz q hq
      · rename_i n ks ws
        obtain ⟨a, kx, es, ep, rfl, d⟩ := dct_raw I hX hx
        obtain ⟨v, rfl, rv⟩ := r.one
        cases rv
        cases sp : sortP ks with
        | none => rw [sp] at he; cases he
        | some ps =>
          rw [sp] at he
          cases he
          exact sorted_dict hc I d sp fun zs q rz hq => f.newL hS rz q hq
      · rename_i ws
        have hx : Rep C.K φ H x (.set ws) := hx
        cases hx with
        | set n1 e1 q1 k1 =>
          subst q1
          obtain ⟨v, rfl, rv⟩ := r.one
          cases rv
          rename_i ks
          cases sp : sortP (ks.map kP) with
          | none => rw [sp] at he; cases he
          | some ps =>
            rw [sp] at he
            cases he
            exact sorted_set' hc I hX e1 k1 sp fun zs q rz hq => f.newL hS rz q hq
    · cases a <;> cases he
  | tuple =>
    rcases vs with _ | ⟨a, _ | ⟨b, t⟩⟩
    · cases he
    · obtain ⟨x, rfl, hx⟩ := hv.one
      cases a <;> simp only [bltop, reduceCtorEq] at he <;> try (cases he; done)
      · cases he
        obtain ⟨p, ys, rfl, hp, hr⟩ := hx
        exact call_tuple_of pins s σ H _ us Q I r ⟨p, ys, rfl, .inl ⟨.inl hp, f.newT hS hr⟩⟩
      · cases he
        obtain ⟨p, ys, rfl, hp, hr⟩ := hx
        exact call_tuple_of pins s σ H _ us Q I r ⟨p, ys, rfl, .inr ⟨by rw [hX.k]; exact hp.sq, f.now hS (.tup hp hr)⟩⟩
      · cases he
        obtain ⟨a, kx, es, ep, rfl, d⟩ := dct_raw I hX hx
        obtain ⟨v, rfl, rv⟩ := r.one
        cases rv
        exact dct_tuple hc I d (f.newT hS d.rep)
    · cases a <;> cases he
  | all =>
    rcases vs with _ | ⟨a, _ | ⟨b, t⟩⟩
    · cases he
    · obtain ⟨x, rfl, hx⟩ := hv.one
      cases a <;> simp only [bltop, reduceCtorEq] at he <;> try (cases he; done)
      rename_i ws
      cases g : allB ws with
      | none => rw [g] at he; cases he
      | some bs =>
        rw [g] at he
        cases he
        obtain ⟨p, ys, rfl, hp, hr⟩ := hx
        have e := allB_rep hr g
        subst e
        exact cr_all hc pins s σ H _ us Q I r ⟨p, bs, rfl, .inl hp, f.now hS (.bl _)⟩
    · cases a <;> cases he
  | any =>
    rcases vs with _ | ⟨a, _ | ⟨b, t⟩⟩
    · cases he
    · obtain ⟨x, rfl, hx⟩ := hv.one
      cases a <;> simp only [bltop, reduceCtorEq] at he <;> try (cases he; done)
      rename_i ws
      cases g : allB ws with
      | none => rw [g] at he; cases he
      | some bs =>
        rw [g] at he
        cases he
        obtain ⟨p, ys, rfl, hp, hr⟩ := hx
        have e := allB_rep hr g
        subst e
        exact cr_any hc pins s σ H _ us Q I r ⟨p, bs, rfl, .inl hp, f.now hS (.bl _)⟩
    · cases a <;> cases he
  | str =>
    rcases vs with _ | ⟨a, _ | ⟨b, t⟩⟩
    · cases he
    · obtain ⟨x, rfl, hx⟩ := hv.one
      cases a <;> simp only [bltop, reduceCtorEq] at he <;> try (cases he; done)
      split at he <;> cases he
      rename_i i hl
      exact call_str_int pins s σ H _ us Q I r ⟨_, by rw [hx.int], hl, f.now hS (.str (strOk_ofString _))⟩
    · cases a <;> cases he
  | max =>
    rcases vs with _ | ⟨a, _ | ⟨b, _ | ⟨c, t⟩⟩⟩
    · cases he
    · obtain ⟨x, rfl, hx⟩ := hv.one
      cases a <;> simp only [bltop, reduceCtorEq] at he <;> try (cases he; done)
      rename_i ws
      cases g : allI ws with
      | none => rw [g] at he; cases he
      | some ns =>
        rw [g] at he
        simp only [Option.bind_some] at he
        split at he <;> cases he
        rename_i hne
        obtain ⟨p, ys, rfl, hp, hr⟩ := hx
        have e := allI_rep hr g
        subst e
        refine cr_max hc pins s σ H _ us Q I r ⟨p, ns, rfl, .inl hp, List.length_pos_iff.mpr hne, fun m h1 h2 => ?_⟩
        have e : m = maxI ns := Int.le_antisymm ((maxI_max hne).2 m h1) (h2 _ (maxI_max hne).1)
        rw [e]
        exact f.now hS (.int _)
    · obtain ⟨x, y, rfl, hx, hy⟩ := hv.two
      cases a <;> cases b <;> simp only [bltop, reduceCtorEq] at he <;> try (cases he; done)
      cases he
      exact call_max2 hc pins s σ H _ us Q I r ⟨_, _, by rw [hx.int, hy.int], f.now hS (.int _)⟩
    · cases a <;> cases b <;> cases he
  | min =>
    rcases vs with _ | ⟨a, _ | ⟨b, _ | ⟨c, t⟩⟩⟩
    · cases he
    · obtain ⟨x, rfl, hx⟩ := hv.one
      cases a <;> simp only [bltop, reduceCtorEq] at he <;> try (cases he; done)
      rename_i ws
      cases g : allI ws with
      | none => rw [g] at he; cases he
      | some ns =>
        rw [g] at he
        simp only [Option.bind_some] at he
        split at he <;> cases he
        rename_i hne
        obtain ⟨p, ys, rfl, hp, hr⟩ := hx
        have e := allI_rep hr g
        subst e
        refine cr_min hc pins s σ H _ us Q I r ⟨p, ns, rfl, .inl hp, List.length_pos_iff.mpr hne, fun m h1 h2 => ?_⟩
        have e : m = minI ns := Int.le_antisymm (h2 _ (minI_min hne).1) ((minI_min hne).2 m h1)
        rw [e]
        exact f.now hS (.int _)
    · obtain ⟨x, y, rfl, hx, hy⟩ := hv.two
      cases a <;> cases b <;> simp only [bltop, reduceCtorEq] at he <;> try (cases he; done)
      cases he
      exact call_min2 hc pins s σ H _ us Q I r ⟨_, _, by rw [hx.int, hy.int], f.now hS (.int _)⟩
    · cases a <;> cases b <;> cases he
  | sum =>
    rcases vs with _ | ⟨a, _ | ⟨b, t⟩⟩
    · cases he
    · obtain ⟨x, rfl, hx⟩ := hv.one
      cases a <;> simp only [bltop, reduceCtorEq] at he <;> try (cases he; done)
      rename_i ws
      cases g : allI ws with
      | none => rw [g] at he; cases he
      | some ns =>
        rw [g] at he
        cases he
        obtain ⟨p, ys, rfl, hp, hr⟩ := hx
        have e := allI_rep hr g
        subst e
        exact cr_sum hc pins s σ H _ us Q I r ⟨p, ns, rfl, .inl hp, f.now hS (.int _)⟩
    · cases a <;> cases he
  | dict =>
    rcases vs with _ | ⟨a, _ | ⟨b, t⟩⟩
    · cases he
    · obtain ⟨x, rfl, hx⟩ := hv.one
      cases a <;> simp only [bltop, reduceCtorEq] at he <;> try (cases he; done)
      rename_i ws
      cases g : prsOf ws with
      | none => rw [g] at he; cases he
      | some l =>
        rw [g] at he
        simp only [Option.bind_some] at he
        split at he <;> cases he
        rename_i kb
        obtain ⟨p, ys, rfl, hp, hr⟩ := hx
        exact dict_prs hc hX hS I r (.inl hp) hr g kb f
    · cases a <;> cases he
  | repr =>
    rcases vs with _ | ⟨a, _ | ⟨b, t⟩⟩
    · cases he
    · obtain ⟨x, rfl, hx⟩ := hv.one
      simp only [bltop] at he
      split at he <;> cases he
      rename_i hb
      obtain ⟨v, rfl, rv⟩ := r.one
      have so : strOk (toD a).shown := by
        unfold showB at hb
        simp only [Bool.and_eq_true] at hb
        exact hb.2.2.2.2
      exact repr_any hX hu hG I rv hx hb (f.now hS (.str so))
    · cases he
  | _ => rcases vs with _ | ⟨a, _ | ⟨b, t⟩⟩ <;> cases he

/-! ### items and slices -/
def rIxP (C : RC) : R2 := fun x y H Q => ∃ φ S v w u, RepS C φ H S ∧ VR C.K φ H x v ∧ VR C.K φ H y w ∧ ixop v w = some u ∧ Fin C φ H S u Q
theorem atI_rep {K : FK} {φ : Ph} {H : Hp} {vs : List PV} {xs : List V} {i : Int} {u : PV} (r : Reps K φ H xs vs) (e : atI vs i = some u) : ∃ x, atI xs i = some x ∧ Rep K φ H x u := by
  unfold atI at e ⊢
  rw [r.length]
  cases g : ixN vs.length i with
  | none => rw [g] at e; cases e
  | some j =>
    rw [g] at e
    exact r.get e
theorem atI_mem {α : Type} {vs : List α} {i : Int} {u : α} (e : atI vs i = some u) : u ∈ vs := by
  unfold atI at e
  cases g : ixN vs.length i with
  | none => rw [g] at e; cases e
  | some j =>
    rw [g] at e
    exact List.mem_of_getElem? e
theorem dct_tail {value slice : Expr} {u uk : Value} {s : Shared} {Q : Value → Shared → Prop} {E : Value → Shared → Prop} (hT : s.TypeIs u "dict") (h : wpAny (model X.prog X.w) X.A (getItem u uk) Q E s) (hs : subscripted slice false u uk = operate [u, uk] (getItem u uk)) :
    wpAny (model X.prog X.w) X.A (subscriptTail value slice u uk) Q E s := by
  unfold subscriptTail
  refine wpAny_bind ?_
  rw [getitemInPython_of_ne hT.not_modules]
  refine wpAny_bind (wpAny_specialOf hT PySem.F.slot_dict_getitem.lookup ?_)
  have fin : wpAny (model X.prog X.w) X.A (subscripted slice false u uk) (fun r s₃ => wpAny (model X.prog X.w) X.A (letTemporaryGo value u r >>= fun _ => pure r) Q E s₃) E s := by
    rw [hs]
    exact wpAny_operating (wpAny_mono h (fun r s₃ h₃ => wpAny_bind (wpAny_letTemporaryGo (wpAny_pure h₃))) fun _ _ x => x)
  first
    | exact wpAny_pure (wpAny_bind fin)
    | exact wpAny_bind (wpAny_pure (wpAny_bind fin))
    | exact wpAny_bind fin
theorem ix_ok (hX : KX X C.K) (hu : X.A.units + 65 < cLine) : IxR X (rIxP C) := by
  intro value slice pins s σ H x y v u Q I rx ry h hs
  obtain ⟨φ, S, a, b, c, hS, hx, hy, he, f⟩ := h
  by_cases hd : ∃ n ks vs, a = .dct n ks vs
  · obtain ⟨n, ks, vs, rfl⟩ := hd
    have he : (if keyB n b = true then findD b ks vs else none) = some c := by cases b <;> exact he
    split at he
    · rename_i hk
      obtain ⟨a, rfl, rfl, hT, _⟩ := dct_typeIs I hX rx hx
      exact dct_tail hT (dct_getItem hu I hX rx ry hx hy hk he fun z w' s' I' rz rw' => ⟨z, H, I', rw', f.now hS rz⟩) hs
    · cases he
  cases a <;> cases b <;> simp only [ixop, reduceCtorEq] at he <;> try (first | (cases he; done) | exact absurd ⟨_, _, _, rfl⟩ hd)
  · split at he
    · rename_i z i hl
      cases g : atI z.cps.toList i with
      | none => rw [g] at he; cases he
      | some d =>
        rw [g] at he
        cases he
        obtain ⟨e1, k1⟩ := hx.str
        refine ix_str value slice pins s σ H x y v u Q I rx ry ⟨z, i, d, e1, hy.int, by rw [line_eq]; exact hl, g, f.now hS (.str ?_)⟩ hs
        exact strOk_sign k1 (atI_mem g)
    · cases he
  · obtain ⟨p, ys, rfl, hp, hr⟩ := hx
    obtain ⟨z, e1, r1⟩ := atI_rep hr he
    exact ix_list value slice pins s σ H _ y v u Q I rx ry ⟨p, ys, _, z, rfl, hy.int, .inl hp, e1, f.now hS r1⟩ hs
  · obtain ⟨p, ys, rfl, hp, hr⟩ := hx
    obtain ⟨z, e1, r1⟩ := atI_rep hr he
    exact ix_tup value slice pins s σ H _ y v u Q I rx ry ⟨p, ys, _, z, rfl, hy.int, by rw [hX.k]; exact hp.sq, e1, f.now hS r1⟩ hs
def rSlP (C : RC) : V → Option Int → Option Int → Hp → VK → Prop := fun x lo hi H Q => ∃ φ S v u, RepS C φ H S ∧ VR C.K φ H x v ∧ slop v lo hi = some u ∧ Fin C φ H S u Q
theorem cutP_rep {K : FK} {φ : Ph} {H : Hp} {vs : List PV} {xs : List V} (lo hi : Option Int) (r : Reps K φ H xs vs) : Reps K φ H (cutV xs lo hi) (cutP vs lo hi) := by
  unfold cutV cutP
  rw [r.length]
  exact (r.drop _).take _
theorem sl_ok (hX : KX X C.K) : SlR X (rSlP C) := by
  intro pins s σ H x v vl vu lo hi sl Q I rx hs pl pu h
  obtain ⟨φ, S, a, c, hS, hx, he, f⟩ := h
  cases a <;> simp only [slop, reduceCtorEq] at he <;> try (cases he; done)
  · split at he <;> cases he
    rename_i z hl
    obtain ⟨e1, k1⟩ := hx.str
    refine sl_str pins s σ H x v vl vu lo hi sl Q I rx hs pl pu ⟨z, e1, by rw [line_eq]; exact hl, f.now hS (.str (strOk_iff.mpr fun c hc => ?_))⟩
    unfold cutS at hc
    exact strOk_iff.mp k1 c (List.mem_of_mem_drop (List.mem_of_mem_take (by simpa using hc)))
  · cases he
    obtain ⟨p, ys, rfl, hp, hr⟩ := hx
    exact sl_list pins s σ H _ v vl vu lo hi sl Q I rx hs pl pu ⟨p, ys, rfl, .inl hp, f.newL hS (cutP_rep lo hi hr)⟩
  · cases he
    obtain ⟨p, ys, rfl, hp, hr⟩ := hx
    refine sl_tupA pins s σ H _ v vl vu lo hi sl Q I rx hs pl pu ⟨p, ys, rfl, by rw [hX.k]; exact hp.sq, fun e => ?_, fun _ => f.newT hS (cutP_rep lo hi hr)⟩
    have hl := hr.length
    obtain ⟨e1, e2⟩ := e
    unfold cutP at f
    rw [← hl, e1, e2, List.drop_zero, Nat.sub_zero, hl, List.take_length] at f
    exact f.now hS (.tup hp hr)
end
end Ip

set_option Elab.async false
set_option linter.all false
set_option maxRecDepth 100000
set_option maxHeartbeats 2000000
/-! Ip, part 6: the look whether the program's text is the small language's. -/
namespace Ip
open PySem L2 PySem.Spec PyProof.Rows

structure Ck where
  N : List Str
  sc : Scope
  top : Bool
/-- the names of the defs, the constants of the module, the built-ins that are not told anew -/
structure Tb where
  fns : List Str
  cons : List (Str × PV)
  free : List Str
mutual
/-- the very same value -/
def samP : PV → PV → Bool
  | .non, .non => true
  | .bl a, .bl b => decide (a = b)
  | .int a, .int b => decide (a = b)
  | .str a, .str b => decide (a = b)
  | .lst a, .lst b => samPs a b
  | .tup a, .tup b => samPs a b
  | _, _ => false
def samPs : List PV → List PV → Bool
  | [], [] => true
  | a :: as, b :: bs => samP a b && samPs as bs
  | _, _ => false
end
mutual
theorem samP_eq : ∀ a b : PV, samP a b = true → a = b
  | .non, b, h => by cases b <;> simp [samP] at h <;> rfl
  | .bl a, b, h => by cases b <;> simp [samP] at h <;> rw [h]
  | .int a, b, h => by cases b <;> simp [samP] at h <;> rw [h]
  | .str a, b, h => by cases b <;> simp [samP] at h <;> rw [h]
  | .lst a, b, h => by cases b <;> simp [samP] at h; rw [samPs_eq _ _ h]
  | .tup a, b, h => by cases b <;> simp [samP] at h; rw [samPs_eq _ _ h]
  | .dct _ _ _, b, h => by cases b <;> simp [samP] at h
  | .set _, b, h => by cases b <;> simp [samP] at h
theorem samPs_eq : ∀ a b : List PV, samPs a b = true → a = b
  | [], b, h => by cases b <;> simp [samPs] at h <;> rfl
  | a :: as, b, h => by
    cases b <;> simp [samPs] at h
    rw [samP_eq _ _ h.1, samPs_eq _ _ h.2]
end

def okN (x : Str) : Bool := !(x == ("__debug__" : Str)) && !(x == ("__classdict__" : Str)) && decide (x ≠ ("__name__" : Str))
def visB (sc : Scope) (x : Str) : Bool := match sc.names.lookup x with
  | some .local => true
  | some .cell => true
  | some .free => true
  | _ => false
def gloB (sc : Scope) (x : Str) : Bool := decide (sc.names.lookup x = some .globalImplicit) && okN x
def locB (ck : Ck) (x : Str) : Bool := match ck.sc.names.lookup x with
  | some .local => true
  | some .cell => ck.top
  | _ => false
def conB : PV → Const → Bool
  | .non, .none => true
  | .bl a, .bool b => decide (a = b)
  | .int a, .int b => decide (a = b)
  | .str a, .str b => decide (a = b) && PyData.strOk a
  | _, _ => false
def bltN : Blt → Str
  | .len => "len"
  | .abs => "abs"
  | .int => "int"
  | .list => "list"
  | .tuple => "tuple"
  | .all => "all"
  | .any => "any"
  | .str => "str"
  | .repr => "repr"
  | .sorted => "sorted"
  | .set => "set"
  | .dict => "dict"
  | .min => "min"
  | .max => "max"
  | .sum => "sum"
  | .range => "range"
  | .enum => "enumerate"
  | .zip => "zip"
def tyN (t : Bool) : Str := if t then "tuple" else "list"
def kdN : Kd → String
  | .int => "int"
  | .str => "str"
  | .tuple => "tuple"
  | .bool => "bool"
  | .list => "list"
def freeB (T : Tb) (sc : Scope) (x : Str) : Bool := gloB sc x && T.free.contains x
/-- no slice -/
def plainIx : Expr → Bool
  | .Slice _ _ _ _ => false
  | _ => true
mutual
def mtG : Tg → Ck → Expr → Bool
  | .nm i, ck, e => match e with
    | .Name x _ => decide (ck.N[i]? = some x) && locB ck x
    | _ => false
  | .tup gs, ck, e => match e with
    | .Tuple es _ _ => mtGs gs ck es
    | _ => false
def mtGs : List Tg → Ck → List Expr → Bool
  | [], _, es => es.isEmpty
  | g :: gs, ck, es => match es with
    | e :: es => mtG g ck e && mtGs gs ck es
    | [] => false
end
mutual
/-- the names that a target gives values -/
def tgSl : Tg → List Nat
  | .nm i => [i]
  | .tup gs => tgSls gs
def tgSls : List Tg → List Nat
  | [] => []
  | g :: gs => tgSl g ++ tgSls gs
end
def ownP (N : List Str) (own : List Nat) : List (Str × Nat) := own.map fun i => ((N[i]?).getD "", i)
def blkCk (ck : Ck) (scope : Scope) : Ck := { N := ck.N, sc := relS scope ck.sc, top := false }
def mtStr : Mt → Str
  | .get => "get"
  | .index => "index"
  | .count => "count"
  | .join => "join"
  | .upper => "upper"
  | .append => "append"
  | .pop => "pop"
  | .get2 => "get"
  | .setd => "setdefault"
  | .remove => "remove"
/-- how many things it is handed -/
def arM : Mt → Nat
  | .get2 => 2
  | .setd => 2
  | _ => 1
def baseB : Expr → Bool
  | .Call (.Name _ _) [] [] _ => false
  | _ => true
def okM : Mt → Bool
  | .append => true
  | .count => true
  | .index => true
  | .join => true
  | .get => true
  | .get2 => true
  | _ => false
section
variable (T : Tb)
mutual
def mtE : Ex → Ck → Expr → Bool
  | .var i, ck, e => match e with
    | .Name x _ => decide (ck.N[i]? = some x) && visB ck.sc x && okN x
    | _ => false
  | .con v, _, e => match e with
    | .Constant c _ _ => conB v c
    | _ => false
  | .glo x v, ck, e => match e with
    | .Name y _ => decide (x = y) && gloB ck.sc x && T.cons.any fun q => decide (q.1 = x) && samP q.2 v
    | _ => false
  | .fnv f, ck, e => match e with
    | .Name x _ => decide (T.fns[f]? = some x) && gloB ck.sc x
    | _ => false
  | .tup es, ck, e => match e with
    | .Tuple xs _ _ => mtEs es ck xs && decide (xs.length ≤ 1000)
    | _ => false
  | .lst es, ck, e => match e with
    | .List xs _ => mtEs es ck xs && decide (xs.length ≤ 1000)
    | _ => false
  | .newL es, ck, e => match e with
    | .List xs _ => mtEs es ck xs && decide (xs.length ≤ 1000)
    | _ => false
  | .dsp _ es, ck, e => match e with
    | .Dict ks vs _ => mtDs es ck ks vs && decide (ks.length ≤ 15)
    | _ => false
  | .newD _ es, ck, e => match e with
    | .Dict ks vs _ => mtDs es ck ks vs && decide (ks.length ≤ 15)
    | _ => false
  | .bin op a b, ck, e => match e with
    | .BinOp x o y _ => decide (o = bopOf op) && mtE a ck x && mtE b ck y
    | _ => false
  | .neg a, ck, e => match e with
    | .UnaryOp .USub x _ => mtE a ck x
    | _ => false
  | .cmp op a b, ck, e => match e with
    | .Compare x [o] [y] _ => decide (o = copOf op) && mtE a ck x && mtE b ck y
    | _ => false
  | .chn o1 o2 a b c, ck, e => match e with
    | .Compare x [p1, p2] [y, z] _ => decide (p1 = copOf o1) && decide (p2 = copOf o2) && mtE a ck x && mtE b ck y && mtE c ck z
    | _ => false
  | .and a b, ck, e => match e with
    | .BoolOp .And [x, y] _ => mtE a ck x && mtE b ck y
    | .BoolOp .And (x :: y :: z :: r) pos => mtE a ck x && mtE b ck (.BoolOp .And (y :: z :: r) pos)
    | _ => false
  | .or a b, ck, e => match e with
    | .BoolOp .Or [x, y] _ => mtE a ck x && mtE b ck y
    | .BoolOp .Or (x :: y :: z :: r) pos => mtE a ck x && mtE b ck (.BoolOp .Or (y :: z :: r) pos)
    | _ => false
  | .not a, ck, e => match e with
    | .UnaryOp .Not x _ => mtE a ck x
    | _ => false
  | .ite c a b, ck, e => match e with
    | .IfExp x y z _ => mtE c ck x && mtE a ck y && mtE b ck z
    | _ => false
  | .ix a i, ck, e => match e with
    | .Subscript x y _ => mtE a ck x && mtE i ck y && plainIx y
    | _ => false
  | .sl a lo hi, ck, e => match e with
    | .Subscript x (.Slice l h none _) _ => mtE a ck x && mtO lo ck l && mtO hi ck h
    | _ => false
  | .call f es, ck, e => match e with
    | .Call (.Name x _) xs [] _ => decide (T.fns[f]? = some x) && gloB ck.sc x && mtEs es ck xs
    | _ => false
  | .callv _ _, _, _ => false
  | .blt b es, ck, e => match e with
    | .Call (.Name x _) xs [] _ => decide (x = bltN b) && freeB T ck.sc x && mtEs es ck xs && !xs.isEmpty
    | _ => false
  | .meth m o es, ck, e => match e with
    | .Call (.Attribute x n apos) ys [] cpos => mtE o ck x && baseB x && okM m && decide (n = (mtStr m : Str)) && decide (apos.endLine = cpos.line) && mtEs es ck ys && decide (ys.length = arM m)
    | _ => false
  | .isi a k, ck, e => match e with
    | .Call (.Name x _) [y, .Name t _] [] _ => decide (x = ("isinstance" : Str)) && freeB T ck.sc x && decide (t = (kdN k : Str)) && freeB T ck.sc t && mtE a ck y
    | _ => false
  | .comp a own g it ifs, ck, e => match e with
    | .ListComp x [⟨tg, iter, cs, 0⟩] scope _ => mtG g (blkCk ck scope) tg && mtI it ck tg iter && mtEs ifs (blkCk ck scope) cs && decide (cs.length ≤ 1) && mtE a (blkCk ck scope) x && blkC ck.N ck.sc scope (ownP ck.N own) && (tgSl g).all fun i => own.contains i
    | _ => false
  | .newC a own g it ifs, ck, e => match e with
    | .ListComp x [⟨tg, iter, cs, 0⟩] scope _ => mtG g (blkCk ck scope) tg && mtI it ck tg iter && mtEs ifs (blkCk ck scope) cs && decide (cs.length ≤ 1) && mtE a (blkCk ck scope) x && blkC ck.N ck.sc scope (ownP ck.N own) && (tgSl g).all fun i => own.contains i
    | _ => false
  | .newDL a, ck, e => match e with
    | .Call (.Name x _) [y] [] _ => decide (x = ("dict" : Str)) && freeB T ck.sc x && mtE a ck y
    | _ => false
  | .zipV t a b, ck, e => match e with
    | .Call (.Name x _) [.Call (.Name z _) [y1, y2] [] _] [] _ => decide (x = tyN t) && freeB T ck.sc x && decide (z = ("zip" : Str)) && freeB T ck.sc z && mtE a ck y1 && mtE b ck y2
    | _ => false
  | .slR a c, ck, e => match e with
    | .Subscript x (.Slice none none (some y) _) _ => mtE a ck x && mtE c ck y
    | _ => false
  | .rngV t a, ck, e => match e with
    | .Call (.Name x _) [.Call (.Name z _) [y] [] _] [] _ => decide (x = tyN t) && freeB T ck.sc x && decide (z = ("range" : Str)) && freeB T ck.sc z && mtE a ck y
    | _ => false
  | .comp2 a own g it ifs own1 g1 it1 ifs1, ck, e => match e with
    | .ListComp x [⟨tg, iter, cs, 0⟩, ⟨tg1, iter1, cs1, 0⟩] scope _ => mtG g (blkCk ck scope) tg && mtI it ck tg iter && mtEs ifs (blkCk ck scope) cs && decide (cs.length ≤ 1) &&
        mtG g1 (blkCk ck scope) tg1 && mtI it1 (blkCk ck scope) tg1 iter1 && mtEs ifs1 (blkCk ck scope) cs1 && decide (cs1.length ≤ 1) &&
        mtE a (blkCk ck scope) x && blkC ck.N ck.sc scope (ownP ck.N own) && (own1.all fun i => own.contains i) && ((tgSl g).all fun i => own.contains i) && (tgSl g1).all fun i => own1.contains i
    | _ => false
def mtO : Option Ex → Ck → Option Expr → Bool
  | none, _, e => e.isNone
  | some a, ck, e => match e with
    | some x => mtE a ck x
    | none => false
def mtEs : List Ex → Ck → List Expr → Bool
  | [], _, es => es.isEmpty
  | a :: as, ck, es => match es with
    | e :: es => mtE a ck e && mtEs as ck es
    | [] => false
def mtDs : List Ex → Ck → List (Option Expr) → List Expr → Bool
  | [], _, ks, vs => ks.isEmpty && vs.isEmpty
  | a :: b :: r, ck, ks, vs => match ks, vs with
    | some k :: ks, v :: vs => mtE a ck k && mtE b ck v && mtDs r ck ks vs
    | _, _ => false
  | _, _, _, _ => false
def mtI : Itx → Ck → Expr → Expr → Bool
  | .seq a, ck, _, e => mtE a ck e
  | .rng1 a, ck, _, e => match e with
    | .Call (.Name x _) [y] [] _ => decide (x = ("range" : Str)) && freeB T ck.sc x && mtE a ck y
    | _ => false
  | .rng2 a b, ck, _, e => match e with
    | .Call (.Name x _) [y, z] [] _ => decide (x = ("range" : Str)) && freeB T ck.sc x && mtE a ck y && mtE b ck z
    | _ => false
  | .enum a, ck, tg, e => match tg, e with
    | .Tuple _ _ _, .Call (.Name x _) [y] [] _ => decide (x = ("enumerate" : Str)) && freeB T ck.sc x && mtE a ck y
    | _, _ => false
  | .zip a b, ck, tg, e => match tg, e with
    | .Tuple _ _ _, .Call (.Name x _) [y, z] [] _ => decide (x = ("zip" : Str)) && freeB T ck.sc x && mtE a ck y && mtE b ck z
    | _, _ => false
end
end
/-- the names that a pair's or triple's parts are stored to one by one -/
def swp (sc : Scope) (ts vs : List Expr) : Option (List Str) :=
  if (ts.length == 2 || ts.length == 3) && vs.length == ts.length then
    let line := (ts.head?.map (·.pos.line)).getD 0
    let names := ts.filterMap fun e => match e with
      | .Name id pos => if sc.names.lookup id == some .local && pos.line == line then some id else none
      | _ => none
    if names.length != ts.length || names.eraseDups.length != names.length then none
    else if vs.all (foldedForSure 8) then none
    else some names
  else none
end Ip

set_option Elab.async false
set_option linter.all false
set_option maxRecDepth 100000
set_option maxHeartbeats 2000000
/-! Ip, part 6b: a def's promise where no object is being shown (so that repr may be asked within). -/
namespace Ip
open PySem L2 PySem.Spec PyProof.Rows
theorem deeper_grd (A : Around) (e : PySem.Env) : (A.deeper e).guards = A.guards := rfl
/-- a def's promise, of callers that show nothing -/
structure FnG (P : Program) (w : World) (K : PySem.W.Frag) (mg : Str → Option Value) (base : Heap) (CX : CXT) (k : Nat) (f : Addr) (fd : FuncData) (ps : List Str) (sp : Sp) : Prop where
  size : ∀ vs H Q E, sp vs H Q E → vs.length = ps.length
  goes : ∀ (A : Around) (outer : List PySem.Env) (s : Shared) (H : Hp) (args : Args) (us : List Value) (vs : List V) (Q : VK) (E : XK), A.guards = some [] → Room k A → Env0 P w K mg base A outer s H →
    BindsTo s fd args (ps.zip us) → Vals vs us → sp vs H Q E → codeAny (model P w) A (.call (.ref f) args) (CR CX outer P w H s Q E) s
section
variable {P : Program} {w : World} {K : PySem.W.Frag} {mg : Str → Option Value} {base : Heap} {CX : CXT} {k : Nat} {f : Addr} {fd : FuncData} {ps : List Str} {sp : Sp}
section
variable {X : Cx} {E : XK}
theorem FnG.call (F : FnG X.prog X.w X.K X.mg X.base CX k f fd ps sp) (hG : X.A.guards = some []) (hR : Room k X.A) (hB : Binds X.K fd ps []) (hP : Passes CX X E) {pins : List (Addr × Obj)} {σ : L2.St} {H : Hp} {s : Shared} {Q : VK} {us : List Value} {vs : List V}
    (J : Inv X pins σ H s) (hV : Vals vs us) (hs : sp vs H Q E) : wpAny (model X.prog X.w) X.A (PySem.call (.ref f) us) (EP X pins σ Q) X.xe s := by
  have hn : us.length = ps.length := (hV.length.symm).trans (F.size _ _ _ _ hs)
  have hb := hB s us J.kIn (by rw [List.append_nil]; exact hn)
  rw [List.append_nil] at hb
  have main := F.goes X.A X.stack s H ⟨us, []⟩ us vs Q E hG hR J.env0 hb hV hs
  refine wpAny_call (codeAny_mono main ?_)
  rintro (e | fl) s' hq
  · exact hP pins σ H s e s' J hq
  · rcases fl with _ | _ | _ | u
    all_goals first | exact J.after hq | exact hq.elim
end
theorem okG {x qual : Str} {params : Arguments} {body : List Stmt} {scope : Scope} {N : List Str} (D : FunD K x qual params body scope [] [] f fd) (S : FnScope N ps scope) (size : ∀ vs H Q E, sp vs H Q E → vs.length = ps.length)
    (hB : ∀ (cdv : Value) (A : Around) (outer : List PySem.Env) (s : Shared) (H : Hp) (vs : List V) (Q : VK) (E : XK), A.guards = some [] → Room k (A.deeper (envOfC qual scope s.heap.objs.size f cdv)) → sp vs H Q E →
      ∃ t, PSs (cxOf CX P w K mg base N qual scope f cdv A outer s H E) body t ∧ t { nx := fun _ H' => Q .non H', rt := Q } (L2.start N vs) H) : FnG P w K mg base CX (k + 1) f fd ps sp := by
  obtain ⟨oc, od, dV, kV, doc, pm, an, cdv, ct, osl, rfl, lk, hcd, _, _⟩ := D.ex
  refine ⟨size, fun A outer s H args us vs Q E hG hR hE hA hV hs => ?_⟩
  have hn : vs.length = ps.length := size _ _ _ _ hs
  have inK : K.In s.heap := hE.mod.kin.keeps fun b o e => (hE.bs b o e).1
  have noL : s.heap.NoLimit := hE.mod.nolimit.keeps fun b o e => (hE.bs b o e).1
  have kinds : ∀ y ∈ ps.zip us, scope.names.lookup y.1 = some .local ∨ (scope.names.lookup y.1 = some .cell ∧ ((cellsFrom (s.heap.objs.size + 1) scope.names []).lookup y.1).isSome = true) := by
    rintro ⟨n, v⟩ hy
    exact (S.par n (List.of_mem_zip hy).1).imp id fun q => ⟨q, PySem.W.cellsFrom_some _ _ _ (.inl q)⟩
  refine codeAny_call_function hR.depth (inK _ _ lk) rfl S.co S.gen rfl (PySem.W.codeRec_of inK hcd) (hA _ _ _ _ ?_)
  refine wpAny_newFunctionEnv_cells S.kind kinds fun env e s1 hx => ?_
  subst e
  refine ⟨noL.keeps hx.toInCall.keep, codeAny_func ?_⟩
  obtain ⟨t, ht, hq⟩ := hB cdv A outer s H vs Q E hG (hR.deeper _) hs
  have J : Inv (cxOf CX P w K mg base N qual scope f cdv A outer s H E) [] (L2.start N vs) H s1 := inv_start S hR.hd hE hn hV hx
  refine wpAny_mono (ht.run [] s1 _ H _ J hq) ?_ fun e s' z => z
  have fin : ∀ {σ' : L2.St} {H' : Hp} {v : V} {u : Value} {s' : Shared}, Inv (cxOf CX P w K mg base N qual scope f cdv A outer s H E) [] σ' H' s' → RelV v u → Q v H' → CE outer P w H s Q u s' := fun J' rv q => ⟨_, _, J'.os, J'.bare, J'.base, J'.hok, rv, q⟩
  rintro (_ | _ | _ | u) s' z
  · obtain ⟨σ', H', J', q⟩ := z
    exact fin (v := .non) (u := .none) J' rfl q
  · obtain ⟨_, _, _, q⟩ := z
    exact q.elim
  · obtain ⟨_, _, _, q⟩ := z
    exact q.elim
  · obtain ⟨v, σ', H', J', rv, q⟩ := z
    exact fin J' rv q
end
end Ip

set_option Elab.async false
set_option linter.all false
set_option maxRecDepth 100000
set_option maxHeartbeats 2000000
/-! Ip, part 6c: from a law's def to the law. -/
namespace Ip
open PySem L2 PySem.Spec PyProof.Rows
/-- nothing of the fragment is a list -/
def noL (K : PySem.W.Frag) : Bool := K.all fun q => match q.2.cls with
  | .type c => !decide (c = "list")
  | _ => true
theorem look_mem {a : Addr} {o : Obj} : ∀ {l : List (Addr × Obj)}, l.lookup a = some o → (a, o) ∈ l
  | [], h => by cases h
  | (b, u) :: r, h => by
    rw [List.lookup_cons] at h
    by_cases e : a = b
    · subst e
      simp at h
      subst h
      exact List.mem_cons_self
    · have : (a == b) = false := by simpa using e
      rw [this] at h
      exact List.mem_cons_of_mem _ (look_mem h)
theorem noL_ok {K : PySem.W.Frag} (h : noL K = true) {a : Addr} {o : Obj} (e : K.lookup a = some o) : o.cls ≠ .type "list" := fun q => by
  have hm := List.all_eq_true.mp h _ (look_mem e)
  rw [show ((a, o) : Addr × Obj).2.cls = .type "list" from q] at hm
  simp at hm
/-- the heap of a law's start: the script alone is tracked -/
def H1 (a : Addr) (vs : List Value) (ns : List Int) : Hp := fun b => if b = a then some (.frz { cls := .type "list", data := .seq vs.toArray } (.lst (ns.map V.int))) else none
theorem H1_at {a : Addr} {vs : List Value} {ns : List Int} : H1 a vs ns a = some (.frz { cls := .type "list", data := .seq vs.toArray } (.lst (ns.map V.int))) := if_pos rfl
theorem H1_no {a b : Addr} {vs : List Value} {ns : List Int} (h : b ≠ a) : H1 a vs ns b = none := if_neg h
theorem lawG {P : Program} {w : World} {K : PySem.W.Frag} {mg mb : Str → Option Value} {k : Nat} {fa a : Addr} {fd : FuncData} {x : Str} {sp : Sp} {s : Shared} {vs : List Value} {ns : List Int}
    (KX : K.In s.heap) (hNs : s.heap.Ns mainGlobals mg) (hBn : s.heap.Ns builtinsNs mb) (hBb : ∀ x : Str, x ≠ "__name__" → mb x = bootBuiltins x) (hLim : s.heap.NoLimit) (hGen : s.gens = #[])
    (hObj : s.heap.get? a = some { cls := .type "list", data := .seq vs.toArray }) (hInt : IntsAre vs ns) (hLen : ns.length ≤ sizeLine) (hRm : Room k callerA) (hNo : noL K = true)
    (F : ∀ base : Heap, K.In base → base.Ns mainGlobals mg → FnG P w K mg base CX0 k fa fd [x] sp) (hBnd : ∀ (s : Shared) (u : Value), BindsTo s fd ⟨[u], []⟩ [(x, u)])
    (hSp : sp [.ref a] (H1 a vs ns) (fun v _ => v = .bl true) fun _ _ _ => False) :
    codeAny (model P w) callerA (.call (.ref fa) ⟨[.ref a], []⟩) (fun r s' => r = .ok (.ret (.bool true)) ∧ OldK s.heap s'.heap ∧ s'.os = s.os ∧ AllBare s'.gens) s := by
  have rv := vals_ints hInt
  have nv := hInt.length
  have Kno : K.lookup a = none := by
    cases q : K.lookup a with
    | none => rfl
    | some o =>
      have := KX a o q
      rw [hObj] at this
      cases this
      exact absurd rfl (noL_ok hNo q)
  have free : ∀ {b : Addr}, b ≠ a → H1 a vs ns b = none := fun h => H1_no h
  have hid : ∀ {b : Addr} {o : Obj}, b ≠ a → s.heap.get? b = some o → (hidT s.heap (H1 a vs ns)).get? b = some o := fun h e => hidT_get e (free h)
  have names : ∀ {b : Addr} {m : Str → Option Value}, s.heap.Ns b m → (hidT s.heap (H1 a vs ns)).Ns b m := by
    rintro b m ⟨o, es, ep, e, d, r⟩
    refine ⟨o, es, ep, hid ?_ e, d, r⟩
    rintro rfl
    rw [hObj] at e
    cases e
    cases (show Data.seq vs.toArray _ = Data.dict es ep from d)
  have KB : K.In (hidT s.heap (H1 a vs ns)) := fun b o e => hid (by rintro rfl; rw [Kno] at e; cases e) (KX b o e)
  have hM : Mod K mg (hidT s.heap (H1 a vs ns)) := by
    obtain ⟨mc, l1, l2⟩ := hLim
    exact ⟨KB, names hNs, ⟨mb, names hBn, hBb⟩, mc, names l1, l2⟩
  have hOk : HOk P w (H1 a vs ns) s.heap := fun b u z => by
    by_cases e : b = a
    · subst e
      rw [H1_at] at z
      cases z
      exact ⟨hObj, by rw [List.length_map]; exact hLen, vs, _, rv, hObj⟩
    · rw [free e] at z
      cases z
  have none_in : ∀ b : Addr, b ∉ ([] : List Addr) := fun b h => by cases h
  have E0 : Env0 P w K mg (hidT s.heap (H1 a vs ns)) callerA [] s (H1 a vs ns) := ⟨rfl, hM, fun b o e => of_hidT e, Nat.le_of_eq (hidT_size _ _), trivial, fun b h => absurd h (none_in b), hOk, .of_eq hGen⟩
  have go := (F _ KB (names hNs)).goes callerA [] s (H1 a vs ns) ⟨[.ref a], []⟩ [.ref a] [.ref a] _ _ rfl hRm E0 (hBnd s (.ref a)) (.cons rfl .nil) hSp
  refine codeAny_mono go ?_
  rintro (e | fl) s' z
  · exact z.elim
  · rcases fl with _ | _ | _ | u
    · exact z.elim
    · exact z.elim
    · exact z.elim
    · obtain ⟨v, H', os, bare, un, hok', r, q⟩ := z
      have q : v = .bl true := q
      subst q
      obtain rfl : u = Value.bool true := r
      refine ⟨rfl, OldK.of_keep fun b o e => ?_, os, bare⟩
      by_cases eb : b = a
      · subst eb
        obtain ⟨g, _⟩ := hok' b _ (un.frzs b _ _ H1_at)
        rw [hObj] at e
        cases e
        exact g
      · exact un.keep b o e (free eb) (none_in b) (none_in b)
theorem walkG {l : PySem.W.OpenLaw} {n k : Nat} {q : Program} {loose : List Str} {XP : (Str → Option Value) → Heap → Prop} {YP : World → Heap → Prop} {d : DefRec} {x : Str}
    (hn : l.most = some n) (hn2 : n ≤ sizeLine) (hdf : d.params.defaults = []) (hr : Room k callerA)
    (F : ∀ (w : World) (mg : Str → Option Value) (fa : Addr) (h : Heap), YP w h → h.Ns mainGlobals mg → mg d.name = some (.ref fa) →
      ∃ (K : PySem.W.Frag) (fd : FuncData) (sp : Sp), K.In h ∧ noL K = true ∧ (∀ (s : Shared) (u : Value), BindsTo s fd ⟨[u], []⟩ [(x, u)]) ∧
        (∀ (a : Addr) (vs : List Value) (ns : List Int), ns.length ≤ n → sp [.ref a] (H1 a vs ns) (fun v _ => v = .bl true) fun _ _ _ => False) ∧
        ∀ base : Heap, K.In base → base.Ns mainGlobals mg → FnG l.prog w K mg base CX0 k fa fd [x] sp) :
    PySem.W.WalkO q loose XP YP l.row.toRowW d [] (fun f vs => PySem.call f vs) := by
  refine Att.attach_call hn hdf fun w s₀ s₁ mg mb fa o pm cd doc a vs ns G Y ho hd hcd hmg hobj hints hlen hg => ?_
  obtain ⟨K, fd, sp, KX, hNo, hb, hsp, hF⟩ := F w mg fa _ Y G.T.g hmg
  exact lawG KX G.T.g G.T.b G.T.builtins G.T.nolimit hg hobj hints (Nat.le_trans hlen hn2) hr hNo hF hb (hsp a vs ns hlen)
end Ip

set_option Elab.async false
set_option linter.all false
set_option maxRecDepth 100000
set_option maxHeartbeats 4000000
/-! Ip, part 7: what passes the look does what the small language says: targets, expressions. -/
namespace Ip
open PySem L2 PySem.Spec PyProof.Rows

/-- the context of a law: constants, and how an exception lies -/
structure Gc where
  C : RC
  xrep : Exc → Value → Option Addr → Hp → Prop
/-- what a def promises -/
def spG (g : Gc) (G : Nat → List EV → M EV) (f : Nat) : Sp := fun vs H Q Ew => ∃ φ S es, RepS g.C φ H S ∧ RepEs g.C φ H vs es ∧
  Post g.C (fun x _ _ H' => ∀ cls d, g.xrep x cls d H' → Ew cls d H') (RepE g.C) φ H (G f es S) Q
structure Fx (g : Gc) (T : Tb) (G : Nat → List EV → M EV) (k : Nat) (CX : CXT) (P : Program) (w : World) (K : PySem.W.Frag) (mg : Str → Option Value) (base : Heap) : Prop where
  con : ∀ x v, (x, v) ∈ T.cons → ∃ u z, mg x = some u ∧ RelV z u ∧ ∀ φ H, Rep g.C.K φ H z v
  free : ∀ x, x ∈ T.free → mg x = none
  fns : ∀ (f : Nat) x, T.fns[f]? = some x → ∃ a fd ps, g.C.fad f = some a ∧ mg x = some (.ref a) ∧ PySem.W.keepIn K (.ref a) = true ∧ Binds K fd ps [] ∧ FnG P w K mg base CX k a fd ps (spG g G f)
structure Fits (g : Gc) (E : EX) (T : Tb) (G : Nat → List EV → M EV) (ck : Ck) (k : Nat) (CX : CXT) (Wish : XK) (X : Cx) : Prop where
  hN : X.N = ck.N
  nd : ck.N.Nodup
  sc : X.env.scope = ck.sc
  calm : X.calm = true
  hX : KX X g.C.K
  room : Room k X.A
  top : ck.top = true → ∀ x, X.fn x = true
  fx : Fx g T G k CX X.prog X.w X.K X.mg X.base
  pass : Passes CX X Wish
  hE : ∀ x S φ H, E x S φ H → ∀ cls d, g.xrep x cls d H → Wish cls d H
  cx0 : ∀ outer H s e s', CX outer H s (fun _ _ _ => False) e s' → False
  own : PassesOwn (model X.prog X.w) X.A X.env X.xe
  grd : X.A.guards = some []
abbrev tE (g : Gc) (E : EX) (G : Nat → List EV → M EV) (e : Ex) : TE := tM g.C E (RepE g.C) fun env => ev G e env
abbrev tT (g : Gc) (E : EX) (G : Nat → List EV → M EV) (e : Ex) : TT := tM g.C E EqB fun env => M.bind (ev G e env) truthE
abbrev tA (g : Gc) (E : EX) (G : Nat → List EV → M EV) (es : List Ex) : TA := tM g.C E (RepEs g.C) fun env => evs G es env
def OptI (_ : Ph) (_ : Hp) (b : Option Int) (a : Option EV) : Prop := a = b.map fun i => .p (.int i)
theorem PE.imp {X : Cx} {e : Expr} {t t' : TE} (h : PE X e t) (i : ∀ σ H Q, t' σ H Q → t σ H Q) : PE X e t' := ⟨fun pins s σ H Q I q => h.run pins s σ H Q I (i _ _ _ q)⟩
theorem PT.imp {X : Cx} {e : Expr} {t t' : TT} (h : PT X e t) (i : ∀ σ H Q, t' σ H Q → t σ H Q) : PT X e t' := ⟨fun pins s σ H Q I q => h.run pins s σ H Q I (i _ _ _ q)⟩
theorem PA.imp {X : Cx} {e : List Expr} {t t' : TA} (h : PA X e t) (i : ∀ σ H Q, t' σ H Q → t σ H Q) : PA X e t' := ⟨fun pos pins s σ H Q I q => h.run pos pins s σ H Q I (i _ _ _ q)⟩
section
variable {g : Gc} {E : EX} {T : Tb} {G : Nat → List EV → M EV} {ck : Ck} {k : Nat} {CX : CXT} {Wish : XK} {X : Cx}
theorem okN_1 {x : Str} (h : okN x = true) : (x == ("__debug__" : Str)) = false ∧ (x == ("__classdict__" : Str)) = false ∧ x ≠ ("__name__" : Str) := by
  unfold okN at h
  simp only [Bool.and_eq_true, Bool.not_eq_true', decide_eq_true_eq] at h
  exact ⟨h.1.1, h.1.2, h.2⟩
theorem Fits.vis (F : Fits g E T G ck k CX Wish X) {x : Str} (h : visB ck.sc x = true) : Vis X.env.scope x := by
  rw [F.sc]
  unfold visB at h
  unfold Vis
  split at h <;> first | (cases h; done) | simp_all
theorem Fits.glo (F : Fits g E T G ck k CX Wish X) {x : Str} (h : gloB ck.sc x = true) : Gl X x ∧ (x == ("__debug__" : Str)) = false ∧ x ≠ ("__name__" : Str) := by
  unfold gloB at h
  simp only [Bool.and_eq_true, decide_eq_true_eq] at h
  refine ⟨?_, (okN_1 h.2).1, (okN_1 h.2).2.2⟩
  show X.env.scope.names.lookup x = _
  rw [F.sc]
  exact h.1
theorem Fits.free (F : Fits g E T G ck k CX Wish X) {x : Str} (h : freeB T ck.sc x = true) : Gl X x ∧ (x == ("__debug__" : Str)) = false ∧ x ≠ ("__name__" : Str) ∧ X.mg x = none := by
  unfold freeB at h
  simp only [Bool.and_eq_true, List.contains_iff_mem] at h
  obtain ⟨h1, h2, h3⟩ := F.glo h.1
  exact ⟨h1, h2, h3, F.fx.free x h.2⟩
theorem Fits.loc (F : Fits g E T G ck k CX Wish X) {x : Str} (h : locB ck x = true) : L2.Loc X.env.scope x ∧ (X.fn x = true ∨ X.env.scope.names.lookup x = some .local) := by
  unfold locB at h
  rw [F.sc]
  unfold L2.Loc
  split at h
  · rename_i e; exact ⟨.inl e, .inr e⟩
  · rename_i e; exact ⟨.inr e, .inl (F.top h x)⟩
  · cases h
theorem Fits.hu (F : Fits g E T G ck k CX Wish X) : X.A.units + 65 < cLine := by have := F.room.un; omega

/-! ### targets -/
def tG (g : Gc) (t : Tg) : TG := fun v σ H Q => ∃ φ S env pv env', RepS g.C φ H S ∧ RepEnv g.C φ H env σ ∧ Rep g.C.K φ H v pv ∧ asgT t pv env = some env' ∧ ∀ σ', RepEnv g.C φ H env' σ' → (∀ i, i ∉ tgSl t → σ'[i]? = σ[i]?) → Q σ' H
def tGs (g : Gc) (t : List Tg) : TGs := fun vs σ H Q => ∃ φ S env pvs env', RepS g.C φ H S ∧ RepEnv g.C φ H env σ ∧ Reps g.C.K φ H vs pvs ∧ asgTs t pvs env = some env' ∧ ∀ σ', RepEnv g.C φ H env' σ' → (∀ i, i ∉ tgSls t → σ'[i]? = σ[i]?) → Q σ' H
theorem PG.imp {X : Cx} {e : Expr} {t t' : TG} (h : PG X e t) (i : ∀ v σ H Q, t' v σ H Q → t v σ H Q) : PG X e t' := ⟨fun pins s σ H v u Q I r q => h.run pins s σ H v u Q I r (i _ _ _ _ q)⟩
theorem PGs.imp {X : Cx} {e : List Expr} {t t' : TGs} (h : PGs X e t) (i : ∀ v σ H Q, t' v σ H Q → t v σ H Q) : PGs X e t' := ⟨fun pins s σ H v u Q I r q => h.run pins s σ H v u Q I r (i _ _ _ _ q)⟩
theorem assignEach_cons {e : Expr} {es : List Expr} {env : PySem.Env} {t : Tg} {ck : Ck} (h : mtG t ck e = true) : assignEach (e :: es) env = (false, assign e env) :: assignEach es env := by
  cases t with
  | nm i => cases e <;> simp [mtG] at h <;> rfl
  | tup gs => cases e <;> simp [mtG] at h <;> rfl
theorem assignEach_len : ∀ {ts : List Tg} {es : List Expr} {env : PySem.Env} {ck : Ck}, mtGs ts ck es = true → (assignEach es env).length = ts.length ∧ (assignEach es env).findIdx? (·.1) = none
  | [], es, env, ck, h => by cases es <;> simp [mtGs] at h; exact ⟨rfl, rfl⟩
  | t :: ts, es, env, ck, h => by
    cases es with
    | nil => simp [mtGs] at h
    | cons e es =>
      simp [mtGs] at h
      obtain ⟨h1, h2⟩ := assignEach_len (env := env) h.2
      rw [assignEach_cons h.1]
      refine ⟨by simp [h1], ?_⟩
      rw [List.findIdx?_cons]
      simp [h2]
mutual
theorem snd_g (F : Fits g E T G ck k CX Wish X) : ∀ (t : Tg) (e : Expr), mtG t ck e = true → PG X e (tG g t)
  | .nm i, e, h => by
    cases e <;> simp only [mtG, Bool.false_eq_true] at h <;> try (cases h; done)
    rename_i x pos
    simp only [Bool.and_eq_true, decide_eq_true_eq] at h
    obtain ⟨l1, l2⟩ := F.loc h.2
    refine PG.imp (pg_name (i := i) (by rw [F.hN]; exact F.nd) (by rw [F.hN]; exact h.1) l1 l2) fun v σ H Q q => ?_
    obtain ⟨φ, S, env, pv, env', hS, hE, r, e, q⟩ := q
    simp only [asgT, Option.some.injEq] at e
    subst e
    exact q _ (hE.set i (v := .p pv) r) fun j hj => List.getElem?_set_ne fun e => hj (by subst e; simp [tgSl])
  | .tup gs, e, h => by
    cases e <;> simp only [mtG, Bool.false_eq_true] at h <;> try (cases h; done)
    rename_i es kk pos
    obtain ⟨l1, l2⟩ := assignEach_len (env := X.env) h
    refine PG.imp (pg_tup (n := gs.length) F.calm (snd_gs F gs es h) l1 l2) fun v σ H Q q => ?_
    obtain ⟨φ, S, env, pv, env', hS, hE, r, e, q⟩ := q
    cases pv <;> simp only [asgT, reduceCtorEq] at e
    rename_i vs
    split at e
    · rename_i hl
      cases r with
      | tup p rr =>
        have p' := p.sq
        rw [← F.hX.k] at p'
        exact ⟨_, _, rfl, p', by rw [rr.length, hl], φ, S, env, vs, env', hS, hE, rr, e, fun σ' h1 h2 => q σ' h1 fun i hi => h2 i (by simpa [tgSl] using hi)⟩
    · cases e
theorem snd_gs (F : Fits g E T G ck k CX Wish X) : ∀ (ts : List Tg) (es : List Expr), mtGs ts ck es = true → PGs X es (tGs g ts)
  | [], es, h => by
    cases es <;> simp only [mtGs, List.isEmpty_cons, Bool.false_eq_true] at h
    refine PGs.imp pgs_nil fun v σ H Q q => ?_
    obtain ⟨φ, S, env, pv, env', hS, hE, r, e, q⟩ := q
    cases pv <;> simp only [asgTs, reduceCtorEq, Option.some.injEq] at e
    subst e
    cases r
    exact ⟨rfl, q _ hE fun _ _ => rfl⟩
  | t :: ts, es, h => by
    cases es with
    | nil => simp only [mtGs, Bool.false_eq_true] at h
    | cons e es =>
      simp only [mtGs, Bool.and_eq_true] at h
      refine PGs.imp (pgs_cons (snd_g F t e h.1) (snd_gs F ts es h.2) (by rw [assignEach_cons h.1]; rfl)) fun v σ H Q q => ?_
      obtain ⟨φ, S, env, pv, env', hS, hE, r, e, q⟩ := q
      cases pv with
      | nil => simp only [asgTs, reduceCtorEq] at e
      | cons w ws =>
        simp only [asgTs] at e
        cases r with
        | cons r1 r2 =>
          cases a : asgT t w env with
          | none => rw [a] at e; cases e
          | some en =>
            rw [a] at e
            exact ⟨_, _, rfl, φ, S, env, w, en, hS, hE, r1, a, fun σ' h' h2 => ⟨φ, S, en, ws, env', hS, h', r2, e, fun σ2 h3 h4 => q σ2 h3 fun i hi => by
              simp only [tgSls, List.mem_append, not_or] at hi
              rw [h4 i hi.2, h2 i hi.1]⟩⟩
end
end
end Ip

set_option Elab.async false
set_option linter.all false
set_option maxRecDepth 100000
set_option maxHeartbeats 4000000
/-! Ip, part 8: expressions, one construct after another. -/
namespace Ip
open PySem L2 PySem.Spec PyProof.Rows
section
variable {g : Gc} {E : EX} {T : Tb} {G : Nat → List EV → M EV} {ck : Ck} {k : Nat} {CX : CXT} {Wish : XK} {X : Cx}
variable {e a b c : Expr} {a' b' c' : Ex} {pos : Pos}

theorem Post.truthE {C : RC} {φ : Ph} {H : Hp} {S : Store} {x : V} {v : EV} {γ δ : Type} {R2 : Ph → Hp → δ → γ → Prop} {k : Bool → M γ} {Q : δ → Hp → Prop} (hX : KX X C.K) (hS : RepS C φ H S) (r : RepE C φ H x v) (h : Post C E R2 φ H (M.bind (Ip.truthE v) k S) Q) :
    ∃ t, TruV X.K x H t ∧ Post C E R2 φ H (k t S) Q := by
  have h' : Post C E R2 φ H (M.bind (Ip.rd v) (fun w => M.bind (Ip.ofO (truth w)) k) S) Q := by
    have e : M.bind (Ip.truthE v) k S = M.bind (Ip.rd v) (fun w => M.bind (Ip.ofO (truth w)) k) S := by
      show M.bind (M.bind (Ip.rd v) fun x => Ip.ofO (truth x)) k S = _
      unfold M.bind
      cases Ip.rd v S <;> rfl
    rw [← e]; exact h
  obtain ⟨w, hw, h2⟩ := Post.rd hS r h'
  obtain ⟨t, ht, h3⟩ := Post.ofO h2
  exact ⟨t, truV_of hX hw ht, h3⟩
theorem Post.done {C : RC} {φ : Ph} {H : Hp} {S : Store} {α β : Type} {R : Ph → Hp → β → α → Prop} {m : M α} {Q : β → Hp → Prop} (h : Post C E R φ H (m S) Q) : Post C E R φ H (M.bind m M.pure S) Q := by
  have e : M.bind m M.pure S = m S := by
    unfold M.bind
    cases m S <;> rfl
  rw [e]; exact h
/-- a test by its value's truth -/
theorem pt_of (F : Fits g E T G ck k CX Wish X) (h : PE X e (tE g E G a')) (he : ∀ whole, isTrue e X.env whole = (do let v ← whole; standAt e.pos; holding [v] (truthy v))) : PT X e (tT g E G a') := by
  refine PT.imp (pt_truth h he) fun σ H Q q => ?_
  obtain ⟨φ, S, env, hS, hE, q⟩ := q
  refine (step (R := RepE g.C) hS hE q).mono fun x H1 n => ?_
  obtain ⟨φ1, S1, v, eq, e1, s1, en1, r1, p1⟩ := n
  obtain ⟨t, ht, p2⟩ := Post.truthE (k := M.pure) F.hX s1 r1 (Post.done p1)
  exact ⟨t, ht, p2 φ1 H1 t (Ext.refl _ _) s1 rfl⟩
abbrev Both (X : Cx) (g : Gc) (E : EX) (G : Nat → List EV → M EV) (e : Expr) (a' : Ex) : Prop := PE X e (tE g E G a') ∧ PT X e (tT g E G a')
theorem both_of (F : Fits g E T G ck k CX Wish X) (h : PE X e (tE g E G a')) (he : ∀ whole, isTrue e X.env whole = (do let v ← whole; standAt e.pos; holding [v] (truthy v))) : Both X g E G e a' := ⟨h, pt_of F h he⟩

theorem s_var (F : Fits g E T G ck k CX Wish X) {i : Nat} (h : mtE T (.var i) ck e = true) : Both X g E G e (.var i) := by
  cases e <;> simp only [mtE, Bool.false_eq_true] at h <;> try (cases h; done)
  rename_i x pos
  simp only [Bool.and_eq_true, decide_eq_true_eq] at h
  obtain ⟨⟨h1, h2⟩, h3⟩ := h
  refine both_of F (PE.imp (pe_var (i := i) (by rw [F.hN]; exact h1) (F.vis h2) (okN_1 h3).1 (okN_1 h3).2.1) fun σ H Q q => ?_) fun _ => rfl
  obtain ⟨φ, S, env, hS, hE, q⟩ := q
  dsimp only [ev, getV] at q
  cases hi : env[i]? with
  | none => rw [hi] at q; exact q.elim
  | some o =>
    cases o with
    | none => rw [hi] at q; exact q.elim
    | some v =>
      rw [hi] at q
      obtain ⟨x, h1, h2⟩ := hE.val i v hi
      exact ⟨x, h1, q φ H x (Ext.refl _ _) hS h2⟩
theorem s_pure {v : PV} {w : V} (F : Fits g E T G ck k CX Wish X) (h : PE X e (tC w)) (hr : ∀ φ H, Rep g.C.K φ H w v) (a' : Ex) (ha : ∀ env, ev G a' env = M.pure (.p v)) : PE X e (tE g E G a') := by
  refine PE.imp h fun σ H Q q => ?_
  obtain ⟨φ, S, env, hS, hE, q⟩ := q
  dsimp only at q
  rw [ha] at q
  exact q φ H w (Ext.refl _ _) hS (hr φ H)
theorem s_con (F : Fits g E T G ck k CX Wish X) {v : PV} (h : mtE T (.con v) ck e = true) : Both X g E G e (.con v) := by
  cases e <;> simp only [mtE, Bool.false_eq_true] at h <;> try (cases h; done)
  rename_i cst kk pos
  cases v <;> cases cst <;> simp only [conB, Bool.false_eq_true] at h <;> try (cases h; done)
  · exact both_of F (s_pure F pe_non (fun _ _ => .non) _ fun env => by simp only [ev]) fun _ => rfl
  · simp only [decide_eq_true_eq] at h; subst h
    exact both_of F (s_pure F pe_bl (fun _ _ => .bl _) _ fun env => by simp only [ev]) fun _ => rfl
  · simp only [decide_eq_true_eq] at h; subst h
    exact both_of F (s_pure F pe_int (fun _ _ => .int _) _ fun env => by simp only [ev]) fun _ => rfl
  · simp only [Bool.and_eq_true, decide_eq_true_eq] at h
    obtain ⟨h1, h2⟩ := h
    subst h1
    exact both_of F (s_pure F pe_str (fun _ _ => .str h2) _ fun env => by simp only [ev]) fun _ => rfl
theorem s_glo (F : Fits g E T G ck k CX Wish X) {x : Str} {v : PV} (h : mtE T (.glo x v) ck e = true) : Both X g E G e (.glo x v) := by
  cases e <;> simp only [mtE, Bool.false_eq_true] at h <;> try (cases h; done)
  rename_i y pos
  simp only [Bool.and_eq_true, decide_eq_true_eq, List.any_eq_true] at h
  obtain ⟨⟨h1, h2⟩, ⟨y, w⟩, hm, h3, h4⟩ := h
  subst h1
  subst h3
  have e := samP_eq _ _ h4
  subst e
  obtain ⟨g1, g2, g3⟩ := F.glo h2
  obtain ⟨u, z, m1, m2, m3⟩ := F.fx.con _ _ hm
  exact both_of F (s_pure F (pe_glob g1 m1 m2 g2) m3 _ fun env => by simp only [ev]) fun _ => rfl
theorem s_fnv (F : Fits g E T G ck k CX Wish X) {f : Nat} (h : mtE T (.fnv f) ck e = true) : Both X g E G e (.fnv f) := by
  cases e <;> simp only [mtE, Bool.false_eq_true] at h <;> try (cases h; done)
  rename_i x pos
  simp only [Bool.and_eq_true, decide_eq_true_eq] at h
  obtain ⟨h1, h2⟩ := h
  obtain ⟨g1, g2, g3⟩ := F.glo h2
  obtain ⟨a, fd, ps, m1, m2, m3, _⟩ := F.fx.fns _ _ h1
  refine both_of F (PE.imp (pe_glob (v := .ref a) g1 m2 rfl g2) fun σ H Q q => ?_) fun _ => rfl
  obtain ⟨φ, S, env, hS, hE, q⟩ := q
  simp only [ev] at q
  exact q φ H _ (Ext.refl _ _) hS ⟨a, m1, rfl⟩
/-! displays -/
theorem evs_len : ∀ {as : List Ex} {env : Nv} {S S' : Store} {vs : List EV}, evs G as env S = .ok vs S' → vs.length = as.length
  | [], _, _, _, _, h => by
    simp only [evs, M.pure, Res.ok.injEq] at h
    rw [← h.1]; rfl
  | a :: as, env, S, S', vs, h => by
    simp only [evs] at h
    change M.bind (ev G a env) (fun v => M.bind (evs G as env) fun vs => M.pure (v :: vs)) S = _ at h
    unfold M.bind at h
    cases h1 : ev G a env S with
    | ok v S1 =>
      rw [h1] at h
      dsimp only at h
      cases h2 : evs G as env S1 with
      | ok ws S2 =>
        rw [h2] at h
        simp only [M.pure, Res.ok.injEq] at h
        rw [← h.1, List.length_cons, evs_len h2, List.length_cons]
      | exc _ _ => rw [h2] at h; cases h
      | stuck => rw [h2] at h; cases h
    | exc _ _ => rw [h1] at h; cases h
    | stuck => rw [h1] at h; cases h
theorem s_tup (F : Fits g E T G ck k CX Wish X) {es : List Expr} {as : List Ex} {kk : Nat} (ha : PA X es (tA g E G as)) (hl : es.length ≤ 1000) (hm : as.length = es.length) : PE X (.Tuple es kk pos) (tE g E G (.tup as)) := by
  refine PE.imp (pe_tup ha) fun σ H Q q => ?_
  obtain ⟨φ, S, env, hS, hE, q⟩ := q
  simp only [ev] at q
  refine (step (R := RepEs g.C) hS hE q).mono fun xs H1 n => ?_
  obtain ⟨φ1, S1, vs, eq, e1, s1, en1, r1, p1⟩ := n
  obtain ⟨ws, hw, p2⟩ := Post.ofO p1
  have rr := pures_rep r1 hw
  have hlen : xs.length ≤ sizeLine := by
    rw [r1.length, evs_len eq, hm, line_eq]
    exact Nat.le_trans hl (by decide)
  refine ⟨hlen, fun p hp => ?_⟩
  obtain ⟨np, e2, s2⟩ := s1.alloc (o := .tup xs) hp
  exact p2 φ1 _ _ e2 s2 (Rep.newT np (Reps.mono e2 _ _ rr))
end
end Ip

set_option Elab.async false
set_option linter.all false
set_option maxRecDepth 100000
set_option maxHeartbeats 4000000
/-! Ip, part 9: expressions, further. -/
namespace Ip
open PySem L2 PySem.Spec PyProof.Rows
section
variable {g : Gc} {E : EX} {T : Tb} {G : Nat → List EV → M EV} {ck : Ck} {k : Nat} {CX : CXT} {Wish : XK} {X : Cx}
variable {e a b c : Expr} {a' b' c' : Ex} {pos : Pos}

theorem mtE_star {a' : Ex} {e : Expr} {es : List Expr} {env : PySem.Env} (h : mtE T a' ck e = true) : starEach (e :: es) env = (false, eval e env) :: starEach es env := by
  cases e with
  | Starred x p => cases a' <;> simp only [mtE, Bool.false_eq_true] at h
  | _ => rfl
theorem mtEs_star : ∀ {as : List Ex} {es : List Expr} {env : PySem.Env} {pos : Pos}, mtEs T as ck es = true → (backTo pos (starEach es env)).any (·.1) = false
  | [], es, env, pos, h => by
    cases es with
    | nil => rfl
    | cons e es => simp only [mtEs, List.isEmpty_cons, Bool.false_eq_true] at h
  | a :: as, es, env, pos, h => by
    cases es with
    | nil => simp only [mtEs, Bool.false_eq_true] at h
    | cons e es =>
      simp only [mtEs, Bool.and_eq_true] at h
      rw [mtE_star h.1]
      have := mtEs_star (env := env) (pos := pos) h.2
      unfold backTo at this ⊢
      simpa using this
theorem mtEs_len : ∀ {as : List Ex} {es : List Expr}, mtEs T as ck es = true → as.length = es.length
  | [], es, h => by
    cases es with
    | nil => rfl
    | cons e es => simp only [mtEs, List.isEmpty_cons, Bool.false_eq_true] at h
  | a :: as, es, h => by
    cases es with
    | nil => simp only [mtEs, Bool.false_eq_true] at h
    | cons e es =>
      simp only [mtEs, Bool.and_eq_true] at h
      simp [mtEs_len h.2]
theorem s_nil : PA X [] (tA g E G []) := PA.imp pa_nil fun σ H Q q => by
  obtain ⟨φ, S, env, hS, hE, q⟩ := q
  simp only [evs] at q
  exact q φ H _ (Ext.refl _ _) hS .nil
theorem s_cons {es : List Expr} {as : List Ex} (h : mtE T a' ck e = true) (ha : PE X e (tE g E G a')) (hr : PA X es (tA g E G as)) : PA X (e :: es) (tA g E G (a' :: as)) := PA.imp (pa_cons ha hr (mtE_star h)) fun σ H Q q => by
  obtain ⟨φ, S, env, hS, hE, q⟩ := q
  simp only [evs] at q
  refine (step (R := RepE g.C) hS hE q).mono fun x H1 n => ?_
  obtain ⟨φ1, S1, v, eq, e1, s1, en1, r1, p1⟩ := n
  refine (step (R := RepEs g.C) s1 en1 p1).mono fun xs H2 n2 => ?_
  obtain ⟨φ2, S2, vs, eq2, e2, s2, en2, r2, p2⟩ := n2
  exact p2 φ2 H2 _ (Ext.refl _ _) s2 (.cons (r1.mono e2) r2)
theorem s_lst (F : Fits g E T G ck k CX Wish X) {es : List Expr} {as : List Ex} (ha : PA X es (tA g E G as)) (hl : es.length ≤ 1000) (hm : as.length = es.length) : PE X (.List es pos) (tE g E G (.lst as)) := by
  refine PE.imp (pe_lst ha) fun σ H Q q => ?_
  obtain ⟨φ, S, env, hS, hE, q⟩ := q
  simp only [ev] at q
  refine (step (R := RepEs g.C) hS hE q).mono fun xs H1 n => ?_
  obtain ⟨φ1, S1, vs, eq, e1, s1, en1, r1, p1⟩ := n
  obtain ⟨ws, hw, p2⟩ := Post.ofO p1
  have rr := pures_rep r1 hw
  have hlen : xs.length ≤ sizeLine := by
    rw [r1.length, evs_len eq, hm, line_eq]
    exact Nat.le_trans hl (by decide)
  refine ⟨hlen, fun p hp => ?_⟩
  obtain ⟨np, e2, s2⟩ := s1.alloc (o := .lst xs) hp
  exact p2 φ1 _ _ e2 s2 (Rep.newL np (Reps.mono e2 _ _ rr))
/-- a thing that may change -/
theorem RepS.boxO {C : RC} {φ : Ph} {H : Hp} {S : Store} {p : Addr} {o : HO} {c0 : Cell} (h : RepS C φ H S) (hp : H p = none) (r : ∀ φ' H', Kpt φ H φ' H' → H' p = some o → CellOk C.K φ' H' p c0) (hd : c0 ≠ .dead) :
    Ext φ H ⟨φ.box ++ [some p], φ.hid⟩ (upd H p o) ∧ RepS C ⟨φ.box ++ [some p], φ.hid⟩ (upd H p o) (S ++ [c0]) := by
  have np : ¬ φ.has p := fun m => h.there p m hp
  have ext : Ext φ H ⟨φ.box ++ [some p], φ.hid⟩ (upd H p o) := by
    refine ⟨by simp, fun _ h => h, fun n a hn q => ?_, fun a m n => ?_, fun a u q _ => by rw [upd_ne (ne_of_none q hp)]; exact q, fun a m => upd_ne fun z => np (z ▸ Or.inr m)⟩
    · rw [List.getElem?_append_left hn] at q; exact q
    · rcases m with m | m
      · rcases List.mem_append.mp m with m | m
        · exact absurd (.inl m) n
        · have e : a = p := by simpa using m
          subst e; exact hp
      · exact absurd (.inr m) n
  have getb : ∀ n a, (φ.box ++ [some p])[n]? = some (some a) → (n < φ.box.length ∧ φ.box[n]? = some (some a)) ∨ (n = φ.box.length ∧ a = p) := fun n a q => by
    by_cases hn : n < φ.box.length
    · rw [List.getElem?_append_left hn] at q; exact .inl ⟨hn, q⟩
    · rw [List.getElem?_append_right (by omega)] at q
      have hz : n - φ.box.length = 0 := by
        cases z : n - φ.box.length with
        | zero => rfl
        | succ m => rw [z] at q; simp at q
      rw [hz] at q
      simp at q
      exact .inr ⟨by omega, q.symm⟩
  refine ⟨ext, by simp [h.len], fun n c q => ?_, fun n m a q1 q2 => ?_, fun a m => ?_, fun n a q => ?_, fun n a q => ?_⟩
  · by_cases hn : n < S.length
    · rw [List.getElem?_append_left hn] at q
      rcases h.cell n c q with r0 | ⟨a, h1, h2⟩
      · exact .inl r0
      · refine .inr ⟨a, by rw [List.getElem?_append_left (by rw [h.len]; exact hn)]; exact h1, ?_⟩
        exact h2.keep ext.kp.kept fun u q => by rw [upd_ne (ne_of_none q hp)]; exact q
    · rw [List.getElem?_append_right (by omega)] at q
      have hz : n - S.length = 0 := by
        cases z : n - S.length with
        | zero => rfl
        | succ m => rw [z] at q; simp at q
      rw [hz] at q
      simp at q
      subst q
      have hn2 : n = φ.box.length := by have := h.len; omega
      refine .inr ⟨p, ?_, r _ _ ext.kp.kept upd_same⟩
      show (φ.box ++ [some p])[n]? = some (some p)
      rw [hn2]; simp
  · rcases getb n a q1 with ⟨h1, h2⟩ | ⟨h1, h2⟩ <;> rcases getb m a q2 with ⟨h3, h4⟩ | ⟨h3, h4⟩
    · exact h.inj n m a h2 h4
    · subst h4; exact absurd (.inl (List.mem_of_getElem? h2)) np
    · subst h2; exact absurd (.inl (List.mem_of_getElem? h4)) np
    · omega
  · by_cases hq : a = p
    · subst hq; rw [upd_same]; simp
    · rw [upd_ne hq]
      refine h.there a ?_
      rcases m with m | m
      · rcases List.mem_append.mp m with m | m
        · exact .inl m
        · exact absurd (by simpa using m) hq
      · exact .inr m
  · rcases getb n a q with ⟨h1, h2⟩ | ⟨h1, h2⟩
    · rw [List.getElem?_append_left (by rw [← h.len]; exact h1)]; exact h.live n a h2
    · rw [h1, h.len]; simpa using hd
  · rcases getb n a q with ⟨h1, h2⟩ | ⟨h1, h2⟩
    · exact h.disj n a h2
    · subst h2; exact fun m => np (.inr m)
theorem RepS.box {C : RC} {φ : Ph} {H : Hp} {S : Store} {p : Addr} {xs : List V} {vs : List PV} (h : RepS C φ H S) (hp : H p = none) (r : Reps C.K φ H xs vs) :
    Ext φ H ⟨φ.box ++ [some p], φ.hid⟩ (upd H p (.lst xs)) ∧ RepS C ⟨φ.box ++ [some p], φ.hid⟩ (upd H p (.lst xs)) (S ++ [.lst vs]) :=
  h.boxO hp (fun φ' H' k e => ⟨xs, e, Reps.keep k _ _ r⟩) (by simp)
theorem DNew.cell {K : FK} {φ φ' : Ph} {H H' : Hp} {p : Addr} {o : HO} {n : Bool} {ks vs : List PV} (d : DNew K φ H p o n ks vs) (k : Kpt φ H φ' H') (e : H' p = some o) : CellOk K φ' H' p (.dct n ks vs) := by
  cases n with
  | false =>
    obtain ⟨kvs, es, ep, rfl, h1, h2⟩ := d
    exact ⟨kvs, es, ep, e, h1, Reps.keep k _ _ h2⟩
  | true =>
    obtain ⟨kvs, es, ep, rfl, h1, h2, h3⟩ := d
    exact ⟨kvs, es, ep, e, h1, Reps.keep k _ _ h2, Reps.keep k _ _ h3⟩
theorem CellOk.rep {K : FK} {φ : Ph} {H : Hp} {a : Addr} {n : Bool} {ks vs : List PV} (na : ¬ φ.has a) (c : CellOk K φ H a (.dct n ks vs)) : Rep K φ H (.ref a) (.dct n ks vs) := by
  cases n with
  | false =>
    obtain ⟨kvs, es, ep, h, h1, h2⟩ := c
    exact .dctL na (.inl h) h1 h2
  | true =>
    obtain ⟨kvs, es, ep, h, h1, h2, h3⟩ := c
    exact .dctN na (.inl h) h1 h2 h3
/-- displays of dicts -/
theorem s_dnil : PD X pos [] [] (tA g E G []) := PD.imp pd_nil fun σ H Q q => by
  obtain ⟨φ, S, env, hS, hE, q⟩ := q
  simp only [evs] at q
  exact q φ H _ (Ext.refl _ _) hS .nil
theorem s_dcons {k v : Expr} {ks : List (Option Expr)} {vs : List Expr} {r : List Ex} (ha : PE X k (tE g E G a')) (hb : PE X v (tE g E G b')) (hr : PD X pos ks vs (tA g E G r)) : PD X pos (some k :: ks) (v :: vs) (tA g E G (a' :: b' :: r)) := by
  refine PD.imp (pd_cons ha hb hr) fun σ H Q q => ?_
  obtain ⟨φ, S, env, hS, hE, q⟩ := q
  simp only [evs] at q
  refine (step (R := RepE g.C) hS hE q).mono fun x H1 n => ?_
  obtain ⟨φ1, S1, v1, eq, e1, s1, en1, r1, p1⟩ := n
  have p1' : Post g.C E (RepEs g.C) φ1 H1 (M.bind (ev G b' env) (fun v2 => M.bind (evs G r env) fun vs => M.pure (v1 :: v2 :: vs)) S1) Q := by
    have e : M.bind (M.bind (ev G b' env) fun v2 => M.bind (evs G r env) fun vs => M.pure (v2 :: vs)) (fun vs => M.pure (v1 :: vs)) = M.bind (ev G b' env) (fun v2 => M.bind (evs G r env) fun vs => M.pure (v1 :: v2 :: vs)) := by
      funext S
      unfold M.bind
      cases ev G b' env S with
      | ok u S2 =>
        dsimp only
        cases evs G r env S2 <;> rfl
      | _ => rfl
    rw [← e]; exact p1
  refine (step (R := RepE g.C) s1 en1 p1').mono fun y H2 n2 => ?_
  obtain ⟨φ2, S2, v2, eq2, e2, s2, en2, r2, p2⟩ := n2
  refine (step (R := RepEs g.C) s2 en2 p2).mono fun zs H3 n3 => ?_
  obtain ⟨φ3, S3, vs, eq3, e3, s3, en3, r3, p3⟩ := n3
  exact p3 φ3 H3 _ (Ext.refl _ _) s3 (.cons ((r1.mono e2).mono e3.kp) (.cons (r2.mono e3) r3))
theorem dsp_gen (F : Fits g E T G ck k CX Wish X) {n : Bool} {as : List Ex} {ks : List (Option Expr)} {vs : List Expr} (hd : PD X pos ks vs (tA g E G as)) (hall : ks.all (·.isSome) = true) (hl : ks.length = vs.length) (ha : as.length = 2 * ks.length) (h15 : ks.length ≤ 15) :
    PE X (.Dict ks vs pos) (fun σ H Q => tA g E G as σ H fun xs H2 => ∃ φ ws, Reps g.C.K φ H2 xs ws ∧ keysB n ws = true ∧ ∀ p o, H2 p = none → DNew g.C.K φ H2 p o n (mergeD [] [] ws).1 (mergeD [] [] ws).2 → Q (.ref p) (upd H2 p o)) := by
  by_cases h0 : ks = []
  · subst h0
    have hv : vs = [] := List.length_eq_zero_iff.mp hl.symm
    subst hv
    have has : as = [] := List.length_eq_zero_iff.mp (by simpa using ha)
    subst has
    refine PE.imp (pe_dsp0 (pos := pos) n F.hX) fun σ H Q q => ?_
    obtain ⟨φ, S, env, hS, hE, q⟩ := q
    simp only [evs] at q
    obtain ⟨φ2, ws, rp, kb, q2⟩ := q φ H [] (Ext.refl _ _) hS .nil
    cases rp
    exact ⟨φ2, q2⟩
  · cases n with
    | false => exact pe_dspL F.hX hd hall hl h0 h15
    | true => exact pe_dspN F.hu F.hX hd hall hl h0 h15
theorem s_dsp (F : Fits g E T G ck k CX Wish X) {n : Bool} {as : List Ex} {ks : List (Option Expr)} {vs : List Expr} (hd : PD X pos ks vs (tA g E G as)) (hall : ks.all (·.isSome) = true) (hl : ks.length = vs.length) (ha : as.length = 2 * ks.length) (h15 : ks.length ≤ 15) :
    PE X (.Dict ks vs pos) (tE g E G (.dsp n as)) := by
  refine PE.imp (dsp_gen F (n := n) hd hall hl ha h15) fun σ H Q q => ?_
  obtain ⟨φ, S, env, hS, hE, q⟩ := q
  simp only [ev] at q
  refine (step (R := RepEs g.C) hS hE q).mono fun xs H1 nn => ?_
  obtain ⟨φ1, S1, vs, eq, e1, s1, en1, r1, p1⟩ := nn
  obtain ⟨ws, hw, p2⟩ := Post.ofO p1
  have rr := pures_rep r1 hw
  by_cases hb : (keysB n ws && decide (as.length ≤ 30)) = true
  · rw [if_pos hb] at p2
    simp only [Bool.and_eq_true] at hb
    refine ⟨φ1, ws, rr, hb.1, fun p o hp d => ?_⟩
    obtain ⟨np, e2, s2⟩ := s1.alloc (o := o) hp
    exact p2 φ1 _ _ e2 s2 ((d.cell e2.kp.kept upd_same).rep np)
  · rw [if_neg hb] at p2; exact p2.elim
theorem s_newD (F : Fits g E T G ck k CX Wish X) {n : Bool} {as : List Ex} {ks : List (Option Expr)} {vs : List Expr} (hd : PD X pos ks vs (tA g E G as)) (hall : ks.all (·.isSome) = true) (hl : ks.length = vs.length) (ha : as.length = 2 * ks.length) (h15 : ks.length ≤ 15) :
    PE X (.Dict ks vs pos) (tE g E G (.newD n as)) := by
  refine PE.imp (dsp_gen F (n := n) hd hall hl ha h15) fun σ H Q q => ?_
  obtain ⟨φ, S, env, hS, hE, q⟩ := q
  simp only [ev] at q
  refine (step (R := RepEs g.C) hS hE q).mono fun xs H1 nn => ?_
  obtain ⟨φ1, S1, vs, eq, e1, s1, en1, r1, p1⟩ := nn
  obtain ⟨ws, hw, p2⟩ := Post.ofO p1
  have rr := pures_rep r1 hw
  by_cases hb : (keysB n ws && decide (as.length ≤ 30)) = true
  · rw [if_pos hb] at p2
    simp only [Bool.and_eq_true] at hb
    refine ⟨φ1, ws, rr, hb.1, fun p o hp d => ?_⟩
    obtain ⟨e2, s2⟩ := s1.boxO (o := o) (c0 := .dct n (mergeD [] [] ws).1 (mergeD [] [] ws).2) hp (fun φ' H' k e => d.cell k e) (by simp)
    refine p2 _ _ _ e2 s2 ⟨?_, fun a q => ?_⟩
    · show S1.length < (φ1.box ++ [some p]).length
      rw [List.length_append, s1.len]; simp
    · have q' : (φ1.box ++ [some p])[S1.length]? = some (some a) := q
      rw [← s1.len] at q'
      simp at q'
      rw [q']
  · rw [if_neg hb] at p2; exact p2.elim
theorem s_newL (F : Fits g E T G ck k CX Wish X) {es : List Expr} {as : List Ex} (ha : PA X es (tA g E G as)) (hl : es.length ≤ 1000) (hm : as.length = es.length) : PE X (.List es pos) (tE g E G (.newL as)) := by
  refine PE.imp (pe_lst ha) fun σ H Q q => ?_
  obtain ⟨φ, S, env, hS, hE, q⟩ := q
  simp only [ev] at q
  refine (step (R := RepEs g.C) hS hE q).mono fun xs H1 n => ?_
  obtain ⟨φ1, S1, vs, eq, e1, s1, en1, r1, p1⟩ := n
  obtain ⟨ws, hw, p2⟩ := Post.ofO p1
  have rr := pures_rep r1 hw
  have hlen : xs.length ≤ sizeLine := by
    rw [r1.length, evs_len eq, hm, line_eq]
    exact Nat.le_trans hl (by decide)
  refine ⟨hlen, fun p hp => ?_⟩
  obtain ⟨e2, s2⟩ := RepS.box s1 hp rr
  refine p2 _ _ _ e2 s2 ⟨?_, fun a q => ?_⟩
  · show S1.length < (φ1.box ++ [some p]).length
    rw [List.length_append, s1.len]; simp
  · have q' : (φ1.box ++ [some p])[S1.length]? = some (some a) := q
    rw [← s1.len] at q'
    simp at q'
    rw [q']
/-! operators -/
theorem s_bin (F : Fits g E T G ck k CX Wish X) (op : Bop) (ha : PE X a (tE g E G a')) (hb : PE X b (tE g E G b')) : PE X (.BinOp a (bopOf op) b pos) (tE g E G (.bin op a' b')) := by
  refine PE.imp (pe_op (op_bin F.hX op) ha hb) fun σ H Q q => ?_
  obtain ⟨φ, S, env, hS, hE, q⟩ := q
  simp only [ev] at q
  refine (step (R := RepE g.C) hS hE q).mono fun x H1 n => ?_
  obtain ⟨φ1, S1, v, eq, e1, s1, en1, r1, p1⟩ := n
  refine (step (R := RepE g.C) s1 en1 p1).mono fun y H2 n2 => ?_
  obtain ⟨φ2, S2, w, eq2, e2, s2, en2, r2, p2⟩ := n2
  obtain ⟨v', hv, p3⟩ := Post.rd s2 (r1.mono e2) p2
  obtain ⟨w', hw, p4⟩ := Post.rd s2 r2 p3
  obtain ⟨u, hu, p5⟩ := Post.ofO p4
  exact ⟨φ2, S2, v', w', u, s2, hv, hw, hu, fun φ' H' z x s r => p5 φ' H' z x s r⟩
theorem s_neg (F : Fits g E T G ck k CX Wish X) (ha : PE X a (tE g E G a')) : PE X (.UnaryOp .USub a pos) (tE g E G (.neg a')) := by
  refine PE.imp (pe_un un_neg ha) fun σ H Q q => ?_
  obtain ⟨φ, S, env, hS, hE, q⟩ := q
  simp only [ev] at q
  refine (step (R := RepE g.C) hS hE q).mono fun x H1 n => ?_
  obtain ⟨φ1, S1, v, eq, e1, s1, en1, r1, p1⟩ := n
  cases v with
  | p v =>
    cases v with
    | int i =>
      cases (show Rep g.C.K φ1 H1 x (.int i) from r1)
      exact ⟨i, rfl, p1 φ1 H1 _ (Ext.refl _ _) s1 (.int _)⟩
    | _ => exact p1.elim
  | box n => exact p1.elim
  | fn n => exact p1.elim
theorem Post.cmpE {C : RC} {φ : Ph} {H : Hp} {S : Store} {x y : V} {v w : EV} {γ δ : Type} {R2 : Ph → Hp → δ → γ → Prop} {op : Cop} {k : EV → M γ} {Q : δ → Hp → Prop} (hS : RepS C φ H S) (r : RepE C φ H x v) (r2 : RepE C φ H y w) (h : Post C E R2 φ H (M.bind (Ip.cmpE op v w) k S) Q) :
    ∃ v' w' t, VR C.K φ H x v' ∧ VR C.K φ H y w' ∧ cmpop op v' w' = some t ∧ Post C E R2 φ H (k (.p (.bl t)) S) Q := by
  have h' : Post C E R2 φ H (M.bind (Ip.rd v) (fun x => M.bind (Ip.rd w) fun y => M.bind (Ip.ofO (cmpop op x y)) fun t => k (.p (.bl t))) S) Q := by
    have e : M.bind (Ip.cmpE op v w) k S = M.bind (Ip.rd v) (fun x => M.bind (Ip.rd w) fun y => M.bind (Ip.ofO (cmpop op x y)) fun t => k (.p (.bl t))) S := by
      show M.bind (M.bind (Ip.rd v) fun x => M.bind (Ip.rd w) fun y => M.bind (Ip.ofO (cmpop op x y)) fun t => M.pure (.p (.bl t))) k S = _
      unfold M.bind
      cases Ip.rd v S with
      | ok a S1 =>
        dsimp only
        cases Ip.rd w S1 with
        | ok b S2 =>
          dsimp only
          cases cmpop op a b <;> rfl
        | _ => rfl
      | _ => rfl
    rw [← e]; exact h
  obtain ⟨v', hv, p1⟩ := Post.rd hS r h'
  obtain ⟨w', hw, p2⟩ := Post.rd hS r2 p1
  obtain ⟨t, ht, p3⟩ := Post.ofO p2
  exact ⟨v', w', t, hv, hw, ht, p3⟩
theorem mtE_mark {a' : Ex} {e : Expr} (op : CmpOp) (h : mtE T a' ck e = true) : behindInMarks op e = false := by
  cases e with
  | Set x p => cases a' <;> simp only [mtE, Bool.false_eq_true] at h
  | _ => rfl
theorem s_cmp (F : Fits g E T G ck k CX Wish X) (op : Cop) (hm : mtE T b' ck b = true) (ha : PE X a (tE g E G a')) (hb : PE X b (tE g E G b')) : Both X g E G (.Compare a [copOf op] [b] pos) (.cmp op a' b') := by
  refine ⟨PE.imp (pe_cmpR (op_cmp F.hX F.hu op) ha hb (mtE_mark _ hm)) fun σ H Q q => ?_, PT.imp (pt_cmpR (op_cmp F.hX F.hu op) ha hb (mtE_mark _ hm)) fun σ H Q q => ?_⟩
  · obtain ⟨φ, S, env, hS, hE, q⟩ := q
    simp only [ev] at q
    refine (step (R := RepE g.C) hS hE q).mono fun x H1 n => ?_
    obtain ⟨φ1, S1, v, eq, e1, s1, en1, r1, p1⟩ := n
    refine (step (R := RepE g.C) s1 en1 p1).mono fun y H2 n2 => ?_
    obtain ⟨φ2, S2, w, eq2, e2, s2, en2, r2, p2⟩ := n2
    obtain ⟨v', w', t, hv, hw, ht, p3⟩ := Post.cmpE (k := M.pure) s2 (r1.mono e2) r2 (Post.done p2)
    exact ⟨φ2, v', w', t, hv, hw, ht, p3 φ2 H2 _ (Ext.refl _ _) s2 (.bl _)⟩
  · obtain ⟨φ, S, env, hS, hE, q⟩ := q
    simp only [ev] at q
    have q' : Post g.C E EqB φ H (M.bind (ev G a' env) (fun x => M.bind (ev G b' env) fun y => M.bind (cmpE op x y) truthE) S) Q := by
      have e : M.bind (M.bind (ev G a' env) fun x => M.bind (ev G b' env) fun y => cmpE op x y) truthE S = M.bind (ev G a' env) (fun x => M.bind (ev G b' env) fun y => M.bind (cmpE op x y) truthE) S := by
        unfold M.bind
        cases ev G a' env S with
        | ok a S1 =>
          dsimp only
          cases ev G b' env S1 <;> rfl
        | _ => rfl
      rw [← e]; exact q
    refine (step (R := RepE g.C) hS hE q').mono fun x H1 n => ?_
    obtain ⟨φ1, S1, v, eq, e1, s1, en1, r1, p1⟩ := n
    refine (step (R := RepE g.C) s1 en1 p1).mono fun y H2 n2 => ?_
    obtain ⟨φ2, S2, w, eq2, e2, s2, en2, r2, p2⟩ := n2
    obtain ⟨v', w', t, hv, hw, ht, p3⟩ := Post.cmpE s2 (r1.mono e2) r2 p2
    exact ⟨φ2, v', w', t, hv, hw, ht, t, rfl, p3 φ2 H2 t (Ext.refl _ _) s2 rfl⟩
end
end Ip

set_option Elab.async false
set_option linter.all false
set_option maxRecDepth 100000
set_option maxHeartbeats 4000000
/-! Ip, part 10: chains, and, or, not, choices, items, slices, calls. -/
namespace Ip
open PySem L2 PySem.Spec PyProof.Rows
section
variable {g : Gc} {E : EX} {T : Tb} {G : Nat → List EV → M EV} {ck : Ck} {k : Nat} {CX : CXT} {Wish : XK} {X : Cx}
variable {e a b c : Expr} {a' b' c' : Ex} {pos : Pos}

theorem bind_assoc' {α β γ : Type} (m : M α) (f : α → M β) (h : β → M γ) : M.bind (M.bind m f) h = M.bind m fun a => M.bind (f a) h := by
  funext S
  unfold M.bind
  cases m S <;> rfl
theorem pure_bind' {α β : Type} (a : α) (f : α → M β) : M.bind (M.pure a) f = f a := rfl
/-- a chain's reading, from the second answer on -/
theorem chain_go (F : Fits g E T G ck k CX Wish X) {R : Ph → Hp → V → EV → Prop} (o1 o2 : Cop) {σ : L2.St} {H : Hp} {Q : VK} {γ : Type} {δ : Type} {R2 : Ph → Hp → δ → γ → Prop} {kk : EV → M γ} {Q2 : δ → Hp → Prop}
    (hQ : ∀ φ H S t, RepS g.C φ H S → Post g.C E R2 φ H (kk (.p (.bl t)) S) Q2 → Q (.bl t) H) (q : ∃ φ S env, RepS g.C φ H S ∧ RepEnv g.C φ H env σ ∧ Post g.C E R2 φ H (M.bind (ev G (.chn o1 o2 a' b' c') env) kk S) Q2) :
    tChain (rCmp g.C o1) (rCmp g.C o2) (tE g E G a') (tE g E G b') (tE g E G c') σ H Q := by
  obtain ⟨φ, S, env, hS, hE, q⟩ := q
  have q' : Post g.C E R2 φ H (M.bind (ev G a' env) (fun x => M.bind (ev G b' env) fun y => M.bind (cmpE o1 x y) fun r => M.bind (truthE r) fun t => if t then M.bind (ev G c' env) (fun z => M.bind (cmpE o2 y z) kk) else kk (.p (.bl false))) S) Q2 := by
    have e : M.bind (ev G (.chn o1 o2 a' b' c') env) kk = M.bind (ev G a' env) (fun x => M.bind (ev G b' env) fun y => M.bind (cmpE o1 x y) fun r => M.bind (truthE r) fun t => if t then M.bind (ev G c' env) (fun z => M.bind (cmpE o2 y z) kk) else kk (.p (.bl false))) := by
      simp only [ev]
      show M.bind (M.bind _ fun x => M.bind _ fun y => M.bind _ fun r => M.bind _ fun t => _) kk = _
      rw [bind_assoc']
      congr 1; funext x
      rw [bind_assoc']
      congr 1; funext y
      rw [bind_assoc']
      congr 1; funext r
      rw [bind_assoc']
      congr 1; funext t
      cases t with
      | true => rw [if_pos rfl, if_pos rfl]; exact bind_assoc' _ _ _
      | false => rw [if_neg (by decide), if_neg (by decide)]; rfl
    rw [← e]; exact q
  refine (step (R := RepE g.C) hS hE q').mono fun x H1 n => ?_
  obtain ⟨φ1, S1, v, eq, e1, s1, en1, r1, p1⟩ := n
  refine (step (R := RepE g.C) s1 en1 p1).mono fun y H2 n2 => ?_
  obtain ⟨φ2, S2, w, eq2, e2, s2, en2, r2, p2⟩ := n2
  obtain ⟨v', w', t, hv, hw, ht, p3⟩ := Post.cmpE s2 (r1.mono e2) r2 p2
  refine ⟨φ2, v', w', t, hv, hw, ht, t, rfl, ?_⟩
  have p4 : Post g.C E R2 φ2 H2 ((if t then M.bind (ev G c' env) (fun z => M.bind (cmpE o2 w z) kk) else kk (.p (.bl false))) S2) Q2 := p3
  cases t with
  | false => rw [if_neg (by decide)] at p4 ⊢; exact hQ _ _ _ _ s2 p4
  | true =>
    rw [if_pos rfl] at p4 ⊢
    refine (step (R := RepE g.C) s2 en2 p4).mono fun z H3 n3 => ?_
    obtain ⟨φ3, S3, u, eq3, e3, s3, en3, r3, p5⟩ := n3
    obtain ⟨w2, u', t2, hw2, hu, ht2, p6⟩ := Post.cmpE s3 (r2.mono e3) r3 p5
    exact ⟨φ3, w2, u', t2, hw2, hu, ht2, hQ _ _ _ _ s3 p6⟩
theorem s_chn (F : Fits g E T G ck k CX Wish X) (o1 o2 : Cop) (hm : mtE T c' ck c = true) (ha : PE X a (tE g E G a')) (hb : PE X b (tE g E G b')) (hc : PE X c (tE g E G c')) :
    Both X g E G (.Compare a [copOf o1, copOf o2] [b, c] pos) (.chn o1 o2 a' b' c') := by
  have hl : lastMarks [copOf o1, copOf o2] [b, c] = false := mtE_mark _ hm
  refine ⟨PE.imp (pe_chain (op_cmp F.hX F.hu o1) (op_cmp F.hX F.hu o2) ha hb hc hl) fun σ H Q q => ?_, PT.imp (pt_chain (op_cmp F.hX F.hu o1) (op_cmp F.hX F.hu o2) ha hb hc hl) fun σ H Q q => ?_⟩
  · obtain ⟨φ, S, env, hS, hE, q⟩ := q
    exact chain_go F (R := RepE g.C) (R2 := RepE g.C) (kk := M.pure) (Q2 := Q) o1 o2 (fun φ H S t s p => p φ H _ (Ext.refl _ _) s (.bl t)) ⟨φ, S, env, hS, hE, Post.done q⟩
  · obtain ⟨φ, S, env, hS, hE, q⟩ := q
    exact chain_go F (R := RepE g.C) (R2 := EqB) (kk := truthE) (Q2 := Q) (Q := fun x H' => ∃ k, x = .bl k ∧ Q k H') o1 o2 (fun φ H S t s p => ⟨t, rfl, p φ H t (Ext.refl _ _) s rfl⟩) ⟨φ, S, env, hS, hE, q⟩
theorem truthE_same {x : EV} {S S1 : Store} {t : Bool} (h : truthE x S = .ok t S1) : S1 = S := by
  revert h
  unfold truthE
  show M.bind (Ip.rd x) (fun x => ofO (truth x)) S = _ → _
  unfold M.bind
  cases x with
  | p v =>
    show (ofO (truth v) S = _) → _
    cases truth v <;> intro h <;> cases h
    rfl
  | box n =>
    unfold Ip.rd
    dsimp only
    cases S[n]? with
    | none => intro h; cases h
    | some c =>
      dsimp only
      cases cellV c with
      | none => intro h; cases h
      | some v =>
        show (ofO (truth v) S = _) → _
        cases truth v <;> intro h <;> cases h
        rfl
  | fn f => intro h; cases h
theorem s_and (F : Fits g E T G ck k CX Wish X) {rest : List Expr} (ha : Both X g E G a a') (hb : PE X (.BoolOp .And (b :: rest) pos) (tE g E G b')) (hb2 : PW X (.BoolOp .And (b :: rest) pos) (tT g E G b')) : Both X g E G (.BoolOp .And (a :: b :: rest) pos) (.and a' b') ∧ PW X (.BoolOp .And (a :: b :: rest) pos) (tT g E G (.and a' b')) := by
  have two : ∀ σ H Q, tT g E G (.and a' b') σ H Q → tAnd (tT g E G a') (tT g E G b') σ H Q := fun σ H Q q => by
    obtain ⟨φ, S, env, hS, hE, q⟩ := q
    have e : M.bind (ev G (.and a' b') env) truthE = M.bind (M.bind (ev G a' env) truthE) (fun t => if t then M.bind (ev G b' env) truthE else M.pure false) := by
      simp only [ev]
      show M.bind (M.bind _ fun x => M.bind _ fun t => _) truthE = _
      rw [bind_assoc', bind_assoc']
      congr 1; funext x
      rw [bind_assoc']
      funext S
      unfold M.bind
      cases h : truthE x S with
      | ok t S1 =>
        dsimp only
        cases t with
        | true => rfl
        | false =>
          show truthE x S1 = _
          have := truthE_same h
          subst this
          rw [h]
          rfl
      | exc _ _ => rfl
      | stuck => rfl
    dsimp only at q
    rw [e] at q
    refine (step (R := EqB) (m := fun env => M.bind (ev G a' env) truthE) hS hE q).mono fun t H1 n => ?_
    obtain ⟨φ1, S1, v, eq, e1, s1, en1, r1, p1⟩ := n
    cases r1
    cases t with
    | true => exact iteT ⟨φ1, S1, env, s1, en1, p1⟩
    | false => exact iteF ((show Post g.C E EqB φ1 H1 (M.pure false S1) Q from p1) φ1 H1 _ (Ext.refl _ _) s1 rfl)
  refine ⟨⟨PE.imp (pe_andT ha.1 hb) fun σ H Q q => ?_, PT.imp (PW.pt (pw_and ha.2 hb2)) two⟩, ⟨fun w pins s σ H Q I q => (pw_and ha.2 hb2).run w pins s σ H Q I (two _ _ _ q)⟩⟩
  obtain ⟨φ, S, env, hS, hE, q⟩ := q
  simp only [ev] at q
  refine (step (R := RepE g.C) hS hE q).mono fun x H1 n => ?_
  obtain ⟨φ1, S1, v, eq, e1, s1, en1, r1, p1⟩ := n
  obtain ⟨t, ht, p2⟩ := Post.truthE F.hX s1 r1 p1
  refine ⟨t, ht, ?_⟩
  cases t with
  | true => exact iteT ⟨φ1, S1, env, s1, en1, p2⟩
  | false => exact iteF ((show Post g.C E (RepE g.C) φ1 H1 (M.pure v S1) Q from p2) φ1 H1 x (Ext.refl _ _) s1 r1)
theorem s_or (F : Fits g E T G ck k CX Wish X) {rest : List Expr} (ha : Both X g E G a a') (hb : PE X (.BoolOp .Or (b :: rest) pos) (tE g E G b')) (hb2 : PW X (.BoolOp .Or (b :: rest) pos) (tT g E G b')) : Both X g E G (.BoolOp .Or (a :: b :: rest) pos) (.or a' b') ∧ PW X (.BoolOp .Or (a :: b :: rest) pos) (tT g E G (.or a' b')) := by
  have two : ∀ σ H Q, tT g E G (.or a' b') σ H Q → tOr (tT g E G a') (tT g E G b') σ H Q := fun σ H Q q => by
    obtain ⟨φ, S, env, hS, hE, q⟩ := q
    have e : M.bind (ev G (.or a' b') env) truthE = M.bind (M.bind (ev G a' env) truthE) (fun t => if t then M.pure true else M.bind (ev G b' env) truthE) := by
      simp only [ev]
      show M.bind (M.bind _ fun x => M.bind _ fun t => _) truthE = _
      rw [bind_assoc', bind_assoc']
      congr 1; funext x
      rw [bind_assoc']
      funext S
      unfold M.bind
      cases h : truthE x S with
      | ok t S1 =>
        dsimp only
        cases t with
        | false => rfl
        | true =>
          show truthE x S1 = _
          have := truthE_same h
          subst this
          rw [h]
          rfl
      | exc _ _ => rfl
      | stuck => rfl
    dsimp only at q
    rw [e] at q
    refine (step (R := EqB) (m := fun env => M.bind (ev G a' env) truthE) hS hE q).mono fun t H1 n => ?_
    obtain ⟨φ1, S1, v, eq, e1, s1, en1, r1, p1⟩ := n
    cases r1
    cases t with
    | false => exact iteF ⟨φ1, S1, env, s1, en1, p1⟩
    | true => exact iteT ((show Post g.C E EqB φ1 H1 (M.pure true S1) Q from p1) φ1 H1 _ (Ext.refl _ _) s1 rfl)
  refine ⟨⟨PE.imp (pe_orT ha.1 hb) fun σ H Q q => ?_, PT.imp (PW.pt (pw_or ha.2 hb2)) two⟩, ⟨fun w pins s σ H Q I q => (pw_or ha.2 hb2).run w pins s σ H Q I (two _ _ _ q)⟩⟩
  obtain ⟨φ, S, env, hS, hE, q⟩ := q
  simp only [ev] at q
  refine (step (R := RepE g.C) hS hE q).mono fun x H1 n => ?_
  obtain ⟨φ1, S1, v, eq, e1, s1, en1, r1, p1⟩ := n
  obtain ⟨t, ht, p2⟩ := Post.truthE F.hX s1 r1 p1
  refine ⟨t, ht, ?_⟩
  cases t with
  | false => exact iteF ⟨φ1, S1, env, s1, en1, p2⟩
  | true => exact iteT ((show Post g.C E (RepE g.C) φ1 H1 (M.pure v S1) Q from p2) φ1 H1 x (Ext.refl _ _) s1 r1)
theorem s_not (F : Fits g E T G ck k CX Wish X) (ha : Both X g E G a a') : Both X g E G (.UnaryOp .Not a pos) (.not a') := by
  refine ⟨PE.imp (pe_notT ha.1) fun σ H Q q => ?_, PT.imp (pt_not ha.2) fun σ H Q q => ?_⟩
  · obtain ⟨φ, S, env, hS, hE, q⟩ := q
    simp only [ev] at q
    refine (step (R := RepE g.C) hS hE q).mono fun x H1 n => ?_
    obtain ⟨φ1, S1, v, eq, e1, s1, en1, r1, p1⟩ := n
    obtain ⟨t, ht, p2⟩ := Post.truthE F.hX s1 r1 p1
    exact ⟨t, ht, (show Post g.C E (RepE g.C) φ1 H1 (M.pure (.p (.bl (!t))) S1) Q from p2) φ1 H1 _ (Ext.refl _ _) s1 (.bl _)⟩
  · obtain ⟨φ, S, env, hS, hE, q⟩ := q
    have e : M.bind (ev G (.not a') env) truthE = M.bind (M.bind (ev G a' env) truthE) (fun t => M.pure (!t)) := by
      simp only [ev]
      show M.bind (M.bind _ fun x => M.bind _ fun t => _) truthE = _
      rw [bind_assoc', bind_assoc']
      congr 1; funext x
      rw [bind_assoc']
      rfl
    dsimp only at q
    rw [e] at q
    refine (step (R := EqB) (m := fun env => M.bind (ev G a' env) truthE) hS hE q).mono fun t H1 n => ?_
    obtain ⟨φ1, S1, v, eq, e1, s1, en1, r1, p1⟩ := n
    cases r1
    exact (show Post g.C E EqB φ1 H1 (M.pure (!t) S1) Q from p1) φ1 H1 _ (Ext.refl _ _) s1 rfl
theorem pt_ifExp {X : Cx} {c a b : Expr} {tc ta tb : TT} {pos : Pos} (hc : PT X c tc) (ha : PT X a ta) (hb : PT X b tb) : PT X (.IfExp c a b pos) (fun σ H Q => tc σ H fun t H1 => if t = true then ta σ H1 Q else tb σ H1 Q) := by
  refine ⟨fun pins s σ H Q I q => ?_⟩
  show wpAny _ _ (do if ← isTrue c X.env (eval c X.env) then isTrue a X.env (eval a X.env) else isTrue b X.env (eval b X.env)) _ _ s
  refine wpAny_bind (thn (hc.run pins s σ H _ I q) fun t s1 ⟨H1, I1, q1⟩ => ?_)
  cases t with
  | true => exact ha.run pins s1 σ H1 Q I1 q1
  | false => exact hb.run pins s1 σ H1 Q I1 q1
theorem s_ite (F : Fits g E T G ck k CX Wish X) (hc : Both X g E G c c') (ha : Both X g E G a a') (hb : Both X g E G b b') : Both X g E G (.IfExp c a b pos) (.ite c' a' b') := by
  refine ⟨PE.imp (pe_ifExp hc.2 ha.1 hb.1) fun σ H Q q => ?_, PT.imp (pt_ifExp hc.2 ha.2 hb.2) fun σ H Q q => ?_⟩
  · obtain ⟨φ, S, env, hS, hE, q⟩ := q
    have e : ev G (.ite c' a' b') env = M.bind (M.bind (ev G c' env) truthE) (fun t => if t then ev G a' env else ev G b' env) := by
      simp only [ev]
      show M.bind _ (fun x => M.bind _ fun t => _) = _
      rw [bind_assoc']
    dsimp only at q
    rw [e] at q
    refine (step (R := EqB) (m := fun env => M.bind (ev G c' env) truthE) hS hE q).mono fun t H1 n => ?_
    obtain ⟨φ1, S1, v, eq, e1, s1, en1, r1, p1⟩ := n
    cases r1
    cases t with
    | true => exact iteT ⟨φ1, S1, env, s1, en1, p1⟩
    | false => exact iteF ⟨φ1, S1, env, s1, en1, p1⟩
  · obtain ⟨φ, S, env, hS, hE, q⟩ := q
    have e : M.bind (ev G (.ite c' a' b') env) truthE = M.bind (M.bind (ev G c' env) truthE) (fun t => if t then M.bind (ev G a' env) truthE else M.bind (ev G b' env) truthE) := by
      simp only [ev]
      show M.bind (M.bind _ (fun x => M.bind _ fun t => _)) truthE = _
      rw [bind_assoc', bind_assoc']
      congr 1; funext x
      rw [bind_assoc']
      congr 1; funext t
      cases t <;> rfl
    dsimp only at q
    rw [e] at q
    refine (step (R := EqB) (m := fun env => M.bind (ev G c' env) truthE) hS hE q).mono fun t H1 n => ?_
    obtain ⟨φ1, S1, v, eq, e1, s1, en1, r1, p1⟩ := n
    cases r1
    cases t with
    | true => exact iteT ⟨φ1, S1, env, s1, en1, p1⟩
    | false => exact iteF ⟨φ1, S1, env, s1, en1, p1⟩
end
end Ip

set_option Elab.async false
set_option linter.all false
set_option maxRecDepth 100000
set_option maxHeartbeats 4000000
/-! Ip, part 11: items, slices, calls. -/
namespace Ip
open PySem L2 PySem.Spec PyProof.Rows
section
variable {g : Gc} {E : EX} {T : Tb} {G : Nat → List EV → M EV} {ck : Ck} {k : Nat} {CX : CXT} {Wish : XK} {X : Cx}
variable {e a b c : Expr} {a' b' c' : Ex} {pos : Pos}
theorem plainIx_ok {y : Expr} (h : plainIx y = true) : PlainIx y := fun o i => by
  cases y <;> first | rfl | (simp only [plainIx, Bool.false_eq_true] at h)
theorem s_ix (F : Fits g E T G ck k CX Wish X) (hp : plainIx b = true) (ha : PE X a (tE g E G a')) (hb : PE X b (tE g E G b')) : PE X (.Subscript a b pos) (tE g E G (.ix a' b')) := by
  refine PE.imp (pe_ix (ix_ok F.hX F.hu) ha hb (plainIx_ok hp)) fun σ H Q q => ?_
  obtain ⟨φ, S, env, hS, hE, q⟩ := q
  simp only [ev] at q
  refine (step (R := RepE g.C) hS hE q).mono fun x H1 n => ?_
  obtain ⟨φ1, S1, v, eq, e1, s1, en1, r1, p1⟩ := n
  refine (step (R := RepE g.C) s1 en1 p1).mono fun y H2 n2 => ?_
  obtain ⟨φ2, S2, w, eq2, e2, s2, en2, r2, p2⟩ := n2
  obtain ⟨v', hv, p3⟩ := Post.rd s2 (r1.mono e2) p2
  obtain ⟨w', hw, p4⟩ := Post.rd s2 r2 p3
  obtain ⟨u, hu, p5⟩ := Post.ofO p4
  exact ⟨φ2, S2, v', w', u, s2, hv, hw, hu, fun φ' H' z x s r => p5 φ' H' z x s r⟩
/-! slices -/
abbrev tO (g : Gc) (E : EX) (G : Nat → List EV → M EV) (o : Option Ex) : TO := tM g.C E (fun φ H (b : Option Int) (a : Option Int) => b = a) fun env => M.bind (evo G o env) intO
theorem PO.imp {X : Cx} {e : Option Expr} {t t' : TO} (h : PO X e t) (i : ∀ σ H Q, t' σ H Q → t σ H Q) : PO X e t' := ⟨fun pins s σ H Q I q => h.run pins s σ H Q I (i _ _ _ q)⟩
theorem s_onone : PO X none (tO g E G none) := PO.imp po_none fun σ H Q q => by
  obtain ⟨φ, S, env, hS, hE, q⟩ := q
  simp only [evo] at q
  exact (show Post g.C E (fun φ H (b : Option Int) (a : Option Int) => b = a) φ H (M.pure none S) Q from q) φ H none (Ext.refl _ _) hS rfl
theorem s_osome (ha : PE X a (tE g E G a')) : PO X (some a) (tO g E G (some a')) := PO.imp (po_some ha) fun σ H Q q => by
  obtain ⟨φ, S, env, hS, hE, q⟩ := q
  have e : M.bind (evo G (some a') env) intO = M.bind (ev G a' env) (fun v => intO (some v)) := by
    simp only [evo]
    show M.bind (M.bind _ fun v => M.pure (some v)) intO = _
    rw [bind_assoc']
    rfl
  dsimp only at q
  rw [e] at q
  refine (step (R := RepE g.C) hS hE q).mono fun x H1 n => ?_
  obtain ⟨φ1, S1, v, eq, e1, s1, en1, r1, p1⟩ := n
  cases v with
  | p v =>
    cases v with
    | int i =>
      cases (show Rep g.C.K φ1 H1 x (.int i) from r1)
      exact ⟨i, rfl, (show Post g.C E (fun φ H (b : Option Int) (a : Option Int) => b = a) φ1 H1 (M.pure (some i) S1) Q from p1) φ1 H1 _ (Ext.refl _ _) s1 rfl⟩
    | _ => exact p1.elim
  | box n => exact p1.elim
  | fn n => exact p1.elim
theorem s_sl (F : Fits g E T G ck k CX Wish X) {lo hi : Option Expr} {lo' hi' : Option Ex} {p2 : Pos} (ha : PE X a (tE g E G a')) (hl : PO X lo (tO g E G lo')) (hh : PO X hi (tO g E G hi')) : PE X (.Subscript a (.Slice lo hi none p2) pos) (tE g E G (.sl a' lo' hi')) := by
  refine PE.imp (pe_slice (sl_ok F.hX) ha hl hh) fun σ H Q q => ?_
  obtain ⟨φ, S, env, hS, hE, q⟩ := q
  simp only [ev] at q
  refine (step (R := RepE g.C) hS hE q).mono fun x H1 n => ?_
  obtain ⟨φ1, S1, v, eq, e1, s1, en1, r1, p1⟩ := n
  refine (step (R := fun φ H (b : Option Int) (a : Option Int) => b = a) (m := fun env => M.bind (evo G lo' env) intO) s1 en1 p1).mono fun y H2 n2 => ?_
  obtain ⟨φ2, S2, w, eq2, e2, s2, en2, r2, p2⟩ := n2
  refine (step (R := fun φ H (b : Option Int) (a : Option Int) => b = a) (m := fun env => M.bind (evo G hi' env) intO) s2 en2 p2).mono fun z H3 n3 => ?_
  obtain ⟨φ3, S3, w3, eq3, e3, s3, en3, r3, p3⟩ := n3
  obtain ⟨v', hv, p4⟩ := Post.rd s3 ((r1.mono e2).mono e3.kp) p3
  obtain ⟨u, hu, p5⟩ := Post.ofO p4
  subst r2 r3
  exact ⟨φ3, S3, v', u, s3, hv, hu, fun φ' H' z x s r => p5 φ' H' z x s r⟩
/-! calls -/
theorem Post.impE {C : RC} {E E' : EX} {α β : Type} {R : Ph → Hp → β → α → Prop} {φ : Ph} {H : Hp} {r : Res α} {Q : β → Hp → Prop} (h : Post C E R φ H r Q) (i : ∀ x S φ H, E x S φ H → E' x S φ H) : Post C E' R φ H r Q := by
  cases r with
  | ok a S => exact h
  | exc x S => exact fun φ' H' e s => i _ _ _ _ (h φ' H' e s)
  | stuck => exact h
theorem s_call (F : Fits g E T G ck k CX Wish X) {f : Nat} {x : Str} {p : Pos} {es : List Expr} {as : List Ex} (hf : T.fns[f]? = some x) (hg : gloB ck.sc x = true) (hm : mtEs T as ck es = true) (ha : PA X es (tA g E G as)) : PE X (.Call (.Name x p) es [] pos) (tE g E G (.call f as)) := by
  obtain ⟨g1, g2, g3⟩ := F.glo hg
  obtain ⟨a, fd, ps, m1, m2, m3, m4, m5⟩ := F.fx.fns _ _ hf
  have main : ∀ σ H Q, tE g E G (.call f as) σ H Q → tA g E G as σ H fun vs H1 => spG g G f vs H1 Q Wish := fun σ H Q q => by
    obtain ⟨φ, S, env, hS, hE, q⟩ := q
    simp only [ev] at q
    refine (step (R := RepEs g.C) hS hE q).mono fun xs H1 n => ?_
    obtain ⟨φ1, S1, vs, eq, e1, s1, en1, r1, p1⟩ := n
    exact ⟨φ1, S1, vs, s1, r1, Post.impE p1 F.hE⟩
  refine ⟨fun pins s σ H Q J q => wpAny_Call_Name_kw (ld_glob J g1 m2 ?_ g2)⟩
  have q := main σ H Q q
  cases es with
  | nil =>
    cases as with
    | nil =>
      obtain ⟨φ, S, env, hS, hE, q⟩ := q
      simp only [evs] at q
      have q := (show Post g.C E (RepEs g.C) φ H (M.pure [] S) _ from q) φ H [] (Ext.refl _ _) hS .nil
      exact PySem.W.callWith_K0 J.kIn m3 (m5.call F.grd F.room m4 F.pass J (us := []) .nil q)
    | cons a as => simp only [mtEs, Bool.false_eq_true] at hm
  | cons e es =>
    cases as with
    | nil => simp only [mtEs, List.isEmpty_cons, Bool.false_eq_true] at hm
    | cons a' as =>
      simp only [mtEs, Bool.and_eq_true] at hm
      have args := ha.run pos pins s σ H _ J q
      exact PySem.W.callWith_K (h₀ := X.base) J.ok.mod.kin m3 (thn args fun us s1 ⟨vs, H1, J1, r, q1⟩ => ⟨J1.kIn, m5.call F.grd F.room m4 F.pass J1 r q1⟩) (mtE_star hm.1) (mtEs_star hm.2)
theorem rds_rep {φ : Ph} {H : Hp} {S : Store} {γ δ : Type} {R2 : Ph → Hp → δ → γ → Prop} {Q : δ → Hp → Prop} (hS : RepS g.C φ H S) : ∀ {vs : List EV} {xs : List V} {kk : List PV → M γ}, RepEs g.C φ H xs vs → Post g.C E R2 φ H (M.bind (rds vs) kk S) Q → ∃ ws, VRs g.C.K φ H xs ws ∧ Post g.C E R2 φ H (kk ws S) Q
  | [], _, kk, r, h => by
    cases r
    exact ⟨[], .nil, h⟩
  | v :: vs, _, kk, r, h => by
    cases r with
    | cons r1 r2 =>
      have h' : Post g.C E R2 φ H (M.bind (Ip.rd v) (fun w => M.bind (rds vs) fun ws => kk (w :: ws)) S) Q := by
        have e : M.bind (rds (v :: vs)) kk = M.bind (Ip.rd v) (fun w => M.bind (rds vs) fun ws => kk (w :: ws)) := by
          show M.bind (M.bind (Ip.rd v) fun w => M.bind (rds vs) fun ws => M.pure (w :: ws)) kk = _
          rw [bind_assoc']
          congr 1; funext w
          rw [bind_assoc']
          rfl
        rw [← e]; exact h
      obtain ⟨w, hw, p1⟩ := Post.rd hS r1 h'
      obtain ⟨ws, hws, p2⟩ := rds_rep hS (kk := fun ws => kk (w :: ws)) r2 p1
      exact ⟨w :: ws, .cons hw hws, p2⟩
theorem blt_boot : ∀ b : Blt, bootBuiltins (bltN b) = some (bltV b) := fun b => by cases b <;> decide +kernel
theorem s_blt (F : Fits g E T G ck k CX Wish X) {bb : Blt} {p : Pos} {e : Expr} {es : List Expr} {as : List Ex} (hg : freeB T ck.sc (bltN bb) = true) (hm : mtEs T as ck (e :: es) = true) (ha : PA X (e :: es) (tA g E G as)) : PE X (.Call (.Name (bltN bb) p) (e :: es) [] pos) (tE g E G (.blt bb as)) := by
  obtain ⟨g1, g2, g3, g4⟩ := F.free hg
  have main : ∀ σ H Q, tE g E G (.blt bb as) σ H Q → tCB (rBlt g.C bb) (tA g E G as) σ H Q := fun σ H Q q => by
    obtain ⟨φ, S, env, hS, hE, q⟩ := q
    simp only [ev] at q
    refine (step (R := RepEs g.C) hS hE q).mono fun xs H1 n => ?_
    obtain ⟨φ1, S1, vs, eq, e1, s1, en1, r1, p1⟩ := n
    obtain ⟨ws, hw, p2⟩ := rds_rep s1 r1 p1
    obtain ⟨u, hu, p3⟩ := Post.ofO p2
    exact ⟨φ1, S1, ws, u, s1, hw, hu, fun φ' H' z x s r => p3 φ' H' z x s r⟩
  have st : starEach (e :: es) X.env = (false, eval e X.env) :: starEach es X.env ∧ (backTo pos (starEach es X.env)).any (·.1) = false := by
    cases as with
    | nil => simp only [mtEs, List.isEmpty_cons, Bool.false_eq_true] at hm
    | cons a' as =>
      simp only [mtEs, Bool.and_eq_true] at hm
      exact ⟨mtE_star hm.1, mtEs_star hm.2⟩
  have cb := call_blt (X := X) F.hX F.calm F.hu F.grd bb
  have bo := blt_boot bb
  cases h : bltV bb with
  | builtin id => rw [h] at cb bo; exact PE.imp (pe_callB cb g1 g4 bo ha g3 g2 st.1 st.2) main
  | type id => rw [h] at cb bo; exact PE.imp (pe_callTy cb g1 g4 bo ha g3 g2 st.1 st.2) main
  | _ => cases bb <;> cases h
def tyP : PV → String
  | .non => "NoneType"
  | .bl _ => "bool"
  | .int _ => "int"
  | .str _ => "str"
  | .lst _ => "list"
  | .tup _ => "tuple"
  | .dct _ _ _ => "dict"
  | .set _ => "set"
theorem tyX_of {K : FK} {φ : Ph} {H : Hp} {x : V} {v : PV} (nd : ∀ n ks vs, v ≠ .dct n ks vs) (ns : ∀ xs, v ≠ .set xs) (h : VR K φ H x v) : TyX K.K H x (.type (tyP v)) := by
  cases v with
  | non => rw [h.non (C := ⟨K, fun _ => none⟩)]; exact .base .non
  | bl b => rw [h.bl (C := ⟨K, fun _ => none⟩)]; exact .base (.bl b)
  | int b => rw [h.int (C := ⟨K, fun _ => none⟩)]; exact .base (.int b)
  | str b => rw [(h.str (C := ⟨K, fun _ => none⟩)).1]; exact .base (.str b)
  | lst vs =>
    obtain ⟨a, xs, rfl, p, _⟩ := h
    rcases p with p | ⟨o, p⟩
    · exact .base (.lst p)
    · exact .base (.frz p)
  | tup vs =>
    obtain ⟨a, xs, rfl, p, _⟩ := h
    rcases p with ⟨_, p | ⟨o, p⟩⟩ | ⟨o, its, n, h1, h2, _⟩
    · exact .base (.tup p)
    · exact .fTuple p
    · exact .kTuple h1 h2
  | dct n ks vs =>
    exact absurd rfl (nd _ _ _)
  | set vs => exact absurd rfl (ns _)
/-- isinstance, a value of ours, one built-in class -/
def rIsiP (K : FK) : List V → Hp → VK → Prop := fun xs H Q => ∃ (φ : Ph) (x : V) (v : PV) (t : String) (b : Bool), xs = [x, .ty t] ∧ VR K φ H x v ∧ kitB (tyP v) t = some b ∧ Q (.bl b) H
theorem call_isiP {K : FK} (hX : KX X K) : CallR X (.builtin "isinstance") (rIsiP K) := by
  intro pins s σ H xs us Q I r h
  obtain ⟨φ, x, v, t, b, rfl, hv, e, q⟩ := h
  by_cases hd : ∃ n ks vs, v = .dct n ks vs
  · obtain ⟨n, ks, vs, rfl⟩ := hd
    obtain ⟨u1, u2, rfl, r1, r2⟩ := vals2 r
    cases (show u2 = Value.type t from r2)
    obtain ⟨a, rfl, rfl, hT, _⟩ := dct_typeIs I hX r1 hv
    obtain ⟨o, h1, h2⟩ := hT
    exact PySem.W.kia_one (PySem.W.kitx_dict (K := X.K)) I.kIn ⟨o, h1, h2⟩ (kit_ty e) (fun z => nomatch z) fun tk => ⟨.bl b, H, I.tok tk, rfl, q⟩
  · by_cases hs : ∃ ws, v = .set ws
    · obtain ⟨ws, rfl⟩ := hs
      obtain ⟨u1, u2, rfl, r1, r2⟩ := vals2 r
      cases (show u2 = Value.type t from r2)
      have hv : Rep K φ H x (.set ws) := hv
      cases hv with
      | set n1 e1 q1 k1 =>
        cases r1
        obtain ⟨o, rows, ep, tb, h1, h2, _⟩ := sto_get I hX e1
        exact PySem.W.kia_one (PySem.W.kitx_set (K := X.K)) I.kIn ⟨o, h1, h2.1⟩ (kit_ty e) (fun z => nomatch z) fun tk => ⟨.bl b, H, I.tok tk, rfl, q⟩
    have ty := tyX_of (fun n ks vs z => hd ⟨n, ks, vs, z⟩) (fun ws z => hs ⟨ws, z⟩) hv
    rw [← hX.k] at ty
    exact call_isi pins s σ H _ us Q I r ⟨x, .ty t, _, _, b, rfl, .ty _, ty, kit_ty e, q⟩
theorem kd_boot : ∀ kd : Kd, bootBuiltins (kdN kd : Str) = some (.type (kdN kd)) := fun kd => by cases kd <;> decide +kernel
theorem kd_kit : ∀ kd : Kd, ∀ t ∈ ["NoneType", "bool", "int", "str", "list", "tuple"], (kitB t (kdN kd)).isSome = true := fun kd => by cases kd <;> decide +kernel
theorem kd_ok (kd : Kd) (v : PV) {K : FK} {φ : Ph} {H : Hp} {x : V} (h : VR K φ H x v) : kitB (tyP v) (kdN kd) = some (kdop kd v) := by
  cases v with
  | dct n ks vs => cases kd <;> (show kitB "dict" _ = some false; decide +kernel)
  | set vs => cases kd <;> (show kitB "set" _ = some false; decide +kernel)
  | non => cases kd <;> (show kitB "NoneType" _ = some false; decide +kernel)
  | bl b => cases kd <;> first | (show kitB "bool" _ = some false; decide +kernel) | (show kitB "bool" _ = some true; decide +kernel)
  | int b => cases kd <;> first | (show kitB "int" _ = some false; decide +kernel) | (show kitB "int" _ = some true; decide +kernel)
  | str b => cases kd <;> first | (show kitB "str" _ = some false; decide +kernel) | (show kitB "str" _ = some true; decide +kernel)
  | lst b => cases kd <;> first | (show kitB "list" _ = some false; decide +kernel) | (show kitB "list" _ = some true; decide +kernel)
  | tup b => cases kd <;> first | (show kitB "tuple" _ = some false; decide +kernel) | (show kitB "tuple" _ = some true; decide +kernel)
theorem isi_boot : bootBuiltins "isinstance" = some (.builtin "isinstance") := by decide +kernel
theorem s_isi (F : Fits g E T G ck k CX Wish X) {kd : Kd} {p p2 : Pos} (hg : freeB T ck.sc "isinstance" = true) (hg2 : freeB T ck.sc (kdN kd : Str) = true) (hm : mtE T a' ck a = true) (ha : PE X a (tE g E G a')) :
    PE X (.Call (.Name "isinstance" p) [a, .Name (kdN kd : Str) p2] [] pos) (tE g E G (.isi a' kd)) := by
  obtain ⟨g1, g2, g3, g4⟩ := F.free hg
  obtain ⟨h1, h2, h3, h4⟩ := F.free hg2
  refine PE.imp (pe_callB (call_isiP F.hX) g1 g4 isi_boot (pa_cons ha (pa_cons (pe_bltn (v := .ty (kdN kd)) h1 h4 (kd_boot kd) rfl h3 h2) pa_nil) (mtE_star hm)) g3 g2 (mtE_star hm)) fun σ H Q q => ?_
  obtain ⟨φ, S, env, hS, hE, q⟩ := q
  simp only [ev] at q
  refine (step (R := RepE g.C) hS hE q).mono fun x H1 n => ?_
  obtain ⟨φ1, S1, v, eq, e1, s1, en1, r1, p1⟩ := n
  obtain ⟨v', hv, p2⟩ := Post.rd s1 r1 p1
  exact ⟨φ1, x, v', kdN kd, kdop kd v', rfl, hv, kd_ok kd v' hv, p2 φ1 H1 _ (Ext.refl _ _) s1 (.bl _)⟩
end
end Ip

set_option Elab.async false
set_option linter.all false
set_option maxRecDepth 100000
set_option maxHeartbeats 4000000
/-! Ip, part 25: tuple(zip(a, b)), list(zip(a, b)), at the library's level. -/
namespace Ip
open PySem PySem.Spec PyProof.Rows
def SubIt (t : Bool) (h : Heap) (it l : Addr) (k : Nat) : Prop := match t with
  | true => h.IsTupleIter it l k
  | false => h.IsListIter it l k
def SubSq (t : Bool) (h : Heap) (l : Addr) (xs : Array Value) : Prop := match t with
  | true => h.IsTuple l xs
  | false => h.IsList l xs
section
variable {t : Bool} {h h' : Heap} {it l : Addr} {k : Nat} {xs : Array Value}
theorem SubIt.at (x : SubIt t h it l k) (e : ∀ o, h.get? it = some o → h'.get? it = some o) : SubIt t h' it l k := by
  cases t with
  | true => exact Heap.IsTupleIter.at x e
  | false => exact Heap.IsListIter.at x e
theorem SubSq.at (x : SubSq t h l xs) (e : ∀ o, h.get? l = some o → h'.get? l = some o) : SubSq t h' l xs := by
  cases t with
  | true => exact Heap.IsTuple.at x e
  | false => exact Heap.IsList.at x e
theorem SubIt.there (x : SubIt t h it l k) : ∃ o, h.get? it = some o := by
  cases t with
  | true => obtain ⟨o, e, _⟩ := x; exact ⟨o, e⟩
  | false => obtain ⟨o, e, _⟩ := x; exact ⟨o, e⟩
theorem SubSq.there (x : SubSq t h l xs) : ∃ o, h.get? l = some o := by
  cases t with
  | true => obtain ⟨o, e, _⟩ := x; exact ⟨o, e⟩
  | false => obtain ⟨o, e, _⟩ := x; exact ⟨o, e⟩
end
section
variable {prog : Program} {w : World} {A : Around} {E : Value → Shared → Prop} {s : Shared} {t t1 t2 : Bool}
theorem sub_item {it l : Addr} {i : Nat} {items} {x : Value} {Q : Value → Shared → Prop} (hit : SubIt t s.heap it l i) (hl : SubSq t s.heap l items) (hx : items[i]? = some x)
    (hQ : ∀ h', SubIt t h' it l (i + 1) → Heap.SameBut it s.heap h' → Q x { s with heap := h' }) : wpAny (model prog w) A (Builtin.SmallTypes.nextOf (.ref it)) Q E s := by
  cases t with
  | true => exact RZ.nextOf_tuple_item hit hl hx hQ
  | false => exact wpAny_nextOf_list_item hit hl hx hQ
theorem sub_end {it l : Addr} {i : Nat} {items} {Q : Value → Shared → Prop} (hh : A.handled = none) (hit : SubIt t s.heap it l i) (hl : SubSq t s.heap l items) (hx : items[i]? = none)
    (hE : ∀ h' e, Heap.ExtBut it s.heap h' → (∃ o, h'.get? e = some o ∧ o.cls = .type "StopIteration") → E (.ref e) { s with heap := h' }) : wpAny (model prog w) A (Builtin.SmallTypes.nextOf (.ref it)) Q E s := by
  cases t with
  | true => exact RZ.nextOf_tuple_end hh hit hl hx hE
  | false => exact wpAny_nextOf_list_end hh hit hl hx hE
abbrev ZObj (f0 f1 : Value) (TI TO : Addr) : Obj := { cls := .type "zip", dict := none, data := .fields #[f0, f1, .bool false, .ref TI, .ref TO], slots := #[] }
/-- a zip in the midst -/
structure ZS (t1 t2 : Bool) (h : Heap) (z TI TO i1 i2 l1 l2 : Addr) (xs ys : Array Value) (k : Nat) : Prop where
  zo : ∃ f0 f1, h.get? z = some (ZObj f0 (.bool f1) TI TO) ∧ (f0 = .none ∨ ∃ (T : Nat) (o : Obj), f0 = rawInt (T : Nat) ∧ h.get? T = some o)
  ti : IsPair h TI (.ref i1) (.ref i2)
  to : ∃ a b, IsPair h TO a b
  s1 : SubIt t1 h i1 l1 k
  s2 : SubIt t2 h i2 l2 k
  q1 : SubSq t1 h l1 xs
  q2 : SubSq t2 h l2 ys
theorem ZS.typ {z TI TO i1 i2 l1 l2 : Addr} {xs ys : Array Value} {k : Nat} (Z : ZS t1 t2 s.heap z TI TO i1 i2 l1 l2 xs ys k) : s.TypeIs (.ref z) "zip" := by
  obtain ⟨f0, f1, hz, _⟩ := Z.zo
  exact ⟨_, hz, rfl⟩
variable {z TI TO i1 i2 l1 l2 : Addr} {xs ys : Array Value} {k : Nat}
/-- the first pair comes by way of the zip's own tuple -/
theorem z_first {x y a b : Value} {f1 : Value} {Q : Value → Shared → Prop} (D : ZipApart z TI TO i1 i2 l1 l2)
    (hz : s.heap.get? z = some (ZObj .none f1 TI TO)) (hTI : IsPair s.heap TI (.ref i1) (.ref i2)) (hTO : IsPair s.heap TO a b)
    (h1 : SubIt t1 s.heap i1 l1 k) (h2 : SubIt t2 s.heap i2 l2 k) (hl1 : SubSq t1 s.heap l1 xs) (hl2 : SubSq t2 s.heap l2 ys) (hx : xs[k]? = some x) (hy : ys[k]? = some y)
    (hQ : ∀ h' T, ZS t1 t2 h' z TI TO i1 i2 l1 l2 xs ys (k + 1) → IsPair h' T x y → s.heap.objs.size ≤ T →
      (∀ c o, c ≠ z → c ≠ TO → c ≠ i1 → c ≠ i2 → s.heap.get? c = some o → h'.get? c = some o) → Q (.ref T) { s with heap := h' }) :
    wpAny (model prog w) A (Builtin.«zip.__next__» ⟨[.ref z], []⟩) (fun fin s' => ∃ v, fin = .done (.ret v) ∧ Q v s') E s := by
  show wpAny _ _ (field (.ref z) 2 >>= _) _ _ _
  refine wpAny_bind (wpAny_field hz rfl (x := .bool false) rfl ?_)
  show wpAny _ _ (field (.ref z) 3 >>= _) _ _ _
  refine wpAny_bind (wpAny_field hz rfl (x := .ref TI) rfl ?_)
  refine wpAny_bind (wpAny_seqItems hTI rfl ?_)
  show wpAny _ _ (Builtin.SmallTypes.ownedTupleIsFree (.ref z) >>= _) _ _ _
  refine wpAny_bind ?_
  unfold Builtin.SmallTypes.ownedTupleIsFree
  refine wpAny_bind (wpAny_field hz rfl (x := .none) rfl (wpAny_pure ?_))
  simp only [if_true]
  refine wpAny_bind (wpAny_rule ?_)
  refine wpAny_bind (wpAny_field hz rfl (x := .ref TO) rfl ?_)
  refine wpAny_bind (wpAny_setField_rec hz (by simp) fun h₁ hz₁ hs₁ => ?_)
  replace hz₁ : h₁.get? z = some (ZObj .ellipsis f1 TI TO) := hz₁
  refine wpAny_bind ?_
  simp only [List.zipIdx_cons, List.zipIdx_nil, List.forIn_cons, List.forIn_nil]
  refine wpAny_bind (wpAny_bind (wpAny_onRaise ?_))
  show wpAny _ _ (Builtin.SmallTypes.nextOf (.ref i1) >>= _) _ _ _
  refine wpAny_bind (sub_item (h1.at fun o e => hs₁.extBut _ _ D.i1z e) (hl1.at fun o e => hs₁.extBut _ _ D.l1z e) hx fun h₂ h1₂ hs₂ => wpAny_pure ?_)
  have hTO₂ : IsPair h₂ TO a b := hs₂.extBut _ _ D.TOi1 (hs₁.extBut _ _ D.TOz hTO)
  refine wpAny_bind (wpAny_seqItems hTO₂ rfl ?_)
  refine wpAny_bind (wpAny_updateSeq_pair hTO₂ fun h₃ hTO₃ hs₃ => ?_)
  replace hTO₃ : IsPair h₃ TO x b := hTO₃
  refine wpAny_bind (wpAny_letGo (wpAny_pure ?_))
  refine wpAny_bind (wpAny_bind (wpAny_onRaise ?_))
  show wpAny _ _ (Builtin.SmallTypes.nextOf (.ref i2) >>= _) _ _ _
  refine wpAny_bind (sub_item (h2.at fun o e => hs₃.extBut _ _ D.TOi2.symm (hs₂.extBut _ _ D.i12.symm (hs₁.extBut _ _ D.i2z e)))
    (hl2.at fun o e => hs₃.extBut _ _ D.l2TO (hs₂.extBut _ _ D.l2i1 (hs₁.extBut _ _ D.l2z e))) hy fun h₄ h2₄ hs₄ => wpAny_pure ?_)
  have hTO₄ : IsPair h₄ TO x b := hs₄.extBut _ _ D.TOi2 hTO₃
  refine wpAny_bind (wpAny_seqItems hTO₄ rfl ?_)
  refine wpAny_bind (wpAny_updateSeq_pair hTO₄ fun h₅ hTO₅ hs₅ => ?_)
  replace hTO₅ : IsPair h₅ TO x y := hTO₅
  refine wpAny_bind (wpAny_letGo (wpAny_pure (wpAny_pure ?_)))
  refine wpAny_bind (wpAny_seqItems hTO₅ rfl ?_)
  refine wpAny_bind (wpAny_newTuple ?_)
  have hsz : h₅.objs.size = s.heap.objs.size := by rw [hs₅.1, hs₄.1, hs₃.1, hs₂.1, hs₁.1]
  have hz₅ : h₅.get? z = some (ZObj .ellipsis f1 TI TO) := hs₅.extBut _ _ D.TOz.symm (hs₄.extBut _ _ D.i2z.symm (hs₃.extBut _ _ D.TOz.symm (hs₂.extBut _ _ D.i1z.symm hz₁)))
  have hk₅ : ∀ c o, c ≠ z → c ≠ TO → c ≠ i1 → c ≠ i2 → s.heap.get? c = some o → h₅.get? c = some o := fun c o c1 c2 c3 c4 e =>
    hs₅.extBut _ _ c2 (hs₄.extBut _ _ c4 (hs₃.extBut _ _ c2 (hs₂.extBut _ _ c3 (hs₁.extBut _ _ c1 e))))
  have h1₅ : SubIt t1 h₅ i1 l1 (k + 1) := h1₂.at fun o e => hs₅.extBut _ _ D.TOi1.symm (hs₄.extBut _ _ D.i12 (hs₃.extBut _ _ D.TOi1.symm e))
  have h2₅ : SubIt t2 h₅ i2 l2 (k + 1) := h2₄.at fun o e => hs₅.extBut _ _ D.TOi2.symm e
  have hzlt : z < h₅.objs.size := Heap.lt_size hz₅
  show wpAny _ _ (Builtin.SmallTypes.ownedTupleHandOut (.ref z) (.ref h₅.objs.size) >>= _) _ _ _
  refine wpAny_bind ?_
  unfold Builtin.SmallTypes.ownedTupleHandOut
  have hz₆ : (h₅.push { cls := .type "tuple", data := .seq #[x, y] }).get? z = some (ZObj .ellipsis f1 TI TO) := Heap.get?_push_of_some _ hz₅
  refine wpAny_bind (wpAny_setField_rec hz₆ (by simp) fun h₇ hz₇ hs₇ => ?_)
  replace hz₇ : h₇.get? z = some (ZObj (rawInt h₅.objs.size) f1 TI TO) := hz₇
  refine wpAny_setField_rec hz₇ (by simp) fun h₈ hz₈ hs₈ => ?_
  replace hz₈ : h₈.get? z = some (ZObj (rawInt h₅.objs.size) (.bool false) TI TO) := hz₈
  have up : ∀ c o, c ≠ z → h₅.get? c = some o → h₈.get? c = some o := fun c o c1 e => hs₈.extBut _ _ c1 (hs₇.extBut _ _ c1 (Heap.get?_push_of_some _ e))
  have hT₈ : IsPair h₈ h₅.objs.size x y := hs₈.extBut _ _ (Nat.ne_of_gt hzlt) (hs₇.extBut _ _ (Nat.ne_of_gt hzlt) (Heap.get?_push_size _ rfl))
  refine wpAny_pure ⟨_, rfl, ?_⟩
  have kp : ∀ c o, c ≠ z → c ≠ TO → c ≠ i1 → c ≠ i2 → s.heap.get? c = some o → h₈.get? c = some o := fun c o c1 c2 c3 c4 e => up c o c1 (hk₅ c o c1 c2 c3 c4 e)
  exact hQ h₈ h₅.objs.size ⟨⟨_, _, hz₈, .inr ⟨_, _, rfl, hT₈⟩⟩, kp _ _ D.TIz D.TITO D.TIi1 D.TIi2 hTI, ⟨_, _, up _ _ D.TOz hTO₅⟩, h1₅.at fun o e => up _ o D.i1z e, h2₅.at fun o e => up _ o D.i2z e,
    hl1.at fun o e => kp _ o D.l1z D.l1TO D.l1i1 D.l1i2 e, hl2.at fun o e => kp _ o D.l2z D.l2TO D.l2i1 D.l2i2 e⟩ hT₈ (by rw [hsz]; exact Nat.le_refl _) kp
/-- the others in new tuples -/
theorem z_later {x y : Value} {f1 : Bool} {T0 : Nat} {o0 : Obj} {Q : Value → Shared → Prop} (D : ZipApart z TI TO i1 i2 l1 l2)
    (hz : s.heap.get? z = some (ZObj (rawInt (T0 : Nat)) (.bool f1) TI TO)) (hT0 : s.heap.get? T0 = some o0) (hTI : IsPair s.heap TI (.ref i1) (.ref i2)) (hTO : ∃ a b, IsPair s.heap TO a b)
    (h1 : SubIt t1 s.heap i1 l1 k) (h2 : SubIt t2 s.heap i2 l2 k) (hl1 : SubSq t1 s.heap l1 xs) (hl2 : SubSq t2 s.heap l2 ys) (hx : xs[k]? = some x) (hy : ys[k]? = some y)
    (hQ : ∀ h' T, ZS t1 t2 h' z TI TO i1 i2 l1 l2 xs ys (k + 1) → IsPair h' T x y → s.heap.objs.size ≤ T →
      (∀ c o, c ≠ z → c ≠ TO → c ≠ i1 → c ≠ i2 → s.heap.get? c = some o → h'.get? c = some o) → Q (.ref T) { s with heap := h' }) :
    wpAny (model prog w) A (Builtin.«zip.__next__» ⟨[.ref z], []⟩) (fun fin s' => ∃ v, fin = .done (.ret v) ∧ Q v s') E s := by
  show wpAny _ _ (field (.ref z) 2 >>= _) _ _ _
  refine wpAny_bind (wpAny_field hz rfl (x := .bool false) rfl ?_)
  show wpAny _ _ (field (.ref z) 3 >>= _) _ _ _
  refine wpAny_bind (wpAny_field hz rfl (x := .ref TI) rfl ?_)
  refine wpAny_bind (wpAny_seqItems hTI rfl ?_)
  show wpAny _ _ (Builtin.SmallTypes.ownedTupleIsFree (.ref z) >>= _) _ _ _
  refine wpAny_bind ?_
  unfold Builtin.SmallTypes.ownedTupleIsFree
  refine wpAny_bind (wpAny_field hz rfl (x := rawInt (T0 : Nat)) rfl ?_)
  show wpAny _ _ (loadIfAlive ((T0 : Int).toNat) >>= _) _ _ _
  rw [Int.toNat_natCast]
  refine wpAny_bind (PySem.W.kdx_alive hT0 ?_)
  simp only [Option.isNone_some, Bool.false_eq_true, if_false]
  refine wpAny_bind (wpAny_field hz rfl (x := .bool f1) rfl ?_)
  have fin : ∀ (h₁ h₂ h₃ : Heap), h₁.get? z = some (ZObj (rawInt (T0 : Nat)) (.bool true) TI TO) → Heap.SameBut z s.heap h₁ → SubIt t1 h₂ i1 l1 (k + 1) → Heap.SameBut i1 h₁ h₂ → SubIt t2 h₃ i2 l2 (k + 1) → Heap.SameBut i2 h₂ h₃ →
      Q (.ref h₃.objs.size) { s with heap := h₃.push { cls := .type "tuple", data := .seq #[x, y] } } := fun h₁ h₂ h₃ hz₁ hs₁ h1₂ hs₂ h2₃ hs₃ => by
    have hsz : h₃.objs.size = s.heap.objs.size := by rw [hs₃.1, hs₂.1, hs₁.1]
    have kp : ∀ c o, c ≠ z → c ≠ i1 → c ≠ i2 → s.heap.get? c = some o → (h₃.push { cls := .type "tuple", data := .seq #[x, y] }).get? c = some o := fun c o c1 c3 c4 e =>
      Heap.get?_push_of_some _ (hs₃.extBut _ _ c4 (hs₂.extBut _ _ c3 (hs₁.extBut _ _ c1 e)))
    have hz₃ : (h₃.push { cls := .type "tuple", data := .seq #[x, y] }).get? z = some (ZObj (rawInt (T0 : Nat)) (.bool true) TI TO) := Heap.get?_push_of_some _ (hs₃.extBut _ _ D.i2z.symm (hs₂.extBut _ _ D.i1z.symm hz₁))
    obtain ⟨a, b, hTO⟩ := hTO
    have alive : ∃ o, (h₃.push { cls := .type "tuple", data := .seq #[x, y] }).get? T0 = some o := by
      by_cases c1 : T0 = z
      · rw [c1]; exact ⟨_, hz₃⟩
      by_cases c3 : T0 = i1
      · obtain ⟨o, e⟩ := h1₂.there
        rw [c3]; exact ⟨o, Heap.get?_push_of_some _ (hs₃.extBut _ _ D.i12 e)⟩
      by_cases c4 : T0 = i2
      · obtain ⟨o, e⟩ := h2₃.there
        rw [c4]; exact ⟨o, Heap.get?_push_of_some _ e⟩
      exact ⟨_, kp _ _ c1 c3 c4 hT0⟩
    obtain ⟨oa, ha⟩ := alive
    refine hQ _ h₃.objs.size ⟨⟨_, _, hz₃, .inr ⟨T0, oa, rfl, ha⟩⟩, kp _ _ D.TIz D.TIi1 D.TIi2 hTI, ⟨_, _, kp _ _ D.TOz D.TOi1 D.TOi2 hTO⟩, h1₂.at fun o e => Heap.get?_push_of_some _ (hs₃.extBut _ _ D.i12 e), h2₃.at fun o e => Heap.get?_push_of_some _ e,
      hl1.at fun o e => kp _ o D.l1z D.l1i1 D.l1i2 e, hl2.at fun o e => kp _ o D.l2z D.l2i1 D.l2i2 e⟩ (Heap.get?_push_size _ rfl) (by rw [hsz]; exact Nat.le_refl _) fun c o c1 _ c3 c4 e => kp c o c1 c3 c4 e
  cases f1 with
  | true =>
    rw [if_neg (show ¬ ((Value.bool true != Value.bool true) = true) from Bool.false_ne_true)]
    refine wpAny_pure ?_
    simp only [Bool.false_eq_true, if_false]
    have hz₁ := hz
    have hs₁ : Heap.SameBut z s.heap s.heap := Heap.SameBut.refl _ _
    refine wpAny_bind ?_
    rw [← Array.forIn_toList]
    show wpAny _ _ (forIn [Value.ref i1, Value.ref i2] _ _) _ _ _
    simp only [List.forIn_cons, List.forIn_nil]
    refine wpAny_bind (wpAny_bind (wpAny_holding ?_))
    show wpAny _ _ (Builtin.SmallTypes.nextOf (.ref i1) >>= _) _ _ _
    refine wpAny_bind (sub_item (h1.at fun o e => hs₁.extBut _ _ D.i1z e) (hl1.at fun o e => hs₁.extBut _ _ D.l1z e) hx fun h₂ h1₂ hs₂ => wpAny_pure ?_)
    refine wpAny_pure ?_
    refine wpAny_bind (wpAny_bind (wpAny_holding ?_))
    show wpAny _ _ (Builtin.SmallTypes.nextOf (.ref i2) >>= _) _ _ _
    refine wpAny_bind (sub_item (h2.at fun o e => hs₂.extBut _ _ D.i12.symm (hs₁.extBut _ _ D.i2z e)) (hl2.at fun o e => hs₂.extBut _ _ D.l2i1 (hs₁.extBut _ _ D.l2z e)) hy fun h₃ h2₃ hs₃ => wpAny_pure ?_)
    refine wpAny_pure ?_
    refine wpAny_pure ?_
    show wpAny _ _ (newTuple [x, y] >>= _) _ _ _
    refine wpAny_bind (wpAny_newTuple (wpAny_pure ⟨_, rfl, ?_⟩))
    exact fin s.heap h₂ h₃ hz₁ hs₁ h1₂ hs₂ h2₃ hs₃
  | false =>
    rw [if_pos (show (Value.bool false != Value.bool true) = true from rfl)]
    refine wpAny_bind (wpAny_setField_rec hz (by simp) fun h₁ hz₁ hs₁ => ?_)
    refine wpAny_pure ?_
    simp only [Bool.false_eq_true, if_false]
    refine wpAny_bind ?_
    rw [← Array.forIn_toList]
    show wpAny _ _ (forIn [Value.ref i1, Value.ref i2] _ _) _ _ _
    simp only [List.forIn_cons, List.forIn_nil]
    refine wpAny_bind (wpAny_bind (wpAny_holding ?_))
    show wpAny _ _ (Builtin.SmallTypes.nextOf (.ref i1) >>= _) _ _ _
    refine wpAny_bind (sub_item (h1.at fun o e => hs₁.extBut _ _ D.i1z e) (hl1.at fun o e => hs₁.extBut _ _ D.l1z e) hx fun h₂ h1₂ hs₂ => wpAny_pure ?_)
    refine wpAny_pure ?_
    refine wpAny_bind (wpAny_bind (wpAny_holding ?_))
    show wpAny _ _ (Builtin.SmallTypes.nextOf (.ref i2) >>= _) _ _ _
    refine wpAny_bind (sub_item (h2.at fun o e => hs₂.extBut _ _ D.i12.symm (hs₁.extBut _ _ D.i2z e)) (hl2.at fun o e => hs₂.extBut _ _ D.l2i1 (hs₁.extBut _ _ D.l2z e)) hy fun h₃ h2₃ hs₃ => wpAny_pure ?_)
    refine wpAny_pure ?_
    refine wpAny_pure ?_
    show wpAny _ _ (newTuple [x, y] >>= _) _ _ _
    refine wpAny_bind (wpAny_newTuple (wpAny_pure ⟨_, rfl, ?_⟩))
    exact fin h₁ h₂ h₃ hz₁ hs₁ h1₂ hs₂ h2₃ hs₃
theorem z_next {x y : Value} {Q : Option Value → Shared → Prop} (D : ZipApart z TI TO i1 i2 l1 l2) (Z : ZS t1 t2 s.heap z TI TO i1 i2 l1 l2 xs ys k) (hx : xs[k]? = some x) (hy : ys[k]? = some y)
    (hQ : ∀ h' T, ZS t1 t2 h' z TI TO i1 i2 l1 l2 xs ys (k + 1) → IsPair h' T x y → s.heap.objs.size ≤ T →
      (∀ c o, c ≠ z → c ≠ TO → c ≠ i1 → c ≠ i2 → s.heap.get? c = some o → h'.get? c = some o) → Q (some (.ref T)) { s with heap := h' }) :
    wpAny (model prog w) A (pyNext (.ref z)) Q E s := by
  obtain ⟨⟨f0, f1, hz, hf⟩, ti, ⟨a, b, to⟩, s1, s2, q1, q2⟩ := Z
  have hT : s.TypeIs (.ref z) "zip" := ⟨_, hz, rfl⟩
  unfold pyNext
  refine wpAny_bind (wpAny_attempt (wpAny_callSpecial?_slot (name := Str.ofString "__next__") hT PySem.F.slot_zip_next
    (wpAny_call_entry PySem.F.slot_zip_next hT PySem.F.entry_zip_next ?_ (PySem.F.args_zip_next_1 _))))
  rcases hf with rfl | ⟨T, o, rfl, ho⟩
  · exact z_first D hz ti to s1 s2 q1 q2 hx hy fun h' T a1 a2 a3 a4 => wpAny_pure (hQ h' T a1 a2 a3 a4)
  · exact z_later D hz ho ti ⟨a, b, to⟩ s1 s2 q1 q2 hx hy fun h' T a1 a2 a3 a4 => wpAny_pure (hQ h' T a1 a2 a3 a4)
end
section
variable {prog : Program} {w : World} {A : Around} {E : Value → Shared → Prop} {s : Shared} {t t1 t2 : Bool} {z TI TO i1 i2 l1 l2 : Addr} {xs ys : Array Value} {k : Nat}
/-- at the end -/
theorem z_end {Q : Option Value → Shared → Prop} (hh : A.handled = none) (D : ZipApart z TI TO i1 i2 l1 l2) (Z : ZS t1 t2 s.heap z TI TO i1 i2 l1 l2 xs ys k) (hend : xs[k]? = none ∨ ys[k]? = none)
    (hQ : ∀ h', (∀ c o, c ≠ z → c ≠ TO → c ≠ i1 → c ≠ i2 → s.heap.get? c = some o → h'.get? c = some o) → Q none { s with heap := h' }) :
    wpAny (model prog w) A (pyNext (.ref z)) Q E s := by
  obtain ⟨⟨f0, f1, hz, hf⟩, hTI, ⟨a, b, hTO⟩, h1, h2, hl1, hl2⟩ := Z
  have hT : s.TypeIs (.ref z) "zip" := ⟨_, hz, rfl⟩
  unfold pyNext
  refine wpAny_bind (wpAny_attempt (wpAny_callSpecial?_slot (name := Str.ofString "__next__") hT PySem.F.slot_zip_next
    (wpAny_call_entry PySem.F.slot_zip_next hT PySem.F.entry_zip_next ?_ (PySem.F.args_zip_next_1 _))))
  have stop : ∀ h' e, (∀ c o, c ≠ z → c ≠ TO → c ≠ i1 → c ≠ i2 → s.heap.get? c = some o → h'.get? c = some o) → (∃ o, h'.get? e = some o ∧ o.cls = .type "StopIteration") →
      wpAny (model prog w) A (isInstance (.ref e) (.type "StopIteration") >>= fun b => if b = true then pure none else throw (.ref e)) Q E { s with heap := h' } := fun h' e hk he => by
    obtain ⟨o, ho, hc⟩ := he
    refine wpAny_bind (wpAny_isInstance (T := "StopIteration") (b := true) ⟨o, ho, hc⟩ isSubtype_stop ?_)
    exact wpAny_pure (hQ _ hk)
  show wpAny _ _ (field (.ref z) 2 >>= _) _ _ _
  refine wpAny_bind (wpAny_field hz rfl (x := .bool false) rfl ?_)
  show wpAny _ _ (field (.ref z) 3 >>= _) _ _ _
  refine wpAny_bind (wpAny_field hz rfl (x := .ref TI) rfl ?_)
  refine wpAny_bind (wpAny_seqItems hTI rfl ?_)
  show wpAny _ _ (Builtin.SmallTypes.ownedTupleIsFree (.ref z) >>= _) _ _ _
  refine wpAny_bind ?_
  unfold Builtin.SmallTypes.ownedTupleIsFree
  rcases hf with rfl | ⟨T0, o0, rfl, hT0⟩
  · refine wpAny_bind (wpAny_field hz rfl (x := .none) rfl (wpAny_pure ?_))
    simp only [if_true]
    refine wpAny_bind (wpAny_rule ?_)
    refine wpAny_bind (wpAny_field hz rfl (x := .ref TO) rfl ?_)
    refine wpAny_bind (wpAny_setField_rec hz (by simp) fun h₁ hz₁ hs₁ => ?_)
    replace hz₁ : h₁.get? z = some (ZObj .ellipsis (.bool f1) TI TO) := hz₁
    refine wpAny_bind ?_
    simp only [List.zipIdx_cons, List.zipIdx_nil, List.forIn_cons, List.forIn_nil]
    refine wpAny_bind (wpAny_bind (wpAny_onRaise ?_))
    show wpAny _ _ (Builtin.SmallTypes.nextOf (.ref i1) >>= _) _ _ _
    cases hx : xs[k]? with
    | none =>
      refine wpAny_bind (sub_end hh (h1.at fun o e => hs₁.extBut _ _ D.i1z e) (hl1.at fun o e => hs₁.extBut _ _ D.l1z e) hx fun h₂ e hs₂ he => ?_)
      obtain ⟨oe, hoe, hce⟩ := he
      have hz₂ : h₂.get? z = some (ZObj .ellipsis (.bool f1) TI TO) := hs₂ _ _ D.i1z.symm hz₁
      have hez : e ≠ z := fun x => by subst x; rw [hz₂] at hoe; cases hoe; simp at hce
      refine wpAny_setField_rec hz₂ (by simp) fun h₃ _ hs₃ => stop h₃ e (fun c o c1 _ c3 _ x => hs₃.extBut _ _ c1 (hs₂ _ _ c3 (hs₁.extBut _ _ c1 x))) ⟨oe, hs₃.extBut _ _ hez hoe, hce⟩
    | some x =>
      have hy : ys[k]? = none := by rcases hend with h | h; rw [hx] at h; cases h; exact h
      refine wpAny_bind (sub_item (h1.at fun o e => hs₁.extBut _ _ D.i1z e) (hl1.at fun o e => hs₁.extBut _ _ D.l1z e) hx fun h₂ h1₂ hs₂ => wpAny_pure ?_)
      have hTO₂ : IsPair h₂ TO a b := hs₂.extBut _ _ D.TOi1 (hs₁.extBut _ _ D.TOz hTO)
      refine wpAny_bind (wpAny_seqItems hTO₂ rfl ?_)
      refine wpAny_bind (wpAny_updateSeq_pair hTO₂ fun h₃ hTO₃ hs₃ => ?_)
      refine wpAny_bind (wpAny_letGo (wpAny_pure ?_))
      refine wpAny_bind (wpAny_bind (wpAny_onRaise ?_))
      show wpAny _ _ (Builtin.SmallTypes.nextOf (.ref i2) >>= _) _ _ _
      refine wpAny_bind (sub_end hh (h2.at fun o e => hs₃.extBut _ _ D.TOi2.symm (hs₂.extBut _ _ D.i12.symm (hs₁.extBut _ _ D.i2z e)))
        (hl2.at fun o e => hs₃.extBut _ _ D.l2TO (hs₂.extBut _ _ D.l2i1 (hs₁.extBut _ _ D.l2z e))) hy fun h₄ e hs₄ he => ?_)
      obtain ⟨oe, hoe, hce⟩ := he
      have hz₄ : h₄.get? z = some (ZObj .ellipsis (.bool f1) TI TO) := hs₄ _ _ D.i2z.symm (hs₃.extBut _ _ D.TOz.symm (hs₂.extBut _ _ D.i1z.symm hz₁))
      have hez : e ≠ z := fun x => by subst x; rw [hz₄] at hoe; cases hoe; simp at hce
      refine wpAny_setField_rec hz₄ (by simp) fun h₅ _ hs₅ => stop h₅ e (fun c o c1 c2 c3 c4 x => hs₅.extBut _ _ c1 (hs₄ _ _ c4 (hs₃.extBut _ _ c2 (hs₂.extBut _ _ c3 (hs₁.extBut _ _ c1 x))))) ⟨oe, hs₅.extBut _ _ hez hoe, hce⟩
  · refine wpAny_bind (wpAny_field hz rfl (x := rawInt (T0 : Nat)) rfl ?_)
    show wpAny _ _ (loadIfAlive ((T0 : Int).toNat) >>= _) _ _ _
    rw [Int.toNat_natCast]
    refine wpAny_bind (PySem.W.kdx_alive hT0 ?_)
    simp only [Option.isNone_some, Bool.false_eq_true, if_false]
    refine wpAny_bind (wpAny_field hz rfl (x := .bool f1) rfl ?_)
    cases f1 with
    | true =>
      rw [if_neg (show ¬ ((Value.bool true != Value.bool true) = true) from Bool.false_ne_true)]
      refine wpAny_pure ?_
      simp only [Bool.false_eq_true, if_false]
      have hz₁ := hz
      have hs₁ : Heap.SameBut z s.heap s.heap := Heap.SameBut.refl _ _
      refine wpAny_bind ?_
      rw [← Array.forIn_toList]
      show wpAny _ _ (forIn [Value.ref i1, Value.ref i2] _ _) _ _ _
      simp only [List.forIn_cons, List.forIn_nil]
      refine wpAny_bind (wpAny_bind (wpAny_holding ?_))
      show wpAny _ _ (Builtin.SmallTypes.nextOf (.ref i1) >>= _) _ _ _
      cases hx : xs[k]? with
      | none =>
        refine wpAny_bind (sub_end hh (h1.at fun o e => hs₁.extBut _ _ D.i1z e) (hl1.at fun o e => hs₁.extBut _ _ D.l1z e) hx fun h₂ e hs₂ he => ?_)
        exact stop h₂ e (fun c o c1 _ c3 _ x => hs₂ _ _ c3 (hs₁.extBut _ _ c1 x)) he
      | some x =>
        have hy : ys[k]? = none := by rcases hend with h | h; rw [hx] at h; cases h; exact h
        refine wpAny_bind (sub_item (h1.at fun o e => hs₁.extBut _ _ D.i1z e) (hl1.at fun o e => hs₁.extBut _ _ D.l1z e) hx fun h₂ h1₂ hs₂ => wpAny_pure ?_)
        refine wpAny_pure ?_
        refine wpAny_bind (wpAny_bind (wpAny_holding ?_))
        show wpAny _ _ (Builtin.SmallTypes.nextOf (.ref i2) >>= _) _ _ _
        refine wpAny_bind (sub_end hh (h2.at fun o e => hs₂.extBut _ _ D.i12.symm (hs₁.extBut _ _ D.i2z e)) (hl2.at fun o e => hs₂.extBut _ _ D.l2i1 (hs₁.extBut _ _ D.l2z e)) hy fun h₃ e hs₃ he => ?_)
        exact stop h₃ e (fun c o c1 _ c3 c4 x => hs₃ _ _ c4 (hs₂.extBut _ _ c3 (hs₁.extBut _ _ c1 x))) he
    | false =>
      rw [if_pos (show (Value.bool false != Value.bool true) = true from rfl)]
      refine wpAny_bind (wpAny_setField_rec hz (by simp) fun h₁ hz₁ hs₁ => ?_)
      refine wpAny_pure ?_
      simp only [Bool.false_eq_true, if_false]
      refine wpAny_bind ?_
      rw [← Array.forIn_toList]
      show wpAny _ _ (forIn [Value.ref i1, Value.ref i2] _ _) _ _ _
      simp only [List.forIn_cons, List.forIn_nil]
      refine wpAny_bind (wpAny_bind (wpAny_holding ?_))
      show wpAny _ _ (Builtin.SmallTypes.nextOf (.ref i1) >>= _) _ _ _
      cases hx : xs[k]? with
      | none =>
        refine wpAny_bind (sub_end hh (h1.at fun o e => hs₁.extBut _ _ D.i1z e) (hl1.at fun o e => hs₁.extBut _ _ D.l1z e) hx fun h₂ e hs₂ he => ?_)
        exact stop h₂ e (fun c o c1 _ c3 _ x => hs₂ _ _ c3 (hs₁.extBut _ _ c1 x)) he
      | some x =>
        have hy : ys[k]? = none := by rcases hend with h | h; rw [hx] at h; cases h; exact h
        refine wpAny_bind (sub_item (h1.at fun o e => hs₁.extBut _ _ D.i1z e) (hl1.at fun o e => hs₁.extBut _ _ D.l1z e) hx fun h₂ h1₂ hs₂ => wpAny_pure ?_)
        refine wpAny_pure ?_
        refine wpAny_bind (wpAny_bind (wpAny_holding ?_))
        show wpAny _ _ (Builtin.SmallTypes.nextOf (.ref i2) >>= _) _ _ _
        refine wpAny_bind (sub_end hh (h2.at fun o e => hs₂.extBut _ _ D.i12.symm (hs₁.extBut _ _ D.i2z e)) (hl2.at fun o e => hs₂.extBut _ _ D.l2i1 (hs₁.extBut _ _ D.l2z e)) hy fun h₃ e hs₃ he => ?_)
        exact stop h₃ e (fun c o c1 _ c3 c4 x => hs₃ _ _ c4 (hs₂.extBut _ _ c3 (hs₁.extBut _ _ c1 x))) he
end
end Ip

set_option Elab.async false
set_option linter.all false
set_option maxRecDepth 100000
set_option maxHeartbeats 4000000
/-! Ip, part 26: lists and tuples of a zip. -/
namespace Ip
open PySem PySem.Spec PyProof.Rows
section
variable {prog : Program} {w : World} {A : Around} {E : Value → Shared → Prop} {s : Shared} {t t1 t2 : Bool} {z TI TO i1 i2 l1 l2 : Addr} {xs ys : Array Value} {k : Nat}
/-- the pairs made so far -/
structure Prs (b : Nat) (h : Heap) (xs ys : Array Value) (Ts : List Addr) : Prop where
  nd : Ts.Nodup
  ge : ∀ T ∈ Ts, b ≤ T
  at' : ∀ (j : Nat) (T : Addr), Ts[j]? = some T → ∃ x y, xs[j]? = some x ∧ ys[j]? = some y ∧ IsPair h T x y
structure Apart7 (S z TI TO i1 i2 l1 l2 : Addr) : Prop where
  z : S ≠ z
  TI : S ≠ TI
  TO : S ≠ TO
  i1 : S ≠ i1
  i2 : S ≠ i2
  l1 : S ≠ l1
  l2 : S ≠ l2
theorem ZS.off {h h' : Heap} {S : Addr} (Z : ZS t1 t2 h z TI TO i1 i2 l1 l2 xs ys k) (P : Apart7 S z TI TO i1 i2 l1 l2) (hk : ∀ b o, b ≠ S → h.get? b = some o → h'.get? b = some o) (hS : ∃ o, h'.get? S = some o) : ZS t1 t2 h' z TI TO i1 i2 l1 l2 xs ys k := by
  obtain ⟨⟨f0, f1, hz, hf⟩, ti, ⟨a, b, to⟩, s1, s2, q1, q2⟩ := Z
  refine ⟨⟨f0, f1, hk _ _ P.z.symm hz, ?_⟩, hk _ _ P.TI.symm ti, ⟨a, b, hk _ _ P.TO.symm to⟩, s1.at fun o e => hk _ o P.i1.symm e, s2.at fun o e => hk _ o P.i2.symm e, q1.at fun o e => hk _ o P.l1.symm e, q2.at fun o e => hk _ o P.l2.symm e⟩
  rcases hf with h | ⟨T, o, h1, h2⟩
  · exact .inl h
  · by_cases e : T = S
    · obtain ⟨o', h3⟩ := hS
      exact .inr ⟨T, o', h1, by rw [e]; exact h3⟩
    · exact .inr ⟨T, o, h1, hk _ _ e h2⟩
theorem z_loop {b0 : Nat} {R : Result → Shared → Prop} (hb0 : b0 ≤ z) (hh : A.handled = none) (D : ZipApart z TI TO i1 i2 l1 l2) (res : Value) {S : Addr} (P : Apart7 S z TI TO i1 i2 l1 l2) (n : Nat) (hn : n = min xs.size ys.size) (hl : n ≤ sizeLine) :
    ∀ (m i : Nat) (s : Shared) (Ts : List Addr) (c : Nat), n - i = m → i ≤ n → Ts.length = i → ZS t1 t2 s.heap z TI TO i1 i2 l1 l2 xs ys i → s.heap.get? S = some { cls := .type "list", dict := none, data := .seq (Ts.map Value.ref).toArray c, slots := #[] } → Prs b0 s.heap xs ys Ts → (∀ T ∈ Ts, T ≠ S ∧ T ≠ z ∧ T ≠ TO ∧ T ≠ i1 ∧ T ≠ i2) →
    (∀ h' (Ts' : List Addr) c', (∀ b o, b ≠ S → b ≠ z → b ≠ TO → b ≠ i1 → b ≠ i2 → s.heap.get? b = some o → h'.get? b = some o) → h'.get? S = some { cls := .type "list", dict := none, data := .seq (Ts'.map Value.ref).toArray c', slots := #[] } → Ts'.length = n → Prs b0 h' xs ys Ts' → R (.ok (.ret res)) { s with heap := h' }) →
    codeAny (model prog w) A (.builtin "list.extend.loop" ⟨[.ref S, .ref z, res], []⟩) R s := by
  intro m
  induction m with
  | zero =>
    intro i s Ts c hk hi hT hst hS hP hN hR
    have hin : i = n := by omega
    refine codeAny_builtin PySem.F.entry_extend_loop ?_
    rw [Around.under_plainId PySem.F.plain_extend_loop _]
    show wpAny _ A.in1 (pyNext (.ref z) >>= _) _ _ s
    refine wpAny_bind (z_end (A := A.in1) hh D hst ?_ fun h' hk' => ?_)
    · by_cases e : xs.size ≤ ys.size
      · exact .inl (Array.getElem?_eq_none (by omega))
      · exact .inr (Array.getElem?_eq_none (by omega))
    · refine wpAny_pure (hR h' Ts c (fun b o _ h1 h2 h3 h4 e => hk' b o h1 h2 h3 h4 e) (hk' _ _ P.z P.TO P.i1 P.i2 hS) (by omega) ⟨hP.nd, hP.ge, fun j T e => ?_⟩)
      obtain ⟨x, y, e1, e2, e3⟩ := hP.at' j T e
      obtain ⟨_, n1, n2, n3, n4⟩ := hN T (List.mem_of_getElem? e)
      exact ⟨x, y, e1, e2, hk' _ _ n1 n2 n3 n4 e3⟩
  | succ m ih =>
    intro i s Ts c hk hi hT hst hS hP hN hR
    have hlt : i < n := by omega
    have hx : xs[i]? = some (xs[i]'(by omega)) := by simp [show i < xs.size by omega]
    have hy : ys[i]? = some (ys[i]'(by omega)) := by simp [show i < ys.size by omega]
    refine codeAny_builtin PySem.F.entry_extend_loop ?_
    rw [Around.under_plainId PySem.F.plain_extend_loop _]
    show wpAny _ A.in1 (pyNext (.ref z) >>= _) _ _ s
    refine wpAny_bind (z_next (A := A.in1) D hst hx hy fun h' T hst' hpair hsz hk' => ?_)
    have hS' := hk' _ _ P.z P.TO P.i1 P.i2 hS
    have hTS : T ≠ S := fun e => absurd (Heap.lt_size hS) (by rw [← e]; exact Nat.not_lt.mpr hsz)
    have old : ∀ b o, s.heap.get? b = some o → T ≠ b := fun b o e q => absurd (Heap.lt_size e) (by rw [← q]; exact Nat.not_lt.mpr hsz)
    show wpAny _ A.in1 (updateSeq S (·.push (.ref T)) >>= _) _ _ _
    refine wpAny_bind ?_
    have hup := Heap.get?_update_self (Obj.mapSeq (·.push (Value.ref T))) hS' rfl
    have oth : ∀ b o, b ≠ S → h'.get? b = some o → (h'.update S (Obj.mapSeq (·.push (Value.ref T)))).get? b = some o := fun b o hb e => (Heap.get?_update_other _ _ (Ne.symm hb)).trans e
    have earr : (Ts.map Value.ref).toArray.push (Value.ref T) = ((Ts ++ [T]).map Value.ref).toArray := by simp
    have hup' := hup
    simp only [Obj.mapSeq, earr] at hup'
    refine wpAny_updateSeq hS' rfl (wpAny_pure ⟨plainId_quiet PySem.F.plain_extend_loop _, ih (i + 1) _ (Ts ++ [T]) _ (by omega) hlt (by rw [List.length_append, hT]; rfl) (hst'.off P oth ⟨_, hup⟩) hup' ⟨?_, fun T' m => ?_, fun j T' e => ?_⟩ (fun T' m => ?_) fun h2 Ts2 c2 hk2 hS2 hl2 hP2 => ?_⟩) ?_ ?_
    · refine List.nodup_append.mpr ⟨hP.nd, by simp, fun a ha b hb e => ?_⟩
      rw [List.mem_singleton.mp hb] at e
      obtain ⟨j, hj⟩ := List.mem_iff_getElem?.mp ha
      obtain ⟨_, _, _, _, e3⟩ := hP.at' j a hj
      exact old _ _ e3 e.symm
    · rcases List.mem_append.mp m with m | m
      · exact hP.ge T' m
      · rw [List.mem_singleton.mp m]; exact Nat.le_trans hb0 (Nat.le_trans (by obtain ⟨⟨_, _, hz, _⟩, _⟩ := hst; exact Nat.le_of_lt (Heap.lt_size hz)) hsz)
    · by_cases hj : j < Ts.length
      · rw [List.getElem?_append_left hj] at e
        obtain ⟨x, y, e1, e2, e3⟩ := hP.at' j T' e
        obtain ⟨n0, n1, n2, n3, n4⟩ := hN T' (List.mem_of_getElem? e)
        exact ⟨x, y, e1, e2, oth _ _ n0 (hk' _ _ n1 n2 n3 n4 e3)⟩
      · have hj2 : j = i := by
          have := (List.getElem?_eq_some_iff.mp e).1
          simp at this; omega
        subst hj2
        rw [List.getElem?_append_right (by omega)] at e
        simp [hT] at e
        subst e
        exact ⟨_, _, hx, hy, oth _ _ hTS hpair⟩
    · rcases List.mem_append.mp m with m | m
      · exact hN T' m
      · rw [List.mem_singleton.mp m]
        obtain ⟨⟨f0, f1, hz, _⟩, _, ⟨_, _, to⟩, s1, s2, _, _⟩ := hst
        obtain ⟨_, e1⟩ := s1.there
        obtain ⟨_, e2⟩ := s2.there
        exact ⟨hTS, old _ _ hz, old _ _ to, old _ _ e1, old _ _ e2⟩
    · exact hR h2 Ts2 c2 (fun b o n0 n1 n2 n3 n4 e => hk2 b o n0 n1 n2 n3 n4 (oth _ _ n0 (hk' _ _ n1 n2 n3 n4 e))) hS2 hl2 hP2
    · simp [hT]; omega
    · simp [hT]; omega
theorem zip_no_len : typeLookup (.type "zip") "__len__" = pure none := by rw [typeLookup_type, builtinLookup_eq_fast]; kernel_rfl
theorem zip_no_hint : typeLookup (.type "zip") "__length_hint__" = pure none := by rw [typeLookup_type, builtinLookup_eq_fast]; kernel_rfl
theorem z_extend {b0 : Nat} {R : Result → Shared → Prop} (hh : A.handled = none) (D : ZipApart z TI TO i1 i2 l1 l2) (res : Value) {S : Addr} (P : Apart7 S z TI TO i1 i2 l1 l2) (hl : min xs.size ys.size ≤ sizeLine) (hb0 : b0 ≤ z) (Z : ZS t1 t2 s.heap z TI TO i1 i2 l1 l2 xs ys 0) {c₀ : Nat}
    (hS : s.heap.get? S = some { cls := .type "list", data := .seq #[] c₀ })
    (hR : ∀ h' (Ts' : List Addr) c', (∀ b o, b ≠ S → b ≠ z → b ≠ TO → b ≠ i1 → b ≠ i2 → s.heap.get? b = some o → h'.get? b = some o) → h'.get? S = some { cls := .type "list", dict := none, data := .seq (Ts'.map Value.ref).toArray c', slots := #[] } → Ts'.length = min xs.size ys.size → Prs b0 h' xs ys Ts' → R (.ok (.ret res)) { s with heap := h' }) :
    wpAny (model prog w) A.in1 (Builtin.List.listExtendWith (.ref S) (.ref z) res)
      (fun fin s' => match fin with | .done f => R (.ok f) s' | .again c' => c'.quiet = true ∧ codeAny (model prog w) A c' R s') (fun e s' => R (.error e) s') s := by
  unfold Builtin.List.listExtendWith
  refine wpAny_bind (wpAny_typeOf Z.typ ?_)
  have h1 : Builtin.List.listSameRef (.ref S) (.ref z) = false := by simp [Builtin.List.listSameRef, P.z]
  have h2 : (Value.type "zip" == Value.type "list") = false := by decide
  have h3 : (Value.type "zip" == Value.type "tuple") = false := by decide
  simp only [h1, h2, h3, Bool.or_false, Bool.false_eq_true, if_false]
  obtain ⟨f0, f1, hz, hf⟩ := id Z.zo
  have hit : ∀ (Q : Value → Shared → Prop) (E : Value → Shared → Prop), Q (.ref z) s → wpAny (model prog w) A.in1 (pyIter (.ref z)) Q E s := fun Q E h => by
    refine wpAny_pyIter_slot Z.typ PySem.F.slot_zip_iter (wpAny_call_entry PySem.F.slot_zip_iter Z.typ PySem.F.entry_zip_iter ?_ (PySem.F.args_zip_iter_1 _))
    show wpAny _ _ (ret (.ref z)) _ _ s
    exact wpAny_pure ⟨_, rfl, "zip", _, Z.typ, PySem.F.slot_zip_next.lookup, h⟩
  refine wpAny_bind (hit _ _ ?_)
  refine wpAny_bind (wpAny_holding ?_)
  unfold Builtin.List.listLengthHint
  refine wpAny_bind (wpAny_specialOf Z.typ zip_no_len ?_)
  show wpAny _ A.in1 (specialOf (Value.ref z) (Str.ofString "__length_hint__") >>= _) _ _ _
  refine wpAny_bind (wpAny_specialOf Z.typ zip_no_hint ?_)
  refine wpAny_pure ?_
  have key : ∀ (h : Heap) (c₁ : Nat), (∀ b o, b ≠ S → s.heap.get? b = some o → h.get? b = some o) → h.get? S = some { cls := .type "list", data := .seq #[] c₁ } →
      codeAny (model prog w) A (.builtin "list.extend.loop" ⟨[.ref S, .ref z, res], []⟩) R { s with heap := h } := fun h c₁ hk hS₁ =>
    z_loop hb0 hh D res P _ rfl hl _ 0 _ [] c₁ rfl (Nat.zero_le _) rfl (Z.off P hk ⟨_, hS₁⟩) hS₁ ⟨List.nodup_nil, fun T m => by simp at m, fun j T e => by simp at e⟩ (fun T m => by simp at m) fun h' Ts' c' hk' hS' hl' hP' =>
      hR h' Ts' c' (fun b o n0 n1 n2 n3 n4 e => hk' b o n0 n1 n2 n3 n4 (hk b o n0 e)) hS' hl' hP'
  refine wpAny_ite_split (fun _ => ?_) (fun _ => wpAny_pure ⟨plainId_quiet PySem.F.plain_extend_loop _, key s.heap c₀ (fun _ _ _ e => e) hS⟩)
  refine wpAny_bind (wpAny_rule ?_)
  refine wpAny_bind ?_
  show wpAny _ _ (updateSeq S (·.push .none) >>= fun _ => updateSeq S (·.pop)) _ _ _
  refine wpAny_bind (wpAny_updateSeq hS rfl ?_)
  have hS₂ := Heap.get?_update_self (Obj.mapSeq (·.push Value.none)) hS rfl
  refine wpAny_updateSeq (hz := by seq_fits) hS₂ rfl ?_
  have hS₃ := Heap.get?_update_self (Obj.mapSeq (·.pop)) hS₂ rfl
  refine wpAny_pure ⟨plainId_quiet PySem.F.plain_extend_loop _, key _ _ (fun b o hb e => ?_) hS₃⟩
  exact (Heap.get?_update_other _ _ (Ne.symm hb)).trans ((Heap.get?_update_other _ _ (Ne.symm hb)).trans e)
theorem z_apart {S : Addr} (Z : ZS t1 t2 s.heap z TI TO i1 i2 l1 l2 xs ys k) (h : s.heap.objs.size ≤ S) : Apart7 S z TI TO i1 i2 l1 l2 := by
  have key : ∀ b o, s.heap.get? b = some o → S ≠ b := fun b o e q => absurd (Heap.lt_size e) (by rw [← q]; exact Nat.not_lt.mpr h)
  obtain ⟨⟨f0, f1, hz, hf⟩, ti, ⟨a, b, to⟩, s1, s2, q1, q2⟩ := Z
  exact ⟨key _ _ hz, key _ _ ti, key _ _ to, key _ _ s1.there.choose_spec, key _ _ s2.there.choose_spec, key _ _ q1.there.choose_spec, key _ _ q2.there.choose_spec⟩
/-- list(z) -/
theorem z_list {b0 : Nat} {Q : Value → Shared → Prop} (hh : A.handled = none) (D : ZipApart z TI TO i1 i2 l1 l2) (hl : min xs.size ys.size ≤ sizeLine) (hb0 : b0 ≤ z) (Z : ZS t1 t2 s.heap z TI TO i1 i2 l1 l2 xs ys 0)
    (hQ : ∀ h' (Ts : List Addr) c', (∀ b o, b ≠ z → b ≠ TO → b ≠ i1 → b ≠ i2 → s.heap.get? b = some o → h'.get? b = some o) → h'.get? s.heap.objs.size = some { cls := .type "list", dict := none, data := .seq (Ts.map Value.ref).toArray c', slots := #[] } → Ts.length = min xs.size ys.size → Prs b0 h' xs ys Ts → Q (.ref s.heap.objs.size) { s with heap := h' }) :
    wpAny (model prog w) A (PySem.call (.type "list") [.ref z]) Q E s := by
  refine callType_codes (Q₁ := fun obj s₁ => obj = .ref s.heap.objs.size ∧ s₁ = { s with heap := s.heap.push { cls := .type "list", data := .seq #[] } }) PySem.F.called_list (PySem.F.typeCall_list_1 _) PySem.F.entry_list_init
    (code_list_new _ ⟨rfl, rfl⟩) fun obj s₁ h₁ => ?_
  obtain ⟨rfl, rfl⟩ := h₁
  have hS : (s.heap.push { cls := .type "list", data := .seq #[] }).get? s.heap.objs.size = some { cls := .type "list", data := .seq #[] } := Heap.get?_push_size _ rfl
  have P := z_apart Z (Nat.le_refl _)
  refine ⟨⟨_, hS, rfl⟩, PySem.F.args_list_init_2 _ _, ?_⟩
  show wpAny _ A.in1.in1 (do let old ← Builtin.List.listItems (.ref s.heap.objs.size); Builtin.List.listUpdate (.ref s.heap.objs.size) (fun _ => #[]); letGo old.toList.reverse; Builtin.List.listExtendWith (.ref s.heap.objs.size) (.ref z) .none) _ _ _
  refine wpAny_bind ?_
  unfold Builtin.List.listItems
  refine wpAny_bind (wpAny_seqItems hS rfl (wpAny_pure ?_))
  show wpAny _ _ (updateSeq s.heap.objs.size (fun _ => #[]) >>= fun _ => letGo (#[] : Array Value).toList.reverse >>= fun _ => Builtin.List.listExtendWith (.ref s.heap.objs.size) (.ref z) .none) _ _ _
  refine wpAny_bind (wpAny_updateSeq hS rfl ?_)
  have hS₂ := Heap.get?_update_self (Obj.mapSeq (fun _ => (#[] : Array Value))) hS rfl
  have oth : ∀ b o, b ≠ s.heap.objs.size → s.heap.get? b = some o → ((s.heap.push { cls := .type "list", data := .seq #[] }).update s.heap.objs.size (Obj.mapSeq (fun _ => (#[] : Array Value)))).get? b = some o :=
    fun b o hb e => (Heap.get?_update_other _ _ (Ne.symm hb)).trans (Heap.get?_push_of_some _ e)
  refine wpAny_bind (wpAny_letGo ?_)
  refine z_extend (A := A.in1) (s := { s with heap := (s.heap.push { cls := .type "list", data := .seq #[] }).update s.heap.objs.size (Obj.mapSeq (fun _ => (#[] : Array Value))) }) hh D .none P hl hb0 (Z.off P oth ⟨_, hS₂⟩) hS₂ fun h' Ts c' hk hS' hl' hp => ?_
  exact ⟨rfl, hQ h' Ts c' (fun b o n1 n2 n3 n4 e => hk b o (Nat.ne_of_lt (Heap.lt_size e)) n1 n2 n3 n4 (oth b o (Nat.ne_of_lt (Heap.lt_size e)) e)) hS' hl' hp⟩
theorem z_collect {b0 : Nat} {Q : List Value → Shared → Prop} (hh : A.handled = none) (D : ZipApart z TI TO i1 i2 l1 l2) (hl : min xs.size ys.size ≤ sizeLine) (hb0 : b0 ≤ z) (Z : ZS t1 t2 s.heap z TI TO i1 i2 l1 l2 xs ys 0)
    (hQ : ∀ h' (Ts : List Addr), (∀ b o, b ≠ z → b ≠ TO → b ≠ i1 → b ≠ i2 → s.heap.get? b = some o → h'.get? b = some o) → s.heap.objs.size < h'.objs.size → Ts.length = min xs.size ys.size → Prs b0 h' xs ys Ts → Q (Ts.map Value.ref) { s with heap := h' }) :
    wpAny (model prog w) A (collect (.ref z)) Q E s := by
  unfold collect
  refine wpAny_bind (wpAny_runValue (codeAny_builtin PySem.F.entry_proto_collect ?_))
  rw [Around.under_plainId PySem.F.plain_proto_collect _]
  show wpAny _ A.in1 (newList [] >>= fun l => again (.builtin "list.__iadd__" ⟨[l, .ref z], []⟩)) _ _ s
  refine wpAny_bind (wpAny_newObj_type ?_)
  refine wpAny_pure ⟨plainId_quiet PySem.F.plain_list_iadd _, codeAny_builtin PySem.F.entry_list_iadd ?_⟩
  rw [Around.under_plainId PySem.F.plain_list_iadd _]
  show wpAny _ A.in1 (Builtin.List.listExtendWith (.ref s.heap.objs.size) (.ref z) (.ref s.heap.objs.size)) _ _ _
  have hS : (s.heap.push { cls := .type "list", data := .seq ([] : List Value).toArray }).get? s.heap.objs.size = some { cls := .type "list", data := .seq #[] 0 } := Heap.get?_push_size _ rfl
  have P := z_apart Z (Nat.le_refl _)
  refine wpAny_mono (z_extend (A := A) (R := fun rr s' => rr = .ok (.ret (.ref s.heap.objs.size)) ∧ ∃ (h' : Heap) (Ts : List Addr) (c' : Nat), s' = { s with heap := h' } ∧
      (∀ b o, b ≠ z → b ≠ TO → b ≠ i1 → b ≠ i2 → s.heap.get? b = some o → h'.get? b = some o) ∧ h'.get? s.heap.objs.size = some { cls := .type "list", dict := none, data := .seq (Ts.map Value.ref).toArray c', slots := #[] } ∧ Ts.length = min xs.size ys.size ∧ Prs b0 h' xs ys Ts)
    (s := { s with heap := s.heap.push { cls := .type "list", data := .seq ([] : List Value).toArray } }) hh D (.ref s.heap.objs.size) P hl hb0 (Z.off P (fun b o _ e => Heap.get?_push_of_some _ e) ⟨_, hS⟩) hS
    (fun h' Ts c' hk e hl' hp => ⟨rfl, h', Ts, c', rfl, fun b o n1 n2 n3 n4 q => hk b o (Nat.ne_of_lt (Heap.lt_size q)) n1 n2 n3 n4 (Heap.get?_push_of_some _ q), e, hl', hp⟩)) (fun fin s' h => ?_) (fun e s' h => ?_)
  · cases fin with
    | done f =>
      obtain ⟨e, h', Ts, c', rfl, hk, hS', hl', hp⟩ := h
      cases e
      show wpAny _ A (load s.heap.objs.size >>= _) _ _ _
      exact wpAny_bind (wpAny_load hS' (wpAny_pure (hQ h' Ts hk (Heap.lt_size hS') hl' hp)))
    | again c' =>
      refine ⟨h.1, codeAny_mono h.2 fun rr s'' hr' => ?_⟩
      obtain ⟨rfl, h', Ts, c', rfl, hk, hS', hl', hp⟩ := hr'
      show wpAny _ A (load s.heap.objs.size >>= _) _ _ _
      exact wpAny_bind (wpAny_load hS' (wpAny_pure (hQ h' Ts hk (Heap.lt_size hS') hl' hp)))
  · exact absurd h.1 (by simp)
theorem z_code_tuple {b0 : Nat} {Q₁ : Value → Shared → Prop} (hh : A.handled = none) (D : ZipApart z TI TO i1 i2 l1 l2) (hl : min xs.size ys.size ≤ sizeLine) (hb0 : b0 ≤ z) (Z : ZS t1 t2 s.heap z TI TO i1 i2 l1 l2 xs ys 0)
    (h : ∀ h' (Ts : List Addr), (∀ b o, b ≠ z → b ≠ TO → b ≠ i1 → b ≠ i2 → s.heap.get? b = some o → h'.get? b = some o) → s.heap.objs.size < h'.objs.size → Ts.length = min xs.size ys.size → Prs b0 h' xs ys Ts →
      Q₁ (.ref h'.objs.size) { s with heap := h'.push { cls := .type "tuple", data := .seq (Ts.map Value.ref).toArray } }) :
    codeAny (model prog w) A (.call (.builtin "tuple.__new__") ⟨[.type "tuple", .ref z], []⟩) (wants Q₁ E) s := by
  refine codeAny_of_tree ?_
  show wpAny _ A.in1 (do checkBuiltinCall "tuple.__new__" ⟨[.type "tuple", .ref z], []⟩; again (.builtin "tuple.__new__" ⟨[.type "tuple", .ref z], []⟩)) _ _ s
  refine wpAny_bind (wpAny_of_eq (PySem.F.newCall_tuple_1 _) (wpAny_pure ⟨plainId_quiet PySem.F.plain_tuple_new _, codeAny_builtin PySem.F.entry_tuple_new ?_⟩))
  rw [Around.under_plainId PySem.F.plain_tuple_new _]
  have hsub := sub_tuple_self
  have hinit := init_tuple_lookup
  have hmh := madeHere_tuple
  have hTI := Z.typ
  have hh1 : A.in1.handled = none := hh
  wp_walk using wpAny_typeOf hTI, z_collect (A := A.in1) hh1 D hl hb0 Z
  intro h' Ts hk hz hl' hp
  show wpAny _ _ (Builtin.Tuple.tupleExact (Ts.map Value.ref).toArray >>= fun v => ret v) _ _ _
  unfold Builtin.Tuple.tupleExact
  refine wpAny_bind (wpAny_newObj_type ?_ (by show (Ts.map Value.ref).toArray.size ≤ sizeLine; simp; omega))
  refine wpAny_pure ?_
  exact h h' Ts hk hz hl' hp
/-- tuple(z) -/
theorem z_tuple {b0 : Nat} {Q : Value → Shared → Prop} (hh : A.handled = none) (D : ZipApart z TI TO i1 i2 l1 l2) (hl : min xs.size ys.size ≤ sizeLine) (hb0 : b0 ≤ z) (Z : ZS t1 t2 s.heap z TI TO i1 i2 l1 l2 xs ys 0)
    (hQ : ∀ h' (Ts : List Addr), (∀ b o, b ≠ z → b ≠ TO → b ≠ i1 → b ≠ i2 → s.heap.get? b = some o → h'.get? b = some o) → s.heap.objs.size < h'.objs.size → Ts.length = min xs.size ys.size → Prs b0 h' xs ys Ts →
      Q (.ref h'.objs.size) { s with heap := h'.push { cls := .type "tuple", data := .seq (Ts.map Value.ref).toArray } }) :
    wpAny (model prog w) A (PySem.call (.type "tuple") [.ref z]) Q E s := by
  refine callType_codes (Q₁ := fun obj s₁ => s₁.TypeIs obj "tuple" ∧ Q obj s₁) PySem.F.called_tuple (PySem.F.typeCall_tuple_1 _) PySem.F.entry_object_init
    (z_code_tuple (A := A.in1) hh D hl hb0 Z fun h' Ts hk hz hl' hp => ⟨⟨_, Heap.get?_push_size _ rfl, rfl⟩, hQ h' Ts hk hz hl' hp⟩) fun obj s₁ h₁ => ?_
  exact ⟨h₁.1, PySem.F.args_object_init_2 obj _, object_init_meets PySem.F.called_tuple.init.lookup PySem.F.called_tuple.made (by decide) prog w A.in1 _ s₁ ⟨h₁.1, rfl, h₁.2⟩⟩
end
end Ip

set_option Elab.async false
set_option linter.all false
set_option maxRecDepth 100000
set_option maxHeartbeats 4000000
/-! Ip, part 27: zip(a, b), a and b lists or tuples. -/
namespace Ip
open PySem PySem.Spec PyProof.Rows
abbrev zxH1 (h : Heap) (c : String) (l1 : Addr) : Heap := h.push { cls := .type c, data := .fields #[.ref l1, .int 0 0] }
abbrev zxH2 (h : Heap) (c1 c2 : String) (l1 l2 : Addr) : Heap := (zxH1 h c1 l1).push { cls := .type c2, data := .fields #[.ref l2, .int 0 0] }
abbrev zxH3 (h : Heap) (c1 c2 : String) (l1 l2 : Addr) : Heap := (zxH2 h c1 c2 l1 l2).push { cls := .type "tuple", data := .seq #[.ref h.objs.size, .ref (zxH1 h c1 l1).objs.size] }
abbrev zxH4 (h : Heap) (c1 c2 : String) (l1 l2 : Addr) : Heap := (zxH3 h c1 c2 l1 l2).push { cls := .type "tuple", data := .seq #[.none, .none] }
abbrev zxH5 (h : Heap) (c1 c2 : String) (l1 l2 : Addr) : Heap := (zxH4 h c1 c2 l1 l2).push { cls := .type "zip", data := .fields #[.none, .bool false, .bool false, .ref (zxH2 h c1 c2 l1 l2).objs.size, .ref (zxH3 h c1 c2 l1 l2).objs.size] }
def itC (t : Bool) : String := if t then "tuple_iterator" else "list_iterator"
theorem sub_new (t : Bool) {h : Heap} {a l : Addr} (e : h.get? a = some { cls := .type (itC t), data := .fields #[.ref l, .int 0 0] }) : SubIt t h a l 0 := by
  cases t with
  | true => exact ⟨_, e, rfl, rfl⟩
  | false => exact ⟨_, e, rfl, rfl⟩
theorem meets_zx_lt (l1 l2 : Addr) (xs ys : Array Value) :
    Meets (Builtin.«zip.__new__» ⟨[.type "zip", .ref l1, .ref l2], []⟩) (fun _ R s => s.heap.IsList l1 xs ∧ s.heap.IsTuple l2 ys ∧
      R (.ok (.ret (.ref (zxH4 s.heap "list_iterator" "tuple_iterator" l1 l2).objs.size))) { s with heap := zxH5 s.heap "list_iterator" "tuple_iterator" l1 l2 }) :=
  .of_wp fun prog w A R s h => by
    obtain ⟨hp, g, d, tk, os⟩ := s; obtain ⟨hl1, hl2, h⟩ := h
    have hsub := sub_zip
    have hL1 : Heap.IsList (Shared.heap ⟨hp, g, d, tk, os⟩) l1 xs := hl1
    have hL2 : Heap.IsTuple (Shared.heap ⟨hp.push { cls := .type "list_iterator", data := .fields #[.ref l1, .int 0 0] }, g, d, tk, os⟩) l2 ys := Heap.IsTuple.push hl2 _
    wp_walk using wpAny_pyIter_list hL1, wpAny_pyIter_tuple hL2
    exact ⟨_, rfl, h⟩
theorem meets_zx_tl (l1 l2 : Addr) (xs ys : Array Value) :
    Meets (Builtin.«zip.__new__» ⟨[.type "zip", .ref l1, .ref l2], []⟩) (fun _ R s => s.heap.IsTuple l1 xs ∧ s.heap.IsList l2 ys ∧
      R (.ok (.ret (.ref (zxH4 s.heap "tuple_iterator" "list_iterator" l1 l2).objs.size))) { s with heap := zxH5 s.heap "tuple_iterator" "list_iterator" l1 l2 }) :=
  .of_wp fun prog w A R s h => by
    obtain ⟨hp, g, d, tk, os⟩ := s; obtain ⟨hl1, hl2, h⟩ := h
    have hsub := sub_zip
    have hL1 : Heap.IsTuple (Shared.heap ⟨hp, g, d, tk, os⟩) l1 xs := hl1
    have hL2 : Heap.IsList (Shared.heap ⟨hp.push { cls := .type "tuple_iterator", data := .fields #[.ref l1, .int 0 0] }, g, d, tk, os⟩) l2 ys := Heap.IsList.push hl2 _
    wp_walk using wpAny_pyIter_tuple hL1, wpAny_pyIter_list hL2
    exact ⟨_, rfl, h⟩
theorem meets_zx (t1 t2 : Bool) (l1 l2 : Addr) (xs ys : Array Value) :
    Meets (Builtin.«zip.__new__» ⟨[.type "zip", .ref l1, .ref l2], []⟩) (fun _ R s => SubSq t1 s.heap l1 xs ∧ SubSq t2 s.heap l2 ys ∧
      R (.ok (.ret (.ref (zxH4 s.heap (itC t1) (itC t2) l1 l2).objs.size))) { s with heap := zxH5 s.heap (itC t1) (itC t2) l1 l2 }) := by
  cases t1 <;> cases t2
  · exact meets_zip_new l1 l2 xs ys
  · exact meets_zx_lt l1 l2 xs ys
  · exact meets_zx_tl l1 l2 xs ys
  · exact RZ.meets_zipT_new l1 l2 xs ys
section
variable {prog : Program} {w : World} {A : Around} {E : Value → Shared → Prop} {s : Shared} {t1 t2 : Bool}
theorem call_zx {l1 l2 : Addr} {xs ys : Array Value} {Q : Value → Shared → Prop} (hl1 : SubSq t1 s.heap l1 xs) (hl2 : SubSq t2 s.heap l2 ys)
    (h : ∀ h' z TI TO i1 i2, ZS t1 t2 h' z TI TO i1 i2 l1 l2 xs ys 0 → ZipApart z TI TO i1 i2 l1 l2 → (∀ b, b = z ∨ b = TO ∨ b = i1 ∨ b = i2 → s.heap.objs.size ≤ b) → s.heap.objs.size ≤ h'.objs.size →
      (∀ c o, s.heap.get? c = some o → h'.get? c = some o) → Q (.ref z) { s with heap := h' }) :
    wpAny (model prog w) A (PySem.call (.type "zip") [.ref l1, .ref l2]) Q E s := by
  refine callType_new PySem.F.called_zip (by decide) (PySem.F.typeCall_zip_2 _ _) (PySem.F.newCall_zip_2 _ _) (fun obj => PySem.F.args_object_init_3 obj _ _) PySem.F.entry_zip_new
    (meets_zx t1 t2 l1 l2 xs ys) ⟨hl1, hl2, ?_⟩
  have z1 : (zxH1 s.heap (itC t1) l1).objs.size = s.heap.objs.size + 1 := Heap.size_push ..
  have z2 : (zxH2 s.heap (itC t1) (itC t2) l1 l2).objs.size = s.heap.objs.size + 2 := by rw [Heap.size_push, z1]
  have z3 : (zxH3 s.heap (itC t1) (itC t2) l1 l2).objs.size = s.heap.objs.size + 3 := by rw [Heap.size_push, z2]
  have z4 : (zxH4 s.heap (itC t1) (itC t2) l1 l2).objs.size = s.heap.objs.size + 4 := by rw [Heap.size_push, z3]
  have z5 : (zxH5 s.heap (itC t1) (itC t2) l1 l2).objs.size = s.heap.objs.size + 5 := by rw [Heap.size_push, z4]
  have g5 : (zxH5 s.heap (itC t1) (itC t2) l1 l2).get? (zxH4 s.heap (itC t1) (itC t2) l1 l2).objs.size = some _ := Heap.get?_push_size _ rfl
  have g4 : (zxH5 s.heap (itC t1) (itC t2) l1 l2).get? (zxH3 s.heap (itC t1) (itC t2) l1 l2).objs.size = some _ := Heap.get?_push_of_some _ (Heap.get?_push_size _ rfl)
  have g3 : (zxH5 s.heap (itC t1) (itC t2) l1 l2).get? (zxH2 s.heap (itC t1) (itC t2) l1 l2).objs.size = some _ := Heap.get?_push_of_some _ (Heap.get?_push_of_some _ (Heap.get?_push_size _ rfl))
  have g2 : (zxH5 s.heap (itC t1) (itC t2) l1 l2).get? (zxH1 s.heap (itC t1) l1).objs.size = some _ := Heap.get?_push_of_some _ (Heap.get?_push_of_some _ (Heap.get?_push_of_some _ (Heap.get?_push_size _ rfl)))
  have g1 : (zxH5 s.heap (itC t1) (itC t2) l1 l2).get? s.heap.objs.size = some _ := Heap.get?_push_of_some _ (Heap.get?_push_of_some _ (Heap.get?_push_of_some _ (Heap.get?_push_of_some _ (Heap.get?_push_size _ rfl))))
  show _ ∧ _
  rw [z2, z3, z4] at g5
  rw [z1, z2] at g3
  rw [z3] at g4
  rw [z1] at g2
  rw [z4]
  have old : ∀ c o, s.heap.get? c = some o → (zxH5 s.heap (itC t1) (itC t2) l1 l2).get? c = some o := fun c o x =>
    Heap.get?_push_of_some _ (Heap.get?_push_of_some _ (Heap.get?_push_of_some _ (Heap.get?_push_of_some _ (Heap.get?_push_of_some _ x))))
  have k1 : ∃ o, s.heap.get? l1 = some o := hl1.there
  have k2 : ∃ o, s.heap.get? l2 = some o := hl2.there
  obtain ⟨_, k1⟩ := k1
  obtain ⟨_, k2⟩ := k2
  have m1 : l1 < s.heap.objs.size := Heap.lt_size k1
  have m2 : l2 < s.heap.objs.size := Heap.lt_size k2
  have ne : ∀ (a b : Addr), a < b → a ≠ b := fun a b h => Nat.ne_of_lt h
  have gt : ∀ (a b : Addr), b < a → a ≠ b := fun a b h => Nat.ne_of_gt h
  have lt : ∀ (l : Addr) (i : Nat), l < s.heap.objs.size → l ≠ s.heap.objs.size + i := fun l i h => Nat.ne_of_lt (Nat.lt_of_lt_of_le h (Nat.le_add_right _ _))
  have pp : ∀ i j : Nat, i ≠ j → s.heap.objs.size + i ≠ s.heap.objs.size + j := fun i j h e => h (by omega)
  have D : ZipApart (s.heap.objs.size + 4) (s.heap.objs.size + 2) (s.heap.objs.size + 3) (s.heap.objs.size + 0) (s.heap.objs.size + 1) l1 l2 :=
    ⟨pp _ _ (by decide), pp _ _ (by decide), pp _ _ (by decide), pp _ _ (by decide), pp _ _ (by decide), pp _ _ (by decide), pp _ _ (by decide), pp _ _ (by decide), pp _ _ (by decide), pp _ _ (by decide),
      lt _ _ m1, lt _ _ m1, lt _ _ m1, lt _ _ m1, lt _ _ m2, lt _ _ m2, lt _ _ m2, lt _ _ m2⟩
  refine ⟨⟨_, g5, rfl⟩, h _ _ _ _ _ _ ⟨⟨_, false, g5, .inl rfl⟩, g3, ⟨_, _, g4⟩, sub_new t1 g1, sub_new t2 g2, hl1.at fun o e => old _ o e, hl2.at fun o e => old _ o e⟩ D (fun b hb => ?_) (by rw [z5]; exact Nat.le_add_right _ _) old⟩
  rcases hb with rfl | rfl | rfl | rfl <;> first | exact Nat.le_refl _ | exact Nat.le_add_right _ _
end
end Ip

set_option Elab.async false
set_option linter.all false
set_option maxRecDepth 100000
set_option maxHeartbeats 4000000
/-! Ip, part 28: tuple(zip(a, b)), list(zip(a, b)). -/
namespace Ip
open PySem L2 PySem.Spec PyProof.Rows
section
variable {X : Cx} {pins : List (Addr × Obj)} {σ : L2.St} {H H' : Hp} {s : Shared} {h' : Heap}
/-- more is laid -/
theorem inv_more {t' : Nat} (I : Inv X pins σ H s) (k : ∀ b u, s.heap.get? b = some u → h'.get? b = some u) (e1 : ∀ a o, H a = some o → H' a = some o)
    (e2 : ∀ a o, H' a = some o → H a = none → s.heap.objs.size ≤ a ∧ ObjOk X.prog X.w H' h' a o) : Inv X pins σ H' { s with heap := h', toks := t' } := by
  refine I.un ⟨fun b u q _ _ _ => k b u q, fun b u q _ _ _ => ⟨u.slots, k b u q⟩, fun b u q n _ => ?_, fun b u q _ => ⟨u, k b u q⟩, fun b xs q => e1 _ _ q, fun b u xs q => e1 _ _ q, fun b ps q => ⟨#[], by rw [e1 _ _ q]; simp⟩⟩ fun a o q => ?_
  · cases z : H' b with
    | none => rfl
    | some o => exact absurd (Heap.lt_size q) (Nat.not_lt.mpr (e2 b o z n).1)
  · cases z : H a with
    | none => exact (e2 a o q z).2
    | some u =>
      rw [e1 _ _ z] at q
      cases q
      exact (I.hok a _ z).stay (fun b u _ q => k b u q) (fun _ q => e1 _ _ q) fun _ _ q => e1 _ _ q
end
/-- pairs laid at Ts, the whole at p -/
def zipH (H : Hp) (Ts : List Addr) (xs ys : List V) (p : Addr) (o : HO) : Hp := fun a => if a = p then some o else if a ∈ Ts then some (.tup [xs.getD (Ts.idxOf a) .non, ys.getD (Ts.idxOf a) .non]) else H a
theorem zipH_at {H : Hp} {Ts : List Addr} {xs ys : List V} {p : Addr} {o : HO} (nd : Ts.Nodup) (np : p ∉ Ts) {j : Nat} {T : Addr} {x y : V} (h : Ts[j]? = some T) (hx : xs[j]? = some x) (hy : ys[j]? = some y) : zipH H Ts xs ys p o T = some (.tup [x, y]) := by
  obtain ⟨hj, rfl⟩ := List.getElem?_eq_some_iff.mp h
  have hm : Ts[j] ∈ Ts := List.getElem_mem hj
  have e := nd.idxOf_getElem j hj
  unfold zipH
  have h0 : ¬ Ts[j] = p := fun z => np (by rw [← z]; exact hm)
  rw [if_neg h0, if_pos hm, e]
  simp [List.getD, hx, hy]
theorem RepS.grow {C : RC} {φ : Ph} {H H' : Hp} {S : Store} (h : RepS C φ H S) (g : ∀ a o, H a = some o → H' a = some o) : Ext φ H φ H' ∧ RepS C φ H' S := by
  have e : Ext φ H φ H' := ⟨Nat.le_refl _, fun _ h => h, fun _ _ _ q => q, fun _ m n => absurd m n, fun a u q _ => g _ _ q, fun a m => by
    cases z : H a with
    | none => exact absurd z (h.there a (.inr m))
    | some o => exact g _ _ z⟩
  refine ⟨e, h.len, fun n c q => ?_, h.inj, fun a m => ?_, h.live, h.disj⟩
  · rcases h.cell n c q with r | ⟨a, h1, h2⟩
    · exact .inl r
    · exact .inr ⟨a, h1, h2.keep e.kp.kept fun u q => g _ _ q⟩
  · cases z : H a with
    | none => exact absurd z (h.there a m)
    | some o => rw [g _ _ z]; simp
def zO (t : Bool) (Ts : List Addr) : HO := if t then .tup (Ts.map V.ref) else .lst (Ts.map V.ref)
def kZip (t : Bool) (K : PySem.W.Frag) (x y : V) (H : Hp) (Q : VK) : Prop := ∃ a b xs ys, x = .ref a ∧ y = .ref b ∧ (SqL K H a xs ∨ SqT K H a xs) ∧ (SqL K H b ys ∨ SqT K H b ys) ∧
  ∀ (Ts : List Addr) (p : Addr), Ts.length = min xs.length ys.length → Ts.Nodup → p ∉ Ts → (∀ T ∈ Ts, H T = none) → H p = none → Q (.ref p) (zipH H Ts xs ys p (zO t Ts))
theorem vals_refs : ∀ Ts : List Addr, Vals (Ts.map V.ref) (Ts.map Value.ref)
  | [] => .nil
  | T :: Ts => .cons rfl (vals_refs Ts)
section
variable {X : Cx} {pins : List (Addr × Obj)} {σ : L2.St} {H : Hp} {s : Shared}
theorem sub_seq (I : Inv X pins σ H s) {a : Addr} {xs : List V} (h : SqL X.K H a xs ∨ SqT X.K H a xs) : ∃ (t : Bool) (its : List Value), Vals xs its ∧ SubSq t s.heap a its.toArray ∧ xs.length ≤ sizeLine := by
  rcases h with h | h
  · obtain ⟨its, r, p, hl⟩ := I.list h
    exact ⟨false, its, r, p.isList, hl⟩
  · obtain ⟨its, r, p, hl⟩ := I.tuple h
    exact ⟨true, its, r, p, hl⟩
theorem vals_two {xs : List V} {us : List Value} (r : Vals xs us) {j : Nat} {u : Value} (h : us[j]? = some u) : ∃ x, xs[j]? = some x ∧ RelV x u := by
  induction r generalizing j with
  | nil => simp at h
  | cons p q ih =>
    cases j with
    | zero => simp at h; subst h; exact ⟨_, rfl, p⟩
    | succ j => simpa using ih (by simpa using h)
theorem rl_zip (hc : X.calm = true) (t : Bool) {x y : V} {u v : Value} {Q : VK} (I : Inv X pins σ H s) (rx : RelV x u) (ry : RelV y v) (h : kZip t X.K x y H Q) :
    wpAny (model X.prog X.w) X.A (PySem.call (.type "zip") [u, v]) (fun z s' => wpAny (model X.prog X.w) X.A (PySem.call (.type (if t then "tuple" else "list")) [z]) (EP X pins σ Q) X.xe s') X.xe s := by
  obtain ⟨a, b, xs, ys, rfl, rfl, h1, h2, q⟩ := h
  obtain rfl : u = .ref a := rx
  obtain rfl : v = .ref b := ry
  obtain ⟨t1, i1, r1, q1, l1⟩ := sub_seq I h1
  obtain ⟨t2, i2, r2, q2, l2⟩ := sub_seq I h2
  refine call_zx q1 q2 fun h' z TI TO j1 j2 Z D ge sz old => ?_
  have hmin : min i1.toArray.size i2.toArray.size = min xs.length ys.length := by rw [List.size_toArray, List.size_toArray, r1.length, r2.length]
  have hl : min i1.toArray.size i2.toArray.size ≤ sizeLine := by rw [hmin]; omega
  have hb0 : s.heap.objs.size ≤ z := ge z (.inl rfl)
  have fin : ∀ (h2 : Heap) (Ts : List Addr) (p : Addr), (∀ c o, s.heap.get? c = some o → h2.get? c = some o) → Ts.length = min i1.toArray.size i2.toArray.size → Prs s.heap.objs.size h2 i1.toArray i2.toArray Ts → p ∉ Ts → s.heap.objs.size ≤ p →
      ObjOk X.prog X.w (zipH H Ts xs ys p (zO t Ts)) h2 p (zO t Ts) → EP X pins σ Q (.ref p) { s with heap := h2 } := fun h2 Ts p hk hlen hp np hps hob => by
    refine ⟨.ref p, zipH H Ts xs ys p (zO t Ts), inv_more (t' := s.toks) I hk (fun a o e => ?_) (fun a o e n => ?_), rfl, q Ts p (by rw [hlen, hmin]) hp.nd np (fun T m => I.hok.fresh (hp.ge T m)) (I.hok.fresh hps)⟩
    · have ha := I.hok.lt e
      unfold zipH
      have h0 : ¬ a = p := fun z => absurd ha (Nat.not_lt.mpr (by rw [z]; exact hps))
      rw [if_neg h0, if_neg (fun m => absurd ha (Nat.not_lt.mpr (hp.ge a m)))]
      exact e
    · by_cases c1 : a = p
      · subst c1
        have : zipH H Ts xs ys a (zO t Ts) a = some (zO t Ts) := by unfold zipH; rw [if_pos rfl]
        rw [this] at e
        cases e
        exact ⟨hps, hob⟩
      · by_cases c2 : a ∈ Ts
        · obtain ⟨j, hj⟩ := List.mem_iff_getElem?.mp c2
          obtain ⟨x, y, e1, e2, e3⟩ := hp.at' j a hj
          obtain ⟨vx, f1, g1⟩ := vals_two r1 (by simpa using e1)
          obtain ⟨vy, f2, g2⟩ := vals_two r2 (by simpa using e2)
          rw [zipH_at hp.nd np hj f1 f2] at e
          cases e
          exact ⟨hp.ge a c2, by simp; rw [line_eq]; decide, [x, y], .cons g1 (.cons g2 .nil), _, e3, rfl, 0, rfl⟩
        · unfold zipH at e
          rw [if_neg c1, if_neg c2, n] at e
          cases e
  have hlen2 : ∀ Ts : List Addr, Ts.length = min i1.toArray.size i2.toArray.size → (Ts.map V.ref).length ≤ sizeLine := fun Ts h => by rw [List.length_map, h]; exact hl
  have low : ∀ c o, s.heap.get? c = some o → c ≠ z ∧ c ≠ TO ∧ c ≠ j1 ∧ c ≠ j2 := fun c o e => by
    have hc := Heap.lt_size e
    have f : ∀ b, s.heap.objs.size ≤ b → c ≠ b := fun b hb => Nat.ne_of_lt (Nat.lt_of_lt_of_le hc hb)
    exact ⟨f _ (ge _ (.inl rfl)), f _ (ge _ (.inr (.inl rfl))), f _ (ge _ (.inr (.inr (.inl rfl)))), f _ (ge _ (.inr (.inr (.inr rfl))))⟩
  cases t with
  | true =>
    refine z_tuple (b0 := s.heap.objs.size) (s := { s with heap := h' }) (I.ok.hd hc) D hl hb0 Z fun h2 Ts hk hz hlen hp => ?_
    have hpush : ∀ c o, h2.get? c = some o → (h2.push { cls := .type "tuple", data := .seq (Ts.map Value.ref).toArray }).get? c = some o := fun c o e => Heap.get?_push_of_some _ e
    refine fin _ Ts h2.objs.size (fun c o e => ?_) hlen ⟨hp.nd, hp.ge, fun j T e => ?_⟩ (fun m => ?_) (Nat.le_trans sz (Nat.le_of_lt hz)) ⟨hlen2 Ts hlen, Ts.map Value.ref, vals_refs Ts, IsTup.new _ _⟩
    · obtain ⟨n1, n2, n3, n4⟩ := low c o e
      exact hpush _ _ (hk c o n1 n2 n3 n4 (old c o e))
    · obtain ⟨x, y, e1, e2, e3⟩ := hp.at' j T e
      exact ⟨x, y, e1, e2, hpush _ _ e3⟩
    · obtain ⟨j, hj⟩ := List.mem_iff_getElem?.mp m
      obtain ⟨_, _, _, _, e3⟩ := hp.at' j _ hj
      exact absurd (Heap.lt_size e3) (Nat.lt_irrefl _)
  | false =>
    refine z_list (b0 := s.heap.objs.size) (s := { s with heap := h' }) (I.ok.hd hc) D hl hb0 Z fun h2 Ts c' hk hS hlen hp => ?_
    refine fin _ Ts h'.objs.size (fun c o e => ?_) hlen hp (fun m => ?_) sz ⟨hlen2 Ts hlen, Ts.map Value.ref, c', vals_refs Ts, hS⟩
    · obtain ⟨n1, n2, n3, n4⟩ := low c o e
      exact hk c o n1 n2 n3 n4 (old c o e)
    · obtain ⟨j, hj⟩ := List.mem_iff_getElem?.mp m
      obtain ⟨_, _, _, _, e3⟩ := hp.at' j _ hj
      have e4 := e3.symm.trans hS
      simp at e4
end
end Ip

set_option Elab.async false
set_option linter.all false
set_option maxRecDepth 100000
set_option maxHeartbeats 4000000
/-! Ip, part 30: tuple(zip(a, b)), xs[::c], tuple(range(n)) as expressions. -/
namespace Ip
open PySem L2 PySem.Spec PyProof.Rows
section
variable {X : Cx}
theorem pe_zipV {a b : Expr} {ta tb : TE} (t : Bool) {p p2 pos pos2 : Pos} (hc : X.calm = true) (hg : Gl X (tyN t)) (hm : X.mg (tyN t) = none) (hg2 : Gl X "zip") (hm2 : X.mg "zip" = none) (ha : PE X a ta) (hb : PE X b tb)
    (na : starEach [a, b] X.env = (false, eval a X.env) :: starEach [b] X.env := by rfl) (nb : starEach [b] X.env = (false, eval b X.env) :: starEach [] X.env := by rfl) (hp : (backTo pos2 (starEach [b] X.env)).any (·.1) = false := by rfl)
    (hs2 : starEach [.Call (.Name "zip" p2) [a, b] [] pos2] X.env = (false, eval (.Call (.Name "zip" p2) [a, b] [] pos2) X.env) :: starEach [] X.env := by rfl) :
    PE X (.Call (.Name (tyN t) p) [.Call (.Name "zip" p2) [a, b] [] pos2] [] pos) (fun σ H Q => ta σ H fun x H1 => tb σ H1 fun y H2 => kZip t X.K x y H2 Q) := by
  refine ⟨fun pins s σ H Q I h => ?_⟩
  have inner : ∀ {R : Value → Shared → Prop}, (∀ z s', wpAny (model X.prog X.w) X.A (PySem.call (.type (if t then "tuple" else "list")) [z]) (EP X pins σ Q) X.xe s' → R z s') → wpAny (model X.prog X.w) X.A (eval (.Call (.Name "zip" p2) [a, b] [] pos2) X.env) R X.xe s := fun {R} hR => by
    refine Call_ (ld_blt I hg2 hm2 PyProof.Rows.boot_zip (PyProof.Rows.callWith_type1 (args_cons (thn (ha.run pins s σ H _ I h) fun v s1 ⟨x, H1, I1, r1, q1⟩ => one_arg hb I1 q1 (fun u s2 y H2 I2 r2 q => ?_) nb) na) na hp))
    exact wpAny_mono (rl_zip hc t I2 r1 r2 q) (fun z s' h => hR z s' h) fun _ _ e => e
  cases t with
  | true => exact Call_ (ld_blt I hg hm boot_tuple (PyProof.Rows.callWith_type1 (args_cons (inner fun z s' h => args_nil h) hs2) hs2 rfl))
  | false => exact Call_ (ld_blt I hg hm boot_list (PyProof.Rows.callWith_type1 (args_cons (inner fun z s' h => args_nil h) hs2) hs2 rfl))
theorem pick_one (items : Array Value) : slicePick items none none (some 1) = items := by
  have h : slicePick items none none (some 1) = slicePick items none none none := rfl
  rw [h, PySem.W.kms_pick_eq]
  simp [PySem.W.kms_pick, PySem.W.kms_lo, PySem.W.kms_hi]
  rw [List.take_of_length_le (by simp)]
def tRv (K : PySem.W.Frag) (te tc : TE) : TE := fun σ H Q => te σ H fun x H1 => tPart tc σ H1 fun o H2 => ∃ a xs i, x = .ref a ∧ o = some i ∧ SqL K H2 a xs ∧ ((i = 1 ∧ ∀ p, H2 p = none → Q (.ref p) (upd H2 p (.lst xs))) ∨ (i = -1 ∧ ∀ p, H2 p = none → Q (.ref p) (upd H2 p (.lst xs.reverse))))
theorem pe_slR {e c : Expr} {te tc : TE} {p3 pos : Pos} (he : PE X e te) (hc : PE X c tc) : PE X (.Subscript e (.Slice none none (some c) p3) pos) (tRv X.K te tc) := by
  refine ⟨fun pins s σ H Q I h => ?_⟩
  refine Subscript_ (thn (he.run pins s σ H _ I h) fun v s1 ⟨x, H1, I1, r1, q1⟩ => ?_)
  refine wpAny_Slice (thn (po_none.run pins s1 σ H1 (fun o H2 => o = none ∧ H2 = H1) I1 ⟨rfl, rfl⟩) fun vl s2 ⟨l, H2, I2, pl, el, e2⟩ => ?_)
  subst el e2
  refine thn (po_none.run pins s2 σ H2 (fun o H3 => o = none ∧ H3 = H2) I2 ⟨rfl, rfl⟩) fun vu s3 ⟨u, H3, I3, pu, eu, e3⟩ => ?_
  subst eu e3
  have hst : PO X (some c) (tPart tc) := po_some hc
  refine thn (hst.run pins s3 σ H3 _ I3 q1) fun vs s4 ⟨o, H4, I4, ps, a, xs, i, ex, eo, hx, q⟩ => ?_
  subst ex eo
  cases r1
  have I5 : Inv X pins σ H4 { s4 with heap := s4.heap.push { cls := .type "slice", data := .fields #[vl, vu, vs] } } := I4.kept (t' := s4.toks) fun b ob q => Heap.get?_push_of_some _ q
  obtain ⟨its, r, ht, hz⟩ := I5.list hx
  have hlen := r.length
  show wpAny (model X.prog X.w) X.A (subscriptTail e (.Slice none none (some c) p3) (.ref a) (.ref s4.heap.objs.size)) (EP X pins σ Q) X.xe { s4 with heap := s4.heap.push { cls := .type "slice", data := .fields #[vl, vu, vs] } }
  refine tail_any (ops := [.ref a, .ref s4.heap.objs.size]) ht.isList.typeIs (PySem.slot_list_getitem.lookup) ?_ (by with_unfolding_all rfl)
  rcases q with ⟨rfl, q⟩ | ⟨rfl, q⟩
  · refine wpAny_getItem_list_slice ht.isList (Heap.IsSliceOf.new _ vl vu vs) pl pu ps (by decide) ?_ (by rw [List.size_toArray]; omega)
    rw [pick_one]
    refine ⟨.ref _, _, I5.laid (t' := s4.toks) (o := .lst xs) (fun b ob q => Heap.get?_push_of_some _ q) (Nat.le_refl _) ?_, rfl, q _ (I5.hok.fresh (Nat.le_refl _))⟩
    exact ⟨hz, _, 0, r, Heap.get?_push_size _ rfl⟩
  · refine wpAny_getItem_list_slice ht.isList (Heap.IsSliceOf.new _ vl vu vs) pl pu ps (by decide) ?_ (by rw [List.size_toArray]; omega)
    rw [PySem.W.krv_pick]
    refine ⟨.ref _, _, I5.laid (t' := s4.toks) (o := .lst xs.reverse) (fun b ob q => Heap.get?_push_of_some _ q) (Nat.le_refl _) ?_, rfl, q _ (I5.hok.fresh (Nat.le_refl _))⟩
    exact ⟨by rw [List.length_reverse]; exact hz, _, 0, r.reverse, Heap.get?_push_size _ rfl⟩
end
theorem Reps.of_get {K : FK} {φ : Ph} {H : Hp} : ∀ {xs : List V} {vs : List PV}, xs.length = vs.length → (∀ (j : Nat) (x : V) (v : PV), xs[j]? = some x → vs[j]? = some v → Rep K φ H x v) → Reps K φ H xs vs
  | [], [], _, _ => .nil
  | [], _ :: _, h, _ => by simp at h
  | _ :: _, [], h, _ => by simp at h
  | x :: xs, v :: vs, h, f => .cons (f 0 x v rfl rfl) (Reps.of_get (by simpa using h) fun j y w h1 h2 => f (j + 1) y w (by simpa using h1) (by simpa using h2))
theorem Reps.rev {K : FK} {φ : Ph} {H : Hp} : ∀ {xs : List V} {vs : List PV}, Reps K φ H xs vs → Reps K φ H xs.reverse vs.reverse
  | _, [], h => by cases h; exact .nil
  | _, v :: vs, h => by
    cases h with
    | cons p q => rw [List.reverse_cons, List.reverse_cons]; exact (Reps.rev q).append (.cons p .nil)
theorem zipL_at : ∀ (vs ws : List PV) (i : Nat) (v : PV), (zipL vs ws)[i]? = some v → ∃ a b, vs[i]? = some a ∧ ws[i]? = some b ∧ v = .tup [a, b]
  | [], ws, i, v, h => by simp [zipL] at h
  | _ :: _, [], i, v, h => by simp [zipL] at h
  | a :: vs, b :: ws, 0, v, h => by simp [zipL] at h; exact ⟨a, b, rfl, rfl, h.symm⟩
  | a :: vs, b :: ws, i + 1, v, h => by
    simp only [zipL, List.getElem?_cons_succ] at h ⊢
    exact zipL_at vs ws i v h
theorem zipL_ln : ∀ (vs ws : List PV), (zipL vs ws).length = min vs.length ws.length
  | [], ws => by simp [zipL]
  | _ :: _, [] => by simp [zipL]
  | a :: vs, b :: ws => by simp [zipL, zipL_ln vs ws]
theorem Reps.pick {K : FK} {φ : Ph} {H : Hp} {xs : List V} {vs : List PV} (r : Reps K φ H xs vs) {i : Nat} {v : PV} (h : vs[i]? = some v) : ∃ x, xs[i]? = some x ∧ Rep K φ H x v := Reps.get r h
theorem vr_seq {K : FK} {φ : Ph} {H : Hp} {KK : PySem.W.Frag} (hk : KK = K.K) {x : V} {v : PV} {us : List PV} (h : VR K φ H x v) (e : seqOf v = some us) : ∃ a xs, x = .ref a ∧ (SqL KK H a xs ∨ SqT KK H a xs) ∧ Reps K φ H xs us := by
  subst hk
  cases v with
  | lst vs =>
    cases e
    obtain ⟨a, xs, rfl, h1, h2⟩ := h
    exact ⟨a, xs, rfl, .inl (.inl h1), h2⟩
  | tup vs =>
    cases e
    obtain ⟨a, xs, rfl, h1, h2⟩ := h
    exact ⟨a, xs, rfl, .inr h1.sq, h2⟩
  | _ => cases e
section
variable {g : Gc} {E : EX} {T : Tb} {G : Nat → List EV → M EV} {ck : Ck} {k : Nat} {CX : CXT} {Wish : XK} {X : Cx} {a b c : Expr} {a' b' c' : Ex} {p p2 p3 pos pos2 : Pos}
theorem s_zipV (F : Fits g E T G ck k CX Wish X) (t : Bool) (hg : freeB T ck.sc (tyN t) = true) (hg2 : freeB T ck.sc "zip" = true) (hm : mtE T a' ck a = true) (hm2 : mtE T b' ck b = true) (ha : PE X a (tE g E G a')) (hb : PE X b (tE g E G b')) :
    PE X (.Call (.Name (tyN t) p) [.Call (.Name "zip" p2) [a, b] [] pos2] [] pos) (tE g E G (.zipV t a' b')) := by
  obtain ⟨g1, _, _, g4⟩ := F.free hg
  obtain ⟨h1, _, _, h4⟩ := F.free hg2
  refine PE.imp (pe_zipV t F.calm g1 g4 h1 h4 ha hb (mtE_star hm) (mtE_star hm2) (by rw [mtE_star hm2]; rfl) rfl) fun σ H Q q => ?_
  obtain ⟨φ, S, env, hS, hE, q⟩ := q
  simp only [ev] at q
  refine (step (R := RepE g.C) hS hE q).mono fun x H1 n => ?_
  obtain ⟨φ1, S1, v, eq, e1, s1, en1, r1, p1⟩ := n
  refine (step (R := RepE g.C) s1 en1 p1).mono fun y H2 n2 => ?_
  obtain ⟨φ2, S2, w, eq2, e2, s2, en2, r2, p2⟩ := n2
  obtain ⟨v', hv, p3⟩ := Post.rd s2 (r1.mono e2) p2
  obtain ⟨w', hw, p4⟩ := Post.rd s2 r2 p3
  obtain ⟨u, hu, p5⟩ := Post.ofO p4
  unfold zipop at hu
  cases q1 : seqOf v' with
  | none => rw [q1] at hu; cases hu
  | some us =>
    cases q2 : seqOf w' with
    | none => rw [q1, q2] at hu; cases hu
    | some ws =>
      rw [q1, q2] at hu
      cases hu
      obtain ⟨A, xs, rfl, sa, ra⟩ := vr_seq F.hX.k hv q1
      obtain ⟨B, ys, rfl, sb, rb⟩ := vr_seq F.hX.k hw q2
      refine ⟨A, B, xs, ys, rfl, rfl, sa, sb, fun Ts P hlen nd np hT hP => ?_⟩
      have grow : ∀ a o, H2 a = some o → zipH H2 Ts xs ys P (zO t Ts) a = some o := fun a o e => by
        have h0 : ¬ a = P := fun z => by rw [z, hP] at e; cases e
        have h1 : a ∉ Ts := fun m => by rw [hT a m] at e; cases e
        unfold zipH
        rw [if_neg h0, if_neg h1]
        exact e
      obtain ⟨e3, s3⟩ := s2.grow grow
      have off : ∀ a, H2 a = none → ¬ φ2.has a := fun a e m => s2.there a m e
      have ra' := Reps.mono e3.kp _ _ ra
      have rb' := Reps.mono e3.kp _ _ rb
      have rr : Reps g.C.K φ2 (zipH H2 Ts xs ys P (zO t Ts)) (Ts.map V.ref) (zipL us ws) := by
        refine Reps.of_get (by rw [List.length_map, hlen, zipL_ln, ra.length, rb.length]) fun j x v h1 h2 => ?_
        rw [List.getElem?_map] at h1
        cases ht : Ts[j]? with
        | none => rw [ht] at h1; cases h1
        | some T =>
          rw [ht] at h1
          cases h1
          obtain ⟨p, q, e4, e5, rfl⟩ := zipL_at _ _ _ _ h2
          obtain ⟨xp, f1, g1⟩ := Reps.pick ra' e4
          obtain ⟨yq, f2, g2⟩ := Reps.pick rb' e5
          exact .tup (.inl ⟨off T (hT T (List.mem_of_getElem? ht)), .inl (zipH_at nd np ht f1 f2)⟩) (.cons g1 (.cons g2 .nil))
      have at_ : zipH H2 Ts xs ys P (zO t Ts) P = some (zO t Ts) := by unfold zipH; rw [if_pos rfl]
      cases t with
      | true => exact p5 φ2 _ (.ref P) e3 s3 (.tup (.inl ⟨off P hP, .inl at_⟩) rr)
      | false => exact p5 φ2 _ (.ref P) e3 s3 (.lst ⟨off P hP, .inl at_⟩ rr)
theorem s_slR (F : Fits g E T G ck k CX Wish X) (ha : PE X a (tE g E G a')) (hc : PE X c (tE g E G c')) : PE X (.Subscript a (.Slice none none (some c) p3) pos) (tE g E G (.slR a' c')) := by
  refine PE.imp (pe_slR ha hc) fun σ H Q q => ?_
  obtain ⟨φ, S, env, hS, hE, q⟩ := q
  simp only [ev] at q
  refine (step (R := RepE g.C) hS hE q).mono fun x H1 n => ?_
  obtain ⟨φ1, S1, v, eq, e1, s1, en1, r1, p1⟩ := n
  refine (step (R := RepE g.C) s1 en1 p1).mono fun y H2 n2 => ?_
  obtain ⟨φ2, S2, w, eq2, e2, s2, en2, r2, p2⟩ := n2
  obtain ⟨v', hv, p3⟩ := Post.rd s2 (r1.mono e2) p2
  obtain ⟨w', hw, p4⟩ := Post.rd s2 r2 p3
  obtain ⟨u, hu, p5⟩ := Post.ofO p4
  cases v' <;> cases w' <;> simp only [revop, reduceCtorEq] at hu <;> try (cases hu; done)
  rename_i us i
  obtain ⟨A, xs, rfl, h1, h2⟩ := hv
  refine ⟨i, hw.int, A, xs, i, rfl, rfl, .inl h1, ?_⟩
  have f : Fin g.C φ2 H2 S2 u Q := fun φ' H' z x s r => p5 φ' H' z x s r
  by_cases hi : i = 1
  · rw [if_pos hi] at hu
    cases hu
    exact .inl ⟨hi, f.newL s2 h2⟩
  · rw [if_neg hi] at hu
    by_cases hj : i = -1
    · rw [if_pos hj] at hu
      cases hu
      exact .inr ⟨hj, f.newL s2 (Reps.rev h2)⟩
    · rw [if_neg hj] at hu; cases hu
theorem s_rngV (F : Fits g E T G ck k CX Wish X) (t : Bool) (hg : freeB T ck.sc (tyN t) = true) (hg2 : freeB T ck.sc "range" = true) (hm : mtE T a' ck a = true) (ha : PE X a (tE g E G a')) :
    PE X (.Call (.Name (tyN t) p) [.Call (.Name "range" p2) [a] [] pos2] [] pos) (tE g E G (.rngV t a')) := by
  obtain ⟨g1, _, _, g4⟩ := F.free hg
  obtain ⟨h1, _, _, h4⟩ := F.free hg2
  have key : ∀ σ H Q, tE g E G (.rngV t a') σ H Q → tRg1 (tE g E G a') σ H fun i j H1 => RgOk i j ∧ ∀ q, H1 q = none → Q (.ref q) (upd H1 q (if t then .tup (rgV i j) else .lst (rgV i j))) := fun σ H Q q => by
    obtain ⟨φ, S, env, hS, hE, q⟩ := q
    simp only [ev] at q
    refine (step (R := RepE g.C) hS hE q).mono fun x H1 n => ?_
    obtain ⟨φ1, S1, v, eq, e1, s1, en1, r1, p1⟩ := n
    cases v with
    | box n => exact p1.elim
    | fn n => exact p1.elim
    | p v =>
      cases v with
      | int j =>
        have r1 : Rep g.C.K φ1 H1 x (.int j) := r1
        cases r1
        dsimp only at p1
        by_cases hj : (small j && decide (j ≤ (Line : Nat))) = true
        · rw [if_pos hj] at p1
          unfold small at hj
          simp only [Bool.and_eq_true, decide_eq_true_eq] at hj
          obtain ⟨⟨j1, j2⟩, j3⟩ := hj
          have j4 : j ≤ 16777216 := j3
          refine ⟨j, rfl, ⟨by decide, by decide, j1, j2, by omega⟩, fun A hA => ?_⟩
          have e : ∀ φ H, Reps g.C.K φ H (rgV 0 j) (rngL 0 j) := fun φ H => by
            unfold rgV rngL
            refine Reps.of_get (by simp) fun i x v h1 h2 => ?_
            rw [List.getElem?_map] at h1 h2
            cases hr : (List.range (j - 0).toNat)[i]? with
            | none => rw [hr] at h1; cases h1
            | some m => rw [hr] at h1 h2; cases h1; cases h2; exact .int _
          cases t with
          | true =>
            have f : Fin g.C φ1 H1 S1 (.tup (rngL 0 j)) Q := fun φ' H' z x s r => p1 φ' H' z x s r
            exact f.newT s1 (e _ _) A hA
          | false =>
            have f : Fin g.C φ1 H1 S1 (.lst (rngL 0 j)) Q := fun φ' H' z x s r => p1 φ' H' z x s r
            exact f.newL s1 (e _ _) A hA
        · rw [if_neg hj] at p1; exact p1.elim
      | _ => exact p1.elim
  cases t with
  | true => exact PE.imp (pe_tupRg F.calm g1 g4 (prg_1 h1 h4 ha (mtE_star hm)) rfl) fun σ H Q q => key σ H Q q
  | false => exact PE.imp (pe_listRg F.calm g1 g4 (prg_1 h1 h4 ha (mtE_star hm)) rfl) fun σ H Q q => key σ H Q q
theorem s_newDL (F : Fits g E T G ck k CX Wish X) (hg : freeB T ck.sc "dict" = true) (hm : mtE T a' ck a = true) (ha : PE X a (tE g E G a')) : PE X (.Call (.Name "dict" p) [a] [] pos) (tE g E G (.newDL a')) := by
  obtain ⟨g1, g2, g3, g4⟩ := F.free hg
  refine PE.imp (pe_callTy (call_dl F.hX F.calm) g1 g4 (blt_boot .dict) (pa_cons ha pa_nil (mtE_star hm)) g3 g2 (mtE_star hm) rfl) fun σ H Q q => ?_
  obtain ⟨φ, S, env, hS, hE, q⟩ := q
  simp only [ev] at q
  refine (step (R := RepE g.C) hS hE q).mono fun x H1 n => ?_
  obtain ⟨φ1, S1, v, eq, e1, s1, en1, r1, p1⟩ := n
  obtain ⟨v', hv, p3⟩ := Post.rd s1 r1 p1
  cases v' with
  | lst ws =>
    dsimp only at p3
    cases hw : prsOf ws with
    | none => rw [hw] at p3; exact p3.elim
    | some l =>
      rw [hw] at p3
      dsimp only at p3
      by_cases hb : keysB false l = true
      · rw [if_pos hb] at p3
        refine ⟨φ1, S1, x, ws, l, rfl, s1, hv, hw, hb, fun A o hA hc => ?_⟩
        obtain ⟨e2, s2⟩ := s1.boxO (o := o) (c0 := .dct false (mergeD [] [] l).1 (mergeD [] [] l).2) hA hc (by simp)
        refine p3 _ _ _ e2 s2 ⟨?_, fun a q => ?_⟩
        · show S1.length < (φ1.box ++ [some A]).length
          rw [List.length_append, s1.len]; simp
        · have q' : (φ1.box ++ [some A])[S1.length]? = some (some a) := q
          rw [← s1.len] at q'
          simp at q'
          rw [q']
      · rw [if_neg hb] at p3; exact p3.elim
  | _ => exact p3.elim
end
end Ip

set_option Elab.async false
set_option linter.all false
set_option maxRecDepth 100000
set_option maxHeartbeats 4000000
/-! Ip, part 12: what is walked. -/
namespace Ip
open PySem L2 PySem.Spec PyProof.Rows

section
variable {X : Cx} {pins : List (Addr × Obj)} {σ : L2.St} {H : Hp} {s : Shared} {tg : Expr} {R : It → Hp → Prop} {a : Addr} {xs : List V}
theorem it_new (I : Inv X pins σ H s) (J : It) (tn : Nat → Heap → Prop) (o : Obj) (T : Turn X.prog X.w X.K tg J [s.heap.objs.size] s.heap.objs.size tn) (t0 : tn 0 (s.heap.push o)) (q : R J H) : PIE X pins σ tg R (.ref s.heap.objs.size) { s with heap := s.heap.push o } :=
  ⟨_, _, tn, J, H, rfl, I.kept (t' := s.toks) (fun _ _ z => Heap.get?_push_of_some _ z), T, t0, fun b m => (List.mem_singleton.mp m) ▸ I.fpOk (Nat.le_refl _) (I.hok.fresh (Nat.le_refl _)), q⟩
theorem it_list (I : Inv X pins σ H s) (hq : SqL X.K H a xs) (q : R (Itl X.K a) H) : wpAny (model X.prog X.w) X.A (pyIter (.ref a)) (PIE X pins σ tg R) X.xe s := by
  obtain ⟨us, _, pl, _⟩ := I.list hq
  exact wpAny_pyIter_list pl.isList (it_new I _ _ _ (turn_list a _) ⟨_, Heap.get?_push_size _ rfl, rfl, rfl⟩ q)
theorem it_tup (I : Inv X pins σ H s) (hq : SqT X.K H a xs) (q : R (Itt X.K a) H) : wpAny (model X.prog X.w) X.A (pyIter (.ref a)) (PIE X pins σ tg R) X.xe s := by
  obtain ⟨us, _, pl, _⟩ := I.tuple hq
  exact wpAny_pyIter_tuple (show s.heap.IsTuple a us.toArray from pl) (it_new I _ _ _ (turn_tuple a _) ⟨_, Heap.get?_push_size _ rfl, rfl, rfl⟩ q)
theorem it_str {x : Str} {t : Tok} (I : Inv X pins σ H s) (q : R (Its x) H) : wpAny (model X.prog X.w) X.A (pyIter (.str x t)) (PIE X pins σ tg R) X.xe s := by
  cases ha : x.cps.all (· < 128) with
  | false => exact wpAny_pyIter_wide ha (it_new I _ _ _ (turn_str _ x t "str_iterator" (.inr rfl)) ⟨_, Heap.get?_push_size _ rfl, rfl, rfl⟩ q)
  | true => exact wpAny_pyIter_ascii ha (it_new I _ _ _ (turn_str _ x t "str_ascii_iterator" (.inl rfl)) ⟨_, Heap.get?_push_size _ rfl, rfl, rfl⟩ q)
/-- what a value gives when it is walked -/
def kIt (K : PySem.W.Frag) (x : V) (H : Hp) (R : It → Hp → Prop) : Prop :=
  (∃ a xs, x = .ref a ∧ SqL K H a xs ∧ R (Itl K a) H) ∨ (∃ a xs, x = .ref a ∧ SqT K H a xs ∧ R (Itt K a) H) ∨ ∃ z, x = .str z ∧ R (Its z) H
theorem pi_any {l : Expr} {tl : TE} (hl : PE X l tl) : PI X tg l (fun σ H R => tl σ H fun x H1 => kIt X.K x H1 R) := ⟨fun pins s σ H R I h => thn (hl.run pins s σ H _ I h) fun v s1 ⟨x, H1, I1, r1, q1⟩ => by
  rcases q1 with ⟨a, xs, rfl, h1, h2⟩ | ⟨a, xs, rfl, h1, h2⟩ | ⟨z, rfl, h2⟩
  · cases r1; exact it_list I1 h1 h2
  · cases r1; exact it_tup I1 h1 h2
  · obtain ⟨t, rfl⟩ := r1; exact it_str I1 h2⟩
theorem PI.imp {tg e : Expr} {t t' : TI} (h : PI X tg e t) (i : ∀ σ H Q, t' σ H Q → t σ H Q) : PI X tg e t' := ⟨fun pins s σ H R I q => h.run pins s σ H R I (i _ _ _ q)⟩
end
/-! enumerate of a tuple -/
/-- each item of the tuple at a in a new pair with its place -/
def ItE (K : PySem.W.Frag) (a : Addr) : It :=
  ⟨fun i H => ∃ (xs : List V) (x : V), SqT K H a xs ∧ xs[i]? = some x, fun i H v H' => ∃ P x, v = .ref P ∧ H P = none ∧ H' = upd H P (.tup [.int (i : Nat), x]) ∧ ∀ ys, SqT K H a ys → ys[i]? = some x,
    fun i H => ∃ xs : List V, SqT K H a xs ∧ xs.length = i⟩
theorem turn_enumT {P : Program} {w : World} {K : PySem.W.Frag} {elts : List Expr} {kk : Nat} {tpos : Pos} (a e it : Addr) (hai : a ≠ it) (hae : a ≠ e) :
    Turn P w K (.Tuple elts kk tpos) (ItE K a) [e, it] e (fun i h => (∃ old, IsEnum h e it ((i : Nat) : Int) old) ∧ h.IsTupleIter it a i ∧ e ≠ it) where
  mem := List.mem_cons_self
  obj := by
    intro i h st b hb
    obtain ⟨⟨old, he⟩, ⟨o, h1, h2, h3⟩, _⟩ := st
    rcases List.mem_cons.mp hb with rfl | hb
    · exact ⟨_, he, fun v z => nomatch z⟩
    · cases List.mem_singleton.mp hb
      exact ⟨o, h1, fun v z => by rw [h3] at z; cases z⟩
  keep := by
    intro i h h' st k
    obtain ⟨⟨old, he⟩, h2, h3⟩ := st
    exact ⟨⟨old, k e List.mem_cons_self _ he⟩, h2.at fun o z => k it (by simp) o z, h3⟩
  item := by
    intro X hP hw hK hc i pins s σ H E I hf st hg
    subst hP hw hK
    obtain ⟨⟨old, he⟩, hit, hne⟩ := st
    obtain ⟨xs, x, hq, hx⟩ := hg
    obtain ⟨us, rv, pt, hz⟩ := I.tuple hq
    obtain ⟨u, hu, ru⟩ := rv.get hx
    have el : e < s.heap.objs.size := Heap.lt_size he
    have il : it < s.heap.objs.size := by obtain ⟨_, z, _⟩ := hit; exact Heap.lt_size z
    have hi : i < us.toArray.size := by
      obtain ⟨z, _⟩ := List.getElem?_eq_some_iff.mp hu
      simpa using z
    have D := Draws.tuple (prog := X.prog) (w := X.w) (A := X.A.in1) (show X.A.in1.handled = none from I.ok.hd hc) it a hai us.toArray
    refine wpAny_pyNext_enum_itemD D he ⟨hit, pt⟩ hi hne (by simp [hne, Ne.symm hae]) fun y h1 tk hy ho st1 hT hs hk => ?_
    have ey : y = u := by
      have z : us[i]? = some y := by simpa using hy
      rw [hu] at z
      exact (Option.some.inj z).symm
    subst ey
    refine ⟨_, rfl, wpAny_letOwnedTupleGo_enum (s := { s with heap := h1, toks := tk + 1 }) ho fun h2 he2 sb => ?_⟩
    have eT : h2.get? s.heap.objs.size = some { cls := .type "tuple", data := .seq #[.int i tk, y] } := (sb.2 _ (Nat.ne_of_gt el)).trans hT
    have nT : ObjOk X.prog X.w (upd H s.heap.objs.size (.tup [.int (i : Nat), x])) h2 s.heap.objs.size (.tup [.int (i : Nat), x]) := ⟨(by decide : 2 ≤ sizeLine), [.int i tk, y], .cons ⟨tk, rfl⟩ (.cons ru .nil), ⟨_, eT, rfl, 0, rfl⟩⟩
    have I1 : Inv X pins σ (upd H s.heap.objs.size (.tup [.int (i : Nat), x])) { s with heap := h2, toks := tk + 1 } := by
      refine I.turnedNew (ch := [e, it]) (fun b o hb z => ?_) hf (Nat.le_refl _) nT
      have b1 : b ≠ e := fun z => hb (z ▸ List.mem_cons_self)
      have b2 : b ≠ it := fun z => hb (z ▸ List.mem_cons_of_mem _ List.mem_cons_self)
      exact (sb.2 b b1).trans (hk b o b1 b2 z)
    refine ⟨.ref s.heap.objs.size, _, I1, rfl, ⟨_, x, rfl, I.hok.fresh (Nat.le_refl _), rfl, fun ys hy => by rw [I.tuple_inj hy hq]; exact hx⟩, ⟨⟨y, ?_⟩, st1.1.at fun o z => (sb.2 it (Ne.symm hne)).trans z, hne⟩, fun b hb => ?_⟩
    · rw [show ((i + 1 : Nat) : Int) = (i : Int) + 1 from by omega]
      exact he2
    · have lb : b < s.heap.objs.size := by
        rcases List.mem_cons.mp hb with rfl | hb
        · exact el
        · cases List.mem_singleton.mp hb; exact il
      rw [upd_ne (Nat.ne_of_lt lb)]
      exact (hf b hb).1
  done := by
    intro X hP hw hK hc i pins s σ H E I hf st hg
    subst hP hw hK
    obtain ⟨⟨old, he⟩, hit, hne⟩ := st
    obtain ⟨xs, hq, hx⟩ := hg
    obtain ⟨us, rv, pt, hz⟩ := I.tuple hq
    obtain ⟨f0, f1, f2, f3, f4, f5⟩ := hf it (by simp)
    have D := Draws.tuple (prog := X.prog) (w := X.w) (A := X.A.in1) (show X.A.in1.handled = none from I.ok.hd hc) it a hai us.toArray
    have hl := rv.length
    have hil : i = us.toArray.size := by simp only [List.size_toArray]; omega
    exact wpAny_pyNext_enum_endD D he ⟨hil ▸ hit, pt⟩ fun h1 eb => ⟨rfl, I.turned (t' := s.toks) (fun b o hb z => eb b o hb z) f0 f1 f3 f4 f5⟩
  self := fun A i s Q E st h => by
    obtain ⟨⟨old, he⟩, _⟩ := st
    exact wpAny_pyIter_enum he h
theorem enum_new1 {v : Value} {o : Obj} {P : Heap → Prop} (B : Begins v o P) :
    Meets (Builtin.«enumerate.__new__» ⟨[.type "enumerate", v], []⟩) (fun _ R s => P s.heap ∧
      R (.ok (.ret (.ref (s.heap.push o).objs.size))) { s with heap := (s.heap.push o).push { cls := .type "enumerate", data := .fields #[.none, .bool false, .ref s.heap.objs.size, rawInt 0, .none, .none] } }) :=
  .of_wp fun prog w A R s h => by
    obtain ⟨hp, gs, ds, tk, os⟩ := s
    obtain ⟨h1, h⟩ := h
    have hsub := sub_enumerate
    have go : ∀ {A1 : Around} {E1 : Value → Shared → Prop} {Q1 : Value → Shared → Prop}, Q1 (.ref hp.objs.size) ⟨hp.push o, gs, ds, tk, os⟩ → wpAny (model prog w) A1 (pyIter v) Q1 E1 ⟨hp, gs, ds, tk, os⟩ := fun z => B.iter prog w _ _ ⟨hp, gs, ds, tk, os⟩ _ h1 z
    wp_walk using go
    refine wpAny_stack_any fun st => wpAny_pure ?_
    split
    · rename_i c1 _ _ _ _ _
      cases (c1 == Value.type "enumerate") <;> (wp_walk using go; exact ⟨_, rfl, h⟩)
    · wp_walk using go
      exact ⟨_, rfl, h⟩
theorem enum_call1 {prog : Program} {w : World} {A : Around} {E : Value → Shared → Prop} {s : Shared} {v : Value} {o : Obj} {P : Heap → Prop} {Q : Value → Shared → Prop} (B : Begins v o P) (h1 : P s.heap)
    (h : ∀ h', IsEnum h' (s.heap.objs.size + 1) s.heap.objs.size 0 .none → h'.get? s.heap.objs.size = some o → (∀ b o, s.heap.get? b = some o → h'.get? b = some o) → Q (.ref (s.heap.objs.size + 1)) { s with heap := h' }) :
    wpAny (model prog w) A (call (.type "enumerate") [v]) Q E s := by
  have sz : (s.heap.push o).objs.size = s.heap.objs.size + 1 := Heap.size_push ..
  refine callType_new F.called_enumerate (by decide) (F.typeCall_enumerate_1 _) (F.newCall_enumerate_1 _) (fun obj => F.args_object_init_2 obj _) F.entry_enumerate_new (enum_new1 B) ⟨h1, ?_⟩
  show _ ∧ _
  rw [sz]
  have he := Heap.get?_push_size (s.heap.push o) (o := { cls := .type "enumerate", data := .fields #[.none, .bool false, .ref s.heap.objs.size, rawInt 0, .none, .none] }) rfl
  rw [sz] at he
  exact ⟨⟨_, he, rfl⟩, h _ he (Heap.get?_push_of_some _ (Heap.get?_push_size _ B.free)) fun b o x => Heap.get?_push_of_some _ (Heap.get?_push_of_some _ x)⟩
/-- what enumerate of a value gives when it is walked -/
def kEnum (K : PySem.W.Frag) (x : V) (H : Hp) (R : It → Hp → Prop) : Prop := (∃ a xs, x = .ref a ∧ SqL K H a xs ∧ R (Ite K a) H) ∨ ∃ a xs, x = .ref a ∧ SqT K H a xs ∧ R (ItE K a) H
section
variable {X : Cx} {e : Expr} {te : TE} {p pos tpos : Pos} {elts : List Expr} {kk : Nat}
theorem pi_enumR (hg : Gl X "enumerate") (hm : X.mg "enumerate" = none) (ha : PE X e te) (hs : starEach [e] X.env = [(false, eval e X.env)]) :
    PI X (.Tuple elts kk tpos) (.Call (.Name "enumerate" p) [e] [] pos) (fun σ H R => te σ H fun x H1 => kEnum X.K x H1 R) := by
  have ha1 : PA X [e] (tCons te tNil) := pa_cons ha pa_nil hs
  refine ⟨fun pins s σ H R I h => ?_⟩
  refine Call_ (ld_blt I hg hm boot_enumerate (PyProof.Rows.callWith_type1 (thn (ha1.run pos pins s σ H (fun vs H1 => match vs with | [x] => kEnum X.K x H1 R | _ => False) I h) fun us s1 ⟨vs, H1, I1, r1, q1⟩ => ?_) hs rfl))
  cases r1 with
  | nil => exact q1.elim
  | cons r rr =>
    cases rr with
    | cons _ _ => exact q1.elim
    | nil =>
      have fp : ∀ b, b ∈ [s1.heap.objs.size + 1, s1.heap.objs.size] → FpOk X pins H1 b := fun b hb => by
        have le : s1.heap.objs.size ≤ b := by
          rcases List.mem_cons.mp hb with rfl | hb
          · exact Nat.le_succ _
          · cases List.mem_singleton.mp hb; exact Nat.le_refl _
        exact I1.fpOk le (I1.hok.fresh le)
      rcases q1 with ⟨a, xs, rfl, hq, q⟩ | ⟨a, xs, rfl, hq, q⟩
      · cases r
        obtain ⟨us, rv, pl, _⟩ := I1.list hq
        refine enum_call1 (begins_list a us.toArray) pl.isList fun h' he hi hk => wpAny_pyIter_enum he ?_
        exact ⟨_, _, _, _, H1, rfl, I1.kept (t' := s1.toks) hk, turn_enum a (s1.heap.objs.size + 1) s1.heap.objs.size, ⟨⟨_, he⟩, ⟨_, hi, rfl, rfl⟩, Nat.succ_ne_self _⟩, fp, q⟩
      · cases r
        obtain ⟨us, rv, pl, _⟩ := I1.tuple hq
        obtain ⟨o, ho, _⟩ := id pl
        have al := Heap.lt_size ho
        refine enum_call1 (begins_tuple a us.toArray) (show s1.heap.IsTuple a us.toArray from pl) fun h' he hi hk => wpAny_pyIter_enum he ?_
        exact ⟨_, _, _, _, H1, rfl, I1.kept (t' := s1.toks) hk, turn_enumT a (s1.heap.objs.size + 1) s1.heap.objs.size (Nat.ne_of_lt al) (Nat.ne_of_lt (Nat.lt_succ_of_lt al)), ⟨⟨_, he⟩, ⟨_, hi, rfl, rfl⟩, Nat.succ_ne_self _⟩, fp, q⟩
end
end Ip

set_option Elab.async false
set_option linter.all false
set_option maxRecDepth 100000
set_option maxHeartbeats 4000000
/-! Ip, part 13: what is walked gives the items that the small language says. -/
namespace Ip
open PySem L2 PySem.Spec PyProof.Rows

/-- while nothing pure is touched, J yields these items, one after another -/
structure WalkP (C : RC) (J : It) (items : List PV) (φ : Ph) (H : Hp) : Prop where
  goes : ∀ i φ1 H1, i < items.length → Kp φ H φ1 H1 → J.go i H1
  stops : ∀ φ1 H1, Kp φ H φ1 H1 → J.stop items.length H1
  yields : ∀ i φ1 H1 S1 x H2 v, items[i]? = some v → Kp φ H φ1 H1 → RepS C φ1 H1 S1 → J.yld i H1 x H2 → Ext φ1 H1 φ1 H2 ∧ RepS C φ1 H2 S1 ∧ Rep C.K φ1 H2 x v
section
variable {C : RC} {φ φ' : Ph} {H H' : Hp} {a b : Addr} {xs ys : List V} {vs ws : List PV}
theorem WalkP.mono {J : It} {items : List PV} (w : WalkP C J items φ H) (e : Kp φ H φ' H') : WalkP C J items φ' H' :=
  ⟨fun i φ1 H1 h x => w.goes i φ1 H1 h (e.trans x), fun φ1 H1 x => w.stops φ1 H1 (e.trans x), fun i φ1 H1 S1 z H2 v h x s y => w.yields i φ1 H1 S1 z H2 v h (e.trans x) s y⟩
theorem PurL.sq (p : PurL φ H a xs) (K : PySem.W.Frag) : SqL K H a xs := .inl p.2
theorem Reps.lt {K : FK} {i : Nat} (r : Reps K φ H xs vs) (h : i < vs.length) : ∃ x, xs[i]? = some x := by
  obtain ⟨x, h1, _⟩ := r.get (List.getElem?_eq_getElem h)
  exact ⟨x, h1⟩
theorem walk_l (p : PurL φ H a xs) (r : Reps C.K φ H xs vs) : WalkP C (Itl C.K.K a) vs φ H where
  goes := fun i φ1 H1 h x => let ⟨y, hy⟩ := r.lt h; ⟨xs, y, (p.mono x).sq _, hy⟩
  stops := fun φ1 H1 x => ⟨xs, (p.mono x).sq _, Nat.le_of_eq r.length⟩
  yields := fun i φ1 H1 S1 y H2 v h x s q => by
    obtain ⟨rfl, q⟩ := q
    obtain ⟨z, h1, h2⟩ := r.get h
    have e := q xs ((p.mono x).sq _)
    rw [h1] at e
    cases e
    exact ⟨Ext.refl _ _, s, Rep.mono x _ _ h2⟩
theorem walk_t (p : PurT C.K φ H a xs) (r : Reps C.K φ H xs vs) : WalkP C (Itt C.K.K a) vs φ H where
  goes := fun i φ1 H1 h x => let ⟨y, hy⟩ := r.lt h; ⟨xs, y, (p.mono x).sq, hy⟩
  stops := fun φ1 H1 x => ⟨xs, (p.mono x).sq, Nat.le_of_eq r.length⟩
  yields := fun i φ1 H1 S1 y H2 v h x s q => by
    obtain ⟨rfl, q⟩ := q
    obtain ⟨z, h1, h2⟩ := r.get h
    have e := q xs (p.mono x).sq
    rw [h1] at e
    cases e
    exact ⟨Ext.refl _ _, s, Rep.mono x _ _ h2⟩
theorem signs_len (z : Str) : (signs z).length = z.cps.size := by simp [signs]
theorem walk_s {z : Str} (hz : strOk z) : WalkP C (Its z) (signs z) φ H where
  goes := fun i φ1 H1 h x => by rw [signs_len] at h; exact h
  stops := fun φ1 H1 x => Nat.le_of_eq (signs_len z).symm
  yields := fun i φ1 H1 S1 y H2 v h x s q => by
    obtain ⟨rfl, c, hc, rfl⟩ := q
    unfold signs at h
    rw [List.getElem?_map, Array.getElem?_toList, hc] at h
    cases h
    exact ⟨Ext.refl _ _, s, .str (strOk_sign hz (Array.mem_toList_iff.mpr (Array.mem_of_getElem? hc)))⟩
theorem rngL_len (i j : Int) : (rngL i j).length = (j - i).toNat := by simp [rngL]
theorem walk_r {i j : Int} : WalkP C (Itr i (j - i).toNat) (rngL i j) φ H where
  goes := fun k φ1 H1 h x => by rw [rngL_len] at h; exact h
  stops := fun φ1 H1 x => Nat.le_of_eq (rngL_len i j).symm
  yields := fun k φ1 H1 S1 y H2 v h x s q => by
    obtain ⟨rfl, rfl⟩ := q
    unfold rngL at h
    rw [List.getElem?_map] at h
    cases g : (List.range (j - i).toNat)[k]? with
    | none => rw [g] at h; cases h
    | some m =>
      rw [g] at h
      cases h
      have : m = k := by
        rw [List.getElem?_range (by
          have := (List.getElem?_eq_some_iff.mp g).1
          simpa using this)] at g
        exact (Option.some.inj g).symm
      subst this
      exact ⟨Ext.refl _ _, s, .int _⟩
theorem enumL_get : ∀ (vs : List PV) (n i : Nat), (enumL n vs)[i]? = vs[i]?.map fun v => .tup [.int ((n + i : Nat) : Int), v]
  | [], n, i => by simp [enumL]
  | v :: vs, n, 0 => by simp [enumL]
  | v :: vs, n, i + 1 => by
    simp only [enumL, List.getElem?_cons_succ]
    rw [enumL_get vs (n + 1) i]
    congr 1
    funext w
    rw [show n + 1 + i = n + (i + 1) from by omega]
theorem enumL_len : ∀ (vs : List PV) (n : Nat), (enumL n vs).length = vs.length
  | [], n => rfl
  | v :: vs, n => by simp [enumL, enumL_len vs (n + 1)]
theorem new_pair {S : Store} {T : Addr} {x y : V} {v w : PV} (s : RepS C φ H S) (hT : H T = none) (r1 : Rep C.K φ H x v) (r2 : Rep C.K φ H y w) : Ext φ H φ (upd H T (.tup [x, y])) ∧ RepS C φ (upd H T (.tup [x, y])) S ∧ Rep C.K φ (upd H T (.tup [x, y])) (.ref T) (.tup [v, w]) := by
  obtain ⟨np, e, s2⟩ := s.alloc (o := .tup [x, y]) hT
  exact ⟨e, s2, Rep.newT np (.cons (Rep.mono e _ _ r1) (.cons (Rep.mono e _ _ r2) .nil))⟩
theorem walk_el (p : PurL φ H a xs) (r : Reps C.K φ H xs vs) : WalkP C (Ite C.K.K a) (enumL 0 vs) φ H where
  goes := fun i φ1 H1 h x => by
    rw [enumL_len] at h
    obtain ⟨y, hy⟩ := r.lt h
    exact ⟨xs, y, (p.mono x).sq _, hy⟩
  stops := fun φ1 H1 x => ⟨xs, (p.mono x).sq _, by rw [enumL_len]; exact Nat.le_of_eq r.length⟩
  yields := fun i φ1 H1 S1 y H2 v h x s q => by
    obtain ⟨T, z, rfl, hT, rfl, q⟩ := q
    rw [enumL_get] at h
    cases g : vs[i]? with
    | none => rw [g] at h; cases h
    | some u =>
      rw [g] at h
      cases h
      obtain ⟨z', h1, h2⟩ := r.get g
      have e := q xs ((p.mono x).sq _)
      rw [h1] at e
      cases e
      rw [Nat.zero_add]
      exact new_pair s hT (.int _) (Rep.mono x _ _ h2)
theorem walk_et (p : PurT C.K φ H a xs) (r : Reps C.K φ H xs vs) : WalkP C (ItE C.K.K a) (enumL 0 vs) φ H where
  goes := fun i φ1 H1 h x => by
    rw [enumL_len] at h
    obtain ⟨y, hy⟩ := r.lt h
    exact ⟨xs, y, (p.mono x).sq, hy⟩
  stops := fun φ1 H1 x => ⟨xs, (p.mono x).sq, by rw [enumL_len]; exact r.length⟩
  yields := fun i φ1 H1 S1 y H2 v h x s q => by
    obtain ⟨T, z, rfl, hT, rfl, q⟩ := q
    rw [enumL_get] at h
    cases g : vs[i]? with
    | none => rw [g] at h; cases h
    | some u =>
      rw [g] at h
      cases h
      obtain ⟨z', h1, h2⟩ := r.get g
      have e := q xs (p.mono x).sq
      rw [h1] at e
      cases e
      rw [Nat.zero_add]
      exact new_pair s hT (.int _) (Rep.mono x _ _ h2)
theorem zipL_get : ∀ (vs ws : List PV) (i : Nat) (v : PV), (zipL vs ws)[i]? = some v → ∃ a b, vs[i]? = some a ∧ ws[i]? = some b ∧ v = .tup [a, b]
  | [], ws, i, v, h => by simp [zipL] at h
  | _ :: _, [], i, v, h => by simp [zipL] at h
  | a :: vs, b :: ws, 0, v, h => by simp [zipL] at h; exact ⟨a, b, rfl, rfl, h.symm⟩
  | a :: vs, b :: ws, i + 1, v, h => by
    simp only [zipL, List.getElem?_cons_succ] at h ⊢
    exact zipL_get vs ws i v h
theorem zipL_len : ∀ (vs ws : List PV), (zipL vs ws).length = min vs.length ws.length
  | [], ws => by simp [zipL]
  | _ :: _, [] => by simp [zipL]
  | a :: vs, b :: ws => by simp [zipL, zipL_len vs ws]
theorem walk_zl (p : PurL φ H a xs) (r : Reps C.K φ H xs vs) (p2 : PurL φ H b ys) (r2 : Reps C.K φ H ys ws) : WalkP C (Itz C.K.K a b) (zipL vs ws) φ H where
  goes := fun i φ1 H1 h x => by
    rw [zipL_len] at h
    obtain ⟨y, hy⟩ := r.lt (show i < vs.length by omega)
    obtain ⟨z, hz⟩ := r2.lt (show i < ws.length by omega)
    exact ⟨xs, ys, y, z, (p.mono x).sq _, (p2.mono x).sq _, hy, hz⟩
  stops := fun φ1 H1 x => by
    refine ⟨xs, ys, (p.mono x).sq _, (p2.mono x).sq _, ?_⟩
    rw [zipL_len, r.length, r2.length]
    omega
  yields := fun i φ1 H1 S1 y H2 v h x s q => by
    obtain ⟨T, z1, z2, rfl, hT, rfl, q1, q2⟩ := q
    obtain ⟨u1, u2, g1, g2, rfl⟩ := zipL_get _ _ _ _ h
    obtain ⟨y1, h1, k1⟩ := r.get g1
    obtain ⟨y2, h2, k2⟩ := r2.get g2
    have e1 := q1 xs ((p.mono x).sq _)
    have e2 := q2 ys ((p2.mono x).sq _)
    rw [h1] at e1
    rw [h2] at e2
    cases e1
    cases e2
    exact new_pair s hT (Rep.mono x _ _ k1) (Rep.mono x _ _ k2)
theorem walk_zt (p : PurT C.K φ H a xs) (r : Reps C.K φ H xs vs) (p2 : PurT C.K φ H b ys) (r2 : Reps C.K φ H ys ws) : WalkP C (RZ.ItzT C.K.K a b) (zipL vs ws) φ H where
  goes := fun i φ1 H1 h x => by
    rw [zipL_len] at h
    obtain ⟨y, hy⟩ := r.lt (show i < vs.length by omega)
    obtain ⟨z, hz⟩ := r2.lt (show i < ws.length by omega)
    exact ⟨xs, ys, y, z, (p.mono x).sq, (p2.mono x).sq, hy, hz⟩
  stops := fun φ1 H1 x => by
    refine ⟨xs, ys, (p.mono x).sq, (p2.mono x).sq, ?_⟩
    rw [zipL_len, r.length, r2.length]
    omega
  yields := fun i φ1 H1 S1 y H2 v h x s q => by
    obtain ⟨T, z1, z2, rfl, hT, rfl, q1, q2⟩ := q
    obtain ⟨u1, u2, g1, g2, rfl⟩ := zipL_get _ _ _ _ h
    obtain ⟨y1, h1, k1⟩ := r.get g1
    obtain ⟨y2, h2, k2⟩ := r2.get g2
    have e1 := q1 xs (p.mono x).sq
    have e2 := q2 ys (p2.mono x).sq
    rw [h1] at e1
    rw [h2] at e2
    cases e1
    cases e2
    exact new_pair s hT (Rep.mono x _ _ k1) (Rep.mono x _ _ k2)
end
abbrev tIt (g : Gc) (E : EX) (G : Nat → List EV → M EV) (it : Itx) : TI := tM g.C E (fun φ H J items => WalkP g.C J items φ H) fun env => evIt G it env
section
variable {g : Gc} {E : EX} {T : Tb} {G : Nat → List EV → M EV} {ck : Ck} {k : Nat} {CX : CXT} {Wish : XK} {X : Cx}
variable {e a b c tg : Expr} {a' b' c' : Ex} {pos p tpos : Pos}
/-- what a value gives when it is walked, dicts too -/
def kItD (X : Cx) (K : FK) (x : V) (H : Hp) (R : It → Hp → Prop) : Prop :=
  kIt X.K x H R ∨ ∃ φ n ks vs, VR K φ H x (.dct n ks vs) ∧ ∀ a es ep kx, x = .ref a → (∃ o, L2.Rd H a o ∧ HasRaw X.prog X.w o a es ep) → Reps K φ H kx ks → R (ItD X.prog X.w a es ep kx) H
theorem pi_anyD {l : Expr} {tl : TE} {K : FK} (hX : KX X K) (hl : PE X l tl) : PI X tg l (fun σ H R => tl σ H fun x H1 => kItD X K x H1 R) := ⟨fun pins s σ H R I h => thn (hl.run pins s σ H _ I h) fun v s1 ⟨x, H1, I1, r1, q1⟩ => by
  rcases q1 with (⟨a, xs, rfl, h1, h2⟩ | ⟨a, xs, rfl, h1, h2⟩ | ⟨z, rfl, h2⟩) | ⟨φ, n, ks, vs, hx, h2⟩
  · cases r1; exact it_list I1 h1 h2
  · cases r1; exact it_tup I1 h1 h2
  · obtain ⟨t, rfl⟩ := r1; exact it_str I1 h2
  · obtain ⟨a, kx, es, ep, rfl, d⟩ := dct_raw I1 hX hx
    cases r1
    exact it_dct I1 d (h2 a es ep kx rfl d.there d.rep)⟩
theorem walk_d {C : RC} {φ : Ph} {H : Hp} {P : Program} {w : World} {a : Addr} {es : Array DictEntry} {ep : Nat} {kx : List V} {ks : List PV} (na : ¬ φ.has a) (ho : ∃ o, L2.Rd H a o ∧ HasRaw P w o a es ep) (r : Reps C.K φ H kx ks) : WalkP C (ItD P w a es ep kx) ks φ H where
  goes := fun i φ1 H1 h x => by
    obtain ⟨o, h1, h2⟩ := ho
    exact ⟨⟨o, (Rd_kept x.kept na h1).2, h2⟩, by rw [r.length]; exact h⟩
  stops := fun φ1 H1 x => by
    obtain ⟨o, h1, h2⟩ := ho
    exact ⟨⟨o, (Rd_kept x.kept na h1).2, h2⟩, Nat.le_of_eq r.length⟩
  yields := fun i φ1 H1 S1 y H2 v h x s q => by
    obtain ⟨rfl, q⟩ := q
    obtain ⟨z, h1, h2⟩ := r.get h
    rw [h1] at q
    cases q
    exact ⟨Ext.refl _ _, s, Rep.mono x _ _ h2⟩
theorem i_seq (F : Fits g E T G ck k CX Wish X) (ha : PE X a (tE g E G a')) : PI X tg a (tIt g E G (.seq a')) := PI.imp (pi_anyD F.hX ha) fun σ H Q q => by
  obtain ⟨φ, S, env, hS, hE, q⟩ := q
  simp only [evIt] at q
  refine (step (R := RepE g.C) hS hE q).mono fun x H1 n => ?_
  obtain ⟨φ1, S1, v, eq, e1, s1, en1, r1, p1⟩ := n
  obtain ⟨w, hw, p2⟩ := Post.ofO p1
  have p2' : Post g.C E (fun φ H J items => WalkP g.C J items φ H) φ1 H1 (M.bind (ofO (itemsOf w)) M.pure S1) Q := Post.done p2
  obtain ⟨items, hi, p3⟩ := Post.ofO p2'
  cases v with
  | box n => cases hw
  | fn n => cases hw
  | p v0 =>
    cases hw
    have p4 := fun J (h : WalkP g.C J items φ1 H1) => p3 φ1 H1 J (Ext.refl _ _) s1 h
    have r1 : Rep g.C.K φ1 H1 x w := r1
    have hk : X.K = g.C.K.K := F.hX.k
    cases r1 <;> simp only [itemsOf, reduceCtorEq] at hi <;> try (cases hi; done)
    · rename_i h
      cases hi
      exact .inl (.inr (.inr ⟨_, rfl, p4 _ (walk_s h)⟩))
    · rename_i h1 h2
      cases hi
      refine .inl ?_
      rw [hk]
      exact .inl ⟨_, _, rfl, h1.sq _, p4 _ (walk_l h1 h2)⟩
    · rename_i h1 h2
      cases hi
      refine .inl ?_
      rw [hk]
      exact .inr (.inl ⟨_, _, rfl, h1.sq, p4 _ (walk_t h1 h2)⟩)
    · rename_i na h1 h2 h3
      cases hi
      refine .inr ⟨φ1, false, _, _, ⟨_, _, _, _, rfl, h1, h2, h3⟩, fun a es ep kx e ho rk => ?_⟩
      cases e
      exact p4 _ (walk_d na ho rk)
    · rename_i na h1 h2 h3 h4
      cases hi
      refine .inr ⟨φ1, true, _, _, ⟨_, _, _, _, rfl, h1, h2, h3, h4⟩, fun a es ep kx e ho rk => ?_⟩
      cases e
      exact p4 _ (walk_d na ho rk)
theorem small_iff {i : Int} : small i = true ↔ -(2 ^ 62) ≤ i ∧ i < 2 ^ 62 := by
  unfold small
  simp only [Bool.and_eq_true, decide_eq_true_eq]
theorem i_rng1 (F : Fits g E T G ck k CX Wish X) (hg : freeB T ck.sc "range" = true) (hm : mtE T a' ck a = true) (ha : PE X a (tE g E G a')) : PI X tg (.Call (.Name "range" p) [a] [] pos) (tIt g E G (.rng1 a')) := by
  obtain ⟨g1, g2, g3, g4⟩ := F.free hg
  refine PI.imp (pi_range1 g1 g4 (pa_cons ha pa_nil (mtE_star hm)) (mtE_star hm)) fun σ H Q q => ?_
  obtain ⟨φ, S, env, hS, hE, q⟩ := q
  simp only [evIt] at q
  refine (step (R := RepE g.C) hS hE q).mono fun x H1 n => ?_
  obtain ⟨φ1, S1, v, eq, e1, s1, en1, r1, p1⟩ := n
  cases v with
  | p v =>
    cases v with
    | int j =>
      cases (show Rep g.C.K φ1 H1 x (.int j) from r1)
      dsimp only at p1
      by_cases hj : small j = true
      · rw [if_pos hj] at p1
        obtain ⟨j1, j2⟩ := small_iff.mp hj
        refine ⟨j, rfl, j1, j2, p1 φ1 H1 _ (Ext.refl _ _) s1 ?_⟩
        have := walk_r (C := g.C) (φ := φ1) (H := H1) (i := 0) (j := j)
        rw [Int.sub_zero] at this
        exact this
      · rw [if_neg hj] at p1; exact p1.elim
    | _ => exact p1.elim
  | _ => exact p1.elim
theorem i_rng2 (F : Fits g E T G ck k CX Wish X) (hg : freeB T ck.sc "range" = true) (hm : mtE T a' ck a = true) (hm2 : mtE T b' ck b = true) (ha : PE X a (tE g E G a')) (hb : PE X b (tE g E G b')) : PI X tg (.Call (.Name "range" p) [a, b] [] pos) (tIt g E G (.rng2 a' b')) := by
  obtain ⟨g1, g2, g3, g4⟩ := F.free hg
  refine PI.imp (pi_range2 g1 g4 (pa_cons ha (pa_cons hb pa_nil (mtE_star hm2)) (mtE_star hm)) (by rw [mtE_star hm, mtE_star hm2]; rfl) (mtE_star hm2)) fun σ H Q q => ?_
  obtain ⟨φ, S, env, hS, hE, q⟩ := q
  simp only [evIt] at q
  refine (step (R := RepE g.C) hS hE q).mono fun x H1 n => ?_
  obtain ⟨φ1, S1, v, eq, e1, s1, en1, r1, p1⟩ := n
  refine (step (R := RepE g.C) s1 en1 p1).mono fun y H2 n2 => ?_
  obtain ⟨φ2, S2, w, eq2, e2, s2, en2, r2, p2⟩ := n2
  cases v with
  | p v =>
    cases v with
    | int i =>
      cases w with
      | p w =>
        cases w with
        | int j =>
          cases (show Rep g.C.K φ1 H1 x (.int i) from r1)
          cases (show Rep g.C.K φ2 H2 y (.int j) from r2)
          dsimp only at p2
          by_cases hj : (small i && small j) = true
          · rw [if_pos hj] at p2
            rw [Bool.and_eq_true] at hj
            obtain ⟨i1, i2⟩ := small_iff.mp hj.1
            obtain ⟨j1, j2⟩ := small_iff.mp hj.2
            exact ⟨i, j, rfl, ⟨i1, i2, j1, j2⟩, p2 φ2 H2 _ (Ext.refl _ _) s2 walk_r⟩
          · rw [if_neg hj] at p2; exact p2.elim
        | _ => exact p2.elim
      | _ => exact p2.elim
    | _ => cases w <;> exact p2.elim
  | _ => cases w <;> exact p2.elim
theorem i_enum (F : Fits g E T G ck k CX Wish X) {elts : List Expr} {kk : Nat} (hg : freeB T ck.sc "enumerate" = true) (hm : mtE T a' ck a = true) (ha : PE X a (tE g E G a')) : PI X (.Tuple elts kk tpos) (.Call (.Name "enumerate" p) [a] [] pos) (tIt g E G (.enum a')) := by
  obtain ⟨g1, g2, g3, g4⟩ := F.free hg
  refine PI.imp (pi_enumR g1 g4 ha (mtE_star hm)) fun σ H Q q => ?_
  obtain ⟨φ, S, env, hS, hE, q⟩ := q
  simp only [evIt] at q
  refine (step (R := RepE g.C) hS hE q).mono fun x H1 n => ?_
  obtain ⟨φ1, S1, v, eq, e1, s1, en1, r1, p1⟩ := n
  obtain ⟨w, hw, p2⟩ := Post.ofO p1
  cases v with
  | box n => cases hw
  | fn n => cases hw
  | p v =>
    cases hw
    have r1 : Rep g.C.K φ1 H1 x w := r1
    rw [show X.K = g.C.K.K from F.hX.k]
    cases r1 with
    | lst h1 h2 => exact .inl ⟨_, _, rfl, h1.sq _, p2 φ1 H1 _ (Ext.refl _ _) s1 (walk_el h1 h2)⟩
    | tup h1 h2 => exact .inr ⟨_, _, rfl, h1.sq, p2 φ1 H1 _ (Ext.refl _ _) s1 (walk_et h1 h2)⟩
    | _ => exact p2.elim
theorem i_zip (F : Fits g E T G ck k CX Wish X) {elts : List Expr} {kk : Nat} (hg : freeB T ck.sc "zip" = true) (hm : mtE T a' ck a = true) (hm2 : mtE T b' ck b = true) (ha : PE X a (tE g E G a')) (hb : PE X b (tE g E G b')) :
    PI X (.Tuple elts kk tpos) (.Call (.Name "zip" p) [a, b] [] pos) (tIt g E G (.zip a' b')) := by
  obtain ⟨g1, g2, g3, g4⟩ := F.free hg
  refine PI.imp (RZ.pi_zipA g1 g4 (pa_cons ha (pa_cons hb pa_nil (mtE_star hm2)) (mtE_star hm)) (mtE_star hm) (by rw [mtE_star hm2]; rfl)) fun σ H Q q => ?_
  obtain ⟨φ, S, env, hS, hE, q⟩ := q
  simp only [evIt] at q
  refine (step (R := RepE g.C) hS hE q).mono fun x H1 n => ?_
  obtain ⟨φ1, S1, v, eq, e1, s1, en1, r1, p1⟩ := n
  refine (step (R := RepE g.C) s1 en1 p1).mono fun y H2 n2 => ?_
  obtain ⟨φ2, S2, w, eq2, e2, s2, en2, r2, p2⟩ := n2
  obtain ⟨v', hv, p3⟩ := Post.ofO p2
  obtain ⟨w', hw, p4⟩ := Post.ofO p3
  cases v with
  | box n => cases hv
  | fn n => cases hv
  | p v0 =>
    cases w with
    | box n => cases hw
    | fn n => cases hw
    | p w0 =>
      cases hv
      cases hw
      have r1 : Rep g.C.K φ2 H2 x v' := Rep.mono e2 _ _ r1
      have r2 : Rep g.C.K φ2 H2 y w' := r2
      rw [show X.K = g.C.K.K from F.hX.k]
      cases r1 with
      | lst h1 h2 =>
        cases r2 with
        | lst k1 k2 => exact ⟨_, _, _, _, rfl, .inl ⟨h1.sq _, k1.sq _, p4 φ2 H2 _ (Ext.refl _ _) s2 (walk_zl h1 h2 k1 k2)⟩⟩
        | _ => exact p4.elim
      | tup h1 h2 =>
        cases r2 with
        | tup k1 k2 => exact ⟨_, _, _, _, rfl, .inr ⟨h1.sq, k1.sq, p4 φ2 H2 _ (Ext.refl _ _) s2 (walk_zt h1 h2 k1 k2)⟩⟩
        | _ => exact p4.elim
      | _ => cases r2 <;> exact p4.elim
end
end Ip

set_option Elab.async false
set_option linter.all false
set_option maxRecDepth 100000
set_option maxHeartbeats 4000000
/-! Ip, part 13b: methods. -/
namespace Ip
open PySem L2 PySem.Spec PyProof.Rows
section
variable {g : Gc} {E : EX} {T : Tb} {G : Nat → List EV → M EV} {ck : Ck} {k : Nat} {CX : CXT} {Wish : XK} {X : Cx}
theorem base_ok {x : Expr} (h : baseB x = true) (n : Str) (env : PySem.Env) : attributeBase x n env (eval x env) = eval x env := by
  unfold attributeBase
  split
  · simp [baseB] at h
  · rfl
/-- a list that changes is given another content -/
theorem RepS.writeO {C : RC} {φ : Ph} {H : Hp} {S : Store} {n : Nat} {a : Addr} {c c2 : Cell} {o : HO} (h : RepS C φ H S) (hb : φ.box[n]? = some (some a)) (hn : S[n]? = some c) (hd : c2 ≠ .dead) (r : CellOk C.K φ (upd H a o) a c2) :
    Ext φ H φ (upd H a o) ∧ RepS C φ (upd H a o) (S.set n c2) := by
  have ha : φ.has a := .inl (List.mem_of_getElem? hb)
  have k : Kp φ H φ (upd H a o) := ⟨Nat.le_refl _, fun _ _ _ q => q, fun b u q m => ⟨m, by rw [upd_ne (fun z : b = a => m (by rw [z]; exact ha))]; exact q⟩⟩
  have hlt : n < S.length := (List.getElem?_eq_some_iff.mp hn).1
  refine ⟨⟨Nat.le_refl _, fun _ m => m, fun _ _ _ q => q, fun b m q => absurd m q, fun b u q m => (k.kept b u q m).2, fun b m => upd_ne fun z => h.disj n a hb (by rw [← z]; exact m)⟩, by rw [h.len, List.length_set], fun m d q => ?_, h.inj, fun b m => ?_, fun m b q => ?_, h.disj⟩
  · by_cases e : n = m
    · subst e
      rw [List.getElem?_set_self hlt] at q
      cases q
      exact .inr ⟨a, hb, r⟩
    · rw [List.getElem?_set_ne e] at q
      rcases h.cell m d q with r0 | ⟨b, g1, g2⟩
      · exact .inl r0
      · exact .inr ⟨b, g1, g2.keep k.kept fun u z => by rw [upd_ne (fun z : b = a => e (h.inj n m a hb (by rw [← z]; exact g1)))]; exact z⟩
  · by_cases e : b = a
    · subst e; rw [upd_same]; simp
    · rw [upd_ne e]; exact h.there b m
  · by_cases e : n = m
    · subst e; rw [List.getElem?_set_self hlt]; simpa using hd
    · rw [List.getElem?_set_ne e]; exact h.live m b q
theorem RepS.write {C : RC} {φ : Ph} {H : Hp} {S : Store} {n : Nat} {a : Addr} {c : Cell} {xs : List V} {vs : List PV} (h : RepS C φ H S) (hb : φ.box[n]? = some (some a)) (hn : S[n]? = some c) (r : Reps C.K φ H xs vs) :
    Ext φ H φ (upd H a (.lst xs)) ∧ RepS C φ (upd H a (.lst xs)) (S.set n (.lst vs)) :=
  h.writeO hb hn (by simp) ⟨xs, upd_same, Reps.keep (upd_kpt (.inl (List.mem_of_getElem? hb))) _ _ r⟩
theorem s_append (F : Fits g E T G ck k CX Wish X) {x : Expr} {n : Str} {apos cpos : Pos} {y : Expr} {o' : Ex} {es' : List Ex} (ho : PE X x (tE g E G o')) (hb : baseB x = true) (hn : n = ("append" : Str)) (hl : apos.endLine = cpos.line) (hm : mtEs T es' ck [y] = true) (ha : PA X [y] (tA g E G es')) :
    PE X (.Call (.Attribute x n apos) [y] [] cpos) (tE g E G (.meth .append o' es')) := by
  subst hn
  obtain ⟨y', rfl⟩ : ∃ y', es' = [y'] := by
    have := mtEs_len hm
    match es', this with
    | [y'], _ => exact ⟨y', rfl⟩
  have hmy : mtE T y' ck y = true := by
    simp only [mtEs, Bool.and_eq_true] at hm; exact hm.1
  refine PE.imp (pe_bm PySem.F.plainAttrs_list PySem.F.slot_list_append PySem.F.type_list_append mt_append ho ha (base_ok hb _ _) (by rw [mtE_star hmy]; rfl) (by simp [hl]) (mtE_star hmy) (by rfl)) fun σ H Q q => ?_
  obtain ⟨φ, S, env, hS, hE, q⟩ := q
  simp only [ev] at q
  refine (step (R := RepE g.C) hS hE q).mono fun x H1 n => ?_
  obtain ⟨φ1, S1, v, eq, e1, s1, en1, r1, p1⟩ := n
  cases v with
  | p v => exact p1.elim
  | fn f => exact p1.elim
  | box n =>
    obtain ⟨us, hn, p2⟩ : ∃ us, S1[n]? = some (.lst us) ∧ Post g.C E (RepE g.C) φ1 H1 (M.bind (evs G [y'] env) (fun vs => M.bind (ofO (pures vs)) fun xs => methop .append (.box n) xs) S1) Q := by
      change Post g.C E (RepE g.C) φ1 H1 (M.bind (chkM .append (.box n)) (fun _ => M.bind (evs G [y'] env) (fun vs => M.bind (ofO (pures vs)) fun xs => methop .append (.box n) xs)) S1) Q at p1
      unfold M.bind chkM at p1
      dsimp only at p1
      split at p1
      · rename_i heq
        split at heq
        · rename_i us hus
          cases heq
          exact ⟨us, hus, p1⟩
        · cases heq
      · cases (show False from by rename_i heq; split at heq <;> cases heq)
      · exact p1.elim
    rcases s1.cell n _ hn with d | ⟨a, h1, xs, h2, h3⟩
    · cases d
    have hx := r1.2 a h1
    subst hx
    refine ⟨.inl ⟨rfl, xs, .inl (.inl h2)⟩, ?_⟩
    refine (step (R := RepEs g.C) s1 en1 p2).mono fun vs H2 n2 => ?_
    obtain ⟨φ2, S2, ws, eq2, e2, s2, en2, r2, p3⟩ := n2
    obtain ⟨zs, hz, p4⟩ := Post.ofO p3
    have rr := pures_rep r2 hz
    have hlen := evs_len eq2
    obtain ⟨z, rfl⟩ : ∃ z, zs = [z] := by
      have e1 := r2.length
      have e2 := rr.length
      match zs, (show zs.length = 1 by rw [← e2, e1, hlen]; rfl) with
      | [z], _ => exact ⟨z, rfl⟩
    cases rr with
    | cons ry rn =>
      cases rn
      unfold methop at p4
      dsimp only at p4
      cases hq : S2[n]? with
      | none => rw [hq] at p4; exact p4.elim
      | some c =>
        rw [hq] at p4
        cases c with
        | dct _ _ _ => exact p4.elim
        | dead => exact p4.elim
        | lst cs =>
          dsimp only at p4
          by_cases hl : cs.length < Line
          · rw [if_pos hl] at p4
            rcases s2.cell n _ hq with d | ⟨b, k1, ys, k2, k3⟩
            · cases d
            have hb : b = a := by
              have := e2.old n b r1.1 k1
              rw [h1] at this
              cases this
              rfl
            subst hb
            obtain ⟨e3, s3⟩ := RepS.write s2 k1 hq (k3.append (.cons ry .nil))
            exact ⟨_, ys, _, rfl, rfl, k2, by rw [k3.length, line_eq]; exact hl, p4 φ2 _ _ e3 s3 .non⟩
          · rw [if_neg hl] at p4; exact p4.elim
/-! list.count, list.index, by what the items are worth -/
theorem toDs_count (v : PV) (hv : plain v = true) : ∀ ws : List PV, plains ws = true → (toDs ws).countP (fun z => PyData.eqv z (toD v)) = cntP v ws
  | [], _ => rfl
  | w :: ws, hw => by
    simp [plains] at hw
    simp only [toDs, cntP, List.countP_cons, toD_eqv w v hw.1 hv, toDs_count v hv ws hw.2]
    omega
theorem toDs_ix (v : PV) (hv : plain v = true) : ∀ (ws : List PV) (j : Nat), plains ws = true → ixP v ws = some j → ∃ z, (toDs ws)[j]? = some z ∧ PyData.eqv z (toD v) = true ∧ ∀ (m : Nat) (z' : PyData), m < j → (toDs ws)[m]? = some z' → PyData.eqv z' (toD v) = false
  | [], j, _, h => by cases h
  | w :: ws, j, hw, h => by
    simp [plains] at hw
    have e := toD_eqv w v hw.1 hv
    unfold ixP at h
    by_cases q : eqP w v = true
    · rw [if_pos q] at h
      cases h
      exact ⟨toD w, rfl, by rw [e]; exact q, fun m z' hm => absurd hm (Nat.not_lt_zero m)⟩
    · rw [if_neg q] at h
      cases q2 : ixP v ws with
      | none => rw [q2] at h; cases h
      | some i =>
        rw [q2] at h
        cases h
        obtain ⟨z, h1, h2, h3⟩ := toDs_ix v hv ws i hw.2 q2
        refine ⟨z, h1, h2, fun m z' hm hz => ?_⟩
        cases m with
        | zero =>
          have : toD w = z' := by simpa [toDs] using hz
          rw [← this, e]
          exact eq_false_of_ne_true q
        | succ m => exact h3 m z' (Nat.lt_of_succ_lt_succ (show m + 1 < i + 1 from hm)) (by simpa [toDs] using hz)
def rCountD (K : PySem.W.Frag) : V → List V → Hp → VK → Prop := fun x xs H Q => ∃ (a : Addr) (y : V) (d : PyData) (ds : List PyData), x = V.ref a ∧ xs = [y] ∧ Dp K H (V.ref a) (.list ds) ∧ Dp K H y d ∧
  PyData.canLayAll0 ds = true ∧ d.canLay0 = true ∧ min (PyData.depthAll ds) d.depth ≤ 60 ∧ Q (.int (ds.countP fun z => PyData.eqv z d : Nat)) H
theorem mt_countD (hu : X.A.units + 65 < cLine) : MtR X "list.count" (rCountD X.K) := by
  intro pins s σ H x xs v us Q I rx rxs h
  obtain ⟨a, y, d, ds, rfl, rfl, hl, hy, sl, sd, hdep, q⟩ := h
  cases rx
  cases rxs with
  | cons ry rt =>
    rename_i uy ut
    cases rt
    obtain ⟨bs, r1⟩ := Dp.reads I d y uy hy ry
    cases hl with
    | lst hs ha =>
      obtain ⟨its, rv, ⟨⟨cls, dd, data, sls⟩, n, ho, hc, hdn, hdt⟩, hlen⟩ := I.list hs
      simp only at hc hdt
      subst hc hdt
      obtain ⟨as, h4⟩ := Dp.readsAll I ds _ its ha rv
      have hmap : its.map (SeqAt.readOf s.heap) = ds := SeqAt.readsAll_map ds its as sl h4
      refine call_meets PySem.F.slot_list_count ⟨_, ho, rfl⟩ PySem.F.entry_list_count (PySem.F.args_list_count_2 _ _)
        (SeqAt.list_countAt a its.toArray n dd sls uy (fun u => PyData.eqv (SeqAt.readOf s.heap u) d)) ⟨ho, SeqAt.items_eqAt (vs := its.toArray) (show ReadsAll s.heap its.toArray.toList ds as from h4) r1 sl sd (by show X.A.units + 1 + min (PyData.depthAll ds) d.depth < cLine; omega), ?_⟩
      have ec : its.toArray.toList.countP (fun u => PyData.eqv (SeqAt.readOf s.heap u) d) = ds.countP fun z => PyData.eqv z d := by
        rw [← hmap, List.countP_map]
        rfl
      rw [ec]
      exact ⟨.int _, H, I.tok _, ⟨_, rfl⟩, q⟩
def rIndexE (K : PySem.W.Frag) : V → List V → Hp → VK → Prop := fun x xs H Q => ∃ (a : Addr) (y : V) (d : PyData) (ds : List PyData) (j : Nat) (z : PyData), x = V.ref a ∧ xs = [y] ∧ Dp K H (V.ref a) (.list ds) ∧ Dp K H y d ∧
  PyData.canLayAll0 ds = true ∧ d.canLay0 = true ∧ min (PyData.depthAll ds) d.depth ≤ 60 ∧ ds[j]? = some z ∧ PyData.eqv z d = true ∧ (∀ (m : Nat) (z' : PyData), m < j → ds[m]? = some z' → PyData.eqv z' d = false) ∧ Q (.int (j : Nat)) H
theorem mt_indexE (hu : X.A.units + 65 < cLine) : MtR X "list.index" (rIndexE X.K) := by
  intro pins s σ H x xs v us Q I rx rxs h
  obtain ⟨a, y, d, ds, j, z, rfl, rfl, hl, hy, sl, sd, hdep, hz, hzj, hno, q⟩ := h
  cases rx
  cases rxs with
  | cons ry rt =>
    rename_i uy ut
    cases rt
    obtain ⟨bs, r1⟩ := Dp.reads I d y uy hy ry
    cases hl with
    | lst hs ha =>
      obtain ⟨its, rv, ⟨⟨cls, dd, data, sls⟩, n, ho, hc, hdn, hdt⟩, hlen⟩ := I.list hs
      simp only at hc hdt
      subst hc hdt
      obtain ⟨as, h4⟩ := Dp.readsAll I ds _ its ha rv
      have hn : its.length = ds.length := SeqAt.ReadsAll.length ds its as h4
      have hmap : its.map (SeqAt.readOf s.heap) = ds := SeqAt.readsAll_map ds its as sl h4
      have hvl := rv.length
      have hsl := sizeLine_eq
      obtain ⟨hjd, _⟩ := List.getElem?_eq_some_iff.mp hz
      have hj : j < its.toArray.size := by simp; omega
      have at_ : ∀ (m : Nat) (hm : m < its.toArray.size) (z' : PyData), ds[m]? = some z' → SeqAt.readOf s.heap its.toArray[m] = z' := by
        intro m hm z' hz'
        have hml : m < its.length := by simpa using hm
        rw [← hmap, List.getElem?_map, List.getElem?_eq_getElem hml] at hz'
        simpa using hz'
      refine call_meets PySem.F.slot_list_index ⟨_, ho, rfl⟩ PySem.F.entry_list_index (PySem.F.args_list_index_2 _ _)
        (SeqAt.list_indexAt a its.toArray n dd sls uy (fun u => PyData.eqv (SeqAt.readOf s.heap u) d) j hj (by omega) (by rw [at_ j hj z hz]; exact hzj) fun m hm hmj => ?_) ⟨ho, SeqAt.items_eqAt (vs := its.toArray) (show ReadsAll s.heap its.toArray.toList ds as from h4) r1 sl sd (by show X.A.units + 1 + min (PyData.depthAll ds) d.depth < cLine; omega), ⟨.int (j : Nat), H, I.tok _, ⟨_, rfl⟩, q⟩⟩
      have hz' : ds[m]? = some ds[m] := List.getElem?_eq_getElem (by omega)
      show PyData.eqv (SeqAt.readOf s.heap its.toArray[m]) d = false
      rw [at_ m hm _ hz']
      exact hno m _ hmj hz'
/-- a method of a pure thing, one value -/
theorem meth1_go {m : Mt} {o' y' : Ex} {σ : L2.St} {H : Hp} {Q : V → Hp → Prop} {K : PySem.W.Frag} {TT : String} {r : V → List V → Hp → VK → Prop} (R : PV → Prop)
    (ch : ∀ v, v ≠ EV.fn 0 → ∀ S S', chkM m v S = .ok () S' → S' = S ∧ ∃ p, v = .p p ∧ R p) (nx : ∀ v S x S', chkM m v S ≠ .exc x S')
    (hty : ∀ φ H x p, Rep g.C.K φ H x p → R p → tyV K TT x H)
    (hr : ∀ φ H S x y p w Q', RepS g.C φ H S → R p → Rep g.C.K φ H x p → Rep g.C.K φ H y w → Post g.C E (RepE g.C) φ H (methop m (.p p) [w] S) Q' → r x [y] H Q')
    (q : tE g E G (.meth m o' [y']) σ H Q) : tBM K TT r (tE g E G o') (tA g E G [y']) σ H Q := by
  obtain ⟨φ, S, env, hS, hE, q⟩ := q
  simp only [ev] at q
  refine (step (R := RepE g.C) hS hE q).mono fun x H1 n => ?_
  obtain ⟨φ1, S1, v, eq, e1, s1, en1, r1, p1⟩ := n
  change Post g.C E (RepE g.C) φ1 H1 (M.bind (chkM m v) (fun _ => M.bind (evs G [y'] env) (fun vs => M.bind (ofO (pures vs)) fun xs => methop m v xs)) S1) Q at p1
  unfold M.bind at p1
  cases hc : chkM m v S1 with
  | stuck => rw [hc] at p1; exact p1.elim
  | exc a b => exact absurd hc (nx _ _ _ _)
  | ok u S2 =>
    have hv : v ≠ EV.fn 0 := fun z => by subst z; cases m <;> cases hc
    obtain ⟨h1, p, h2, h3⟩ := ch v hv S1 S2 hc
    subst h1 h2
    rw [hc] at p1
    dsimp only at p1
    have r1 : Rep g.C.K φ1 H1 x p := r1
    refine ⟨hty _ _ _ _ r1 h3, ?_⟩
    refine (step (R := RepEs g.C) s1 en1 p1).mono fun vs H2 n2 => ?_
    obtain ⟨φ2, S3, ws, eq2, e2, s2, en2, r2, p3⟩ := n2
    obtain ⟨zs, hz, p4⟩ := Post.ofO p3
    have rz := pures_rep r2 hz
    have hlen := evs_len eq2
    have e3 := r2.length
    have e4 := rz.length
    match zs, rz, (show zs.length = 1 by rw [← e4, e3, hlen]; rfl) with
    | [z], .cons ry .nil, _ => exact hr φ2 H2 S3 _ _ p z Q s2 h3 (Rep.mono e2.kp _ _ r1) ry p4
def isL (p : PV) : Prop := ∃ us, p = .lst us
theorem isL_ty {KK : PySem.W.Frag} {φ : Ph} {H : Hp} {x : V} {p : PV} (r : Rep g.C.K φ H x p) (h : isL p) : tyV KK "list" x H := by
  obtain ⟨us, rfl⟩ := h
  cases r with
  | lst pl rr => exact .inl ⟨rfl, _, .inl pl.2⟩
/-! dict.get -/
def rGet (K : FK) : V → List V → Hp → VK → Prop := fun x xs H Q => ∃ φ n ks vs y key, VR K φ H x (.dct n ks vs) ∧ Rep K φ H y key ∧ keyB n key = true ∧
  ((xs = [y] ∧ ∀ z, Rep K φ H z ((findD key ks vs).getD .non) → Q z H) ∨ ∃ d dv, xs = [y, d] ∧ Rep K φ H d dv ∧ ∀ z, Rep K φ H z ((findD key ks vs).getD dv) → Q z H)
theorem mt_get {K : FK} (hu : X.A.units + 65 < cLine) (hX : KX X K) : MtR X "dict.get" (rGet K) := by
  intro pins s σ H x xs v us Q I rx rxs h
  obtain ⟨φ, n, ks, vs, y, key, hx, hy, hk, h | h⟩ := h
  · obtain ⟨rfl, q⟩ := h
    cases rxs with
    | cons r1 r2 =>
      cases r2
      exact dct_get1 hu I hX rx r1 hx (Rep.vr hy) hk q
  · obtain ⟨d, dv, rfl, hd, q⟩ := h
    cases rxs with
    | cons r1 r2 =>
      cases r2 with
      | cons r2 r3 =>
        cases r3
        exact dct_get2 hu I hX rx r1 r2 hx (Rep.vr hy) hd hk q
def tBMD (K : FK) (r : V → List V → Hp → VK → Prop) (to : TE) (t : TA) : TE := fun σ H Q => to σ H fun x H1 => (∃ φ n ks vs, VR K φ H1 x (.dct n ks vs)) ∧ t σ H1 fun xs H2 => r x xs H2 Q
theorem pe_bmD {K : FK} {o e : Expr} {es : List Expr} {to : TE} {t : TA} {name : Str} {apos cpos : Pos} {id : String} {r : V → List V → Hp → VK → Prop} (hX : KX X K) (slot : Slot "dict" name id) (hty : typeOf (.builtin id) = pure (.type "method_descriptor")) (hm : MtR X id r) (ho : PE X o to) (ha : PA X (e :: es) t)
    (hbase : attributeBase o name X.env (eval o X.env) = eval o X.env)
    (hfew : ((backTo cpos (starEach (e :: es) X.env)).all (fun x => !x.1) && (backToKw cpos (keywordEach [] X.env)).all (fun x => x.1.isSome)
      && decide ((e :: es).length + ([] : List Keyword).length + (if ([] : List Keyword).isEmpty then 0 else 1) < 30)) = true)
    (hline : (apos.endLine == cpos.line) = true) (hs : starEach (e :: es) X.env = (false, eval e X.env) :: starEach es X.env) (hplain : (backTo cpos (starEach es X.env)).any (·.1) = false) :
    PE X (.Call (.Attribute o name apos) (e :: es) [] cpos) (tBMD K r to t) := by
  refine ⟨fun pins s σ H Q I h => ?_⟩
  refine wpAny_Call_method_late hbase hfew hline rfl (thn (ho.run pins s σ H _ I h) fun v s1 ⟨x, H1, I1, r1, ty, q1⟩ => ?_)
  obtain ⟨φ, n, ks, vs, hx⟩ := ty
  obtain ⟨a, rfl, rfl, hT, ⟨ob, o1, o2⟩, _⟩ := dct_typeIs I1 hX r1 hx
  refine ⟨"dict", id, PySem.F.plainAttrs_dict, slot, hty, hT, fun b e => by cases e; exact ⟨ob, o1, o2⟩, ?_⟩
  have hA := ha.run cpos pins s1 σ H1 _ I1 q1
  rw [hs] at hA ⊢
  refine Calls.callWith_builtin (by show (false || (backTo cpos (starEach es X.env)).any (·.1)) = false; rw [hplain] <;> rfl) (Calls.evalArgs_plain ?_)
  exact thn hA fun us s2 ⟨vs, H2, I2, r2, q2⟩ => hm pins s2 σ H2 _ vs _ us Q I2 r1 r2 q2
theorem isD_go {φ : Ph} {H : Hp} {S : Store} {x : V} {v : EV} {γ δ : Type} {R2 : Ph → Hp → δ → γ → Prop} {k : Unit → M γ} {Q : δ → Hp → Prop} (hS : RepS g.C φ H S) (r : RepE g.C φ H x v) (h : Post g.C E R2 φ H (M.bind (isD v) k S) Q) : (∃ n ks vs, VR g.C.K φ H x (.dct n ks vs)) ∧ Post g.C E R2 φ H (k () S) Q := by
  have e : M.bind (isD v) k S = M.bind (Ip.rd v) (fun x => M.bind (match x with | .dct _ _ _ => M.pure () | _ => stk) k) S := by
    show M.bind (M.bind (Ip.rd v) fun x => match x with | .dct _ _ _ => M.pure () | _ => stk) k S = _
    unfold M.bind
    cases Ip.rd v S <;> rfl
  rw [e] at h
  obtain ⟨w, hw, p⟩ := Post.rd hS r h
  cases w with
  | dct n ks vs => exact ⟨⟨n, ks, vs, hw⟩, p⟩
  | _ => exact p.elim
theorem getD_go {φ : Ph} {H : Hp} {S : Store} {x : V} {v : EV} {key dv : PV} {Q : V → Hp → Prop} (hS : RepS g.C φ H S) (r : RepE g.C φ H x v) (h : Post g.C E (RepE g.C) φ H (M.bind (Ip.rd v) (fun x => getD x key dv) S) Q) :
    ∃ n ks vs, VR g.C.K φ H x (.dct n ks vs) ∧ keyB n key = true ∧ ∀ z, Rep g.C.K φ H z ((findD key ks vs).getD dv) → Q z H := by
  obtain ⟨w, hw, p⟩ := Post.rd hS r h
  cases w with
  | dct n ks vs =>
    unfold getD at p
    dsimp only at p
    by_cases hk : keyB n key = true
    · rw [if_pos hk] at p
      exact ⟨n, ks, vs, hw, hk, fun z hz => p φ H z (Ext.refl _ _) hS hz⟩
    · rw [if_neg hk] at p; exact p.elim
  | _ => exact p.elim
theorem s_get1 (F : Fits g E T G ck k CX Wish X) {x : Expr} {n : Str} {apos cpos : Pos} {y : Expr} {o' : Ex} {es' : List Ex} (ho : PE X x (tE g E G o')) (hb : baseB x = true) (hn : n = ("get" : Str)) (hl : apos.endLine = cpos.line) (hm : mtEs T es' ck [y] = true) (ha : PA X [y] (tA g E G es')) :
    PE X (.Call (.Attribute x n apos) [y] [] cpos) (tE g E G (.meth .get o' es')) := by
  subst hn
  obtain ⟨y', rfl⟩ : ∃ y', es' = [y'] := by
    have := mtEs_len hm
    match es', this with
    | [y'], _ => exact ⟨y', rfl⟩
  have hmy : mtE T y' ck y = true := by
    simp only [mtEs, Bool.and_eq_true] at hm; exact hm.1
  refine PE.imp (pe_bmD F.hX PySem.F.slot_dict_get PySem.F.type_dict_get (mt_get F.hu F.hX) ho ha (base_ok hb _ _) (by rw [mtE_star hmy]; rfl) (by simp [hl]) (mtE_star hmy) (by rfl)) fun σ H Q q => ?_
  obtain ⟨φ, S, env, hS, hE, q⟩ := q
  simp only [ev] at q
  refine (step (R := RepE g.C) hS hE q).mono fun x H1 nn => ?_
  obtain ⟨φ1, S1, v, eq, e1, s1, en1, r1, p1⟩ := nn
  obtain ⟨⟨n, ks, vs, hx⟩, p2⟩ := isD_go (k := fun _ => M.bind (evs G [y'] env) (fun vs => M.bind (ofO (pures vs)) fun xs => methop .get v xs)) s1 r1 p1
  refine ⟨⟨φ1, n, ks, vs, hx⟩, ?_⟩
  refine (step (R := RepEs g.C) s1 en1 p2).mono fun us H2 n2 => ?_
  obtain ⟨φ2, S2, ws, eq2, e2, s2, en2, r2, p3⟩ := n2
  obtain ⟨zs, hz, p4⟩ := Post.ofO p3
  have rz := pures_rep r2 hz
  have hlen := evs_len eq2
  have e3 := r2.length
  have e4 := rz.length
  match zs, rz, (show zs.length = 1 by rw [← e4, e3, hlen]; rfl) with
  | [z], .cons ry .nil, _ =>
    obtain ⟨n, ks, vs, hx2, hk, q2⟩ := getD_go (key := z) (dv := .non) s2 (r1.mono e2.kp) p4
    exact ⟨φ2, n, ks, vs, _, z, hx2, ry, hk, .inl ⟨rfl, q2⟩⟩
theorem s_get2 (F : Fits g E T G ck k CX Wish X) {x : Expr} {n : Str} {apos cpos : Pos} {ys : List Expr} {o' : Ex} {es' : List Ex} (ho : PE X x (tE g E G o')) (hb : baseB x = true) (hn : n = ("get" : Str)) (hl : apos.endLine = cpos.line) (hm : mtEs T es' ck ys = true) (hy2 : ys.length = 2) (ha : PA X ys (tA g E G es')) :
    PE X (.Call (.Attribute x n apos) ys [] cpos) (tE g E G (.meth .get2 o' es')) := by
  subst hn
  obtain ⟨y, yd, rfl⟩ : ∃ y yd, ys = [y, yd] := match ys, hy2 with
    | [y, yd], _ => ⟨y, yd, rfl⟩
  obtain ⟨y', z', rfl⟩ : ∃ y' z', es' = [y', z'] := by
    have := mtEs_len hm
    match es', this with
    | [y', z'], _ => exact ⟨y', z', rfl⟩
  have hmy : mtE T y' ck y = true ∧ mtE T z' ck yd = true := by
    simp only [mtEs, Bool.and_eq_true] at hm; exact ⟨hm.1, hm.2.1⟩
  refine PE.imp (pe_bmD F.hX PySem.F.slot_dict_get PySem.F.type_dict_get (mt_get F.hu F.hX) ho ha (base_ok hb _ _) (by rw [mtE_star hmy.1, mtE_star hmy.2]; rfl) (by simp [hl]) (mtE_star hmy.1) (by rw [mtE_star hmy.2]; rfl)) fun σ H Q q => ?_
  obtain ⟨φ, S, env, hS, hE, q⟩ := q
  simp only [ev] at q
  refine (step (R := RepE g.C) hS hE q).mono fun x H1 nn => ?_
  obtain ⟨φ1, S1, v, eq, e1, s1, en1, r1, p1⟩ := nn
  obtain ⟨⟨n, ks, vs, hx⟩, p2⟩ := isD_go (k := fun _ => M.bind (evs G [y', z'] env) (fun vs => M.bind (ofO (pures vs)) fun xs => methop .get2 v xs)) s1 r1 p1
  refine ⟨⟨φ1, n, ks, vs, hx⟩, ?_⟩
  refine (step (R := RepEs g.C) s1 en1 p2).mono fun us H2 n2 => ?_
  obtain ⟨φ2, S2, ws, eq2, e2, s2, en2, r2, p3⟩ := n2
  obtain ⟨zs, hz, p4⟩ := Post.ofO p3
  have rz := pures_rep r2 hz
  have hlen := evs_len eq2
  have e3 := r2.length
  have e4 := rz.length
  match zs, rz, (show zs.length = 2 by rw [← e4, e3, hlen]; rfl) with
  | [z, d], .cons ry (.cons rd .nil), _ =>
    obtain ⟨n, ks, vs, hx2, hk, q2⟩ := getD_go (key := z) (dv := d) s2 (r1.mono e2.kp) p4
    exact ⟨φ2, n, ks, vs, _, z, hx2, ry, hk, .inr ⟨_, d, rfl, rd, q2⟩⟩
theorem s_meth (F : Fits g E T G ck k CX Wish X) {x : Expr} {n : Str} {apos cpos : Pos} {ys : List Expr} {m : Mt} {o' : Ex} {es' : List Ex} (ho : PE X x (tE g E G o')) (hb : baseB x = true) (hm : okM m = true) (hn : n = (mtStr m : Str)) (hl : apos.endLine = cpos.line) (hys : mtEs T es' ck ys = true) (hlen : ys.length = arM m) (ha : PA X ys (tA g E G es')) :
    PE X (.Call (.Attribute x n apos) ys [] cpos) (tE g E G (.meth m o' es')) := by
  by_cases h2 : m = .get2
  · subst h2
    exact s_get2 F ho hb hn hl hys hlen ha
  obtain ⟨y, rfl⟩ : ∃ y, ys = [y] := by
    have : ys.length = 1 := by rw [hlen]; cases m <;> first | rfl | exact absurd rfl h2 | (simp [okM] at hm)
    match ys, this with
    | [y], _ => exact ⟨y, rfl⟩
  have hy := hys
  obtain ⟨y', rfl⟩ : ∃ y', es' = [y'] := by
    have := mtEs_len hy
    match es', this with
    | [y'], _ => exact ⟨y', rfl⟩
  have hmy : mtE T y' ck y = true := by
    simp only [mtEs, Bool.and_eq_true] at hy; exact hy.1
  have hK : X.K = g.C.K.K := F.hX.k
  cases m <;> simp only [okM, Bool.false_eq_true] at hm
  · -- get
    exact s_get1 F ho hb hn hl hy ha
  · -- index
    subst hn
    refine PE.imp (pe_bm PySem.F.plainAttrs_list PySem.F.slot_list_index PySem.F.type_list_index (mt_indexE F.hu) ho ha (base_ok hb _ _) (by rw [mtE_star hmy]; rfl) (by simp [hl]) (mtE_star hmy) (by rfl)) fun σ H Q q => ?_
    refine meth1_go isL (fun v _ S S' h => ?_) (fun v S x S' h => ?_) (fun φ H x p r h => isL_ty r h) (fun φ H S x y pp w Q' hS hL rx ry p => ?_) q
    · cases v with
      | p v => cases v <;> cases h; exact ⟨rfl, _, rfl, _, rfl⟩
      | _ => cases h
    · cases v with
      | p v => cases v <;> cases h
      | _ => cases h
    · obtain ⟨us, rfl⟩ := hL
      unfold methop at p
      dsimp only at p
      by_cases ok : okEq w (.lst us) = true
      · rw [if_pos ok] at p
        obtain ⟨pa, pb, hd⟩ := okEq_iff.mp ok
        cases hx : ixP w us with
        | none => rw [hx] at p; exact p.elim
        | some j =>
          rw [hx] at p
          have pb' : plains us = true := by simpa [plain] using pb
          obtain ⟨z, h1, h2, h3⟩ := toDs_ix w pa us j pb' hx
          have dx := Rep.dp _ _ (show plain (.lst us) = true from pb) rx
          have dy := Rep.dp _ _ pa ry
          have lx := Rep.lay _ _ rx
          rw [← hK] at dx dy
          cases rx with
          | lst pl rr =>
            simp only [toD] at dx lx
            exact ⟨_, _, toD w, toDs us, j, z, rfl, rfl, dx, dy, by simpa [PyData.canLay0] using lx, Rep.lay _ _ ry, by rw [toD_depth, toDs_depth]; rw [deps_lst] at hd; omega, h1, h2, h3, p φ H _ (Ext.refl _ _) hS (.int _)⟩
      · rw [if_neg ok] at p; exact p.elim
  · -- count
    subst hn
    refine PE.imp (pe_bm PySem.F.plainAttrs_list PySem.F.slot_list_count PySem.F.type_list_count (mt_countD F.hu) ho ha (base_ok hb _ _) (by rw [mtE_star hmy]; rfl) (by simp [hl]) (mtE_star hmy) (by rfl)) fun σ H Q q => ?_
    refine meth1_go isL (fun v _ S S' h => ?_) (fun v S x S' h => ?_) (fun φ H x p r h => isL_ty r h) (fun φ H S x y pp w Q' hS hL rx ry p => ?_) q
    · cases v with
      | p v => cases v <;> cases h; exact ⟨rfl, _, rfl, _, rfl⟩
      | _ => cases h
    · cases v with
      | p v => cases v <;> cases h
      | _ => cases h
    · obtain ⟨us, rfl⟩ := hL
      unfold methop at p
      dsimp only at p
      by_cases ok : okEq w (.lst us) = true
      · rw [if_pos ok] at p
        obtain ⟨pa, pb, hd⟩ := okEq_iff.mp ok
        have pb' : plains us = true := by simpa [plain] using pb
        have dx := Rep.dp _ _ (show plain (.lst us) = true from pb) rx
        have dy := Rep.dp _ _ pa ry
        have lx := Rep.lay _ _ rx
        rw [← hK] at dx dy
        cases rx with
        | lst pl rr =>
          simp only [toD] at dx lx
          refine ⟨_, _, toD w, toDs us, rfl, rfl, dx, dy, by simpa [PyData.canLay0] using lx, Rep.lay _ _ ry, by rw [toD_depth, toDs_depth]; rw [deps_lst] at hd; omega, ?_⟩
          rw [toDs_count w pa us pb']
          exact p φ H _ (Ext.refl _ _) hS (.int _)
      · rw [if_neg ok] at p; exact p.elim
  · -- join
    subst hn
    refine PE.imp (pe_bm PySem.F.plainAttrs_str PySem.F.slot_str_join PySem.F.type_str_join mt_join ho ha (base_ok hb _ _) (by rw [mtE_star hmy]; rfl) (by simp [hl]) (mtE_star hmy) (by rfl)) fun σ H Q q => ?_
    refine meth1_go (fun p => ∃ z, p = .str z) (fun v _ S S' h => ?_) (fun v S x S' h => ?_) (fun φ H x p r h => ?_) (fun φ H S x y pp w Q' hS hL rx ry p => ?_) q
    · cases v with
      | p v => cases v <;> cases h; exact ⟨rfl, _, rfl, _, rfl⟩
      | _ => cases h
    · cases v with
      | p v => cases v <;> cases h
      | _ => cases h
    · obtain ⟨z, rfl⟩ := h
      cases r
      rfl
    · obtain ⟨z, rfl⟩ := hL
      unfold methop at p
      dsimp only at p
      cases hi : seqOf w with
      | none => rw [hi] at p; exact p.elim
      | some xs =>
        rw [hi] at p
        dsimp only at p
        cases hs : allS xs with
        | none => rw [hs] at p; exact p.elim
        | some ys =>
          rw [hs] at p
          dsimp only at p
          by_cases hj : joinB z ys = true
          · rw [if_pos hj] at p
            have hj2 := hj
            unfold joinB at hj2
            simp only [Bool.and_eq_true, decide_eq_true_eq] at hj2
            cases rx
            have fin := p φ H _ (Ext.refl _ _) hS (.str hj2.2)
            cases ry with
            | lst pl rr =>
              cases hi
              obtain ⟨e, _⟩ := allS_rep rr hs
              subst e
              exact ⟨z, _, ys, rfl, rfl, .inl (.inl pl.2), hj2.1, fin⟩
            | tup pl rr =>
              cases hi
              obtain ⟨e, _⟩ := allS_rep rr hs
              subst e
              exact ⟨z, _, ys, rfl, rfl, .inr (by rw [hK]; exact pl.sq), hj2.1, fin⟩
            | _ => cases hi
          · rw [if_neg hj] at p; exact p.elim
  · subst hn
    exact s_append F ho hb rfl hl hy ha
  · exact absurd rfl h2
end
end Ip

set_option Elab.async false
set_option linter.all false
set_option maxRecDepth 100000
set_option maxHeartbeats 4000000
/-! Ip, part 14: list comprehensions. -/
namespace Ip
open PySem L2 PySem.Spec PyProof.Rows

/-- what is being made: a list at D, which nothing pure sees -/
structure AccI (C : RC) (φ1 : Ph) (H1 : Hp) (D : Addr) (φ : Ph) (H : Hp) (S : Store) (acc : List PV) : Prop where
  rs : RepS C φ H S
  ext : Ext φ1 H1 φ H
  hid : D ∈ φ.hid
  at_ : ∃ accV, H D = some (.lst accV) ∧ Reps C.K φ H accV acc
section
variable {C : RC} {φ1 φ φ' : Ph} {H1 H H' : Hp} {D : Addr} {S S' : Store} {acc : List PV}
theorem AccI.start (h : RepS C φ1 H1 S) (hD : H1 D = none) : AccI C φ1 H1 D ⟨φ1.box, D :: φ1.hid⟩ (upd H1 D (.lst [])) S [] := by
  have np : ¬ φ1.has D := fun m => h.there D m hD
  have ext : Ext φ1 H1 ⟨φ1.box, D :: φ1.hid⟩ (upd H1 D (.lst [])) := by
    refine ⟨Nat.le_refl _, fun a h => List.mem_cons_of_mem _ h, fun _ _ _ q => q, fun a m n => ?_, fun a u q _ => by rw [upd_ne (ne_of_none q hD)]; exact q, fun a m => upd_ne fun z => np (z ▸ Or.inr m)⟩
    rcases m with m | m
    · exact absurd (.inl m) n
    · rcases List.mem_cons.mp m with m | m
      · subst m; exact hD
      · exact absurd (.inr m) n
  refine ⟨⟨h.len, fun n c q => ?_, h.inj, fun a m => ?_, h.live, fun n a q m => ?_⟩, ext, List.mem_cons_self, [], upd_same, .nil⟩
  · rcases h.cell n c q with r | ⟨a, h1, h2⟩
    · exact .inl r
    · exact .inr ⟨a, h1, h2.keep ext.kp.kept fun u q => by rw [upd_ne (ne_of_none q hD)]; exact q⟩
  · by_cases hq : a = D
    · subst hq; rw [upd_same]; simp
    · rw [upd_ne hq]
      refine h.there a ?_
      rcases m with m | m
      · exact .inl m
      · rcases List.mem_cons.mp m with m | m
        · exact absurd m hq
        · exact .inr m
  · rcases List.mem_cons.mp m with m | m
    · subst m; exact np (.inl (List.mem_of_getElem? q))
    · exact h.disj n a q m
theorem AccI.step (h : AccI C φ1 H1 D φ H S acc) (e : Ext φ H φ' H') (s : RepS C φ' H' S') : AccI C φ1 H1 D φ' H' S' acc := by
  obtain ⟨accV, h1, h2⟩ := h.at_
  exact ⟨s, h.ext.trans e, e.hid _ h.hid, accV, by rw [e.hkept _ h.hid]; exact h1, Reps.mono e.kp _ _ h2⟩
theorem kp_upd {o : HO} (h : D ∈ φ.hid) : Kp φ H φ (upd H D o) := ⟨Nat.le_refl _, fun _ _ _ q => q, fun a u q n => ⟨n, by rw [upd_ne (fun z : a = D => n (by rw [z]; exact Or.inr h))]; exact q⟩⟩
theorem AccI.push {y : V} {v : PV} (h : AccI C φ1 H1 D φ H S acc) (hD : H1 D = none) (hR : ∀ a, φ1.has a → H1 a ≠ none) (r : Rep C.K φ H y v) : ∃ accV, H D = some (.lst accV) ∧ accV.length = acc.length ∧ AccI C φ1 H1 D φ (upd H D (.lst (accV ++ [y]))) S (acc ++ [v]) := by
  obtain ⟨accV, h1, h2⟩ := h.at_
  have k : Kp φ H φ (upd H D (.lst (accV ++ [y]))) := kp_upd h.hid
  have np : ¬ φ1.has D := fun m => hR D m hD
  refine ⟨accV, h1, h2.length, ⟨h.rs.len, fun n c q => ?_, h.rs.inj, fun a m => ?_, h.rs.live, h.rs.disj⟩, ⟨h.ext.len, h.ext.hid, h.ext.old, h.ext.new, fun a o q n => ?_, fun a m => ?_⟩, h.hid, _, upd_same, (Reps.mono k _ _ h2).append (.cons (Rep.mono k _ _ r) .nil)⟩
  · rcases h.rs.cell n c q with r0 | ⟨a, g1, g2⟩
    · exact .inl r0
    · exact .inr ⟨a, g1, g2.keep k.kept fun u q => by rw [upd_ne (fun z : a = D => h.rs.disj n a g1 (by rw [z]; exact h.hid))]; exact q⟩
  · by_cases hq : a = D
    · subst hq; rw [upd_same]; simp
    · rw [upd_ne hq]; exact h.rs.there a m
  · rw [upd_ne (ne_of_none q hD)]; exact h.ext.kept a o q n
  · rw [upd_ne (fun z : a = D => np (by rw [← z]; exact Or.inr m))]; exact h.ext.hkept a m
theorem AccI.done (h : AccI C φ1 H1 D φ H S acc) (hD : H1 D = none) (hR : ∀ a, φ1.has a → H1 a ≠ none) : ∃ φ', Ext φ1 H1 φ' H ∧ RepS C φ' H S ∧ Rep C.K φ' H (.ref D) (.lst acc) := by
  obtain ⟨accV, h1, h2⟩ := h.at_
  have np : ¬ φ1.has D := fun m => hR D m hD
  have sub : ∀ a, Ph.has ⟨φ.box, φ.hid.filter fun a => decide (a ≠ D)⟩ a → φ.has a := fun a m => by
    rcases m with m | m
    · exact .inl m
    · exact .inr (List.mem_filter.mp m).1
  have nD : ¬ Ph.has ⟨φ.box, φ.hid.filter fun a => decide (a ≠ D)⟩ D := fun m => by
    rcases m with m | m
    · obtain ⟨n, hn⟩ := List.mem_iff_getElem?.mp m
      exact h.rs.disj n D hn h.hid
    · simpa using (List.mem_filter.mp m).2
  have k : Kp φ H ⟨φ.box, φ.hid.filter fun a => decide (a ≠ D)⟩ H := ⟨Nat.le_refl _, fun _ _ _ q => q, fun a o q n => ⟨fun m => n (sub a m), q⟩⟩
  refine ⟨⟨φ.box, φ.hid.filter fun a => decide (a ≠ D)⟩, ⟨h.ext.len, fun a m => List.mem_filter.mpr ⟨h.ext.hid a m, by simpa using fun z : a = D => np (z ▸ Or.inr m)⟩, h.ext.old, fun a m n => h.ext.new a (sub a m) n, h.ext.kept, h.ext.hkept⟩, ⟨h.rs.len, fun n c q => ?_, h.rs.inj, fun a m => h.rs.there a (sub a m), h.rs.live, fun n a q m => h.rs.disj n a q (List.mem_filter.mp m).1⟩, .lst ⟨nD, .inl h1⟩ (Reps.mono k _ _ h2)⟩
  rcases h.rs.cell n c q with r | ⟨a, g1, g2⟩
  · exact .inl r
  · exact .inr ⟨a, g1, g2.keep k.kept fun u q => q⟩
/-- it becomes a thing that may change -/
theorem AccI.doneB (h : AccI C φ1 H1 D φ H S acc) (hD : H1 D = none) (hR : ∀ a, φ1.has a → H1 a ≠ none) : ∃ φ', Ext φ1 H1 φ' H ∧ RepS C φ' H (S ++ [.lst acc]) ∧ RepE C φ' H (.ref D) (.box S.length) := by
  obtain ⟨accV, h1, h2⟩ := h.at_
  have np : ¬ φ1.has D := fun m => hR D m hD
  have sub : ∀ a, Ph.has ⟨φ.box ++ [some D], φ.hid.filter fun a => decide (a ≠ D)⟩ a → φ.has a := fun a m => by
    rcases m with m | m
    · rcases List.mem_append.mp m with m | m
      · exact .inl m
      · have : a = D := by simpa using m
        rw [this]; exact .inr h.hid
    · exact .inr (List.mem_filter.mp m).1
  have k : Kpt φ H ⟨φ.box ++ [some D], φ.hid.filter fun a => decide (a ≠ D)⟩ H := fun a o q n => ⟨fun m => n (sub a m), q⟩
  have getb : ∀ n (b : Addr), (φ.box ++ [some D])[n]? = some (some b) → (n < S.length ∧ φ.box[n]? = some (some b)) ∨ (n = S.length ∧ b = D) := fun n b q => by
    by_cases hn : n < φ.box.length
    · rw [List.getElem?_append_left hn] at q
      exact .inl ⟨by rw [← h.rs.len]; exact hn, q⟩
    · rw [List.getElem?_append_right (Nat.le_of_not_lt hn)] at q
      cases z : n - φ.box.length with
      | zero =>
        rw [z] at q
        simp at q
        exact .inr ⟨by have := h.rs.len; omega, q.symm⟩
      | succ m => rw [z] at q; simp at q
  have nb : ∀ n, φ.box[n]? ≠ some (some D) := fun n q => h.rs.disj n D q h.hid
  refine ⟨⟨φ.box ++ [some D], φ.hid.filter fun a => decide (a ≠ D)⟩, ⟨by rw [List.length_append]; exact Nat.le_trans h.ext.len (Nat.le_add_right _ _), fun a m => List.mem_filter.mpr ⟨h.ext.hid a m, by simpa using fun z : a = D => np (z ▸ Or.inr m)⟩, fun n a hn q => ?_, fun a m n => h.ext.new a (sub a m) n, h.ext.kept, h.ext.hkept⟩,
    ⟨by rw [List.length_append, List.length_append, h.rs.len]; rfl, fun n c q => ?_, fun n m a q1 q2 => ?_, fun a m => h.rs.there a (sub a m), fun n a q => ?_, fun n a q m => ?_⟩, ⟨?_, fun a q => ?_⟩⟩
  · rcases getb n a q with ⟨_, z⟩ | ⟨z, _⟩
    · exact h.ext.old n a hn z
    · have := h.ext.len
      have := h.rs.len
      omega
  · by_cases hn : n < S.length
    · rw [List.getElem?_append_left hn] at q
      rcases h.rs.cell n c q with r | ⟨a, g1, g2⟩
      · exact .inl r
      · exact .inr ⟨a, by show (φ.box ++ [some D])[n]? = _; rw [List.getElem?_append_left (by rw [h.rs.len]; exact hn)]; exact g1, g2.keep k fun u q => q⟩
    · rw [List.getElem?_append_right (Nat.le_of_not_lt hn)] at q
      cases z : n - S.length with
      | zero =>
        rw [z] at q
        simp at q
        subst q
        have : n = φ.box.length := by have := h.rs.len; omega
        refine .inr ⟨D, ?_, accV, h1, Reps.keep k _ _ h2⟩
        show (φ.box ++ [some D])[n]? = _
        rw [this]; simp
      | succ m => rw [z] at q; simp at q
  · rcases getb n a q1 with ⟨h3, h4⟩ | ⟨h3, h4⟩ <;> rcases getb m a q2 with ⟨h5, h6⟩ | ⟨h5, h6⟩
    · exact h.rs.inj n m a h4 h6
    · rw [h6] at h4; exact absurd h4 (nb n)
    · rw [h4] at h6; exact absurd h6 (nb m)
    · omega
  · rcases getb n a q with ⟨h3, h4⟩ | ⟨h3, h4⟩
    · rw [List.getElem?_append_left h3]; exact h.rs.live n a h4
    · rw [h3]; simp
  · rcases getb n a q with ⟨h3, h4⟩ | ⟨h3, h4⟩
    · exact h.rs.disj n a h4 (List.mem_filter.mp m).1
    · subst h4; simpa using (List.mem_filter.mp m).2
  · show S.length < (φ.box ++ [some D]).length
    rw [List.length_append, h.rs.len]; simp
  · rcases getb _ a q with ⟨h3, _⟩ | ⟨_, h4⟩
    · exact absurd h3 (Nat.lt_irrefl _)
    · rw [h4]
end
theorem bind_ok {α β : Type} {m : M α} {f : α → M β} {S S2 : Store} {b : β} (h : M.bind m f S = .ok b S2) : ∃ a S1, m S = .ok a S1 ∧ f a S1 = .ok b S2 := by
  unfold M.bind at h
  cases q : m S with
  | ok a S1 => rw [q] at h; exact ⟨a, S1, rfl, h⟩
  | exc _ _ => rw [q] at h; cases h
  | stuck => rw [q] at h; cases h
theorem bind_okM {α β : Type} {m : M α} {f : α → M β} {S S2 : Store} {b : β} (h : (m >>= f) S = .ok b S2) : ∃ a S1, m S = .ok a S1 ∧ f a S1 = .ok b S2 := bind_ok (m := m) (f := f) h
theorem ofO_ok {α : Type} {o : Option α} {a : α} {S S2 : Store} (h : ofO o S = .ok a S2) : o = some a ∧ S2 = S := by
  cases o with
  | none => cases h
  | some b => cases h; exact ⟨rfl, rfl⟩
theorem pure_ok {α : Type} {a b : α} {S S2 : Store} (h : M.pure a S = .ok b S2) : b = a ∧ S2 = S := by
  cases h; exact ⟨rfl, rfl⟩
section
variable {asg : PV → Option Nv} {ifs : Nv → M Bool} {elt : Nv → M PV} {sub : Nv → M (List PV)} {v : PV} {vs rest : List PV} {S S2 : Store}
theorem compL_cons (h : compL asg ifs elt (v :: vs) S = .ok rest S2) : ∃ en b Sb, asg v = some en ∧ ifs en S = .ok b Sb ∧
    ((b = true ∧ ∃ y Sy r, elt en Sb = .ok y Sy ∧ compL asg ifs elt vs Sy = .ok r S2 ∧ rest = y :: r) ∨ (b = false ∧ compL asg ifs elt vs Sb = .ok rest S2)) := by
  unfold compL at h
  obtain ⟨en, S1, p1, q1⟩ := bind_okM h
  obtain ⟨h1, h1'⟩ := ofO_ok p1
  subst h1'
  obtain ⟨b, Sb, h2, q2⟩ := bind_okM q1
  clear h q1 p1
  refine ⟨en, b, Sb, h1, h2, ?_⟩
  cases b with
  | true =>
    rw [if_pos rfl] at q2
    obtain ⟨y, Sy, h3, q3⟩ := bind_okM q2
    obtain ⟨r, S4, h4, q4⟩ := bind_okM q3
    obtain ⟨h5, h6⟩ := pure_ok q4
    subst h5 h6
    exact .inl ⟨rfl, y, Sy, r, h3, h4, rfl⟩
  | false => exact .inr ⟨rfl, q2⟩
theorem compF_cons (h : compF asg ifs sub (v :: vs) S = .ok rest S2) : ∃ en b Sb, asg v = some en ∧ ifs en S = .ok b Sb ∧
    ((b = true ∧ ∃ y Sy r, sub en Sb = .ok y Sy ∧ compF asg ifs sub vs Sy = .ok r S2 ∧ rest = y ++ r) ∨ (b = false ∧ compF asg ifs sub vs Sb = .ok rest S2)) := by
  unfold compF at h
  obtain ⟨en, S1, p1, q1⟩ := bind_okM h
  obtain ⟨h1, h1'⟩ := ofO_ok p1
  subst h1'
  obtain ⟨b, Sb, h2, q2⟩ := bind_okM q1
  clear h q1 p1
  refine ⟨en, b, Sb, h1, h2, ?_⟩
  cases b with
  | true =>
    rw [if_pos rfl] at q2
    obtain ⟨y, Sy, h3, q3⟩ := bind_okM q2
    obtain ⟨r, S4, h4, q4⟩ := bind_okM q3
    obtain ⟨h5, h6⟩ := pure_ok q4
    subst h5 h6
    exact .inl ⟨rfl, y, Sy, r, h3, h4, rfl⟩
  | false => exact .inr ⟨rfl, q2⟩
end
theorem wipe_len2 (σ : L2.St) (vs : List Nat) : (L2.wipe σ vs).length = σ.length := wipe_length σ vs
theorem wipe_in {σ σ' : L2.St} (hl : σ'.length = σ.length) : ∀ (vs : List Nat), (∀ i, i ∉ vs → σ'[i]? = σ[i]?) → L2.wipe σ' vs = L2.wipe σ vs := fun vs h => by
  refine List.ext_getElem? fun i => ?_
  by_cases m : i ∈ vs
  · have key : ∀ (τ : L2.St) (vs : List Nat), i ∈ vs → (L2.wipe τ vs)[i]? = if i < τ.length then some none else none := fun τ vs => by
      induction vs with
      | nil => intro m; cases m
      | cons v vs ih =>
        intro m
        unfold L2.wipe
        by_cases e : v = i
        · subst e
          by_cases hv : v < τ.length
          · rw [List.getElem?_set_self (by rw [wipe_length]; exact hv), if_pos hv]
          · rw [List.getElem?_eq_none (by rw [List.length_set, wipe_length]; omega), if_neg hv]
        · rw [List.getElem?_set_ne e]
          exact ih (by rcases List.mem_cons.mp m with z | z; exact absurd z.symm e; exact z)
    rw [key _ _ m, key _ _ m, hl]
  · rw [wipe_out m, wipe_out m, h i m]
mutual
theorem asgT_len : ∀ (t : Tg) (v : PV) (env env' : Nv), asgT t v env = some env' → env'.length = env.length
  | .nm i, v, env, env', h => by
    simp only [asgT, Option.some.injEq] at h
    rw [← h, List.length_set]
  | .tup gs, v, env, env', h => by
    cases v <;> simp only [asgT, reduceCtorEq] at h
    split at h
    · exact asgTs_len gs _ env env' h
    · cases h
theorem asgTs_len : ∀ (ts : List Tg) (vs : List PV) (env env' : Nv), asgTs ts vs env = some env' → env'.length = env.length
  | [], vs, env, env', h => by
    cases vs <;> simp only [asgTs, reduceCtorEq, Option.some.injEq] at h
    rw [← h]
  | t :: ts, vs, env, env', h => by
    cases vs with
    | nil => simp only [asgTs, reduceCtorEq] at h
    | cons v vs =>
      simp only [asgTs] at h
      cases q : asgT t v env with
      | none => rw [q] at h; cases h
      | some e1 =>
        rw [q] at h
        rw [asgTs_len ts vs e1 env' h, asgT_len t v env e1 q]
end
abbrev E0 : EX := fun _ _ _ _ => False
abbrev tIfs (g : Gc) (E : EX) (G : Nat → List EV → M EV) (ifs : List Ex) : TT := tM g.C E EqB fun env => evIfs G ifs env
/-- a comprehension's items -/
abbrev elt1 (G : Nat → List EV → M EV) (a' : Ex) : Nv → M PV := fun en => M.bind (ev G a' en) fun v => ofO (pureE v)
def WInv (C : RC) (φ1 : Ph) (H1 : Hp) (D : Addr) (φ0 : Ph) (H0 : Hp) (cp : List PV → M (List PV)) (items tot : List PV) (S2 : Store) (i m : Nat) (H : Hp) : Prop :=
  i ≤ items.length ∧ m = items.length - i ∧ ∃ φ S acc rest, AccI C φ1 H1 D φ H S acc ∧ Kp φ0 H0 φ H ∧ cp (items.drop i) S = .ok rest S2 ∧ acc ++ rest = tot
/-- the walk of one source -/
theorem loop_core {g : Gc} {G : Nat → List EV → M EV} {t : Tg} {ifs : List Ex} {a' : Ex} {own : List Nat} {J : It} {items tot acc0 vs : List PV} {φ1 φ0 : Ph} {H1 H0 : Hp} {D : Addr} {S0 S2 : Store} {env : Nv} {σ : L2.St} {Qe : Hp → Prop}
    (ho : ∀ i, i ∈ tgSl t → i ∈ own) (hD : H1 D = none) (hR : ∀ a, φ1.has a → H1 a ≠ none) (h0 : AccI g.C φ1 H1 D φ0 H0 S0 acc0) (w : WalkP g.C J items φ0 H0) (en0 : RepEnv g.C φ0 H0 env σ)
    (hc : compL (fun x => asgT t x (wipeE env own)) (fun en => evIfs G ifs en) (elt1 G a') items S0 = .ok vs S2) (ht : acc0 ++ vs = tot) (hl : tot.length ≤ Line) (hq : ∀ φ H, AccI g.C φ1 H1 D φ H S2 tot → Kp φ0 H0 φ H → Qe H) :
    ∃ W : Nat → Nat → Hp → Prop, (∃ m, W 0 m H0) ∧ ∀ i m H, W i m H → (J.stop i H ∧ Qe H) ∨ (J.go i H ∧ ∃ Nx : Hp → Prop, (∀ H', Nx H' → ∃ m', m' < m ∧ W (i + 1) m' H') ∧ ∀ x H', J.yld i H x H' → tG g t x (L2.wipe σ own) H' fun σ2 H2 => L2.wipe σ2 own = L2.wipe σ own ∧ tIfs g E0 G ifs σ2 H2 fun b H3 =>
      if b = true then tE g E0 G a' σ2 H3 fun y H4 => ∃ acc, H4 D = some (.lst acc) ∧ acc.length < sizeLine ∧ Nx (upd H4 D (.lst (acc ++ [y]))) else Nx H3) := by
  refine ⟨WInv g.C φ1 H1 D φ0 H0 (compL (fun x => asgT t x (wipeE env own)) (fun en => evIfs G ifs en) (elt1 G a')) items tot S2,
    ⟨_, Nat.zero_le _, rfl, φ0, S0, acc0, vs, h0, ⟨Nat.le_refl _, fun _ _ _ q => q, fun a o q n => ⟨n, q⟩⟩, by rw [List.drop_zero]; exact hc, ht⟩, fun i m H W => ?_⟩
  obtain ⟨hi, rfl, φ, S, acc, rest, hA, hK, hL, hT⟩ := W
  by_cases hlt : i < items.length
  · right
    have hdr : items.drop i = items[i] :: items.drop (i + 1) := List.drop_eq_getElem_cons hlt
    rw [hdr] at hL
    obtain ⟨en, b, Sb, q1, q2, q3⟩ := compL_cons hL
    refine ⟨w.goes i φ H hlt hK, fun H' => WInv g.C φ1 H1 D φ0 H0 (compL (fun x => asgT t x (wipeE env own)) (fun en => evIfs G ifs en) (elt1 G a')) items tot S2 (i + 1) (items.length - (i + 1)) H', fun H' n => ⟨_, by omega, n⟩, fun x H' hy => ?_⟩
    obtain ⟨e2, s2, r2⟩ := w.yields i φ H S x H' _ (List.getElem?_eq_getElem hlt) hK hA.rs hy
    have hA2 := hA.step e2 s2
    have k2 : Kp φ0 H0 φ H' := hK.trans e2.kp
    refine ⟨φ, S, _, _, en, s2, (en0.mono k2).wipe own, r2, q1, fun σ' n1 n2 => ⟨?_, ?_⟩⟩
    · refine (wipe_in (σ := L2.wipe σ own) ?_ own fun i hi => n2 i fun h => hi (ho i h)).trans (wipe_in (wipe_length _ _) own fun i hi => wipe_out hi)
      rw [← n1.len, asgT_len t _ _ _ q1, ((en0.mono k2).wipe own).len]
    · refine ⟨φ, S, en, s2, n1, ?_⟩
      show Post g.C E0 EqB φ H' (evIfs G ifs en S) _
      rw [show evIfs G ifs en S = .ok b Sb from q2]
      intro φ3 H3 b' e3 s3 hb
      cases hb
      have hA3 := hA2.step e3 s3
      have k3 : Kp φ0 H0 φ3 H3 := k2.trans e3.kp
      rcases q3 with ⟨hb, y, Sy, r, q4, q5, q6⟩ | ⟨hb, q4⟩
      · subst hb
        rw [if_pos rfl]
        obtain ⟨yv, Sv, q7, q8⟩ := bind_ok q4
        obtain ⟨q8, rfl⟩ := ofO_ok q8
        refine ⟨φ3, Sb, en, s3, n1.mono e3.kp, ?_⟩
        show Post g.C E0 (RepE g.C) φ3 H3 (ev G a' en Sb) _
        rw [q7]
        intro φ4 H4 z e4 s4 rz
        cases yv with
        | box n => cases q8
        | fn n => cases q8
        | p v0 =>
          cases q8
          have hA4 := hA3.step e4 s4
          obtain ⟨accV, h1, h2, h3⟩ := hA4.push hD hR (show Rep g.C.K φ4 H4 z y from rz)
          refine ⟨accV, h1, ?_, by omega, rfl, φ4, Sy, acc ++ [y], r, h3, (k3.trans e4.kp).trans (kp_upd hA4.hid), q5, by rw [List.append_assoc, ← hT, q6]; rfl⟩
          rw [h2, line_eq]
          have : (acc ++ rest).length ≤ Line := by rw [hT]; exact hl
          rw [List.length_append, q6, List.length_cons] at this
          omega
      · subst hb
        rw [if_neg (by simp)]
        exact ⟨by omega, rfl, φ3, Sb, acc, rest, hA3, k3, q4, hT⟩
  · left
    have hie : i = items.length := by omega
    subst hie
    rw [List.drop_length] at hL
    obtain ⟨rfl, rfl⟩ := pure_ok (show M.pure ([] : List PV) S = .ok rest S2 from hL)
    rw [List.append_nil] at hT
    subst hT
    exact ⟨w.stops φ H hK, hq φ H hA hK⟩
/-- the walk of two sources, one within another -/
abbrev sub2 (G : Nat → List EV → M EV) (a' : Ex) (it1 : Itx) (t1 : Tg) (ifs1 : List Ex) (own1 : List Nat) : Nv → M (List PV) := fun en => M.bind (evIt G it1 en) fun ys => compL (fun y => asgT t1 y (wipeE en own1)) (fun en1 => evIfs G ifs1 en1) (elt1 G a') ys
theorem loop_core2 {g : Gc} {G : Nat → List EV → M EV} {t t1 : Tg} {ifs ifs1 : List Ex} {it1 : Itx} {a' : Ex} {own own1 : List Nat} {J : It} {items tot acc0 vs : List PV} {φ1 φ0 : Ph} {H1 H0 : Hp} {D : Addr} {S0 S2 : Store} {env : Nv} {σ : L2.St} {Qe : Hp → Prop}
    (ho : ∀ i, i ∈ tgSl t → i ∈ own) (ho1 : ∀ i, i ∈ tgSl t1 → i ∈ own1) (hD : H1 D = none) (hR : ∀ a, φ1.has a → H1 a ≠ none) (h0 : AccI g.C φ1 H1 D φ0 H0 S0 acc0) (w : WalkP g.C J items φ0 H0) (en0 : RepEnv g.C φ0 H0 env σ)
    (hc : compF (fun x => asgT t x (wipeE env own)) (fun en => evIfs G ifs en) (sub2 G a' it1 t1 ifs1 own1) items S0 = .ok vs S2) (ht : acc0 ++ vs = tot) (hl : tot.length ≤ Line) (hq : ∀ φ H, AccI g.C φ1 H1 D φ H S2 tot → Kp φ0 H0 φ H → Qe H) :
    ∃ W : Nat → Nat → Hp → Prop, (∃ m, W 0 m H0) ∧ ∀ i m H, W i m H → (J.stop i H ∧ Qe H) ∨ (J.go i H ∧ ∃ Nx : Hp → Prop, (∀ H', Nx H' → ∃ m', m' < m ∧ W (i + 1) m' H') ∧ ∀ x H', J.yld i H x H' → tG g t x (L2.wipe σ own) H' fun σ2 H2 => L2.wipe σ2 own = L2.wipe σ own ∧ tIfs g E0 G ifs σ2 H2 fun b H3 =>
      if b = true then tIt g E0 G it1 σ2 H3 fun J1 H4 => ∃ W1 : Nat → Nat → Hp → Prop, (∃ m, W1 0 m H4) ∧ ∀ j k H, W1 j k H →
        (J1.stop j H ∧ Nx H) ∨ (J1.go j H ∧ ∃ Nx1 : Hp → Prop, (∀ H', Nx1 H' → ∃ k', k' < k ∧ W1 (j + 1) k' H') ∧ ∀ x H', J1.yld j H x H' → tG g t1 x (L2.wipe σ2 own1) H' fun σ3 H5 => L2.wipe σ3 own1 = L2.wipe σ2 own1 ∧ tIfs g E0 G ifs1 σ3 H5 fun b H6 =>
          if b = true then tE g E0 G a' σ3 H6 fun y H7 => ∃ acc, H7 D = some (.lst acc) ∧ acc.length < sizeLine ∧ Nx1 (upd H7 D (.lst (acc ++ [y]))) else Nx1 H6)
      else Nx H3) := by
  refine ⟨WInv g.C φ1 H1 D φ0 H0 (compF (fun x => asgT t x (wipeE env own)) (fun en => evIfs G ifs en) (sub2 G a' it1 t1 ifs1 own1)) items tot S2,
    ⟨_, Nat.zero_le _, rfl, φ0, S0, acc0, vs, h0, ⟨Nat.le_refl _, fun _ _ _ q => q, fun a o q n => ⟨n, q⟩⟩, by rw [List.drop_zero]; exact hc, ht⟩, fun i m H W => ?_⟩
  obtain ⟨hi, rfl, φ, S, acc, rest, hA, hK, hL, hT⟩ := W
  by_cases hlt : i < items.length
  · right
    have hdr : items.drop i = items[i] :: items.drop (i + 1) := List.drop_eq_getElem_cons hlt
    rw [hdr] at hL
    obtain ⟨en, b, Sb, q1, q2, q3⟩ := compF_cons hL
    refine ⟨w.goes i φ H hlt hK, fun H' => WInv g.C φ1 H1 D φ0 H0 (compF (fun x => asgT t x (wipeE env own)) (fun en => evIfs G ifs en) (sub2 G a' it1 t1 ifs1 own1)) items tot S2 (i + 1) (items.length - (i + 1)) H', fun H' n => ⟨_, by omega, n⟩, fun x H' hy => ?_⟩
    obtain ⟨e2, s2, r2⟩ := w.yields i φ H S x H' _ (List.getElem?_eq_getElem hlt) hK hA.rs hy
    have hA2 := hA.step e2 s2
    have k2 : Kp φ0 H0 φ H' := hK.trans e2.kp
    refine ⟨φ, S, _, _, en, s2, (en0.mono k2).wipe own, r2, q1, fun σ' n1 n2 => ⟨?_, ?_⟩⟩
    · refine (wipe_in (σ := L2.wipe σ own) ?_ own fun i hi => n2 i fun h => hi (ho i h)).trans (wipe_in (wipe_length _ _) own fun i hi => wipe_out hi)
      rw [← n1.len, asgT_len t _ _ _ q1, ((en0.mono k2).wipe own).len]
    · refine ⟨φ, S, en, s2, n1, ?_⟩
      show Post g.C E0 EqB φ H' (evIfs G ifs en S) _
      rw [show evIfs G ifs en S = .ok b Sb from q2]
      intro φ3 H3 b' e3 s3 hb
      cases hb
      have hA3 := hA2.step e3 s3
      have k3 : Kp φ0 H0 φ3 H3 := k2.trans e3.kp
      rcases q3 with ⟨hb, y, Sy, r, q4, q5, q6⟩ | ⟨hb, q4⟩
      · subst hb
        rw [if_pos rfl]
        obtain ⟨ys, Sv, q7, q8⟩ := bind_ok q4
        refine ⟨φ3, Sb, en, s3, n1.mono e3.kp, ?_⟩
        show Post g.C E0 _ φ3 H3 (evIt G it1 en Sb) _
        rw [q7]
        intro φ4 H4 J1 e4 s4 w4
        have hA4 := hA3.step e4 s4
        have hlen : (acc ++ y).length ≤ Line := by
          have : (acc ++ rest).length ≤ Line := by rw [hT]; exact hl
          rw [q6, ← List.append_assoc, List.length_append] at this
          omega
        refine loop_core ho1 hD hR hA4 w4 ((n1.mono e3.kp).mono e4.kp) q8 rfl hlen fun φ5 H5 hA5 k5 => ?_
        exact ⟨by omega, rfl, φ5, Sy, acc ++ y, r, hA5, (k3.trans e4.kp).trans k5, q5, by rw [List.append_assoc, ← hT, q6]⟩
      · subst hb
        rw [if_neg (by simp)]
        exact ⟨by omega, rfl, φ3, Sb, acc, rest, hA3, k3, q4, hT⟩
  · left
    have hie : i = items.length := by omega
    subst hie
    rw [List.drop_length] at hL
    obtain ⟨rfl, rfl⟩ := pure_ok (show M.pure ([] : List PV) S = .ok rest S2 from hL)
    rw [List.append_nil] at hT
    subst hT
    exact ⟨w.stops φ H hK, hq φ H hA hK⟩
theorem Post.noX {C : RC} {E : EX} {φ : Ph} {H : Hp} {S : Store} {m : M (List PV)} {δ : Type} {R2 : Ph → Hp → δ → EV → Prop} {Q : δ → Hp → Prop} (h : Post C E R2 φ H (M.bind (Ip.noX m) lineL S) Q) : ∃ vs S2, m S = .ok vs S2 ∧ vs.length ≤ Line ∧ Post C E R2 φ H (.ok (.p (.lst vs)) S2) Q := by
  unfold M.bind Ip.noX at h
  cases q : m S with
  | ok vs S2 =>
    rw [q] at h
    dsimp only [lineL] at h
    by_cases hl : vs.length ≤ Line
    · rw [if_pos hl] at h
      exact ⟨vs, S2, rfl, hl, h⟩
    · rw [if_neg hl] at h; exact h.elim
  | exc _ _ => rw [q] at h; exact h.elim
  | stuck => rw [q] at h; exact h.elim
theorem comp_t {g : Gc} {E : EX} {G : Nat → List EV → M EV} {t : Tg} {it : Itx} {ifs : List Ex} {a' : Ex} {own : List Nat} (ho : ∀ i, i ∈ tgSl t → i ∈ own) {σ : L2.St} {H : Hp} {Q : V → Hp → Prop} (q : tE g E G (.comp a' own t it ifs) σ H Q) :
    tLc (tIt g E G it) (tG g t) (tIfs g E0 G ifs) (tE g E0 G a') own σ H Q := by
  obtain ⟨φ, S, env, hS, hE, q⟩ := q
  simp only [ev] at q
  refine (step (R := fun φ H J items => WalkP g.C J items φ H) hS hE q).mono fun J H1 n => ?_
  obtain ⟨φ1, S1, items, eq, e1, s1, en1, w1, p1⟩ := n
  obtain ⟨vs, S2, q1, hl, p2⟩ := Post.noX p1
  intro D hD
  have h0 := AccI.start s1 hD
  refine loop_core (tot := vs) ho hD s1.there h0 (w1.mono h0.ext.kp) (en1.mono h0.ext.kp) q1 rfl hl fun φ5 H5 hA5 k5 => ?_
  obtain ⟨φ6, e6, s6, r6⟩ := hA5.done hD s1.there
  exact p2 φ6 H5 _ e6 s6 r6
theorem Post.noXN {C : RC} {E : EX} {φ : Ph} {H : Hp} {S : Store} {m : M (List PV)} {δ : Type} {R2 : Ph → Hp → δ → EV → Prop} {Q : δ → Hp → Prop} (h : Post C E R2 φ H (M.bind (Ip.noX m) (fun vs => M.bind (lineL vs) fun _ => newCell (.lst vs)) S) Q) : ∃ vs S2, m S = .ok vs S2 ∧ vs.length ≤ Line ∧ Post C E R2 φ H (.ok (.box S2.length) (S2 ++ [.lst vs])) Q := by
  unfold M.bind Ip.noX at h
  cases q : m S with
  | ok vs S2 =>
    rw [q] at h
    dsimp only [lineL] at h
    by_cases hl : vs.length ≤ Line
    · rw [if_pos hl] at h
      exact ⟨vs, S2, rfl, hl, h⟩
    · rw [if_neg hl] at h; exact h.elim
  | exc _ _ => rw [q] at h; exact h.elim
  | stuck => rw [q] at h; exact h.elim
theorem compN_t {g : Gc} {E : EX} {G : Nat → List EV → M EV} {t : Tg} {it : Itx} {ifs : List Ex} {a' : Ex} {own : List Nat} (ho : ∀ i, i ∈ tgSl t → i ∈ own) {σ : L2.St} {H : Hp} {Q : V → Hp → Prop} (q : tE g E G (.newC a' own t it ifs) σ H Q) :
    tLc (tIt g E G it) (tG g t) (tIfs g E0 G ifs) (tE g E0 G a') own σ H Q := by
  obtain ⟨φ, S, env, hS, hE, q⟩ := q
  simp only [ev] at q
  refine (step (R := fun φ H J items => WalkP g.C J items φ H) hS hE q).mono fun J H1 n => ?_
  obtain ⟨φ1, S1, items, eq, e1, s1, en1, w1, p1⟩ := n
  obtain ⟨vs, S2, q1, hl, p2⟩ := Post.noXN p1
  intro D hD
  have h0 := AccI.start s1 hD
  refine loop_core (tot := vs) ho hD s1.there h0 (w1.mono h0.ext.kp) (en1.mono h0.ext.kp) q1 rfl hl fun φ5 H5 hA5 k5 => ?_
  obtain ⟨φ6, e6, s6, r6⟩ := hA5.doneB hD s1.there
  exact p2 φ6 H5 _ e6 s6 r6
theorem comp2_t {g : Gc} {E : EX} {G : Nat → List EV → M EV} {t t1 : Tg} {it it1 : Itx} {ifs ifs1 : List Ex} {a' : Ex} {own own1 : List Nat} (ho : ∀ i, i ∈ tgSl t → i ∈ own) (ho1 : ∀ i, i ∈ tgSl t1 → i ∈ own1) {σ : L2.St} {H : Hp} {Q : V → Hp → Prop} (q : tE g E G (.comp2 a' own t it ifs own1 t1 it1 ifs1) σ H Q) :
    tLc2 (tIt g E G it) (tG g t) (tIfs g E0 G ifs) (tIt g E0 G it1) (tG g t1) (tIfs g E0 G ifs1) (tE g E0 G a') own own1 σ H Q := by
  obtain ⟨φ, S, env, hS, hE, q⟩ := q
  simp only [ev] at q
  refine (step (R := fun φ H J items => WalkP g.C J items φ H) hS hE q).mono fun J H1 n => ?_
  obtain ⟨φ1, S1, items, eq, e1, s1, en1, w1, p1⟩ := n
  obtain ⟨vs, S2, q1, hl, p2⟩ := Post.noX p1
  intro D hD
  have h0 := AccI.start s1 hD
  refine loop_core2 (tot := vs) ho ho1 hD s1.there h0 (w1.mono h0.ext.kp) (en1.mono h0.ext.kp) q1 rfl hl fun φ5 H5 hA5 k5 => ?_
  obtain ⟨φ6, e6, s6, r6⟩ := hA5.done hD s1.there
  exact p2 φ6 H5 _ e6 s6 r6
section
variable {g : Gc} {E : EX} {T : Tb} {G : Nat → List EV → M EV} {ck : Ck} {k : Nat} {CX : CXT} {Wish : XK} {X : Cx}
theorem PTs.imp {es : List Expr} {t t' : TT} (h : PTs X es t) (i : ∀ σ H Q, t' σ H Q → t σ H Q) : PTs X es t' := ⟨fun pins s σ H Q I q => h.run pins s σ H Q I (i _ _ _ q)⟩
/-- the block of a comprehension fits, too -/
theorem Fits.blk (F : Fits g E T G ck k CX Wish X) (s : Shared) (H : Hp) (scope : Scope) (C : Addr) (cl : List (Str × Addr)) (fp : List Addr) : Fits g E0 T G (blkCk ck scope) k CX (fun _ _ _ => False) (X.blk s H scope (compEnvC scope cl C X.env) fp) where
  hN := F.hN
  nd := F.nd
  sc := by show relS scope X.env.scope = relS scope ck.sc; rw [F.sc]
  calm := F.calm
  hX := ⟨F.hX.k, F.hX.p, F.hX.w⟩
  room := F.room
  top := fun h => by cases h
  fx := F.fx
  pass := fun pins σ H s e s' _ h => F.cx0 _ _ _ _ _ h
  hE := fun _ _ _ _ h => h.elim
  cx0 := F.cx0
  own := PassesOwn.never
  grd := F.grd
theorem mtI_fsi {it : Itx} {tg e : Expr} (h : mtI T it ck tg e = true) : ∀ env x, foldedSetIterable e env x = pure x := by
  cases e with
  | Set elts kk pos =>
    cases it with
    | seq a => cases a <;> simp only [mtI, mtE, Bool.false_eq_true] at h
    | rng1 a => simp only [mtI, Bool.false_eq_true] at h
    | rng2 a b => simp only [mtI, Bool.false_eq_true] at h
    | enum a => cases tg <;> simp only [mtI, Bool.false_eq_true] at h
    | zip a b => cases tg <;> simp only [mtI, Bool.false_eq_true] at h
  | _ => intro env x; rfl
end
end Ip

set_option Elab.async false
set_option linter.all false
set_option maxRecDepth 100000
set_option maxHeartbeats 4000000
/-! Ip, part 15: all expressions. -/
namespace Ip
open PySem L2 PySem.Spec PyProof.Rows
section
variable {g : Gc} {E : EX} {T : Tb} {G : Nat → List EV → M EV} {ck : Ck} {k : Nat} {CX : CXT} {Wish : XK} {X : Cx}
abbrev Thr (X : Cx) (g : Gc) (E : EX) (G : Nat → List EV → M EV) (e : Expr) (a' : Ex) : Prop := Both X g E G e a' ∧ ∀ op es p, e = .BoolOp op es p → PW X e (tT g E G a')
theorem thr_of {e : Expr} {a' : Ex} (h : Both X g E G e a') (hn : ∀ op es p, e ≠ .BoolOp op es p) : Thr X g E G e a' := ⟨h, fun op es p q => absurd q (hn op es p)⟩
theorem pe_thr (F : Fits g E T G ck k CX Wish X) {e : Expr} {a' : Ex} (h : PE X e (tE g E G a')) (he : ∀ whole, isTrue e X.env whole = (do let v ← whole; standAt e.pos; holding [v] (truthy v))) (hn : ∀ op es p, e ≠ .BoolOp op es p) : Thr X g E G e a' := thr_of (both_of F h he) hn
theorem ownP_2 (N : List Str) (own : List Nat) : (ownP N own).map (·.2) = own := by
  unfold ownP
  rw [List.map_map]
  exact List.map_id own
mutual
theorem snd_e (hcx : True) : ∀ (a' : Ex) {E : EX} {ck : Ck} {Wish : XK} {X : Cx} (F : Fits g E T G ck k CX Wish X) (e : Expr), mtE T a' ck e = true → Thr X g E G e a'
  | .var i, E, ck, Wish, X, F, e, h => thr_of (s_var F h) (by intro op es p q; subst q; simp only [mtE, Bool.false_eq_true] at h)
  | .con v, E, ck, Wish, X, F, e, h => thr_of (s_con F h) (by intro op es p q; subst q; simp only [mtE, Bool.false_eq_true] at h)
  | .glo x v, E, ck, Wish, X, F, e, h => thr_of (s_glo F h) (by intro op es p q; subst q; simp only [mtE, Bool.false_eq_true] at h)
  | .fnv f, E, ck, Wish, X, F, e, h => thr_of (s_fnv F h) (by intro op es p q; subst q; simp only [mtE, Bool.false_eq_true] at h)
  | .tup es, E, ck, Wish, X, F, e, h => by
    cases e <;> simp only [mtE, Bool.false_eq_true] at h <;> try (cases h; done)
    simp only [Bool.and_eq_true, decide_eq_true_eq] at h
    exact pe_thr F (s_tup F (snd_es hcx es F _ h.1) h.2 (mtEs_len h.1)) (fun _ => rfl) (by intros; simp)
  | .lst es, E, ck, Wish, X, F, e, h => by
    cases e <;> simp only [mtE, Bool.false_eq_true] at h <;> try (cases h; done)
    simp only [Bool.and_eq_true, decide_eq_true_eq] at h
    exact pe_thr F (s_lst F (snd_es hcx es F _ h.1) h.2 (mtEs_len h.1)) (fun _ => rfl) (by intros; simp)
  | .newL es, E, ck, Wish, X, F, e, h => by
    cases e <;> simp only [mtE, Bool.false_eq_true] at h <;> try (cases h; done)
    simp only [Bool.and_eq_true, decide_eq_true_eq] at h
    exact pe_thr F (s_newL F (snd_es hcx es F _ h.1) h.2 (mtEs_len h.1)) (fun _ => rfl) (by intros; simp)
  | .dsp n es, E, ck, Wish, X, F, e, h => by
    simp only [mtE] at h
    split at h
    · simp only [Bool.and_eq_true, decide_eq_true_eq] at h
      rename_i pos
      obtain ⟨h1, h2, h3, h4⟩ := snd_ds hcx es (pos := pos) F _ _ h.1
      exact pe_thr F (s_dsp F h1 h2 h3 h4 h.2) (fun _ => rfl) (by intros; simp)
    · cases h
  | .newD n es, E, ck, Wish, X, F, e, h => by
    simp only [mtE] at h
    split at h
    · simp only [Bool.and_eq_true, decide_eq_true_eq] at h
      rename_i pos
      obtain ⟨h1, h2, h3, h4⟩ := snd_ds hcx es (pos := pos) F _ _ h.1
      exact pe_thr F (s_newD F h1 h2 h3 h4 h.2) (fun _ => rfl) (by intros; simp)
    · cases h
  | .bin op a b, E, ck, Wish, X, F, e, h => by
    cases e <;> simp only [mtE, Bool.false_eq_true] at h <;> try (cases h; done)
    simp only [Bool.and_eq_true, decide_eq_true_eq] at h
    obtain ⟨⟨rfl, h1⟩, h2⟩ := h
    exact pe_thr F (s_bin F op (snd_e hcx a F _ h1).1.1 (snd_e hcx b F _ h2).1.1) (fun _ => rfl) (by intros; simp)
  | .neg a, E, ck, Wish, X, F, e, h => by
    simp only [mtE] at h
    split at h
    · exact pe_thr F (s_neg F (snd_e hcx a F _ h).1.1) (fun _ => rfl) (by intros; simp)
    · cases h
  | .cmp op a b, E, ck, Wish, X, F, e, h => by
    simp only [mtE] at h
    split at h
    · simp only [Bool.and_eq_true, decide_eq_true_eq] at h
      obtain ⟨⟨rfl, h1⟩, h2⟩ := h
      exact thr_of (s_cmp F op h2 (snd_e hcx a F _ h1).1.1 (snd_e hcx b F _ h2).1.1) (by intros; simp)
    · cases h
  | .chn o1 o2 a b c, E, ck, Wish, X, F, e, h => by
    simp only [mtE] at h
    split at h
    · simp only [Bool.and_eq_true, decide_eq_true_eq] at h
      obtain ⟨⟨⟨⟨rfl, rfl⟩, h1⟩, h2⟩, h3⟩ := h
      exact thr_of (s_chn F o1 o2 h3 (snd_e hcx a F _ h1).1.1 (snd_e hcx b F _ h2).1.1 (snd_e hcx c F _ h3).1.1) (by intros; simp)
    · cases h
  | .and a b, E, ck, Wish, X, F, e, h => by
    simp only [mtE] at h
    split at h
    · simp only [Bool.and_eq_true] at h
      have hb := snd_e hcx b F _ h.2
      rename_i x y pos
      have r := s_and (pos := pos) F (snd_e hcx a F _ h.1).1 (pe_one hb.1.1) (pw_and1 hb.1.2)
      exact ⟨r.1, fun _ _ _ _ => r.2⟩
    · simp only [Bool.and_eq_true] at h
      have hb := snd_e hcx b F _ h.2
      have r := s_and F (snd_e hcx a F _ h.1).1 hb.1.1 (hb.2 _ _ _ rfl)
      exact ⟨r.1, fun _ _ _ _ => r.2⟩
    · cases h
  | .or a b, E, ck, Wish, X, F, e, h => by
    simp only [mtE] at h
    split at h
    · simp only [Bool.and_eq_true] at h
      have hb := snd_e hcx b F _ h.2
      rename_i x y pos
      have r := s_or (pos := pos) F (snd_e hcx a F _ h.1).1 (pe_one hb.1.1) (pw_or1 hb.1.2)
      exact ⟨r.1, fun _ _ _ _ => r.2⟩
    · simp only [Bool.and_eq_true] at h
      have hb := snd_e hcx b F _ h.2
      have r := s_or F (snd_e hcx a F _ h.1).1 hb.1.1 (hb.2 _ _ _ rfl)
      exact ⟨r.1, fun _ _ _ _ => r.2⟩
    · cases h
  | .not a, E, ck, Wish, X, F, e, h => by
    simp only [mtE] at h
    split at h
    · exact thr_of (s_not F (snd_e hcx a F _ h).1) (by intros; simp)
    · cases h
  | .ite c a b, E, ck, Wish, X, F, e, h => by
    simp only [mtE] at h
    split at h
    · simp only [Bool.and_eq_true] at h
      exact thr_of (s_ite F (snd_e hcx c F _ h.1.1).1 (snd_e hcx a F _ h.1.2).1 (snd_e hcx b F _ h.2).1) (by intros; simp)
    · cases h
  | .ix a i, E, ck, Wish, X, F, e, h => by
    simp only [mtE] at h
    split at h
    · simp only [Bool.and_eq_true] at h
      exact pe_thr F (s_ix F h.2 (snd_e hcx a F _ h.1.1).1.1 (snd_e hcx i F _ h.1.2).1.1) (fun _ => rfl) (by intros; simp)
    · cases h
  | .sl a lo hi, E, ck, Wish, X, F, e, h => by
    simp only [mtE] at h
    split at h
    · simp only [Bool.and_eq_true] at h
      exact pe_thr F (s_sl F (snd_e hcx a F _ h.1.1).1.1 (snd_o hcx lo F _ h.1.2) (snd_o hcx hi F _ h.2)) (fun _ => rfl) (by intros; simp)
    · cases h
  | .call f es, E, ck, Wish, X, F, e, h => by
    simp only [mtE] at h
    split at h
    · simp only [Bool.and_eq_true, decide_eq_true_eq] at h
      exact pe_thr F (s_call F h.1.1 h.1.2 h.2 (snd_es hcx es F _ h.2)) (fun _ => rfl) (by intros; simp)
    · cases h
  | .callv i es, E, ck, Wish, X, F, e, h => by simp only [mtE, Bool.false_eq_true] at h
  | .blt b es, E, ck, Wish, X, F, e, h => by
    simp only [mtE] at h
    split at h
    · rename_i xs _
      simp only [Bool.and_eq_true, decide_eq_true_eq] at h
      obtain ⟨⟨⟨rfl, h1⟩, h2⟩, h3⟩ := h
      cases xs with
      | nil => simp at h3
      | cons y ys => exact pe_thr F (s_blt F h1 h2 (snd_es hcx es F _ h2)) (fun _ => rfl) (by intros; simp)
    · cases h
  | .meth m o es, E, ck, Wish, X, F, e, h => by
    simp only [mtE] at h
    split at h
    · simp only [Bool.and_eq_true, decide_eq_true_eq] at h
      obtain ⟨⟨⟨⟨⟨⟨h1, h2⟩, h3⟩, h4⟩, h5⟩, h6⟩, h7⟩ := h
      exact pe_thr F (s_meth F (snd_e hcx o F _ h1).1.1 h2 h3 h4 h5 h6 h7 (snd_es hcx es F _ h6)) (fun _ => rfl) (by intros; simp)
    · cases h
  | .isi a kd, E, ck, Wish, X, F, e, h => by
    simp only [mtE] at h
    split at h
    · simp only [Bool.and_eq_true, decide_eq_true_eq] at h
      obtain ⟨⟨⟨⟨rfl, h1⟩, rfl⟩, h2⟩, h3⟩ := h
      exact pe_thr F (s_isi F h1 h2 h3 (snd_e hcx a F _ h3).1.1) (fun _ => rfl) (by intros; simp)
    · cases h
  | .comp a own t it ifs, E, ck, Wish, X, F, e, h => by
    simp only [mtE] at h
    split at h
    · simp only [Bool.and_eq_true, decide_eq_true_eq, List.all_eq_true, List.contains_iff_mem] at h
      obtain ⟨⟨⟨⟨⟨⟨h1, h2⟩, h3⟩, h4⟩, h5⟩, h6⟩, h7⟩ := h
      rename_i pos
      have ok := blkOk_by h6
      rw [← F.hN, ← F.sc] at ok
      have key := pe_lc (pos := pos) F.calm (by rw [F.hN]; exact F.nd) (snd_it hcx it F _ _ h2) ok
        (fun s H C cl fp => snd_g (F.blk s H _ C cl fp) t _ h1) (fun s H C cl fp => snd_ifs hcx ifs (F.blk s H _ C cl fp) _ h3 h4) (fun s H C cl fp => (snd_e hcx a (F.blk s H _ C cl fp) _ h5).1.1) (fun x => mtI_fsi h2 _ x)
      refine pe_thr F (PE.imp key fun σ H Q q => ?_) (fun _ => rfl) (by intros; simp)
      rw [F.hN, ownP_2]
      exact comp_t h7 q
    · cases h
  | .newC a own t it ifs, E, ck, Wish, X, F, e, h => by
    simp only [mtE] at h
    split at h
    · simp only [Bool.and_eq_true, decide_eq_true_eq, List.all_eq_true, List.contains_iff_mem] at h
      obtain ⟨⟨⟨⟨⟨⟨h1, h2⟩, h3⟩, h4⟩, h5⟩, h6⟩, h7⟩ := h
      rename_i pos
      have ok := blkOk_by h6
      rw [← F.hN, ← F.sc] at ok
      have key := pe_lc (pos := pos) F.calm (by rw [F.hN]; exact F.nd) (snd_it hcx it F _ _ h2) ok
        (fun s H C cl fp => snd_g (F.blk s H _ C cl fp) t _ h1) (fun s H C cl fp => snd_ifs hcx ifs (F.blk s H _ C cl fp) _ h3 h4) (fun s H C cl fp => (snd_e hcx a (F.blk s H _ C cl fp) _ h5).1.1) (fun x => mtI_fsi h2 _ x)
      refine pe_thr F (PE.imp key fun σ H Q q => ?_) (fun _ => rfl) (by intros; simp)
      rw [F.hN, ownP_2]
      exact compN_t h7 q
    · cases h
  | .newDL a, E, ck, Wish, X, F, e, h => by
    simp only [mtE] at h
    split at h
    · simp only [Bool.and_eq_true, decide_eq_true_eq] at h
      obtain ⟨⟨rfl, h1⟩, h2⟩ := h
      exact pe_thr F (s_newDL F h1 h2 (snd_e hcx a F _ h2).1.1) (fun _ => rfl) (by intros; simp)
    · cases h
  | .zipV t a b, E, ck, Wish, X, F, e, h => by
    simp only [mtE] at h
    split at h
    · simp only [Bool.and_eq_true, decide_eq_true_eq] at h
      obtain ⟨⟨⟨⟨⟨rfl, h1⟩, rfl⟩, h2⟩, h3⟩, h4⟩ := h
      exact pe_thr F (s_zipV F t h1 h2 h3 h4 (snd_e hcx a F _ h3).1.1 (snd_e hcx b F _ h4).1.1) (fun _ => rfl) (by intros; simp)
    · cases h
  | .slR a c, E, ck, Wish, X, F, e, h => by
    simp only [mtE] at h
    split at h
    · simp only [Bool.and_eq_true] at h
      exact pe_thr F (s_slR F (snd_e hcx a F _ h.1).1.1 (snd_e hcx c F _ h.2).1.1) (fun _ => rfl) (by intros; simp)
    · cases h
  | .rngV t a, E, ck, Wish, X, F, e, h => by
    simp only [mtE] at h
    split at h
    · simp only [Bool.and_eq_true, decide_eq_true_eq] at h
      obtain ⟨⟨⟨⟨rfl, h1⟩, rfl⟩, h2⟩, h3⟩ := h
      exact pe_thr F (s_rngV F t h1 h2 h3 (snd_e hcx a F _ h3).1.1) (fun _ => rfl) (by intros; simp)
    · cases h
  | .comp2 a own t it ifs own1 t1 it1 ifs1, E, ck, Wish, X, F, e, h => by
    simp only [mtE] at h
    split at h
    · simp only [Bool.and_eq_true, decide_eq_true_eq, List.all_eq_true, List.contains_iff_mem] at h
      obtain ⟨⟨⟨⟨⟨⟨⟨⟨⟨⟨⟨⟨h1, h2⟩, h3⟩, h4⟩, h5⟩, h6⟩, h7⟩, h8⟩, h9⟩, h10⟩, h11⟩, h12⟩, h13⟩ := h
      rename_i pos
      have ok := blkOk_by h10
      rw [← F.hN, ← F.sc] at ok
      have key := pe_lc2 (pos := pos) (vs1 := own1) F.calm (by rw [F.hN]; exact F.nd) (snd_it hcx it F _ _ h2) ok (by simpa [ownP] using h11)
        (fun s H C cl fp => snd_g (F.blk s H _ C cl fp) t _ h1) (fun s H C cl fp => snd_ifs hcx ifs (F.blk s H _ C cl fp) _ h3 h4)
        (fun s H C cl fp => snd_it hcx it1 (F.blk s H _ C cl fp) _ _ h6)
        (fun s H C cl fp => snd_g (F.blk s H _ C cl fp) t1 _ h5) (fun s H C cl fp => snd_ifs hcx ifs1 (F.blk s H _ C cl fp) _ h7 h8)
        (fun s H C cl fp => (snd_e hcx a (F.blk s H _ C cl fp) _ h9).1.1) (fun x => mtI_fsi h2 _ x) (fun en x => mtI_fsi h6 en x)
      refine pe_thr F (PE.imp key fun σ H Q q => ?_) (fun _ => rfl) (by intros; simp)
      rw [F.hN, ownP_2]
      exact comp2_t h12 h13 q
    · cases h
theorem snd_o (hcx : True) : ∀ (a' : Option Ex) {E : EX} {ck : Ck} {Wish : XK} {X : Cx} (F : Fits g E T G ck k CX Wish X) (e : Option Expr), mtO T a' ck e = true → PO X e (tO g E G a')
  | none, E, ck, Wish, X, F, e, h => by
    cases e with
    | none => exact s_onone
    | some e => simp [mtO] at h
  | some a, E, ck, Wish, X, F, e, h => by
    cases e with
    | none => simp only [mtO, Bool.false_eq_true] at h
    | some e =>
      simp only [mtO] at h
      exact s_osome (snd_e hcx a F _ h).1.1
theorem snd_ds (hcx : True) : ∀ (as : List Ex) {pos : Pos} {E : EX} {ck : Ck} {Wish : XK} {X : Cx} (F : Fits g E T G ck k CX Wish X) (ks : List (Option Expr)) (vs : List Expr), mtDs T as ck ks vs = true → PD X pos ks vs (tA g E G as) ∧ ks.all (·.isSome) = true ∧ ks.length = vs.length ∧ as.length = 2 * ks.length
  | [], pos, E, ck, Wish, X, F, ks, vs, h => by
    simp only [mtDs, Bool.and_eq_true, List.isEmpty_iff] at h
    obtain ⟨rfl, rfl⟩ := h
    exact ⟨s_dnil, rfl, rfl, rfl⟩
  | [_], pos, E, ck, Wish, X, F, ks, vs, h => by simp only [mtDs, Bool.false_eq_true] at h
  | a :: b :: r, pos, E, ck, Wish, X, F, ks, vs, h => by
    simp only [mtDs] at h
    split at h
    · rename_i k ks v vs
      simp only [Bool.and_eq_true] at h
      obtain ⟨p1, p2, p3, p4⟩ := snd_ds hcx r (pos := pos) F ks vs h.2
      exact ⟨s_dcons (snd_e hcx a F _ h.1.1).1.1 (snd_e hcx b F _ h.1.2).1.1 p1, by simpa using p2, by simp [p3], by simp [p4]; omega⟩
    · cases h
theorem snd_es (hcx : True) : ∀ (as : List Ex) {E : EX} {ck : Ck} {Wish : XK} {X : Cx} (F : Fits g E T G ck k CX Wish X) (es : List Expr), mtEs T as ck es = true → PA X es (tA g E G as)
  | [], E, ck, Wish, X, F, es, h => by
    cases es with
    | nil => exact s_nil
    | cons e es => simp only [mtEs, List.isEmpty_cons, Bool.false_eq_true] at h
  | a :: as, E, ck, Wish, X, F, es, h => by
    cases es with
    | nil => simp only [mtEs, Bool.false_eq_true] at h
    | cons e es =>
      simp only [mtEs, Bool.and_eq_true] at h
      exact s_cons h.1 (snd_e hcx a F _ h.1).1.1 (snd_es hcx as F _ h.2)
theorem snd_ifs (hcx : True) : ∀ (as : List Ex) {E : EX} {ck : Ck} {Wish : XK} {X : Cx} (F : Fits g E T G ck k CX Wish X) (es : List Expr), mtEs T as ck es = true → es.length ≤ 1 → PTs X es (tIfs g E G as)
  | [], E, ck, Wish, X, F, es, h, hl => by
    cases es with
    | nil =>
      refine PTs.imp pts_nil fun σ H Q q => ?_
      obtain ⟨φ, S, env, hS, hE, q⟩ := q
      simp only [evIfs] at q
      exact q φ H true (Ext.refl _ _) hS rfl
    | cons e es => simp only [mtEs, List.isEmpty_cons, Bool.false_eq_true] at h
  | a :: as, E, ck, Wish, X, F, es, h, hl => by
    cases es with
    | nil => simp only [mtEs, Bool.false_eq_true] at h
    | cons e es =>
      simp only [mtEs, Bool.and_eq_true] at h
      cases es with
      | cons e2 es => simp at hl
      | nil =>
        cases as with
        | cons a2 as => simp [mtEs] at h
        | nil =>
          refine PTs.imp (pts_one (snd_e hcx a F _ h.1).1.2) fun σ H Q q => ?_
          obtain ⟨φ, S, env, hS, hE, q⟩ := q
          refine ⟨φ, S, env, hS, hE, ?_⟩
          have e : evIfs G [a] env = M.bind (ev G a env) truthE := by
            simp only [evIfs]
            show M.bind _ (fun v => M.bind (truthE v) fun t => if t then M.pure true else M.pure false) = _
            congr 1; funext v
            funext S
            unfold M.bind
            cases truthE v S with
            | ok t S1 => cases t <;> rfl
            | exc _ _ => rfl
            | stuck => rfl
          dsimp only at q ⊢
          rw [e] at q
          exact q
theorem snd_it (hcx : True) : ∀ (it : Itx) {E : EX} {ck : Ck} {Wish : XK} {X : Cx} (F : Fits g E T G ck k CX Wish X) (tg e : Expr), mtI T it ck tg e = true → PI X tg e (tIt g E G it)
  | .seq a, E, ck, Wish, X, F, tg, e, h => by
    simp only [mtI] at h
    exact i_seq F (snd_e hcx a F _ h).1.1
  | .rng1 a, E, ck, Wish, X, F, tg, e, h => by
    simp only [mtI] at h
    split at h
    · simp only [Bool.and_eq_true, decide_eq_true_eq] at h
      obtain ⟨⟨rfl, h1⟩, h2⟩ := h
      exact i_rng1 F h1 h2 (snd_e hcx a F _ h2).1.1
    · cases h
  | .rng2 a b, E, ck, Wish, X, F, tg, e, h => by
    simp only [mtI] at h
    split at h
    · simp only [Bool.and_eq_true, decide_eq_true_eq] at h
      obtain ⟨⟨⟨rfl, h1⟩, h2⟩, h3⟩ := h
      exact i_rng2 F h1 h2 h3 (snd_e hcx a F _ h2).1.1 (snd_e hcx b F _ h3).1.1
    · cases h
  | .enum a, E, ck, Wish, X, F, tg, e, h => by
    simp only [mtI] at h
    split at h
    · simp only [Bool.and_eq_true, decide_eq_true_eq] at h
      obtain ⟨⟨rfl, h1⟩, h2⟩ := h
      exact i_enum F h1 h2 (snd_e hcx a F _ h2).1.1
    · cases h
  | .zip a b, E, ck, Wish, X, F, tg, e, h => by
    simp only [mtI] at h
    split at h
    · simp only [Bool.and_eq_true, decide_eq_true_eq] at h
      obtain ⟨⟨⟨rfl, h1⟩, h2⟩, h3⟩ := h
      exact i_zip F h1 h2 h3 (snd_e hcx a F _ h2).1.1 (snd_e hcx b F _ h3).1.1
    · cases h
end
end
end Ip

set_option Elab.async false
set_option linter.all false
set_option maxRecDepth 100000
set_option maxHeartbeats 4000000
/-! Ip, part 16: statements. -/
namespace Ip
open PySem L2 PySem.Spec PyProof.Rows

/-! ### the look -/
def kfB (ck : Ck) : Bool := match ck.sc.kind with
  | .function => true
  | _ => false
/-- is the name stored within the list's block? -/
def swC (ck : Ck) (scope : Scope) (t : Str) (p vp : Pos) : Bool := decide (ck.sc.names.lookup t = some .local) && p.line == vp.line && !(scope.names.any fun (n, k) => n == t && (k == .local || k == .cell))
def noCmp : Expr → Bool
  | .ListComp .. => false
  | .SetComp .. => false
  | .DictComp .. => false
  | _ => true
/-- how names of a pair or a triple are stored: none: as any target; some l: one by one, from the right -/
def swp1 (sc : Scope) (ts vs : List Expr) : Option (Option (List Str)) :=
  if (ts.length == 2 || ts.length == 3) && vs.length == ts.length then
    let line := (ts.head?.map (·.pos.line)).getD 0
    let names := ts.filterMap fun e => match e with
      | .Name id pos => if sc.names.lookup id == some .local && pos.line == line then some id else none
      | _ => none
    if names.length != ts.length || names.eraseDups.length != names.length then some none
    else if vs.all (foldedForSure 8) then some none
    else if vs.all (constantsAlone 8) then none
    else some (some names)
  else some none
def nmL (ck : Ck) : List Tg → List Str → Bool
  | [], [] => true
  | .nm i :: gs, x :: xs => decide (ck.N[i]? = some x) && decide (ck.sc.names.lookup x = some .local) && nmL ck gs xs
  | _, _ => false
def nmE : List Expr → List Str → Bool
  | [], [] => true
  | .Name x _ :: es, y :: ys => decide (x = y) && nmE es ys
  | _, _ => false
def asgC (g : Tg) (e : Ex) (ck : Ck) (tg v : Expr) : Bool := match g with
  | .nm i => match tg with
    | .Name x _ => decide (ck.N[i]? = some x) && locB ck x && (match v with
      | .SetComp .. => false
      | .DictComp .. => false
      | .ListComp .. => kfB ck
      | _ => true)
    | _ => false
  | .tup gs => match tg with
    | .Tuple ts _ _ => mtGs gs ck ts && kfB ck && (match v with
      | .Tuple vs _ _ => (match swp1 ck.sc ts vs with
        | some none => true
        | some (some [x, y]) => nmL ck gs [x, y] && nmE ts [x, y] && decide (x ≠ y) && decide (vs.length = 2)
        | some (some [x, y, z]) => nmL ck gs [x, y, z] && nmE ts [x, y, z] && decide (x ≠ y) && decide (x ≠ z) && decide (y ≠ z) && decide (vs.length = 3)
        | _ => false)
      | _ => true)
    | _ => false
section
variable (T : Tb)
mutual
def mtS : Sx → Ck → Stmt → Bool
  | .asg g e, ck, s => match s with
    | .Assign [tg] v _ => mtE T e ck v && asgC g e ck tg v
    | _ => false
  | .sub o i e, ck, s => match s with
    | .Assign [.Subscript x y _] v _ => mtE T e ck v && mtE T o ck x && mtE T i ck y && plainIx y
    | _ => false
  | .aug i op e, ck, s => match s with
    | .AugAssign (.Name x _) o v _ => decide (ck.N[i]? = some x) && locB ck x && mtE T e ck v && (match op, o with
      | .add, .Add => true
      | _, _ => false)
    | _ => false
  | .ex e, ck, s => match s with
    | .Expr v _ => mtE T e ck v && noCmp v
    | _ => false
  | .ret e, ck, s => match s with
    | .Return (some v) _ => mtE T e ck v
    | _ => false
  | .retN, ck, s => match s with
    | .Return none _ => true
    | _ => false
  | .ifS c a b, ck, s => match s with
    | .If x y z _ => mtE T c ck x && mtSs a ck y && mtSs b ck z
    | _ => false
  | .whS c b, ck, s => match s with
    | .While x y [] _ => mtE T c ck x && mtSs b ck y
    | _ => false
  | .forS t it b, ck, s => match s with
    | .For tg iter y [] _ => mtG t ck tg && mtI T it ck tg iter && mtSs b ck y
    | _ => false
  | .brk, ck, s => match s with
    | .Break _ => true
    | _ => false
  | .cnt, ck, s => match s with
    | .Continue _ => true
    | _ => false
  | .pass, ck, s => match s with
    | .Pass _ => true
    | .Expr (.Constant (.str _) _ _) _ => true
    | _ => false
  | .frz _, _, _ => false
  | .rse, _, s => match s with
    | .Raise _ _ _ => true
    | _ => false
  | .asgs is es, ck, s => match s with
    | .Assign [.Tuple ts _ _] (.Tuple vs _ _) _ => mtEs T es ck vs && kfB ck && (match swp1 ck.sc ts vs with
      | some (some [x, y]) => nmL ck (is.map .nm) [x, y] && nmE ts [x, y] && decide (x ≠ y) && decide (vs.length = 2)
      | some (some [x, y, z]) => nmL ck (is.map .nm) [x, y, z] && nmE ts [x, y, z] && decide (x ≠ y) && decide (x ≠ z) && decide (y ≠ z) && decide (vs.length = 3)
      | _ => false)
    | _ => false
def mtSs : List Sx → Ck → List Stmt → Bool
  | [], _, ss => ss.isEmpty
  | a :: as, ck, ss => match a with
    | .frz i => mtSs as ck ss
    | _ => match ss with
      | s :: ss => mtS a ck s && mtSs as ck ss
      | [] => false
end
end

/-! ### what is asked of a statement -/
section
variable {g : Gc} {E : EX} {T : Tb} {G : Nat → List EV → M EV} {ck : Ck} {k : Nat} {CX : CXT} {Wish : XK} {X : Cx}
def PostS (C : RC) (E : EX) (φ : Ph) (H : Hp) (r : Res Flw) (D : Ends) : Prop :=
  match r with
  | .ok f S' => (match f with
    | .nx e => ∀ φ' H' σ', Ext φ H φ' H' → RepS C φ' H' S' → RepEnv C φ' H' e σ' → D.nx σ' H'
    | .bk e => ∀ φ' H' σ', Ext φ H φ' H' → RepS C φ' H' S' → RepEnv C φ' H' e σ' → D.bk σ' H'
    | .ct e => ∀ φ' H' σ', Ext φ H φ' H' → RepS C φ' H' S' → RepEnv C φ' H' e σ' → D.ct σ' H'
    | .ret v => ∀ φ' H' x, Ext φ H φ' H' → RepS C φ' H' S' → RepE C φ' H' x v → D.rt x H')
  | .exc x S' => ∀ φ' H', Ext φ H φ' H' → RepS C φ' H' S' → E x S' φ' H'
  | .stuck => False
def tS (g : Gc) (E : EX) (m : Nv → M Flw) : TS := fun D σ H => ∃ φ S env, RepS g.C φ H S ∧ RepEnv g.C φ H env σ ∧ PostS g.C E φ H (m env S) D
theorem PostS.ext {C : RC} {φ φ' : Ph} {H H' : Hp} {r : Res Flw} {D : Ends} (h : PostS C E φ H r D) (e : Ext φ H φ' H') : PostS C E φ' H' r D := by
  cases r with
  | ok f S' => cases f <;> exact fun φ2 H2 b x s r => h φ2 H2 b (e.trans x) s r
  | exc a S' => exact fun φ2 H2 x s => h φ2 H2 (e.trans x) s
  | stuck => exact h
def NxtS (C : RC) (E : EX) {α β : Type} (R1 : Ph → Hp → β → α → Prop) (φ : Ph) (H : Hp) (env : Nv) (σ : L2.St) (k : α → M Flw) (D : Ends) (r : Res α) (b : β) (H1 : Hp) : Prop :=
  ∃ φ1 S1 a, r = .ok a S1 ∧ Ext φ H φ1 H1 ∧ RepS C φ1 H1 S1 ∧ RepEnv C φ1 H1 env σ ∧ R1 φ1 H1 b a ∧ PostS C E φ1 H1 (k a S1) D
theorem stepS {C : RC} {α β : Type} {R : Ph → Hp → β → α → Prop} {φ : Ph} {H : Hp} {S : Store} {env : Nv} {σ : L2.St} {m : Nv → M α} {k : α → M Flw} {D : Ends} (hS : RepS C φ H S) (hE : RepEnv C φ H env σ) (h : PostS C E φ H (M.bind (m env) k S) D) : tM C E R m σ H (NxtS C E R φ H env σ k D (m env S)) := by
  refine ⟨φ, S, env, hS, hE, ?_⟩
  unfold M.bind at h
  revert h
  cases m env S with
  | ok a S' => exact fun h φ' H' b x s r => ⟨φ', S', a, rfl, x, s, hE.mono x.kp, r, PostS.ext h x⟩
  | exc a S' => exact id
  | stuck => exact id
theorem PostS.ofO {C : RC} {φ : Ph} {H : Hp} {S : Store} {α : Type} {o : Option α} {k : α → M Flw} {D : Ends} (h : PostS C E φ H (M.bind (Ip.ofO o) k S) D) : ∃ a, o = some a ∧ PostS C E φ H (k a S) D := by
  cases o with
  | none => exact h.elim
  | some a => exact ⟨a, rfl, h⟩
theorem PS.imp {s : Stmt} {t t' : TS} (h : PS X s t) (i : ∀ D σ H, t' D σ H → t D σ H) : PS X s t' := ⟨fun pins s σ H D I q => h.run pins s σ H D I (i _ _ _ q)⟩
theorem PSs.imp {s : List Stmt} {t t' : TS} (h : PSs X s t) (i : ∀ D σ H, t' D σ H → t D σ H) : PSs X s t' := ⟨fun pins s σ H D I q => h.run pins s σ H D I (i _ _ _ q)⟩

/-! ### small statements -/
theorem sw_not {v : Expr} (h : noCmp v = true) (tg : Option Expr) (l : Nat) (env : PySem.Env) : swapsWith v tg l env = pure false := by
  cases v <;> first | rfl | (simp [noCmp] at h)
theorem sw_sub {v a b : Expr} {p : Pos} (l : Nat) (env : PySem.Env) : swapsWith v (some (.Subscript a b p)) l env = pure false := by
  cases v <;> rfl
theorem sw_tup {v : Expr} {ts : List Expr} {n : Nat} {p : Pos} (l : Nat) (env : PySem.Env) : swapsWith v (some (.Tuple ts n p)) l env = pure false := by
  cases v <;> rfl
theorem nm_go {i : Nat} {e : Ex} {D : Ends} {σ : L2.St} {H : Hp} (q : tS g E (fun env => exS G (.asg (.nm i) e) env) D σ H) : tAsg (tE g E G e) (gName i) D σ H := by
  obtain ⟨φ, S, env, hS, hE, q⟩ := q
  simp only [exS] at q
  refine (stepS (R := RepE g.C) hS hE q).mono fun x H1 n => ?_
  obtain ⟨φ1, S1, v, eq, e1, s1, en1, r1, p1⟩ := n
  exact p1 φ1 H1 _ (Ext.refl _ _) s1 (en1.set i r1)
theorem tg_go {gs : List Tg} {e : Ex} {D : Ends} {σ : L2.St} {H : Hp} (q : tS g E (fun env => exS G (.asg (.tup gs) e) env) D σ H) : tAsg (tE g E G e) (tG g (.tup gs)) D σ H := by
  obtain ⟨φ, S, env, hS, hE, q⟩ := q
  simp only [exS] at q
  refine (stepS (R := RepE g.C) hS hE q).mono fun x H1 n => ?_
  obtain ⟨φ1, S1, v, eq, e1, s1, en1, r1, p1⟩ := n
  obtain ⟨en, he, p2⟩ := PostS.ofO p1
  cases v with
  | box n => cases he
  | fn n => cases he
  | p v => exact ⟨φ1, S1, env, v, en, s1, en1, r1, he, fun σ' h _ => p2 φ1 H1 σ' (Ext.refl _ _) s1 h⟩
theorem par_go {gs : List Tg} {es : List Ex} {D : Ends} {σ : L2.St} {H : Hp} (q : tS g E (fun env => exS G (.asg (.tup gs) (.tup es)) env) D σ H) : tA g E G es σ H fun vs H1 => ∃ φ S env pvs env', RepS g.C φ H1 S ∧ RepEnv g.C φ H1 env σ ∧ Reps g.C.K φ H1 vs pvs ∧ gs.length = pvs.length ∧ asgTs gs pvs env = some env' ∧ ∀ σ', RepEnv g.C φ H1 env' σ' → D.nx σ' H1 := by
  obtain ⟨φ, S, env, hS, hE, q⟩ := q
  simp only [exS, ev] at q
  change PostS g.C E φ H (M.bind (M.bind (evs G es env) fun vs => M.bind (ofO (pures vs)) fun xs => M.pure (.p (.tup xs))) (fun v => M.bind (ofO (asgV (.tup gs) v env)) fun e1 => M.pure (.nx e1)) S) D at q
  rw [bind_assoc'] at q
  refine (stepS (R := RepEs g.C) hS hE q).mono fun x H1 n => ?_
  obtain ⟨φ1, S1, v, eq, e1, s1, en1, r1, p1⟩ := n
  dsimp only at p1
  rw [bind_assoc'] at p1
  obtain ⟨pvs, hp, p2⟩ := PostS.ofO p1
  change PostS g.C E φ1 H1 (M.bind (ofO (asgV (.tup gs) (.p (.tup pvs)) env)) (fun e1 => M.pure (.nx e1)) S1) D at p2
  obtain ⟨en, he, p3⟩ := PostS.ofO p2
  have he : asgT (.tup gs) (.tup pvs) env = some en := he
  simp only [asgT] at he
  split at he
  · rename_i hl
    exact ⟨φ1, S1, env, pvs, en, s1, en1, pures_rep r1 hp, hl, he, fun σ' h => p3 φ1 H1 σ' (Ext.refl _ _) s1 h⟩
  · cases he

/-! ### stores from the right -/
theorem kf_ok (F : Fits g E T G ck k CX Wish X) (h : kfB ck = true) : X.env.scope.kind = .function ∧ X.env.blockKind = .function := by
  unfold kfB at h
  rw [← F.sc] at h
  have e : X.env.scope.kind = .function := by
    split at h
    · assumption
    · cases h
  exact ⟨e, by unfold Env.blockKind; rw [e]; rfl⟩
theorem mtEs_plain : ∀ {as : List Ex} {es : List Expr}, mtEs T as ck es = true → (es.any fun | .Starred .. => true | _ => false) = false
  | [], es, h => by
    cases es with
    | nil => rfl
    | cons e es => simp only [mtEs, List.isEmpty_cons, Bool.false_eq_true] at h
  | a :: as, es, h => by
    cases es with
    | nil => rfl
    | cons e es =>
      simp only [mtEs, Bool.and_eq_true] at h
      rw [List.any_cons, mtEs_plain h.2]
      cases e with
      | Starred x p => cases a <;> simp only [mtE, Bool.false_eq_true] at h <;> (cases h.1)
      | _ => rfl
theorem swp_ok {env : PySem.Env} {ts vs : List Expr} {n n2 : Nat} {p p2 : Pos} {o : Option (List Str)} (hb : env.blockKind = .function) (hs : (vs.any fun | .Starred .. => true | _ => false) = false) (h : swp1 env.scope ts vs = some o) : swappedStores [.Tuple ts n p] (.Tuple vs n2 p2) env = pure o := by
  unfold swp1 at h
  unfold swappedStores
  simp only [hb, hs]
  split at h
  · rename_i h1
    simp only [Bool.and_eq_true] at h1
    have e1 : (ts.length == 2 || ts.length == 3) = true := h1.1
    have e2 : (vs.length != ts.length) = false := by simpa using h1.2
    rw [e1, e2]
    dsimp only at h ⊢
    refine (if_neg (by decide)).trans ?_
    refine (if_neg (fun z => Bool.false_ne_true (hs.symm.trans z))).trans ?_
    split at h
    · rename_i c1
      cases h
      exact if_pos c1
    · rename_i c1
      refine (if_neg c1).trans ?_
      split at h
      · rename_i c2
        cases h
        exact if_pos c2
      · rename_i c2
        refine (if_neg c2).trans ?_
        split at h
        · cases h
        · rename_i c3
          cases h
          exact (if_neg c3)
  · rename_i h1
    cases h
    refine (if_pos ?_)
    cases q1 : (ts.length == 2 || ts.length == 3) with
    | false => rfl
    | true =>
      cases q2 : (vs.length == ts.length) with
      | false =>
        have : (vs.length != ts.length) = true := by simpa [bne] using q2
        rw [this]; rfl
      | true => exact absurd (by rw [q1, q2]; rfl) h1
/-! ### all assignments -/
theorem gk_name (F : Fits g E T G ck k CX Wish X) {i : Nat} {x : Str} {p : Pos} (h1 : ck.N[i]? = some x) (h2 : locB ck x = true) : PG X (.Name x p) (gName i) := by
  obtain ⟨l1, l2⟩ := F.loc h2
  exact pg_name (i := i) (by rw [F.hN]; exact F.nd) (by rw [F.hN]; exact h1) l1 l2
theorem s_asgN (F : Fits g E T G ck k CX Wish X) {i : Nat} {x : Str} {p pos : Pos} {e : Ex} {v : Expr} (he : PE X v (tE g E G e)) (h1 : ck.N[i]? = some x) (h2 : locB ck x = true) (hs : swapsWith v (some (.Name x p)) pos.line X.env = pure false) :
    PS X (.Assign [.Name x p] v pos) (tS g E fun env => exS G (.asg (.nm i) e) env) :=
  PS.imp (ps_asg he (gk_name F h1 h2) hs (by cases v <;> rfl) (by rfl)) fun D σ H q => nm_go q
theorem nmL_get : ∀ {gs : List Tg} {xs : List Str}, nmL ck gs xs = true → ∃ is : List Nat, gs = is.map .nm ∧ is.length = xs.length ∧ ∀ (j i : Nat) (x : Str), is[j]? = some i → xs[j]? = some x → ck.N[i]? = some x ∧ ck.sc.names.lookup x = some .local
  | [], [], h => ⟨[], rfl, rfl, fun j i x q => by simp at q⟩
  | [], _ :: _, h => by simp only [nmL, Bool.false_eq_true] at h
  | .nm i :: gs, [], h => by simp only [nmL, Bool.false_eq_true] at h
  | .tup _ :: gs, _, h => by simp only [nmL, Bool.false_eq_true] at h
  | .nm i :: gs, x :: xs, h => by
    simp only [nmL, Bool.and_eq_true, decide_eq_true_eq] at h
    obtain ⟨is, h1, h2, h3⟩ := nmL_get h.2
    refine ⟨i :: is, by rw [h1]; rfl, by simp [h2], fun j a y q1 q2 => ?_⟩
    cases j with
    | zero => simp at q1 q2; subst q1 q2; exact h.1
    | succ j => exact h3 j a y (by simpa using q1) (by simpa using q2)
theorem nmE_get : ∀ {es : List Expr} {xs : List Str}, nmE es xs = true → ∃ ps : List Pos, ps.length = xs.length ∧ es = (xs.zip ps).map fun q => .Name q.1 q.2
  | [], [], h => ⟨[], rfl, rfl⟩
  | [], _ :: _, h => by simp only [nmE, Bool.false_eq_true] at h
  | e :: es, [], h => by cases e <;> simp only [nmE, Bool.false_eq_true] at h
  | e :: es, y :: ys, h => by
    cases e <;> simp only [nmE, Bool.false_eq_true, Bool.and_eq_true, decide_eq_true_eq] at h <;> try (cases h; done)
    rename_i x p
    obtain ⟨ps, h1, h2⟩ := nmE_get h.2
    exact ⟨p :: ps, by simp [h1], by rw [h.1, h2]; rfl⟩
theorem s_asgT (F : Fits g E T G ck k CX Wish X) {gs : List Tg} {ts : List Expr} {n : Nat} {p pos : Pos} {e : Ex} {v : Expr} (hm : mtE T e ck v = true) (he : PE X v (tE g E G e)) (hes : ∀ es vs, e = .tup es → ∀ m q, v = .Tuple vs m q → PA X vs (tA g E G es)) (h : asgC (.tup gs) e ck (.Tuple ts n p) v = true) :
    PS X (.Assign [.Tuple ts n p] v pos) (tS g E fun env => exS G (.asg (.tup gs) e) env) := by
  simp only [asgC, Bool.and_eq_true] at h
  obtain ⟨⟨h1, h2⟩, h3⟩ := h
  obtain ⟨kf, kb⟩ := kf_ok F h2
  have hg := snd_g F (.tup gs) (.Tuple ts n p) (by simp only [mtG]; exact h1)
  have plainCase : swappedStores [.Tuple ts n p] v X.env = pure none → PS X (.Assign [.Tuple ts n p] v pos) (tS g E fun env => exS G (.asg (.tup gs) e) env) := fun hw =>
    PS.imp (ps_asg he hg (sw_tup (ts := ts) (n := n) (p := p) pos.line X.env) hw (by rfl)) fun D σ H q => tg_go q
  split at h3
  · rename_i vs n2 p2
    cases e <;> simp only [mtE, Bool.false_eq_true] at hm <;> try (cases hm; done)
    rename_i es
    simp only [Bool.and_eq_true] at hm
    have hpl := mtEs_plain hm.1
    have ha := hes es vs rfl _ _ rfl
    split at h3
    · rename_i hq
      exact plainCase (swp_ok kb hpl (by rw [F.sc]; exact hq))
    · rename_i x y hq
      simp only [Bool.and_eq_true, decide_eq_true_eq] at h3
      obtain ⟨⟨⟨g1, g2⟩, g3⟩, g4⟩ := h3
      have hw := swp_ok (n := n) (p := p) (n2 := n2) (p2 := p2) kb hpl (by rw [F.sc]; exact hq)
      obtain ⟨is, rfl, k2, k3⟩ := nmL_get g1
      obtain ⟨ps, k4, rfl⟩ := nmE_get g2
      match is, k2, ps, k4, vs, g4 with
      | [i, j], _, [px, py], _, [a, b], _ =>
        obtain ⟨a1, a2⟩ := k3 0 i x rfl rfl
        obtain ⟨b1, b2⟩ := k3 1 j y rfl rfl
        have hij : i ≠ j := fun z => g3 (by subst z; rw [a1] at b1; exact Option.some.inj b1)
        refine PS.imp (ps_par F.calm (by rw [F.hN]; exact F.nd) (by rw [F.hN]; exact a1) (by rw [F.hN]; exact b1) hij (by rw [F.sc]; exact a2) (by rw [F.sc]; exact b2) ha hw) fun D σ H q => ?_
        refine (par_go q).mono fun us H1 ⟨φ, S, env, pvs, en, hS, hE, r, hl, he, q2⟩ => ?_
        match pvs, hl, r, he with
        | [v, w], _, .cons r1 (.cons r2 .nil), he =>
          simp only [List.map, asgTs, asgT, Option.bind_some, Option.some.injEq] at he
          subst he
          exact ⟨_, _, rfl, q2 _ ((hE.set i (v := .p v) r1).set j (v := .p w) r2)⟩
    · rename_i x y z hq
      simp only [Bool.and_eq_true, decide_eq_true_eq] at h3
      obtain ⟨⟨⟨⟨⟨g1, g2⟩, g3⟩, g3'⟩, g3''⟩, g4⟩ := h3
      have hw := swp_ok (n := n) (p := p) (n2 := n2) (p2 := p2) kb hpl (by rw [F.sc]; exact hq)
      obtain ⟨is, rfl, k2, k3⟩ := nmL_get g1
      obtain ⟨ps, k4, rfl⟩ := nmE_get g2
      match is, k2, ps, k4, vs, g4 with
      | [i, j, l], _, [px, py, pz], _, [a, b, c], _ =>
        obtain ⟨a1, a2⟩ := k3 0 i x rfl rfl
        obtain ⟨b1, b2⟩ := k3 1 j y rfl rfl
        obtain ⟨c1, c2⟩ := k3 2 l z rfl rfl
        have hij : i ≠ j := fun q => g3 (by subst q; rw [a1] at b1; exact Option.some.inj b1)
        have hil : i ≠ l := fun q => g3' (by subst q; rw [a1] at c1; exact Option.some.inj c1)
        have hjl : j ≠ l := fun q => g3'' (by subst q; rw [b1] at c1; exact Option.some.inj c1)
        refine PS.imp (ps_par3 F.calm (by rw [F.hN]; exact F.nd) (by rw [F.hN]; exact a1) (by rw [F.hN]; exact b1) (by rw [F.hN]; exact c1) hij hil hjl (by rw [F.sc]; exact a2) (by rw [F.sc]; exact b2) (by rw [F.sc]; exact c2) ha hw) fun D σ H q => ?_
        refine (par_go q).mono fun us H1 ⟨φ, S, env, pvs, en, hS, hE, r, hl, he, q2⟩ => ?_
        match pvs, hl, r, he with
        | [u, v, w], _, .cons r1 (.cons r2 (.cons r3 .nil)), he =>
          simp only [List.map, asgTs, asgT, Option.bind_some, Option.some.injEq] at he
          subst he
          exact ⟨_, _, _, rfl, q2 _ (((hE.set i (v := .p u) r1).set j (v := .p v) r2).set l (v := .p w) r3)⟩
    · cases h3
  · refine plainCase ?_
    rename_i hne
    cases v <;> first | rfl | exact absurd rfl (hne _ _ _)
theorem parS_go {is : List Nat} {es : List Ex} {D : Ends} {σ : L2.St} {H : Hp} (q : tS g E (fun env => exS G (.asgs is es) env) D σ H) : tA g E G es σ H fun vs H1 => ∃ φ S env pvs env', RepS g.C φ H1 S ∧ RepEnv g.C φ H1 env σ ∧ RepEs g.C φ H1 vs pvs ∧ setAll is pvs env = some env' ∧ ∀ σ', RepEnv g.C φ H1 env' σ' → D.nx σ' H1 := by
  obtain ⟨φ, S, env, hS, hE, q⟩ := q
  simp only [exS] at q
  refine (stepS (R := RepEs g.C) hS hE q).mono fun x H1 n => ?_
  obtain ⟨φ1, S1, v, eq, e1, s1, en1, r1, p1⟩ := n
  obtain ⟨en, he, p3⟩ := PostS.ofO p1
  exact ⟨φ1, S1, env, v, en, s1, en1, r1, he, fun σ' h => p3 φ1 H1 σ' (Ext.refl _ _) s1 h⟩
theorem nm_inj : ∀ {is js : List Nat}, is.map Tg.nm = js.map Tg.nm → is = js
  | [], [], _ => rfl
  | [], _ :: _, h => by simp at h
  | _ :: _, [], h => by simp at h
  | i :: is, j :: js, h => by
    simp only [List.map_cons, List.cons.injEq, Tg.nm.injEq] at h
    rw [h.1, nm_inj h.2]
theorem s_asgs (F : Fits g E T G ck k CX Wish X) {is : List Nat} {es : List Ex} {ts vs : List Expr} {n n2 : Nat} {p p2 pos : Pos} (hm : mtEs T es ck vs = true) (ha : PA X vs (tA g E G es)) (hk : kfB ck = true) (h3 : (match swp1 ck.sc ts vs with
      | some (some [x, y]) => nmL ck (is.map .nm) [x, y] && nmE ts [x, y] && decide (x ≠ y) && decide (vs.length = 2)
      | some (some [x, y, z]) => nmL ck (is.map .nm) [x, y, z] && nmE ts [x, y, z] && decide (x ≠ y) && decide (x ≠ z) && decide (y ≠ z) && decide (vs.length = 3)
      | _ => false) = true) :
    PS X (.Assign [.Tuple ts n p] (.Tuple vs n2 p2) pos) (tS g E fun env => exS G (.asgs is es) env) := by
  obtain ⟨kf, kb⟩ := kf_ok F hk
  have hpl := mtEs_plain hm
  split at h3
  · rename_i x y hq
    simp only [Bool.and_eq_true, decide_eq_true_eq] at h3
    obtain ⟨⟨⟨g1, g2⟩, g3⟩, g4⟩ := h3
    have hw := swp_ok (n := n) (p := p) (n2 := n2) (p2 := p2) kb hpl (by rw [F.sc]; exact hq)
    obtain ⟨js, e0, k2, k3⟩ := nmL_get g1
    have e0 : is = js := nm_inj e0
    subst e0
    obtain ⟨ps, k4, rfl⟩ := nmE_get g2
    match is, k2, ps, k4, vs, g4 with
    | [i, j], _, [px, py], _, [a, b], _ =>
      obtain ⟨a1, a2⟩ := k3 0 i x rfl rfl
      obtain ⟨b1, b2⟩ := k3 1 j y rfl rfl
      have hij : i ≠ j := fun z => g3 (by subst z; rw [a1] at b1; exact Option.some.inj b1)
      refine PS.imp (ps_par F.calm (by rw [F.hN]; exact F.nd) (by rw [F.hN]; exact a1) (by rw [F.hN]; exact b1) hij (by rw [F.sc]; exact a2) (by rw [F.sc]; exact b2) ha hw) fun D σ H q => ?_
      refine (parS_go q).mono fun us H1 ⟨φ, S, env, pvs, en, hS, hE, r, he, q2⟩ => ?_
      match pvs, r, he with
      | [v, w], .cons r1 (.cons r2 .nil), he =>
        simp only [setAll, Option.some.injEq] at he
        subst he
        exact ⟨_, _, rfl, q2 _ ((hE.set i (v := v) r1).set j (v := w) r2)⟩
  · rename_i x y z hq
    simp only [Bool.and_eq_true, decide_eq_true_eq] at h3
    obtain ⟨⟨⟨⟨⟨g1, g2⟩, g3⟩, g3'⟩, g3''⟩, g4⟩ := h3
    have hw := swp_ok (n := n) (p := p) (n2 := n2) (p2 := p2) kb hpl (by rw [F.sc]; exact hq)
    obtain ⟨js, e0, k2, k3⟩ := nmL_get g1
    have e0 : is = js := nm_inj e0
    subst e0
    obtain ⟨ps, k4, rfl⟩ := nmE_get g2
    match is, k2, ps, k4, vs, g4 with
    | [i, j, l], _, [px, py, pz], _, [a, b, c], _ =>
      obtain ⟨a1, a2⟩ := k3 0 i x rfl rfl
      obtain ⟨b1, b2⟩ := k3 1 j y rfl rfl
      obtain ⟨c1, c2⟩ := k3 2 l z rfl rfl
      have hij : i ≠ j := fun q => g3 (by subst q; rw [a1] at b1; exact Option.some.inj b1)
      have hil : i ≠ l := fun q => g3' (by subst q; rw [a1] at c1; exact Option.some.inj c1)
      have hjl : j ≠ l := fun q => g3'' (by subst q; rw [b1] at c1; exact Option.some.inj c1)
      refine PS.imp (ps_par3 F.calm (by rw [F.hN]; exact F.nd) (by rw [F.hN]; exact a1) (by rw [F.hN]; exact b1) (by rw [F.hN]; exact c1) hij hil hjl (by rw [F.sc]; exact a2) (by rw [F.sc]; exact b2) (by rw [F.sc]; exact c2) ha hw) fun D σ H q => ?_
      refine (parS_go q).mono fun us H1 ⟨φ, S, env, pvs, en, hS, hE, r, he, q2⟩ => ?_
      match pvs, r, he with
      | [u, v, w], .cons r1 (.cons r2 (.cons r3 .nil)), he =>
        simp only [setAll, Option.some.injEq] at he
        subst he
        exact ⟨_, _, _, rfl, q2 _ (((hE.set i (v := u) r1).set j (v := v) r2).set l (v := w) r3)⟩
  · cases h3
end
end Ip

set_option Elab.async false
set_option linter.all false
set_option maxRecDepth 100000
set_option maxHeartbeats 4000000
/-! Ip, part 17: statements, further. -/
namespace Ip
open PySem L2 PySem.Spec PyProof.Rows
section
variable {g : Gc} {E : EX} {T : Tb} {G : Nat → List EV → M EV} {ck : Ck} {k : Nat} {CX : CXT} {Wish : XK} {X : Cx} {pos : Pos}
/-! a list made, and stored at once -/
theorem s_asgC (F : Fits g E T G ck k CX Wish X) {i : Nat} {x : Str} {p : Pos} {e : Ex} {elt : Expr} {gs : List Comprehension} {scope : Scope} {vp : Pos} (hm : mtE T e ck (.ListComp elt gs scope vp) = true) (h1 : ck.N[i]? = some x) (h2 : locB ck x = true) (h3 : kfB ck = true) :
    PS X (.Assign [.Name x p] (.ListComp elt gs scope vp) pos) (tS g E fun env => exS G (.asg (.nm i) e) env) := by
  have he := (snd_e trivial e F _ hm).1.1
  obtain ⟨kf, kb⟩ := kf_ok F h3
  by_cases hsw : swC ck scope x p vp = true
  · unfold swC at hsw
    simp only [Bool.and_eq_true, decide_eq_true_eq, Bool.not_eq_true'] at hsw
    obtain ⟨⟨c1, c2⟩, c3⟩ := hsw
    have hl : X.env.scope.names.lookup x = some .local := by rw [F.sc]; exact c1
    have hsT : ∀ l, swapsWith (.ListComp elt gs scope vp) (some (.Name x p)) l X.env = pure true := fun l => sw_true kf hl c2 c3
    cases e with
    | comp a own t it ifs =>
      simp only [mtE] at hm
      split at hm
      · rename_i pos' heq
        cases heq
        simp only [Bool.and_eq_true, decide_eq_true_eq, List.all_eq_true, List.contains_iff_mem] at hm
        obtain ⟨⟨⟨⟨⟨⟨h1', h2'⟩, h3'⟩, h4⟩, h5⟩, h6⟩, h7⟩ := hm
        have ok := blkOk_by h6
        rw [← F.hN, ← F.sc] at ok
        have key := ps_setLc (spos := pos) F.calm (by rw [F.hN]; exact F.nd) (by rw [F.hN]; exact h1) hl (hsT _) (snd_it trivial it F _ _ h2') ok
          (fun s H C cl fp => snd_g (F.blk s H _ C cl fp) t _ h1') (fun s H C cl fp => snd_ifs trivial ifs (F.blk s H _ C cl fp) _ h3' h4) (fun s H C cl fp => (snd_e trivial a (F.blk s H _ C cl fp) _ h5).1.1) (fun x => mtI_fsi h2' _ x)
        refine PS.imp key fun D σ H q => ?_
        rw [F.hN, ownP_2]
        exact comp_t h7 (nm_go q)
      · cases hm
    | newC a own t it ifs =>
      simp only [mtE] at hm
      split at hm
      · rename_i pos' heq
        cases heq
        simp only [Bool.and_eq_true, decide_eq_true_eq, List.all_eq_true, List.contains_iff_mem] at hm
        obtain ⟨⟨⟨⟨⟨⟨h1', h2'⟩, h3'⟩, h4⟩, h5⟩, h6⟩, h7⟩ := hm
        have ok := blkOk_by h6
        rw [← F.hN, ← F.sc] at ok
        have key := ps_setLc (spos := pos) F.calm (by rw [F.hN]; exact F.nd) (by rw [F.hN]; exact h1) hl (hsT _) (snd_it trivial it F _ _ h2') ok
          (fun s H C cl fp => snd_g (F.blk s H _ C cl fp) t _ h1') (fun s H C cl fp => snd_ifs trivial ifs (F.blk s H _ C cl fp) _ h3' h4) (fun s H C cl fp => (snd_e trivial a (F.blk s H _ C cl fp) _ h5).1.1) (fun x => mtI_fsi h2' _ x)
        refine PS.imp key fun D σ H q => ?_
        rw [F.hN, ownP_2]
        exact compN_t h7 (nm_go q)
      · cases hm
    | comp2 a own t it ifs own1 t1 it1 ifs1 =>
      simp only [mtE] at hm
      split at hm
      · rename_i pos' heq
        cases heq
        simp only [Bool.and_eq_true, decide_eq_true_eq, List.all_eq_true, List.contains_iff_mem] at hm
        obtain ⟨⟨⟨⟨⟨⟨⟨⟨⟨⟨⟨⟨h1', h2'⟩, h3'⟩, h4⟩, h5⟩, h6⟩, h7⟩, h8⟩, h9⟩, h10⟩, h11⟩, h12⟩, h13⟩ := hm
        have ok := blkOk_by h10
        rw [← F.hN, ← F.sc] at ok
        have key := ps_setLc2 (vs1 := own1) (spos := pos) F.calm (by rw [F.hN]; exact F.nd) (by rw [F.hN]; exact h1) hl (hsT _) (snd_it trivial it F _ _ h2') ok (by rw [F.hN, ownP_2]; exact h11)
          (fun s H C cl fp => snd_g (F.blk s H _ C cl fp) t _ h1') (fun s H C cl fp => snd_ifs trivial ifs (F.blk s H _ C cl fp) _ h3' h4)
          (fun s H C cl fp => snd_it trivial it1 (F.blk s H _ C cl fp) _ _ h6)
          (fun s H C cl fp => snd_g (F.blk s H _ C cl fp) t1 _ h5) (fun s H C cl fp => snd_ifs trivial ifs1 (F.blk s H _ C cl fp) _ h7 h8)
          (fun s H C cl fp => (snd_e trivial a (F.blk s H _ C cl fp) _ h9).1.1) (fun x => mtI_fsi h2' _ x) (fun en x => mtI_fsi h6 en x)
        refine PS.imp key fun D σ H q => ?_
        rw [F.hN, ownP_2]
        exact comp2_t h12 h13 (nm_go q)
      · cases hm
    | _ =>
      simp only [mtE] at hm
      first | (cases hm; done) | (split at hm <;> first | (cases hm; done) | (rename_i heq; cases heq))
  · refine s_asgN F he h1 h2 ?_
    unfold swapsWith
    dsimp only
    have e : (X.env.blockKind == .function && X.env.kindOf x == some .local && p.line == (Expr.ListComp elt gs scope vp).pos.line && !(scope.names.any fun (n, k) => n == x && (k == .local || k == .cell))) = false := by
      rw [kb]
      unfold swC at hsw
      have := eq_false_of_ne_true hsw
      have hk : X.env.kindOf x = ck.sc.names.lookup x := by show X.env.scope.names.lookup x = _; rw [F.sc]
      rw [hk]
      have hd : (ck.sc.names.lookup x == some NameKind.local) = decide (ck.sc.names.lookup x = some .local) := by
        by_cases z : ck.sc.names.lookup x = some .local
        · rw [z]; rfl
        · rw [decide_eq_false z]; simpa using z
      rw [hd]
      exact this
    exact congrArg pure e
/-! a place of a list or a dict that changes -/
def rSetP (K : FK) : V → V → V → Hp → (Hp → Prop) → Prop := fun o i v H Q => rSetL o i v H Q ∨ ∃ φ a n ks vs key pv, o = .ref a ∧ CellOk K φ H a (.dct n ks vs) ∧ φ.has a ∧ Rep K φ H i key ∧ keyB n key = true ∧ Rep K φ H v pv ∧ ks.length < Line ∧
  ∀ u, CellOk K φ (upd H a u) a (.dct n (putKs key ks) (putV key pv ks vs)) → Q (upd H a u)
theorem set_P {K : FK} (hu : X.A.units + 65 < cLine) (hX : KX X K) : PSet X (rSetP K) := by
  intro pins s σ H o i v ov iv u Q I ro ri rv h
  rcases h with h | ⟨φ, a, n, ks, vs, key, pv, rfl, hc, ha, hi, hk, hv, hl, q⟩
  · exact set_list pins s σ H o i v ov iv u Q I ro ri rv h
  · cases ro
    exact dct_set hu I hX hc ha ri hi hk rv hv hl fun o s' I' c => ⟨_, I', q o c⟩
theorem s_sub (F : Fits g E T G ck k CX Wish X) {a b v : Expr} {a' b' v' : Ex} {p : Pos} (hp : plainIx b = true) (ha : PE X a (tE g E G a')) (hb : PE X b (tE g E G b')) (hv : PE X v (tE g E G v')) : PS X (.Assign [.Subscript a b p] v pos) (tS g E fun env => exS G (.sub a' b' v') env) := by
  refine PS.imp (ps_asg hv (pg_sub ha hb (set_P F.hu F.hX) (by intro v; cases b <;> first | rfl | (simp [plainIx] at hp))) (sw_sub (a := a) (b := b) (p := p) pos.line X.env) (by cases v <;> rfl) (by rfl)) fun D σ H q => ?_
  obtain ⟨φ, S, env, hS, hE, q⟩ := q
  simp only [exS] at q
  refine (stepS (R := RepE g.C) hS hE q).mono fun x H1 n => ?_
  obtain ⟨φ1, S1, w, eq, e1, s1, en1, r1, p1⟩ := n
  obtain ⟨pv, hw, p2⟩ := PostS.ofO p1
  cases w with
  | box n => cases hw
  | fn n => cases hw
  | p w0 =>
  cases hw
  refine (stepS (R := RepE g.C) s1 en1 p2).mono fun y H2 n2 => ?_
  obtain ⟨φ2, S2, o, eq2, e2, s2, en2, r2, p3⟩ := n2
  refine (stepS (R := RepE g.C) s2 en2 p3).mono fun z H3 n3 => ?_
  obtain ⟨φ3, S3, i, eq3, e3, s3, en3, r3, p4⟩ := n3
  obtain ⟨iv, hi, p5⟩ := PostS.ofO p4
  cases i with
  | box n => cases hi
  | fn n => cases hi
  | p i0 =>
  cases hi
  cases o with
  | p _ => exact p5.elim
  | fn _ => exact p5.elim
  | box n =>
    change PostS g.C E φ3 H3 (M.bind (subop (.box n) iv pv) (fun _ => M.pure (.nx env)) S3) D at p5
    unfold M.bind subop at p5
    dsimp only at p5
    cases hq : S3[n]? with
    | none => rw [hq] at p5; exact p5.elim
    | some c =>
      rw [hq] at p5
      cases c with
      | dct m ks vs =>
        have p5 : PostS g.C E φ3 H3 (M.bind (fun S => if keyB m iv && decide (ks.length < Line) then Res.ok () (S.set n (.dct m (putKs iv ks) (putV iv pv ks vs))) else .stuck) (fun _ => M.pure (.nx env)) S3) D := by
          unfold M.bind
          cases iv <;> exact p5
        by_cases hk : (keyB m iv && decide (ks.length < Line)) = true
        · unfold M.bind at p5
          dsimp only at p5
          rw [if_pos hk] at p5
          dsimp only at p5
          simp only [Bool.and_eq_true, decide_eq_true_eq] at hk
          rcases s3.cell n _ hq with d | ⟨ad, k1, k2⟩
          · cases d
          have hx := (r2.mono e3.kp).2 ad k1
          subst hx
          refine .inr ⟨φ3, ad, m, ks, vs, iv, pv, rfl, k2, .inl (List.mem_of_getElem? k1), r3, hk.1, Rep.mono (e2.trans e3).kp _ _ r1, hk.2, fun u c => ?_⟩
          obtain ⟨e4, s4⟩ := RepS.writeO s3 k1 hq (by simp) c
          exact p5 φ3 _ σ e4 s4 (en3.mono e4.kp)
        · unfold M.bind at p5
          dsimp only at p5
          rw [if_neg hk] at p5
          exact p5.elim
      | dead => exact p5.elim
      | lst cs =>
        cases iv with
        | int kk =>
          dsimp only at p5
          cases hj : ixN cs.length kk with
          | none => rw [hj] at p5; exact p5.elim
          | some j =>
            rw [hj] at p5
            dsimp only at p5
            rcases s3.cell n _ hq with d | ⟨ad, k1, ys, k2, k3⟩
            · cases d
            have hx := (r2.mono e3.kp).2 ad k1
            subst hx
            cases (show Rep g.C.K φ3 H3 z (.int kk) from r3)
            obtain ⟨e4, s4⟩ := RepS.write s3 k1 hq (k3.set (Rep.mono (e2.trans e3).kp _ _ r1) j)
            exact .inl ⟨ad, ys, kk, j, rfl, rfl, k2, by rw [k3.length]; exact hj, p5 φ3 _ σ e4 s4 (en3.mono e4.kp)⟩
        | _ => exact p5.elim
theorem getV_t {i : Nat} {φ : Ph} {H : Hp} {S : Store} {env : Nv} {σ : L2.St} {k : EV → M Flw} {D : Ends} (hE : RepEnv g.C φ H env σ) (h : PostS g.C E φ H (M.bind (getV env i) k S) D) : ∃ x v, σ[i]? = some (some x) ∧ RepE g.C φ H x v ∧ PostS g.C E φ H (k v S) D := by
  unfold getV at h
  cases hi : env[i]? with
  | none => rw [hi] at h; exact h.elim
  | some o =>
    cases o with
    | none => rw [hi] at h; exact h.elim
    | some v =>
      rw [hi] at h
      obtain ⟨x, h1, h2⟩ := hE.val i v hi
      exact ⟨x, v, h1, h2, h⟩
theorem s_aug (F : Fits g E T G ck k CX Wish X) {i : Nat} {x : Str} {p : Pos} {e : Ex} {v : Expr} (he : PE X v (tE g E G e)) (h1 : ck.N[i]? = some x) (h2 : locB ck x = true) : PS X (.AugAssign (.Name x p) .Add v pos) (tS g E fun env => exS G (.aug i .add e) env) := by
  obtain ⟨l1, l2⟩ := F.loc h2
  refine PS.imp (ps_aug (by rw [F.hN]; exact F.nd) (by rw [F.hN]; exact h1) l1 he ip_add l2) fun D σ H q => ?_
  obtain ⟨φ, S, env, hS, hE, q⟩ := q
  simp only [exS] at q
  obtain ⟨x, w, hx, rx, q⟩ := getV_t hE q
  refine ⟨x, hx, ?_⟩
  refine (stepS (R := RepE g.C) hS hE q).mono fun y H1 n => ?_
  obtain ⟨φ1, S1, u, eq, e1, s1, en1, r1, p1⟩ := n
  obtain ⟨pw, hw, p2⟩ := PostS.ofO p1
  obtain ⟨pu, hu, p3⟩ := PostS.ofO p2
  cases w with
  | box n => cases hw
  | fn n => cases hw
  | p w0 =>
  cases hw
  cases u with
  | box n => cases hu
  | fn n => cases hu
  | p u0 =>
  cases hu
  cases pw with
  | int a =>
    cases pu with
    | int b =>
      cases (show Rep g.C.K φ H x (.int a) from rx)
      cases (show Rep g.C.K φ1 H1 y (.int b) from r1)
      exact ⟨a, b, rfl, rfl, p3 φ1 H1 _ (Ext.refl _ _) s1 (en1.set i (v := .p (.int (a + b))) (.int _))⟩
    | _ => exact p3.elim
  | _ => cases pu <;> exact p3.elim
end
end Ip

set_option Elab.async false
set_option linter.all false
set_option maxRecDepth 100000
set_option maxHeartbeats 4000000
/-! Ip, part 18: all statements. -/
namespace Ip
open PySem L2 PySem.Spec PyProof.Rows
section
variable {g : Gc} {E : EX} {T : Tb} {G : Nat → List EV → M EV} {ck : Ck} {k : Nat} {CX : CXT} {Wish : XK} {X : Cx} {pos : Pos}
theorem s_ex (F : Fits g E T G ck k CX Wish X) {e : Ex} {v : Expr} (he : PE X v (tE g E G e)) (hn : noCmp v = true) : PS X (.Expr v pos) (tS g E fun env => exS G (.ex e) env) := by
  refine PS.imp (ps_expr he (sw_not hn _ _ _)) fun D σ H q => ?_
  obtain ⟨φ, S, env, hS, hE, q⟩ := q
  simp only [exS] at q
  refine (stepS (R := RepE g.C) hS hE q).mono fun x H1 n => ?_
  obtain ⟨φ1, S1, w, eq, e1, s1, en1, r1, p1⟩ := n
  exact p1 φ1 H1 _ (Ext.refl _ _) s1 en1
theorem s_ret (F : Fits g E T G ck k CX Wish X) {e : Ex} {v : Expr} (he : PE X v (tE g E G e)) : PS X (.Return (some v) pos) (tS g E fun env => exS G (.ret e) env) := by
  refine PS.imp (ps_ret he) fun D σ H q => ?_
  obtain ⟨φ, S, env, hS, hE, q⟩ := q
  simp only [exS] at q
  refine (stepS (R := RepE g.C) hS hE q).mono fun x H1 n => ?_
  obtain ⟨φ1, S1, w, eq, e1, s1, en1, r1, p1⟩ := n
  exact p1 φ1 H1 x (Ext.refl _ _) s1 r1
theorem s_if (F : Fits g E T G ck k CX Wish X) {c : Ex} {a b : List Sx} {c' : Expr} {a' b' : List Stmt} (hc : PT X c' (tT g E G c)) (ha : PSs X a' (tS g E fun env => exSs G a env)) (hb : PSs X b' (tS g E fun env => exSs G b env)) : PS X (.If c' a' b' pos) (tS g E fun env => exS G (.ifS c a b) env) := by
  refine PS.imp (ps_if hc ha hb) fun D σ H q => ?_
  obtain ⟨φ, S, env, hS, hE, q⟩ := q
  have e : exS G (.ifS c a b) env = M.bind (M.bind (ev G c env) truthE) (fun t => if t then exSs G a env else exSs G b env) := by
    simp only [exS]
    show M.bind _ (fun x => M.bind _ fun t => _) = _
    rw [bind_assoc']
  dsimp only at q
  rw [e] at q
  refine (stepS (R := EqB) (m := fun env => M.bind (ev G c env) truthE) hS hE q).mono fun t H1 n => ?_
  obtain ⟨φ1, S1, t', eq, e1, s1, en1, r1, p1⟩ := n
  cases r1
  cases t with
  | true => exact ⟨φ1, S1, env, s1, en1, p1⟩
  | false => exact ⟨φ1, S1, env, s1, en1, p1⟩
theorem s_wh (F : Fits g E T G ck k CX Wish X) {c : Ex} {b : List Sx} {c' : Expr} {b' : List Stmt} (hc : PT X c' (tT g E G c)) (hb : PSs X b' (tS g E fun env => exSs G b env)) : PS X (.While c' b' [] pos) (tS g E fun env => exS G (.whS c b) env) := by
  refine PS.imp (ps_while F.own hc hb) fun D σ H q => ?_
  obtain ⟨φ, S, env, hS, hE, q⟩ := q
  simp only [exS] at q
  refine ⟨fun m σ H => ∃ φ S env, RepS g.C φ H S ∧ RepEnv g.C φ H env σ ∧ PostS g.C E φ H (loopW (fun en => M.bind (ev G c en) truthE) (fun en => exSs G b en) m env S) D, ⟨W, φ, S, env, hS, hE, q⟩, fun m σ H w => ?_⟩
  obtain ⟨φ, S, env, hS, hE, q⟩ := w
  cases m with
  | zero => exact q.elim
  | succ m =>
    unfold loopW at q
    refine (stepS (R := EqB) (m := fun env => M.bind (ev G c env) truthE) hS hE q).mono fun t H1 n => ?_
    obtain ⟨φ1, S1, t', eq, e1, s1, en1, r1, p1⟩ := n
    cases r1
    cases t with
    | false => exact p1 φ1 H1 σ (Ext.refl _ _) s1 en1
    | true =>
      refine ⟨fun σ' H' => ∃ φ S env, RepS g.C φ H' S ∧ RepEnv g.C φ H' env σ' ∧ PostS g.C E φ H' (loopW (fun en => M.bind (ev G c en) truthE) (fun en => exSs G b en) m env S) D, fun σ' H' w => ⟨m, Nat.lt_succ_self m, w⟩, φ1, S1, env, s1, en1, ?_⟩
      have p1 : PostS g.C E φ1 H1 (M.bind (exSs G b env) (fun f => match f with
        | .nx e => loopW (fun en => M.bind (ev G c en) truthE) (fun en => exSs G b en) m e
        | .ct e => loopW (fun en => M.bind (ev G c en) truthE) (fun en => exSs G b en) m e
        | .bk e => M.pure (.nx e)
        | .ret v => M.pure (.ret v)) S1) D := p1
      unfold M.bind at p1
      revert p1
      dsimp only
      cases exSs G b env S1 with
      | stuck => exact id
      | exc x S2 => exact id
      | ok f S2 =>
        cases f with
        | nx e => exact fun p φ' H' σ' x s r => ⟨φ', S2, e, s, r, PostS.ext p x⟩
        | ct e => exact fun p φ' H' σ' x s r => ⟨φ', S2, e, s, r, PostS.ext p x⟩
        | bk e => exact fun p => p
        | ret v => exact fun p => p
theorem s_for (F : Fits g E T G ck k CX Wish X) {t : Tg} {it : Itx} {b : List Sx} {tg iter : Expr} {b' : List Stmt} (ht : mtG t ck tg = true) (hm : mtI T it ck tg iter = true) (hb : PSs X b' (tS g E fun env => exSs G b env)) : PS X (.For tg iter b' [] pos) (tS g E fun env => exS G (.forS t it b) env) := by
  refine PS.imp (ps_for F.own F.calm (snd_it trivial it F _ _ hm) (snd_g F t tg ht) hb (fun x => mtI_fsi hm _ x)) fun D σ H q => ?_
  obtain ⟨φ, S, env, hS, hE, q⟩ := q
  simp only [exS] at q
  refine (stepS (R := fun φ H J items => WalkP g.C J items φ H) hS hE q).mono fun J H1 n => ?_
  obtain ⟨φ1, S1, items, eq, e1, s1, en1, w1, p1⟩ := n
  refine ⟨fun i m σ H => i ≤ items.length ∧ m = items.length - i ∧ ∃ φ S env, RepS g.C φ H S ∧ RepEnv g.C φ H env σ ∧ WalkP g.C J items φ H ∧ PostS g.C E φ H (loopF (fun x en => asgT t x en) (fun en => exSs G b en) (items.drop i) env S) D, ⟨_, Nat.zero_le _, rfl, φ1, S1, env, s1, en1, w1, by rw [List.drop_zero]; exact p1⟩, fun i m σ H w => ?_⟩
  obtain ⟨hi, rfl, φ, S, env, hS, hE, w, q⟩ := w
  have rf : Kp φ H φ H := (Ext.refl φ H).kp
  by_cases hlt : i < items.length
  · right
    have hdr : items.drop i = items[i] :: items.drop (i + 1) := List.drop_eq_getElem_cons hlt
    rw [hdr] at q
    unfold loopF at q
    obtain ⟨en, he, q⟩ := PostS.ofO q
    refine ⟨w.goes i φ H hlt rf, fun σ' H' => ∃ φ S env, RepS g.C φ H' S ∧ RepEnv g.C φ H' env σ' ∧ WalkP g.C J items φ H' ∧ PostS g.C E φ H' (loopF (fun x en => asgT t x en) (fun en => exSs G b en) (items.drop (i + 1)) env S) D, fun σ' H' w => ⟨items.length - (i + 1), by omega, by omega, rfl, w⟩, fun x H' hy => ?_⟩
    obtain ⟨e2, s2, r2⟩ := w.yields i φ H S x H' _ (List.getElem?_eq_getElem hlt) rf hS hy
    refine ⟨φ, S, env, _, en, s2, hE.mono e2.kp, r2, he, fun σ' h1 _ => ⟨φ, S, en, s2, h1, ?_⟩⟩
    have q2 := PostS.ext q e2
    have q2 : PostS g.C E φ H' (M.bind (exSs G b en) (fun f => match f with
        | .nx e => loopF (fun x en => asgT t x en) (fun en => exSs G b en) (items.drop (i + 1)) e
        | .ct e => loopF (fun x en => asgT t x en) (fun en => exSs G b en) (items.drop (i + 1)) e
        | .bk e => M.pure (.nx e)
        | .ret v => M.pure (.ret v)) S) D := q2
    unfold M.bind at q2
    revert q2
    dsimp only
    have w2 := w.mono e2.kp
    cases exSs G b en S with
    | stuck => exact id
    | exc x S2 => exact id
    | ok f S2 =>
      cases f with
      | nx e => exact fun p φ' H' σ' x s r => ⟨φ', S2, e, s, r, w2.mono x.kp, PostS.ext p x⟩
      | ct e => exact fun p φ' H' σ' x s r => ⟨φ', S2, e, s, r, w2.mono x.kp, PostS.ext p x⟩
      | bk e => exact fun p => p
      | ret v => exact fun p => p
  · left
    have hie : i = items.length := by omega
    subst hie
    rw [List.drop_length] at q
    exact ⟨w.stops φ H rf, q φ H σ (Ext.refl _ _) hS hE⟩
theorem s_nx {m : Nv → M Flw} (h : ∀ env, m env = M.pure (.nx env)) {D : Ends} {σ : L2.St} {H : Hp} (q : tS g E m D σ H) : D.nx σ H := by
  obtain ⟨φ, S, env, hS, hE, q⟩ := q
  rw [h] at q
  exact q φ H σ (Ext.refl _ _) hS hE
/-- a thing that changed is taken as it stands -/
theorem RepS.frz {C : RC} {φ : Ph} {H : Hp} {S : Store} {n : Nat} {c0 : Cell} {x : V} (h : RepS C φ H S) (hn : S[n]? = some c0) (hd : c0 ≠ .dead) (r : RepE C φ H x (.box n)) :
    ∃ φ' a, x = .ref a ∧ ¬ φ'.has a ∧ Ext φ H φ' H ∧ RepS C φ' H (S.set n .dead) ∧ CellOk C.K φ' H a c0 := by
  rcases h.cell n _ hn with d | ⟨a, h1, h2⟩
  · exact absurd d hd
  have hx := r.2 a h1
  subst hx
  have hnl : n < φ.box.length := r.1
  have hns : n < S.length := by rw [← h.len]; exact hnl
  have getb : ∀ m b, (φ.box.set n none)[m]? = some (some b) → m ≠ n ∧ φ.box[m]? = some (some b) := fun m b q => by
    by_cases e : n = m
    · subst e; rw [List.getElem?_set_self hnl] at q; cases q
    · rw [List.getElem?_set_ne e] at q; exact ⟨Ne.symm e, q⟩
  have sub : ∀ b, Ph.has ⟨φ.box.set n none, φ.hid⟩ b → φ.has b := fun b m => by
    rcases m with m | m
    · obtain ⟨j, hj⟩ := List.mem_iff_getElem?.mp m
      exact .inl (List.mem_of_getElem? (getb j b hj).2)
    · exact .inr m
  have na : ¬ Ph.has ⟨φ.box.set n none, φ.hid⟩ a := fun m => by
    rcases m with m | m
    · obtain ⟨j, hj⟩ := List.mem_iff_getElem?.mp m
      obtain ⟨g1, g2⟩ := getb j a hj
      exact g1 (h.inj j n a g2 h1)
    · exact h.disj n a h1 m
  have ext : Ext φ H ⟨φ.box.set n none, φ.hid⟩ H := ⟨by simp, fun _ m => m, fun m b _ q => (getb m b q).2, fun b m q => absurd (sub b m) q, fun _ _ q _ => q, fun _ _ => rfl⟩
  refine ⟨⟨φ.box.set n none, φ.hid⟩, a, rfl, na, ext, ⟨by simp [h.len], fun m c q => ?_, fun i j b q1 q2 => h.inj i j b (getb _ _ q1).2 (getb _ _ q2).2, fun b m => h.there b (sub b m), fun m b q => ?_, fun m b q => h.disj m b (getb _ _ q).2⟩, h2.keep ext.kp.kept fun u q => q⟩
  · by_cases e : n = m
    · subst e; rw [List.getElem?_set_self hns] at q; cases q; exact .inl rfl
    · rw [List.getElem?_set_ne e] at q
      rcases h.cell m c q with r0 | ⟨b, g1, g2⟩
      · exact .inl r0
      · refine .inr ⟨b, ?_, ?_⟩
        · show (φ.box.set n none)[m]? = _
          rw [List.getElem?_set_ne e]; exact g1
        · exact g2.keep ext.kp.kept fun u q => q
  · obtain ⟨g1, g2⟩ := getb m b q
    rw [List.getElem?_set_ne (Ne.symm g1)]
    exact h.live m b g2
/-- a value in a slot is another reading of the same -/
theorem RepEnv.put {C : RC} {φ : Ph} {H : Hp} {env : Nv} {σ : L2.St} {i : Nat} {x : V} {v : EV} (h : RepEnv C φ H env σ) (hx : σ[i]? = some (some x)) (r : RepE C φ H x v) : RepEnv C φ H (env.set i (some v)) σ := by
  have e : σ.set i (some x) = σ := by
    refine List.ext_getElem? fun j => ?_
    by_cases z : i = j
    · subst z
      rw [List.getElem?_set_self (List.getElem?_eq_some_iff.mp hx).1, hx]
    · rw [List.getElem?_set_ne z]
  have := h.set i r
  rw [e] at this
  exact this
theorem frz_go {i : Nat} {ss : List Sx} {D : Ends} {σ : L2.St} {H : Hp} (q : tS g E (fun env => exSs G (.frz i :: ss) env) D σ H) : tS g E (fun env => exSs G ss env) D σ H := by
  obtain ⟨φ, S, env, hS, hE, q⟩ := q
  simp only [exSs, exS] at q
  change PostS g.C E φ H (M.bind (M.bind (frzE i env) fun e1 => M.pure (Flw.nx e1)) (fun f : Flw => match f with
    | .nx e => exSs G ss e
    | f => M.pure f) S) D at q
  rw [bind_assoc'] at q
  change PostS g.C E φ H (M.bind (frzE i env) (fun e1 => exSs G ss e1) S) D at q
  unfold M.bind frzE at q
  dsimp only at q
  cases hi : env[i]? with
  | none => rw [hi] at q; exact q.elim
  | some o =>
    rw [hi] at q
    cases o with
    | none => exact q.elim
    | some v =>
      cases v with
      | p v => exact q.elim
      | fn f => exact q.elim
      | box n =>
        dsimp only at q
        cases hn : S[n]? with
        | none => rw [hn] at q; exact q.elim
        | some c =>
          rw [hn] at q
          cases c with
          | dead => exact q.elim
          | dct m ks vs =>
            obtain ⟨x, hx, rx⟩ := hE.val i _ hi
            obtain ⟨φ', a, rfl, na, e, s, c⟩ := RepS.frz hS hn (by simp) rx
            exact ⟨φ', _, _, s, (hE.mono e.kp).put (v := .p (.dct m ks vs)) hx (c.rep na), PostS.ext q e⟩
          | lst xs =>
            obtain ⟨x, hx, rx⟩ := hE.val i _ hi
            obtain ⟨φ', a, rfl, na, e, s, vs, h1, h2⟩ := RepS.frz hS hn (by simp) rx
            exact ⟨φ', _, _, s, (hE.mono e.kp).put (v := .p (.lst xs)) hx (.lst ⟨na, .inl h1⟩ h2), PostS.ext q e⟩
theorem seq_go {a : Sx} {ss : List Sx} {D : Ends} {σ : L2.St} {H : Hp} (q : tS g E (fun env => exSs G (a :: ss) env) D σ H) : tSeq (tS g E fun env => exS G a env) (tS g E fun env => exSs G ss env) D σ H := by
  obtain ⟨φ, S, env, hS, hE, q⟩ := q
  simp only [exSs] at q
  refine ⟨φ, S, env, hS, hE, ?_⟩
  change PostS g.C E φ H (M.bind (exS G a env) (fun f => match f with
    | .nx e => exSs G ss e
    | f => M.pure f) S) D at q
  unfold M.bind at q
  revert q
  dsimp only
  cases exS G a env S with
  | stuck => exact id
  | exc x S2 => exact id
  | ok f S2 =>
    cases f with
    | nx e => exact fun p φ' H' σ' x s r => ⟨φ', S2, e, s, r, PostS.ext p x⟩
    | ct e => exact fun p => p
    | bk e => exact fun p => p
    | ret v => exact fun p => p
mutual
theorem snd_s (F : Fits g E T G ck k CX Wish X) : ∀ (a : Sx) (s : Stmt), mtS T a ck s = true → PS X s (tS g E fun env => exS G a env)
  | .asg t e, s, h => by
    simp only [mtS] at h
    split at h
    · rename_i tg v pos
      simp only [Bool.and_eq_true] at h
      have he := (snd_e trivial e F _ h.1).1.1
      cases t with
      | nm i =>
        have h2 := h.2
        simp only [asgC] at h2
        split at h2
        · rename_i x p
          simp only [Bool.and_eq_true, decide_eq_true_eq] at h2
          obtain ⟨⟨h3, h4⟩, h5⟩ := h2
          cases v with
          | ListComp elt gs scope vp => exact s_asgC F h.1 h3 h4 h5
          | SetComp _ _ _ _ => cases h5
          | DictComp _ _ _ _ _ => cases h5
          | _ => exact s_asgN F he h3 h4 rfl
        · cases h2
      | tup gs =>
        have h2 := h.2
        cases tg with
        | Tuple ts n p =>
          refine s_asgT F h.1 he (fun es vs q m p q2 => ?_) h2
          subst q q2
          have h1 := h.1
          simp only [mtE, Bool.and_eq_true] at h1
          exact snd_es trivial es F vs h1.1
        | _ => simp [asgC] at h2
    · cases h
  | .asgs is es, s, h => by
    simp only [mtS] at h
    split at h
    · simp only [Bool.and_eq_true] at h
      exact s_asgs F h.1.1 (snd_es trivial es F _ h.1.1) h.1.2 h.2
    · cases h
  | .sub o i e, s, h => by
    simp only [mtS] at h
    split at h
    · simp only [Bool.and_eq_true] at h
      exact s_sub F h.2 (snd_e trivial o F _ h.1.1.2).1.1 (snd_e trivial i F _ h.1.2).1.1 (snd_e trivial e F _ h.1.1.1).1.1
    · cases h
  | .aug i op e, s, h => by
    simp only [mtS] at h
    split at h
    · simp only [Bool.and_eq_true, decide_eq_true_eq] at h
      obtain ⟨⟨⟨h1, h2⟩, h3⟩, h4⟩ := h
      split at h4
      · exact s_aug F (snd_e trivial e F _ h3).1.1 h1 h2
      · cases h4
    · cases h
  | .ex e, s, h => by
    simp only [mtS] at h
    split at h
    · simp only [Bool.and_eq_true] at h
      exact s_ex F (snd_e trivial e F _ h.1).1.1 h.2
    · cases h
  | .ret e, s, h => by
    simp only [mtS] at h
    split at h
    · exact s_ret F (snd_e trivial e F _ h).1.1
    · cases h
  | .retN, s, h => by
    simp only [mtS] at h
    split at h
    · refine PS.imp ps_retN fun D σ H q => ?_
      obtain ⟨φ, S, env, hS, hE, q⟩ := q
      simp only [exS] at q
      exact q φ H _ (Ext.refl _ _) hS .non
    · cases h
  | .ifS c a b, s, h => by
    simp only [mtS] at h
    split at h
    · simp only [Bool.and_eq_true] at h
      exact s_if F (snd_e trivial c F _ h.1.1).1.2 (snd_ss F a _ h.1.2) (snd_ss F b _ h.2)
    · cases h
  | .whS c b, s, h => by
    simp only [mtS] at h
    split at h
    · simp only [Bool.and_eq_true] at h
      exact s_wh F (snd_e trivial c F _ h.1).1.2 (snd_ss F b _ h.2)
    · cases h
  | .forS t it b, s, h => by
    simp only [mtS] at h
    split at h
    · simp only [Bool.and_eq_true] at h
      exact s_for F h.1.1 h.1.2 (snd_ss F b _ h.2)
    · cases h
  | .brk, s, h => by
    simp only [mtS] at h
    split at h
    · refine PS.imp ps_break fun D σ H q => ?_
      obtain ⟨φ, S, env, hS, hE, q⟩ := q
      simp only [exS] at q
      exact q φ H σ (Ext.refl _ _) hS hE
    · cases h
  | .cnt, s, h => by
    simp only [mtS] at h
    split at h
    · refine PS.imp ps_continue fun D σ H q => ?_
      obtain ⟨φ, S, env, hS, hE, q⟩ := q
      simp only [exS] at q
      exact q φ H σ (Ext.refl _ _) hS hE
    · cases h
  | .pass, s, h => by
    simp only [mtS] at h
    split at h
    · exact PS.imp ps_pass fun D σ H q => s_nx (fun env => by simp only [exS]) q
    · exact PS.imp ps_doc fun D σ H q => s_nx (fun env => by simp only [exS]) q
    · cases h
  | .frz i, s, h => by simp only [mtS, Bool.false_eq_true] at h
  | .rse, s, h => ⟨fun pins st σ H D I q => by
    obtain ⟨φ, S, env, hS, hE, q⟩ := q
    simp only [exS] at q
    exact q.elim⟩
theorem snd_ss (F : Fits g E T G ck k CX Wish X) : ∀ (as : List Sx) (ss : List Stmt), mtSs T as ck ss = true → PSs X ss (tS g E fun env => exSs G as env)
  | [], ss, h => by
    cases ss with
    | nil => exact PSs.imp pss_nil fun D σ H q => s_nx (fun env => by simp only [exSs]) q
    | cons s ss => simp only [mtSs, List.isEmpty_cons, Bool.false_eq_true] at h
  | a :: as, ss, h => by
    simp only [mtSs] at h
    split at h
    · exact PSs.imp (snd_ss F as ss h) fun D σ H q => frz_go q
    · split at h
      · simp only [Bool.and_eq_true] at h
        exact PSs.imp (pss_cons (snd_s F a _ h.1) (snd_ss F as _ h.2)) fun D σ H q => seq_go q
      · cases h
end
end
end Ip

set_option Elab.async false
set_option linter.all false
set_option maxRecDepth 100000
set_option maxHeartbeats 4000000
/-! Ip, part 19: defs. -/
namespace Ip
open PySem L2 PySem.Spec PyProof.Rows

/-! ### a def's end -/
section
variable {C : RC} {φ φ' : Ph} {H H' : Hp} {S S' : Store} {E : EX}
theorem cut_ok (h0 : RepS C φ H S) (e : Ext φ H φ' H') (h : RepS C φ' H' S') :
    Ext φ H ⟨φ'.box.take S.length, φ'.hid⟩ H' ∧ RepS C ⟨φ'.box.take S.length, φ'.hid⟩ H' (S'.take S.length) ∧ (∀ v x, Rep C.K φ' H' x v → Rep C.K ⟨φ'.box.take S.length, φ'.hid⟩ H' x v) ∧
      ∀ n a, S.length ≤ n → φ'.box[n]? = some (some a) → ¬ Ph.has ⟨φ'.box.take S.length, φ'.hid⟩ a := by
  have hl : S.length ≤ φ'.box.length := by rw [← h0.len]; exact e.len
  have getb : ∀ m (b : Addr), (φ'.box.take S.length)[m]? = some (some b) → m < S.length ∧ φ'.box[m]? = some (some b) := fun m b q => by
    rw [List.getElem?_take] at q
    split at q
    · rename_i hm; exact ⟨hm, q⟩
    · cases q
  have sub : ∀ b, Ph.has ⟨φ'.box.take S.length, φ'.hid⟩ b → φ'.has b := fun b m => by
    rcases m with m | m
    · exact .inl (List.mem_of_mem_take m)
    · exact .inr m
  have kp : ∀ a o, H' a = some o → ¬ φ'.has a → ¬ Ph.has ⟨φ'.box.take S.length, φ'.hid⟩ a ∧ H' a = some o := fun a o q n => ⟨fun m => n (sub a m), q⟩
  have rk : ∀ v x, Rep C.K φ' H' x v → Rep C.K ⟨φ'.box.take S.length, φ'.hid⟩ H' x v := fun v x r => Rep.keep kp v x r
  have rks : ∀ vs xs, Reps C.K φ' H' xs vs → Reps C.K ⟨φ'.box.take S.length, φ'.hid⟩ H' xs vs := fun v x r => Reps.keep kp v x r
  refine ⟨⟨by rw [List.length_take, h0.len]; omega, e.hid, fun n a hn q => e.old n a hn (getb n a q).2, fun a m n => e.new a (sub a m) n, e.kept, e.hkept⟩, ⟨by rw [List.length_take, List.length_take, h.len], fun n c q => ?_, fun n m a q1 q2 => h.inj n m a (getb _ _ q1).2 (getb _ _ q2).2, fun a m => h.there a (sub a m), fun n a q => ?_, fun n a q => h.disj n a (getb _ _ q).2⟩, rk, fun n a hn q m => ?_⟩
  · rw [List.getElem?_take] at q
    split at q
    · rename_i hm
      rcases h.cell n c q with r | ⟨a, h1, h2⟩
      · exact .inl r
      · refine .inr ⟨a, by show (φ'.box.take S.length)[n]? = _; rw [List.getElem?_take, if_pos hm]; exact h1, ?_⟩
        exact h2.keep kp fun u q => q
    · cases q
  · rw [List.getElem?_take, if_pos (getb n a q).1]
    exact h.live n a (getb n a q).2
  · rcases m with m | m
    · obtain ⟨j, hj⟩ := List.mem_iff_getElem?.mp m
      obtain ⟨g1, g2⟩ := getb j a hj
      have := h.inj j n a g2 q
      omega
    · exact h.disj n a q m
theorem leave_ok {body : M Flw} {Q : V → Hp → Prop} {keep : Bool} (h0 : RepS C φ H S) (h : Post C E (RepE C) φ H (M.bind body (leave keep S.length) S) Q) : PostS C E φ H (body S) { nx := fun _ H' => Q .non H', rt := Q } := by
  unfold M.bind at h
  revert h
  cases body S with
  | stuck => exact id
  | exc x S2 => exact id
  | ok f S2 =>
    cases f with
    | bk e => exact fun h => h.elim
    | ct e => exact fun h => h.elim
    | nx e =>
      intro h φ' H' σ' x s r
      cases keep with
      | true => exact h φ' H' .non x s .non
      | false =>
        obtain ⟨e1, s1, k1, _⟩ := cut_ok h0 x s
        exact h _ H' .non e1 s1 .non
    | ret v =>
      intro h φ' H' z x s r
      cases keep with
      | true => exact h φ' H' z x s r
      | false =>
        obtain ⟨e1, s1, k1, k2⟩ := cut_ok h0 x s
        cases v with
        | p v => exact h _ H' z e1 s1 (k1 _ _ r)
        | fn f => exact h _ H' z e1 s1 r
        | box n =>
          dsimp only [leave] at h
          change Post C E (RepE C) φ H (if n < S.length then Res.ok (EV.box n) (S2.take S.length) else match S2[n]? with
            | some c => (match cellV c with
              | some v => Res.ok (EV.p v) (S2.take S.length)
              | none => Res.stuck)
            | none => Res.stuck) Q at h
          by_cases hn : n < S.length
          · rw [if_pos hn] at h
            refine h _ H' z e1 s1 ⟨?_, fun a q => r.2 a ?_⟩
            · show n < (φ'.box.take S.length).length
              rw [List.length_take]
              have := r.1
              omega
            · have q' : (φ'.box.take S.length)[n]? = some (some a) := q
              rw [List.getElem?_take, if_pos hn] at q'
              exact q'
          · rw [if_neg hn] at h
            cases hq : S2[n]? with
            | none => rw [hq] at h; exact h.elim
            | some c =>
              rw [hq] at h
              dsimp only at h
              rcases s.cell n c hq with d | ⟨a, h1, h2⟩
              · subst d; exact h.elim
              · cases c with
                | dct n2 ks2 vs2 =>
                  have hz := r.2 a h1
                  subst hz
                  have kq : Kpt φ' H' ⟨φ'.box.take S.length, φ'.hid⟩ H' := fun b o q m => ⟨fun w => m (by
                    rcases w with w | w
                    · exact .inl (List.mem_of_mem_take w)
                    · exact .inr w), q⟩
                  have c2 := CellOk.keep kq (fun u q => q) h2
                  exact h _ H' (.ref a) e1 s1 (CellOk.rep (k2 n a (by omega) h1) c2)
                | dead => exact h.elim
                | lst xs =>
                  obtain ⟨vs, h3, h4⟩ := h2
                  have hz := r.2 a h1
                  subst hz
                  have rr := k1 (.lst xs)
                  refine h _ H' (.ref a) e1 s1 (.lst ⟨k2 n a (by omega) h1, .inl h3⟩ ?_)
                  exact Reps.keep (fun b o q m => ⟨fun w => m (by
                    rcases w with w | w
                    · exact .inl (List.mem_of_mem_take w)
                    · exact .inr w), q⟩) _ _ h4
end
/-! ### a def -/
structure DefI where
  glo : Str
  d : He.DefD
  N : List Str
  ps : List Str
  fn : Fn
def fnScB (N P : List Str) (sc : Scope) : Bool :=
  (match sc.kind with | .function => true | _ => false) && !sc.isCoroutine && !sc.isGenerator && decide N.Nodup && decide (N.take P.length = P) &&
    (P.all fun x => decide (sc.names.lookup x = some .local) || decide (sc.names.lookup x = some .cell)) && sc.names.all fun y => decide (y.2 ≠ .free)
theorem fnScB_ok {N P : List Str} {sc : Scope} (h : fnScB N P sc = true) : FnScope N P sc := by
  unfold fnScB at h
  simp only [Bool.and_eq_true, List.all_eq_true, decide_eq_true_eq, Bool.not_eq_true', Bool.or_eq_true] at h
  obtain ⟨⟨⟨⟨⟨⟨h1, h2⟩, h3⟩, h4⟩, h5⟩, h6⟩, h7⟩ := h
  refine ⟨?_, h2, h3, h4, h5, h6, h7⟩
  split at h1
  · assumption
  · cases h1
def DefI.ok (T : Tb) (e : DefI) : Bool := mtSs T e.fn.body ⟨e.N, e.d.scope, true⟩ e.d.body && decide (e.N.length = e.fn.nl) && decide (e.ps.length = e.fn.np) && fnScB e.N e.ps e.d.scope
def DefI.Bnd (e : DefI) : Prop := ∀ (kV doc pm : Value) (an : Option Addr) (cdv ct : Value) (us : List Value), us.length = e.ps.length → bindArgs (PySem.W.fnOf e.d.name e.d.qual e.d.params e.d.body e.d.scope .none kV doc pm an cdv ct) ⟨us, []⟩ = pure (e.ps.zip us)
structure Lw where
  defs : List DefI
  cons : List (Str × PV)
  free : List Str
def Lw.T (L : Lw) : Tb := ⟨L.defs.map (·.glo), L.cons, L.free⟩
def Lw.F (L : Lw) (f : Nat) : Option Fn := (L.defs[f]?).map (·.fn)
def Lw.ok (L : Lw) : Bool := L.defs.all fun e => e.ok L.T
/-- what the head tells -/
structure Facts (L : Lw) (K : FK) (mg : Str → Option Value) : Prop where
  con : ∀ x v, (x, v) ∈ L.cons → ∃ u z, mg x = some u ∧ RelV z u ∧ ∀ φ H, Rep K φ H z v
  free : ∀ x, x ∈ L.free → mg x = none
  glo : ∀ (f : Nat) e, L.defs[f]? = some e → mg e.glo = some (.ref (He.ga K.K e.glo))
  fns : ∀ (f : Nat) e, L.defs[f]? = some e → ∃ fd, FunD K.K e.d.name e.d.qual e.d.params e.d.body e.d.scope [] [] (He.ga K.K e.glo) fd
def Lw.gc (L : Lw) (K : FK) : Gc := ⟨⟨K, fun f => (L.defs[f]?).map fun e => He.ga K.K e.glo⟩, fun _ _ _ _ => True⟩
theorem RepEs.start {C : RC} {φ : Ph} {H : Hp} {vs : List V} {es : List EV} {N : List Str} {nl : Nat} (hn : N.length = nl) (r : RepEs C φ H vs es) : RepEnv C φ H (start nl es) (L2.start N vs) := by
  have hl := r.length
  refine ⟨?_, fun i v q => ?_⟩
  · unfold Ip.start L2.start
    simp only [List.length_append, List.length_map, List.length_replicate]
    omega
  · unfold Ip.start at q
    by_cases hi : i < es.length
    · rw [List.getElem?_append_left (by simpa using hi), List.getElem?_map] at q
      have key : ∀ {vs : List V} {es : List EV} {i : Nat} {v : EV}, RepEs C φ H vs es → es[i]? = some v → ∃ x, vs[i]? = some x ∧ RepE C φ H x v := by
        intro vs es i v r
        induction r generalizing i with
        | nil => intro q; simp at q
        | cons p q ih =>
          intro w
          cases i with
          | zero => simp at w; subst w; exact ⟨_, rfl, p⟩
          | succ i => simpa using ih (by simpa using w)
      cases hq : es[i]? with
      | none => rw [hq] at q; cases q
      | some w =>
        rw [hq] at q
        cases q
        obtain ⟨x, h1, h2⟩ := key r hq
        refine ⟨x, ?_, h2⟩
        unfold L2.start
        rw [List.getElem?_append_left (by rw [List.length_map, hl]; exact hi), List.getElem?_map, h1]
        rfl
    · rw [List.getElem?_append_right (by simpa using Nat.le_of_not_lt hi)] at q
      rw [List.getElem?_replicate] at q
      split at q
      · cases q
      · cases q
theorem fn_step (L : Lw) (hok : L.ok = true) {P : Program} {w : World} {K : PySem.W.Frag} {mg : Str → Option Value} {base : Heap} {k f : Nat} {e : DefI} {fd : FuncData} (ih : Fx (L.gc ⟨K, P, w⟩) L.T (run L.F k) k CX0 P w K mg base) (he : L.defs[f]? = some e)
    (FD : FunD K e.d.name e.d.qual e.d.params e.d.body e.d.scope [] [] (He.ga K e.glo) fd) : FnG P w K mg base CX0 (k + 1) (He.ga K e.glo) fd e.ps (spG (L.gc ⟨K, P, w⟩) (run L.F (k + 1)) f) := by
  have hck : e.ok L.T = true := List.all_eq_true.mp hok e (List.mem_of_getElem? he)
  unfold DefI.ok at hck
  simp only [Bool.and_eq_true, decide_eq_true_eq] at hck
  obtain ⟨⟨⟨c1, c2⟩, c3⟩, c4⟩ := hck
  have sc := fnScB_ok c4
  have hF : L.F f = some e.fn := by show (L.defs[f]?).map _ = _; rw [he]; rfl
  have opn : ∀ vs H Q E, spG (L.gc ⟨K, P, w⟩) (run L.F (k + 1)) f vs H Q E → ∃ φ S es, RepS (L.gc ⟨K, P, w⟩).C φ H S ∧ RepEs (L.gc ⟨K, P, w⟩).C φ H vs es ∧ es.length = e.fn.np ∧
      Post (L.gc ⟨K, P, w⟩).C (fun x _ _ H' => ∀ cls d, (L.gc ⟨K, P, w⟩).xrep x cls d H' → E cls d H') (RepE (L.gc ⟨K, P, w⟩).C) φ H (M.bind (exSs (run L.F k) e.fn.body (start e.fn.nl es)) (leave e.fn.keep S.length) S) Q := fun vs H Q E h => by
    obtain ⟨φ, S, es, h1, h2, h3⟩ := h
    unfold run at h3
    rw [hF] at h3
    dsimp only at h3
    by_cases hl : es.length = e.fn.np
    · rw [if_pos hl] at h3
      exact ⟨φ, S, es, h1, h2, hl, h3⟩
    · rw [if_neg hl] at h3; exact h3.elim
  refine okG FD sc (fun vs H Q E h => ?_) fun cdv A outer s H vs Q E hG hr h => ?_
  · obtain ⟨φ, S, es, h1, h2, h3, _⟩ := opn _ _ _ _ h
    rw [h2.length, h3, c3]
  · obtain ⟨φ, S, es, h1, h2, h3, h4⟩ := opn _ _ _ _ h
    have Ft : Fits (L.gc ⟨K, P, w⟩) (fun x _ _ H' => ∀ cls d, (L.gc ⟨K, P, w⟩).xrep x cls d H' → E cls d H') L.T (run L.F k) ⟨e.N, e.d.scope, true⟩ k CX0 E (cxOf CX0 P w K mg base e.N e.d.qual e.d.scope (He.ga K e.glo) cdv A outer s H E) :=
      ⟨rfl, sc.nd, rfl, rfl, ⟨rfl, rfl, rfl⟩, hr, fun _ _ => rfl, ih, pass0, fun x S φ H h cls d => h cls d, fun _ _ _ _ _ h => h, PassesOwn.leaving, hG⟩
    exact ⟨_, snd_ss Ft e.fn.body e.d.body c1, φ, S, start e.fn.nl es, h1, h2.start c2, leave_ok h1 h4⟩
theorem law_fx (L : Lw) (hok : L.ok = true) (hb : ∀ e ∈ L.defs, e.Bnd) {P : Program} {w : World} {K : PySem.W.Frag} {mg : Str → Option Value} {base : Heap} (fa : Facts L ⟨K, P, w⟩ mg) : ∀ k, Fx (L.gc ⟨K, P, w⟩) L.T (run L.F k) k CX0 P w K mg base := by
  intro k
  induction k with
  | zero =>
    refine ⟨fa.con, fa.free, fun f x hx => ?_⟩
    have hx' : (L.defs.map (·.glo))[f]? = some x := hx
    rw [List.getElem?_map] at hx'
    cases he : L.defs[f]? with
    | none => rw [he] at hx'; cases hx'
    | some e =>
      rw [he] at hx'
      cases hx'
      obtain ⟨fd, FD⟩ := fa.fns f e he
      have nope : ∀ vs H Q E, ¬ spG (L.gc ⟨K, P, w⟩) (run L.F 0) f vs H Q E := fun vs H Q E h => by
        obtain ⟨φ, S, es, _, _, h⟩ := h
        exact h
      refine ⟨He.ga K e.glo, fd, e.ps, by show (L.defs[f]?).map _ = _; rw [he]; rfl, fa.glo f e he, FD.kp, FD.bindsN (hb e (List.mem_of_getElem? he)), ⟨fun vs H Q E h => absurd h (nope _ _ _ _), fun A outer s H args us vs Q E _ _ _ _ _ h => absurd h (nope _ _ _ _)⟩⟩
  | succ k ih =>
    refine ⟨fa.con, fa.free, fun f x hx => ?_⟩
    have hx' : (L.defs.map (·.glo))[f]? = some x := hx
    rw [List.getElem?_map] at hx'
    cases he : L.defs[f]? with
    | none => rw [he] at hx'; cases hx'
    | some e =>
      rw [he] at hx'
      cases hx'
      obtain ⟨fd, FD⟩ := fa.fns f e he
      exact ⟨He.ga K e.glo, fd, e.ps, by show (L.defs[f]?).map _ = _; rw [he]; rfl, fa.glo f e he, FD.kp, FD.bindsN (hb e (List.mem_of_getElem? he)), fn_step L hok ih he FD⟩
end Ip

set_option Elab.async false
set_option linter.all false
set_option maxRecDepth 100000
set_option maxHeartbeats 4000000
/-! Ip, part 20: from the head's facts to a law. -/
namespace Ip
open PySem L2 PySem.Spec PyProof.Rows
mutual
def repK (K : PySem.W.Frag) : Value → PV → Bool
  | u, .non => match u with
    | .none => true
    | _ => false
  | u, .bl b => match u with
    | .bool c => decide (c = b)
    | _ => false
  | u, .int i => match u with
    | .int j _ => decide (j = i)
    | _ => false
  | u, .str x => match u with
    | .str y _ => decide (y = x) && PyData.strOk x
    | _ => false
  | u, .tup vs => match u with
    | .ref a => (match K.lookup a with
      | some o => (match o.cls, o.data with
        | .type c, .seq its _ => decide (c = "tuple") && decide (its.size ≤ sizeLine) && repKs K its.toList vs
        | _, _ => false)
      | none => false)
    | _ => false
  | _, _ => false
def repKs (K : PySem.W.Frag) : List Value → List PV → Bool
  | [], [] => true
  | u :: us, v :: vs => repK K u v && repKs K us vs
  | _, _ => false
end
mutual
theorem repK_ok {K : PySem.W.Frag} : ∀ (v : PV) (u : Value), repK K u v = true → ∃ z, RelV z u ∧ ∀ P w φ H, Rep ⟨K, P, w⟩ φ H z v
  | .non, u, h => by
    simp only [repK] at h
    split at h
    · exact ⟨.non, rfl, fun _ _ _ _ => .non⟩
    · cases h
  | .bl b, u, h => by
    simp only [repK] at h
    split at h
    · rw [decide_eq_true_eq] at h
      subst h
      exact ⟨.bl _, rfl, fun _ _ _ _ => .bl _⟩
    · cases h
  | .int i, u, h => by
    simp only [repK] at h
    split at h
    · rw [decide_eq_true_eq] at h
      subst h
      exact ⟨.int _, ⟨_, rfl⟩, fun _ _ _ _ => .int _⟩
    · cases h
  | .str x, u, h => by
    simp only [repK] at h
    split at h
    · rw [Bool.and_eq_true, decide_eq_true_eq] at h
      obtain ⟨h1, h2⟩ := h
      subst h1
      exact ⟨.str _, ⟨_, rfl⟩, fun _ _ _ _ => .str h2⟩
    · cases h
  | .tup vs, u, h => by
    simp only [repK] at h
    split at h
    · rename_i a
      split at h
      · rename_i o ho
        split at h
        · rename_i c its n hc hd
          simp only [Bool.and_eq_true, decide_eq_true_eq] at h
          obtain ⟨⟨h1, h2⟩, h3⟩ := h
          obtain ⟨zs, r, p⟩ := repKs_ok vs its.toList h3
          exact ⟨.ref a, rfl, fun P w φ H => .tup (.inr ⟨o, its, n, ho, by rw [hc, h1], hd, h2, r⟩) (p P w φ H)⟩
        · cases h
      · cases h
    · cases h
  | .lst vs, u, h => by simp only [repK, Bool.false_eq_true] at h
  | .dct _ _ _, u, h => by simp only [repK, Bool.false_eq_true] at h
  | .set vs, u, h => by simp only [repK, Bool.false_eq_true] at h
theorem repKs_ok {K : PySem.W.Frag} : ∀ (vs : List PV) (us : List Value), repKs K us vs = true → ∃ zs, Vals zs us ∧ ∀ P w φ H, Reps ⟨K, P, w⟩ φ H zs vs
  | [], us, h => by
    cases us with
    | nil => exact ⟨[], .nil, fun _ _ _ _ => .nil⟩
    | cons u us => simp only [repKs, Bool.false_eq_true] at h
  | v :: vs, us, h => by
    cases us with
    | nil => simp only [repKs, Bool.false_eq_true] at h
    | cons u us =>
      simp only [repKs, Bool.and_eq_true] at h
      obtain ⟨z, r, p⟩ := repK_ok v u h.1
      obtain ⟨zs, rs, ps⟩ := repKs_ok vs us h.2
      exact ⟨z :: zs, .cons r rs, fun P w φ H => .cons (p P w φ H) (ps P w φ H)⟩
end
def conK (K : PySem.W.Frag) (q : Str × PV) : Bool := match PySem.W.nsIn K mainGlobals q.1 with
  | some (some u) => repK K u q.2
  | _ => false
def Lw.ex (L : Lw) (K : PySem.W.Frag) : Bool := noL K && L.cons.all fun q => conK K q
def Lw.fa (L : Lw) : List He.Fa := L.free.map He.Fa.free ++ L.defs.map fun e => He.Fa.glo e.glo
def Lw.fn (L : Lw) : List He.DefD := L.defs.map (·.d)
def DefI.plainD (e : DefI) : Prop := e.d.at_ = (e.glo, none) ∧ e.d.dfl = [] ∧ e.d.kwd = []
theorem facts_of {L : Lw} {K : PySem.W.Frag} {w : World} {h : Heap} {mg : Str → Option Value} (X : K.In h) (G : h.Ns mainGlobals mg) (c : He.SaysX L.fa L.fn [] [] L.ex w h K) (hp : ∀ e ∈ L.defs, e.plainD) (P : Program) : Facts L ⟨K, P, w⟩ mg := by
  have cd := c.t.d
  have cm := c.more
  unfold Lw.ex at cm
  rw [Bool.and_eq_true, List.all_eq_true] at cm
  refine ⟨fun x v hm => ?_, fun x hx => ?_, fun f e he => ?_, fun f e he => ?_⟩
  · have := cm.2 _ hm
    unfold conK at this
    dsimp only at this
    split at this
    · rename_i u hu
      obtain ⟨z, r, p⟩ := repK_ok v u this
      exact ⟨u, z, PySem.W.mg_of X G hu, r, p P w⟩
    · cases this
  · exact He.free_ok X G (cd.facts (f := .free x) (List.mem_append_left _ (List.mem_map.mpr ⟨x, hx, rfl⟩)))
  · exact He.glo_ok X G (cd.facts (f := .glo e.glo) (List.mem_append_right _ (List.mem_map.mpr ⟨e, List.mem_of_getElem? he, rfl⟩)))
  · obtain ⟨fd, F⟩ := cd.defs (d := e.d) (List.mem_map.mpr ⟨e, List.mem_of_getElem? he, rfl⟩)
    obtain ⟨h1, h2, h3⟩ := hp e (List.mem_of_getElem? he)
    refine ⟨fd, ?_⟩
    have e1 : e.d.dvs K = [] := by unfold He.DefD.dvs; rw [h2]; rfl
    have e2 : e.d.kws K = [] := by unfold He.DefD.kws; rw [h3]; rfl
    have e3 : He.fAd K e.d.at_ = He.ga K e.glo := by rw [h1]; rfl
    rw [e1, e2, e3] at F
    exact F
/-- what is left of a law: the plain one -/
def Lw.Says (L : Lw) (k f n : Nat) : Prop := ∀ ns : List Int, ns.length ≤ n → ∃ S, run L.F k f [.p (.lst (ns.map PV.int))] [] = .ok (.p (.bl true)) S
theorem law_end (L : Lw) (hok : L.ok = true) (hb : ∀ e ∈ L.defs, e.Bnd) (hp : ∀ e ∈ L.defs, e.plainD) {l : PySem.W.OpenLaw} {f k n : Nat} {e : DefI} (he : L.defs[f]? = some e) (hps : e.ps = [("script" : Str)]) (hS : L.Says (k + 1) f n) (w : World) (mg : Str → Option Value) (fa : Addr) (h : Heap)
    (Y : ∃ K : PySem.W.Frag, K.In h ∧ He.SaysX L.fa L.fn [] [] L.ex w h K) (G : h.Ns mainGlobals mg) (hmg : mg e.glo = some (.ref fa)) :
    ∃ (K : PySem.W.Frag) (fd : FuncData) (sp : Sp), K.In h ∧ noL K = true ∧ (∀ (s : Shared) (u : Value), BindsTo s fd ⟨[u], []⟩ [(("script" : Str), u)]) ∧
      (∀ (a : Addr) (vs : List Value) (ns : List Int), ns.length ≤ n → sp [.ref a] (H1 a vs ns) (fun v _ => v = .bl true) fun _ _ _ => False) ∧
      ∀ base : Heap, K.In base → base.Ns mainGlobals mg → FnG l.prog w K mg base CX0 (k + 1) fa fd [("script" : Str)] sp := by
  obtain ⟨K, KX, c⟩ := Y
  have F := facts_of KX G c hp l.prog
  have hg := F.glo f e he
  rw [hmg] at hg
  cases hg
  obtain ⟨fd, FD⟩ := F.fns f e he
  have hbe := hb e (List.mem_of_getElem? he)
  have cm := c.more
  unfold Lw.ex at cm
  rw [Bool.and_eq_true] at cm
  refine ⟨K, fd, spG (L.gc ⟨K, l.prog, w⟩) (run L.F (k + 1)) f, KX, cm.1, fun s u => ?_, fun a vs ns hn => ?_, fun base _ _ => ?_⟩
  · have := FD.bindsA (ps := e.ps) hbe s [u] (by rw [hps]; rfl)
    rw [hps] at this
    exact this
  · obtain ⟨S, hr⟩ := hS ns hn
    have no : ∀ b, ¬ Ph.has ⟨[], []⟩ b := fun b m => by rcases m with m | m <;> cases m
    have ri : Reps ⟨K, l.prog, w⟩ ⟨[], []⟩ (H1 a vs ns) (ns.map V.int) (ns.map PV.int) := Reps.ints ns
    refine ⟨⟨[], []⟩, [], [.p (.lst (ns.map PV.int))], ⟨rfl, fun n c q => by simp at q, fun n m b q => by simp at q, fun b m => absurd m (no b), fun n b q => by simp at q, fun n b q => by simp at q⟩, .cons (.lst ⟨no a, .inr ⟨_, H1_at⟩⟩ ri) .nil, ?_⟩
    rw [hr]
    intro φ' H' b _ _ r
    have r : Rep ⟨K, l.prog, w⟩ φ' H' b (.bl true) := r
    cases r
    rfl
  · have := fn_step (P := l.prog) (w := w) (mg := mg) (base := base) L hok (law_fx L hok hb F k) he FD
    rw [hps] at this
    exact this
end Ip

set_option Elab.async false
set_option linter.all false
set_option maxRecDepth 100000
set_option maxHeartbeats 4000000
/-! Ip, part 21: what is so behind a computation. -/
namespace Ip
open PySem L2
def wp {α : Type} (m : M α) (S : Store) (Q : α → Store → Prop) : Prop := match m S with
  | .ok a S' => Q a S'
  | _ => False
theorem wp_ok {α : Type} {m : M α} {S S' : Store} {a : α} {Q : α → Store → Prop} (h : m S = .ok a S') : wp m S Q = Q a S' := by unfold wp; rw [h]
theorem ok_wp {α : Type} {m : M α} {S : Store} {Q : α → Store → Prop} (h : wp m S Q) : ∃ a S', m S = .ok a S' ∧ Q a S' := by
  unfold wp at h
  cases q : m S with
  | ok a S' => rw [q] at h; exact ⟨a, S', rfl, h⟩
  | exc _ _ => rw [q] at h; exact h.elim
  | stuck => rw [q] at h; exact h.elim
theorem wp_mono {α : Type} {m : M α} {S : Store} {Q Q' : α → Store → Prop} (h : wp m S Q) (i : ∀ a S', Q a S' → Q' a S') : wp m S Q' := by
  unfold wp at h ⊢
  split <;> simp_all
@[simp] theorem wp_pure {α : Type} {a : α} {S : Store} {Q : α → Store → Prop} : wp (M.pure a) S Q = Q a S := rfl
@[simp] theorem wp_bind {α β : Type} {m : M α} {f : α → M β} {S : Store} {Q : β → Store → Prop} : wp (M.bind m f) S Q = wp m S fun a S' => wp (f a) S' Q := by
  unfold wp M.bind
  cases m S <;> rfl
@[simp] theorem wp_bindM {α β : Type} {m : M α} {f : α → M β} {S : Store} {Q : β → Store → Prop} : wp (m >>= f) S Q = wp m S fun a S' => wp (f a) S' Q := wp_bind
@[simp] theorem wp_ite {α : Type} {c : Prop} [Decidable c] {m m' : M α} {S : Store} {Q : α → Store → Prop} : wp (if c then m else m') S Q = if c then wp m S Q else wp m' S Q := by split <;> rfl
@[simp] theorem wp_stk {α : Type} {S : Store} {Q : α → Store → Prop} : wp (stk : M α) S Q = False := rfl
@[simp] theorem wp_ofO {α : Type} {a : α} {S : Store} {Q : α → Store → Prop} : wp (ofO (some a)) S Q = Q a S := rfl
@[simp] theorem wp_ofN {α : Type} {S : Store} {Q : α → Store → Prop} : wp (ofO (none : Option α)) S Q = False := rfl
@[simp] theorem wp_ofI {α : Type} {c : Prop} [Decidable c] {a : α} {S : Store} {Q : α → Store → Prop} : wp (ofO (if c then some a else none)) S Q = (c ∧ Q a S) := by
  by_cases h : c
  · simp [h]
  · simp [h]
@[simp] theorem wp_rdp {v : PV} {S : Store} {Q : PV → Store → Prop} : wp (rd (.p v)) S Q = Q v S := rfl
@[simp] theorem wp_rdb {n : Nat} {S : Store} {Q : PV → Store → Prop} : wp (rd (.box n)) S Q = ∃ v, (S[n]?).bind cellV = some v ∧ Q v S := by
  unfold wp rd
  dsimp only
  cases S[n]? with
  | none => simp
  | some c => cases h : cellV c <;> simp [h]
@[simp] theorem wp_newCell {c : Cell} {S : Store} {Q : EV → Store → Prop} : wp (newCell c) S Q = Q (.box S.length) (S ++ [c]) := rfl
@[simp] theorem wp_truthP {v : PV} {S : Store} {Q : Bool → Store → Prop} : wp (truthE (.p v)) S Q = wp (ofO (truth v)) S Q := by
  unfold truthE
  rw [wp_bindM, wp_rdp]
@[simp] theorem wp_cmpP {op : Cop} {a b : PV} {S : Store} {Q : EV → Store → Prop} : wp (cmpE op (.p a) (.p b)) S Q = wp (ofO (cmpop op a b)) S fun k S => Q (.p (.bl k)) S := by
  unfold cmpE
  simp only [wp_bindM, wp_rdp, wp_pure]
@[simp] theorem wp_rds0 {S : Store} {Q : List PV → Store → Prop} : wp (rds []) S Q = Q [] S := rfl
@[simp] theorem wp_rds1 {e : EV} {r : List EV} {S : Store} {Q : List PV → Store → Prop} : wp (rds (e :: r)) S Q = wp (rd e) S fun v S => wp (rds r) S fun vs S => Q (v :: vs) S := by
  simp only [rds, wp_bindM, wp_pure]
@[simp] theorem pures0 : pures [] = some [] := rfl
@[simp] theorem pures1 {v : PV} {r : List EV} : pures (.p v :: r) = (pures r).map (v :: ·) := rfl
@[simp] theorem pureE1 {v : PV} : pureE (.p v) = some v := rfl
section
variable {G : Nat → List EV → M EV} {env : Nv} {S : Store} {Q : EV → Store → Prop} {a b c : Ex} {es : List Ex}
@[simp] theorem wp_getV {i : Nat} : wp (getV env i) S Q = ∃ v, env[i]? = some (some v) ∧ Q v S := by
  unfold getV
  cases h : env[i]? with
  | none => simp
  | some o => cases o <;> simp
@[simp] theorem wp_var {i : Nat} : wp (ev G (.var i) env) S Q = ∃ v, env[i]? = some (some v) ∧ Q v S := by simp only [ev, wp_getV]
@[simp] theorem wp_con {v : PV} : wp (ev G (.con v) env) S Q = Q (.p v) S := by simp only [ev, wp_pure]
@[simp] theorem wp_glo {x : Str} {v : PV} : wp (ev G (.glo x v) env) S Q = Q (.p v) S := by simp only [ev, wp_pure]
@[simp] theorem wp_fnv {f : Nat} : wp (ev G (.fnv f) env) S Q = Q (.fn f) S := by simp only [ev, wp_pure]
@[simp] theorem wp_tup : wp (ev G (.tup es) env) S Q = wp (evs G es env) S fun vs S => wp (ofO (pures vs)) S fun xs S => Q (.p (.tup xs)) S := by simp only [ev, wp_bindM, wp_pure]
@[simp] theorem wp_lst : wp (ev G (.lst es) env) S Q = wp (evs G es env) S fun vs S => wp (ofO (pures vs)) S fun xs S => Q (.p (.lst xs)) S := by simp only [ev, wp_bindM, wp_pure]
@[simp] theorem wp_newL : wp (ev G (.newL es) env) S Q = wp (evs G es env) S fun vs S => wp (ofO (pures vs)) S fun xs S => Q (.box S.length) (S ++ [.lst xs]) := by simp only [ev, wp_bindM, wp_newCell]
@[simp] theorem wp_dsp {n : Bool} : wp (ev G (.dsp n es) env) S Q = wp (evs G es env) S fun vs S => wp (ofO (pures vs)) S fun xs S => (keysB n xs = true ∧ es.length ≤ 30) ∧ Q (.p (.dct n (mergeD [] [] xs).1 (mergeD [] [] xs).2)) S := by
  simp only [ev, wp_bindM, wp_ite, wp_pure, wp_stk]
  congr 1; funext vs S; congr 1; funext xs S
  by_cases h : (keysB n xs && decide (es.length ≤ 30)) = true
  · rw [if_pos h]; simp only [Bool.and_eq_true, decide_eq_true_eq] at h; simp [h]
  · rw [if_neg h]; simp only [Bool.and_eq_true, decide_eq_true_eq] at h; simp [h]
@[simp] theorem wp_newD {n : Bool} : wp (ev G (.newD n es) env) S Q = wp (evs G es env) S fun vs S => wp (ofO (pures vs)) S fun xs S => (keysB n xs = true ∧ es.length ≤ 30) ∧ Q (.box S.length) (S ++ [.dct n (mergeD [] [] xs).1 (mergeD [] [] xs).2]) := by
  simp only [ev, wp_bindM, wp_ite, wp_newCell, wp_stk]
  congr 1; funext vs S; congr 1; funext xs S
  by_cases h : (keysB n xs && decide (es.length ≤ 30)) = true
  · rw [if_pos h]; simp only [Bool.and_eq_true, decide_eq_true_eq] at h; simp [h]
  · rw [if_neg h]; simp only [Bool.and_eq_true, decide_eq_true_eq] at h; simp [h]
@[simp] theorem wp_bin {op : Bop} : wp (ev G (.bin op a b) env) S Q = wp (ev G a env) S fun x S => wp (ev G b env) S fun y S => wp (rd x) S fun x S => wp (rd y) S fun y S => wp (ofO (binop op x y)) S fun v S => Q (.p v) S := by simp only [ev, wp_bindM, wp_pure]
@[simp] theorem wp_neg : wp (ev G (.neg a) env) S Q = wp (ev G a env) S fun x S => ∃ i, x = .p (.int i) ∧ Q (.p (.int (-i))) S := by
  simp only [ev, wp_bindM]
  congr 1
  funext x S
  split
  · simp
  · rename_i h
    simp only [wp_stk, eq_iff_iff, false_iff, not_exists]
    exact fun i z => h i z.1
@[simp] theorem wp_cmp {op : Cop} : wp (ev G (.cmp op a b) env) S Q = wp (ev G a env) S fun x S => wp (ev G b env) S fun y S => wp (cmpE op x y) S Q := by simp only [ev, wp_bindM]
@[simp] theorem wp_chn {o1 o2 : Cop} : wp (ev G (.chn o1 o2 a b c) env) S Q = wp (ev G a env) S fun x S => wp (ev G b env) S fun y S => wp (cmpE o1 x y) S fun r S => wp (truthE r) S fun k S => if k = true then wp (ev G c env) S fun z S => wp (cmpE o2 y z) S Q else Q (.p (.bl false)) S := by
  simp only [ev, wp_bindM, wp_ite, wp_pure]
@[simp] theorem wp_and : wp (ev G (.and a b) env) S Q = wp (ev G a env) S fun x S => wp (truthE x) S fun k S => if k = true then wp (ev G b env) S Q else Q x S := by simp only [ev, wp_bindM, wp_ite, wp_pure]
@[simp] theorem wp_or : wp (ev G (.or a b) env) S Q = wp (ev G a env) S fun x S => wp (truthE x) S fun k S => if k = true then Q x S else wp (ev G b env) S Q := by simp only [ev, wp_bindM, wp_ite, wp_pure]
@[simp] theorem wp_not : wp (ev G (.not a) env) S Q = wp (ev G a env) S fun x S => wp (truthE x) S fun k S => Q (.p (.bl (!k))) S := by simp only [ev, wp_bindM, wp_pure]
@[simp] theorem wp_cond : wp (ev G (.ite c a b) env) S Q = wp (ev G c env) S fun x S => wp (truthE x) S fun k S => if k = true then wp (ev G a env) S Q else wp (ev G b env) S Q := by simp only [ev, wp_bindM, wp_ite]
@[simp] theorem wp_ix : wp (ev G (.ix a b) env) S Q = wp (ev G a env) S fun x S => wp (ev G b env) S fun y S => wp (rd x) S fun x S => wp (rd y) S fun y S => wp (ofO (ixop x y)) S fun v S => Q (.p v) S := by simp only [ev, wp_bindM, wp_pure]
@[simp] theorem wp_evo0 {Q : Option EV → Store → Prop} : wp (evo G none env) S Q = Q none S := by simp only [evo, wp_pure]
@[simp] theorem wp_evo1 {Q : Option EV → Store → Prop} : wp (evo G (some a) env) S Q = wp (ev G a env) S fun v S => Q (some v) S := by simp only [evo, wp_bindM, wp_pure]
@[simp] theorem wp_intO0 {Q : Option Int → Store → Prop} : wp (intO none) S Q = Q none S := rfl
@[simp] theorem wp_intO1 {i : Int} {Q : Option Int → Store → Prop} : wp (intO (some (.p (.int i)))) S Q = Q (some i) S := rfl
@[simp] theorem wp_sl {lo hi : Option Ex} : wp (ev G (.sl a lo hi) env) S Q = wp (ev G a env) S fun x S => wp (evo G lo env) S fun l S => wp (intO l) S fun l S => wp (evo G hi env) S fun h S => wp (intO h) S fun h S => wp (rd x) S fun x S => wp (ofO (slop x l h)) S fun v S => Q (.p v) S := by
  simp only [ev, wp_bindM, wp_bind, wp_pure]
@[simp] theorem wp_call {f : Nat} : wp (ev G (.call f es) env) S Q = wp (evs G es env) S fun vs S => wp (G f vs) S Q := by simp only [ev, wp_bindM]
@[simp] theorem wp_blt {bb : Blt} : wp (ev G (.blt bb es) env) S Q = wp (evs G es env) S fun vs S => wp (rds vs) S fun xs S => wp (ofO (bltop bb xs)) S fun v S => Q (.p v) S := by simp only [ev, wp_bindM, wp_pure]
@[simp] theorem wp_meth {m : Mt} : wp (ev G (.meth m a es) env) S Q = wp (ev G a env) S fun x S => wp (chkM m x) S fun _ S => wp (evs G es env) S fun vs S => wp (ofO (pures vs)) S fun xs S => wp (methop m x xs) S Q := by simp only [ev, wp_bindM]
@[simp] theorem wp_isi {kd : Kd} : wp (ev G (.isi a kd) env) S Q = wp (ev G a env) S fun x S => wp (rd x) S fun v S => Q (.p (.bl (kdop kd v))) S := by simp only [ev, wp_bindM, wp_pure]
@[simp] theorem wp_evs0 {Q : List EV → Store → Prop} : wp (evs G [] env) S Q = Q [] S := by simp only [evs, wp_pure]
@[simp] theorem wp_evs1 {Q : List EV → Store → Prop} : wp (evs G (a :: es) env) S Q = wp (ev G a env) S fun v S => wp (evs G es env) S fun vs S => Q (v :: vs) S := by simp only [evs, wp_bindM, wp_pure]
@[simp] theorem wp_ifs0 {Q : Bool → Store → Prop} : wp (evIfs G [] env) S Q = Q true S := by simp only [evIfs, wp_pure]
@[simp] theorem wp_ifs1 {Q : Bool → Store → Prop} : wp (evIfs G (a :: es) env) S Q = wp (ev G a env) S fun v S => wp (truthE v) S fun k S => if k = true then wp (evIfs G es env) S Q else Q false S := by simp only [evIfs, wp_bindM, wp_ite, wp_pure]
@[simp] theorem wp_noX {α : Type} {m : M α} {Q : α → Store → Prop} : wp (noX m) S Q = wp m S Q := by
  unfold wp noX
  cases m S <;> rfl
@[simp] theorem wp_lineL {xs : List PV} : wp (lineL xs) S Q = (xs.length ≤ Line ∧ Q (.p (.lst xs)) S) := by
  unfold lineL
  by_cases h : xs.length ≤ Line
  · simp [h]
  · simp [h]
@[simp] theorem wp_comp {own : List Nat} {t : Tg} {it : Itx} {ifs : List Ex} : wp (ev G (.comp a own t it ifs) env) S Q = wp (evIt G it env) S fun xs S => wp (compL (fun x => asgT t x (wipeE env own)) (fun en => evIfs G ifs en) (elt1 G a) xs) S fun vs S => vs.length ≤ Line ∧ Q (.p (.lst vs)) S := by
  simp only [ev, wp_bindM, wp_noX, wp_lineL]
  rfl
@[simp] theorem wp_newDL : wp (ev G (.newDL a) env) S Q = wp (ev G a env) S fun x S => wp (rd x) S fun x S => ∃ xs l, x = .lst xs ∧ prsOf xs = some l ∧ keysB false l = true ∧ Q (.box S.length) (S ++ [.dct false (mergeD [] [] l).1 (mergeD [] [] l).2]) := by
  simp only [ev, wp_bindM]
  congr 1; funext x S; congr 1; funext v S
  split
  · rename_i xs
    split
    · rename_i l hl
      by_cases hb : keysB false l = true
      · rw [if_pos hb, wp_newCell]
        refine propext ⟨fun q => ⟨xs, l, rfl, hl, hb, q⟩, fun ⟨xs', l', e1, e2, e3, q⟩ => ?_⟩
        cases e1
        rw [hl] at e2
        cases e2
        exact q
      · rw [if_neg hb, wp_stk]
        refine propext ⟨False.elim, fun ⟨xs', l', e1, e2, e3, q⟩ => ?_⟩
        cases e1
        rw [hl] at e2
        cases e2
        exact hb e3
    · rename_i hl
      rw [wp_stk]
      refine propext ⟨False.elim, fun ⟨xs', l', e1, e2, e3, q⟩ => ?_⟩
      cases e1
      rw [hl] at e2
      cases e2
  · rename_i h
    rw [wp_stk]
    refine propext ⟨False.elim, fun ⟨xs', l', e1, _⟩ => h xs' e1⟩
@[simp] theorem wp_newC {own : List Nat} {t : Tg} {it : Itx} {ifs : List Ex} : wp (ev G (.newC a own t it ifs) env) S Q = wp (evIt G it env) S fun xs S => wp (compL (fun x => asgT t x (wipeE env own)) (fun en => evIfs G ifs en) (elt1 G a) xs) S fun vs S => vs.length ≤ Line ∧ Q (.box S.length) (S ++ [.lst vs]) := by
  simp only [ev, wp_bindM, wp_noX, wp_lineL, wp_newCell]
  rfl
@[simp] theorem wp_zipV {t : Bool} : wp (ev G (.zipV t a b) env) S Q = wp (ev G a env) S fun x S => wp (ev G b env) S fun y S => wp (rd x) S fun x S => wp (rd y) S fun y S => wp (ofO (zipop t x y)) S fun v S => Q (.p v) S := by simp only [ev, wp_bindM, wp_pure]
@[simp] theorem wp_slR : wp (ev G (.slR a b) env) S Q = wp (ev G a env) S fun x S => wp (ev G b env) S fun y S => wp (rd x) S fun x S => wp (rd y) S fun y S => wp (ofO (revop x y)) S fun v S => Q (.p v) S := by simp only [ev, wp_bindM, wp_pure]
@[simp] theorem wp_rngV {t : Bool} : wp (ev G (.rngV t a) env) S Q = wp (ev G a env) S fun v S => ∃ j, v = .p (.int j) ∧ (small j = true ∧ j ≤ (Line : Nat)) ∧ Q (.p (if t then .tup (rngL 0 j) else .lst (rngL 0 j))) S := by
  simp only [ev, wp_bindM]
  congr 1
  funext v S
  split
  · rename_i j
    by_cases h : (small j && decide (j ≤ ((Line : Nat) : Int))) = true
    · rw [if_pos h, wp_pure]
      simp only [Bool.and_eq_true, decide_eq_true_eq] at h
      refine propext ⟨fun q => ⟨j, rfl, h, q⟩, fun ⟨j', e, _, q⟩ => ?_⟩
      cases e; exact q
    · rw [if_neg h, wp_stk]
      simp only [Bool.and_eq_true, decide_eq_true_eq] at h
      refine propext ⟨False.elim, fun ⟨j', e, g, q⟩ => ?_⟩
      cases e; exact h g
  · rename_i h
    simp only [wp_stk, eq_iff_iff, false_iff, not_exists]
    exact fun i z => h i z.1
@[simp] theorem wp_comp2 {own own1 : List Nat} {t t1 : Tg} {it it1 : Itx} {ifs ifs1 : List Ex} : wp (ev G (.comp2 a own t it ifs own1 t1 it1 ifs1) env) S Q = wp (evIt G it env) S fun xs S => wp (compF (fun x => asgT t x (wipeE env own)) (fun en => evIfs G ifs en) (sub2 G a it1 t1 ifs1 own1) xs) S fun vs S => vs.length ≤ Line ∧ Q (.p (.lst vs)) S := by
  simp only [ev, wp_bindM, wp_noX, wp_lineL]
  rfl
@[simp] theorem wp_seq {Q : List PV → Store → Prop} : wp (evIt G (.seq a) env) S Q = wp (ev G a env) S fun v S => wp (ofO (pureE v)) S fun x S => wp (ofO (itemsOf x)) S Q := by simp only [evIt, wp_bindM]
@[simp] theorem wp_rng1 {Q : List PV → Store → Prop} : wp (evIt G (.rng1 a) env) S Q = wp (ev G a env) S fun v S => ∃ j, v = .p (.int j) ∧ small j = true ∧ Q (rngL 0 j) S := by
  simp only [evIt, wp_bindM]
  congr 1
  funext v S
  split
  · rename_i j
    by_cases h : small j = true <;> simp [h]
  · rename_i h
    simp only [wp_stk, eq_iff_iff, false_iff, not_exists]
    exact fun i z => h i z.1
@[simp] theorem wp_rng2 {Q : List PV → Store → Prop} : wp (evIt G (.rng2 a b) env) S Q = wp (ev G a env) S fun v S => wp (ev G b env) S fun w S => ∃ i j, v = .p (.int i) ∧ w = .p (.int j) ∧ (small i && small j) = true ∧ Q (rngL i j) S := by
  simp only [evIt, wp_bindM]
  congr 1
  funext v S
  congr 1
  funext w S
  split
  · rename_i i j
    by_cases h : (small i && small j) = true
    · simp only [h, if_true, wp_pure]
      simp_all
    · simp only [h, wp_stk]
      simp_all
  · rename_i h
    simp only [wp_stk, eq_iff_iff, false_iff, not_exists]
    exact fun i j z => h i j z.1 z.2.1
@[simp] theorem wp_elt1 {Q : PV → Store → Prop} : wp (elt1 G a env) S Q = wp (ev G a env) S fun v S => wp (ofO (pureE v)) S Q := wp_bind
@[simp] theorem compL0 {asg : PV → Option Nv} {ifs : Nv → M Bool} {elt : Nv → M PV} {Q : List PV → Store → Prop} : wp (compL asg ifs elt []) S Q = Q [] S := rfl
theorem compL1 {asg : PV → Option Nv} {ifs : Nv → M Bool} {elt : Nv → M PV} {x : PV} {xs : List PV} {Q : List PV → Store → Prop} : wp (compL asg ifs elt (x :: xs)) S Q = wp (ofO (asg x)) S fun en S => wp (ifs en) S fun b S => if b = true then wp (elt en) S fun v S => wp (compL asg ifs elt xs) S fun r S => Q (v :: r) S else wp (compL asg ifs elt xs) S Q := by
  simp only [compL, wp_bindM, wp_ite, wp_pure]
/-- each item by itself, nothing changed -/
theorem compL_map {asg : PV → Option Nv} {ifs : Nv → M Bool} {elt : Nv → M PV} (p : PV → Bool) (f : PV → PV) : ∀ {xs : List PV} {Q : List PV → Store → Prop}, (∀ x ∈ xs, ∀ R : Bool → PV → Store → Prop, wp (ofO (asg x)) S (fun en S => wp (ifs en) S fun b S => if b = true then wp (elt en) S fun v S => R b v S else R b .non S) = R (p x) (if p x = true then f x else .non) S) → wp (compL asg ifs elt xs) S Q = Q ((xs.filter p).map f) S
  | [], Q, _ => rfl
  | x :: xs, Q, h => by
    rw [compL1]
    have ih : ∀ Q, wp (compL asg ifs elt xs) S Q = Q ((xs.filter p).map f) S := fun Q => compL_map p f fun y hy => h y (List.mem_cons_of_mem _ hy)
    have h1 := h x List.mem_cons_self
    have hx := h1 (fun b v S' => S' = S ∧ b = p x ∧ (b = true → v = f x))
    cases ha : asg x with
    | none =>
      rw [ha] at hx
      have : (S = S ∧ p x = p x ∧ (p x = true → (if p x = true then f x else .non) = f x)) := ⟨rfl, rfl, fun z => if_pos z⟩
      rw [← hx] at this
      exact this.elim
    | some en =>
      rw [ha] at hx
      have : (S = S ∧ p x = p x ∧ (p x = true → (if p x = true then f x else .non) = f x)) := ⟨rfl, rfl, fun z => if_pos z⟩
      rw [← hx] at this
      rw [wp_ofO] at this ⊢
      obtain ⟨b, S1, e1, q1⟩ := ok_wp this
      rw [wp_ok e1]
      cases b with
      | true =>
        rw [if_pos rfl] at q1 ⊢
        obtain ⟨v, S2, e2, rfl, q2, q3⟩ := ok_wp q1
        rw [wp_ok e2, ih, List.filter_cons_of_pos q2.symm, List.map_cons, q3 rfl]
      | false =>
        rw [if_neg (by simp)] at q1 ⊢
        obtain ⟨rfl, q2, q3⟩ := q1
        rw [ih, List.filter_cons_of_neg (by rw [← q2]; simp)]
@[simp] theorem compF0 {asg : PV → Option Nv} {ifs : Nv → M Bool} {sub : Nv → M (List PV)} {Q : List PV → Store → Prop} : wp (compF asg ifs sub []) S Q = Q [] S := rfl
theorem compF1 {asg : PV → Option Nv} {ifs : Nv → M Bool} {sub : Nv → M (List PV)} {x : PV} {xs : List PV} {Q : List PV → Store → Prop} : wp (compF asg ifs sub (x :: xs)) S Q = wp (ofO (asg x)) S fun en S => wp (ifs en) S fun b S => if b = true then wp (sub en) S fun v S => wp (compF asg ifs sub xs) S fun r S => Q (v ++ r) S else wp (compF asg ifs sub xs) S Q := by
  simp only [compF, wp_bindM, wp_ite, wp_pure]
/-- each item gives a list, nothing changed -/
theorem compF_map {asg : PV → Option Nv} {ifs : Nv → M Bool} {sub : Nv → M (List PV)} (f : PV → List PV) : ∀ {xs : List PV} {Q : List PV → Store → Prop}, (∀ x ∈ xs, ∀ R : List PV → Store → Prop, wp (ofO (asg x)) S (fun en S => wp (ifs en) S fun b S => if b = true then wp (sub en) S fun v S => R v S else R [] S) = R (f x) S) → wp (compF asg ifs sub xs) S Q = Q (xs.flatMap f) S
  | [], Q, _ => rfl
  | x :: xs, Q, h => by
    rw [compF1]
    have ih : ∀ Q, wp (compF asg ifs sub xs) S Q = Q (xs.flatMap f) S := fun Q => compF_map f fun y hy => h y (List.mem_cons_of_mem _ hy)
    have h1 := h x List.mem_cons_self
    have hx := h1 (fun v S' => S' = S ∧ v = f x)
    have : (S = S ∧ f x = f x) := ⟨rfl, rfl⟩
    rw [← hx] at this
    cases ha : asg x with
    | none => rw [ha] at this; exact this.elim
    | some en =>
      rw [ha] at this
      rw [wp_ofO] at this ⊢
      obtain ⟨b, S1, e1, q1⟩ := ok_wp this
      rw [wp_ok e1]
      cases b with
      | true =>
        rw [if_pos rfl] at q1 ⊢
        obtain ⟨v, S2, e2, rfl, q2⟩ := ok_wp q1
        rw [wp_ok e2, ih, List.flatMap_cons, q2]
      | false =>
        rw [if_neg (by simp)] at q1 ⊢
        obtain ⟨rfl, q2⟩ := q1
        rw [ih, List.flatMap_cons, ← q2]
        rfl
/-- with an invariant -/
theorem compL_inv {asg : PV → Option Nv} {ifs : Nv → M Bool} {elt : Nv → M PV} (I : Store → Prop) (P : PV → Prop) : ∀ {xs : List PV} {S : Store} {Q : List PV → Store → Prop}, I S → (∀ x ∈ xs, ∀ S, I S → wp (ofO (asg x)) S fun en S => wp (ifs en) S fun b S => if b = true then wp (elt en) S fun v S => P v ∧ I S else I S) → (∀ vs S, vs.length ≤ xs.length → (∀ v ∈ vs, P v) → I S → Q vs S) → wp (compL asg ifs elt xs) S Q
  | [], S, Q, hI, _, hQ => hQ [] S (Nat.le_refl _) (by simp) hI
  | x :: xs, S, Q, hI, h, hQ => by
    rw [compL1]
    refine wp_mono (h x List.mem_cons_self S hI) fun en S1 q => wp_mono q fun b S2 q2 => ?_
    cases b with
    | true =>
      rw [if_pos rfl] at q2 ⊢
      refine wp_mono q2 fun v S3 ⟨p, i⟩ => compL_inv I P i (fun y hy => h y (List.mem_cons_of_mem _ hy)) fun vs S hl hv hI => hQ _ _ (Nat.succ_le_succ hl) (fun w hw => ?_) hI
      rcases List.mem_cons.mp hw with z | z
      · exact z ▸ p
      · exact hv w z
    | false =>
      rw [if_neg (by simp)] at q2 ⊢
      exact compL_inv I P q2 (fun y hy => h y (List.mem_cons_of_mem _ hy)) fun vs S hl hv hI => hQ _ _ (Nat.le_succ_of_le hl) hv hI
end
section
variable {G : Nat → List EV → M EV} {env : Nv} {S : Store} {Q : Flw → Store → Prop} {a b c : Ex} {ss tt : List Sx} {s : Sx}
@[simp] theorem wp_asg {t : Tg} : wp (exS G (.asg t a) env) S Q = wp (ev G a env) S fun v S => wp (ofO (asgV t v env)) S fun e S => Q (.nx e) S := by simp only [exS, wp_bindM, wp_pure]
@[simp] theorem wp_setCell : wp (exS G (.sub a b c) env) S Q = wp (ev G c env) S fun v S => wp (ofO (pureE v)) S fun v S => wp (ev G a env) S fun x S => wp (ev G b env) S fun y S => wp (ofO (pureE y)) S fun y S => wp (subop x y v) S fun _ S => Q (.nx env) S := by simp only [exS, wp_bindM, wp_pure]
@[simp] theorem wp_aug {i : Nat} : wp (exS G (.aug i .add a) env) S Q = wp (getV env i) S fun x S => wp (ev G a env) S fun y S => ∃ p q, x = .p (.int p) ∧ y = .p (.int q) ∧ Q (.nx (env.set i (some (.p (.int (p + q)))))) S := by
  simp only [exS, wp_bindM]
  congr 1
  funext x S
  congr 1
  funext y S
  cases x with
  | p x =>
    cases y with
    | p y =>
      cases x with
      | int p =>
        cases y with
        | int q => simp
        | _ => simp
      | _ => cases y <;> simp
    | _ => simp [pureE]
  | _ => simp [pureE]
@[simp] theorem wp_exE : wp (exS G (.ex a) env) S Q = wp (ev G a env) S fun _ S => Q (.nx env) S := by simp only [exS, wp_bindM, wp_pure]
@[simp] theorem wp_ret : wp (exS G (.ret a) env) S Q = wp (ev G a env) S fun v S => Q (.ret v) S := by simp only [exS, wp_bindM, wp_pure]
@[simp] theorem wp_retN : wp (exS G .retN env) S Q = Q (.ret (.p .non)) S := by simp only [exS, wp_pure]
@[simp] theorem wp_ifS : wp (exS G (.ifS c ss tt) env) S Q = wp (ev G c env) S fun x S => wp (truthE x) S fun k S => if k = true then wp (exSs G ss env) S Q else wp (exSs G tt env) S Q := by simp only [exS, wp_bindM, wp_ite]
@[simp] theorem wp_brk : wp (exS G .brk env) S Q = Q (.bk env) S := by simp only [exS, wp_pure]
@[simp] theorem wp_cnt : wp (exS G .cnt env) S Q = Q (.ct env) S := by simp only [exS, wp_pure]
@[simp] theorem wp_pass : wp (exS G .pass env) S Q = Q (.nx env) S := by simp only [exS, wp_pure]
@[simp] theorem wp_whS : wp (exS G (.whS c ss) env) S Q = wp (loopW (fun en => M.bind (ev G c en) truthE) (fun en => exSs G ss en) W env) S Q := by simp only [exS]; rfl
@[simp] theorem wp_forS {t : Tg} {it : Itx} : wp (exS G (.forS t it ss) env) S Q = wp (evIt G it env) S fun xs S => wp (loopF (fun x en => asgT t x en) (fun en => exSs G ss en) xs env) S Q := by simp only [exS, wp_bindM]
@[simp] theorem wp_asgs {is : List Nat} : wp (exS G (.asgs is es) env) S Q = wp (evs G es env) S fun vs S => wp (ofO (setAll is vs env)) S fun e S => Q (.nx e) S := by simp only [exS, wp_bindM, wp_pure]
@[simp] theorem wp_rse : wp (exS G .rse env) S Q = False := by simp only [exS, wp_stk]
@[simp] theorem wp_frz {i : Nat} : wp (exS G (.frz i) env) S Q = wp (frzE i env) S fun e S => Q (.nx e) S := by simp only [exS, wp_bindM, wp_pure]
@[simp] theorem wp_ss0 : wp (exSs G [] env) S Q = Q (.nx env) S := by simp only [exSs, wp_pure]
/-- behind a statement -/
def aft (G : Nat → List EV → M EV) (ss : List Sx) (Q : Flw → Store → Prop) : Flw → Store → Prop
  | .nx e, S => wp (exSs G ss e) S Q
  | f, S => Q f S
@[simp] theorem aft_nx {e : Nv} : aft G ss Q (.nx e) S = wp (exSs G ss e) S Q := rfl
@[simp] theorem aft_ret {v : EV} : aft G ss Q (.ret v) S = Q (.ret v) S := rfl
@[simp] theorem aft_bk {e : Nv} : aft G ss Q (.bk e) S = Q (.bk e) S := rfl
@[simp] theorem aft_ct {e : Nv} : aft G ss Q (.ct e) S = Q (.ct e) S := rfl
@[simp] theorem wp_ss1 : wp (exSs G (s :: ss) env) S Q = wp (exS G s env) S (aft G ss Q) := by
  simp only [exSs, wp_bindM]
  congr 1
  funext f S
  cases f <;> rfl
/-- one part of a body behind another -/
theorem wp_app : ∀ {ss tt : List Sx} {env : Nv} {S : Store} {Q : Flw → Store → Prop}, wp (exSs G (ss ++ tt) env) S Q = wp (exSs G ss env) S (aft G tt Q)
  | [], tt, env, S, Q => by simp
  | s :: ss, tt, env, S, Q => by
    rw [List.cons_append, wp_ss1, wp_ss1]
    congr 1
    funext f S
    cases f with
    | nx e => exact wp_app
    | _ => rfl
@[simp] theorem wp_leaveP {v : PV} {n : Nat} {Q : EV → Store → Prop} : wp (leave false n (.ret (.p v))) S Q = Q (.p v) (S.take n) := rfl
@[simp] theorem wp_leaveK {v : EV} {n : Nat} {Q : EV → Store → Prop} : wp (leave true n (.ret v)) S Q = Q v S := rfl
@[simp] theorem wp_leaveN {e : Nv} {n : Nat} {Q : EV → Store → Prop} : wp (leave false n (.nx e)) S Q = Q (.p .non) (S.take n) := rfl
/-- a for, with an invariant over what is left -/
theorem loopF_inv {asg : PV → Nv → Option Nv} {b : Nv → M Flw} (I : List PV → Nv → Store → Prop) : ∀ {xs : List PV} {env : Nv} {S : Store} {Q : Flw → Store → Prop}, I xs env S → (∀ x r env S, I (x :: r) env S → ∃ e1, asg x env = some e1 ∧ wp (b e1) S fun f S => match f with
    | .nx e => I r e S
    | .ct e => I r e S
    | .bk e => Q (.nx e) S
    | .ret v => Q (.ret v) S) → (∀ env S, I [] env S → Q (.nx env) S) → wp (loopF asg b xs env) S Q
  | [], env, S, Q, hI, _, hQ => hQ env S hI
  | x :: xs, env, S, Q, hI, h, hQ => by
    unfold loopF
    obtain ⟨e1, h1, h2⟩ := h x xs env S hI
    rw [wp_bindM, h1, wp_ofO, wp_bindM]
    refine wp_mono h2 fun f S1 q => ?_
    cases f with
    | nx e => exact loopF_inv I q h hQ
    | ct e => exact loopF_inv I q h hQ
    | bk e => exact q
    | ret v => exact q
/-- a while, with an invariant and a measure -/
theorem loopW_inv {c : Nv → M Bool} {b : Nv → M Flw} (I : Nat → Nv → Store → Prop) : ∀ {m n : Nat} {env : Nv} {S : Store} {Q : Flw → Store → Prop}, I n env S → n < m → (∀ n env S, I n env S → wp (c env) S fun k S => if k = true then wp (b env) S fun f S => match f with
    | .nx e => ∃ n', n' < n ∧ I n' e S
    | .ct e => ∃ n', n' < n ∧ I n' e S
    | .bk e => Q (.nx e) S
    | .ret v => Q (.ret v) S else Q (.nx env) S) → wp (loopW c b m env) S Q
  | 0, n, env, S, Q, hI, hn, h => absurd hn (Nat.not_lt_zero n)
  | m + 1, n, env, S, Q, hI, hn, h => by
    unfold loopW
    rw [wp_bindM]
    refine wp_mono (h n env S hI) fun k S1 q => ?_
    cases k with
    | false => simpa using q
    | true =>
      simp only [if_true] at q ⊢
      rw [wp_bindM]
      refine wp_mono q fun f S1 q => ?_
      cases f with
      | nx e =>
        obtain ⟨n', h1, h2⟩ := q
        exact loopW_inv I h2 (by omega) h
      | ct e =>
        obtain ⟨n', h1, h2⟩ := q
        exact loopW_inv I h2 (by omega) h
      | bk e => exact q
      | ret v => exact q
end
/-- the turn of a def -/
theorem wp_run {F : Nat → Option Fn} {k f : Nat} {vs : List EV} {d : Fn} {S : Store} {Q : EV → Store → Prop} (h : F f = some d) (hn : vs.length = d.np) : wp (run F (k + 1) f vs) S Q = wp (exSs (run F k) d.body (start d.nl vs)) S fun f S' => wp (leave d.keep S.length f) S' Q := by
  have e : run F (k + 1) f vs S = M.bind (exSs (run F k) d.body (start d.nl vs)) (leave d.keep S.length) S := by
    unfold run
    rw [h]
    dsimp only
    rw [if_pos hn]
  rw [← wp_bind]
  unfold wp
  rw [e]
@[simp] theorem start_def (nl : Nat) (vs : List EV) : start nl vs = vs.map some ++ List.replicate (nl - vs.length) none := rfl
end Ip

set_option Elab.async false
set_option linter.all false
set_option maxRecDepth 100000
set_option maxHeartbeats 4000000
/-! Ip, part 21b: the operations, case by case. -/
namespace Ip
open PySem L2
@[simp] theorem Line_val : Line = 16777216 := rfl
@[simp] theorem wp_ofJ {α : Type} {c : Prop} [Decidable c] {a : α} {S : Store} {Q : α → Store → Prop} : wp (ofO (if c then none else some a)) S Q = (¬ c ∧ Q a S) := by
  by_cases h : c <;> simp [h]
@[simp] theorem wp_ofIE {α : Type} {c : Prop} [Decidable c] {o o' : Option α} {S : Store} {Q : α → Store → Prop} : wp (ofO (if c then o else o')) S Q = if c then wp (ofO o) S Q else wp (ofO o') S Q := by
  by_cases h : c <;> simp [h]
section
variable {i j : Int} {x y : Str} {xs ys : List PV} {v w : PV} {p q : Bool}
@[simp] theorem bin_add : binop .add (.int i) (.int j) = some (.int (i + j)) := rfl
@[simp] theorem bin_adds : binop .add (.str x) (.str y) = if x.length + y.length ≤ Line then some (.str (x ++ y)) else none := rfl
@[simp] theorem bin_addl : binop .add (.lst xs) (.lst ys) = if xs.length + ys.length ≤ Line then some (.lst (xs ++ ys)) else none := rfl
@[simp] theorem bin_addt : binop .add (.tup xs) (.tup ys) = if xs.length + ys.length ≤ Line then some (.tup (xs ++ ys)) else none := rfl
@[simp] theorem bin_sub : binop .sub (.int i) (.int j) = some (.int (i - j)) := rfl
@[simp] theorem bin_mul : binop .mul (.int i) (.int j) = if cmulB i j = true then some (.int (i * j)) else none := rfl
@[simp] theorem bin_fdiv : binop .fdiv (.int i) (.int j) = if j ≠ 0 ∧ j.natAbs < 1073741824 then some (.int (i.fdiv j)) else none := rfl
@[simp] theorem bin_mod : binop .mod (.int i) (.int j) = if j ≠ 0 then some (.int (i.fmod j)) else none := rfl
@[simp] theorem bin_pow : binop .pow (.int i) (.int j) = if 0 ≤ j ∧ j ≤ 1000000 ∧ i.natAbs < 2 ^ 64 then some (.int (i ^ j.toNat)) else none := rfl
@[simp] theorem eqP_int : eqP (.int i) (.int j) = decide (i = j) := by simp [eqP]; rfl
@[simp] theorem eqP_str : eqP (.str x) (.str y) = decide (x = y) := by simp [eqP]; rfl
@[simp] theorem eqP_bl : eqP (.bl p) (.bl q) = decide (p = q) := by cases p <;> cases q <;> rfl
@[simp] theorem eqP_tup : eqP (.tup xs) (.tup ys) = eqPs xs ys := by simp [eqP]
@[simp] theorem eqP_lst : eqP (.lst xs) (.lst ys) = eqPs xs ys := by simp [eqP]
@[simp] theorem eqP_non : eqP .non .non = true := by simp [eqP]
@[simp] theorem eqPs_nn : eqPs [] [] = true := by simp [eqPs]
@[simp] theorem eqPs_n : eqPs xs [] = xs.isEmpty := by cases xs <;> simp [eqPs]
@[simp] theorem eqPs_n' : eqPs [] xs = xs.isEmpty := by cases xs <;> simp [eqPs]
@[simp] theorem eqPs_c : eqPs (v :: xs) (w :: ys) = (eqP v w && eqPs xs ys) := by simp [eqPs]
@[simp] theorem cmp_lt : cmpop .lt (.int i) (.int j) = some (decide (i < j)) := rfl
@[simp] theorem cmp_le : cmpop .le (.int i) (.int j) = some (decide (i ≤ j)) := rfl
@[simp] theorem cmp_gt : cmpop .gt (.int i) (.int j) = some (decide (j < i)) := rfl
@[simp] theorem cmp_ge : cmpop .ge (.int i) (.int j) = some (decide (j ≤ i)) := rfl
@[simp] theorem cmp_les : cmpop .le (.str x) (.str y) = some (!decide (y.cps.toList < x.cps.toList)) := rfl
@[simp] theorem cmp_lts : cmpop .lt (.str x) (.str y) = some (decide (x.cps.toList < y.cps.toList)) := rfl
@[simp] theorem okEq_ii : okEq (.int i) (.int j) = true := rfl
@[simp] theorem okEq_ss : okEq (.str x) (.str y) = true := rfl
@[simp] theorem okEq_bb : okEq (.bl p) (.bl q) = true := rfl
@[simp] theorem plain_i : plain (.int i) = true := rfl
@[simp] theorem plain_s : plain (.str x) = true := rfl
@[simp] theorem plain_b : plain (.bl p) = true := rfl
@[simp] theorem plain_n : plain .non = true := rfl
@[simp] theorem plain_l : plain (.lst xs) = plains xs := by simp [plain]
@[simp] theorem plain_t : plain (.tup xs) = plains xs := by simp [plain]
@[simp] theorem plains_n : plains [] = true := by simp [plains]
@[simp] theorem plains_c : plains (v :: xs) = (plain v && plains xs) := by simp [plains]
@[simp] theorem dep_i : dep (.int i) = 0 := rfl
@[simp] theorem dep_s : dep (.str x) = 0 := rfl
@[simp] theorem dep_b : dep (.bl p) = 0 := rfl
@[simp] theorem dep_n : dep .non = 0 := rfl
@[simp] theorem dep_l : dep (.lst xs) = deps xs + 1 := by simp [dep]
@[simp] theorem dep_t : dep (.tup xs) = deps xs + 1 := by simp [dep]
@[simp] theorem deps_n : deps [] = 0 := by simp [deps]
@[simp] theorem deps_c : deps (v :: xs) = max (dep v) (deps xs) := by simp [deps]
@[simp] theorem cmp_eq : cmpop .eq v w = if okEq v w = true then some (eqP v w) else none := by unfold cmpop; rfl
@[simp] theorem cmp_ne : cmpop .ne v w = if okEq v w = true then some (!eqP v w) else none := by unfold cmpop; rfl
@[simp] theorem cmp_inl : cmpop .isin v (.lst xs) = if okEq v (.lst xs) = true then some (memP v xs) else none := by cases v <;> rfl
@[simp] theorem cmp_int : cmpop .isin v (.tup xs) = if okEq v (.tup xs) = true then some (memP v xs) else none := by cases v <;> rfl
@[simp] theorem cmp_isns : cmpop .isin (.str x) (.str y) = some (occ x y) := rfl
@[simp] theorem cmp_nil : cmpop .notin v (.lst xs) = if okEq v (.lst xs) = true then some (!memP v xs) else none := by cases v <;> rfl
@[simp] theorem cmp_nit : cmpop .notin v (.tup xs) = if okEq v (.tup xs) = true then some (!memP v xs) else none := by cases v <;> rfl
@[simp] theorem cmp_isn : cmpop .is_ v .non = some (isNon v) := by cases v <;> rfl
@[simp] theorem cmp_nsn : cmpop .isnot v .non = some (!isNon v) := by cases v <;> rfl
@[simp] theorem cmp_isb : cmpop .is_ (.bl p) (.bl q) = some (decide (p = q)) := rfl
@[simp] theorem cmp_nsb : cmpop .isnot (.bl p) (.bl q) = some (!decide (p = q)) := rfl
@[simp] theorem memP_n : memP v [] = false := rfl
@[simp] theorem memP_c : memP v (w :: xs) = (eqP w v || memP v xs) := rfl
@[simp] theorem isNon_n : isNon .non = true := rfl
@[simp] theorem isNon_t : isNon (.tup xs) = false := rfl
@[simp] theorem truth_b : truth (.bl p) = some p := rfl
@[simp] theorem truth_i : truth (.int i) = some (i != 0) := rfl
@[simp] theorem truth_l : truth (.lst xs) = some (!xs.isEmpty) := rfl
@[simp] theorem truth_t : truth (.tup xs) = some (!xs.isEmpty) := rfl
@[simp] theorem truth_n : truth .non = some false := rfl
@[simp] theorem blt_lens : bltop .len [.str x] = if x.length ≤ Line then some (.int x.length) else none := rfl
@[simp] theorem blt_lenl : bltop .len [.lst xs] = some (.int xs.length) := rfl
@[simp] theorem blt_lent : bltop .len [.tup xs] = some (.int xs.length) := rfl
@[simp] theorem blt_abs : bltop .abs [.int i] = some (.int (if i < 0 then -i else i)) := rfl
@[simp] theorem blt_int : bltop .int [.int i] = some (.int i) := rfl
@[simp] theorem blt_intb : bltop .int [.bl p] = some (.int (if p = true then 1 else 0)) := rfl
@[simp] theorem blt_ls : bltop .list [.str x] = if x.length ≤ Line then some (.lst (signs x)) else none := rfl
@[simp] theorem blt_ll : bltop .list [.lst xs] = some (.lst xs) := rfl
@[simp] theorem blt_lt : bltop .list [.tup xs] = some (.lst xs) := rfl
@[simp] theorem blt_tl : bltop .tuple [.lst xs] = some (.tup xs) := rfl
@[simp] theorem blt_tt : bltop .tuple [.tup xs] = some (.tup xs) := rfl
@[simp] theorem blt_all : bltop .all [.lst xs] = (allB xs).map fun bs => .bl (bs.all id) := rfl
@[simp] theorem blt_any : bltop .any [.lst xs] = (allB xs).map fun bs => .bl (bs.any id) := rfl
@[simp] theorem blt_max2 : bltop .max [.int i, .int j] = some (.int (if j > i then j else i)) := rfl
@[simp] theorem blt_min2 : bltop .min [.int i, .int j] = some (.int (if j < i then j else i)) := rfl
@[simp] theorem blt_sum : bltop .sum [.lst xs] = (allI xs).map fun ns => .int ns.sum := rfl
@[simp] theorem blt_max : bltop .max [.lst xs] = (allI xs).bind fun ns => if ns = [] then none else some (.int (maxI ns)) := rfl
@[simp] theorem blt_repr : bltop .repr [v] = if showB v = true then some (.str (toD v).shown) else none := rfl
@[simp] theorem ix_l : ixop (.lst xs) (.int i) = atI xs i := rfl
@[simp] theorem ix_t : ixop (.tup xs) (.int i) = atI xs i := rfl
@[simp] theorem sl_l {lo hi : Option Int} : slop (.lst xs) lo hi = some (.lst (cutP xs lo hi)) := rfl
@[simp] theorem sl_t {lo hi : Option Int} : slop (.tup xs) lo hi = some (.tup (cutP xs lo hi)) := rfl
@[simp] theorem it_l : itemsOf (.lst xs) = some xs := rfl
@[simp] theorem it_t : itemsOf (.tup xs) = some xs := rfl
@[simp] theorem it_s : itemsOf (.str x) = some (signs x) := rfl
theorem ixN_0 (n : Nat) : ixN (n + 1) 0 = some 0 := by
  unfold ixN
  rw [if_pos (by decide), if_pos (by omega)]; rfl
theorem ixN_1 (n : Nat) : ixN (n + 2) 1 = some 1 := by
  unfold ixN
  rw [if_pos (by decide), if_pos (by omega)]; rfl
theorem ixN_2 (n : Nat) : ixN (n + 3) 2 = some 2 := by
  unfold ixN
  rw [if_pos (by decide), if_pos (by omega)]; rfl
@[simp] theorem atI_0 : atI (v :: xs) 0 = some v := by
  unfold atI
  rw [List.length_cons, ixN_0]; rfl
@[simp] theorem atI_1 {u : PV} : atI (u :: v :: xs) 1 = some v := by
  unfold atI
  rw [List.length_cons, List.length_cons, ixN_1]; rfl
@[simp] theorem atI_2 {t u : PV} : atI (t :: u :: v :: xs) 2 = some v := by
  unfold atI
  rw [List.length_cons, List.length_cons, List.length_cons, ixN_2]; rfl
theorem atI_lt {n : Int} {us : List PV} (h0 : 0 ≤ n) (h : n < us.length) : ∃ v, atI us n = some v ∧ v ∈ us := by
  have hl : n.toNat < us.length := by omega
  refine ⟨us[n.toNat], ?_, List.getElem_mem hl⟩
  unfold atI ixN
  rw [if_pos h0, if_pos h]
  simp [List.getElem?_eq_getElem hl]
@[simp] theorem cut_all : cutP xs none none = xs := by
  unfold cutP
  simp [HT.sIx]
@[simp] theorem kd_int_non : kdop .int .non = false := rfl
@[simp] theorem kd_int_bl : kdop .int (.bl p) = true := rfl
@[simp] theorem kd_int_int : kdop .int (.int i) = true := rfl
@[simp] theorem kd_int_str : kdop .int (.str x) = false := rfl
@[simp] theorem kd_int_lst : kdop .int (.lst xs) = false := rfl
@[simp] theorem kd_int_tup : kdop .int (.tup xs) = false := rfl
@[simp] theorem kd_int_set : kdop .int (.set xs) = false := rfl
@[simp] theorem kd_bool_non : kdop .bool .non = false := rfl
@[simp] theorem kd_bool_bl : kdop .bool (.bl p) = true := rfl
@[simp] theorem kd_bool_int : kdop .bool (.int i) = false := rfl
@[simp] theorem kd_bool_str : kdop .bool (.str x) = false := rfl
@[simp] theorem kd_bool_lst : kdop .bool (.lst xs) = false := rfl
@[simp] theorem kd_bool_tup : kdop .bool (.tup xs) = false := rfl
@[simp] theorem kd_bool_set : kdop .bool (.set xs) = false := rfl
@[simp] theorem kd_str_non : kdop .str .non = false := rfl
@[simp] theorem kd_str_bl : kdop .str (.bl p) = false := rfl
@[simp] theorem kd_str_int : kdop .str (.int i) = false := rfl
@[simp] theorem kd_str_str : kdop .str (.str x) = true := rfl
@[simp] theorem kd_str_lst : kdop .str (.lst xs) = false := rfl
@[simp] theorem kd_str_tup : kdop .str (.tup xs) = false := rfl
@[simp] theorem kd_str_set : kdop .str (.set xs) = false := rfl
@[simp] theorem kd_tuple_non : kdop .tuple .non = false := rfl
@[simp] theorem kd_tuple_bl : kdop .tuple (.bl p) = false := rfl
@[simp] theorem kd_tuple_int : kdop .tuple (.int i) = false := rfl
@[simp] theorem kd_tuple_str : kdop .tuple (.str x) = false := rfl
@[simp] theorem kd_tuple_lst : kdop .tuple (.lst xs) = false := rfl
@[simp] theorem kd_tuple_tup : kdop .tuple (.tup xs) = true := rfl
@[simp] theorem kd_tuple_set : kdop .tuple (.set xs) = false := rfl
@[simp] theorem kd_list_non : kdop .list .non = false := rfl
@[simp] theorem kd_list_bl : kdop .list (.bl p) = false := rfl
@[simp] theorem kd_list_int : kdop .list (.int i) = false := rfl
@[simp] theorem kd_list_str : kdop .list (.str x) = false := rfl
@[simp] theorem kd_list_lst : kdop .list (.lst xs) = true := rfl
@[simp] theorem kd_list_tup : kdop .list (.tup xs) = false := rfl
@[simp] theorem kd_list_set : kdop .list (.set xs) = false := rfl
@[simp] theorem kd_int_dct {n : Bool} {ks vs : List PV} : kdop .int (.dct n ks vs) = false := rfl
@[simp] theorem kd_bool_dct {n : Bool} {ks vs : List PV} : kdop .bool (.dct n ks vs) = false := rfl
@[simp] theorem kd_str_dct {n : Bool} {ks vs : List PV} : kdop .str (.dct n ks vs) = false := rfl
@[simp] theorem kd_tuple_dct {n : Bool} {ks vs : List PV} : kdop .tuple (.dct n ks vs) = false := rfl
@[simp] theorem kd_list_dct {n : Bool} {ks vs : List PV} : kdop .list (.dct n ks vs) = false := rfl
@[simp] theorem plain_d {n : Bool} {ks vs : List PV} : plain (.dct n ks vs) = false := rfl
@[simp] theorem blt_lend {n : Bool} {ks vs : List PV} : bltop .len [.dct n ks vs] = some (.int ks.length) := rfl
@[simp] theorem blt_ld {n : Bool} {ks vs : List PV} : bltop .list [.dct n ks vs] = some (.lst ks) := rfl
@[simp] theorem blt_td {n : Bool} {ks vs : List PV} : bltop .tuple [.dct n ks vs] = some (.tup ks) := rfl
@[simp] theorem blt_dict : bltop .dict [.lst xs] = (prsOf xs).bind fun l => if keysB false l = true then some (.dct false (mergeD [] [] l).1 (mergeD [] [] l).2) else none := rfl
@[simp] theorem blt_sortl : bltop .sorted [.lst xs] = (sortL xs).map PV.lst := rfl
@[simp] theorem blt_sorts : bltop .sorted [.set xs] = (sortP xs).map PV.lst := rfl
@[simp] theorem blt_lenS : bltop .len [.set xs] = some (.int xs.length) := rfl
@[simp] theorem blt_setl : bltop .set [.lst xs] = setOf xs := rfl
@[simp] theorem blt_sett : bltop .set [.tup xs] = setOf xs := rfl
@[simp] theorem bin_bor : binop .bor (.set xs) (.set ys) = if xs.length + ys.length ≤ 4 then some (.set (dedP xs ys)) else none := rfl
theorem sortL_of {ps : List PV} (h : sortP xs = some ps) : sortL xs = some ps := by unfold sortL; rw [h]
@[simp] theorem blt_sortd {n : Bool} {ks vs : List PV} : bltop .sorted [.dct n ks vs] = (sortP ks).map PV.lst := rfl
@[simp] theorem seq_l : seqOf (.lst xs) = some xs := rfl
@[simp] theorem seq_t : seqOf (.tup xs) = some xs := rfl
@[simp] theorem zip_ll {t : Bool} : zipop t (.lst xs) (.lst ys) = some (if t then .tup (zipL xs ys) else .lst (zipL xs ys)) := rfl
@[simp] theorem zip_lt {t : Bool} : zipop t (.lst xs) (.tup ys) = some (if t then .tup (zipL xs ys) else .lst (zipL xs ys)) := rfl
@[simp] theorem zip_tl {t : Bool} : zipop t (.tup xs) (.lst ys) = some (if t then .tup (zipL xs ys) else .lst (zipL xs ys)) := rfl
@[simp] theorem zip_tt {t : Bool} : zipop t (.tup xs) (.tup ys) = some (if t then .tup (zipL xs ys) else .lst (zipL xs ys)) := rfl
@[simp] theorem rev_l : revop (.lst xs) (.int i) = if i = 1 then some (.lst xs) else if i = -1 then some (.lst xs.reverse) else none := rfl
@[simp] theorem blt_minl : bltop .min [.lst xs] = (allI xs).bind fun ns => if ns = [] then none else some (.int (minI ns)) := rfl
@[simp] theorem blt_str : bltop .str [.int i] = if i.natAbs.log2 < 1920 then some (.str (toString i)) else none := rfl
@[simp] theorem ix_d {n : Bool} {ks vs : List PV} : ixop (.dct n ks vs) v = if keyB n v = true then findD v ks vs else none := by cases v <;> rfl
@[simp] theorem it_d {n : Bool} {ks vs : List PV} : itemsOf (.dct n ks vs) = some ks := rfl
@[simp] theorem cmp_ind {n : Bool} {ks vs : List PV} : cmpop .isin v (.dct n ks vs) = if keyB n v = true then some (findD v ks vs).isSome else none := by cases v <;> rfl
@[simp] theorem cmp_nid {n : Bool} {ks vs : List PV} : cmpop .notin v (.dct n ks vs) = if keyB n v = true then some (!(findD v ks vs).isSome) else none := by cases v <;> rfl
@[simp] theorem keyB_fi : keyB false (.int i) = true := rfl
@[simp] theorem keyB_fs : keyB false (.str x) = true := rfl
@[simp] theorem cell_d {n : Bool} {ks vs : List PV} : cellV (.dct n ks vs) = some (.dct n ks vs) := rfl
@[simp] theorem keysB_0 {n : Bool} : keysB n [] = true := rfl
@[simp] theorem keysB_2 {n : Bool} {k : PV} : keysB n (k :: v :: xs) = (keyB n k && keysB n xs) := rfl
@[simp] theorem mergeD_0 {ks vs : List PV} : mergeD ks vs [] = (ks, vs) := rfl
@[simp] theorem mergeD_2 {ks vs : List PV} {k : PV} : mergeD ks vs (k :: v :: xs) = mergeD (putKs k ks) (putV k v ks vs) xs := rfl
@[simp] theorem putKs_0 {k : PV} : putKs k [] = [k] := rfl
@[simp] theorem putKs_1 {k u : PV} {ks : List PV} : putKs k (u :: ks) = if eqP u k = true then u :: ks else u :: putKs k ks := rfl
@[simp] theorem putV_0 {k : PV} {vs : List PV} : putV k v [] vs = [v] := rfl
@[simp] theorem putV_1 {k u t : PV} {ks vs : List PV} : putV k v (u :: ks) (t :: vs) = if eqP u k = true then v :: vs else t :: putV k v ks vs := rfl
@[simp] theorem findD_0 {k : PV} {vs : List PV} : findD k [] vs = none := rfl
@[simp] theorem findD_1 {k u : PV} {ks vs : List PV} : findD k (u :: ks) (v :: vs) = if eqP u k = true then some v else findD k ks vs := rfl
@[simp] theorem prsOf_0 : prsOf [] = some [] := rfl
@[simp] theorem prsOf_1 {k : PV} : prsOf (.tup [k, v] :: xs) = (prsOf xs).map fun l => k :: v :: l := rfl
@[simp] theorem setAll_n {env : Nv} : setAll [] [] env = some env := rfl
@[simp] theorem setAll_c {i : Nat} {is : List Nat} {v : EV} {vs : List EV} {env : Nv} : setAll (i :: is) (v :: vs) env = setAll is vs (env.set i (some v)) := rfl
@[simp] theorem asgV_nm {n : Nat} {e : EV} {env : Nv} : asgV (.nm n) e env = some (env.set n (some e)) := by unfold asgV; rfl
@[simp] theorem asgV_tup {gs : List Tg} {env : Nv} : asgV (.tup gs) (.p v) env = asgT (.tup gs) v env := rfl
@[simp] theorem asgT_nm {n : Nat} {env : Nv} : asgT (.nm n) v env = some (env.set n (some (.p v))) := by simp [asgT]
@[simp] theorem asgT_tup {gs : List Tg} {env : Nv} : asgT (.tup gs) (.tup xs) env = if gs.length = xs.length then asgTs gs xs env else none := by simp [asgT]
@[simp] theorem asgTs_n {env : Nv} : asgTs [] [] env = some env := by simp [asgTs]
@[simp] theorem asgTs_c {g : Tg} {gs : List Tg} {env : Nv} : asgTs (g :: gs) (v :: xs) env = (asgT g v env).bind (asgTs gs xs) := by simp [asgTs]
@[simp] theorem wipe_n {env : Nv} : wipeE env [] = env := rfl
@[simp] theorem wipe_c {n : Nat} {ns : List Nat} {env : Nv} : wipeE env (n :: ns) = (wipeE env ns).set n none := rfl
@[simp] theorem cell_l : cellV (.lst xs) = some (.lst xs) := rfl
end
@[simp] theorem wp_subop {n : Nat} {i : Int} {v : PV} {S : Store} {Q : Unit → Store → Prop} {c : Cell} {us : List PV} {j : Nat} (h : S[n]? = some (.lst us)) (h2 : ixN us.length i = some j) : wp (subop (.box n) (.int i) v) S Q = Q () (S.set n (.lst (us.set j v))) := by
  have e : subop (.box n) (.int i) v S = .ok () (S.set n (.lst (us.set j v))) := by
    unfold subop
    dsimp only
    rw [h]
    dsimp only
    rw [h2]
  exact wp_ok e
theorem wp_subopD {n : Nat} {k v : PV} {S : Store} {Q : Unit → Store → Prop} {m : Bool} {ks vs : List PV} (h : S[n]? = some (.dct m ks vs)) : wp (subop (.box n) k v) S Q = ((keyB m k = true ∧ ks.length < Line) ∧ Q () (S.set n (.dct m (putKs k ks) (putV k v ks vs)))) := by
  by_cases g : (keyB m k && decide (ks.length < Line)) = true
  · have e : subop (.box n) k v S = .ok () (S.set n (.dct m (putKs k ks) (putV k v ks vs))) := by
      unfold subop
      dsimp only
      rw [h]
      dsimp only
      rw [if_pos g]
    rw [wp_ok e]
    simp only [Bool.and_eq_true, decide_eq_true_eq] at g
    simp [g.1]; exact fun _ => g.2
  · have e : subop (.box n) k v S = .stuck := by
      unfold subop
      dsimp only
      rw [h]
      dsimp only
      rw [if_neg g]
    unfold wp
    rw [e]
    simp only [Bool.and_eq_true, decide_eq_true_eq] at g
    simp only [eq_iff_iff, false_iff, not_and]
    exact fun z => absurd z g
@[simp] theorem wp_sub00 {v u : PV} {us : List PV} {S : Store} {Q : Unit → Store → Prop} : wp (subop (.box 0) (.int 0) v) (.lst (u :: us) :: S) Q = Q () (.lst (v :: us) :: S) := by
  rw [wp_subop (us := u :: us) (j := 0) (c := .dead) rfl (by rw [List.length_cons, ixN_0])]; rfl
@[simp] theorem wp_sub01 {v u t : PV} {us : List PV} {S : Store} {Q : Unit → Store → Prop} : wp (subop (.box 0) (.int 1) v) (.lst (t :: u :: us) :: S) Q = Q () (.lst (t :: v :: us) :: S) := by
  rw [wp_subop (us := t :: u :: us) (j := 1) (c := .dead) rfl (by rw [List.length_cons, List.length_cons, ixN_1])]; rfl
end Ip
namespace Ip
open PySem L2
theorem occ1 (c : Nat) (y : Str) : occ ⟨#[c]⟩ y = decide (c ∈ y.cps.toList) := PySem.StrLaws.found_one y c
@[simp] theorem lex1 (a b : Nat) : ([a] < [b]) = (a < b) := by
  simp [List.cons_lt_cons_iff]
theorem filter_tt {α : Type} (xs : List α) : xs.filter (fun _ => true) = xs := List.filter_eq_self.mpr (by simp)
end Ip
namespace Ip
open PySem L2
theorem mapNat_inj : ∀ {a b : List Char}, a.map Char.toNat = b.map Char.toNat → a = b
  | [], [], _ => rfl
  | [], _ :: _, h => by cases h
  | _ :: _, [], h => by cases h
  | x :: a, y :: b, h => by
    simp only [List.map_cons, List.cons.injEq] at h
    rw [mapNat_inj h.2]
    congr 1
    have := h.1
    exact Char.ext (UInt32.toNat_inj.mp this)
@[simp] theorem ofS_iff {a b : String} : (Str.ofString a = Str.ofString b) = (a = b) := by
  refine propext ⟨fun h => ?_, fun h => by rw [h]⟩
  rw [Str.ofString_eq_toList, Str.ofString_eq_toList] at h
  have h1 : (a.toList.map Char.toNat) = b.toList.map Char.toNat := by simpa using h
  exact String.toList_inj.mp (mapNat_inj h1)
@[simp] theorem cut_1 {v : PV} {xs : List PV} : cutP (v :: xs) (some 1) none = xs := by
  unfold cutP
  simp [HT.sIx]
@[simp] theorem cut_t {xs : List PV} {n : Nat} : cutP xs none (some (n : Int)) = xs.take n := by
  unfold cutP
  rw [HT.sIx_nat]
  simp only [HT.sIx_none, List.drop_zero, Nat.sub_zero]
  rw [List.take_eq_take_min, Nat.min_assoc, Nat.min_self, ← List.take_eq_take_min]
@[simp] theorem cut_d {xs : List PV} {n : Nat} : cutP xs (some (n : Int)) none = xs.drop n := by
  unfold cutP
  rw [HT.sIx_nat]
  simp only [HT.sIx_none]
  by_cases h : n ≤ xs.length
  · rw [Nat.min_eq_left h, List.take_of_length_le (by simp)]
  · rw [Nat.min_eq_right (by omega)]
    simp
    omega
end Ip
namespace Ip
theorem wp_det {α : Type} {m : M α} {S S' : Store} {r : α} (h : wp m S fun a s => a = r ∧ s = S') (Q : α → Store → Prop) : wp m S Q = Q r S' := by
  obtain ⟨a, s, e, rfl, rfl⟩ := ok_wp h
  exact wp_ok e
end Ip
namespace Ip
open PySem
theorem kd_strE {v : PV} (h : kdop .str v = true) : ∃ x, v = .str x := by cases v <;> first | exact ⟨_, rfl⟩ | cases h
theorem kd_tupE {v : PV} (h : kdop .tuple v = true) : ∃ x, v = .tup x := by cases v <;> first | exact ⟨_, rfl⟩ | cases h
end Ip
namespace Ip
@[simp] theorem wp_chkC {xs : List PV} {S : Store} {Q : Unit → Store → Prop} : wp (chkM .count (.p (.lst xs))) S Q = Q () S := rfl
@[simp] theorem wp_chkI {xs : List PV} {S : Store} {Q : Unit → Store → Prop} : wp (chkM .index (.p (.lst xs))) S Q = Q () S := rfl
@[simp] theorem wp_count {y : PV} {xs : List PV} {S : Store} {Q : EV → Store → Prop} : wp (methop .count (.p (.lst xs)) [y]) S Q = (okEq y (.lst xs) = true ∧ Q (.p (.int (cntP y xs : Nat))) S) := by
  unfold methop
  dsimp only
  by_cases h : okEq y (.lst xs) = true
  · rw [if_pos h]; simp [h]
  · rw [if_neg h]; simp [h]
end Ip
namespace Ip
open PySem L2
@[simp] theorem cut_d1 {xs : List PV} {n : Nat} : cutP xs (some ((n : Int) + 1)) none = xs.drop (n + 1) := cut_d (n := n + 1)
@[simp] theorem cut_1t {xs : List PV} {n : Nat} : cutP xs (some (n : Int)) (some ((n : Int) + 1)) = (xs.drop n).take 1 := by
  unfold cutP
  rw [show ((n : Int) + 1) = ((n + 1 : Nat) : Int) from rfl, HT.sIx_nat, HT.sIx_nat]
  by_cases h : n < xs.length
  · rw [Nat.min_eq_left (by omega), Nat.min_eq_left (by omega)]
    congr 1
    omega
  · rw [Nat.min_eq_right (by omega), Nat.min_eq_right (by omega)]
    simp
    omega
theorem atI_nat {xs : List PV} {n : Nat} (h : n < xs.length) : atI xs (n : Int) = some xs[n] := by
  unfold atI ixN
  rw [if_pos (by omega), if_pos (by omega)]
  simp [List.getElem?_eq_getElem h]
end Ip
namespace Ip
open PySem L2
@[simp] theorem atI_3 {s t u v : PV} {xs : List PV} : atI (s :: t :: u :: v :: xs) 3 = some v := by
  have := atI_nat (xs := s :: t :: u :: v :: xs) (n := 3) (by simp)
  exact this
end Ip

namespace Ip
@[simp] theorem wp_chkG {n : Bool} {ks vs : List PV} {S : Store} {Q : Unit → Store → Prop} : wp (chkM .get (.p (.dct n ks vs))) S Q = Q () S := rfl
@[simp] theorem wp_chkG2 {n : Bool} {ks vs : List PV} {S : Store} {Q : Unit → Store → Prop} : wp (chkM .get2 (.p (.dct n ks vs))) S Q = Q () S := rfl
@[simp] theorem wp_isDb {n : Nat} {S : Store} {Q : Unit → Store → Prop} : wp (isD (.box n)) S Q = ∃ m ks vs, (S[n]?).bind cellV = some (.dct m ks vs) ∧ Q () S := by
  unfold isD
  rw [wp_bindM, wp_rdb]
  refine propext ⟨fun ⟨v, h1, h2⟩ => ?_, fun ⟨m, ks, vs, h1, h2⟩ => ⟨_, h1, h2⟩⟩
  cases v with
  | dct m ks vs => exact ⟨m, ks, vs, h1, h2⟩
  | _ => exact h2.elim
@[simp] theorem wp_chkGb {n : Nat} {S : Store} {Q : Unit → Store → Prop} : wp (chkM .get (.box n)) S Q = ∃ m ks vs, (S[n]?).bind cellV = some (.dct m ks vs) ∧ Q () S := wp_isDb
@[simp] theorem wp_chkG2b {n : Nat} {S : Store} {Q : Unit → Store → Prop} : wp (chkM .get2 (.box n)) S Q = ∃ m ks vs, (S[n]?).bind cellV = some (.dct m ks vs) ∧ Q () S := wp_isDb
@[simp] theorem wp_getD {n : Bool} {ks vs : List PV} {k d : PV} {S : Store} {Q : EV → Store → Prop} : wp (getD (.dct n ks vs) k d) S Q = (keyB n k = true ∧ Q (.p ((findD k ks vs).getD d)) S) := by
  unfold getD
  by_cases h : keyB n k = true <;> simp [h]
@[simp] theorem wp_get {o : EV} {k : PV} {S : Store} {Q : EV → Store → Prop} : wp (methop .get o [k]) S Q = wp (rd o) S fun x S => wp (getD x k .non) S Q := by
  unfold methop
  simp only [wp_bindM]
@[simp] theorem wp_get2 {o : EV} {k d : PV} {S : Store} {Q : EV → Store → Prop} : wp (methop .get2 o [k, d]) S Q = wp (rd o) S fun x S => wp (getD x k d) S Q := by
  unfold methop
  simp only [wp_bindM]
theorem wp_frzL {i n : Nat} {env : Nv} {S : Store} {xs : List PV} {Q : Nv → Store → Prop} (h : env[i]? = some (some (.box n))) (h2 : S[n]? = some (.lst xs)) : wp (frzE i env) S Q = Q (env.set i (some (.p (.lst xs)))) (S.set n .dead) := by
  unfold wp frzE
  rw [h]
  dsimp only
  rw [h2]
theorem wp_frzD {i n : Nat} {env : Nv} {S : Store} {m : Bool} {ks vs : List PV} {Q : Nv → Store → Prop} (h : env[i]? = some (some (.box n))) (h2 : S[n]? = some (.dct m ks vs)) : wp (frzE i env) S Q = Q (env.set i (some (.p (.dct m ks vs)))) (S.set n .dead) := by
  unfold wp frzE
  rw [h]
  dsimp only
  rw [h2]
end Ip

set_option Elab.async false
set_option linter.all false
set_option maxRecDepth 100000
set_option maxHeartbeats 4000000
/-! Ip, part 22: the drawing of numbers, common to all laws. -/
namespace Ip
open PySem L2
abbrev iN (i : Int) : PV := .int i
def cup (a b : Int) : Cell := .lst [.int a, .int b]
structure CupOk (a b : Int) : Prop where
  a0 : 0 ≤ a
  b0 : 0 ≤ b
  b1 : b < 4294967296
def cupB : List Sx := [.asg (.nm 1) (.blt .abs [(.ix (.bin .add (.blt .list [(.var 0)]) (.lst [(.con (.int 0))])) (.con (.int 0)))]), .ret (.newL [(.ite (.cmp .ge (.var 1) (.bin .pow (.con (.int 10)) (.con (.int 18)))) (.bin .fdiv (.var 1) (.con (.int 79))) (.con (.int 0))), (.bin .add (.bin .mod (.blt .int [(.bin .add (.bin .mul (.var 1) (.con (.int 293))) (.con (.int 2903)))]) (.con (.int 2077503127))) (.con (.int 181)))])]
def rollB : List Sx := [.ifS (.cmp .gt (.ix (.var 0) (.con (.int 0))) (.con (.int 0))) [.asg (.nm 3) (.bin .mod (.blt .int [(.ix (.var 0) (.con (.int 0)))]) (.var 1)), .sub (.var 0) (.con (.int 0)) (.bin .fdiv (.ix (.var 0) (.con (.int 0))) (.var 1)), .ret (.var 3)] [], .sub (.var 0) (.con (.int 1)) (.bin .mod (.blt .int [(.bin .add (.bin .mul (.ix (.var 0) (.con (.int 1))) (.con (.int 31079))) (.con (.int 8039)))]) (.con (.int 2147483477))), .asg (.nm 2) (.bin .mod (.blt .int [(.bin .mul (.ix (.var 0) (.con (.int 1))) (.bin .add (.ix (.var 0) (.con (.int 1))) (.con (.int 241))))]) (.con (.int 2147483587))), .ret (.bin .mod (.blt .int [(.bin .fdiv (.var 2) (.con (.int 829)))]) (.var 1))]
def someB (r : Nat) : List Sx := [.ret (.ix (.var 1) (.call r [(.var 0), (.blt .len [(.var 1)])]))]
def cupF : Fn := ⟨1, 2, cupB, true⟩
def rollF : Fn := ⟨2, 4, rollB, false⟩
def someF (r : Nat) : Fn := ⟨2, 2, someB r, false⟩
section
variable {F : Nat → Option Fn} {k fr : Nat} {T : Store} {a b n : Int} {Q : EV → Store → Prop}
theorem fmod_lt {i j : Int} (h : 0 < j) : 0 ≤ i.fmod j ∧ i.fmod j < j := ⟨Int.fmod_nonneg_of_pos _ h, Int.fmod_lt_of_pos _ h⟩
theorem cmul_ok {i j : Int} (h : 0 ≤ i ∧ i < 2 ^ 64 ∨ 0 ≤ j ∧ j < 2 ^ 64) : cmulB i j = true := by
  unfold cmulB
  simp only [Bool.or_eq_true, Bool.and_eq_true, decide_eq_true_eq]
  rcases h with h | h
  · exact .inl ⟨by omega, h.2⟩
  · exact .inr ⟨by omega, h.2⟩
theorem roll_ok (h : F fr = some rollF) (c : CupOk a b) (n0 : 0 < n) (n1 : n < 1000000) (hQ : ∀ r a' b', CupOk a' b' → 0 ≤ r → r < n → Q (.p (.int r)) (cup a' b' :: T)) : wp (run F (k + 1) fr [.box 0, .p (.int n)]) (cup a b :: T) Q := by
  rw [wp_run h rfl]
  simp [rollF, rollB, cup]
  obtain ⟨a0, b0, b1⟩ := c
  have e1 := fmod_lt (i := b * 31079 + 8039) (j := 2147483477) (by decide)
  split
  · rename_i ha
    refine ⟨by omega, ⟨by omega, by omega⟩, hQ _ _ _ ⟨?_, b0, b1⟩ (fmod_lt n0).1 (fmod_lt n0).2⟩
    exact Int.fdiv_nonneg a0 (by omega)
  · refine ⟨cmul_ok (.inl ⟨b0, by omega⟩), cmul_ok (.inl ⟨e1.1, by omega⟩), by omega, hQ _ _ _ ⟨a0, e1.1, by omega⟩ (fmod_lt n0).1 (fmod_lt n0).2⟩
theorem cup_ok {fc : Nat} {ns : List Int} (h : F fc = some cupF) (hl : ns.length ≤ 1000) (hQ : ∀ a b, CupOk a b → Q (.box 0) [cup a b]) : wp (run F (k + 1) fc [.p (.lst (ns.map PV.int))]) [] Q := by
  rw [wp_run h rfl]
  have key : ∀ x y : Int, (y = x ∨ y = -x) → 0 ≤ y → Q (.box 0) [.lst [.int (if 1000000000000000000 ≤ y then y.fdiv 79 else 0), .int ((y * 293 + 2903).fmod 2077503127 + 181)]] := fun x y _ hy => by
    have e1 := fmod_lt (i := y * 293 + 2903) (j := 2077503127) (by decide)
    refine hQ _ _ ⟨?_, by omega, by omega⟩
    split
    · exact Int.fdiv_nonneg (by omega) (by decide)
    · decide
  have mk : ∀ x : Int, cmulB x 293 = true := fun x => cmul_ok (.inr ⟨by decide, by decide⟩)
  cases ns with
  | nil =>
    have := key 0 0 (.inl rfl) (by decide)
    simp [cupF, cupB, mk] at this ⊢
    exact this
  | cons n ns =>
    have h1 : n < 0 → _ := fun z => key n (-n) (.inr rfl) (by omega)
    have h2 : ¬ n < 0 → _ := fun z => key n n (.inl rfl) (by omega)
    simp [cupF, cupB, mk] at h1 h2 ⊢
    simp at hl
    refine ⟨by omega, ?_⟩
    by_cases z : n < 0
    · have := h1 z
      simp only [z, if_true]
      split <;> simp_all
    · have := h2 (by omega)
      simp only [z, if_false]
      split <;> simp_all
theorem some_ok {fs : Nat} {xs : List PV} (h : F fr = some rollF) (hs : F fs = some (someF fr)) (c : CupOk a b) (n0 : xs ≠ []) (n1 : xs.length < 1000000) (hQ : ∀ x a' b', CupOk a' b' → x ∈ xs → Q (.p x) (cup a' b' :: T)) : wp (run F (k + 2) fs [.box 0, .p (.lst xs)]) (cup a b :: T) Q := by
  rw [wp_run hs rfl]
  simp [someF, someB]
  refine roll_ok h c ?_ (by omega) fun r a' b' c' h0 h1 => ?_
  · have := List.length_pos_iff.mpr n0; omega
  · obtain ⟨v, hv, hm⟩ := atI_lt h0 h1
    simp [hv]
    exact hQ v a' b' c' hm
end
end Ip

set_option Elab.async false
set_option linter.all false
set_option maxRecDepth 100000
set_option maxHeartbeats 4000000
/-! Ip, part 23: when a value's text may be asked for. -/
namespace Ip
open PySem L2
mutual
def shOk : PV → Bool
  | .int i => decide (i.natAbs < 10 ^ 12)
  | .str x => PyData.strOk x
  | .lst xs => shOks xs
  | .tup xs => shOks xs
  | .dct _ _ _ => false
  | .set _ => false
  | _ => true
def shOks : List PV → Bool
  | [] => true
  | x :: xs => shOk x && shOks xs
end
mutual
/-- at most so long -/
def shW : PV → Nat
  | .int _ => 13
  | .str x => 10 * x.length + 2
  | .lst xs => shWs xs + 3
  | .tup xs => shWs xs + 3
  | _ => 5
def shWs : List PV → Nat
  | [] => 0
  | x :: xs => shW x + 2 + shWs xs
end
theorem len_ofS (s : String) : (Str.ofString s).length = s.toList.length := by
  rw [Str.ofString_eq_toList]; simp [Str.length]
theorem strOk_nat {s : String} : strOk (Str.ofString s) := strOk_ofString s
theorem int_len {i : Int} (h : i.natAbs < 10 ^ 12) : (Str.ofString (toString i)).length ≤ 13 := by
  cases i with
  | ofNat n =>
    have := PyProof.Rows.toString_length_le (v := (n : Int)) (by omega) (k := 12) (by decide) (by have h' : n < 10 ^ 12 := h; omega)
    exact Nat.le_succ_of_le this
  | negSucc n =>
    have h' : n + 1 < 10 ^ 12 := h
    have := PyProof.Rows.toString_length_le (v := ((n + 1 : Nat) : Int)) (by omega) (k := 12) (by decide) (by omega)
    have e : (toString (Int.negSucc n)) = "-" ++ toString (((n + 1 : Nat) : Int)) := rfl
    rw [e, len_ofS, String.toList_append, List.length_append]
    rw [len_ofS] at this
    have e1 : "-".toList.length = 1 := by decide
    omega
theorem log2_of {n : Nat} (h : n < 10 ^ 12) : n.log2 < 1920 := by
  by_cases h0 : n = 0
  · subst h0; decide
  · have := Nat.log2_self_le h0
    by_cases hl : n.log2 < 1920
    · exact hl
    · have h2 : 2 ^ 1920 ≤ 2 ^ n.log2 := Nat.pow_le_pow_right (by decide) (by omega)
      have h3 : (10 : Nat) ^ 12 ≤ 2 ^ 40 := by decide
      have h4 : (2 : Nat) ^ 40 ≤ 2 ^ 1920 := Nat.pow_le_pow_right (by decide) (by decide)
      omega
theorem reprChar_ok {q c : Nat} (hq : q < 0x110000) (hc : c < 0x110000) : ∀ d ∈ Builtin.Str.reprChar q c, d < 0x110000 := by
  have hx : ∀ (w : Nat), ∀ d ∈ (List.replicate (w - ((Nat.toDigits 16 c).map Char.toNat).length) 48 ++ (Nat.toDigits 16 c).map Char.toNat), d < 0x110000 := by
    intro w d hd
    rw [List.mem_append] at hd
    rcases hd with hd | hd
    · rw [List.mem_replicate] at hd; omega
    · rw [List.mem_map] at hd
      obtain ⟨ch, _, rfl⟩ := hd
      have h := ch.valid
      rcases h with h | h
      · have : ch.toNat < 0xd800 := h
        omega
      · have : ch.toNat < 0x110000 := h.2
        exact this
  intro d hd
  unfold Builtin.Str.reprChar at hd
  dsimp only at hd
  repeat' split at hd
  all_goals simp only [List.mem_append, List.mem_cons, List.not_mem_nil, or_false] at hd
  all_goals first
    | (rcases hd with (rfl | rfl) | hd <;> first | omega | exact hx _ d (List.mem_append.mpr hd))
    | (rcases hd with rfl | rfl <;> omega)
    | (subst hd; exact hc)
theorem reprText_ok {x : Str} (h : strOk x) : strOk (reprText x) := by
  have hq : ∀ x : Str, reprQuote x < 0x110000 := fun x => by unfold reprQuote; split <;> decide
  rw [strOk_iff] at h ⊢
  unfold reprText
  dsimp only
  rw [← Array.foldl_toList]
  have key : ∀ (l : List Nat) (acc : Array Nat), (∀ c ∈ l, c < 0x110000) → (∀ c ∈ acc.toList, c < 0x110000) → ∀ c ∈ (l.foldl (fun out c => out ++ (Builtin.Str.reprChar (reprQuote x) c).toArray) acc).toList, c < 0x110000 := by
    intro l
    induction l with
    | nil => intro acc _ h c hc; exact h c hc
    | cons a l ih =>
      intro acc hl ha c hc
      refine ih _ (fun c hc => hl c (List.mem_cons_of_mem _ hc)) (fun c hc => ?_) c hc
      rw [Array.toList_append, List.mem_append] at hc
      rcases hc with hc | hc
      · exact ha c hc
      · exact reprChar_ok (hq x) (hl a List.mem_cons_self) c hc
  intro c hc
  rw [Array.toList_push, List.mem_append] at hc
  rcases hc with hc | hc
  · refine key x.cps.toList #[reprQuote x] h (fun c hc => ?_) c hc
    have : c = reprQuote x := by simpa using hc
    rw [this]; exact hq x
  · have : c = reprQuote x := by simpa using hc
    rw [this]; exact hq x
theorem ofS_ok {s : String} (h : s.length < 0) : False := by omega
theorem strOk_join {ts : List Str} (h : ∀ t ∈ ts, strOk t) : strOk (Str.join ", " ts) := strOk_iff.mpr fun c hc => by
  rcases (PyProof.Rows.mem_join _ _ _).mp hc with ⟨t, h1, h2⟩ | ⟨_, h2⟩
  · exact strOk_iff.mp (h t h1) c h2
  · exact strOk_iff.mp (strOk_ofString ", ") c h2
theorem join_le (ts : List Str) : (Str.join ", " ts).length ≤ piled ts := by
  cases ts with
  | nil => exact Nat.zero_le _
  | cons a l => have := join_length_add (a :: l) (by simp); omega
theorem cps_ofS (s : String) : strOk (Str.ofString s) := strOk_ofString s
mutual
theorem sh_ok : ∀ v, shOk v = true → (toD v).showable = true ∧ (toD v).shown.length ≤ shW v ∧ strOk (toD v).shown
  | .non, _ => ⟨by simp [toD, PyData.showable], by rw [toD, PyData.shown_none, len_ofS]; decide, by rw [toD, PyData.shown_none]; exact strOk_ofString _⟩
  | .bl b, _ => ⟨by simp [toD, PyData.showable], by rw [toD, PyData.shown_bool]; cases b <;> decide +kernel, by rw [toD, PyData.shown_bool]; cases b <;> exact strOk_ofString _⟩
  | .int i, h => by
    have h' : i.natAbs < 10 ^ 12 := by simpa [shOk] using h
    refine ⟨?_, ?_, ?_⟩
    · simp [toD, PyData.showable]; exact log2_of h'
    · rw [toD, PyData.shown_int]; exact int_len h'
    · rw [toD, PyData.shown_int]; exact strOk_ofString _
  | .str x, h => by
    have h' : strOk x := h
    refine ⟨by simp [toD, PyData.showable], ?_, ?_⟩
    · rw [toD, PyData.shown_str]
      exact StrLaws.reprText_len x fun c hc => Nat.lt_of_lt_of_le (strOk_iff.mp h' c hc) (by decide)
    · rw [toD, PyData.shown_str]; exact reprText_ok h'
  | .lst xs, h => by
    obtain ⟨h1, h2, h3⟩ := shs_ok xs (by simpa [shOk] using h)
    refine ⟨by simp [toD, PyData.showable]; exact h1, ?_, ?_⟩
    · rw [toD, PyData.shown_list, strLen_append, strLen_append, len_ofS, len_ofS]
      have := join_le (PyData.shownAll (toDs xs))
      have e1 : "[".toList.length = 1 := by decide
      have e2 : "]".toList.length = 1 := by decide
      have e3 : shW (.lst xs) = shWs xs + 3 := by simp [shW]
      omega
    · rw [toD, PyData.shown_list]
      exact strOk_append (strOk_append (strOk_ofString _) (strOk_join h3)) (strOk_ofString _)
  | .tup xs, h => by
    obtain ⟨h1, h2, h3⟩ := shs_ok xs (by simpa [shOk] using h)
    refine ⟨by simp [toD, PyData.showable]; exact h1, ?_, ?_⟩
    · rw [toD, PyData.shown_tuple, strLen_append, strLen_append, len_ofS, len_ofS]
      have := join_le (PyData.shownAll (toDs xs))
      have e1 : "(".toList.length = 1 := by decide
      have e2 : (if (toDs xs).length == 1 then ",)" else ")" : String).toList.length ≤ 2 := by split <;> decide
      have e3 : shW (.tup xs) = shWs xs + 3 := by simp [shW]
      omega
    · rw [toD, PyData.shown_tuple]
      exact strOk_append (strOk_append (strOk_ofString _) (strOk_join h3)) (strOk_ofString _)
  | .dct _ _ _, h => by simp [shOk] at h
  | .set _, h => by simp [shOk] at h
theorem shs_ok : ∀ vs, shOks vs = true → PyData.showableAll (toDs vs) = true ∧ piled (PyData.shownAll (toDs vs)) ≤ shWs vs ∧ ∀ t ∈ PyData.shownAll (toDs vs), strOk t
  | [], _ => ⟨by simp [toDs, PyData.showableAll], by simp [toDs, PyData.shownAll, piled], by simp [toDs, PyData.shownAll]⟩
  | v :: vs, h => by
    simp only [shOks, Bool.and_eq_true] at h
    obtain ⟨a1, a2, a3⟩ := sh_ok v h.1
    obtain ⟨b1, b2, b3⟩ := shs_ok vs h.2
    refine ⟨by simp [toDs, PyData.showableAll, a1, b1], ?_, ?_⟩
    · simp only [toDs, PyData.shownAll, piled, List.map_cons, List.sum_cons, shWs] at b2 ⊢
      omega
    · simp only [toDs, PyData.shownAll, List.mem_cons]
      rintro t (rfl | ht)
      · exact a3
      · exact b3 t ht
end
mutual
theorem shOk_plain : ∀ v, shOk v = true → plain v = true
  | .non, _ => rfl
  | .bl b, _ => rfl
  | .int i, _ => rfl
  | .str x, _ => rfl
  | .lst xs, h => by simp [plain]; exact shOks_plain xs (by simpa [shOk] using h)
  | .tup xs, h => by simp [plain]; exact shOks_plain xs (by simpa [shOk] using h)
  | .dct _ _ _, h => by simp [shOk] at h
  | .set _, h => by simp [shOk] at h
theorem shOks_plain : ∀ vs, shOks vs = true → plains vs = true
  | [], _ => rfl
  | v :: vs, h => by
    simp only [shOks, Bool.and_eq_true] at h
    simp [shOk_plain v h.1, shOks_plain vs h.2]
end
theorem showB_of {v : PV} (h : shOk v = true) (hd : dep v ≤ 60) (hw : shW v ≤ Line) : showB v = true := by
  obtain ⟨h1, h2, h3⟩ := sh_ok v h
  unfold showB
  have h4 : (toD v).shown.length ≤ Line := Nat.le_trans h2 hw
  have h5 : PyData.strOk (toD v).shown = true := h3
  simp only [shOk_plain v h, h1, hd, h4, h5, Bool.and_self, decide_true]
/-- the very same texts -/
theorem like_same {v : PV} : cmpop .eq (.str (toD v).shown) (.str (toD v).shown) = some true := by simp
theorem showB_int {i : Int} (h : i.natAbs < 10 ^ 12) : showB (.int i) = true := showB_of (by simpa [shOk] using h) (by simp) (by simp [shW])
theorem showB_bl {b : Bool} : showB (.bl b) = true := showB_of rfl (by simp) (by simp [shW])
theorem shOks_iff {xs : List PV} : shOks xs = true ↔ ∀ x ∈ xs, shOk x = true := by
  induction xs with
  | nil => simp [shOks]
  | cons x xs ih => simp [shOks, ih]
theorem shWs_le {m : Nat} : ∀ {xs : List PV}, (∀ x ∈ xs, shW x ≤ m) → shWs xs ≤ xs.length * (m + 2)
  | [], _ => by simp [shWs]
  | x :: xs, h => by
    have h1 := h x List.mem_cons_self
    have h2 := shWs_le fun y hy => h y (List.mem_cons_of_mem _ hy)
    simp only [shWs, List.length_cons, Nat.succ_mul]
    omega
theorem deps_le {m : Nat} : ∀ {xs : List PV}, (∀ x ∈ xs, dep x ≤ m) → deps xs ≤ m
  | [], _ => by simp
  | x :: xs, h => by
    have h1 := h x List.mem_cons_self
    have h2 := deps_le fun y hy => h y (List.mem_cons_of_mem _ hy)
    rw [deps_c]
    omega
end Ip

set_option Elab.async false
set_option linter.all false
set_option maxRecDepth 100000
set_option maxHeartbeats 4000000
/-! Ip, part 24: tools for plain proofs. -/
namespace Ip
open PySem L2
/-- behind a turn of a for -/
def aftF (asg : PV → Nv → Option Nv) (b : Nv → M Flw) (xs : List PV) (Q : Flw → Store → Prop) : Flw → Store → Prop
  | .nx e, S => wp (loopF asg b xs e) S Q
  | .ct e, S => wp (loopF asg b xs e) S Q
  | .bk e, S => Q (.nx e) S
  | .ret v, S => Q (.ret v) S
section
variable {asg : PV → Nv → Option Nv} {b : Nv → M Flw} {x : PV} {xs : List PV} {env : Nv} {S : Store} {Q : Flw → Store → Prop}
@[simp] theorem aftF_nx {e : Nv} : aftF asg b xs Q (.nx e) S = wp (loopF asg b xs e) S Q := rfl
@[simp] theorem aftF_ct {e : Nv} : aftF asg b xs Q (.ct e) S = wp (loopF asg b xs e) S Q := rfl
@[simp] theorem aftF_bk {e : Nv} : aftF asg b xs Q (.bk e) S = Q (.nx e) S := rfl
@[simp] theorem aftF_ret {v : EV} : aftF asg b xs Q (.ret v) S = Q (.ret v) S := rfl
@[simp] theorem loopF0 : wp (loopF asg b [] env) S Q = Q (.nx env) S := rfl
theorem loopF1 : wp (loopF asg b (x :: xs) env) S Q = wp (ofO (asg x env)) S fun e S => wp (b e) S (aftF asg b xs Q) := by
  conv => lhs; unfold loopF
  simp only [wp_bindM]
  congr 1; funext e S; congr 1; funext f S
  cases f <;> rfl
/-- a for that always goes to its end: what it makes -/
theorem loopF_fold {σ : Type} (emb : σ → Nv) (f : σ → PV → σ) : ∀ {xs : List PV} {s : σ} {Q : Flw → Store → Prop}, (∀ s, ∀ x ∈ xs, ∀ Q : Flw → Store → Prop, wp (ofO (asg x (emb s))) S (fun e S => wp (b e) S Q) = Q (.nx (emb (f s x))) S) → wp (loopF asg b xs (emb s)) S Q = Q (.nx (emb (xs.foldl f s))) S
  | [], s, Q, _ => rfl
  | x :: xs, s, Q, h => by
    rw [loopF1, h s x List.mem_cons_self, aftF_nx, loopF_fold emb f fun s y hy => h s y (List.mem_cons_of_mem _ hy)]
    rfl
end
end Ip
namespace Ip
open PySem L2
theorem foldl_app (g : Array Nat) : ∀ (l : List Str) (acc : Array Nat), (l.foldl (fun acc p => acc ++ g ++ p.cps) acc).size = acc.size + (l.map fun p => g.size + p.length).sum
  | [], acc => by simp
  | p :: l, acc => by
    rw [List.foldl_cons, foldl_app g l]
    simp only [Array.size_append, List.map_cons, List.sum_cons]
    have : p.cps.size = p.length := rfl
    omega
theorem foldl_in (g : Array Nat) {c : Nat} : ∀ (l : List Str) (acc : Array Nat), c ∈ (l.foldl (fun acc p => acc ++ g ++ p.cps) acc) → c ∈ acc ∨ c ∈ g ∨ ∃ p ∈ l, c ∈ p.cps
  | [], acc, h => .inl h
  | p :: l, acc, h => by
    rw [List.foldl_cons] at h
    rcases foldl_in g l _ h with h | h | ⟨q, h1, h2⟩
    · rw [Array.mem_append, Array.mem_append] at h
      rcases h with (h | h) | h
      · exact .inl h
      · exact .inr (.inl h)
      · exact .inr (.inr ⟨p, List.mem_cons_self, h⟩)
    · exact .inr (.inl h)
    · exact .inr (.inr ⟨q, List.mem_cons_of_mem _ h1, h2⟩)
theorem join_strOk {a : Str} {ys : List Str} (ha : strOk a) (h : ∀ y ∈ ys, strOk y) : strOk (Txt.join a ys) := strOk_iff.mpr fun c hc => by
  have hc : c ∈ ((ys.drop 1).foldl (fun acc p => acc ++ a.cps ++ p.cps) (ys.headD Str.empty).cps) := by
    have : c ∈ (Txt.join a ys).cps := by simpa using hc
    exact this
  rcases foldl_in _ _ _ hc with h1 | h1 | ⟨q, h1, h2⟩
  · cases ys with
    | nil => simp [Str.empty] at h1
    | cons y ys => exact strOk_iff.mp (h y List.mem_cons_self) c (by simpa using h1)
  · exact strOk_iff.mp ha c (by simpa using h1)
  · exact strOk_iff.mp (h q (List.mem_of_mem_drop h1)) c (by simpa using h2)
theorem join_size {a : Str} {ys : List Str} : (Txt.join a ys).length ≤ (ys.map (·.length)).sum + ys.length * a.length := by
  show ((ys.drop 1).foldl (fun acc p => acc ++ a.cps ++ p.cps) (ys.headD Str.empty).cps).size ≤ _
  rw [foldl_app]
  cases ys with
  | nil => simp [Str.empty]
  | cons y ys =>
    have e : (y.cps).size = y.length := rfl
    have e2 : (a.cps).size = a.length := rfl
    have e3 : ∀ l : List Str, (l.map fun p => a.cps.size + p.length).sum = l.length * a.length + (l.map (·.length)).sum := by
      intro l
      induction l with
      | nil => simp
      | cons z l ih => rw [List.map_cons, List.sum_cons, ih]; simp only [List.map_cons, List.sum_cons, List.length_cons, Nat.succ_mul]; omega
    simp only [List.drop_succ_cons, List.drop_zero, List.headD_cons, e3, e, List.map_cons, List.sum_cons, List.length_cons, Nat.succ_mul]
    omega
theorem joinB_ok {a : Str} {ys : List Str} (ha : strOk a) (h : ∀ y ∈ ys, strOk y) (hl : (ys.map (·.length)).sum + ys.length * a.length ≤ Line) : joinB a ys = true := by
  unfold joinB
  rw [Bool.and_eq_true, decide_eq_true_eq]
  exact ⟨hl, join_strOk ha h⟩
theorem cutS_le (z : Str) (lo hi : Option Int) : (cutS z lo hi).length ≤ z.length := by
  unfold cutS
  simp only [Str.length]
  simp
  try omega
@[simp] theorem wp_chkJ {a : Str} {S : Store} {Q : Unit → Store → Prop} : wp (chkM .join (.p (.str a))) S Q = Q () S := rfl
theorem wp_join {a : Str} {xs : List PV} {ys : List Str} {S : Store} {Q : EV → Store → Prop} (h : allS xs = some ys) (hj : joinB a ys = true) : wp (methop .join (.p (.str a)) [.lst xs]) S Q = Q (.p (.str (Txt.join a ys))) S := by
  unfold methop
  dsimp only [seqOf]
  rw [h]
  dsimp only
  rw [if_pos hj]
  rfl
@[simp] theorem sl_s {x : Str} {lo hi : Option Int} : slop (.str x) lo hi = if x.length ≤ Line then some (.str (cutS x lo hi)) else none := rfl
end Ip
namespace Ip
open PySem L2
@[simp] theorem atI_4 {r s t u v : PV} {xs : List PV} : atI (r :: s :: t :: u :: v :: xs) 4 = some v := by
  have := atI_nat (xs := r :: s :: t :: u :: v :: xs) (n := 4) (by simp)
  exact this
end Ip

set_option Elab.async false
set_option linter.all false
set_option maxRecDepth 100000
set_option maxHeartbeats 4000000
/-! Gm, part 1: expressions and tests, plainly. -/
namespace Gm
open PySem L2 Ip
inductive Op where
  | plus | minus | times | rest
def Op.w : Op → Str
  | .plus => "plus"
  | .minus => "minus"
  | .times => "times"
  | .rest => "rest"
def Op.val : Op → Int → Int → Int
  | .plus, a, b => a + b
  | .minus, a, b => a - b
  | .times, a, b => a * b
  | .rest, a, b => if b = 0 then a else a.fmod b.natAbs
inductive Ep where
  | is (n : Int) | of (x : Str) | op (o : Op) (a b : Ep)
def Ep.pv : Ep → PV
  | .is n => .tup [.str "is", .int n]
  | .of x => .tup [.str "of", .str x]
  | .op o a b => .tup [.str o.w, a.pv, b.pv]
def look (l : List (Str × Int)) (x : Str) : Option Int := (l.find? fun q => q.1 == x).map (·.2)
def Ep.val (l : List (Str × Int)) : Ep → Int
  | .is n => n
  | .of x => (look l x).getD 0
  | .op o a b => o.val (a.val l) (b.val l)
def Ep.ok (l : List (Str × Int)) : Ep → Prop
  | .is n => n.natAbs ≤ 9
  | .of x => ∃ i, look l x = some i ∧ i.natAbs ≤ 9
  | .op o a b => a.ok l ∧ b.ok l
def Ep.ht : Ep → Nat
  | .op _ a b => max a.ht b.ht + 1
  | _ => 0
def Ep.units : Ep → Nat
  | .op _ a b => a.units + b.units
  | _ => 1
theorem Ep.units_pos : ∀ e : Ep, 1 ≤ e.units
  | .is _ => Nat.le_refl _
  | .of _ => Nat.le_refl _
  | .op _ a b => Nat.le_trans a.units_pos (Nat.le_add_right _ _)
theorem Ep.ht_le : ∀ e : Ep, e.ht + 1 ≤ e.units
  | .is _ => Nat.le_refl _
  | .of _ => Nat.le_refl _
  | .op _ a b => by
    have := a.ht_le; have := b.ht_le
    simp only [Ep.ht, Ep.units]; omega
theorem pow9 (n : Nat) (h : 1 ≤ n) : 9 ≤ 9 ^ n := by
  have : 9 ^ 1 ≤ 9 ^ n := Nat.pow_le_pow_right (by decide) h
  simpa using this
theorem op_le {o : Op} {a b : Int} {m n : Nat} (h1 : 1 ≤ m) (h2 : 1 ≤ n) (ha : a.natAbs ≤ 9 ^ m) (hb : b.natAbs ≤ 9 ^ n) : (o.val a b).natAbs ≤ 9 ^ (m + n) := by
  have p1 := pow9 m h1
  have p2 := pow9 n h2
  rw [Nat.pow_add]
  have q : 9 ^ m + 9 ^ n ≤ 9 ^ m * 9 ^ n := by
    have e1 : 9 * 9 ^ n ≤ 9 ^ m * 9 ^ n := Nat.mul_le_mul_right _ p1
    have e2 : 9 ^ m * 9 ≤ 9 ^ m * 9 ^ n := Nat.mul_le_mul_left _ p2
    omega
  cases o with
  | plus => simp only [Op.val]; omega
  | minus => simp only [Op.val]; omega
  | times => simp only [Op.val, Int.natAbs_mul]; exact Nat.mul_le_mul ha hb
  | rest =>
    simp only [Op.val]
    split
    · omega
    · rename_i hb0
      have := Int.fmod_nonneg_of_pos a (b := (b.natAbs : Int)) (by omega)
      have := Int.fmod_lt_of_pos a (b := (b.natAbs : Int)) (by omega)
      omega
theorem Ep.val_le {l : List (Str × Int)} : ∀ e : Ep, e.ok l → (e.val l).natAbs ≤ 9 ^ e.units
  | .is n, h => h
  | .of x, h => by
    obtain ⟨i, h1, h2⟩ := h
    simp only [Ep.val, h1, Option.getD_some, Ep.units]
    exact h2
  | .op o a b, h => op_le a.units_pos b.units_pos (a.val_le h.1) (b.val_le h.2)
theorem Ep.val_lt {l : List (Str × Int)} {e : Ep} (h : e.ok l) (hu : e.units ≤ 9) : (e.val l).natAbs < 1073741824 := by
  have h1 := e.val_le h
  have h2 : 9 ^ e.units ≤ 9 ^ 9 := Nat.pow_le_pow_right (by decide) hu
  have h3 : (9 : Nat) ^ 9 < 1073741824 := by decide
  omega
def dat (l : List (Str × Int)) : PV := .tup (l.map fun q => .tup [.str q.1, .int q.2])
section
theorem head_look {x : Str} {i : Int} : ∀ {l : List (Str × Int)}, look l x = some i → ∃ r, ((l.filter fun q => q.1 == x).map fun q => PV.int q.2) = .int i :: r := by
  intro l h
  unfold look at h
  rw [← List.head?_filter] at h
  cases hf : l.filter (fun q => q.1 == x) with
  | nil => rw [hf] at h; cases h
  | cons q r => rw [hf] at h; simp at h; exact ⟨_, by rw [List.map_cons, h]⟩
def own (l : List (Str × Int)) : PV := .dct false (l.map fun q => .str q.1) (l.map fun q => .int q.2)
theorem find_look {x : Str} : ∀ {l : List (Str × Int)}, findD (.str x) (l.map fun q => .str q.1) (l.map fun q => .int q.2) = (look l x).map PV.int
  | [] => rfl
  | q :: l => by
    simp only [List.map_cons, findD_1, eqP_str, decide_eq_true_eq]
    unfold look
    by_cases h : q.1 = x
    · simp [h]
    · have := find_look (x := x) (l := l)
      unfold look at this
      simp [h, this]
end
section
variable {l : List (Str × Int)}
inductive Cw where
  | same | unlike | less | most
def Cw.w : Cw → Str
  | .same => "same"
  | .unlike => "unlike"
  | .less => "less"
  | .most => "most"
def Cw.val : Cw → Int → Int → Bool
  | .same, a, b => decide (a = b)
  | .unlike, a, b => decide (¬ a = b)
  | .less, a, b => decide (a < b)
  | .most, a, b => decide (a ≤ b)
inductive Tt where
  | cst (b : Bool) | lf (w : Cw) (a b : Ep) | not (t : Tt) | bop (c : Bool) (a b : Tt)
def Tt.pv : Tt → PV
  | .cst b => .tup [.str (if b then "true" else "false")]
  | .lf w a b => .tup [.str w.w, a.pv, b.pv]
  | .not t => .tup [.str "not", t.pv]
  | .bop c a b => .tup [.str (if c then "and" else "or"), a.pv, b.pv]
def Tt.so (l : List (Str × Int)) : Tt → Bool
  | .cst b => b
  | .lf w a b => w.val (a.val l) (b.val l)
  | .not t => !t.so l
  | .bop c a b => if c then a.so l && b.so l else a.so l || b.so l
def Tt.ok (l : List (Str × Int)) : Tt → Prop
  | .cst b => True
  | .lf w a b => a.ok l ∧ b.ok l ∧ a.units ≤ 9 ∧ b.units ≤ 9
  | .not t => t.ok l
  | .bop c a b => a.ok l ∧ b.ok l
def Tt.ht : Tt → Nat
  | .cst b => 0
  | .lf w a b => 0
  | .not t => t.ht + 1
  | .bop c a b => max a.ht b.ht + 1
theorem Ep.ht9 {e : Ep} (h : e.units ≤ 9) : e.ht ≤ 8 := by have := e.ht_le; omega
theorem look_app {l2 : List (Str × Int)} {x : Str} {i : Int} (h : look l x = some i) : look (l ++ l2) x = some i := by
  unfold look at h ⊢
  rw [List.find?_append]
  cases hf : l.find? (fun q => q.1 == x) with
  | none => rw [hf] at h; cases h
  | some q => rw [hf] at h; exact h
theorem Ep.app {l2 : List (Str × Int)} : ∀ e : Ep, e.ok l → e.ok (l ++ l2) ∧ e.val (l ++ l2) = e.val l
  | .is n, h => ⟨h, rfl⟩
  | .of x, h => by
    obtain ⟨i, h1, h2⟩ := h
    exact ⟨⟨i, look_app h1, h2⟩, by simp only [Ep.val, look_app h1, h1]⟩
  | .op o a b, h => by
    obtain ⟨a1, a2⟩ := a.app (l2 := l2) h.1
    obtain ⟨b1, b2⟩ := b.app (l2 := l2) h.2
    exact ⟨⟨a1, b1⟩, by simp only [Ep.val, a2, b2]⟩
theorem Tt.app {l2 : List (Str × Int)} : ∀ t : Tt, t.ok l → t.ok (l ++ l2) ∧ t.so (l ++ l2) = t.so l
  | .cst b, h => ⟨h, rfl⟩
  | .lf w a b, h => by
    obtain ⟨h1, h2, h3, h4⟩ := h
    obtain ⟨a1, a2⟩ := a.app (l2 := l2) h1
    obtain ⟨b1, b2⟩ := b.app (l2 := l2) h2
    exact ⟨⟨a1, b1, h3, h4⟩, by simp only [Tt.so, a2, b2]⟩
  | .not t, h => by
    obtain ⟨a1, a2⟩ := t.app (l2 := l2) h
    exact ⟨a1, by simp only [Tt.so, a2]⟩
  | .bop c a b, h => by
    obtain ⟨a1, a2⟩ := a.app (l2 := l2) h.1
    obtain ⟨b1, b2⟩ := b.app (l2 := l2) h.2
    exact ⟨⟨a1, b1⟩, by simp only [Tt.so, a2, b2]⟩
end
end Gm

set_option Elab.async false
set_option linter.all false
set_option maxRecDepth 100000
set_option maxHeartbeats 4000000
/-! Gm, part 2: systems, states, steps, plainly. -/
namespace Gm
open PySem L2 Ip
structure Dt where
  name : Str
  great : Int
  first : Int
  clk : Bool
def Dt.pv (d : Dt) : PV := .tup [.str d.name, .int d.great, .int d.first, .bl d.clk]
structure Gp where
  name : Str
  owner : PV
  kind : Str
  test : Tt
  sets : List (Str × Ep)
def setPv (q : Str × Ep) : PV := .tup [.str q.1, q.2.pv]
def Gp.pv (s : Gp) : PV := .tup [.str s.name, s.owner, .str s.kind, s.test.pv, .tup (s.sets.map setPv)]
structure Sy where
  data : List Dt
  flt : Int
  steps : List Gp
  parts : PV
def Sy.pv (y : Sy) : PV := .tup [.tup (y.data.map Dt.pv), .int y.flt, .tup (y.steps.map Gp.pv), y.parts]
abbrev Gs := List Int × Int
def stPv (s : Gs) : PV := .tup [.tup (s.1.map PV.int), .int s.2]
def prPv (q : Str × Int) : PV := .tup [.str q.1, .int q.2]
abbrev Ban := Int × List (Str × Int)
def banPv (b : Ban) : PV := .tup [.int b.1, .tup (b.2.map prPv)]
def bansPv (bs : List Ban) : PV := .tup (bs.map banPv)
def chPv (bs : List Ban) (gr : PV) : PV := .tup [bansPv bs, gr]
def Sy.names (y : Sy) : List Str := y.data.map Dt.name
def Sy.prs (y : Sy) (s : Gs) : List (Str × Int) := y.names.zip s.1
theorem dat_eq (l : List (Str × Int)) : dat l = .tup (l.map prPv) := rfl
/-- each value is one of its datum -/
inductive Ins : List Dt → List Int → Prop
  | nil : Ins [] []
  | cons {d v ds vs} : 0 ≤ v → v ≤ d.great → Ins ds vs → Ins (d :: ds) (v :: vs)
structure SOk (y : Sy) (s : Gs) : Prop where
  ins : Ins y.data s.1
  f0 : 0 ≤ s.2
  f1 : s.2 ≤ y.flt
structure POk (ns : List Str) (p : Gp) : Prop where
  test : ∀ l : List (Str × Int), l.map (·.1) = ns → (∀ q ∈ l, q.2.natAbs ≤ 9) → p.test.ok l
  ht : p.test.ht ≤ 9
  sets : ∀ q ∈ p.sets, q.1 ∈ ns ∧ q.2.units ≤ 9 ∧ ∀ l : List (Str × Int), l.map (·.1) = ns → (∀ q ∈ l, q.2.natAbs ≤ 9) → q.2.ok l
  nd : (p.sets.map (·.1)).Nodup
  sl : p.sets.length ≤ 10
structure YOk (y : Sy) : Prop where
  nd : y.names.Nodup
  dl : y.data.length ≤ 10
  sl : y.steps.length ≤ 10
  gr : ∀ d ∈ y.data, 0 ≤ d.first ∧ d.first ≤ d.great ∧ d.great ≤ 9
  f0 : 0 ≤ y.flt
  f1 : y.flt ≤ 9
  st : ∀ p ∈ y.steps, POk y.names p
theorem Ins.len {ds : List Dt} {vs : List Int} (h : Ins ds vs) : vs.length = ds.length := by
  induction h with
  | nil => rfl
  | cons _ _ _ ih => simp [ih]
theorem Ins.small {ds : List Dt} {vs : List Int} (h : Ins ds vs) (g : ∀ d ∈ ds, d.great ≤ 9) : ∀ v ∈ vs, v.natAbs ≤ 9 := by
  induction h with
  | nil => simp
  | cons h0 h1 _ ih =>
    intro v hv
    rcases List.mem_cons.mp hv with rfl | hv
    · have := g _ List.mem_cons_self; omega
    · exact ih (fun d hd => g d (List.mem_cons_of_mem _ hd)) v hv
section
variable {y : Sy} {s : Gs}
theorem prs_names (hs : SOk y s) : (y.prs s).map (·.1) = y.names := by
  unfold Sy.prs
  rw [List.map_fst_zip]
  unfold Sy.names
  rw [List.length_map, hs.ins.len]
  exact Nat.le_refl _
theorem prs_vals (hs : SOk y s) : (y.prs s).map (·.2) = s.1 := by
  unfold Sy.prs
  rw [List.map_snd_zip]
  unfold Sy.names
  rw [List.length_map, hs.ins.len]
  exact Nat.le_refl _
theorem prs_small (hy : YOk y) (hs : SOk y s) : ∀ q ∈ y.prs s, q.2.natAbs ≤ 9 := fun q hq => by
  have : q.2 ∈ s.1 := by rw [← prs_vals hs]; exact List.mem_map.mpr ⟨q, hq, rfl⟩
  exact hs.ins.small (fun d hd => (hy.gr d hd).2.2) _ this
theorem prs_len (hs : SOk y s) : (y.prs s).length = y.data.length := by
  have := congrArg List.length (prs_names hs)
  simpa [Sy.names] using this
/-- what its sets come to -/
def setL (y : Sy) (s : Gs) (p : Gp) : List (Str × Int) := p.sets.map fun q => (q.1, q.2.val (y.prs s))
def greatOf (y : Sy) (x : Str) : Int := ((y.data.find? fun d => d.name == x).map Dt.great).getD 0
def inR (y : Sy) (q : Str × Int) : Bool := decide (0 ≤ q.2) && decide (q.2 ≤ greatOf y q.1)
/-- the values behind a step -/
def newV (y : Sy) (s : Gs) (p : Gp) : List Int := (y.prs s).map fun q => (look (setL y s p) q.1).getD q.2
def lowF (p : Gp) : Int := if p.kind = "fault" then 1 else 0
def banned (y : Sy) (bs : List Ban) (s : Gs) (i : Nat) : Bool := bs.any fun b => decide (b.1 = (i : Int)) && b.2.all fun q => (y.prs s).any fun r => decide (r = q)
def posB (y : Sy) (bs : List Ban) (s : Gs) (i : Nat) (p : Gp) : Bool := !(decide (p.kind = "fault") && decide (s.2 = 0)) && p.test.so (y.prs s) && (setL y s p).all (inR y) && !banned y bs s i
def after (y : Sy) (s : Gs) (p : Gp) : Gs := (newV y s p, s.2 - lowF p)
def tickV (y : Sy) (s : Gs) : List Int := List.zipWith (fun d v => v + if d.clk = true ∧ v < d.great then 1 else 0) y.data s.1
theorem tick_ins {ds : List Dt} {vs : List Int} (h : Ins ds vs) : Ins ds (List.zipWith (fun d v => v + if d.clk = true ∧ v < d.great then 1 else 0) ds vs) := by
  induction h with
  | nil => exact .nil
  | cons h0 h1 _ ih => exact .cons (by dsimp only; split <;> omega) (by dsimp only; split <;> omega) ih
def canTick (y : Sy) (s : Gs) : Bool := !decide (tickV y s = s.1) && !(y.steps.zipIdx.any fun q => decide (q.1.kind = "urgent") && posB y [] s q.2 q.1)
/-- a move: its label, and where it leads -/
def moves (y : Sy) (bs : List Ban) (s : Gs) : List (PV × Gs) :=
  let m := ((y.steps.zipIdx.filter fun q => posB y bs s q.2 q.1).map fun q => (PV.int (q.2 : Int), after y s q.1)) ++ (if canTick y s then [(.str "tick", (tickV y s, s.2))] else [])
  if m = [] then [(.str "rest", s)] else m
def firstS (y : Sy) : Gs := (y.data.map Dt.first, y.flt)
theorem first_ok (hy : YOk y) : SOk y (firstS y) := by
  refine ⟨?_, hy.f0, Int.le_refl _⟩
  have : ∀ ds : List Dt, (∀ d ∈ ds, 0 ≤ d.first ∧ d.first ≤ d.great ∧ d.great ≤ 9) → Ins ds (ds.map Dt.first) := by
    intro ds
    induction ds with
    | nil => intro _; exact .nil
    | cons d ds ih =>
      intro h
      have := h d List.mem_cons_self
      exact .cons this.1 this.2.1 (ih fun e he => h e (List.mem_cons_of_mem _ he))
  exact this _ hy.gr
end
section
variable {y : Sy} {s : Gs} {p : Gp} {d : Dt}
@[simp] theorem sy0 : ixop y.pv (.int 0) = some (.tup (y.data.map Dt.pv)) := by simp [Sy.pv]
@[simp] theorem sy1 : ixop y.pv (.int 1) = some (.int y.flt) := by simp [Sy.pv]
@[simp] theorem sy2 : ixop y.pv (.int 2) = some (.tup (y.steps.map Gp.pv)) := by simp [Sy.pv]
@[simp] theorem st0 : ixop (stPv s) (.int 0) = some (.tup (s.1.map PV.int)) := by simp [stPv]
@[simp] theorem st1 : ixop (stPv s) (.int 1) = some (.int s.2) := by simp [stPv]
@[simp] theorem sp2 : ixop p.pv (.int 2) = some (.str p.kind) := by simp [Gp.pv]
@[simp] theorem sp4 : ixop p.pv (.int 4) = some (.tup (p.sets.map setPv)) := by simp [Gp.pv]
@[simp] theorem dt0 : ixop d.pv (.int 0) = some (.str d.name) := by simp [Dt.pv]
@[simp] theorem dt1 : ixop d.pv (.int 1) = some (.int d.great) := by simp [Dt.pv]
@[simp] theorem dt2 : ixop d.pv (.int 2) = some (.int d.first) := by simp [Dt.pv]
@[simp] theorem dt3 : ixop d.pv (.int 3) = some (.bl d.clk) := by simp [Dt.pv]
theorem ix_steps {i : Nat} (hp : y.steps[i]? = some p) : atI (y.steps.map Gp.pv) (i : Int) = some p.pv := by
  have hi : i < (y.steps.map Gp.pv).length := by rw [List.length_map]; exact (List.getElem?_eq_some_iff.mp hp).1
  rw [atI_nat hi]
  have := (List.getElem?_eq_some_iff.mp hp).2
  simp [this]
end
end Gm

set_option Elab.async false
set_option linter.all false
set_option maxRecDepth 100000
set_option maxHeartbeats 4000000
/-! Gm, part 3: the values behind a step. -/
namespace Gm
open PySem L2 Ip
theorem look_nil {x : Str} : look [] x = none := rfl
theorem look_cons {q : Str × Int} {l : List (Str × Int)} {x : Str} : look (q :: l) x = if q.1 = x then some q.2 else look l x := by
  unfold look
  by_cases h : q.1 = x <;> simp [h]
theorem look_mem {x : Str} {v : Int} : ∀ {l : List (Str × Int)}, look l x = some v → (x, v) ∈ l
  | [], h => by cases h
  | q :: l, h => by
    rw [look_cons] at h
    split at h
    · rename_i e
      cases h
      rw [← e]; exact List.mem_cons_self
    · exact List.mem_cons_of_mem _ (look_mem h)
theorem look_of {x : Str} {v : Int} : ∀ {l : List (Str × Int)}, (l.map (·.1)).Nodup → (x, v) ∈ l → look l x = some v
  | [], _, h => by cases h
  | q :: l, hn, h => by
    rw [look_cons]
    simp only [List.map_cons, List.nodup_cons] at hn
    rcases List.mem_cons.mp h with e | h
    · rw [← e, if_pos rfl]
    · rw [if_neg fun e => hn.1 (by rw [e]; exact List.mem_map.mpr ⟨_, h, rfl⟩)]
      exact look_of hn.2 h
theorem look_none {x : Str} : ∀ {l : List (Str × Int)}, x ∉ l.map (·.1) → look l x = none
  | [], _ => rfl
  | q :: l, h => by
    simp only [List.map_cons, List.mem_cons, not_or] at h
    rw [look_cons, if_neg fun e => h.1 e.symm]
    exact look_none h.2
theorem look_append {x : Str} {l m : List (Str × Int)} : look (l ++ m) x = (look l x).or (look m x) := by
  induction l with
  | nil => rfl
  | cons q l ih =>
    rw [List.cons_append, look_cons, look_cons, ih]
    split <;> rfl
section
variable {y : Sy} {s : Gs} {p : Gp}
theorem great_of (hy : YOk y) {d : Dt} (hd : d ∈ y.data) : greatOf y d.name = d.great := by
  have key : ∀ {ds : List Dt}, (ds.map Dt.name).Nodup → d ∈ ds → ((ds.find? fun e => e.name == d.name).map Dt.great).getD 0 = d.great := by
    intro ds
    induction ds with
    | nil => intro _ h; cases h
    | cons e ds ih =>
      intro hn h
      simp only [List.map_cons, List.nodup_cons] at hn
      rcases List.mem_cons.mp h with rfl | h
      · simp
      · have hne : ¬ e.name = d.name := fun z => hn.1 (by rw [z]; exact List.mem_map.mpr ⟨_, h, rfl⟩)
        have hne' : (e.name == d.name) = false := by simpa using hne
        rw [List.find?_cons_of_neg (by simpa using hne)]
        exact ih hn.2 h
  exact key hy.nd hd
theorem setL_names : (setL y s p).map (·.1) = p.sets.map (·.1) := by
  unfold setL
  rw [List.map_map]; rfl
/-- the values in a row, as they are when so much is set -/
def curL (y : Sy) (s : Gs) (L : List (Str × Int)) : List (Str × Int) := (y.prs s).map fun q => (q.1, (look L q.1).getD q.2)
theorem curL_nil : curL y s [] = y.prs s := by
  unfold curL
  conv => rhs; rw [← List.map_id (y.prs s)]
  rfl
theorem curL_names (hs : SOk y s) {L : List (Str × Int)} : (curL y s L).map (·.1) = y.names := by
  unfold curL
  rw [List.map_map]
  exact prs_names hs
theorem curL_snoc {L : List (Str × Int)} {x : Str} {v : Int} (hx : x ∉ L.map (·.1)) : curL y s (L ++ [(x, v)]) = (curL y s L).map fun q => if q.1 = x then (x, v) else q := by
  unfold curL
  rw [List.map_map]
  refine List.map_congr_left fun q _ => ?_
  rw [look_append]
  show _ = if q.1 = x then (x, v) else (q.1, (look L q.1).getD q.2)
  by_cases h : q.1 = x
  · rw [if_pos h, h, look_none hx]
    simp [look_cons]
  · rw [if_neg h, look_cons, if_neg fun e => h e.symm]
    cases look L q.1 <;> rfl
theorem newV_eq : newV y s p = (curL y s (setL y s p)).map (·.2) := by
  unfold newV curL
  rw [List.map_map]; rfl
theorem newV_len (hs : SOk y s) : (newV y s p).length = y.data.length := by
  rw [newV_eq]
  have := congrArg List.length (curL_names hs (L := setL y s p))
  simpa [Sy.names] using this
theorem range_iff (hy : YOk y) (hs : SOk y s) (pk : POk y.names p) : (∀ (i : Nat) (d : Dt) (v : Int), y.data[i]? = some d → (newV y s p)[i]? = some v → 0 ≤ v ∧ v ≤ d.great) ↔ (setL y s p).all (inR y) = true := by
  have hnd : ((setL y s p).map (·.1)).Nodup := by rw [setL_names]; exact pk.nd
  have at_ : ∀ (i : Nat) (d : Dt), y.data[i]? = some d → ∃ v0, s.1[i]? = some v0 ∧ (newV y s p)[i]? = some ((look (setL y s p) d.name).getD v0) ∧ 0 ≤ v0 ∧ v0 ≤ d.great := by
    intro i d hd
    have hlen := hs.ins.len
    have hi : i < s.1.length := by rw [hlen]; exact (List.getElem?_eq_some_iff.mp hd).1
    have h1 : s.1[i]? = some s.1[i] := List.getElem?_eq_getElem hi
    refine ⟨_, h1, ?_, ?_⟩
    · unfold newV Sy.prs Sy.names
      rw [List.getElem?_map, List.getElem?_zip_eq_some (z := (d.name, s.1[i])) |>.mpr ⟨by rw [List.getElem?_map, hd]; rfl, h1⟩]
      rfl
    · have : ∀ {ds : List Dt} {vs : List Int} {i : Nat} {d : Dt} {v : Int}, Ins ds vs → ds[i]? = some d → vs[i]? = some v → 0 ≤ v ∧ v ≤ d.great := by
        intro ds vs i d v h
        induction h generalizing i with
        | nil => intro h; simp at h
        | cons h0 h1 _ ih =>
          cases i with
          | zero => intro e1 e2; simp at e1 e2; subst e1 e2; exact ⟨h0, h1⟩
          | succ i => intro e1 e2; exact ih (by simpa using e1) (by simpa using e2)
      exact this hs.ins hd h1
  constructor
  · intro h
    rw [List.all_eq_true]
    rintro ⟨x, v⟩ hq
    have hx : x ∈ y.names := by
      unfold setL at hq
      rw [List.mem_map] at hq
      obtain ⟨r, hr, e⟩ := hq
      cases e
      exact (pk.sets r hr).1
    unfold Sy.names at hx
    rw [List.mem_map] at hx
    obtain ⟨d, hd, rfl⟩ := hx
    obtain ⟨i, hi⟩ := List.mem_iff_getElem?.mp hd
    obtain ⟨v0, _, h2, _, _⟩ := at_ i d hi
    rw [look_of hnd hq] at h2
    have := h i d v hi h2
    simp only [inR, Bool.and_eq_true, decide_eq_true_eq]
    rw [great_of hy hd]
    exact this
  · intro h i d v hd hv
    obtain ⟨v0, _, h2, h3, h4⟩ := at_ i d hd
    rw [h2] at hv
    cases hl : look (setL y s p) d.name with
    | none => rw [hl] at hv; cases hv; exact ⟨h3, h4⟩
    | some w =>
      rw [hl] at hv
      cases hv
      have := List.all_eq_true.mp h _ (look_mem hl)
      simp only [inR, Bool.and_eq_true, decide_eq_true_eq] at this
      rw [great_of hy (List.mem_of_getElem? hd)] at this
      exact this
end
end Gm

set_option Elab.async false
set_option linter.all false
set_option maxRecDepth 100000
set_option maxHeartbeats 4000000
/-! Gm, part 4: all there is to come to, one row after another. -/
namespace Gm
section
variable {α : Type} [DecidableEq α] {nx : α → List α} {f0 : α} {cap : Nat}
def addU (found : List α) (x : α) : List α := if x ∈ found then found else found ++ [x]
def addC (cap : Nat) (found : List α) (x : α) : List α := if x ∉ found ∧ found.length < cap then found ++ [x] else found
def rowU (nx : α → List α) (found : List α) (k : Nat) : List α := match found[k]? with
  | some a => (nx a).foldl addU found
  | none => found
def rowC (cap : Nat) (nx : α → List α) (found : List α) (k : Nat) : List α := match found[k]? with
  | some a => (nx a).foldl (addC cap) found
  | none => found
def bfsU (nx : α → List α) (f0 : α) : Nat → List α
  | 0 => [f0]
  | n + 1 => rowU nx (bfsU nx f0 n) n
def bfsC (cap : Nat) (nx : α → List α) (f0 : α) : Nat → List α
  | 0 => [f0]
  | n + 1 => rowC cap nx (bfsC cap nx f0 n) n
theorem addU_pre (found : List α) (x : α) : found <+: addU found x := by
  unfold addU
  split
  · exact List.prefix_refl _
  · exact List.prefix_append _ _
theorem addC_pre (found : List α) (x : α) : found <+: addC cap found x := by
  unfold addC
  split
  · exact List.prefix_append _ _
  · exact List.prefix_refl _
theorem foldU_pre : ∀ (l found : List α), found <+: l.foldl addU found
  | [], _ => List.prefix_refl _
  | x :: l, found => (addU_pre found x).trans (foldU_pre l _)
theorem foldC_pre : ∀ (l found : List α), found <+: l.foldl (addC cap) found
  | [], _ => List.prefix_refl _
  | x :: l, found => (addC_pre found x).trans (foldC_pre l _)
theorem addC_le {found : List α} {x : α} (h : found.length ≤ cap) : (addC cap found x).length ≤ cap := by
  unfold addC
  split
  · rename_i g; simp; omega
  · exact h
theorem foldC_le : ∀ (l found : List α), found.length ≤ cap → (l.foldl (addC cap) found).length ≤ cap
  | [], _, h => h
  | x :: l, found, h => foldC_le l _ (addC_le h)
theorem foldC_U : ∀ (l found : List α), (l.foldl (addC cap) found).length < cap → l.foldl (addC cap) found = l.foldl addU found
  | [], _, _ => rfl
  | x :: l, found, h => by
    have h2 : addC cap found x = addU found x := by
      have h3 := (foldC_pre (cap := cap) l (addC cap found x)).length_le
      have h4 := (addC_pre (cap := cap) found x).length_le
      simp only [List.foldl_cons] at h
      unfold addC addU
      by_cases g : x ∈ found
      · simp [g]
      · have : found.length < cap := by omega
        simp [g, this]
    simp only [List.foldl_cons] at h ⊢
    rw [h2] at h ⊢
    exact foldC_U l _ h
theorem rowU_pre (found : List α) (k : Nat) : found <+: rowU nx found k := by
  unfold rowU
  split
  · exact foldU_pre _ _
  · exact List.prefix_refl _
theorem rowC_pre (found : List α) (k : Nat) : found <+: rowC cap nx found k := by
  unfold rowC
  split
  · exact foldC_pre _ _
  · exact List.prefix_refl _
theorem bfsU_pre {n : Nat} : ∀ {m : Nat}, n ≤ m → bfsU nx f0 n <+: bfsU nx f0 m
  | 0, h => by obtain rfl : n = 0 := by omega
               exact List.prefix_refl _
  | m + 1, h => by
    by_cases e : n = m + 1
    · subst e; exact List.prefix_refl _
    · exact (bfsU_pre (m := m) (by omega)).trans (rowU_pre _ _)
theorem bfsC_le (h1 : 1 ≤ cap) : ∀ n, (bfsC cap nx f0 n).length ≤ cap
  | 0 => by simpa [bfsC] using h1
  | n + 1 => by
    have := bfsC_le h1 n
    unfold bfsC rowC
    split
    · exact foldC_le _ _ this
    · exact this
theorem bfsC_U : ∀ n, (bfsC cap nx f0 n).length < cap → bfsC cap nx f0 n = bfsU nx f0 n
  | 0, _ => rfl
  | n + 1, h => by
    have h2 : (bfsC cap nx f0 n).length < cap := Nat.lt_of_le_of_lt (rowC_pre (cap := cap) (nx := nx) _ n).length_le h
    have h3 := bfsC_U n h2
    unfold bfsC rowC at h ⊢
    unfold bfsU rowU
    rw [h3] at h ⊢
    cases g : (bfsU nx f0 n)[n]? with
    | none => rfl
    | some a =>
      rw [g] at h
      exact foldC_U _ _ h
/-- once there is no row left, nothing more comes -/
theorem bfsU_end {n : Nat} (h : (bfsU nx f0 n).length ≤ n) : ∀ {m : Nat}, n ≤ m → bfsU nx f0 m = bfsU nx f0 n
  | 0, g => by obtain rfl : n = 0 := by omega
               rfl
  | m + 1, g => by
    by_cases e : n = m + 1
    · subst e; rfl
    · have ih := bfsU_end h (m := m) (by omega)
      show rowU nx (bfsU nx f0 m) m = _
      rw [ih]
      unfold rowU
      rw [List.getElem?_eq_none (by omega)]
theorem addU_nd {found : List α} {x : α} (h : found.Nodup) : (addU found x).Nodup := by
  unfold addU
  split
  · exact h
  · rename_i g
    rw [List.nodup_append]
    exact ⟨h, by simp, fun a ha b hb e => by simp at hb; subst hb; subst e; exact g ha⟩
theorem foldU_nd : ∀ (l found : List α), found.Nodup → (l.foldl addU found).Nodup
  | [], _, h => h
  | x :: l, _, h => foldU_nd l _ (addU_nd h)
theorem bfsU_nd : ∀ n, (bfsU nx f0 n).Nodup
  | 0 => by simp [bfsU]
  | n + 1 => by
    unfold bfsU rowU
    split
    · exact foldU_nd _ _ (bfsU_nd n)
    · exact bfsU_nd n
theorem foldU_mem : ∀ (l found : List α) (x : α), x ∈ l.foldl addU found ↔ x ∈ found ∨ x ∈ l
  | [], _, _ => by simp
  | y :: l, found, x => by
    rw [List.foldl_cons, foldU_mem l]
    unfold addU
    split
    · rename_i g
      constructor
      · rintro (h | h)
        · exact .inl h
        · exact .inr (List.mem_cons_of_mem _ h)
      · rintro (h | h)
        · exact .inl h
        · rcases List.mem_cons.mp h with rfl | h
          · exact .inl g
          · exact .inr h
    · simp [or_assoc]
/-- an end of it: all there is to come to -/
structure Whole (nx : α → List α) (f0 : α) (N : List α) : Prop where
  nd : N.Nodup
  at_ : ∀ k, k ≤ N.length → bfsU nx f0 k <+: N
  lt : ∀ k, k < N.length → k < (bfsU nx f0 k).length
  fin : bfsU nx f0 N.length = N
theorem whole_of {cap n : Nat} (h : (bfsC cap nx f0 n).length < cap) (hc : cap ≤ n) : Whole nx f0 (bfsC cap nx f0 n) := by
  have hcu := bfsC_U n h
  rw [hcu] at h ⊢
  have hf : bfsU nx f0 (bfsU nx f0 n).length = bfsU nx f0 n := by
    have h1 : (bfsU nx f0 (bfsU nx f0 n).length).length ≤ (bfsU nx f0 n).length := (bfsU_pre (by omega)).length_le
    exact (bfsU_end h1 (m := n) (by omega)).symm
  refine ⟨bfsU_nd n, fun k hk => bfsU_pre (by omega), fun k hk => ?_, hf⟩
  by_cases g : (bfsU nx f0 k).length ≤ k
  · have := bfsU_end g (m := n) (by omega)
    rw [this] at hk
    omega
  · omega
variable {N : List α}
theorem Whole.row (w : Whole nx f0 N) {k : Nat} (hk : k < N.length) : (bfsU nx f0 k)[k]? = some N[k] := by
  have h1 := w.lt k hk
  rw [List.getElem?_eq_getElem h1]
  congr 1
  exact (w.at_ k (by omega)).getElem h1
theorem Whole.next (w : Whole nx f0 N) {k : Nat} (hk : k < N.length) : bfsU nx f0 (k + 1) = (nx N[k]).foldl addU (bfsU nx f0 k) := by
  show rowU nx (bfsU nx f0 k) k = _
  unfold rowU
  rw [w.row hk]
theorem Whole.fin_iff (w : Whole nx f0 N) {k : Nat} (hk : k ≤ N.length) : (bfsU nx f0 k).length ≤ k ↔ k = N.length := by
  constructor
  · intro h
    by_cases g : k = N.length
    · exact g
    · have := w.lt k (by omega); omega
  · rintro rfl
    rw [w.fin]; exact Nat.le_refl _
theorem Whole.closed (w : Whole nx f0 N) {k : Nat} (hk : k < N.length) : ∀ x ∈ nx N[k], x ∈ N := fun x hx => by
  have h1 := (foldU_mem (nx N[k]) (bfsU nx f0 k) x).mpr (.inr hx)
  rw [← w.next hk] at h1
  exact (w.at_ (k + 1) (by omega)).subset h1
theorem Whole.first (w : Whole nx f0 N) : f0 ∈ N ∧ 0 < N.length := by
  have h1 : [f0] <+: N := w.at_ 0 (Nat.zero_le _)
  have h2 := h1.subset (List.mem_singleton.mpr rfl)
  exact ⟨h2, List.length_pos_of_mem h2⟩
/-- whatever holds of the first one and goes on holds of them all -/
theorem bfsU_all {P : α → Prop} (h0 : P f0) (hn : ∀ a, P a → ∀ b ∈ nx a, P b) : ∀ n, ∀ x ∈ bfsU nx f0 n, P x
  | 0, x, hx => by rw [List.mem_singleton.mp hx]; exact h0
  | n + 1, x, hx => by
    change x ∈ rowU nx (bfsU nx f0 n) n at hx
    unfold rowU at hx
    split at hx
    · rename_i a ha
      rcases (foldU_mem _ _ _).mp hx with h | h
      · exact bfsU_all h0 hn n x h
      · exact hn a (bfsU_all h0 hn n a (List.mem_of_getElem? ha)) x h
    · exact bfsU_all h0 hn n x hx
theorem bfsC_all {P : α → Prop} (h0 : P f0) (hn : ∀ a, P a → ∀ b ∈ nx a, P b) : ∀ n, ∀ x ∈ bfsC cap nx f0 n, P x
  | 0, x, hx => by rw [List.mem_singleton.mp hx]; exact h0
  | n + 1, x, hx => by
    change x ∈ rowC cap nx (bfsC cap nx f0 n) n at hx
    unfold rowC at hx
    have key : ∀ (l found : List α), (∀ x ∈ found, P x) → (∀ x ∈ l, P x) → ∀ x ∈ l.foldl (addC cap) found, P x := by
      intro l
      induction l with
      | nil => intro found h _ x hx; exact h x hx
      | cons y l ih =>
        intro found h h2 x hx
        refine ih _ (fun z hz => ?_) (fun z hz => h2 z (List.mem_cons_of_mem _ hz)) x hx
        unfold addC at hz
        split at hz
        · rcases List.mem_append.mp hz with g | g
          · exact h z g
          · rw [List.mem_singleton.mp g]; exact h2 y List.mem_cons_self
        · exact h z hz
    split at hx
    · rename_i a ha
      exact key _ _ (bfsC_all h0 hn n) (hn a (bfsC_all h0 hn n a (List.mem_of_getElem? ha))) x hx
    · exact bfsC_all h0 hn n x hx
theorem Whole.all (w : Whole nx f0 N) {P : α → Prop} (h0 : P f0) (hn : ∀ a, P a → ∀ b ∈ nx a, P b) : ∀ x ∈ N, P x := fun x hx => by
  rw [← w.fin] at hx
  exact bfsU_all h0 hn _ x hx
theorem idx_pre {l : List α} (hp : l <+: N) (hn : N.Nodup) (x : α) : N.idxOf x < l.length ↔ x ∈ l := by
  obtain ⟨t, rfl⟩ := hp
  constructor
  · intro h
    by_cases g : x ∈ l
    · exact g
    · rw [List.idxOf_append, if_neg g] at h
      omega
  · intro h
    rw [List.idxOf_append, if_pos h]
    exact List.idxOf_lt_length_of_mem h
/-- the numbers in the place of what they number -/
theorem foldU_num {l found : List α} (hn : N.Nodup) (h : l.foldl addU found <+: N) : (l.map N.idxOf).foldl addU (List.range found.length) = List.range (l.foldl addU found).length := by
  induction l generalizing found with
  | nil => rfl
  | cons x l ih =>
    have h1 : addU found x <+: N := (foldU_pre l _).trans h
    have h2 : found <+: N := (addU_pre found x).trans h1
    have h3 : addU (List.range found.length) (N.idxOf x) = List.range (addU found x).length := by
      unfold addU at h1 ⊢
      by_cases g : x ∈ found
      · rw [if_pos g, if_pos (List.mem_range.mpr ((idx_pre h2 hn x).mpr g))]
      · rw [if_neg g] at h1 ⊢
        have e : N.idxOf x = found.length := by
          obtain ⟨t, rfl⟩ := h1
          rw [List.append_assoc, List.idxOf_append, if_neg g]
          simp
        rw [e, if_neg (by simp), List.length_append, List.length_singleton, List.range_succ]
    rw [List.map_cons, List.foldl_cons, List.foldl_cons, h3]
    exact ih h
end
end Gm

set_option Elab.async false
set_option linter.all false
set_option maxRecDepth 100000
set_option maxHeartbeats 4000000
namespace Gm
open PySem L2 Ip
section
variable {y : Sy} {s : Gs} {p : Gp} {bs : List Ban}
theorem ins_of : ∀ {ds : List Dt} {vs : List Int}, vs.length = ds.length → (∀ (i : Nat) (d : Dt) (v : Int), ds[i]? = some d → vs[i]? = some v → 0 ≤ v ∧ v ≤ d.great) → Ins ds vs
  | [], [], _, _ => .nil
  | [], _ :: _, h, _ => by simp at h
  | _ :: _, [], h, _ => by simp at h
  | d :: ds, v :: vs, h, g => .cons (g 0 d v rfl rfl).1 (g 0 d v rfl rfl).2 (ins_of (by simpa using h) fun i d v h1 h2 => g (i + 1) d v (by simpa using h1) (by simpa using h2))
theorem after_ok {i : Nat} (hy : YOk y) (hs : SOk y s) (hp : y.steps[i]? = some p) (h : posB y bs s i p = true) : SOk y (after y s p) := by
  unfold posB at h
  simp only [Bool.and_eq_true, Bool.not_eq_true', Bool.and_eq_false_iff, decide_eq_false_iff_not] at h
  have pk := hy.st p (List.mem_of_getElem? hp)
  refine ⟨ins_of (newV_len hs) ((range_iff hy hs pk).mpr h.1.2), ?_, ?_⟩
  · unfold after lowF
    have := hs.f0
    dsimp only
    split
    · rename_i k
      rcases h.1.1.1 with g | g
      · exact absurd k g
      · omega
    · omega
  · unfold after lowF
    have := hs.f1
    dsimp only
    split <;> omega
theorem tick_ok (hs : SOk y s) : SOk y (tickV y s, s.2) := ⟨tick_ins hs.ins, hs.f0, hs.f1⟩
def mvL (y : Sy) (bs : List Ban) (s : Gs) : List (PV × Gs) := ((y.steps.zipIdx.filter fun q => posB y bs s q.2 q.1).map fun q => (PV.int (q.2 : Int), after y s q.1)) ++ (if canTick y s then [(.str "tick", (tickV y s, s.2))] else [])
theorem moves_mvL : moves y bs s = if mvL y bs s = [] then [(.str "rest", s)] else mvL y bs s := rfl
def nx (y : Sy) (bs : List Ban) (s : Gs) : List Gs := (moves y bs s).map (·.2)
theorem moves_ok (hy : YOk y) (hs : SOk y s) : ∀ q ∈ moves y bs s, SOk y q.2 := by
  intro q hq
  have key : ∀ q ∈ mvL y bs s, SOk y q.2 := by
    intro q hq
    rcases List.mem_append.mp hq with h | h
    · rw [List.mem_map] at h
      obtain ⟨r, hr, rfl⟩ := h
      rw [List.mem_filter] at hr
      exact after_ok hy hs (List.mem_zipIdx_iff_getElem?.mp hr.1) hr.2
    · split at h
      · rw [List.mem_singleton.mp h]; exact tick_ok hs
      · cases h
  rw [moves_mvL] at hq
  split at hq
  · rw [List.mem_singleton.mp hq]; exact hs
  · exact key q hq
theorem nx_ok (hy : YOk y) : ∀ s, SOk y s → ∀ t ∈ nx y bs s, SOk y t := fun s hs t ht => by
  unfold nx at ht
  rw [List.mem_map] at ht
  obtain ⟨q, hq, rfl⟩ := ht
  exact moves_ok hy hs q hq
theorem moves_len (hy : YOk y) : (moves y bs s).length ≤ 12 := by
  have h1 := hy.sl
  have h2 : (y.steps.zipIdx.filter fun q => posB y bs s q.2 q.1).length ≤ y.steps.length := by
    refine Nat.le_trans (List.length_filter_le _ _) ?_
    simp
  have h3 : (mvL y bs s).length ≤ 12 := by
    unfold mvL
    rw [List.length_append, List.length_map]
    cases canTick y s <;> simp <;> omega
  rw [moves_mvL]
  split
  · simp
  · exact h3
/-- the states, in the order in which they come -/
@[irreducible] def sts (y : Sy) : List Gs := bfsC 49 (nx y []) (firstS y) 49
theorem sts_eq (y : Sy) : sts y = bfsC 49 (nx y []) (firstS y) 49 := by unfold sts; rfl
theorem sts_ok (hy : YOk y) : ∀ s ∈ sts y, SOk y s := by rw [sts_eq]; exact bfsC_all (first_ok hy) (nx_ok hy) 49
theorem sts_le : (sts y).length ≤ 49 := by rw [sts_eq]; exact bfsC_le (by decide) 49
end
end Gm

set_option Elab.async false
set_option linter.all false
set_option maxRecDepth 100000
set_option maxHeartbeats 4000000
/-! Gm, part 6: parts, what they see, grants. -/
namespace Gm
open PySem L2 Ip
structure Pt where
  name : Str
  sees : List Str
def Pt.pv (p : Pt) : PV := .tup [.str p.name, .tup (p.sees.map PV.str)]
abbrev Gr := Nat × Str
def grPv (g : Gr) : PV := .tup [.int (g.1 : Nat), .str g.2]
def grsPv (gs : List Gr) : PV := .tup (gs.map grPv)
def seesOf (ps : List Pt) (k : Nat) : List Str := ((ps[k]?).map Pt.sees).getD []
def gotOf (gs : List Gr) (k : Nat) : List Str := (gs.filter fun g => decide (g.1 = k)).map (·.2)
/-- the ascending names that a part sees -/
def seenL (ps : List Pt) (gs : List Gr) (k : Nat) : List Str := isort ltT (seesOf ps k ++ gotOf gs k)
structure YP (y : Sy) (ps : List Pt) : Prop where
  parts : y.parts = .tup (ps.map Pt.pv)
  pl : ps.length ≤ 3
  sub : ∀ p ∈ ps, p.sees.Sublist y.names
  own : ∀ g ∈ y.steps, g.owner = .non ∨ ∃ k : Nat, g.owner = .int (k : Nat) ∧ k < ps.length
  srt : y.names.Pairwise fun x z => ltT x z = true
  dl : y.data.length ≤ 3
  sl : y.steps.length ≤ 5
structure GOk (y : Sy) (ps : List Pt) (gs : List Gr) : Prop where
  nd : gs.Nodup
  lt : ∀ g ∈ gs, g.1 < ps.length
  nm : ∀ g ∈ gs, g.2 ∈ y.names ∧ g.2 ∉ seesOf ps g.1
/-- strings, sorted: there is just one row -/
theorem isortT_of {L M : List Str} (h : L.Pairwise fun x z => ltT x z = true) (p : L.Perm M) : isort ltT M = L := by
  have hs : SrtO.Srtd ltT L := h.imp fun {x z} q => swoT.asym _ _ q
  have anti : ∀ x z : Str, ltT x z = false → ltT z x = false → x = z := fun x z h1 h2 => by
    simp only [decide_eq_false_iff_not, List.not_lt] at h1 h2
    have := List.le_antisymm h2 h1
    cases x; cases z
    simp only [Str.mk.injEq]
    exact Array.toList_inj.mp this
  exact List.Perm.eq_of_pairwise (le := fun x z => ltT z x = false) (fun x z _ _ h1 h2 => anti x z h2 h1) (isort_srt swoT M) hs ((isort_stb swoT M).perm.trans p.symm)
section
variable {y : Sy} {ps : List Pt} {gs : List Gr} {k : Nat}
theorem sees_sub (h : YP y ps) : (seesOf ps k).Sublist y.names := by
  unfold seesOf
  cases e : ps[k]? with
  | none => simp
  | some p => exact h.sub p (List.mem_of_getElem? e)
theorem mem_got {x : Str} : x ∈ gotOf gs k ↔ (k, x) ∈ gs := by
  unfold gotOf
  simp only [List.mem_map, List.mem_filter, decide_eq_true_eq]
  constructor
  · rintro ⟨⟨a, b⟩, ⟨h1, h2⟩, h3⟩
    dsimp only at h2 h3
    subst h2 h3
    exact h1
  · intro h
    exact ⟨_, ⟨h, rfl⟩, rfl⟩
theorem names_nd (h : YP y ps) : y.names.Nodup := h.srt.imp fun {x z} q e => by
  subst e
  have := swoT.asym _ _ q
  rw [q] at this
  cases this
theorem got_nd (g : GOk y ps gs) : (gotOf gs k).Nodup := by
  unfold gotOf
  rw [List.nodup_iff_pairwise_ne, List.pairwise_map]
  have : (gs.filter fun g => decide (g.1 = k)).Nodup := g.nd.sublist List.filter_sublist
  rw [List.nodup_iff_pairwise_ne] at this
  refine List.Pairwise.imp_of_mem (fun {a b} ha hb q e => q ?_) this
  have h1 := (List.mem_filter.mp ha).2
  have h2 := (List.mem_filter.mp hb).2
  simp only [decide_eq_true_eq] at h1 h2
  exact Prod.ext (h1.trans h2.symm) e
theorem both_nd (h : YP y ps) (g : GOk y ps gs) : (seesOf ps k ++ gotOf gs k).Nodup := by
  rw [List.nodup_append]
  refine ⟨(names_nd h).sublist (sees_sub h), got_nd g, fun a ha b hb e => ?_⟩
  subst e
  exact (g.nm _ (mem_got.mp hb)).2 ha
theorem both_sub (h : YP y ps) (g : GOk y ps gs) : ∀ x ∈ seesOf ps k ++ gotOf gs k, x ∈ y.names := fun x hx => by
  rcases List.mem_append.mp hx with hx | hx
  · exact (sees_sub h).subset hx
  · exact (g.nm _ (mem_got.mp hx)).1
/-- what a part sees, by the names of the data -/
theorem seen_eq (h : YP y ps) (g : GOk y ps gs) : seenL ps gs k = y.names.filter fun x => decide (x ∈ seesOf ps k ∨ (k, x) ∈ gs) := by
  refine isortT_of (h.srt.sublist List.filter_sublist) ?_
  refine (List.perm_ext_iff_of_nodup ((names_nd h).sublist List.filter_sublist) (both_nd h g)).mpr fun x => ?_
  simp only [List.mem_filter, decide_eq_true_eq, List.mem_append, mem_got]
  constructor
  · exact fun q => q.2
  · exact fun q => ⟨q.elim (fun z => (sees_sub h).subset z) fun z => (g.nm _ z).1, q⟩
theorem seen_sub (h : YP y ps) (g : GOk y ps gs) : (seenL ps gs k).Sublist y.names := by
  rw [seen_eq h g]; exact List.filter_sublist
theorem both_len (h : YP y ps) (g : GOk y ps gs) : (seesOf ps k ++ gotOf gs k).length ≤ 3 := by
  have h1 : (seenL ps gs k).length = (seesOf ps k ++ gotOf gs k).length := (isort_stb swoT _).perm.length_eq
  rw [← h1, seen_eq h g]
  have h2 := List.length_filter_le (fun x => decide (x ∈ seesOf ps k ∨ (k, x) ∈ gs)) y.names
  have h3 : y.names.length = y.data.length := by simp [Sy.names]
  have := h.dl
  omega
/-- without grants: what the part's row tells -/
theorem seen_none (h : YP y ps) : seenL ps [] k = seesOf ps k := by
  refine isortT_of (h.srt.sublist (sees_sub h)) ?_
  simp [gotOf]
end
/-- one by one, those that are not there yet -/
def dedS (acc : List Str) : List Str → List Str
  | [] => acc
  | x :: r => dedS (if x ∈ acc then acc else acc ++ [x]) r
theorem memP_str {x : Str} : ∀ {l : List Str}, memP (.str x) (l.map PV.str) = decide (x ∈ l)
  | [] => rfl
  | z :: l => by
    rw [List.map_cons, memP_c, memP_str, eqP_str]
    by_cases h : z = x
    · simp [h]
    · have h' : ¬ x = z := fun q => h q.symm
      simp [h, h']
theorem dedP_str : ∀ {l acc : List Str}, dedP (acc.map PV.str) (l.map PV.str) = (dedS acc l).map PV.str
  | [], _ => rfl
  | x :: l, acc => by
    rw [List.map_cons]
    unfold dedP dedS dedA
    rw [memP_str]
    by_cases h : x ∈ acc
    · rw [decide_eq_true h, if_pos rfl, if_pos h, dedP_str]
    · have e : acc.map PV.str ++ [PV.str x] = (acc ++ [x]).map PV.str := by simp
      rw [decide_eq_false h, if_neg (by simp), if_neg h, e, dedP_str]
theorem dedS_nd : ∀ {l acc : List Str}, (acc ++ l).Nodup → dedS acc l = acc ++ l
  | [], acc, _ => by simp [dedS]
  | x :: l, acc, h => by
    have hx : x ∉ acc := fun z => by
      rw [List.nodup_append] at h
      exact h.2.2 x z x List.mem_cons_self rfl
    unfold dedS
    rw [if_neg hx, dedS_nd (by simpa using h)]
    simp
theorem setOf_str {l : List Str} (h : l.length < 4000) : setOf (l.map PV.str) = some (.set ((dedS [] l).map PV.str)) := by
  unfold setOf
  have h1 : (l.map PV.str).all (keyB false) = true := by simp
  rw [h1]
  have e := dedP_str (l := l) (acc := [])
  simp only [List.map_nil] at e
  simp [h, e]
theorem sortP_str (l : List Str) : sortP (l.map PV.str) = some ((isort ltT l).map PV.str) := by
  unfold sortP
  cases l with
  | nil => rfl
  | cons x l =>
    have e : allI ((x :: l).map PV.str) = none := rfl
    rw [e, allS_map]; rfl
theorem sortL_str (l : List Str) : sortL (l.map PV.str) = some ((isort ltT l).map PV.str) := sortL_of (sortP_str l)
end Gm

set_option Elab.async false
set_option linter.all false
set_option maxRecDepth 100000
set_option maxHeartbeats 4000000
/-! Gm, part 7: changes that are drawn. -/
namespace Gm
open PySem L2 Ip
structure BnOk (y : Sy) (ps : List Pt) (gs : List Gr) (b : Ban) : Prop where
  st : ∃ (i k : Nat) (p : Gp), b.1 = (i : Int) ∧ y.steps[i]? = some p ∧ p.owner = .int (k : Nat) ∧ k < ps.length ∧ p.kind ≠ "fault" ∧ ∀ q ∈ b.2, q.1 ∈ seesOf ps k ∨ (k, q.1) ∈ gs
  sub : (b.2.map (·.1)).Sublist y.names
  val : ∀ q ∈ b.2, ∃ d ∈ y.data, d.name = q.1 ∧ 0 ≤ q.2 ∧ q.2 ≤ d.great
structure BsOk (y : Sy) (ps : List Pt) (gs : List Gr) (bs : List Ban) : Prop where
  each : ∀ b ∈ bs, BnOk y ps gs b
  asc : (bs.map (·.1)).Pairwise (· < ·)
  len : bs.length ≤ 5
theorem insS_map {α β : Type} {lt : β → β → Bool} (f : α → β) (x : α) : ∀ l : List α, insS lt (f x) (l.map f) = (insS (fun a b => lt (f a) (f b)) x l).map f
  | [] => rfl
  | y :: l => by
    rw [List.map_cons]
    unfold insS
    by_cases h : lt (f y) (f x) = true
    · rw [if_pos h, if_pos h, insS_map f x l]; rfl
    · rw [if_neg h, if_neg h]; rfl
theorem isort_map {α β : Type} {lt : β → β → Bool} (f : α → β) : ∀ l : List α, isort lt (l.map f) = (isort (fun a b => lt (f a) (f b)) l).map f
  | [] => rfl
  | x :: l => by
    rw [List.map_cons]
    unfold isort
    rw [isort_map f l, insS_map]
def grKey (g : Gr) : Key × Key := (.inl (g.1 : Nat), .inr g.2)
def sortG (gs : List Gr) : List Gr := isort (fun a b => ltPr (grKey a) (grKey b)) gs
theorem sortG_perm (gs : List Gr) : (sortG gs).Perm gs := (isort_stb (lt := fun a b => ltPr (grKey a) (grKey b)) ⟨fun x y => swoPr.asym _ _, fun x y z => swoPr.tr _ _ _⟩ gs).perm
theorem allPr_gr : ∀ gs : List Gr, allPr (gs.map grPv) = some (gs.map grKey)
  | [] => rfl
  | g :: gs => by
    rw [List.map_cons]
    unfold allPr
    rw [allPr_gr gs]
    rfl
theorem sortL_gr (gs : List Gr) : sortL (gs.map grPv) = some ((sortG gs).map grPv) := by
  cases gs with
  | nil => rfl
  | cons g gs =>
    unfold sortL
    have e : sortP ((g :: gs).map grPv) = none := rfl
    rw [e]
    dsimp only
    unfold sortQ
    rw [allPr_gr]
    dsimp only
    have sk : sameK ((g :: gs).map grKey) = true := by
      rw [List.map_cons]
      unfold sameK
      rw [List.all_eq_true]
      intro q hq
      obtain ⟨h, _, rfl⟩ := List.mem_map.mp hq
      rfl
    rw [if_pos sk, isort_map, List.map_map]
    rfl
theorem GOk.perm {y : Sy} {ps : List Pt} {gs hs : List Gr} (h : GOk y ps gs) (p : hs.Perm gs) : GOk y ps hs := ⟨p.nodup_iff.mpr h.nd, fun g m => h.lt g (p.mem_iff.mp m), fun g m => h.nm g (p.mem_iff.mp m)⟩
theorem BsOk.perm {y : Sy} {ps : List Pt} {gs hs : List Gr} {bs : List Ban} (h : BsOk y ps gs bs) (p : hs.Perm gs) : BsOk y ps hs bs := ⟨fun b m => by
  obtain ⟨⟨i, k, q, h1, h2, h3, h4, h5, h6⟩, s, v⟩ := h.each b m
  exact ⟨⟨i, k, q, h1, h2, h3, h4, h5, fun z hz => (h6 z hz).imp id fun w => p.mem_iff.mpr w⟩, s, v⟩, h.asc, h.len⟩
end Gm

set_option Elab.async false
set_option linter.all false
set_option maxRecDepth 100000
set_option maxHeartbeats 4000000
/-! Gm, part 8: values that are drawn; what is told by None. -/
namespace Gm
open PySem L2 Ip
theorem val_loopG {T : Store} {asg : PV → Option Nv} {ifs : Nv → M Bool} {elt : Nv → M PV} : ∀ (l : List Dt) (a b : Int) (R : List PV → Store → Prop), (∀ d ∈ l, ∀ (a b : Int) (Q : PV → Store → Prop), CupOk a b → (∀ r a b, CupOk a b → 0 ≤ r → r ≤ d.great → Q (.int r) (cup a b :: T)) → wp (ofO (asg d.pv)) (cup a b :: T) fun en S => wp (ifs en) S fun t S => if t = true then wp (elt en) S Q else False) → CupOk a b → (∀ (vs : List Int) a b, CupOk a b → Ins l vs → R (vs.map PV.int) (cup a b :: T)) → wp (compL asg ifs elt (l.map Dt.pv)) (cup a b :: T) R
  | [], a, b, R, _, c, h => h [] a b c .nil
  | d :: l, a, b, R, hs, c, h => by
    rw [List.map_cons, compL1]
    refine wp_mono (hs d List.mem_cons_self a b (fun v S => wp (compL asg ifs elt (l.map Dt.pv)) S fun r S => R (v :: r) S) c fun r a b c h0 h1 => ?_) fun en S q => wp_mono q fun t S q => ?_
    · refine val_loopG l a b _ (fun d hd => hs d (List.mem_cons_of_mem _ hd)) c fun vs a b c i => ?_
      exact h (r :: vs) a b c (.cons h0 h1 i)
    · cases t with
      | true => simpa using q
      | false => simp at q
theorem eq_ints' : ∀ a b : List Int, eqPs (a.map PV.int) (b.map PV.int) = decide (a = b)
  | [], [] => rfl
  | [], _ :: _ => by simp
  | _ :: _, [] => by simp
  | x :: a, y :: b => by
    simp [eq_ints' a b]
theorem eq_sts (s t : Gs) : eqP (stPv s) (stPv t) = decide (s = t) := by
  obtain ⟨s1, s2⟩ := s
  obtain ⟨t1, t2⟩ := t
  simp [stPv, eq_ints', Prod.ext_iff]
theorem ok_sts' (s t : Gs) : okEq (stPv s) (stPv t) = true := by
  have hd : ∀ l : List Int, plains (l.map PV.int) = true ∧ deps (l.map PV.int) = 0 := fun l => by
    induction l with
    | nil => exact ⟨rfl, rfl⟩
    | cons z l ih => simp [ih]
  simp [stPv, okEq, hd]
end Gm

set_option Elab.async false
set_option linter.all false
set_option maxRecDepth 100000
set_option maxHeartbeats 4000000
/-! Gm, part 9: moves with changes, by numbers; what is there. -/
namespace Gm
open PySem L2 Ip
section
variable {y : Sy} {s : Gs} {p : Gp} {bs : List Ban} {i : Nat} {N : List Gs}
theorem posB_nb (h : posB y bs s i p = true) : posB y [] s i p = true := by
  unfold posB at h ⊢
  simp only [Bool.and_eq_true] at h ⊢
  exact ⟨h.1, by simp [banned]⟩
theorem mvL_nb : ∀ q ∈ mvL y bs s, q ∈ mvL y [] s := by
  intro q hq
  unfold mvL at hq ⊢
  rcases List.mem_append.mp hq with h | h
  · rw [List.mem_map] at h
    obtain ⟨r, hr, rfl⟩ := h
    rw [List.mem_filter] at hr
    exact List.mem_append_left _ (List.mem_map.mpr ⟨r, List.mem_filter.mpr ⟨hr.1, posB_nb hr.2⟩, rfl⟩)
  · exact List.mem_append_right _ h
theorem moves_nb : ∀ q ∈ moves y bs s, q.2 = s ∨ q ∈ moves y [] s := by
  intro q hq
  rw [moves_mvL] at hq
  split at hq
  · rw [List.mem_singleton.mp hq]; exact .inl rfl
  · have h := mvL_nb q hq
    refine .inr ?_
    rw [moves_mvL, if_neg (fun e => by rw [e] at h; cases h)]
    exact h
theorem moves_in (w : Whole (nx y []) (firstS y) N) (hs : s ∈ N) : ∀ q ∈ moves y bs s, q.2 ∈ N := fun q hq => by
  rcases moves_nb q hq with h | h
  · rw [h]; exact hs
  · obtain ⟨i, hi, hti⟩ := List.getElem_of_mem hs
    exact w.closed hi q.2 (by rw [hti]; unfold nx; exact List.mem_map.mpr ⟨q, h, rfl⟩)
theorem labsB : ∀ q ∈ moves y bs s, (∃ i, q.1 = .int i) ∨ ∃ z, q.1 = .str z := fun q hq => by
  have key : ∀ q ∈ mvL y bs s, (∃ i, q.1 = .int i) ∨ ∃ z, q.1 = .str z := fun q hq => by
    unfold mvL at hq
    rcases List.mem_append.mp hq with g | g
    · rw [List.mem_map] at g
      obtain ⟨r, _, rfl⟩ := g
      exact .inl ⟨_, rfl⟩
    · cases hc : canTick y s with
      | true =>
        rw [hc, if_pos rfl] at g
        rw [List.mem_singleton.mp g]; exact .inr ⟨_, rfl⟩
      | false =>
        rw [hc] at g
        cases g
  rw [moves_mvL] at hq
  by_cases hz : mvL y bs s = []
  · rw [if_pos hz] at hq
    rw [List.mem_singleton.mp hq]; exact .inr ⟨_, rfl⟩
  · rw [if_neg hz] at hq
    exact key q hq
end
section
variable {α : Type} [DecidableEq α] {nx : α → List α} {f0 : α}
theorem whole_len {n : Nat} (h : (bfsU nx f0 n).length ≤ n) : Whole nx f0 (bfsU nx f0 n) := by
  have hf : bfsU nx f0 (bfsU nx f0 n).length = bfsU nx f0 n := by
    have h1 : (bfsU nx f0 (bfsU nx f0 n).length).length ≤ (bfsU nx f0 n).length := (bfsU_pre h).length_le
    exact (bfsU_end h1 h).symm
  refine ⟨bfsU_nd n, fun k hk => bfsU_pre (by omega), fun k hk => ?_, hf⟩
  by_cases g : (bfsU nx f0 k).length ≤ k
  · have := bfsU_end g (m := n) (by omega)
    rw [this] at hk
    omega
  · omega
theorem nd_le : ∀ {l m : List α}, l.Nodup → (∀ x ∈ l, x ∈ m) → l.length ≤ m.length
  | [], _, _, _ => Nat.zero_le _
  | x :: l, m, h, g => by
    rw [List.nodup_cons] at h
    have hx := g x List.mem_cons_self
    have h1 := nd_le (m := m.erase x) h.2 fun z hz => (List.mem_erase_of_ne (fun e => h.1 (by rw [← e]; exact hz))).mpr (g z (List.mem_cons_of_mem _ hz))
    rw [List.length_erase_of_mem hx] at h1
    have := List.length_pos_of_mem hx
    rw [List.length_cons]
    omega
end
def numL (l : List Nat) : List PV := l.map fun i => PV.int ((i : Nat) : Int)
def ltN (a b : Nat) : Bool := ltZ (a : Int) (b : Int)
theorem swoN : SrtO.Swo ltN := ⟨fun x y => swoZ.asym _ _, fun x y z => swoZ.tr _ _ _⟩
def srtN (l : List Nat) : List Nat := isort ltN l
theorem srtN_perm (l : List Nat) : (srtN l).Perm l := (isort_stb swoN l).perm
theorem srtN_eq {l m : List Nat} (p : l.Perm m) : srtN l = srtN m := by
  have anti : ∀ x z : Nat, ltN x z = false → ltN z x = false → x = z := fun x z h1 h2 => by
    simp [ltN, ltZ] at h1 h2
    omega
  exact List.Perm.eq_of_pairwise (le := fun x z => ltN z x = false) (fun x z _ _ h1 h2 => anti x z h2 h1) (isort_srt swoN l) (isort_srt swoN m) ((srtN_perm l).trans (p.trans (srtN_perm m).symm))
def addR (nx : Nat → List Nat) (acc : List Nat) (n : Nat) : List Nat := acc ++ (nx n).filter fun x => !decide (x ∈ acc)
def dedN (acc : List Nat) : List Nat → List Nat
  | [] => acc
  | x :: r => dedN (if x ∈ acc then acc else acc ++ [x]) r
theorem dedN_nd : ∀ (l acc : List Nat), acc.Nodup → (dedN acc l).Nodup
  | [], _, h => h
  | x :: l, acc, h => by
    unfold dedN
    refine dedN_nd l _ ?_
    have := addU_nd (x := x) h
    unfold addU at this
    exact this
theorem dedN_mem : ∀ (l acc : List Nat) (x : Nat), x ∈ dedN acc l ↔ x ∈ acc ∨ x ∈ l
  | [], _, _ => by simp [dedN]
  | z :: l, acc, x => by
    unfold dedN
    rw [dedN_mem l]
    by_cases g : z ∈ acc
    · rw [if_pos g]
      constructor
      · rintro (h | h)
        · exact .inl h
        · exact .inr (List.mem_cons_of_mem _ h)
      · rintro (h | h)
        · exact .inl h
        · rcases List.mem_cons.mp h with rfl | h
          · exact .inl g
          · exact .inr h
    · rw [if_neg g]
      simp [or_assoc]
section
variable {nx : Nat → List Nat}
def rndN (nx : Nat → List Nat) (T : List Nat) : List Nat := srtN (dedN [] (T.foldl (addR nx) T))
def thrN (nx : Nat → List Nat) : Nat → List Nat
  | 0 => [0]
  | n + 1 => rndN nx (thrN nx n)
theorem foldR_mem : ∀ (l acc : List Nat) (x : Nat), x ∈ l.foldl (addR nx) acc ↔ x ∈ acc ∨ ∃ t ∈ l, x ∈ nx t
  | [], _, _ => by simp
  | z :: l, acc, x => by
    rw [List.foldl_cons, foldR_mem l]
    unfold addR
    simp only [List.mem_append, List.mem_filter, Bool.not_eq_true', decide_eq_false_iff_not, List.mem_cons]
    constructor
    · rintro ((h | h) | ⟨t, h1, h2⟩)
      · exact .inl h
      · exact .inr ⟨z, .inl rfl, h.1⟩
      · exact .inr ⟨t, .inr h1, h2⟩
    · rintro (h | ⟨t, rfl | h1, h2⟩)
      · exact .inl (.inl h)
      · by_cases g : x ∈ acc
        · exact .inl (.inl g)
        · exact .inl (.inr ⟨h2, g⟩)
      · exact .inr ⟨t, h1, h2⟩
theorem rnd_mem (T : List Nat) (x : Nat) : x ∈ rndN nx T ↔ x ∈ T ∨ ∃ t ∈ T, x ∈ nx t := by
  unfold rndN
  rw [(srtN_perm _).mem_iff, dedN_mem, foldR_mem]
  simp
theorem rnd_nd (T : List Nat) : (rndN nx T).Nodup := (srtN_perm _).nodup_iff.mpr (dedN_nd _ _ List.nodup_nil)
theorem thr_nd : ∀ n, (thrN nx n).Nodup
  | 0 => by simp [thrN]
  | n + 1 => rnd_nd _
theorem thr_srt : ∀ n, srtN (thrN nx n) = thrN nx n
  | 0 => rfl
  | n + 1 => srtN_eq (srtN_perm _)
theorem thr_lt {L : Nat} (h0 : 0 < L) (h : ∀ i, ∀ x ∈ nx i, x < L) : ∀ n, ∀ x ∈ thrN nx n, x < L
  | 0, x, hx => by simp [thrN] at hx; omega
  | n + 1, x, hx => by
    rcases (rnd_mem _ _).mp hx with g | ⟨t, _, g⟩
    · exact thr_lt h0 h n x g
    · exact h t x g
theorem thr_zero : ∀ n, 0 ∈ thrN nx n
  | 0 => by simp [thrN]
  | n + 1 => (rnd_mem _ _).mpr (.inl (thr_zero n))
theorem thr_grow : ∀ n, (∀ t ∈ thrN nx n, ∀ x ∈ nx t, x ∈ thrN nx n) ∨ n < (thrN nx n).length
  | 0 => .inr (by simp [thrN])
  | n + 1 => by
    by_cases cl : ∀ t ∈ thrN nx n, ∀ x ∈ nx t, x ∈ thrN nx n
    · refine .inl fun t ht x hx => ?_
      have e : ∀ z, z ∈ thrN nx (n + 1) → z ∈ thrN nx n := fun z hz => by
        rcases (rnd_mem _ _).mp hz with g | ⟨u, hu, g⟩
        · exact g
        · exact cl u hu z g
      exact (rnd_mem _ _).mpr (.inl (cl t (e t ht) x hx))
    · refine .inr ?_
      rcases thr_grow n with g | g
      · exact absurd g cl
      · have : ∃ t ∈ thrN nx n, ∃ x ∈ nx t, x ∉ thrN nx n := by
          apply Classical.byContradiction
          intro hn
          refine cl fun t ht x hx => ?_
          apply Classical.byContradiction
          intro hx2
          exact hn ⟨t, ht, x, hx, hx2⟩
        obtain ⟨t, ht, x, hx, hx2⟩ := this
        have h1 : (x :: thrN nx n).Nodup := List.nodup_cons.mpr ⟨hx2, thr_nd n⟩
        have h2 := nd_le (m := thrN nx (n + 1)) h1 fun z hz => by
          rcases List.mem_cons.mp hz with rfl | hz
          · exact (rnd_mem _ _).mpr (.inr ⟨t, ht, hx⟩)
          · exact (rnd_mem _ _).mpr (.inl hz)
        rw [List.length_cons] at h2
        omega
theorem bfs_lt {L : Nat} (h0 : 0 < L) (h : ∀ i, ∀ x ∈ nx i, x < L) (n : Nat) : ∀ x ∈ bfsU nx 0 n, x < L := bfsU_all (P := fun x => x < L) h0 (fun a _ b hb => h a b hb) n
theorem bfs_le {L : Nat} (h0 : 0 < L) (h : ∀ i, ∀ x ∈ nx i, x < L) (n : Nat) : (bfsU nx 0 n).length ≤ L := by
  have := nd_le (bfsU_nd (nx := nx) (f0 := 0) n) (m := List.range L) fun x hx => List.mem_range.mpr (bfs_lt h0 h n x hx)
  simpa using this
theorem whole_num {L : Nat} (h0 : 0 < L) (h : ∀ i, ∀ x ∈ nx i, x < L) : Whole nx 0 (bfsU nx 0 L) := whole_len (bfs_le h0 h L)
/-- the law's rounds come to just what is there -/
theorem thr_eq {L : Nat} (h0 : 0 < L) (h : ∀ i, ∀ x ∈ nx i, x < L) : srtN (bfsU nx 0 L) = thrN nx L := by
  have w := whole_num h0 h
  have hcl : ∀ t ∈ bfsU nx 0 L, ∀ x ∈ nx t, x ∈ bfsU nx 0 L := fun t ht x hx => by
    obtain ⟨i, hi, hti⟩ := List.getElem_of_mem ht
    exact w.closed hi x (by rw [hti]; exact hx)
  have h1 : ∀ n, ∀ x ∈ thrN nx n, x ∈ bfsU nx 0 L := by
    intro n
    induction n with
    | zero => intro x hx; simp [thrN] at hx; subst hx; exact w.first.1
    | succ n ih =>
      intro x hx
      rcases (rnd_mem _ _).mp hx with g | ⟨t, ht, g⟩
      · exact ih x g
      · exact hcl t (ih t ht) x g
  have h2 : ∀ x ∈ bfsU nx 0 L, x ∈ thrN nx L := by
    rcases thr_grow (nx := nx) L with g | g
    · exact w.all (P := fun x => x ∈ thrN nx L) (thr_zero L) g
    · have := nd_le (thr_nd (nx := nx) L) (m := List.range L) fun x hx => List.mem_range.mpr (thr_lt h0 h L x hx)
      rw [List.length_range] at this
      omega
  rw [← thr_srt (nx := nx) L]
  exact srtN_eq ((List.perm_ext_iff_of_nodup (bfsU_nd L) (thr_nd L)).mpr fun x => ⟨h2 x, h1 L x⟩)
theorem addR_len {B : Nat} (h : ∀ i, (nx i).length ≤ B) (acc : List Nat) (n : Nat) : (addR nx acc n).length ≤ acc.length + B := by
  unfold addR
  rw [List.length_append]
  have := List.length_filter_le (fun x => !decide (x ∈ acc)) (nx n)
  have := h n
  omega
theorem foldR_len {B : Nat} (h : ∀ i, (nx i).length ≤ B) : ∀ (l acc : List Nat), (l.foldl (addR nx) acc).length ≤ acc.length + B * l.length
  | [], acc => by simp
  | z :: l, acc => by
    have h1 := foldR_len h l (addR nx acc z)
    have h2 := addR_len h acc z
    rw [List.foldl_cons, List.length_cons, Nat.mul_succ]
    omega
end
theorem memP_num {x : Nat} : ∀ {l : List Nat}, memP (.int (x : Nat)) (numL l) = decide (x ∈ l)
  | [] => rfl
  | z :: l => by
    unfold numL
    rw [List.map_cons, memP_c]
    have := memP_num (x := x) (l := l)
    unfold numL at this
    rw [this, eqP_int]
    by_cases h : z = x
    · simp [h]
    · have h' : ¬ x = z := fun q => h q.symm
      have h2 : ¬ ((z : Nat) : Int) = ((x : Nat) : Int) := by omega
      simp [h', h2]
theorem dedP_num : ∀ {l acc : List Nat}, dedP (numL acc) (numL l) = numL (dedN acc l)
  | [], _ => rfl
  | x :: l, acc => by
    have e1 : numL (x :: l) = PV.int ((x : Nat) : Int) :: numL l := rfl
    rw [e1]
    unfold dedP dedN dedA
    rw [memP_num]
    by_cases h : x ∈ acc
    · rw [decide_eq_true h, if_pos rfl, if_pos h, dedP_num]
    · have e : numL acc ++ [PV.int ((x : Nat) : Int)] = numL (acc ++ [x]) := by simp [numL]
      rw [decide_eq_false h, if_neg (by simp), if_neg h, e, dedP_num]
theorem setOf_num {l : List Nat} (h : l.length < 4000) : setOf (numL l) = some (.set (numL (dedN [] l))) := by
  unfold setOf
  have h1 : (numL l).all (keyB false) = true := by simp [numL]
  have h2 : (numL l).length < 4000 := by simpa [numL] using h
  rw [h1]
  have e := dedP_num (l := l) (acc := [])
  have e0 : numL [] = ([] : List PV) := rfl
  rw [e0] at e
  simp [h2, e]
theorem allI_num : ∀ l : List Nat, allI (numL l) = some (l.map fun i => ((i : Nat) : Int))
  | [] => rfl
  | x :: l => by
    have e1 : numL (x :: l) = PV.int ((x : Nat) : Int) :: numL l := rfl
    rw [e1]
    unfold allI
    rw [allI_num l]
    rfl
theorem sortP_num (l : List Nat) : sortP (numL l) = some (numL (srtN l)) := by
  unfold sortP
  rw [allI_num]
  dsimp only
  rw [isort_map]
  simp [numL, srtN, List.map_map]
  rfl
theorem sortL_num (l : List Nat) : sortL (numL l) = some (numL (srtN l)) := sortL_of (sortP_num l)
theorem nums_okL : ∀ l : List Nat, plains (numL l) = true ∧ deps (numL l) = 0 ∧ eqPs (numL l) (numL l) = true
  | [] => ⟨rfl, rfl, rfl⟩
  | i :: l => by
    obtain ⟨h1, h2, h3⟩ := nums_okL l
    have e1 : numL (i :: l) = PV.int ((i : Nat) : Int) :: numL l := rfl
    rw [e1]
    simp [h1, h2, h3]
end Gm

set_option Elab.async false
set_option linter.all false
set_option maxRecDepth 100000
set_option maxHeartbeats 0
/-! gamecheck_k15_whole_moves_of_states in the small language (printed by gen.py) -/
namespace L15
open PySem L2 Ip PyProof.Rows
def top (i : Nat) : Stmt := PySem.Challenge.pw_gamecheck_k15_whole_moves_of_states.main.body.getD i (.Pass ⟨0, 0, 0, 0⟩)
/-- law -/
def b0 : List Sx := [.asg (.nm 1) (.call 1 [(.var 0)]), .forS (.nm 2) (.rng1 (.con (.int 8))) [.asg (.nm 6) (.call 2 [(.var 1)]), .ifS (.cmp .eq (.call 3 [(.var 1), (.con (.int 2))]) (.con (.int 0))) [.asg (.nm 6) (.bin .add (.tup [(.blt .tuple [(.comp (.bin .add (.sl (.var 11) none (some (.con (.int 3)))) (.tup [(.cmp .eq (.call 3 [(.var 1), (.con (.int 2))]) (.con (.int 0)))])) [11] (.nm 11) (.seq (.ix (.var 6) (.con (.int 0)))) [])])]) (.sl (.var 6) (some (.con (.int 1))) none))] [], .asg (.nm 8) (.call 4 [(.var 1), (.var 6)]), .asg (.nm 9) (.tup [(.blt .tuple [(.comp (.call 5 [(.var 1), (.lst [(.ix (.var 11) (.con (.int 1))), (.call 3 [(.var 1), (.bin .add (.ix (.var 11) (.con (.int 1))) (.con (.int 1)))])])]) [11] (.nm 11) (.seq (.ix (.var 6) (.con (.int 0)))) [])]), (.call 3 [(.var 1), (.bin .add (.ix (.var 6) (.con (.int 1))) (.con (.int 1)))])]), .ifS (.cmp .ne (.call 6 [(.var 6), (.var 8), (.var 9)]) (.blt .tuple [(.call 7 [(.var 6), (.ix (.var 8) (.con (.int 0))), (.var 9)])])) [.ret (.con (.bl false))] []], .ifS (.not (.call 8 [(.var 1)])) [.ret (.con (.bl false))] [], .asg (.nm 3) (.tup [(.tup [(.con (.str "a")), (.con (.int 2)), (.con (.int 0)), (.con (.bl false))]), (.tup [(.con (.str "c")), (.con (.int 2)), (.con (.int 0)), (.con (.bl true))]), (.tup [(.con (.str "d")), (.con (.int 1)), (.con (.int 0)), (.con (.bl true))])]), .asg (.nm 4) (.tup [(.con (.str "haste")), (.con (.int 0)), (.con (.str "urgent")), (.tup [(.con (.str "same")), (.tup [(.con (.str "of")), (.con (.str "a"))]), (.tup [(.con (.str "is")), (.con (.int 1))])]), (.tup [(.tup [(.con (.str "a")), (.tup [(.con (.str "is")), (.con (.int 2))])])])]), .asg (.nm 5) (.tup [(.var 4), (.tup [(.con (.str "up")), (.con (.int 0)), (.con (.str "plain")), (.tup [(.con (.str "less")), (.tup [(.con (.str "of")), (.con (.str "a"))]), (.tup [(.con (.str "is")), (.con (.int 1))])]), (.tup [(.tup [(.con (.str "a")), (.tup [(.con (.str "is")), (.con (.int 1))])])])])]), .asg (.nm 6) (.tup [(.var 3), (.con (.int 0)), (.var 5), (.tup [(.tup [(.con (.str "me")), (.tup [(.con (.str "a"))])])])]), .asg (.nm 7) (.lst [(.tup [(.tup [(.con (.int 0)), (.con (.int 0)), (.con (.int 0))]), (.tup []), (.tup [(.tup [(.con (.int 1)), (.tup [(.tup [(.con (.int 1)), (.con (.int 0)), (.con (.int 0))]), (.con (.int 0))])]), (.tup [(.con (.str "tick")), (.tup [(.tup [(.con (.int 0)), (.con (.int 1)), (.con (.int 1))]), (.con (.int 0))])])])]), (.tup [(.tup [(.con (.int 1)), (.con (.int 0)), (.con (.int 0))]), (.tup []), (.tup [(.tup [(.con (.int 0)), (.tup [(.tup [(.con (.int 2)), (.con (.int 0)), (.con (.int 0))]), (.con (.int 0))])])])])]), .asg (.nm 7) (.bin .add (.var 7) (.lst [(.tup [(.tup [(.con (.int 1)), (.con (.int 0)), (.con (.int 0))]), (.tup [(.tup [(.con (.int 0)), (.tup [])])]), (.tup [(.tup [(.con (.str "rest")), (.tup [(.tup [(.con (.int 1)), (.con (.int 0)), (.con (.int 0))]), (.con (.int 0))])])])])])), .asg (.nm 7) (.bin .add (.var 7) (.lst [(.tup [(.tup [(.con (.int 2)), (.con (.int 1)), (.con (.int 1))]), (.tup []), (.tup [(.tup [(.con (.str "tick")), (.tup [(.tup [(.con (.int 2)), (.con (.int 2)), (.con (.int 1))]), (.con (.int 0))])])])]), (.tup [(.tup [(.con (.int 2)), (.con (.int 2)), (.con (.int 1))]), (.tup []), (.tup [(.tup [(.con (.str "rest")), (.tup [(.tup [(.con (.int 2)), (.con (.int 2)), (.con (.int 1))]), (.con (.int 0))])])])])])), .asg (.nm 7) (.bin .add (.var 7) (.lst [(.tup [(.tup [(.con (.int 0)), (.con (.int 2)), (.con (.int 1))]), (.tup [(.tup [(.con (.int 1)), (.tup [(.tup [(.con (.str "a")), (.con (.int 0))])])])]), (.tup [(.tup [(.con (.str "rest")), (.tup [(.tup [(.con (.int 0)), (.con (.int 2)), (.con (.int 1))]), (.con (.int 0))])])])])])), .ret (.cmp .eq (.comp (.var 10) [10] (.nm 10) (.seq (.var 7)) [(.cmp .ne (.call 6 [(.var 6), (.tup [(.ix (.var 10) (.con (.int 1))), (.tup [])]), (.tup [(.ix (.var 10) (.con (.int 0))), (.con (.int 0))])]) (.ix (.var 10) (.con (.int 2))))]) (.lst []))]
def e0 : DefI := ⟨"law", ⟨("law", none), "law", "law", defArgs (top 42), defBody (top 42), defScope (top 42), [], []⟩, [("script" : Str), ("cup" : Str), ("turn" : Str), ("data" : Str), ("haste" : Str), ("steps" : Str), ("system" : Str), ("rows" : Str), ("changes" : Str), ("state" : Str), ("row" : Str), ("datum" : Str)], [("script" : Str)], ⟨1, 12, b0, false⟩⟩
/-- _law_cup -/
def b1 : List Sx := [.asg (.nm 1) (.blt .abs [(.ix (.bin .add (.blt .list [(.var 0)]) (.lst [(.con (.int 0))])) (.con (.int 0)))]), .ret (.newL [(.ite (.cmp .ge (.var 1) (.bin .pow (.con (.int 10)) (.con (.int 18)))) (.bin .fdiv (.var 1) (.con (.int 79))) (.con (.int 0))), (.bin .add (.bin .mod (.blt .int [(.bin .add (.bin .mul (.var 1) (.con (.int 293))) (.con (.int 2903)))]) (.con (.int 2077503127))) (.con (.int 181)))])]
def e1 : DefI := ⟨"_law_cup", ⟨("_law_cup", none), "_law_cup", "_law_cup", defArgs (top 25), defBody (top 25), defScope (top 25), [], []⟩, [("script" : Str), ("cell" : Str)], [("script" : Str)], ⟨1, 2, b1, true⟩⟩
/-- _law_system -/
def b2 : List Sx := [.asg (.nm 1) (.tup []), .forS (.nm 2) (.seq (.sl (.lst [(.con (.str "a")), (.con (.str "b")), (.con (.str "c"))]) none (some (.call 5 [(.var 0), (.lst [(.con (.int 1)), (.con (.int 2)), (.con (.int 2)), (.con (.int 3)), (.con (.int 3))])])))) [.asg (.nm 7) (.call 5 [(.var 0), (.lst [(.con (.int 1)), (.con (.int 2)), (.con (.int 3))])]), .asg (.nm 1) (.bin .add (.var 1) (.tup [(.tup [(.var 2), (.var 7), (.call 3 [(.var 0), (.bin .add (.var 7) (.con (.int 1)))]), (.cmp .eq (.call 3 [(.var 0), (.con (.int 4))]) (.con (.int 0)))])]))], .asg (.nm 3) (.comp (.ix (.var 13) (.con (.int 0))) [13] (.nm 13) (.seq (.var 1)) []), .asg (.nm 4) (.blt .tuple [(.comp (.tup [(.var 2), (.call 9 [(.var 0), (.var 3)])]) [2] (.nm 2) (.seq (.sl (.lst [(.con (.str "me")), (.con (.str "you")), (.con (.str "they"))]) none (some (.call 3 [(.var 0), (.con (.int 4))])))) [])]), .asg (.nm 5) (.blt .sorted [(.comp (.call 3 [(.var 0), (.bin .add (.blt .len [(.var 4)]) (.con (.int 1)))]) [14] (.nm 14) (.rng1 (.call 5 [(.var 0), (.lst [(.con (.int 0)), (.con (.int 2)), (.con (.int 3)), (.con (.int 4)), (.con (.int 5))])])) [])]), .asg (.nm 6) (.tup []), .forS (.tup [(.nm 8), (.nm 9)]) (.enum (.var 5)) [.asg (.nm 10) (.call 5 [(.var 0), (.lst [(.con (.str "plain")), (.con (.str "plain")), (.con (.str "plain")), (.con (.str "fault")), (.con (.str "urgent")), (.con (.str "just")), (.con (.str "strong"))])]), .asg (.nm 11) (.comp (.tup [(.con (.str "rest")), (.tup [(.con (.str "plus")), (.tup [(.con (.str "of")), (.ix (.var 13) (.con (.int 0)))]), (.tup [(.con (.str "is")), (.con (.int 1))])]), (.tup [(.con (.str "is")), (.bin .add (.ix (.var 13) (.con (.int 1))) (.con (.int 1)))])]) [13] (.nm 13) (.seq (.var 1)) []), .asg (.nm 12) (.comp (.tup [(.ix (.var 3) (.var 15)), (.call 5 [(.var 0), (.lst [(.ix (.var 11) (.var 15)), (.ix (.var 11) (.var 15)), (.call 10 [(.var 0), (.var 3), (.con (.int 1))])])])]) [15] (.nm 15) (.rng1 (.blt .len [(.var 3)])) [(.cmp .eq (.call 3 [(.var 0), (.con (.int 2))]) (.con (.int 0)))]), .asg (.nm 12) (.blt .tuple [(.slR (.var 12) (.call 5 [(.var 0), (.lst [(.con (.int 1)), (.neg (.con (.int 1)))])]))]), .asg (.nm 6) (.bin .add (.var 6) (.tup [(.tup [(.ix (.lst [(.con (.str "up")), (.con (.str "down")), (.con (.str "go")), (.con (.str "halt")), (.con (.str "turn"))]) (.var 8)), (.ite (.cmp .gt (.var 9) (.con (.int 0))) (.bin .sub (.var 9) (.con (.int 1))) (.con .non)), (.var 10), (.call 11 [(.var 0), (.var 3), (.con (.int 1))]), (.var 12)])]))], .ret (.tup [(.var 1), (.call 3 [(.var 0), (.con (.int 3))]), (.var 6), (.var 4)])]
def e2 : DefI := ⟨"_law_system", ⟨("_law_system", none), "_law_system", "_law_system", defArgs (top 33), defBody (top 33), defScope (top 33), [], []⟩, [("cup" : Str), ("data" : Str), ("name" : Str), ("names" : Str), ("parts" : Str), ("owners" : Str), ("steps" : Str), ("greatest" : Str), ("at" : Str), ("owner" : Str), ("kind" : Str), ("rounds" : Str), ("sets" : Str), ("datum" : Str), ("step" : Str), ("k" : Str)], [("cup" : Str)], ⟨1, 16, b2, false⟩⟩
/-- _law_roll -/
def b3 : List Sx := [.ifS (.cmp .gt (.ix (.var 0) (.con (.int 0))) (.con (.int 0))) [.asg (.nm 3) (.bin .mod (.blt .int [(.ix (.var 0) (.con (.int 0)))]) (.var 1)), .sub (.var 0) (.con (.int 0)) (.bin .fdiv (.ix (.var 0) (.con (.int 0))) (.var 1)), .ret (.var 3)] [], .sub (.var 0) (.con (.int 1)) (.bin .mod (.blt .int [(.bin .add (.bin .mul (.ix (.var 0) (.con (.int 1))) (.con (.int 31079))) (.con (.int 8039)))]) (.con (.int 2147483477))), .asg (.nm 2) (.bin .mod (.blt .int [(.bin .mul (.ix (.var 0) (.con (.int 1))) (.bin .add (.ix (.var 0) (.con (.int 1))) (.con (.int 241))))]) (.con (.int 2147483587))), .ret (.bin .mod (.blt .int [(.bin .fdiv (.var 2) (.con (.int 829)))]) (.var 1))]
def e3 : DefI := ⟨"_law_roll", ⟨("_law_roll", none), "_law_roll", "_law_roll", defArgs (top 26), defBody (top 26), defScope (top 26), [], []⟩, [("cup" : Str), ("many" : Str), ("deep" : Str), ("found" : Str)], [("cup" : Str), ("many" : Str)], ⟨2, 4, b3, false⟩⟩
/-- _law_changes -/
def b4 : List Sx := [.asgs [3, 4] [(.lst []), (.newL [])], .forS (.nm 2) (.rng1 (.blt .len [(.ix (.var 1) (.con (.int 3)))])) [.asg (.nm 3) (.bin .add (.var 3) (.comp (.tup [(.var 2), (.ix (.var 9) (.con (.int 0)))]) [9] (.nm 9) (.seq (.ix (.var 1) (.con (.int 0)))) [(.and (.cmp .notin (.ix (.var 9) (.con (.int 0))) (.ix (.ix (.ix (.var 1) (.con (.int 3))) (.var 2)) (.con (.int 1)))) (.cmp .eq (.call 3 [(.var 0), (.con (.int 4))]) (.con (.int 0))))]))], .forS (.tup [(.nm 5), (.nm 6)]) (.enum (.ix (.var 1) (.con (.int 2)))) [.ifS (.and (.cmp .isnot (.ix (.var 6) (.con (.int 1))) (.con .non)) (.and (.cmp .ne (.ix (.var 6) (.con (.int 2))) (.con (.str "fault"))) (.cmp .eq (.call 3 [(.var 0), (.con (.int 2))]) (.con (.int 0))))) [.asg (.nm 7) (.call 9 [(.var 0), (.call 12 [(.var 1), (.var 3), (.ix (.var 6) (.con (.int 1)))])]), .asg (.nm 8) (.comp (.tup [(.ix (.var 9) (.con (.int 0))), (.call 3 [(.var 0), (.bin .add (.ix (.var 9) (.con (.int 1))) (.con (.int 1)))])]) [9] (.nm 9) (.seq (.ix (.var 1) (.con (.int 0)))) [(.cmp .isin (.ix (.var 9) (.con (.int 0))) (.var 7))]), .ex (.meth .append (.var 4) [(.tup [(.var 5), (.blt .tuple [(.var 8)])])])] []], .ret (.tup [(.blt .tuple [(.var 4)]), (.blt .tuple [(.blt .sorted [(.var 3)])])])]
def e4 : DefI := ⟨"_law_changes", ⟨("_law_changes", none), "_law_changes", "_law_changes", defArgs (top 35), defBody (top 35), defScope (top 35), [], []⟩, [("cup" : Str), ("system" : Str), ("part" : Str), ("grants" : Str), ("bans" : Str), ("at" : Str), ("step" : Str), ("seen" : Str), ("pairs" : Str), ("datum" : Str)], [("cup" : Str), ("system" : Str)], ⟨2, 10, b4, false⟩⟩
/-- _law_some -/
def b5 : List Sx := [.ret (.ix (.var 1) (.call 3 [(.var 0), (.blt .len [(.var 1)])]))]
def e5 : DefI := ⟨"_law_some", ⟨("_law_some", none), "_law_some", "_law_some", defArgs (top 27), defBody (top 27), defScope (top 27), [], []⟩, [("cup" : Str), ("things" : Str)], [("cup" : Str), ("things" : Str)], ⟨2, 2, b5, false⟩⟩
/-- moves_at -/
def b6 : List Sx := [.asg (.nm 3) (.comp (.var 5) [5] (.nm 5) (.rng1 (.blt .len [(.ix (.var 0) (.con (.int 2)))])) [(.call 13 [(.var 0), (.var 1), (.var 2), (.var 5)])]), .asg (.nm 4) (.blt .tuple [(.comp (.tup [(.var 5), (.call 14 [(.var 0), (.var 2), (.var 5)])]) [5] (.nm 5) (.seq (.var 3)) [])]), .ifS (.call 15 [(.var 0), (.var 2)]) [.asg (.nm 4) (.bin .add (.var 4) (.tup [(.tup [(.glo "TICK" (.str "tick")), (.tup [(.call 16 [(.var 0), (.var 2)]), (.ix (.var 2) (.con (.int 1)))])])]))] [], .ret (.ite (.cmp .ne (.var 4) (.tup [])) (.var 4) (.tup [(.tup [(.glo "REST" (.str "rest")), (.var 2)])]))]
def e6 : DefI := ⟨"moves_at", ⟨("moves_at", none), "moves_at", "moves_at", defArgs (top 23), defBody (top 23), defScope (top 23), [], []⟩, [("system" : Str), ("changes" : Str), ("state" : Str), ("steps" : Str), ("found" : Str), ("at" : Str)], [("system" : Str), ("changes" : Str), ("state" : Str)], ⟨3, 6, b6, false⟩⟩
/-- _law_moves -/
def b7 : List Sx := [.asg (.nm 3) (.comp (.tup [(.var 6), (.call 17 [(.var 0), (.var 1), (.var 2), (.var 6)])]) [6] (.nm 6) (.rng1 (.blt .len [(.ix (.var 0) (.con (.int 2)))])) []), .asg (.nm 3) (.newC (.var 8) [8] (.nm 8) (.seq (.var 3)) [(.cmp .isnot (.ix (.var 8) (.con (.int 1))) (.con .non))]), .asg (.nm 4) (.tup []), .forS (.tup [(.nm 6), (.nm 7)]) (.enum (.ix (.var 0) (.con (.int 0)))) [.asg (.nm 4) (.bin .add (.var 4) (.tup [(.ite (.ix (.var 7) (.con (.int 3))) (.blt .min [(.ix (.var 7) (.con (.int 1))), (.bin .add (.ix (.ix (.var 2) (.con (.int 0))) (.var 6)) (.con (.int 1)))]) (.ix (.ix (.var 2) (.con (.int 0))) (.var 6)))]))], .asg (.nm 5) (.comp (.var 6) [6] (.nm 6) (.rng1 (.blt .len [(.ix (.var 0) (.con (.int 2)))])) [(.and (.cmp .eq (.ix (.ix (.ix (.var 0) (.con (.int 2))) (.var 6)) (.con (.int 2))) (.con (.str "urgent"))) (.cmp .isnot (.call 17 [(.var 0), (.tup []), (.var 2), (.var 6)]) (.con .non)))]), .ifS (.and (.cmp .ne (.var 4) (.ix (.var 2) (.con (.int 0)))) (.cmp .eq (.var 5) (.lst []))) [.ex (.meth .append (.var 3) [(.tup [(.con (.str "tick")), (.tup [(.var 4), (.ix (.var 2) (.con (.int 1)))])])])] [], .ret (.ite (.cmp .ne (.var 3) (.lst [])) (.var 3) (.lst [(.tup [(.con (.str "rest")), (.var 2)])]))]
def e7 : DefI := ⟨"_law_moves", ⟨("_law_moves", none), "_law_moves", "_law_moves", defArgs (top 38), defBody (top 38), defScope (top 38), [], []⟩, [("system" : Str), ("bans" : Str), ("state" : Str), ("found" : Str), ("ticked" : Str), ("urgent" : Str), ("at" : Str), ("datum" : Str), ("pair" : Str)], [("system" : Str), ("bans" : Str), ("state" : Str)], ⟨3, 9, b7, false⟩⟩
/-- _law_eight_right -/
def b8 : List Sx := [.asgs [4, 5, 6] [(.call 3 [(.var 0), (.con (.int 9))]), (.newL []), (.tup [(.con (.str "of")), (.con (.str "a"))])], .forS (.nm 1) (.rng1 (.con (.int 8))) [.asg (.nm 7) (.call 5 [(.var 0), (.lst [(.tup [(.con (.str "true"))]), (.tup [(.con (.str "same")), (.var 6), (.tup [(.con (.str "is")), (.call 3 [(.var 0), (.con (.int 4))])])]), (.tup [(.con (.str "unlike")), (.var 6), (.tup [(.con (.str "is")), (.call 3 [(.var 0), (.con (.int 4))])])])])]), .asg (.nm 8) (.call 5 [(.var 0), (.lst [(.con (.str "plain")), (.con (.str "just")), (.con (.str "strong")), (.con (.str "urgent"))])]), .ex (.meth .append (.var 5) [(.tup [(.bin .add (.con (.str "s")) (.ix (.con (.str "abcdefgh")) (.var 1))), (.ite (.cmp .lt (.var 1) (.var 4)) (.con .non) (.con (.int 0))), (.var 8), (.var 7), (.tup [(.tup [(.con (.str "a")), (.tup [(.con (.str "is")), (.call 3 [(.var 0), (.con (.int 4))])])])])])])], .asg (.nm 2) (.tup [(.tup [(.tup [(.con (.str "a")), (.con (.int 3)), (.con (.int 0)), (.con (.bl false))])]), (.con (.int 0)), (.blt .tuple [(.var 5)]), (.tup [(.tup [(.con (.str "p")), (.tup [(.con (.str "a"))])])])]), .forS (.nm 3) (.rng1 (.con (.int 4))) [.asg (.nm 9) (.newL []), .forS (.nm 1) (.rng1 (.con (.int 8))) [.asg (.nm 7) (.ix (.ix (.var 5) (.var 1)) (.con (.int 3))), .ifS (.or (.cmp .eq (.var 7) (.tup [(.con (.str "true"))])) (.cmp .eq (.cmp .eq (.ix (.var 7) (.con (.int 0))) (.con (.str "same"))) (.cmp .eq (.ix (.var 7) (.con (.int 2))) (.tup [(.con (.str "is")), (.var 3)])))) [.ex (.meth .append (.var 9) [(.tup [(.var 1), (.tup [(.tup [(.ix (.ix (.ix (.ix (.ix (.var 5) (.var 1)) (.con (.int 4))) (.con (.int 0))) (.con (.int 1))) (.con (.int 1)))]), (.con (.int 0))])])])] []], .asg (.nm 9) (.ite (.cmp .ne (.var 9) (.lst [])) (.blt .tuple [(.var 9)]) (.tup [(.tup [(.con (.str "rest")), (.tup [(.tup [(.var 3)]), (.con (.int 0))])])])), .ifS (.not (.call 18 [(.call 6 [(.var 2), (.tup [(.tup []), (.tup [])]), (.tup [(.tup [(.var 3)]), (.con (.int 0))])]), (.var 9)])) [.ret (.con (.bl false))] []], .ret (.con (.bl true))]
def e8 : DefI := ⟨"_law_eight_right", ⟨("_law_eight_right", none), "_law_eight_right", "_law_eight_right", defArgs (top 41), defBody (top 41), defScope (top 41), [], []⟩, [("cup" : Str), ("at" : Str), ("system" : Str), ("now" : Str), ("nature" : Str), ("steps" : Str), ("of" : Str), ("test" : Str), ("kind" : Str), ("due" : Str)], [("cup" : Str)], ⟨1, 10, b8, false⟩⟩
/-- _law_names -/
def b9 : List Sx := [.ret (.blt .tuple [(.comp (.var 2) [2] (.nm 2) (.seq (.var 1)) [(.cmp .eq (.call 3 [(.var 0), (.con (.int 2))]) (.con (.int 0)))])])]
def e9 : DefI := ⟨"_law_names", ⟨("_law_names", none), "_law_names", "_law_names", defArgs (top 32), defBody (top 32), defScope (top 32), [], []⟩, [("cup" : Str), ("names" : Str), ("name" : Str)], [("cup" : Str), ("names" : Str)], ⟨2, 3, b9, false⟩⟩
/-- _law_expression -/
def b10 : List Sx := [.ifS (.or (.cmp .eq (.var 2) (.con (.int 0))) (.or (.cmp .eq (.var 1) (.lst [])) (.cmp .gt (.call 3 [(.var 0), (.con (.int 3))]) (.con (.int 0))))) [.ret (.ite (.and (.cmp .ne (.var 1) (.lst [])) (.cmp .eq (.call 3 [(.var 0), (.con (.int 2))]) (.con (.int 0)))) (.tup [(.con (.str "of")), (.call 5 [(.var 0), (.var 1)])]) (.tup [(.con (.str "is")), (.call 3 [(.var 0), (.con (.int 4))])]))] [], .ret (.tup [(.call 5 [(.var 0), (.lst [(.con (.str "plus")), (.con (.str "plus")), (.con (.str "minus")), (.con (.str "times")), (.con (.str "rest"))])]), (.call 10 [(.var 0), (.var 1), (.bin .sub (.var 2) (.con (.int 1)))]), (.call 10 [(.var 0), (.var 1), (.bin .sub (.var 2) (.con (.int 1)))])])]
def e10 : DefI := ⟨"_law_expression", ⟨("_law_expression", none), "_law_expression", "_law_expression", defArgs (top 30), defBody (top 30), defScope (top 30), [], []⟩, [("cup" : Str), ("names" : Str), ("deep" : Str)], [("cup" : Str), ("names" : Str), ("deep" : Str)], ⟨3, 3, b10, false⟩⟩
/-- _law_test -/
def b11 : List Sx := [.asg (.nm 3) (.call 3 [(.var 0), (.con (.int 9))]), .ifS (.cmp .lt (.var 3) (.con (.int 4))) [.ret (.call 5 [(.var 0), (.lst [(.tup [(.con (.str "true"))]), (.tup [(.con (.str "true"))]), (.tup [(.con (.str "true"))]), (.tup [(.con (.str "false"))])])])] [], .ifS (.or (.cmp .lt (.var 3) (.con (.int 6))) (.cmp .eq (.var 2) (.con (.int 0)))) [.ret (.tup [(.call 5 [(.var 0), (.lst [(.con (.str "same")), (.con (.str "unlike")), (.con (.str "less")), (.con (.str "most"))])]), (.call 10 [(.var 0), (.var 1), (.con (.int 1))]), (.call 10 [(.var 0), (.var 1), (.con (.int 1))])])] [], .ifS (.cmp .eq (.var 3) (.con (.int 6))) [.ret (.tup [(.con (.str "not")), (.call 11 [(.var 0), (.var 1), (.bin .sub (.var 2) (.con (.int 1)))])])] [], .ret (.tup [(.call 5 [(.var 0), (.lst [(.con (.str "and")), (.con (.str "or"))])]), (.call 11 [(.var 0), (.var 1), (.bin .sub (.var 2) (.con (.int 1)))]), (.call 11 [(.var 0), (.var 1), (.bin .sub (.var 2) (.con (.int 1)))])])]
def e11 : DefI := ⟨"_law_test", ⟨("_law_test", none), "_law_test", "_law_test", defArgs (top 31), defBody (top 31), defScope (top 31), [], []⟩, [("cup" : Str), ("names" : Str), ("deep" : Str), ("way" : Str)], [("cup" : Str), ("names" : Str), ("deep" : Str)], ⟨3, 4, b11, false⟩⟩
/-- _law_seen -/
def b12 : List Sx := [.ret (.blt .sorted [(.bin .bor (.blt .set [(.ix (.ix (.ix (.var 0) (.con (.int 3))) (.var 2)) (.con (.int 1)))]) (.blt .set [(.comp (.var 4) [3, 4] (.tup [(.nm 3), (.nm 4)]) (.seq (.var 1)) [(.cmp .eq (.var 3) (.var 2))])]))])]
def e12 : DefI := ⟨"_law_seen", ⟨("_law_seen", none), "_law_seen", "_law_seen", defArgs (top 34), defBody (top 34), defScope (top 34), [], []⟩, [("system" : Str), ("grants" : Str), ("part" : Str), ("at" : Str), ("name" : Str)], [("system" : Str), ("grants" : Str), ("part" : Str)], ⟨3, 5, b12, false⟩⟩
/-- is_possible -/
def b13 : List Sx := [.asg (.tup [(.nm 4), (.nm 5), (.nm 6), (.nm 7), (.nm 8)]) (.ix (.ix (.var 0) (.con (.int 2))) (.var 3)), .ifS (.or (.and (.cmp .eq (.var 6) (.glo "FAULT" (.str "fault"))) (.cmp .eq (.ix (.var 2) (.con (.int 1))) (.con (.int 0)))) (.not (.call 19 [(.var 7), (.call 20 [(.var 0), (.var 2)])]))) [.ret (.con (.bl false))] [], .ret (.and (.cmp .isnot (.call 22 [(.var 0), (.var 2), (.var 3)]) (.con .non)) (.not (.call 21 [(.var 0), (.var 1), (.var 2), (.var 3)])))]
def e13 : DefI := ⟨"is_possible", ⟨("is_possible", none), "is_possible", "is_possible", defArgs (top 19), defBody (top 19), defScope (top 19), [], []⟩, [("system" : Str), ("changes" : Str), ("state" : Str), ("step" : Str), ("name" : Str), ("owner" : Str), ("kind" : Str), ("test" : Str), ("sets" : Str)], [("system" : Str), ("changes" : Str), ("state" : Str), ("step" : Str)], ⟨4, 9, b13, false⟩⟩
/-- after_step -/
def b14 : List Sx := [.asg (.nm 3) (.call 22 [(.var 0), (.var 1), (.var 2)]), .asg (.nm 4) (.blt .tuple [(.comp (.meth .get2 (.var 3) [(.var 5), (.var 6)]) [5, 6] (.tup [(.nm 5), (.nm 6)]) (.seq (.call 20 [(.var 0), (.var 1)])) [])]), .ret (.tup [(.var 4), (.bin .sub (.ix (.var 1) (.con (.int 1))) (.blt .int [(.cmp .eq (.ix (.ix (.ix (.var 0) (.con (.int 2))) (.var 2)) (.con (.int 2))) (.glo "FAULT" (.str "fault")))]))])]
def e14 : DefI := ⟨"after_step", ⟨("after_step", none), "after_step", "after_step", defArgs (top 20), defBody (top 20), defScope (top 20), [], []⟩, [("system" : Str), ("state" : Str), ("step" : Str), ("found" : Str), ("values" : Str), ("name" : Str), ("value" : Str)], [("system" : Str), ("state" : Str), ("step" : Str)], ⟨3, 7, b14, false⟩⟩
/-- can_tick -/
def b15 : List Sx := [.ifS (.cmp .eq (.call 16 [(.var 0), (.var 1)]) (.ix (.var 1) (.con (.int 0)))) [.ret (.con (.bl false))] [], .asg (.nm 2) (.comp (.var 3) [3, 4] (.tup [(.nm 3), (.nm 4)]) (.enum (.ix (.var 0) (.con (.int 2)))) [(.cmp .eq (.ix (.var 4) (.con (.int 2))) (.glo "URGENT" (.str "urgent")))]), .ret (.not (.blt .any [(.comp (.call 13 [(.var 0), (.call 23 []), (.var 1), (.var 3)]) [3] (.nm 3) (.seq (.var 2)) [])]))]
def e15 : DefI := ⟨"can_tick", ⟨("can_tick", none), "can_tick", "can_tick", defArgs (top 22), defBody (top 22), defScope (top 22), [], []⟩, [("system" : Str), ("state" : Str), ("urgent" : Str), ("at" : Str), ("step" : Str)], [("system" : Str), ("state" : Str)], ⟨2, 5, b15, false⟩⟩
/-- later_clocks -/
def b16 : List Sx := [.asg (.nm 2) (.tup []), .forS (.tup [(.tup [(.nm 4), (.nm 5), (.nm 6), (.nm 7)]), (.nm 3)]) (.zip (.ix (.var 0) (.con (.int 0))) (.ix (.var 1) (.con (.int 0)))) [.asg (.nm 2) (.bin .add (.var 2) (.tup [(.bin .add (.var 3) (.blt .int [(.and (.var 7) (.cmp .lt (.var 3) (.var 5)))]))]))], .ret (.var 2)]
def e16 : DefI := ⟨"later_clocks", ⟨("later_clocks", none), "later_clocks", "later_clocks", defArgs (top 21), defBody (top 21), defScope (top 21), [], []⟩, [("system" : Str), ("state" : Str), ("found" : Str), ("value" : Str), ("name" : Str), ("greatest" : Str), ("first" : Str), ("is_clock" : Str)], [("system" : Str), ("state" : Str)], ⟨2, 8, b16, false⟩⟩
/-- _law_behind -/
def b17 : List Sx := [.asg (.tup [(.nm 7), (.nm 8), (.nm 9), (.nm 10), (.nm 11)]) (.ix (.ix (.var 0) (.con (.int 2))) (.var 3)), .asg (.nm 4) (.call 24 [(.var 0), (.var 2)]), .frz 4, .ifS (.or (.not (.call 25 [(.var 10), (.var 4)])) (.and (.cmp .eq (.var 9) (.con (.str "fault"))) (.cmp .eq (.ix (.var 2) (.con (.int 1))) (.con (.int 0))))) [.ret (.con .non)] [], .forS (.tup [(.nm 12), (.nm 13)]) (.seq (.var 1)) [.ifS (.and (.cmp .eq (.var 12) (.var 3)) (.cmp .eq (.comp (.var 17) [17] (.nm 17) (.seq (.var 13)) [(.cmp .ne (.ix (.var 4) (.ix (.var 17) (.con (.int 0)))) (.ix (.var 17) (.con (.int 1))))]) (.lst []))) [.ret (.con .non)] []], .asg (.nm 5) (.call 24 [(.var 0), (.var 2)]), .forS (.tup [(.nm 14), (.nm 15)]) (.seq (.var 11)) [.sub (.var 5) (.var 14) (.call 26 [(.var 15), (.var 4)])], .asg (.nm 6) (.blt .tuple [(.comp (.ix (.var 5) (.ix (.var 16) (.con (.int 0)))) [16] (.nm 16) (.seq (.ix (.var 0) (.con (.int 0)))) [])]), .ifS (.cmp .ne (.comp (.var 3) [3] (.nm 3) (.rng1 (.blt .len [(.var 6)])) [(.not (.chn .le .le (.con (.int 0)) (.ix (.var 6) (.var 3)) (.ix (.ix (.ix (.var 0) (.con (.int 0))) (.var 3)) (.con (.int 1)))))]) (.lst [])) [.ret (.con .non)] [], .ret (.tup [(.var 6), (.bin .sub (.ix (.var 2) (.con (.int 1))) (.ite (.cmp .eq (.var 9) (.con (.str "fault"))) (.con (.int 1)) (.con (.int 0))))])]
def e17 : DefI := ⟨"_law_behind", ⟨("_law_behind", none), "_law_behind", "_law_behind", defArgs (top 37), defBody (top 37), defScope (top 37), [], []⟩, [("system" : Str), ("bans" : Str), ("state" : Str), ("at" : Str), ("names" : Str), ("later" : Str), ("values" : Str), ("name" : Str), ("owner" : Str), ("kind" : Str), ("test" : Str), ("sets" : Str), ("step" : Str), ("pairs" : Str), ("word" : Str), ("expression" : Str), ("datum" : Str), ("pair" : Str)], [("system" : Str), ("bans" : Str), ("state" : Str), ("at" : Str)], ⟨4, 18, b17, false⟩⟩
/-- _law_same -/
def b18 : List Sx := [.asg (.nm 2) (.call 27 [(.var 1)]), .ifS (.or (.cmp .ne (.call 27 [(.var 0)]) (.var 2)) (.cmp .eq (.var 2) (.con (.int 6)))) [.ret (.con (.bl false))] [], .ifS (.cmp .isin (.var 2) (.tup [(.con (.int 4)), (.con (.int 5))])) [.ret (.and (.cmp .eq (.blt .len [(.var 0)]) (.blt .len [(.var 1)])) (.cmp .eq (.comp (.con (.int 1)) [3, 4] (.tup [(.nm 3), (.nm 4)]) (.zip (.var 0) (.var 1)) [(.not (.call 18 [(.var 3), (.var 4)]))]) (.lst [])))] [], .ret (.cmp .eq (.var 0) (.var 1))]
def e18 : DefI := ⟨"_law_same", ⟨("_law_same", none), "_law_same", "_law_same", defArgs (top 40), defBody (top 40), defScope (top 40), [], []⟩, [("one" : Str), ("other" : Str), ("mark" : Str), ("first" : Str), ("second" : Str)], [("one" : Str), ("other" : Str)], ⟨2, 5, b18, false⟩⟩
/-- is_so -/
def b19 : List Sx := [.asg (.nm 2) (.ix (.var 0) (.con (.int 0))), .ifS (.cmp .isin (.var 2) (.glo "PLAIN" (.tup [(.str "true"), (.str "false")]))) [.ret (.cmp .eq (.var 2) (.con (.str "true")))] [], .ifS (.cmp .eq (.var 2) (.con (.str "not"))) [.ret (.not (.call 19 [(.ix (.var 0) (.con (.int 1))), (.var 1)]))] [], .ifS (.cmp .eq (.var 2) (.con (.str "and"))) [.ret (.and (.call 19 [(.ix (.var 0) (.con (.int 1))), (.var 1)]) (.call 19 [(.ix (.var 0) (.con (.int 2))), (.var 1)]))] [], .ifS (.cmp .eq (.var 2) (.con (.str "or"))) [.ret (.or (.call 19 [(.ix (.var 0) (.con (.int 1))), (.var 1)]) (.call 19 [(.ix (.var 0) (.con (.int 2))), (.var 1)]))] [], .asg (.tup [(.nm 3), (.nm 4)]) (.tup [(.call 28 [(.ix (.var 0) (.con (.int 1))), (.var 1)]), (.call 28 [(.ix (.var 0) (.con (.int 2))), (.var 1)])]), .ifS (.cmp .eq (.var 2) (.con (.str "same"))) [.ret (.cmp .eq (.var 3) (.var 4))] [], .ifS (.cmp .eq (.var 2) (.con (.str "unlike"))) [.ret (.cmp .ne (.var 3) (.var 4))] [], .ret (.ite (.cmp .eq (.var 2) (.con (.str "less"))) (.cmp .lt (.var 3) (.var 4)) (.cmp .le (.var 3) (.var 4)))]
def e19 : DefI := ⟨"is_so", ⟨("is_so", none), "is_so", "is_so", defArgs (top 6), defBody (top 6), defScope (top 6), [], []⟩, [("test" : Str), ("data" : Str), ("word" : Str), ("one" : Str), ("other" : Str)], [("test" : Str), ("data" : Str)], ⟨2, 5, b19, false⟩⟩
/-- pairs_of -/
def b20 : List Sx := [.ret (.zipV true (.call 29 [(.var 0)]) (.ix (.var 1) (.con (.int 0))))]
def e20 : DefI := ⟨"pairs_of", ⟨("pairs_of", none), "pairs_of", "pairs_of", defArgs (top 11), defBody (top 11), defScope (top 11), [], []⟩, [("system" : Str), ("state" : Str)], [("system" : Str), ("state" : Str)], ⟨2, 2, b20, false⟩⟩
/-- is_banned -/
def b21 : List Sx := [.asg (.nm 4) (.call 20 [(.var 0), (.var 2)]), .ret (.blt .any [(.comp (.and (.cmp .eq (.var 5) (.var 3)) (.blt .all [(.comp (.cmp .isin (.var 7) (.var 4)) [7] (.nm 7) (.seq (.var 6)) [])])) [5, 6] (.tup [(.nm 5), (.nm 6)]) (.seq (.ix (.var 1) (.con (.int 0)))) [])])]
def e21 : DefI := ⟨"is_banned", ⟨("is_banned", none), "is_banned", "is_banned", defArgs (top 18), defBody (top 18), defScope (top 18), [], []⟩, [("system" : Str), ("changes" : Str), ("state" : Str), ("step" : Str), ("pairs" : Str), ("at" : Str), ("seen" : Str), ("pair" : Str)], [("system" : Str), ("changes" : Str), ("state" : Str), ("step" : Str)], ⟨4, 8, b21, false⟩⟩
/-- set_values -/
def b22 : List Sx := [.asgs [3, 4] [(.call 20 [(.var 0), (.var 1)]), (.newD false [])], .forS (.tup [(.nm 5), (.nm 6)]) (.seq (.ix (.ix (.ix (.var 0) (.con (.int 2))) (.var 2)) (.con (.int 4)))) [.asg (.nm 7) (.call 28 [(.var 6), (.var 3)]), .ifS (.not (.chn .le .le (.con (.int 0)) (.var 7) (.ix (.comp (.ix (.var 8) (.con (.int 1))) [8] (.nm 8) (.seq (.ix (.var 0) (.con (.int 0)))) [(.cmp .eq (.ix (.var 8) (.con (.int 0))) (.var 5))]) (.con (.int 0))))) [.ret (.con .non)] [], .sub (.var 4) (.var 5) (.var 7)], .ret (.var 4)]
def e22 : DefI := ⟨"set_values", ⟨("set_values", none), "set_values", "set_values", defArgs (top 17), defBody (top 17), defScope (top 17), [], []⟩, [("system" : Str), ("state" : Str), ("step" : Str), ("pairs" : Str), ("found" : Str), ("name" : Str), ("expression" : Str), ("number" : Str), ("datum" : Str)], [("system" : Str), ("state" : Str), ("step" : Str)], ⟨3, 9, b22, false⟩⟩
/-- no_changes -/
def b23 : List Sx := [.ret (.tup [(.tup []), (.tup [])])]
def e23 : DefI := ⟨"no_changes", ⟨("no_changes", none), "no_changes", "no_changes", defArgs (top 9), defBody (top 9), defScope (top 9), [], []⟩, [], [], ⟨0, 0, b23, false⟩⟩
/-- _law_dict -/
def b24 : List Sx := [.ret (.newDL (.zipV false (.comp (.ix (.var 2) (.con (.int 0))) [2] (.nm 2) (.seq (.ix (.var 0) (.con (.int 0)))) []) (.ix (.var 1) (.con (.int 0)))))]
def e24 : DefI := ⟨"_law_dict", ⟨("_law_dict", none), "_law_dict", "_law_dict", defArgs (top 36), defBody (top 36), defScope (top 36), [], []⟩, [("system" : Str), ("state" : Str), ("datum" : Str)], [("system" : Str), ("state" : Str)], ⟨2, 3, b24, true⟩⟩
/-- _law_so -/
def b25 : List Sx := [.asg (.nm 2) (.ix (.var 0) (.con (.int 0))), .ifS (.cmp .isin (.var 2) (.tup [(.con (.str "true")), (.con (.str "false"))])) [.ret (.cmp .eq (.var 2) (.con (.str "true")))] [], .ifS (.cmp .eq (.var 2) (.con (.str "not"))) [.ret (.not (.call 25 [(.ix (.var 0) (.con (.int 1))), (.var 1)]))] [], .ifS (.cmp .isin (.var 2) (.tup [(.con (.str "and")), (.con (.str "or"))])) [.asg (.tup [(.nm 3), (.nm 4)]) (.tup [(.call 25 [(.ix (.var 0) (.con (.int 1))), (.var 1)]), (.call 25 [(.ix (.var 0) (.con (.int 2))), (.var 1)])]), .ret (.ite (.cmp .eq (.var 2) (.con (.str "and"))) (.and (.var 3) (.var 4)) (.or (.var 3) (.var 4)))] [], .asg (.tup [(.nm 3), (.nm 4)]) (.tup [(.call 26 [(.ix (.var 0) (.con (.int 1))), (.var 1)]), (.call 26 [(.ix (.var 0) (.con (.int 2))), (.var 1)])]), .ret (.ix (.lst [(.cmp .eq (.var 3) (.var 4)), (.cmp .ne (.var 3) (.var 4)), (.cmp .lt (.var 3) (.var 4)), (.cmp .le (.var 3) (.var 4))]) (.meth .index (.lst [(.con (.str "same")), (.con (.str "unlike")), (.con (.str "less")), (.con (.str "most"))]) [(.var 2)]))]
def e25 : DefI := ⟨"_law_so", ⟨("_law_so", none), "_law_so", "_law_so", defArgs (top 29), defBody (top 29), defScope (top 29), [], []⟩, [("test" : Str), ("names" : Str), ("word" : Str), ("one" : Str), ("other" : Str)], [("test" : Str), ("names" : Str)], ⟨2, 5, b25, false⟩⟩
/-- _law_worth -/
def b26 : List Sx := [.ifS (.cmp .isin (.ix (.var 0) (.con (.int 0))) (.tup [(.con (.str "is")), (.con (.str "of"))])) [.ret (.ite (.cmp .eq (.ix (.var 0) (.con (.int 0))) (.con (.str "is"))) (.ix (.var 0) (.con (.int 1))) (.ix (.var 1) (.ix (.var 0) (.con (.int 1)))))] [], .asg (.tup [(.nm 2), (.nm 3)]) (.tup [(.call 26 [(.ix (.var 0) (.con (.int 1))), (.var 1)]), (.call 26 [(.ix (.var 0) (.con (.int 2))), (.var 1)])]), .ifS (.cmp .eq (.ix (.var 0) (.con (.int 0))) (.con (.str "plus"))) [.ret (.bin .add (.var 2) (.var 3))] [], .ifS (.cmp .isin (.ix (.var 0) (.con (.int 0))) (.tup [(.con (.str "minus")), (.con (.str "times"))])) [.ret (.ite (.cmp .eq (.ix (.var 0) (.con (.int 0))) (.con (.str "minus"))) (.bin .sub (.var 2) (.var 3)) (.bin .mul (.var 2) (.var 3)))] [], .ret (.ite (.cmp .eq (.var 3) (.con (.int 0))) (.var 2) (.bin .sub (.var 2) (.bin .mul (.bin .fdiv (.var 2) (.blt .abs [(.var 3)])) (.blt .abs [(.var 3)]))))]
def e26 : DefI := ⟨"_law_worth", ⟨("_law_worth", none), "_law_worth", "_law_worth", defArgs (top 28), defBody (top 28), defScope (top 28), [], []⟩, [("expression" : Str), ("names" : Str), ("one" : Str), ("other" : Str)], [("expression" : Str), ("names" : Str)], ⟨2, 4, b26, false⟩⟩
/-- _law_mark -/
def b27 : List Sx := [.ifS (.or (.cmp .is_ (.var 0) (.con .non)) (.isi (.var 0) .bool)) [.ret (.ite (.cmp .is_ (.var 0) (.con .non)) (.con (.int 0)) (.con (.int 1)))] [], .ifS (.or (.isi (.var 0) .int) (.isi (.var 0) .str)) [.ret (.ite (.isi (.var 0) .int) (.con (.int 2)) (.con (.int 3)))] [], .ret (.ite (.isi (.var 0) .tuple) (.con (.int 4)) (.ite (.isi (.var 0) .list) (.con (.int 5)) (.con (.int 6))))]
def e27 : DefI := ⟨"_law_mark", ⟨("_law_mark", none), "_law_mark", "_law_mark", defArgs (top 39), defBody (top 39), defScope (top 39), [], []⟩, [("value" : Str)], [("value" : Str)], ⟨1, 1, b27, false⟩⟩
/-- worth -/
def b28 : List Sx := [.ifS (.cmp .eq (.ix (.var 0) (.con (.int 0))) (.con (.str "is"))) [.ret (.ix (.var 0) (.con (.int 1)))] [], .ifS (.cmp .eq (.ix (.var 0) (.con (.int 0))) (.con (.str "of"))) [.ret (.ix (.comp (.var 3) [2, 3] (.tup [(.nm 2), (.nm 3)]) (.seq (.var 1)) [(.cmp .eq (.var 2) (.ix (.var 0) (.con (.int 1))))]) (.con (.int 0)))] [], .ret (.call 30 [(.ix (.var 0) (.con (.int 0))), (.call 28 [(.ix (.var 0) (.con (.int 1))), (.var 1)]), (.call 28 [(.ix (.var 0) (.con (.int 2))), (.var 1)])])]
def e28 : DefI := ⟨"worth", ⟨("worth", none), "worth", "worth", defArgs (top 3), defBody (top 3), defScope (top 3), [], []⟩, [("expression" : Str), ("data" : Str), ("name" : Str), ("number" : Str)], [("expression" : Str), ("data" : Str)], ⟨2, 4, b28, false⟩⟩
/-- names_in -/
def b29 : List Sx := [.ret (.blt .tuple [(.comp (.ix (.var 1) (.con (.int 0))) [1] (.nm 1) (.seq (.ix (.var 0) (.glo "DATA" (.int 0)))) [])])]
def e29 : DefI := ⟨"names_in", ⟨("names_in", none), "names_in", "names_in", defArgs (top 10), defBody (top 10), defScope (top 10), [], []⟩, [("system" : Str), ("datum" : Str)], [("system" : Str)], ⟨1, 2, b29, false⟩⟩
/-- joined -/
def b30 : List Sx := [.ifS (.cmp .eq (.var 0) (.con (.str "plus"))) [.ret (.bin .add (.var 1) (.var 2))] [], .ifS (.cmp .eq (.var 0) (.con (.str "minus"))) [.ret (.bin .sub (.var 1) (.var 2))] [], .ret (.ite (.cmp .eq (.var 0) (.con (.str "times"))) (.bin .mul (.var 1) (.var 2)) (.call 31 [(.var 1), (.var 2)]))]
def e30 : DefI := ⟨"joined", ⟨("joined", none), "joined", "joined", defArgs (top 2), defBody (top 2), defScope (top 2), [], []⟩, [("sign" : Str), ("one" : Str), ("other" : Str)], [("sign" : Str), ("one" : Str), ("other" : Str)], ⟨3, 3, b30, false⟩⟩
/-- rest_by -/
def b31 : List Sx := [.ret (.ite (.cmp .eq (.var 1) (.con (.int 0))) (.var 0) (.bin .mod (.var 0) (.blt .abs [(.var 1)])))]
def e31 : DefI := ⟨"rest_by", ⟨("rest_by", none), "rest_by", "rest_by", defArgs (top 1), defBody (top 1), defScope (top 1), [], []⟩, [("one" : Str), ("other" : Str)], [("one" : Str), ("other" : Str)], ⟨2, 2, b31, false⟩⟩
def lw : Lw := ⟨[e0, e1, e2, e3, e4, e5, e6, e7, e8, e9, e10, e11, e12, e13, e14, e15, e16, e17, e18, e19, e20, e21, e22, e23, e24, e25, e26, e27, e28, e29, e30, e31], [(("TICK" : Str), ((.str "tick") : PV)), (("REST" : Str), ((.str "rest") : PV)), (("FAULT" : Str), ((.str "fault") : PV)), (("URGENT" : Str), ((.str "urgent") : PV)), (("PLAIN" : Str), ((.tup [(.str "true"), (.str "false")]) : PV)), (("DATA" : Str), ((.int 0) : PV))], [("range" : Str), ("tuple" : Str), ("abs" : Str), ("list" : Str), ("int" : Str), ("sorted" : Str), ("len" : Str), ("enumerate" : Str), ("min" : Str), ("set" : Str), ("any" : Str), ("zip" : Str), ("all" : Str), ("dict" : Str), ("isinstance" : Str), ("bool" : Str), ("str" : Str)]⟩
theorem ok0 : e0.ok lw.T = true := by decide +kernel
theorem bd0 : e0.Bnd := fun _ _ _ _ _ _ us hl => match us, hl with | [_], _ => rfl
theorem ok1 : e1.ok lw.T = true := by decide +kernel
theorem bd1 : e1.Bnd := fun _ _ _ _ _ _ us hl => match us, hl with | [_], _ => rfl
theorem ok2 : e2.ok lw.T = true := by decide +kernel
theorem bd2 : e2.Bnd := fun _ _ _ _ _ _ us hl => match us, hl with | [_], _ => rfl
theorem ok3 : e3.ok lw.T = true := by decide +kernel
theorem bd3 : e3.Bnd := fun _ _ _ _ _ _ us hl => match us, hl with | [_, _], _ => rfl
theorem ok4 : e4.ok lw.T = true := by decide +kernel
theorem bd4 : e4.Bnd := fun _ _ _ _ _ _ us hl => match us, hl with | [_, _], _ => rfl
theorem ok5 : e5.ok lw.T = true := by decide +kernel
theorem bd5 : e5.Bnd := fun _ _ _ _ _ _ us hl => match us, hl with | [_, _], _ => rfl
theorem ok6 : e6.ok lw.T = true := by decide +kernel
theorem bd6 : e6.Bnd := fun _ _ _ _ _ _ us hl => match us, hl with | [_, _, _], _ => rfl
theorem ok7 : e7.ok lw.T = true := by decide +kernel
theorem bd7 : e7.Bnd := fun _ _ _ _ _ _ us hl => match us, hl with | [_, _, _], _ => rfl
theorem ok8 : e8.ok lw.T = true := by decide +kernel
theorem bd8 : e8.Bnd := fun _ _ _ _ _ _ us hl => match us, hl with | [_], _ => rfl
theorem ok9 : e9.ok lw.T = true := by decide +kernel
theorem bd9 : e9.Bnd := fun _ _ _ _ _ _ us hl => match us, hl with | [_, _], _ => rfl
theorem ok10 : e10.ok lw.T = true := by decide +kernel
theorem bd10 : e10.Bnd := fun _ _ _ _ _ _ us hl => match us, hl with | [_, _, _], _ => rfl
theorem ok11 : e11.ok lw.T = true := by decide +kernel
theorem bd11 : e11.Bnd := fun _ _ _ _ _ _ us hl => match us, hl with | [_, _, _], _ => rfl
theorem ok12 : e12.ok lw.T = true := by decide +kernel
theorem bd12 : e12.Bnd := fun _ _ _ _ _ _ us hl => match us, hl with | [_, _, _], _ => rfl
theorem ok13 : e13.ok lw.T = true := by decide +kernel
theorem bd13 : e13.Bnd := fun _ _ _ _ _ _ us hl => match us, hl with | [_, _, _, _], _ => rfl
theorem ok14 : e14.ok lw.T = true := by decide +kernel
theorem bd14 : e14.Bnd := fun _ _ _ _ _ _ us hl => match us, hl with | [_, _, _], _ => rfl
theorem ok15 : e15.ok lw.T = true := by decide +kernel
theorem bd15 : e15.Bnd := fun _ _ _ _ _ _ us hl => match us, hl with | [_, _], _ => rfl
theorem ok16 : e16.ok lw.T = true := by decide +kernel
theorem bd16 : e16.Bnd := fun _ _ _ _ _ _ us hl => match us, hl with | [_, _], _ => rfl
theorem ok17 : e17.ok lw.T = true := by decide +kernel
theorem bd17 : e17.Bnd := fun _ _ _ _ _ _ us hl => match us, hl with | [_, _, _, _], _ => rfl
theorem ok18 : e18.ok lw.T = true := by decide +kernel
theorem bd18 : e18.Bnd := fun _ _ _ _ _ _ us hl => match us, hl with | [_, _], _ => rfl
theorem ok19 : e19.ok lw.T = true := by decide +kernel
theorem bd19 : e19.Bnd := fun _ _ _ _ _ _ us hl => match us, hl with | [_, _], _ => rfl
theorem ok20 : e20.ok lw.T = true := by decide +kernel
theorem bd20 : e20.Bnd := fun _ _ _ _ _ _ us hl => match us, hl with | [_, _], _ => rfl
theorem ok21 : e21.ok lw.T = true := by decide +kernel
theorem bd21 : e21.Bnd := fun _ _ _ _ _ _ us hl => match us, hl with | [_, _, _, _], _ => rfl
theorem ok22 : e22.ok lw.T = true := by decide +kernel
theorem bd22 : e22.Bnd := fun _ _ _ _ _ _ us hl => match us, hl with | [_, _, _], _ => rfl
theorem ok23 : e23.ok lw.T = true := by decide +kernel
theorem bd23 : e23.Bnd := fun _ _ _ _ _ _ us hl => match us, hl with | [], _ => rfl
theorem ok24 : e24.ok lw.T = true := by decide +kernel
theorem bd24 : e24.Bnd := fun _ _ _ _ _ _ us hl => match us, hl with | [_, _], _ => rfl
theorem ok25 : e25.ok lw.T = true := by decide +kernel
theorem bd25 : e25.Bnd := fun _ _ _ _ _ _ us hl => match us, hl with | [_, _], _ => rfl
theorem ok26 : e26.ok lw.T = true := by decide +kernel
theorem bd26 : e26.Bnd := fun _ _ _ _ _ _ us hl => match us, hl with | [_, _], _ => rfl
theorem ok27 : e27.ok lw.T = true := by decide +kernel
theorem bd27 : e27.Bnd := fun _ _ _ _ _ _ us hl => match us, hl with | [_], _ => rfl
theorem ok28 : e28.ok lw.T = true := by decide +kernel
theorem bd28 : e28.Bnd := fun _ _ _ _ _ _ us hl => match us, hl with | [_, _], _ => rfl
theorem ok29 : e29.ok lw.T = true := by decide +kernel
theorem bd29 : e29.Bnd := fun _ _ _ _ _ _ us hl => match us, hl with | [_], _ => rfl
theorem ok30 : e30.ok lw.T = true := by decide +kernel
theorem bd30 : e30.Bnd := fun _ _ _ _ _ _ us hl => match us, hl with | [_, _, _], _ => rfl
theorem ok31 : e31.ok lw.T = true := by decide +kernel
theorem bd31 : e31.Bnd := fun _ _ _ _ _ _ us hl => match us, hl with | [_, _], _ => rfl
theorem ok : lw.ok = true := by
  show [e0, e1, e2, e3, e4, e5, e6, e7, e8, e9, e10, e11, e12, e13, e14, e15, e16, e17, e18, e19, e20, e21, e22, e23, e24, e25, e26, e27, e28, e29, e30, e31].all (fun e => e.ok lw.T) = true
  simp only [List.all_cons, List.all_nil, ok0, ok1, ok2, ok3, ok4, ok5, ok6, ok7, ok8, ok9, ok10, ok11, ok12, ok13, ok14, ok15, ok16, ok17, ok18, ok19, ok20, ok21, ok22, ok23, ok24, ok25, ok26, ok27, ok28, ok29, ok30, ok31, Bool.and_true]
theorem bd : ∀ e ∈ lw.defs, e.Bnd := by
  intro e h
  simp only [lw, List.mem_cons, List.mem_nil_iff, or_false] at h
  rcases h with rfl|rfl|rfl|rfl|rfl|rfl|rfl|rfl|rfl|rfl|rfl|rfl|rfl|rfl|rfl|rfl|rfl|rfl|rfl|rfl|rfl|rfl|rfl|rfl|rfl|rfl|rfl|rfl|rfl|rfl|rfl|rfl
  · exact bd0
  · exact bd1
  · exact bd2
  · exact bd3
  · exact bd4
  · exact bd5
  · exact bd6
  · exact bd7
  · exact bd8
  · exact bd9
  · exact bd10
  · exact bd11
  · exact bd12
  · exact bd13
  · exact bd14
  · exact bd15
  · exact bd16
  · exact bd17
  · exact bd18
  · exact bd19
  · exact bd20
  · exact bd21
  · exact bd22
  · exact bd23
  · exact bd24
  · exact bd25
  · exact bd26
  · exact bd27
  · exact bd28
  · exact bd29
  · exact bd30
  · exact bd31
theorem pl : ∀ e ∈ lw.defs, e.plainD := by
  intro e h
  simp only [lw, List.mem_cons, List.mem_nil_iff, or_false] at h
  rcases h with rfl|rfl|rfl|rfl|rfl|rfl|rfl|rfl|rfl|rfl|rfl|rfl|rfl|rfl|rfl|rfl|rfl|rfl|rfl|rfl|rfl|rfl|rfl|rfl|rfl|rfl|rfl|rfl|rfl|rfl|rfl|rfl <;> exact ⟨rfl, rfl, rfl⟩
end L15

set_option Elab.async false
set_option linter.all false
set_option maxRecDepth 100000
set_option maxHeartbeats 4000000
namespace L15
open PySem L2 Ip Gm
abbrev F := lw.F
variable {S : Store} {Q : EV → Store → Prop} {l : List (Str × Int)}
theorem rest_by {m : Nat} {a b : Int} (h : 1 ≤ m) : wp (run F m 31 [.p (.int a), .p (.int b)]) S Q = Q (.p (.int (Op.rest.val a b))) S := by
  obtain ⟨m, rfl⟩ : ∃ k, m = k + 1 := ⟨m - 1, by omega⟩
  rw [wp_run (d := e31.fn) rfl rfl]
  simp [e31, b31, Op.val]
  by_cases hb : b = 0
  · simp [hb]
  · have e : (if b < 0 then -b else b) = (b.natAbs : Int) := by split <;> omega
    simp [hb, e]
theorem joined {m : Nat} {o : Op} {a b : Int} (h : 2 ≤ m) (ha : a.natAbs < 1073741824) : wp (run F m 30 [.p (.str o.w), .p (.int a), .p (.int b)]) S Q = Q (.p (.int (o.val a b))) S := by
  obtain ⟨m, rfl⟩ : ∃ k, m = k + 1 := ⟨m - 1, by omega⟩
  rw [wp_run (d := e30.fn) rfl rfl]
  have hc : cmulB a b = true := by
    unfold cmulB
    simp only [Bool.or_eq_true, Bool.and_eq_true, decide_eq_true_eq]
    left; omega
  cases o <;> simp [e30, b30, Op.w, Op.val, hc]
  rw [rest_by (by omega)]
  simp [Op.val]
theorem worth_ok (hl : l.length ≤ 1000) : ∀ (e : Ep) (m : Nat), e.ht + 3 ≤ m → e.ok l → e.units ≤ 9 → ∀ (S : Store) (Q : EV → Store → Prop), wp (run F m 28 [.p e.pv, .p (dat l)]) S Q = Q (.p (.int (e.val l))) S
  | .is n, m, h, _, _, S, Q => by
    obtain ⟨m, rfl⟩ : ∃ k, m = k + 1 := ⟨m - 1, by omega⟩
    rw [wp_run (d := e28.fn) rfl rfl]
    simp [e28, b28, Ep.pv, Ep.val]
  | .of x, m, h, ho, _, S, Q => by
    obtain ⟨m, rfl⟩ : ∃ k, m = k + 1 := ⟨m - 1, by omega⟩
    rw [wp_run (d := e28.fn) rfl rfl]
    obtain ⟨i, h1, h2⟩ := ho
    obtain ⟨r, hr⟩ := head_look h1
    simp [e28, b28, Ep.pv, Ep.val, dat]
    rw [compL_map (fun v => match v with | .tup [.str y, _] => y == x | _ => false) (fun v => match v with | .tup [_, i] => i | _ => .non)]
    · have e1 : ((l.map fun q => PV.tup [.str q.1, .int q.2]).filter (fun v => match v with | .tup [.str y, _] => y == x | _ => false)).map (fun v => match v with | .tup [_, i] => i | _ => .non) = (l.filter fun q => q.1 == x).map fun q => PV.int q.2 := by
        rw [List.filter_map, List.map_map]; rfl
      rw [e1]
      have hle : ((l.filter fun q => q.1 == x).map fun q => PV.int q.2).length ≤ 1000 := by
        rw [List.length_map]; exact Nat.le_trans (List.length_filter_le _ _) hl
      rw [hr] at hle ⊢
      rw [h1]
      simp
      intro _
      simp at hle
      omega
    · intro v hv R
      rw [List.mem_map] at hv
      obtain ⟨q, _, rfl⟩ := hv
      by_cases hq : q.1 = x
      · simp [hq]
      · have : (q.1 == x) = false := by simpa using hq
        simp [hq, this]
  | .op o a b, m, h, ho, hu, S, Q => by
    obtain ⟨m, rfl⟩ : ∃ k, m = k + 1 := ⟨m - 1, by omega⟩
    simp only [Ep.ht, Ep.units] at h hu
    have ia := worth_ok hl a m (by omega) ho.1 (by omega)
    have ib := worth_ok hl b m (by omega) ho.2 (by omega)
    have hj : ∀ S Q, wp (run F m 30 [.p (.str o.w), .p (.int (a.val l)), .p (.int (b.val l))]) S Q = Q (.p (.int (o.val (a.val l) (b.val l)))) S := fun S Q => joined (by omega) (Ep.val_lt ho.1 (by omega))
    rw [wp_run (d := e28.fn) rfl rfl]
    have w1 : o.w ≠ "is" := by cases o <;> simp [Op.w]
    have w2 : o.w ≠ "of" := by cases o <;> simp [Op.w]
    simp [e28, b28, Ep.pv, Ep.val, w1, w2, ia, ib, hj]
theorem is_so (hl : l.length ≤ 1000) : ∀ (t : Tt) (m : Nat), t.ht + 15 ≤ m → t.ok l → ∀ (S : Store) (Q : EV → Store → Prop), wp (run F m 19 [.p t.pv, .p (dat l)]) S Q = Q (.p (.bl (t.so l))) S
  | .cst b, m, h, _, S, Q => by
    obtain ⟨m, rfl⟩ : ∃ k, m = k + 1 := ⟨m - 1, by omega⟩
    rw [wp_run (d := e19.fn) rfl rfl]
    cases b <;> simp [e19, b19, Tt.pv, Tt.so, okEq]
  | .lf w a b, m, h, ho, S, Q => by
    obtain ⟨m, rfl⟩ : ∃ k, m = k + 1 := ⟨m - 1, by omega⟩
    obtain ⟨oa, ob, ua, ub⟩ := ho
    have ha := Ep.ht9 ua
    have hb := Ep.ht9 ub
    have ia := worth_ok hl a m (by omega) oa ua
    have ib := worth_ok hl b m (by omega) ob ub
    rw [wp_run (d := e19.fn) rfl rfl]
    cases w <;> simp [e19, b19, Tt.pv, Tt.so, okEq, Cw.w, Cw.val, ia, ib]
  | .not t, m, h, ho, S, Q => by
    obtain ⟨m, rfl⟩ : ∃ k, m = k + 1 := ⟨m - 1, by omega⟩
    simp only [Tt.ht] at h
    have i1 := is_so hl t m (by omega) ho
    rw [wp_run (d := e19.fn) rfl rfl]
    simp [e19, b19, Tt.pv, Tt.so, okEq, i1]
  | .bop c a b, m, h, ho, S, Q => by
    obtain ⟨m, rfl⟩ : ∃ k, m = k + 1 := ⟨m - 1, by omega⟩
    simp only [Tt.ht] at h
    have ia := is_so hl a m (by omega) ho.1
    have ib := is_so hl b m (by omega) ho.2
    rw [wp_run (d := e19.fn) rfl rfl]
    cases c <;> simp [e19, b19, Tt.pv, Tt.so, okEq, ia, ib] <;> cases a.so l <;> simp
end L15

set_option Elab.async false
set_option linter.all false
set_option maxRecDepth 100000
set_option maxHeartbeats 4000000
namespace L15
open PySem L2 Ip Gm
variable {S : Store} {Q : EV → Store → Prop} {l : List (Str × Int)}
theorem lworth_ok : ∀ (e : Ep) (m : Nat), e.ht + 1 ≤ m → e.ok l → e.units ≤ 9 → ∀ (S : Store) (Q : EV → Store → Prop), wp (run F m 26 [.p e.pv, .p (own l)]) S Q = Q (.p (.int (e.val l))) S
  | .is n, m, h, _, _, S, Q => by
    obtain ⟨m, rfl⟩ : ∃ k, m = k + 1 := ⟨m - 1, by omega⟩
    rw [wp_run (d := e26.fn) rfl rfl]
    simp [e26, b26, Ep.pv, Ep.val, okEq]
  | .of x, m, h, ho, _, S, Q => by
    obtain ⟨m, rfl⟩ : ∃ k, m = k + 1 := ⟨m - 1, by omega⟩
    rw [wp_run (d := e26.fn) rfl rfl]
    obtain ⟨i, h1, h2⟩ := ho
    simp [e26, b26, Ep.pv, Ep.val, own, find_look, h1, okEq]
  | .op o a b, m, h, ho, hu, S, Q => by
    obtain ⟨m, rfl⟩ : ∃ k, m = k + 1 := ⟨m - 1, by omega⟩
    simp only [Ep.ht, Ep.units] at h hu
    have ia := lworth_ok a m (by omega) ho.1 (by omega)
    have ib := lworth_ok b m (by omega) ho.2 (by omega)
    have va := Ep.val_lt ho.1 (by omega)
    have vb := Ep.val_lt ho.2 (by omega)
    have hc : ∀ {p q : Int}, q.natAbs < 1073741824 → cmulB p q = true := fun h => by
      unfold cmulB
      simp only [Bool.or_eq_true, Bool.and_eq_true, decide_eq_true_eq]
      right; omega
    rw [wp_run (d := e26.fn) rfl rfl]
    cases o with
    | rest =>
      simp [e26, b26, Ep.pv, Ep.val, Op.w, Op.val, ia, ib, okEq]
      have e : (if b.val l < 0 then -b.val l else b.val l) = ((b.val l).natAbs : Int) := by split <;> omega
      rw [e]
      by_cases hb : b.val l = 0
      · simp [hb]
      · have hb' : ((b.val l).natAbs : Int) ≠ 0 := by omega
        have hd := Int.fmod_def (a.val l) ((b.val l).natAbs : Int)
        have hm := hc (p := (a.val l).fdiv ((b.val l).natAbs : Int)) (q := ((b.val l).natAbs : Int)) (by omega)
        have h3 : (a.val l) - (a.val l).fdiv ((b.val l).natAbs : Int) * ((b.val l).natAbs : Int) = (a.val l).fmod ((b.val l).natAbs : Int) := by
          rw [hd, Int.mul_comm]
        simp [hb, hb', hm, vb, h3]
    | plus => simp [e26, b26, Ep.pv, Ep.val, Op.w, Op.val, ia, ib, okEq]
    | minus => simp [e26, b26, Ep.pv, Ep.val, Op.w, Op.val, ia, ib, okEq]
    | times => simp [e26, b26, Ep.pv, Ep.val, Op.w, Op.val, ia, ib, hc vb, okEq]
theorem law_so : ∀ (t : Tt) (m : Nat), t.ht + 15 ≤ m → t.ok l → ∀ (S : Store) (Q : EV → Store → Prop), wp (run F m 25 [.p t.pv, .p (own l)]) S Q = Q (.p (.bl (t.so l))) S
  | .cst b, m, h, _, S, Q => by
    obtain ⟨m, rfl⟩ : ∃ k, m = k + 1 := ⟨m - 1, by omega⟩
    rw [wp_run (d := e25.fn) rfl rfl]
    cases b <;> simp [e25, b25, Tt.pv, Tt.so, okEq]
  | .lf w a b, m, h, ho, S, Q => by
    obtain ⟨m, rfl⟩ : ∃ k, m = k + 1 := ⟨m - 1, by omega⟩
    obtain ⟨oa, ob, ua, ub⟩ := ho
    have ha := Ep.ht9 ua
    have hb := Ep.ht9 ub
    have ia := lworth_ok a m (by omega) oa ua
    have ib := lworth_ok b m (by omega) ob ub
    rw [wp_run (d := e25.fn) rfl rfl]
    cases w <;> simp [e25, b25, Tt.pv, Tt.so, okEq, Cw.w, Cw.val, ia, ib, methop, ixP]
  | .not t, m, h, ho, S, Q => by
    obtain ⟨m, rfl⟩ : ∃ k, m = k + 1 := ⟨m - 1, by omega⟩
    simp only [Tt.ht] at h
    have i1 := law_so t m (by omega) ho
    rw [wp_run (d := e25.fn) rfl rfl]
    simp [e25, b25, Tt.pv, Tt.so, okEq, i1]
  | .bop c a b, m, h, ho, S, Q => by
    obtain ⟨m, rfl⟩ : ∃ k, m = k + 1 := ⟨m - 1, by omega⟩
    simp only [Tt.ht] at h
    have ia := law_so a m (by omega) ho.1
    have ib := law_so b m (by omega) ho.2
    rw [wp_run (d := e25.fn) rfl rfl]
    cases c <;> simp [e25, b25, Tt.pv, Tt.so, okEq, ia, ib] <;> cases a.so l <;> simp
end L15

set_option Elab.async false
set_option linter.all false
set_option maxRecDepth 100000
set_option maxHeartbeats 4000000
namespace L15
open PySem L2 Ip Gm
variable {S : Store} {Q : EV → Store → Prop} {y : Sy} {s : Gs} {p : Gp} {m : Nat}
theorem filt1 {α : Type} (xs : List α) : xs.filter (fun _ => true) = xs := List.filter_eq_self.mpr (by simp)
theorem names_in (hy : YOk y) (hm : 1 ≤ m) : wp (run F m 29 [.p y.pv]) S Q = Q (.p (.tup (y.names.map PV.str))) S := by
  obtain ⟨m, rfl⟩ : ∃ k, m = k + 1 := ⟨m - 1, by omega⟩
  rw [wp_run (d := e29.fn) rfl rfl]
  simp [e29, b29, Sy.pv]
  rw [compL_map (fun _ => true) (fun v => match v with | .tup (n :: _) => n | _ => .non)]
  · have hl : (y.data.map Dt.pv).length ≤ 10 := by rw [List.length_map]; exact hy.dl
    have e : ((y.data.map Dt.pv).filter fun _ => true).map (fun v => match v with | .tup (n :: _) => n | _ => .non) = y.names.map PV.str := by
      rw [filt1, List.map_map]; unfold Sy.names; rw [List.map_map]; rfl
    rw [e]
    have : (y.names.map PV.str).length ≤ 16777216 := by unfold Sy.names; simp; have := hy.dl; omega
    simp at this
    simp [this]
  · intro v hv R
    rw [List.mem_map] at hv
    obtain ⟨d, _, rfl⟩ := hv
    simp [Dt.pv]
theorem zip_prs : ∀ (ns : List Str) (vs : List Int), zipL (ns.map PV.str) (vs.map PV.int) = (ns.zip vs).map prPv
  | [], _ => by simp [zipL]
  | _ :: _, [] => by simp [zipL]
  | n :: ns, v :: vs => by simp [zipL, zip_prs ns vs, prPv]
theorem pairs_of (hy : YOk y) (hm : 2 ≤ m) : wp (run F m 20 [.p y.pv, .p (stPv s)]) S Q = Q (.p (dat (y.prs s))) S := by
  obtain ⟨m, rfl⟩ : ∃ k, m = k + 1 := ⟨m - 1, by omega⟩
  rw [wp_run (d := e20.fn) rfl rfl]
  simp [e20, b20, names_in hy (show 1 ≤ m by omega), stPv, zip_prs]
  rfl
theorem no_changes (hm : 1 ≤ m) : wp (run F m 23 []) S Q = Q (.p (chPv [] (.tup []))) S := by
  obtain ⟨m, rfl⟩ : ∃ k, m = k + 1 := ⟨m - 1, by omega⟩
  rw [wp_run (d := e23.fn) rfl rfl]
  simp [e23, b23, chPv, bansPv]
theorem getE {S : Store} {c : Cell} : (S ++ [c])[S.length]? = some c := by simp
theorem setE {S : Store} {c d : Cell} : (S ++ [c]).set S.length d = S ++ [d] := by simp
theorem takeE {S : Store} {c : Cell} : (S ++ [c]).take S.length = S := by simp
theorem leaveB {n n0 : Nat} {c : Cell} {v : PV} {S : Store} {Q : EV → Store → Prop} (h0 : n0 ≤ n) (h1 : S[n]? = some c) (h2 : cellV c = some v) : wp (leave false n0 (.ret (.box n))) S Q = Q (.p v) (S.take n0) := by
  have e : leave false n0 (.ret (.box n)) S = .ok (.p v) (S.take n0) := by
    unfold leave
    simp only [Bool.false_eq_true, if_false, Nat.not_lt.mpr h0]
    rw [h1]
    dsimp only
    rw [h2]
  exact wp_ok e
/-- what has been put so far -/
def accC (acc : List (Str × Int)) : Cell := .dct false (acc.map fun q => .str q.1) (acc.map fun q => .int q.2)
theorem put_new {x : Str} {v : PV} : ∀ {acc : List (Str × Int)}, x ∉ acc.map (·.1) → putKs (.str x) (acc.map fun q => PV.str q.1) = (acc.map fun q => PV.str q.1) ++ [.str x] ∧ putV (.str x) v (acc.map fun q => PV.str q.1) (acc.map fun q => PV.int q.2) = (acc.map fun q => PV.int q.2) ++ [v]
  | [], _ => ⟨rfl, rfl⟩
  | q :: acc, h => by
    simp only [List.map_cons, List.mem_cons, not_or] at h
    obtain ⟨h1, h2⟩ := put_new (v := v) h.2
    have hne : ¬ q.1 = x := fun e => h.1 e.symm
    simp [hne, h1, h2]
theorem find_great (y : Sy) (hy : YOk y) {x : Str} (hx : x ∈ y.names) : ∃ r, ((y.data.filter fun d => d.name == x).map fun d => PV.int d.great) = .int (greatOf y x) :: r := by
  unfold greatOf
  rw [← List.head?_filter]
  cases h : y.data.filter (fun d => d.name == x) with
  | nil =>
    exfalso
    unfold Sy.names at hx
    rw [List.mem_map] at hx
    obtain ⟨d, h1, h2⟩ := hx
    have : d ∈ y.data.filter (fun d => d.name == x) := List.mem_filter.mpr ⟨h1, by simp [h2]⟩
    rw [h] at this
    cases this
  | cons d r => exact ⟨r.map fun d => PV.int d.great, by simp⟩
theorem worth_ (hl : 10 ≤ 1000) {l : List (Str × Int)} {e : Ep} (hll : l.length ≤ 1000) (ho : e.ok l) (hu : e.units ≤ 9) (hm : 12 ≤ m) : wp (run F m 28 [.p e.pv, .p (dat l)]) S Q = Q (.p (.int (e.val l))) S := worth_ok hll e m (by have := Ep.ht9 hu; omega) ho hu S Q
def setR (y : Sy) (s : Gs) (p : Gp) : PV := if (setL y s p).all (inR y) then own (setL y s p) else .non
theorem set_values {i : Nat} (hy : YOk y) (hs : SOk y s) (hp : y.steps[i]? = some p) (hm : 15 ≤ m) : wp (run F m 22 [.p y.pv, .p (stPv s), .p (.int (i : Nat))]) S Q = Q (.p (setR y s p)) S := by
  refine wp_det ?_ Q
  obtain ⟨m, rfl⟩ : ∃ k, m = k + 1 := ⟨m - 1, by omega⟩
  have pk := hy.st p (List.mem_of_getElem? hp)
  rw [wp_run (d := e22.fn) rfl rfl]
  simp [e22, b22, pairs_of hy (show 2 ≤ m by omega), ix_steps hp]
  have hpn := prs_names hs
  have hps := prs_small hy hs
  have hpl : (y.prs s).length ≤ 1000 := by rw [prs_len hs]; have := hy.dl; omega
  have hw : ∀ q ∈ p.sets, ∀ S Q, wp (run F m 28 [.p q.2.pv, .p (dat (y.prs s))]) S Q = Q (.p (.int (q.2.val (y.prs s)))) S := fun q hq S Q => worth_ (by decide) hpl ((pk.sets q hq).2.2 _ hpn hps) (pk.sets q hq).2.1 (by omega)
  refine loopF_inv (fun xs env S' => ∃ dn acc e5 e6 e7 e8, p.sets = dn ++ acc ∧ xs = acc.map setPv ∧ (dn.map fun q => (q.1, q.2.val (y.prs s))).all (inR y) = true ∧ S' = S ++ [accC (dn.map fun q => (q.1, q.2.val (y.prs s)))] ∧ env = [some (.p y.pv), some (.p (stPv s)), some (.p (.int i)), some (.p (dat (y.prs s))), some (.box S.length), e5, e6, e7, e8]) ⟨[], p.sets, none, none, none, none, rfl, rfl, rfl, rfl, rfl⟩ ?_ ?_
  · rintro x r env S' ⟨dn, acc, e5, e6, e7, e8, hdn, hx, hall, rfl, rfl⟩
    cases acc with
    | nil => cases hx
    | cons q acc =>
      cases hx
      have hq : q ∈ p.sets := by rw [hdn]; simp
      obtain ⟨q1, q2, q3⟩ := pk.sets q hq
      obtain ⟨rest, hr⟩ := find_great y hy q1
      refine ⟨_, by simp [setPv]; rfl, ?_⟩
      simp [hw q hq]
      have bad : inR y (q.1, q.2.val (y.prs s)) = false → PV.non = setR y s p := fun hb => by
        unfold setR
        rw [if_neg]
        intro h
        have := List.all_eq_true.mp h _ (List.mem_map.mpr ⟨q, hq, rfl⟩)
        rw [hb] at this
        cases this
      by_cases h0 : 0 ≤ q.2.val (y.prs s)
      · rw [if_pos h0, compL_map (fun v => match v with | .tup (.str n :: _) => n == q.1 | _ => false) (fun v => match v with | .tup [_, g, _, _] => g | _ => .non)]
        · have e1 : ((y.data.map Dt.pv).filter (fun v => match v with | .tup (.str n :: _) => n == q.1 | _ => false)).map (fun v => match v with | .tup [_, g, _, _] => g | _ => .non) = (y.data.filter fun d => d.name == q.1).map fun d => PV.int d.great := by
            rw [List.filter_map, List.map_map]; rfl
          rw [e1]
          have hle : ((y.data.filter fun d => d.name == q.1).map fun d => PV.int d.great).length ≤ 10 := by
            rw [List.length_map]; exact Nat.le_trans (List.length_filter_le _ _) hy.dl
          rw [hr] at hle ⊢
          have hle2 : (PV.int (greatOf y q.1) :: rest).length ≤ 16777216 := by omega
          refine ⟨hle2, ?_⟩
          simp only [atI_0, wp_ofO, cmp_le, decide_eq_true_eq]
          by_cases h1 : q.2.val (y.prs s) ≤ greatOf y q.1
          · rw [if_pos h1]
            have hnew : q.1 ∉ ((dn.map fun q => (q.1, q.2.val (y.prs s))).map (·.1)) := by
              have hnd := pk.nd
              rw [hdn, List.map_append, List.map_cons] at hnd
              have := (List.nodup_append.mp hnd).2.2
              intro hm
              rw [List.map_map] at hm
              exact this _ hm _ List.mem_cons_self rfl
            have hput := put_new (v := .int (q.2.val (y.prs s))) hnew
            have hdl : dn.length ≤ 10 := by
              have h5 := pk.sl
              rw [hdn] at h5
              simp at h5
              omega
            rw [wp_subopD (m := false) (ks := (dn.map fun q => (q.1, q.2.val (y.prs s))).map fun q => .str q.1) (vs := (dn.map fun q => (q.1, q.2.val (y.prs s))).map fun q => .int q.2) (by rw [getE]; rfl), hput.1, hput.2]
            refine ⟨⟨rfl, by simp only [List.length_map, Line_val]; omega⟩, dn ++ [q], acc, by rw [hdn]; simp, rfl, fun a b hab => ?_, ?_⟩
            · rcases List.mem_append.mp hab with hab | hab
              · exact List.all_eq_true.mp hall _ (List.mem_map.mpr ⟨(a, b), hab, rfl⟩)
              · have : (a, b) = q := by simpa using hab
                rw [← this] at h0 h1
                simp [inR, h0, h1]
            · rw [setE]
              simp [accC]
          · rw [if_neg h1]
            exact ⟨bad (by simp [inR, h1]), takeE⟩
        · intro v hv R
          rw [List.mem_map] at hv
          obtain ⟨d, _, rfl⟩ := hv
          by_cases hd : d.name = q.1
          · simp [hd]; simp [Dt.pv, hd]
          · have : (d.name == q.1) = false := by simpa using hd
            simp [hd]; simp [Dt.pv, this]
      · rw [if_neg h0]
        exact bad (by simp [inR, h0])
  · rintro env S' ⟨dn, acc, e5, e6, e7, e8, hdn, hx, hall, rfl, rfl⟩
    have hacc : acc = [] := by cases acc with | nil => rfl | cons _ _ => cases hx
    subst hacc
    simp at hdn
    subst hdn
    simp
    rw [leaveB (Nat.le_refl _) getE rfl, takeE]
    refine ⟨?_, rfl⟩
    unfold setR
    have e : setL y s p = p.sets.map fun q => (q.1, q.2.val (y.prs s)) := rfl
    rw [e, if_pos hall]
    rfl
end L15

set_option Elab.async false
set_option linter.all false
set_option maxRecDepth 100000
set_option maxHeartbeats 4000000
namespace L15
open PySem L2 Ip Gm
variable {S : Store} {Q : EV → Store → Prop} {y : Sy} {s : Gs} {p : Gp} {m : Nat} {bs : List Ban} {gr : PV}
theorem allB_map {α : Type} (f : α → Bool) : ∀ l : List α, allB (l.map fun x => PV.bl (f x)) = some (l.map f)
  | [] => rfl
  | x :: l => by simp [allB, allB_map f l]
theorem rng_idx : rngL 0 (y.steps.length : Int) = y.steps.zipIdx.map fun q => PV.int (q.2 : Int) := by
  have h : y.steps.zipIdx.map (·.2) = List.range y.steps.length := by simp [List.range_eq_range']
  unfold rngL
  rw [show ((y.steps.length : Int) - 0).toNat = y.steps.length by omega, ← h, List.map_map]
  simp
theorem idx_mem {q : Gp × Nat} (h : q ∈ y.steps.zipIdx) : y.steps[q.2]? = some q.1 := by
  obtain ⟨p, i⟩ := q
  simpa using (List.mem_zipIdx_iff_getElem?.mp h)
theorem eq_pr (a b : Str × Int) : eqP (prPv a) (prPv b) = decide (a = b) := by
  obtain ⟨a1, a2⟩ := a
  obtain ⟨b1, b2⟩ := b
  by_cases h1 : a1 = b1
  · by_cases h2 : a2 = b2 <;> simp [prPv, eqP, eqPs, h1, h2]
  · simp [prPv, eqP, eqPs, h1]
theorem mem_pr (q : Str × Int) : ∀ l : List (Str × Int), memP (prPv q) (l.map prPv) = l.any fun r => decide (r = q)
  | [] => rfl
  | r :: l => by simp [eq_pr, mem_pr q l]
theorem plain_pr : ∀ l : List (Str × Int), plains (l.map prPv) = true
  | [] => rfl
  | q :: l => by simp [plain_pr l]; simp [prPv]
theorem dep_pr : ∀ l : List (Str × Int), deps (l.map prPv) ≤ 1
  | [] => by simp
  | q :: l => by have := dep_pr l; simp; simp [prPv]; omega
theorem ok_pr (q : Str × Int) (l : List (Str × Int)) : okEq (prPv q) (.tup (l.map prPv)) = true := by
  unfold okEq
  rw [show plain (prPv q) = true from rfl, plain_t, plain_pr]
  have : dep (prPv q) = 1 := rfl
  simp [this]
structure BOk (bs : List Ban) : Prop where
  len : bs.length ≤ 1000
  each : ∀ b ∈ bs, b.2.length ≤ 1000
theorem is_banned {i : Nat} (hy : YOk y) (hb : BOk bs) (hm : 3 ≤ m) : wp (run F m 21 [.p y.pv, .p (chPv bs gr), .p (stPv s), .p (.int (i : Nat))]) S Q = Q (.p (.bl (banned y bs s i))) S := by
  obtain ⟨m, rfl⟩ : ∃ k, m = k + 1 := ⟨m - 1, by omega⟩
  rw [wp_run (d := e21.fn) rfl rfl]
  simp [e21, b21, pairs_of hy (show 2 ≤ m by omega), chPv, bansPv]
  let g : Ban → Bool := fun b => decide (b.1 = (i : Int)) && b.2.all fun q => (y.prs s).any fun r => decide (r = q)
  have key : ∀ R : List PV → Store → Prop, wp (compL (fun x => asgT (.tup [.nm 5, .nm 6]) x [some (.p y.pv), some (.p (.tup [.tup (bs.map banPv), gr])), some (.p (stPv s)), some (.p (.int i)), some (.p (dat (y.prs s))), none, none, none]) (fun en => evIfs (run F m) [] en)
      (elt1 (run F m) (.and (.cmp .eq (.var 5) (.var 3)) (.blt .all [.comp (.cmp .isin (.var 7) (.var 4)) [7] (.nm 7) (.seq (.var 6)) []]))) (bs.map banPv)) S R = R (bs.map fun b => .bl (g b)) S := fun R => by
    have hmap : ∀ l : List Ban, (∀ b ∈ l, b.2.length ≤ 1000) → ∀ R : List PV → Store → Prop, wp (compL (fun x => asgT (.tup [.nm 5, .nm 6]) x [some (.p y.pv), some (.p (.tup [.tup (bs.map banPv), gr])), some (.p (stPv s)), some (.p (.int i)), some (.p (dat (y.prs s))), none, none, none]) (fun en => evIfs (run F m) [] en)
      (elt1 (run F m) (.and (.cmp .eq (.var 5) (.var 3)) (.blt .all [.comp (.cmp .isin (.var 7) (.var 4)) [7] (.nm 7) (.seq (.var 6)) []]))) (l.map banPv)) S R = R (l.map fun b => .bl (g b)) S := by
      intro l
      induction l with
      | nil => intro _ R; rfl
      | cons b l ih =>
        intro h R
        have hb2 := h b List.mem_cons_self
        rw [List.map_cons, compL1]
        have inner : ∀ R : List PV → Store → Prop, wp (compL (fun x => some [some (.p y.pv), some (.p (.tup [.tup (bs.map banPv), gr])), some (.p (stPv s)), some (.p (.int i)), some (.p (dat (y.prs s))), some (.p (.int b.1)), some (.p (.tup (b.2.map prPv))), some (.p x)]) (fun en => evIfs (run F m) [] en) (elt1 (run F m) (.cmp .isin (.var 7) (.var 4))) (b.2.map prPv)) S R = R (b.2.map fun q => .bl ((y.prs s).any fun r => decide (r = q))) S := fun R => by
          rw [compL_map (fun _ => true) (fun v => .bl (memP v ((y.prs s).map prPv)))]
          · rw [filt1, List.map_map]
            congr 1
            refine List.map_congr_left fun q _ => ?_
            show PV.bl (memP (prPv q) _) = _
            rw [mem_pr]
          · intro v hv R'
            rw [List.mem_map] at hv
            obtain ⟨q, _, rfl⟩ := hv
            simp [dat_eq, ok_pr]
        by_cases hi : b.1 = (i : Int)
        · simp [banPv, hi] at inner ⊢
          rw [inner]
          have hl3 : b.2.length ≤ 16777216 := by omega
          simp [hl3, allB_map]
          rw [ih fun c hc => h c (List.mem_cons_of_mem _ hc)]
          simp [g, hi]
        · simp [banPv, hi]
          rw [ih fun c hc => h c (List.mem_cons_of_mem _ hc)]
          simp [g, hi]
    exact hmap bs hb.each R
  rw [key]
  have hl := hb.len
  have hl2 : bs.length ≤ 16777216 := by omega
  simp [hl2, allB_map]
  exact Iff.rfl
theorem is_so_ {l : List (Str × Int)} {t : Tt} (hl : l.length ≤ 1000) (ho : t.ok l) (ht : t.ht ≤ 9) (hm : 24 ≤ m) : wp (run F m 19 [.p t.pv, .p (dat l)]) S Q = Q (.p (.bl (t.so l))) S := is_so hl t m (by omega) ho S Q
theorem is_possible {i : Nat} (hy : YOk y) (hs : SOk y s) (hb : BOk bs) (hp : y.steps[i]? = some p) (hm : 30 ≤ m) : wp (run F m 13 [.p y.pv, .p (chPv bs gr), .p (stPv s), .p (.int (i : Nat))]) S Q = Q (.p (.bl (posB y bs s i p))) S := by
  obtain ⟨m, rfl⟩ : ∃ k, m = k + 1 := ⟨m - 1, by omega⟩
  have pk := hy.st p (List.mem_of_getElem? hp)
  have hpl : (y.prs s).length ≤ 1000 := by rw [prs_len hs]; have := hy.dl; omega
  have h1 : ∀ S Q, wp (run F m 20 [.p y.pv, .p (stPv s)]) S Q = Q (.p (dat (y.prs s))) S := fun S Q => pairs_of hy (by omega)
  have h2 : ∀ S Q, wp (run F m 22 [.p y.pv, .p (stPv s), .p (.int (i : Nat))]) S Q = Q (.p (setR y s p)) S := fun S Q => set_values hy hs hp (by omega)
  have h3 : ∀ S Q, wp (run F m 21 [.p y.pv, .p (chPv bs gr), .p (stPv s), .p (.int (i : Nat))]) S Q = Q (.p (.bl (banned y bs s i))) S := fun S Q => is_banned hy hb (by omega)
  have h4 : ∀ S Q, wp (run F m 19 [.p p.test.pv, .p (dat (y.prs s))]) S Q = Q (.p (.bl (p.test.so (y.prs s)))) S := fun S Q => is_so_ hpl (pk.test _ (prs_names hs) (prs_small hy hs)) pk.ht (by omega)
  have h5 : isNon (setR y s p) = !(setL y s p).all (inR y) := by
    unfold setR
    cases (setL y s p).all (inR y) <;> rfl
  rw [wp_run (d := e13.fn) rfl rfl]
  simp [e13, b13, ix_steps hp]
  simp only [Gp.pv]
  simp [h1, h2, h3, h4, h5]
  unfold posB
  by_cases k1 : p.kind = "fault"
  · by_cases k2 : s.2 = 0
    · simp [k1, k2]
    · simp [k1, k2, h1, h2, h3, h4, h5]
      cases p.test.so (y.prs s) <;> cases (setL y s p).all (inR y) <;> simp
  · simp [k1, h1, h2, h3, h4, h5]
    cases p.test.so (y.prs s) <;> cases (setL y s p).all (inR y) <;> simp
theorem after_step {i : Nat} (hy : YOk y) (hs : SOk y s) (hp : y.steps[i]? = some p) (hr : (setL y s p).all (inR y) = true) (hm : 20 ≤ m) : wp (run F m 14 [.p y.pv, .p (stPv s), .p (.int (i : Nat))]) S Q = Q (.p (stPv (after y s p))) S := by
  obtain ⟨m, rfl⟩ : ∃ k, m = k + 1 := ⟨m - 1, by omega⟩
  have h1 : ∀ S Q, wp (run F m 20 [.p y.pv, .p (stPv s)]) S Q = Q (.p (dat (y.prs s))) S := fun S Q => pairs_of hy (by omega)
  have h2 : ∀ S Q, wp (run F m 22 [.p y.pv, .p (stPv s), .p (.int (i : Nat))]) S Q = Q (.p (own (setL y s p))) S := fun S Q => by
    have := set_values (S := S) (Q := Q) hy hs hp (show 15 ≤ m by omega)
    unfold setR at this
    rwa [if_pos hr] at this
  rw [wp_run (d := e14.fn) rfl rfl]
  simp [e14, b14, h1, h2, dat_eq]
  have hl : (y.prs s).length ≤ 10 := by rw [prs_len hs]; exact hy.dl
  have hmap : ∀ (l : List (Str × Int)) (R : List PV → Store → Prop), wp (compL (fun x => asgT (.tup [.nm 5, .nm 6]) x [some (.p y.pv), some (.p (stPv s)), some (.p (.int i)), some (.p (own (setL y s p))), none, none, none]) (fun en => evIfs (run F m) [] en) (elt1 (run F m) (.meth .get2 (.var 3) [.var 5, .var 6])) (l.map prPv)) S R = R (l.map fun q => .int ((look (setL y s p) q.1).getD q.2)) S := by
    intro l R
    rw [compL_map (fun _ => true) (fun v => match v with | .tup [.str n, .int w] => .int ((look (setL y s p) n).getD w) | _ => .non)]
    · rw [filt1, List.map_map]
      rfl
    · intro v hv R'
      rw [List.mem_map] at hv
      obtain ⟨q, _, rfl⟩ := hv
      simp [prPv, own, find_look]
  rw [hmap]
  have hl2 : (y.prs s).length ≤ 16777216 := by omega
  simp [hl2, ix_steps hp]
  have e : (if p.kind = "fault" then (1 : Int) else 0) = lowF p := rfl
  by_cases k1 : p.kind = "fault"
  · simp [k1, stPv, after, newV, lowF, List.map_map, Function.comp_def]
  · simp [k1, stPv, after, newV, lowF, List.map_map, Function.comp_def]
end L15

set_option Elab.async false
set_option linter.all false
set_option maxRecDepth 100000
set_option maxHeartbeats 4000000
namespace L15
open PySem L2 Ip Gm
variable {S : Store} {Q : EV → Store → Prop} {y : Sy} {s : Gs} {p : Gp} {m : Nat} {bs : List Ban} {gr : PV}
theorem zip_dv : ∀ (ds : List Dt) (vs : List Int), zipL (ds.map Dt.pv) (vs.map PV.int) = (ds.zip vs).map fun q => .tup [q.1.pv, .int q.2]
  | [], _ => by simp [zipL]
  | _ :: _, [] => by simp [zipL]
  | n :: ns, v :: vs => by simp [zipL, zip_dv ns vs]
def tk (q : Dt × Int) : Int := q.2 + if q.1.clk = true ∧ q.2 < q.1.great then 1 else 0
theorem tick_zip : ∀ (ds : List Dt) (vs : List Int), List.zipWith (fun d v => v + if d.clk = true ∧ v < d.great then 1 else 0) ds vs = (ds.zip vs).map tk
  | [], _ => by simp
  | _ :: _, [] => by simp
  | d :: ds, v :: vs => by simp [tick_zip ds vs, tk]
theorem later_clocks (hy : YOk y) (hm : 1 ≤ m) : wp (run F m 16 [.p y.pv, .p (stPv s)]) S Q = Q (.p (.tup ((tickV y s).map PV.int))) S := by
  refine wp_det ?_ Q
  obtain ⟨m, rfl⟩ : ∃ k, m = k + 1 := ⟨m - 1, by omega⟩
  rw [wp_run (d := e16.fn) rfl rfl]
  simp [e16, b16, evIt, zip_dv]
  have hz : (y.data.zip s.1).length ≤ 10 := by rw [List.length_zip]; have := hy.dl; omega
  refine loopF_inv (fun xs env S' => S' = S ∧ ∃ dn rs e3 e4 e5 e6 e7, y.data.zip s.1 = dn ++ rs ∧ xs = rs.map (fun q => .tup [q.1.pv, .int q.2]) ∧ env = [some (.p y.pv), some (.p (stPv s)), some (.p (.tup ((dn.map tk).map PV.int))), e3, e4, e5, e6, e7]) ⟨rfl, [], y.data.zip s.1, none, none, none, none, none, rfl, rfl, rfl⟩ ?_ ?_
  · rintro x r env S' ⟨rfl, dn, rs, e3, e4, e5, e6, e7, hdn, hx, rfl⟩
    cases rs with
    | nil => cases hx
    | cons q rs =>
      cases hx
      have hdl : dn.length ≤ 10 := by rw [hdn] at hz; simp at hz; omega
      refine ⟨_, by simp [Dt.pv]; rfl, ?_⟩
      have hl : dn.length + 1 ≤ 16777216 := by omega
      by_cases hc : q.1.clk = true
      · by_cases hg : q.2 < q.1.great
        · simp [hc, hg, hl]
          exact ⟨dn ++ [q], rs, by rw [hdn]; simp, rfl, by simp [tk, hc, hg, List.map_map, Function.comp_def]⟩
        · simp [hc, hg, hl]
          exact ⟨dn ++ [q], rs, by rw [hdn]; simp, rfl, by simp [tk, hc, hg, List.map_map, Function.comp_def]⟩
      · have hc' : q.1.clk = false := by simpa using hc
        simp [hc', hl]
        exact ⟨dn ++ [q], rs, by rw [hdn]; simp, rfl, by simp [tk, hc', List.map_map, Function.comp_def]⟩
  · rintro env S' ⟨rfl, dn, rs, e3, e4, e5, e6, e7, hdn, hx, rfl⟩
    have hrs : rs = [] := by cases rs with | nil => rfl | cons _ _ => cases hx
    subst hrs
    simp at hdn
    subst hdn
    simp [tickV, tick_zip]
theorem eqPs_ints : ∀ a b : List Int, eqPs (a.map PV.int) (b.map PV.int) = decide (a = b)
  | [], [] => rfl
  | [], _ :: _ => by simp [eqPs]
  | _ :: _, [] => by simp [eqPs]
  | x :: a, z :: b => by
    by_cases h : x = z
    · simp [eqPs, eqPs_ints a b, h]
    · simp [eqPs, h]
theorem eq_ints (a b : List Int) : eqP (.tup (a.map PV.int)) (.tup (b.map PV.int)) = decide (a = b) := by rw [← eqPs_ints]; simp [eqP]
theorem plain_ints : ∀ a : List Int, plains (a.map PV.int) = true
  | [] => rfl
  | x :: a => by simp [plain_ints a]
theorem deps_ints : ∀ a : List Int, deps (a.map PV.int) = 0
  | [] => rfl
  | x :: a => by simp [deps_ints a]
theorem ok_ints (a b : List Int) : okEq (.tup (a.map PV.int)) (.tup (b.map PV.int)) = true := by
  simp [okEq, plain_ints, deps_ints]
theorem enum_idx : ∀ (ps : List Gp) (n : Nat), enumL n (ps.map Gp.pv) = (ps.zipIdx n).map fun q => .tup [.int (q.2 : Int), q.1.pv]
  | [], _ => rfl
  | p :: ps, n => by simp [enumL, enum_idx ps (n + 1)]
def urg (y : Sy) : List (Gp × Nat) := y.steps.zipIdx.filter fun q => q.1.kind == "urgent"
theorem urg_len : (urg y).length ≤ y.steps.length := by
  unfold urg
  refine Nat.le_trans (List.length_filter_le _ _) ?_
  simp
theorem map_poss (hy : YOk y) (hs : SOk y s) (hm : 30 ≤ m) {f2 f4 : Option EV} : ∀ (l : List (Gp × Nat)), (∀ q ∈ l, y.steps[q.2]? = some q.1) → ∀ R : List PV → Store → Prop, wp (compL (fun x => some [some (.p y.pv), some (.p (stPv s)), f2, some (.p x), f4]) (fun en => evIfs (run F m) [] en) (elt1 (run F m) (.call 13 [.var 0, .call 23 [], .var 1, .var 3])) (l.map fun q => PV.int (q.2 : Int))) S R = R (l.map fun q => .bl (posB y [] s q.2 q.1)) S
  | [], _, R => rfl
  | q :: l, h, R => by
    rw [List.map_cons, compL1]
    have h1 : ∀ S Q, wp (run F m 23 []) S Q = Q (.p (chPv [] (.tup []))) S := fun S Q => no_changes (by omega)
    have h2 : ∀ S Q, wp (run F m 13 [.p y.pv, .p (chPv [] (.tup [])), .p (stPv s), .p (.int (q.2 : Nat))]) S Q = Q (.p (.bl (posB y [] s q.2 q.1))) S := fun S Q => is_possible hy hs ⟨by simp, by simp⟩ (h q List.mem_cons_self) hm
    simp [h1, h2]
    rw [map_poss hy hs hm l fun r hr => h r (List.mem_cons_of_mem _ hr)]
theorem can_tick (hy : YOk y) (hs : SOk y s) (hm : 40 ≤ m) : wp (run F m 15 [.p y.pv, .p (stPv s)]) S Q = Q (.p (.bl (canTick y s))) S := by
  obtain ⟨m, rfl⟩ : ∃ k, m = k + 1 := ⟨m - 1, by omega⟩
  have h1 : ∀ S Q, wp (run F m 16 [.p y.pv, .p (stPv s)]) S Q = Q (.p (.tup ((tickV y s).map PV.int))) S := fun S Q => later_clocks hy (by omega)
  rw [wp_run (d := e15.fn) rfl rfl]
  simp [e15, b15, h1, ok_ints, eqPs_ints, evIt, enum_idx]
  unfold canTick
  by_cases k1 : tickV y s = s.1
  · simp [k1]
  · simp only [k1, if_false, decide_false, Bool.not_false, Bool.true_and]
    have hu : ∀ R : List PV → Store → Prop, wp (compL (fun x => asgT (.tup [.nm 3, .nm 4]) x [some (.p y.pv), some (.p (stPv s)), none, none, none]) (fun en => evIfs (run F m) [.cmp .eq (.ix (.var 4) (.con (.int 2))) (.glo "URGENT" (.str "urgent"))] en) (elt1 (run F m) (.var 3)) (y.steps.zipIdx.map fun q => .tup [.int (q.2 : Int), q.1.pv])) S R = R ((urg y).map fun q => .int (q.2 : Int)) S := fun R => by
      rw [compL_map (fun v => match v with | .tup [_, .tup [_, _, .str k, _, _]] => k == "urgent" | _ => false) (fun v => match v with | .tup [i, _] => i | _ => .non)]
      · rw [List.filter_map, List.map_map]
        rfl
      · intro v hv R'
        rw [List.mem_map] at hv
        obtain ⟨q, _, rfl⟩ := hv
        by_cases hq : q.1.kind = "urgent"
        · simp [hq]; simp [Gp.pv, hq]
        · have : (q.1.kind == "urgent") = false := by simpa using hq
          simp [hq]; simp [Gp.pv, this]
    rw [hu]
    have hl : (urg y).length ≤ 10 := Nat.le_trans urg_len hy.sl
    have hl2 : (urg y).length ≤ 16777216 := by omega
    simp [hl2]
    rw [map_poss hy hs (by omega) (urg y) fun q hq => idx_mem (List.mem_filter.mp hq).1]
    simp [hl2, allB_map]
    have e : (urg y).any (fun q => posB y [] s q.2 q.1) = y.steps.zipIdx.any (fun q => decide (q.1.kind = "urgent") && posB y [] s q.2 q.1) := by
      unfold urg
      rw [List.any_filter]
      congr 1
    rw [e]
end L15

set_option Elab.async false
set_option linter.all false
set_option maxRecDepth 100000
set_option maxHeartbeats 4000000
namespace L15
open PySem L2 Ip Gm
variable {S : Store} {Q : EV → Store → Prop} {y : Sy} {s : Gs} {p : Gp} {m : Nat} {bs : List Ban} {gr : PV}
def mvPv (q : PV × Gs) : PV := .tup [q.1, stPv q.2]
def posS (y : Sy) (bs : List Ban) (s : Gs) : List (Gp × Nat) := y.steps.zipIdx.filter fun q => posB y bs s q.2 q.1
theorem comp1 (hy : YOk y) (hs : SOk y s) (hb : BOk bs) (hm : 30 ≤ m) {f3 f4 : Option EV} : ∀ (l : List (Gp × Nat)), (∀ q ∈ l, y.steps[q.2]? = some q.1) → ∀ R : List PV → Store → Prop, wp (compL (fun x => some [some (.p y.pv), some (.p (chPv bs gr)), some (.p (stPv s)), f3, f4, some (.p x)]) (fun en => evIfs (run F m) [.call 13 [.var 0, .var 1, .var 2, .var 5]] en) (elt1 (run F m) (.var 5)) (l.map fun q => PV.int (q.2 : Int))) S R = R ((l.filter fun q => posB y bs s q.2 q.1).map fun q => .int (q.2 : Int)) S
  | [], _, R => rfl
  | q :: l, h, R => by
    rw [List.map_cons, compL1]
    have h2 : ∀ S Q, wp (run F m 13 [.p y.pv, .p (chPv bs gr), .p (stPv s), .p (.int (q.2 : Nat))]) S Q = Q (.p (.bl (posB y bs s q.2 q.1))) S := fun S Q => is_possible hy hs hb (h q List.mem_cons_self) hm
    have ih := comp1 hy hs hb hm (f3 := f3) (f4 := f4) l fun r hr => h r (List.mem_cons_of_mem _ hr)
    cases hp : posB y bs s q.2 q.1 <;> simp [h2, hp, ih]
theorem comp2 (hy : YOk y) (hs : SOk y s) (hm : 30 ≤ m) {f3 f4 : Option EV} : ∀ (l : List (Gp × Nat)), (∀ q ∈ l, y.steps[q.2]? = some q.1 ∧ posB y bs s q.2 q.1 = true) → ∀ R : List PV → Store → Prop, wp (compL (fun x => some [some (.p y.pv), some (.p (chPv bs gr)), some (.p (stPv s)), f3, f4, some (.p x)]) (fun en => evIfs (run F m) [] en) (elt1 (run F m) (.tup [.var 5, .call 14 [.var 0, .var 2, .var 5]])) (l.map fun q => PV.int (q.2 : Int))) S R = R (l.map fun q => mvPv (.int (q.2 : Int), after y s q.1)) S
  | [], _, R => rfl
  | q :: l, h, R => by
    rw [List.map_cons, compL1]
    obtain ⟨hq, hp⟩ := h q List.mem_cons_self
    have hr : (setL y s q.1).all (inR y) = true := by
      unfold posB at hp
      simp only [Bool.and_eq_true] at hp
      exact hp.1.2
    have h2 : ∀ S Q, wp (run F m 14 [.p y.pv, .p (stPv s), .p (.int (q.2 : Nat))]) S Q = Q (.p (stPv (after y s q.1))) S := fun S Q => after_step hy hs hq hr (by omega)
    have ih := comp2 hy hs hm (f3 := f3) (f4 := f4) l fun r hr => h r (List.mem_cons_of_mem _ hr)
    simp [h2, ih, mvPv]
theorem plain_st (s : Gs) : plain (stPv s) = true := by simp [stPv, plain_ints]
theorem plains_mv : ∀ l : List (PV × Gs), (∀ q ∈ l, plain q.1 = true) → plains (l.map mvPv) = true
  | [], _ => rfl
  | q :: l, h => by
    simp [plains_mv l fun r hr => h r (List.mem_cons_of_mem _ hr)]
    simp [mvPv, plain_st, h q List.mem_cons_self]
theorem ok_nil {l : List PV} (h : plains l = true) : okEq (.tup l) (.tup []) = true := by simp [okEq, h]
theorem posS_len : (posS y bs s).length ≤ y.steps.length := by
  unfold posS
  refine Nat.le_trans (List.length_filter_le _ _) ?_
  simp
theorem moves_eq : moves y bs s = (if ((posS y bs s).map fun q => (PV.int (q.2 : Int), after y s q.1)) ++ (if canTick y s then [(.str "tick", (tickV y s, s.2))] else []) = [] then [(.str "rest", s)] else ((posS y bs s).map fun q => (PV.int (q.2 : Int), after y s q.1)) ++ (if canTick y s then [(.str "tick", (tickV y s, s.2))] else [])) := rfl
theorem moves_at (hy : YOk y) (hs : SOk y s) (hb : BOk bs) (hm : 60 ≤ m) : wp (run F m 6 [.p y.pv, .p (chPv bs gr), .p (stPv s)]) S Q = Q (.p (.tup ((moves y bs s).map mvPv))) S := by
  obtain ⟨m, rfl⟩ : ∃ k, m = k + 1 := ⟨m - 1, by omega⟩
  have h1 : ∀ S Q, wp (run F m 15 [.p y.pv, .p (stPv s)]) S Q = Q (.p (.bl (canTick y s))) S := fun S Q => can_tick hy hs (by omega)
  have h2 : ∀ S Q, wp (run F m 16 [.p y.pv, .p (stPv s)]) S Q = Q (.p (.tup ((tickV y s).map PV.int))) S := fun S Q => later_clocks hy (by omega)
  rw [wp_run (d := e6.fn) rfl rfl]
  have hsm : small (y.steps.length : Int) = true := by unfold small; have := hy.sl; simp; omega
  simp [e6, b6, hsm, rng_idx]
  rw [comp1 hy hs hb (by omega) y.steps.zipIdx fun q hq => idx_mem hq]
  have hpl : (posS y bs s).length ≤ 10 := Nat.le_trans posS_len hy.sl
  have hl : (posS y bs s).length ≤ 16777216 := by omega
  rw [show (y.steps.zipIdx.filter fun q => posB y bs s q.2 q.1) = posS y bs s from rfl, comp2 hy hs (by omega) (posS y bs s) fun q hq => ⟨idx_mem (List.mem_filter.mp hq).1, (List.mem_filter.mp hq).2⟩]
  have hl' : (posS y bs s).length ≤ 16777215 := by omega
  have pl1 : plains ((posS y bs s).map fun q => mvPv (.int (q.2 : Int), after y s q.1)) = true := by
    have := plains_mv ((posS y bs s).map fun q => (PV.int (q.2 : Int), after y s q.1)) fun q hq => by
      rw [List.mem_map] at hq
      obtain ⟨r, _, rfl⟩ := hq
      rfl
    rwa [List.map_map] at this
  have pl2 : plains ((posS y bs s).map (fun q => mvPv (.int (q.2 : Int), after y s q.1)) ++ [.tup [.str "tick", .tup [.tup ((tickV y s).map PV.int), .int s.2]]]) = true := by
    have := plains_mv ((posS y bs s).map (fun q => (PV.int (q.2 : Int), after y s q.1)) ++ [(.str "tick", (tickV y s, s.2))]) fun q hq => by
      rcases List.mem_append.mp hq with hq | hq
      · rw [List.mem_map] at hq
        obtain ⟨r, _, rfl⟩ := hq
        rfl
      · rw [List.mem_singleton.mp hq]; rfl
    rwa [List.map_append, List.map_map] at this
  rw [moves_eq]
  cases hc : canTick y s with
  | true =>
    simp [hl, hl', h1, h2, hc, ok_nil pl2]
    exact Iff.rfl
  | false =>
    simp [hl, hl', h1, h2, hc, ok_nil pl1]
    by_cases h0 : posS y bs s = []
    · simp [h0, mvPv]
    · simp [h0, List.map_map, Function.comp_def]
end L15

set_option Elab.async false
set_option linter.all false
set_option maxRecDepth 100000
set_option maxHeartbeats 4000000
namespace L15
open PySem L2 Ip Gm
variable {S : Store} {Q : EV → Store → Prop} {y : Sy} {s : Gs} {p : Gp} {m : Nat} {bs : List Ban} {gr : PV}
def flatL (l : List (Str × Int)) : List PV := l.flatMap fun q => [.str q.1, .int q.2]
theorem prs_flat : ∀ l : List (Str × Int), prsOf (l.map prPv) = some (flatL l)
  | [] => rfl
  | q :: l => by
    have := prs_flat l
    simp [prPv, flatL] at this ⊢
    simp [this]
theorem keys_flat : ∀ l : List (Str × Int), keysB false (flatL l) = true
  | [] => rfl
  | q :: l => by
    have := keys_flat l
    simp [flatL] at this ⊢
    exact this
theorem merge_flat : ∀ (l acc : List (Str × Int)), ((acc ++ l).map (·.1)).Nodup → mergeD (acc.map fun q => .str q.1) (acc.map fun q => .int q.2) (flatL l) = ((acc ++ l).map (fun q => .str q.1), (acc ++ l).map (fun q => .int q.2))
  | [], acc, _ => by simp [flatL]
  | q :: l, acc, h => by
    have hnew : q.1 ∉ acc.map (·.1) := fun hm => by
      rw [List.map_append, List.map_cons] at h
      exact (List.nodup_append.mp h).2.2 _ hm _ List.mem_cons_self rfl
    have hput := put_new (v := .int q.2) hnew
    have e : flatL (q :: l) = .str q.1 :: .int q.2 :: flatL l := rfl
    rw [e, mergeD_2, hput.1, hput.2]
    have ih := merge_flat l (acc ++ [q]) (by simpa using h)
    simp only [List.map_append, List.map_cons, List.map_nil, List.append_assoc, List.cons_append, List.nil_append] at ih ⊢
    exact ih
/-- a dict of the pairs, as a thing that may change -/
theorem law_dict (hy : YOk y) (hs : SOk y s) (hm : 1 ≤ m) : wp (run F m 24 [.p y.pv, .p (stPv s)]) S Q = Q (.box S.length) (S ++ [accC (y.prs s)]) := by
  obtain ⟨m, rfl⟩ : ∃ k, m = k + 1 := ⟨m - 1, by omega⟩
  rw [wp_run (d := e24.fn) rfl rfl]
  simp [e24, b24]
  rw [compL_map (fun _ => true) (fun v => match v with | .tup (n :: _) => n | _ => .non)]
  · have hl : (y.data.map Dt.pv).length ≤ 10 := by rw [List.length_map]; exact hy.dl
    have e : ((y.data.map Dt.pv).filter fun _ => true).map (fun v => match v with | .tup (n :: _) => n | _ => .non) = y.names.map PV.str := by
      rw [filt1, List.map_map]; unfold Sy.names; rw [List.map_map]; rfl
    rw [e]
    have hl2 : (y.names.map PV.str).length ≤ 16777216 := by unfold Sy.names; simp; have := hy.dl; omega
    simp at hl2
    have hnd : ((([] : List (Str × Int)) ++ y.prs s).map (·.1)).Nodup := by
      rw [List.nil_append, prs_names hs]; exact hy.nd
    have hmg := merge_flat (y.prs s) [] hnd
    simp only [List.map_nil, List.nil_append] at hmg
    have hz : zipL (y.names.map PV.str) (s.1.map PV.int) = (y.prs s).map prPv := zip_prs _ _
    simp [hl2, hz, prs_flat, keys_flat, hmg, accC]
  · intro v hv R
    rw [List.mem_map] at hv
    obtain ⟨d, _, rfl⟩ := hv
    simp [Dt.pv]
end L15

set_option Elab.async false
set_option linter.all false
set_option maxRecDepth 100000
set_option maxHeartbeats 4000000
namespace L15
open PySem L2 Ip Gm
variable {S : Store} {Q : EV → Store → Prop} {y : Sy} {s : Gs} {p : Gp} {m : Nat} {bs : List Ban} {gr : PV}
theorem put_old {x : Str} {v : Int} : ∀ {acc : List (Str × Int)}, (acc.map (·.1)).Nodup → x ∈ acc.map (·.1) → putKs (.str x) (acc.map fun q => PV.str q.1) = ((acc.map fun q => if q.1 = x then (x, v) else q).map fun q => PV.str q.1) ∧ putV (.str x) (.int v) (acc.map fun q => PV.str q.1) (acc.map fun q => PV.int q.2) = ((acc.map fun q => if q.1 = x then (x, v) else q).map fun q => PV.int q.2)
  | [], _, h => by cases h
  | q :: acc, hn, h => by
    simp only [List.map_cons, List.nodup_cons] at hn
    by_cases e : q.1 = x
    · have hrest : (acc.map fun q => if q.1 = x then (x, v) else q) = acc := by
        conv => rhs; rw [← List.map_id acc]
        refine List.map_congr_left fun r hr => ?_
        have : ¬ r.1 = x := fun z => hn.1 (by rw [e, ← z]; exact List.mem_map.mpr ⟨r, hr, rfl⟩)
        rw [if_neg this]; rfl
      simp only [List.map_cons, hrest, if_pos e, putKs_1, putV_1, eqP_str, e, decide_true, if_true]
      exact ⟨trivial, trivial⟩
    · have h' : x ∈ acc.map (·.1) := by
        rcases List.mem_cons.mp h with z | z
        · exact absurd z.symm e
        · exact z
      obtain ⟨h1, h2⟩ := put_old (v := v) hn.2 h'
      simp [e, h1, h2]
def behR (y : Sy) (bs : List Ban) (s : Gs) (i : Nat) (p : Gp) : PV := if posB y bs s i p then stPv (after y s p) else .non
theorem lworth_ {l : List (Str × Int)} {e : Ep} (ho : e.ok l) (hu : e.units ≤ 9) (hm : 12 ≤ m) : wp (run F m 26 [.p e.pv, .p (own l)]) S Q = Q (.p (.int (e.val l))) S := lworth_ok e m (by have := Ep.ht9 hu; omega) ho hu S Q
theorem lso_ {l : List (Str × Int)} {t : Tt} (ho : t.ok l) (ht : t.ht ≤ 9) (hm : 24 ≤ m) : wp (run F m 25 [.p t.pv, .p (own l)]) S Q = Q (.p (.bl (t.so l))) S := law_so t m (by omega) ho S Q
def bA : List Sx := b17.take 4
def bN : List Sx := (b17.drop 4).take 1
def bB : List Sx := (b17.drop 5).take 2
def bC : List Sx := b17.drop 7
theorem b17_eq : b17 = bA ++ (bN ++ (bB ++ bC)) := rfl
theorem look_all : ∀ {l : List (Str × Int)}, (l.map (·.1)).Nodup → (l.map (·.1)).map (fun x => (look l x).getD 0) = l.map (·.2) := fun {l} h => by
  rw [List.map_map]
  refine List.map_congr_left fun q hq => ?_
  show (look l q.1).getD 0 = q.2
  rw [look_of h (show (q.1, q.2) ∈ l from hq)]
  rfl
theorem mem_rng {n : Nat} {x : PV} (h : x ∈ rngL 0 (n : Int)) : ∃ i : Nat, x = .int (i : Int) ∧ i < n := by
  unfold rngL at h
  rw [List.mem_map] at h
  obtain ⟨i, h1, rfl⟩ := h
  rw [List.mem_range] at h1
  exact ⟨i, by simp, by omega⟩
theorem rng_mem {n i : Nat} (h : i < n) : PV.int (i : Int) ∈ rngL 0 (n : Int) := by
  unfold rngL
  rw [List.mem_map]
  exact ⟨i, by rw [List.mem_range]; omega, by simp⟩
def badI (y : Sy) (s : Gs) (p : Gp) (v : PV) : Bool := match v with
  | .int i => (match (newV y s p)[i.toNat]?, y.data[i.toNat]? with
    | some v, some d => !(decide (0 ≤ v) && decide (v ≤ d.great))
    | _, _ => false)
  | _ => false
theorem bad_none (hy : YOk y) (hs : SOk y s) (pk : POk y.names p) : (rngL 0 (y.data.length : Int)).filter (badI y s p) = [] ↔ (setL y s p).all (inR y) = true := by
  rw [← range_iff hy hs pk, List.filter_eq_nil_iff]
  have hl := newV_len (p := p) hs
  constructor
  · intro h i d v hd hv
    have hi : i < y.data.length := (List.getElem?_eq_some_iff.mp hd).1
    have := h _ (rng_mem hi)
    simp [badI, hd, hv] at this
    omega
  · intro h x hx
    obtain ⟨i, rfl, hi⟩ := mem_rng hx
    have hd : y.data[i]? = some y.data[i] := List.getElem?_eq_getElem hi
    have hv : (newV y s p)[i]? = some ((newV y s p)[i]'(by omega)) := List.getElem?_eq_getElem (by omega)
    have := h i _ _ hd hv
    simp [badI, hd, hv]
    omega
structure BanOk (y : Sy) (bs : List Ban) : Prop where
  len : bs.length ≤ 1000
  each : ∀ b ∈ bs, b.2.length ≤ 1000
  nm : ∀ b ∈ bs, ∀ q ∈ b.2, q.1 ∈ y.names
theorem any_look (hy : YOk y) (hs : SOk y s) {q : Str × Int} (hq : q.1 ∈ y.names) : ∃ v, look (y.prs s) q.1 = some v ∧ ((y.prs s).any fun r => decide (r = q)) = decide (v = q.2) := by
  have hn : ((y.prs s).map (·.1)).Nodup := by rw [prs_names hs]; exact hy.nd
  have hq' : q.1 ∈ (y.prs s).map (·.1) := by rw [prs_names hs]; exact hq
  rw [List.mem_map] at hq'
  obtain ⟨r, hr, e⟩ := hq'
  have hl : look (y.prs s) q.1 = some r.2 := by rw [← e]; exact look_of hn hr
  refine ⟨r.2, hl, ?_⟩
  by_cases h : r.2 = q.2
  · rw [decide_eq_true h, List.any_eq_true]
    exact ⟨r, hr, by simpa using Prod.ext e h⟩
  · rw [decide_eq_false h, List.any_eq_false]
    intro u hu he
    simp at he
    subst he
    have := look_of hn (show (u.1, u.2) ∈ y.prs s from hu)
    rw [hl] at this
    exact h (Option.some.inj this)
/-- the pairs that a state lacks -/
theorem ban_comp {f1 f3 f5 f6 f7 f8 f9 f10 f11 f12 f13 f14 f15 f16 f0 f2 : Option EV} (hy : YOk y) (hs : SOk y s) : ∀ (l : List (Str × Int)) (R : List PV → Store → Prop), (∀ q ∈ l, q.1 ∈ y.names) → wp (compL (fun x => some [f0, f1, f2, f3, some (.p (own (y.prs s))), f5, f6, f7, f8, f9, f10, f11, f12, f13, f14, f15, f16, some (.p x)]) (fun en => evIfs (run F m) [.cmp .ne (.ix (.var 4) (.ix (.var 17) (.con (.int 0)))) (.ix (.var 17) (.con (.int 1)))] en) (elt1 (run F m) (.var 17)) (l.map prPv)) S R = R ((l.filter fun q => !((y.prs s).any fun r => decide (r = q))).map prPv) S
  | [], R, _ => rfl
  | q :: l, R, h => by
    rw [List.map_cons, compL1]
    obtain ⟨v, h1, h2⟩ := any_look hy hs (h q List.mem_cons_self)
    have hf : findD (.str q.1) ((y.prs s).map fun q => PV.str q.1) ((y.prs s).map fun q => PV.int q.2) = some (.int v) := by rw [find_look, h1]; rfl
    by_cases e : v = q.2
    · rw [List.filter_cons_of_neg (by rw [h2, decide_eq_true e]; simp)]
      simp [prPv, own, hf, e]
      exact Iff.of_eq (ban_comp hy hs l R fun q hq => h q (List.mem_cons_of_mem _ hq))
    · rw [List.filter_cons_of_pos (by rw [h2, decide_eq_false e]; simp)]
      simp [prPv, own, hf, e]
      exact Iff.of_eq (ban_comp hy hs l _ fun q hq => h q (List.mem_cons_of_mem _ hq))
theorem ban_loop {i : Nat} {bv : PV} {f2 f5 f6 f7 f8 f9 f10 f11 f12 f13 f14 f15 f16 f17 f0 : Option EV} {R : Flw → Store → Prop} (hbv : itemsOf bv = some (bs.map banPv)) (hbo : BanOk y bs) (hy : YOk y) (hs : SOk y s) (h1 : banned y bs s i = true → R (.ret (.p .non)) S) (h2 : banned y bs s i = false → ∀ f12 f13, R (.nx [f0, some (.p bv), f2, some (.p (.int (i : Nat))), some (.p (own (y.prs s))), f5, f6, f7, f8, f9, f10, f11, f12, f13, f14, f15, f16, f17]) S) : wp (exSs (run F m) bN [f0, some (.p bv), f2, some (.p (.int (i : Nat))), some (.p (own (y.prs s))), f5, f6, f7, f8, f9, f10, f11, f12, f13, f14, f15, f16, f17]) S R := by
  simp only [bN, b17, List.drop_succ_cons, List.drop_zero, List.take_succ_cons, List.take_zero]
  simp [hbv]
  refine loopF_inv (fun xs env S' => ∃ dn rs f12 f13, bs = dn ++ rs ∧ xs = rs.map banPv ∧ S' = S ∧ banned y dn s i = false ∧ env = [f0, some (.p bv), f2, some (.p (.int (i : Nat))), some (.p (own (y.prs s))), f5, f6, f7, f8, f9, f10, f11, f12, f13, f14, f15, f16, f17]) ⟨[], bs, f12, f13, rfl, rfl, rfl, rfl, rfl⟩ ?_ ?_
  · rintro x r env S' ⟨dn, rs, f12, f13, hdn, hx, rfl, hb, rfl⟩
    cases rs with
    | nil => cases hx
    | cons b rs =>
      cases hx
      have hbm : b ∈ bs := by rw [hdn]; simp
      refine ⟨_, rfl, ?_⟩
      have hall : banned y bs s i = true ∨ True := .inr trivial
      have hsplit : banned y bs s i = (banned y dn s i || (banned y [b] s i || banned y rs s i)) := by
        unfold banned
        rw [hdn]; simp
      have hone : banned y [b] s i = (decide (b.1 = (i : Int)) && b.2.all fun q => (y.prs s).any fun r => decide (r = q)) := by simp [banned]
      have nxt : banned y [b] s i = false → ∃ dn' rs' f12 f13, bs = dn' ++ rs' ∧ rs.map banPv = rs'.map banPv ∧ S' = S' ∧ banned y dn' s i = false ∧ [f0, some (.p bv), f2, some (.p (.int (i : Nat))), some (.p (own (y.prs s))), f5, f6, f7, f8, f9, f10, f11, some (EV.p (.int b.1)), some (EV.p (.tup (b.2.map prPv))), f14, f15, f16, f17] = [f0, some (.p bv), f2, some (.p (.int (i : Nat))), some (.p (own (y.prs s))), f5, f6, f7, f8, f9, f10, f11, f12, f13, f14, f15, f16, f17] := fun q => ⟨dn ++ [b], rs, _, _, by rw [hdn]; simp, rfl, rfl, by
        unfold banned at hb q ⊢
        rw [List.any_append, hb, q]; rfl, rfl⟩
      have hl := hbo.each b hbm
      by_cases e : b.1 = (i : Int)
      · have hcl : ((b.2.filter fun q => !((y.prs s).any fun r => decide (r = q))).map prPv).length ≤ 16777216 := by
          rw [List.length_map]
          have := List.length_filter_le (fun q => !((y.prs s).any fun r => decide (r = q))) b.2
          omega
        have hok : okEq (.lst ((b.2.filter fun q => !((y.prs s).any fun r => decide (r = q))).map prPv)) (.lst []) = true := by simp [okEq, plain_pr]
        simp [banPv, e]
        rw [ban_comp hy hs b.2 _ (hbo.nm b hbm)]
        refine ⟨hcl, hok, ?_⟩
        by_cases z : (b.2.all fun q => (y.prs s).any fun r => decide (r = q)) = true
        · have : (b.2.filter fun q => !((y.prs s).any fun r => decide (r = q))) = [] := by
            rw [List.filter_eq_nil_iff]
            intro q hq
            rw [List.all_eq_true.mp z q hq]; simp
          rw [this]
          simp
          refine h1 ?_
          rw [hsplit, hone, z, decide_eq_true e]; simp
        · have : (b.2.filter fun q => !((y.prs s).any fun r => decide (r = q))) ≠ [] := fun w => z (by
            rw [List.filter_eq_nil_iff] at w
            rw [List.all_eq_true]
            intro q hq
            have := w q hq
            simp only [Bool.not_eq_true', Bool.not_eq_false] at this
            exact this)
          have hne : ((b.2.filter fun q => !((y.prs s).any fun r => decide (r = q))).map prPv).isEmpty = false := by simpa using this
          have hne2 : ¬ (b.2.filter fun q => !((y.prs s).any fun r => decide (r = q))).map prPv = [] := by simpa using this
          simp only [eqP_lst, eqPs_n, hne]
          simp [hne2]
          have := nxt (by rw [hone, Bool.eq_false_iff.mpr z]; simp)
          rw [e] at this
          simpa using this
      · simp [banPv, e]
        have := nxt (by rw [hone, decide_eq_false e]; simp)
        simpa using this
  · rintro env S' ⟨dn, rs, f12, f13, hdn, hx, rfl, hb, rfl⟩
    have hrs : rs = [] := by cases rs with | nil => rfl | cons _ _ => cases hx
    subst hrs
    rw [List.append_nil] at hdn
    subst hdn
    exact h2 hb f12 f13
theorem law_behind {i : Nat} {bv : PV} (hbv : itemsOf bv = some (bs.map banPv)) (hbo : BanOk y bs) (hy : YOk y) (hs : SOk y s) (hp : y.steps[i]? = some p) (hm : 30 ≤ m) : wp (run F m 17 [.p y.pv, .p bv, .p (stPv s), .p (.int (i : Nat))]) S Q = Q (.p (behR y bs s i p)) S := by
  refine wp_det ?_ Q
  obtain ⟨m, rfl⟩ : ∃ k, m = k + 1 := ⟨m - 1, by omega⟩
  have pk := hy.st p (List.mem_of_getElem? hp)
  have hd1 : ∀ S Q, wp (run F m 24 [.p y.pv, .p (stPv s)]) S Q = Q (.box S.length) (S ++ [accC (y.prs s)]) := fun S Q => law_dict hy hs (by omega)
  have hso : ∀ S Q, wp (run F m 25 [.p p.test.pv, .p (own (y.prs s))]) S Q = Q (.p (.bl (p.test.so (y.prs s)))) S := fun S Q => lso_ (pk.test _ (prs_names hs) (prs_small hy hs)) pk.ht (by omega)
  have hfr : ∀ (e : Nv) (Q : Nv → Store → Prop), e[4]? = some (some (.box S.length)) → wp (frzE 4 e) (S ++ [accC (y.prs s)]) Q = Q (e.set 4 (some (.p (own (y.prs s))))) (S ++ [.dead]) := fun e Q he => by
    rw [wp_frzD (m := false) (ks := (y.prs s).map fun q => .str q.1) (vs := (y.prs s).map fun q => .int q.2) he (by rw [getE]; rfl), setE]
    rfl
  rw [wp_run (d := e17.fn) rfl rfl]
  show wp (exSs (run F m) b17 _) S _
  rw [b17_eq, wp_app]
  have hA : ∀ R : Flw → Store → Prop, (if (!(decide (p.kind = "fault") && decide (s.2 = 0)) && p.test.so (y.prs s)) = true then
      R (.nx [some (.p y.pv), some (.p bv), some (.p (stPv s)), some (.p (.int (i : Nat))), some (.p (own (y.prs s))), none, none, some (.p (.str p.name)), some (.p p.owner), some (.p (.str p.kind)), some (.p p.test.pv), some (.p (.tup (p.sets.map setPv))), none, none, none, none, none, none]) (S ++ [.dead])
      else R (.ret (.p .non)) (S ++ [.dead])) → wp (exSs (run F m) bA (Ip.start 18 [.p y.pv, .p bv, .p (stPv s), .p (.int (i : Nat))])) S R := fun R hR => by
    simp [bA, b17, Ip.start, ix_steps hp]
    simp only [Gp.pv]
    simp [hd1]
    rw [hfr _ _ rfl]
    simp [hso]
    by_cases k1 : p.kind = "fault"
    · by_cases k2 : s.2 = 0
      · cases hq : p.test.so (y.prs s) <;> simp [k1, k2, hq] at hR ⊢ <;> exact hR
      · cases hq : p.test.so (y.prs s) <;> simp [k1, k2, hq] at hR ⊢ <;> exact hR
    · cases hq : p.test.so (y.prs s) <;> simp [k1, hq] at hR ⊢ <;> exact hR
  refine hA _ ?_
  have hpos : posB y bs s i p = (!(decide (p.kind = "fault") && decide (s.2 = 0)) && p.test.so (y.prs s) && (setL y s p).all (inR y) && !banned y bs s i) := rfl
  have tk2 : ∀ c d : Cell, (S ++ [c] ++ [d]).take S.length = S := fun c d => by simp
  by_cases hc : (!(decide (p.kind = "fault") && decide (s.2 = 0)) && p.test.so (y.prs s)) = true
  · rw [if_pos hc, aft_nx, wp_app]
    rw [hc, Bool.true_and] at hpos
    obtain ⟨S1, hS1⟩ : ∃ S1, S1 = S ++ [Cell.dead] := ⟨_, rfl⟩
    rw [← hS1]
    refine ban_loop hbv hbo hy hs (fun hbn => ?_) fun hbn e12 e13 => ?_
    · rw [aft_ret]
      show wp (leave false S.length _) _ _
      rw [wp_leaveP]
      have : posB y bs s i p = false := by rw [hpos, hbn]; simp
      exact ⟨by unfold behR; rw [this]; rfl, by rw [hS1, takeE]⟩
    rw [aft_nx, wp_app]
    rw [hbn, Bool.not_false, Bool.and_true] at hpos
    have hd2 := hd1 S1
    have hB : ∀ R : Flw → Store → Prop, (∀ e14 e15, R (.nx [some (.p y.pv), some (.p bv), some (.p (stPv s)), some (.p (.int (i : Nat))), some (.p (own (y.prs s))), some (.box S1.length), none, some (.p (.str p.name)), some (.p p.owner), some (.p (.str p.kind)), some (.p p.test.pv), some (.p (.tup (p.sets.map setPv))), e12, e13, e14, e15, none, none]) (S1 ++ [accC (curL y s (setL y s p))])) → wp (exSs (run F m) bB [some (.p y.pv), some (.p bv), some (.p (stPv s)), some (.p (.int (i : Nat))), some (.p (own (y.prs s))), none, none, some (.p (.str p.name)), some (.p p.owner), some (.p (.str p.kind)), some (.p p.test.pv), some (.p (.tup (p.sets.map setPv))), e12, e13, none, none, none, none]) S1 R := fun R hR => by
      have hw : ∀ q ∈ p.sets, ∀ S Q, wp (run F m 26 [.p q.2.pv, .p (own (y.prs s))]) S Q = Q (.p (.int (q.2.val (y.prs s)))) S := fun q hq S Q => lworth_ ((pk.sets q hq).2.2 _ (prs_names hs) (prs_small hy hs)) (pk.sets q hq).2.1 (by omega)
      simp only [bB, b17, List.drop_succ_cons, List.drop_zero, List.take_succ_cons, List.take_zero]
      simp [hd2]
      refine loopF_inv (fun xs env S' => ∃ dn acc e14 e15, p.sets = dn ++ acc ∧ xs = acc.map setPv ∧ S' = S1 ++ [accC (curL y s (dn.map fun q => (q.1, q.2.val (y.prs s))))] ∧ env = [some (.p y.pv), some (.p bv), some (.p (stPv s)), some (.p (.int (i : Nat))), some (.p (own (y.prs s))), some (.box S1.length), none, some (.p (.str p.name)), some (.p p.owner), some (.p (.str p.kind)), some (.p p.test.pv), some (.p (.tup (p.sets.map setPv))), e12, e13, e14, e15, none, none]) ⟨[], p.sets, none, none, rfl, rfl, by rw [List.map_nil, curL_nil], rfl⟩ ?_ ?_
      · rintro x r env S' ⟨dn, acc, e14, e15, hdn, hx, rfl, rfl⟩
        cases acc with
        | nil => cases hx
        | cons q acc =>
          cases hx
          have hq : q ∈ p.sets := by rw [hdn]; simp
          have q1 := (pk.sets q hq).1
          refine ⟨_, by simp [setPv]; rfl, ?_⟩
          have hnew : q.1 ∉ ((dn.map fun q => (q.1, q.2.val (y.prs s))).map (·.1)) := by
            have hnd := pk.nd
            rw [hdn, List.map_append, List.map_cons] at hnd
            have := (List.nodup_append.mp hnd).2.2
            intro hm
            rw [List.map_map] at hm
            exact this _ hm _ List.mem_cons_self rfl
          have hcn := curL_names hs (L := dn.map fun q => (q.1, q.2.val (y.prs s)))
          have hput := put_old (v := q.2.val (y.prs s)) (by rw [hcn]; exact hy.nd) (by rw [hcn]; exact q1)
          have hlen : (curL y s (dn.map fun q => (q.1, q.2.val (y.prs s)))).length ≤ 10 := by
            have := congrArg List.length hcn
            simp [Sy.names] at this
            rw [this]; exact hy.dl
          simp [hw q hq]
          rw [wp_subopD (m := false) (ks := (curL y s (dn.map fun q => (q.1, q.2.val (y.prs s)))).map fun q => .str q.1) (vs := (curL y s (dn.map fun q => (q.1, q.2.val (y.prs s)))).map fun q => .int q.2) (by rw [getE]; rfl), hput.1, hput.2]
          refine ⟨⟨rfl, by simp only [List.length_map, Line_val]; omega⟩, dn ++ [q], acc, by rw [hdn]; simp, rfl, ?_⟩
          rw [setE]
          rw [List.map_append, List.map_cons, List.map_nil, curL_snoc hnew]
          rfl
      · rintro env S' ⟨dn, acc, e14, e15, hdn, hx, rfl, rfl⟩
        have hacc : acc = [] := by cases acc with | nil => rfl | cons _ _ => cases hx
        subst hacc
        simp at hdn
        subst hdn
        simp
        exact hR e14 e15
    refine hB _ fun e14 e15 => ?_
    rw [aft_nx]
    have hnd := curL_names hs (L := setL y s p)
    have hlen : (curL y s (setL y s p)).length = y.data.length := by
      have := congrArg List.length hnd
      simpa [Sy.names] using this
    have hdl := hy.dl
    have hcell : ((S1 ++ [accC (curL y s (setL y s p))])[S1.length]?).bind cellV = some (own (curL y s (setL y s p))) := by rw [getE]; rfl
    have htk : ∀ c : Cell, (S1 ++ [c]).take S.length = S := fun c => by rw [hS1]; simp
    generalize hSt : S1 ++ [accC (curL y s (setL y s p))] = St at hcell htk ⊢
    have htk2 : St.take S.length = S := by rw [← hSt]; exact htk _
    have hnl := newV_len (p := p) hs
    have hv : ∀ {f6 f12 f13 f14 f15 f17 f7 f8 f9 f10 f11 f4 f3 f2 f1 : Option EV} (R : List PV → Store → Prop), wp (compL (fun x => some [some (.p y.pv), f1, f2, f3, f4, some (.box S1.length), f6, f7, f8, f9, f10, f11, f12, f13, f14, f15, some (.p x), f17]) (fun en => evIfs (run F m) [] en) (elt1 (run F m) (.ix (.var 5) (.ix (.var 16) (.con (.int 0))))) (y.data.map Dt.pv)) St R = R ((newV y s p).map PV.int) St := fun R => by
      rw [compL_map (fun _ => true) (fun v => match v with | .tup (.str n :: _) => .int ((look (curL y s (setL y s p)) n).getD 0) | _ => .non)]
      · rw [filt1, List.map_map, newV_eq, ← look_all (by rw [hnd]; exact hy.nd), hnd]
        unfold Sy.names
        rw [List.map_map, List.map_map]
        rfl
      · intro v hv R'
        rw [List.mem_map] at hv
        obtain ⟨d, hd, rfl⟩ := hv
        have hin : d.name ∈ (curL y s (setL y s p)).map (·.1) := by rw [hnd]; exact List.mem_map.mpr ⟨d, hd, rfl⟩
        rw [List.mem_map] at hin
        obtain ⟨q, hq, he⟩ := hin
        have hlk := look_of (by rw [hnd]; exact hy.nd) (show (q.1, q.2) ∈ curL y s (setL y s p) from hq)
        rw [he] at hlk
        simp [hcell]
        simp only [own, ix_d, keyB_fs, if_true, find_look, hlk, Option.map_some, wp_ofO]
        simp [Dt.pv, hlk]
    have hr : ∀ {f12 f13 f14 f15 f16 f17 f7 f8 f9 f10 f11 f4 f5 f2 f1 : Option EV} (R : List PV → Store → Prop), wp (compL (fun x => some [some (.p y.pv), f1, f2, some (.p x), f4, f5, some (.p (.tup ((newV y s p).map PV.int))), f7, f8, f9, f10, f11, f12, f13, f14, f15, f16, f17]) (fun en => evIfs (run F m) [.not (.chn .le .le (.con (.int 0)) (.ix (.var 6) (.var 3)) (.ix (.ix (.ix (.var 0) (.con (.int 0))) (.var 3)) (.con (.int 1))))] en) (elt1 (run F m) (.var 3)) (rngL 0 (y.data.length : Int))) St R = R ((rngL 0 (y.data.length : Int)).filter (badI y s p)) St := fun R => by
      rw [compL_map (badI y s p) (fun v => v)]
      · rw [List.map_id']
      · intro v hv R'
        obtain ⟨i, rfl, hi⟩ := mem_rng hv
        have hd : y.data[i]? = some y.data[i] := List.getElem?_eq_getElem hi
        have hv' : (newV y s p)[i]? = some ((newV y s p)[i]'(by omega)) := List.getElem?_eq_getElem (by omega)
        have a1 : atI ((newV y s p).map PV.int) (i : Int) = some (.int ((newV y s p)[i]'(by omega))) := by
          rw [atI_nat (by rw [List.length_map]; omega)]; simp
        have a2 : atI (y.data.map Dt.pv) (i : Int) = some (y.data[i]).pv := by
          rw [atI_nat (by rw [List.length_map]; omega)]; simp
        by_cases k1 : 0 ≤ (newV y s p)[i]'(by omega)
        · by_cases k2 : (newV y s p)[i]'(by omega) ≤ (y.data[i]).great
          · simp [a1, a2, badI, hd, hv', k1, k2]
          · simp [a1, a2, badI, hd, hv', k1, k2]
        · simp [a1, a2, badI, hd, hv', k1]
    have hsm : small (y.data.length : Int) = true := by unfold small; simp; omega
    have hfl : ((rngL 0 (y.data.length : Int)).filter (badI y s p)).length ≤ 16777216 := by
      refine Nat.le_trans (List.length_filter_le _ _) ?_
      simp [rngL]; omega
    have hok : okEq (.lst ((rngL 0 (y.data.length : Int)).filter (badI y s p))) (.lst []) = true := by
      have : plains ((rngL 0 (y.data.length : Int)).filter (badI y s p)) = true := by
        have key : ∀ l : List PV, (∀ x ∈ l, plain x = true) → plains l = true := by
          intro l
          induction l with
          | nil => intro _; rfl
          | cons x l ih => intro h; simp [h x List.mem_cons_self, ih fun z hz => h z (List.mem_cons_of_mem _ hz)]
        refine key _ fun x hx => ?_
        obtain ⟨i, rfl, _⟩ := mem_rng (List.mem_filter.mp hx).1
        rfl
      simp [okEq, this]
    have hnl2 : (newV y s p).length ≤ 16777216 := by omega
    simp only [bC, b17, List.drop_succ_cons, List.drop_zero]
    simp [hv, hnl, hnl2, hsm, hr, hfl, hok]
    have hb := bad_none hy hs pk
    rw [List.filter_eq_nil_iff] at hb
    have hkp : e17.fn.keep = false := rfl
    have kstr : ∀ z : Str, (z = Str.ofString "fault") = (z = "fault") := fun _ => rfl
    have hgoal : ∀ w : EV, w = EV.p (behR y bs s i p) → wp (leave e17.fn.keep S.length (.ret w)) St (fun a s_1 => a = EV.p (behR y bs s i p) ∧ s_1 = S) := by
      rintro w rfl
      rw [hkp]
      show wp (leave false S.length _) _ _
      rw [wp_leaveP]
      exact ⟨rfl, htk2⟩
    refine ⟨by omega, ?_⟩
    by_cases hall : (setL y s p).all (inR y) = true
    · have h1 : ∀ a : PV, a ∈ rngL 0 (y.data.length : Int) → badI y s p a = false := fun a ha => by
        have := hb.mpr hall a ha
        simpa using this
      have h2 : posB y bs s i p = true := by rw [hpos, hall]
      rw [if_pos h1]
      by_cases hk : p.kind = "fault"
      · rw [if_pos hk]
        refine hgoal _ ?_
        unfold behR after lowF stPv
        rw [if_pos h2, if_pos hk]
      · rw [if_neg hk]
        refine hgoal _ ?_
        unfold behR after lowF stPv
        rw [if_pos h2, if_neg hk]
        simp
    · have h1 : ¬ ∀ a : PV, a ∈ rngL 0 (y.data.length : Int) → badI y s p a = false := fun h => hall (hb.mp fun a ha => by simp [h a ha])
      have h2 : posB y bs s i p = false := by rw [hpos, Bool.eq_false_iff.mpr hall]
      rw [if_neg h1]
      refine hgoal _ ?_
      unfold behR
      rw [h2]; rfl
  · rw [if_neg hc, aft_ret]
    show wp (leave false S.length _) _ _
    rw [wp_leaveP]
    have : posB y bs s i p = false := by
      rw [hpos, Bool.eq_false_iff.mpr hc]; rfl
    exact ⟨by unfold behR; rw [this]; rfl, takeE⟩
end L15

set_option Elab.async false
set_option linter.all false
set_option maxRecDepth 100000
set_option maxHeartbeats 4000000
namespace L15
open PySem L2 Ip Gm
variable {S : Store} {Q : EV → Store → Prop} {y : Sy} {s : Gs} {p : Gp} {m : Nat} {bs : List Ban} {gr : PV}
theorem wp_cmpNe {n : Nat} {xs : List PV} {Q : EV → Store → Prop} (h : S[n]? = some (.lst xs)) (hp : plains xs = true) : wp (cmpE .ne (.box n) (.p (.lst []))) S Q = Q (.p (.bl (!xs.isEmpty))) S := by
  have ho : okEq (.lst xs) (.lst []) = true := by simp [okEq, hp]
  have hc : cmpop .ne (.lst xs) (.lst []) = some (!xs.isEmpty) := by simp [ho]
  unfold cmpE
  simp [h, cellV, hc]
  exact fun _ => ho
theorem wp_chkA {n : Nat} {xs : List PV} {Q : Unit → Store → Prop} (h : S[n]? = some (.lst xs)) : wp (chkM .append (.box n)) S Q = Q () S := by
  have e : chkM .append (.box n) S = .ok () S := by simp [chkM, h]
  unfold wp
  rw [e]
theorem wp_appB {n : Nat} {xs : List PV} {v : PV} {Q : EV → Store → Prop} (h : S[n]? = some (.lst xs)) (hl : xs.length < Line) : wp (methop .append (.box n) [v]) S Q = Q (.p .non) (S.set n (.lst (xs ++ [v]))) := by
  have e : methop .append (.box n) [v] S = .ok (.p .non) (S.set n (.lst (xs ++ [v]))) := by simp [methop, h, hl]
  unfold wp
  rw [e]
theorem wp_leaveB {n k : Nat} {xs : List PV} {Q : EV → Store → Prop} (h : S[n]? = some (.lst xs)) (hk : k ≤ n) : wp (leave false k (.ret (.box n))) S Q = Q (.p (.lst xs)) (S.take k) := by
  have e : leave false k (.ret (.box n)) S = .ok (.p (.lst xs)) (S.take k) := by simp [leave, h, cellV, Nat.not_lt.mpr hk]
  unfold wp
  rw [e]
theorem non_st (w : Gs) : Ip.isNon (stPv w) = false := rfl
def lvP (y : Sy) (bs : List Ban) (s : Gs) (q : Gp × Nat) : PV := .tup [.int (q.2 : Int), behR y bs s q.2 q.1]
theorem lcomp1 {bv : PV} (hbv : itemsOf bv = some (bs.map banPv)) (hbo : BanOk y bs) (hy : YOk y) (hs : SOk y s) (hm : 30 ≤ m) {f3 f4 f5 f7 f8 : Option EV} : ∀ (l : List (Gp × Nat)), (∀ q ∈ l, y.steps[q.2]? = some q.1) → ∀ R : List PV → Store → Prop, wp (compL (fun x => some [some (.p y.pv), some (.p bv), some (.p (stPv s)), f3, f4, f5, some (.p x), f7, f8]) (fun en => evIfs (run F m) [] en) (elt1 (run F m) (.tup [.var 6, .call 17 [.var 0, .var 1, .var 2, .var 6]])) (l.map fun q => PV.int (q.2 : Int))) S R = R (l.map (lvP y bs s)) S
  | [], _, R => rfl
  | q :: l, h, R => by
    rw [List.map_cons, compL1]
    have h2 : ∀ S Q, wp (run F m 17 [.p y.pv, .p bv, .p (stPv s), .p (.int (q.2 : Nat))]) S Q = Q (.p (behR y bs s q.2 q.1)) S := fun S Q => law_behind hbv hbo hy hs (h q List.mem_cons_self) hm
    have ih := lcomp1 hbv hbo hy hs hm (f3 := f3) (f4 := f4) (f5 := f5) (f7 := f7) (f8 := f8) l fun r hr => h r (List.mem_cons_of_mem _ hr)
    simp [h2, ih, lvP]
theorem lcomp2 {m : Nat} {S : Store} {f1 f3 f4 f5 f6 f7 : Option EV} : ∀ (l : List (Gp × Nat)), ∀ R : List PV → Store → Prop, wp (compL (fun x => some [some (.p y.pv), f1, some (.p (stPv s)), f3, f4, f5, f6, f7, some (.p x)]) (fun en => evIfs (run F m) [.cmp .isnot (.ix (.var 8) (.con (.int 1))) (.con .non)] en) (elt1 (run F m) (.var 8)) (l.map (lvP y bs s))) S R = R ((l.filter fun q => posB y bs s q.2 q.1).map fun q => mvPv (.int (q.2 : Int), after y s q.1)) S
  | [], R => rfl
  | q :: l, R => by
    rw [List.map_cons, compL1]
    have ih := fun R => lcomp2 (m := m) (S := S) (f1 := f1) (f3 := f3) (f4 := f4) (f5 := f5) (f6 := f6) (f7 := f7) l R
    cases hp : posB y bs s q.2 q.1 <;> simp [lvP, behR, hp, ih, mvPv, non_st]
theorem lcomp3 (hy : YOk y) (hs : SOk y s) (hm : 30 ≤ m) {f1 f3 f4 f5 f7 f8 : Option EV} : ∀ (l : List (Gp × Nat)), (∀ q ∈ l, y.steps[q.2]? = some q.1) → ∀ R : List PV → Store → Prop, wp (compL (fun x => some [some (.p y.pv), f1, some (.p (stPv s)), f3, f4, f5, some (.p x), f7, f8]) (fun en => evIfs (run F m) [(.and (.cmp .eq (.ix (.ix (.ix (.var 0) (.con (.int 2))) (.var 6)) (.con (.int 2))) (.con (.str "urgent"))) (.cmp .isnot (.call 17 [(.var 0), (.tup []), (.var 2), (.var 6)]) (.con .non)))] en) (elt1 (run F m) (.var 6)) (l.map fun q => PV.int (q.2 : Int))) S R = R ((l.filter fun (q : Gp × Nat) => decide (q.1.kind = ("urgent" : Str)) && posB y [] s q.2 q.1).map fun q => .int (q.2 : Int)) S
  | [], _, R => rfl
  | q :: l, h, R => by
    rw [List.map_cons, compL1]
    have h2 : ∀ S Q, wp (run F m 17 [.p y.pv, .p (.tup []), .p (stPv s), .p (.int (q.2 : Nat))]) S Q = Q (.p (behR y [] s q.2 q.1)) S := fun S Q => law_behind (bs := []) rfl ⟨by simp, by simp, by simp⟩ hy hs (h q List.mem_cons_self) hm
    have ih := lcomp3 hy hs hm (f1 := f1) (f3 := f3) (f4 := f4) (f5 := f5) (f7 := f7) (f8 := f8) l fun r hr => h r (List.mem_cons_of_mem _ hr)
    have hq := ix_steps (h q List.mem_cons_self)
    by_cases hk : q.1.kind = "urgent"
    · cases hp : posB y [] s q.2 q.1 <;> simp [h2, hp, hk, hq, ih, behR, non_st]
    · simp [hk, hq, ih]
theorem zip_le {ds : List Dt} {vs : List Int} (h : Ins ds vs) : ∀ q ∈ ds.zip vs, 0 ≤ q.2 ∧ q.2 ≤ q.1.great := by
  induction h with
  | nil => simp
  | cons h0 h1 _ ih =>
    intro q hq
    rcases List.mem_cons.mp hq with rfl | hq
    · exact ⟨h0, h1⟩
    · exact ih q hq
theorem law_moves {bv : PV} (hbv : itemsOf bv = some (bs.map banPv)) (hbo : BanOk y bs) (hy : YOk y) (hs : SOk y s) (hm : 40 ≤ m) : wp (run F m 7 [.p y.pv, .p bv, .p (stPv s)]) S Q = Q (.p (.lst ((moves y bs s).map mvPv))) S := by
  refine wp_det ?_ Q
  obtain ⟨m, rfl⟩ : ∃ k, m = k + 1 := ⟨m - 1, by omega⟩
  rw [wp_run (d := e7.fn) rfl rfl]
  have hsm : small (y.steps.length : Int) = true := by unfold small; have := hy.sl; simp; omega
  have hsl := hy.sl
  simp [e7, b7, hsm, rng_idx]
  rw [lcomp1 hbv hbo hy hs (by omega) y.steps.zipIdx fun q hq => idx_mem hq]
  have hl0 : y.steps.length ≤ 16777216 := by omega
  simp [hl0]
  simp only [lcomp2]
  rw [show (y.steps.zipIdx.filter fun q => posB y bs s q.2 q.1) = posS y bs s from rfl]
  have hpl : (posS y bs s).length ≤ 10 := Nat.le_trans posS_len hy.sl
  have hl : (posS y bs s).length ≤ 16777216 := by omega
  simp [hl, evIt]
  have hlen := hs.ins.len
  have hdl := hy.dl
  have z1 : (y.data.zip s.1).map (·.1) = y.data := List.map_fst_zip (by omega)
  have z2 : (y.data.zip s.1).map (·.2) = s.1 := List.map_snd_zip (by omega)
  have hz : (y.data.zip s.1).length ≤ 10 := by rw [List.length_zip]; omega
  have zle := zip_le hs.ins
  obtain ⟨S1, hS1⟩ : ∃ S1, S1 = S ++ [Cell.lst (List.map (fun q => mvPv (PV.int (q.2 : Int), after y s q.1)) (posS y bs s))] := ⟨_, rfl⟩
  rw [← hS1]
  refine loopF_inv (fun xs env S' => S' = S1 ∧ ∃ dn rs e6 e7, y.data.zip s.1 = dn ++ rs ∧ xs = enumL dn.length (rs.map fun q => q.1.pv) ∧ env = [some (.p y.pv), some (.p bv), some (.p (stPv s)), some (.box S.length), some (.p (.tup ((dn.map tk).map PV.int))), none, e6, e7, none]) ⟨rfl, [], y.data.zip s.1, none, none, rfl, ?_, rfl⟩ ?_ ?_
  · conv => lhs; rw [← z1]
    rw [List.map_map]; rfl
  · rintro x r env S' ⟨rfl, dn, rs, e6, e7, hdn, hx, rfl⟩
    cases rs with
    | nil => cases hx
    | cons q rs =>
      simp [enumL] at hx
      obtain ⟨rfl, rfl⟩ := hx
      have hq : q ∈ y.data.zip s.1 := by rw [hdn]; simp
      have hqv : s.1[dn.length]? = some q.2 := by rw [← z2, hdn]; simp
      have hdl : dn.length ≤ 10 := by rw [hdn] at hz; simp at hz; omega
      have hl : dn.length + 1 ≤ 16777216 := by omega
      have ha : atI (s.1.map PV.int) (dn.length : Int) = some (.int q.2) := by
        have hi := (List.getElem?_eq_some_iff.mp hqv).1
        rw [atI_nat (by rw [List.length_map]; exact hi)]
        have := (List.getElem?_eq_some_iff.mp hqv).2
        simp [this]
      obtain ⟨c1, c2⟩ := zle q hq
      have c3 := (hy.gr q.1 (List.of_mem_zip hq).1).2.2
      have hsv : small (q.2 + 1) = true := by unfold small; simp; omega
      refine ⟨_, rfl, ?_⟩
      cases hc : q.1.clk with
      | true =>
        simp [hc, hl, ha, hsv]
        refine ⟨dn ++ [q], rs, by rw [hdn]; simp, by simp, ?_⟩
        have : (if q.2 + 1 < q.1.great then q.2 + 1 else q.1.great) = tk q := by
          unfold tk
          by_cases g : q.2 < q.1.great
          · simp only [hc, g, and_self, if_true]; split <;> omega
          · simp only [hc, g, and_false, if_false]; split <;> omega
        rw [this]; simp
      | false =>
        simp [hc, hl, ha]
        exact ⟨dn ++ [q], rs, by rw [hdn]; simp, by simp, by simp [tk, hc]⟩
  · rintro env S' ⟨rfl, dn, rs, e6, e7, hdn, hx, rfl⟩
    have hrs : rs = [] := by cases rs with | nil => rfl | cons _ _ => cases hx
    subst hrs
    simp at hdn
    subst hdn
    have ht : (y.data.zip s.1).map tk = tickV y s := by rw [tickV, tick_zip]
    rw [ht]
    have hcell : S'[S.length]? = some (Cell.lst (List.map (fun q => mvPv (PV.int (q.2 : Int), after y s q.1)) (posS y bs s))) := by rw [hS1]; simp
    simp [hsm, rng_idx]
    rw [lcomp3 hy hs (by omega) y.steps.zipIdx fun q hq => idx_mem hq]
    obtain ⟨us, hus⟩ : ∃ us, us = y.steps.zipIdx.filter (fun q => decide (q.1.kind = ("urgent" : Str)) && posB y [] s q.2 q.1) := ⟨_, rfl⟩
    have hul : us.length ≤ 10 := by
      rw [hus]
      refine Nat.le_trans (List.length_filter_le _ _) ?_
      simp; omega
    have hul2 : us.length ≤ 16777216 := by omega
    have hct : canTick y s = (!decide (tickV y s = s.1) && us.isEmpty) := by
      have : us.isEmpty = !(y.steps.zipIdx.any fun q => decide (q.1.kind = ("urgent" : Str)) && posB y [] s q.2 q.1) := by
        rw [hus, Bool.eq_iff_iff, Bool.not_eq_true', List.any_eq_false, List.isEmpty_iff, List.filter_eq_nil_iff]
      rw [this]; rfl
    rw [← hus]
    have pli : ∀ l : List (Gp × Nat), plains (l.map fun q => PV.int (q.2 : Int)) = true := by
      intro l
      induction l with
      | nil => rfl
      | cons q l ih => simp [ih]
    have oku : okEq (.lst (us.map fun q => PV.int (q.2 : Int))) (.lst []) = true := by simp [okEq, pli]
    have pl1 : plains ((posS y bs s).map fun q => mvPv (.int (q.2 : Int), after y s q.1)) = true := by
      have := plains_mv ((posS y bs s).map fun q => (PV.int (q.2 : Int), after y s q.1)) fun q hq => by
        rw [List.mem_map] at hq
        obtain ⟨r, _, rfl⟩ := hq
        rfl
      rwa [List.map_map] at this
    have pl2 : plains ((posS y bs s).map (fun q => mvPv (.int (q.2 : Int), after y s q.1)) ++ [.tup [.str "tick", .tup [.tup ((tickV y s).map PV.int), .int s.2]]]) = true := by
      have := plains_mv ((posS y bs s).map (fun q => (PV.int (q.2 : Int), after y s q.1)) ++ [(.str "tick", (tickV y s, s.2))]) fun q hq => by
        rcases List.mem_append.mp hq with hq | hq
        · rw [List.mem_map] at hq
          obtain ⟨r, _, rfl⟩ := hq
          rfl
        · rw [List.mem_singleton.mp hq]; rfl
      rwa [List.map_append, List.map_map] at this
    have tk1 : S'.take S.length = S := by rw [hS1]; simp
    -- without the tick
    have hA : canTick y s = false → wp (cmpE .ne (.box S.length) (.p (.lst []))) S' (fun x S_1 => wp (truthE x) S_1 fun k S_2 => if k = true then wp (leave false S.length (.ret (.box S.length))) S_2 fun a s_1 => a = EV.p (.lst ((moves y bs s).map mvPv)) ∧ s_1 = S else [PV.tup [PV.str (Str.ofString "rest"), stPv s]] = (moves y bs s).map mvPv ∧ S_2.take S.length = S) := fun hc => by
      rw [wp_cmpNe hcell pl1, wp_truthP]
      rw [moves_eq, hc]
      by_cases h0 : posS y bs s = []
      · simp [h0, mvPv, tk1]
      · simp [h0]
        rw [wp_leaveB hcell (Nat.le_refl _)]
        simp [tk1, mvPv, Function.comp_def]
    have hB : canTick y s = true → wp (chkM .append (.box S.length)) S' (fun x S_1 => wp (methop .append (.box S.length) [PV.tup [PV.str (Str.ofString "tick"), PV.tup [PV.tup ((tickV y s).map PV.int), PV.int s.2]]]) S_1 fun x S_2 => wp (cmpE .ne (.box S.length) (.p (.lst []))) S_2 (fun x S_1 => wp (truthE x) S_1 fun k S_2 => if k = true then wp (leave false S.length (.ret (.box S.length))) S_2 fun a s_1 => a = EV.p (.lst ((moves y bs s).map mvPv)) ∧ s_1 = S else [PV.tup [PV.str (Str.ofString "rest"), stPv s]] = (moves y bs s).map mvPv ∧ S_2.take S.length = S)) := fun hc => by
      rw [wp_chkA hcell, wp_appB hcell (by rw [List.length_map]; unfold Line; omega)]
      have hcell2 : (S'.set S.length (.lst ((posS y bs s).map (fun q => mvPv (.int (q.2 : Int), after y s q.1)) ++ [.tup [.str "tick", .tup [.tup ((tickV y s).map PV.int), .int s.2]]])))[S.length]? = some (.lst ((posS y bs s).map (fun q => mvPv (.int (q.2 : Int), after y s q.1)) ++ [.tup [.str "tick", .tup [.tup ((tickV y s).map PV.int), .int s.2]]])) := by
        rw [List.getElem?_set_self (by rw [hS1]; simp)]
      rw [wp_cmpNe hcell2 pl2, wp_truthP]
      rw [moves_eq, hc]
      simp
      rw [wp_leaveB hcell2 (Nat.le_refl _)]
      have : ∀ c : Cell, (S'.set S.length c).take S.length = S := fun c => by rw [hS1]; simp
      simp [this]
      rfl
    simp [hul2, ok_ints, eqPs_ints, oku]
    by_cases k1 : tickV y s = s.1
    · rw [if_pos k1, if_pos k1]
      exact hA (by rw [hct]; simp [k1])
    · rw [if_neg k1]
      by_cases k2 : us = []
      · rw [if_pos k2]
        exact hB (by rw [hct]; simp [k1, k2])
      · rw [if_neg k2]
        exact hA (by rw [hct]; simp [k1, k2])
end L15

set_option Elab.async false
set_option linter.all false
set_option maxRecDepth 100000
set_option maxHeartbeats 4000000
namespace L15
open PySem L2 Ip Gm
theorem hroll : F 3 = some rollF := rfl
theorem hsome : F 5 = some (someF 3) := rfl
theorem hcup : F 1 = some cupF := rfl
variable {m : Nat} {T : Store} {Q : EV → Store → Prop} {xs : List PV} {a b : Int} {ns : List Str}
theorem roll' {n : Int} (c : CupOk a b) (hm : 1 ≤ m) (n0 : 0 < n) (n1 : n < 1000000) (hQ : ∀ r a' b', CupOk a' b' → 0 ≤ r → r < n → Q (.p (.int r)) (cup a' b' :: T)) : wp (run F m 3 [.box 0, .p (.int n)]) (cup a b :: T) Q := by
  obtain ⟨m, rfl⟩ : ∃ k, m = k + 1 := ⟨m - 1, by omega⟩
  exact roll_ok hroll c n0 n1 hQ
theorem some' (c : CupOk a b) (hm : 2 ≤ m) (n0 : xs ≠ []) (n1 : xs.length < 1000000) (hQ : ∀ x a' b', CupOk a' b' → x ∈ xs → Q (.p x) (cup a' b' :: T)) : wp (run F m 5 [.box 0, .p (.lst xs)]) (cup a b :: T) Q := by
  obtain ⟨m, rfl⟩ : ∃ k, m = k + 2 := ⟨m - 2, by omega⟩
  exact some_ok hroll hsome c n0 n1 hQ
def Ep.dr (ns : List Str) : Ep → Prop
  | .is n => 0 ≤ n ∧ n ≤ 4
  | .of x => x ∈ ns
  | .op _ a b => Ep.dr ns a ∧ Ep.dr ns b
def Tt.dr (ns : List Str) : Tt → Prop
  | .cst _ => True
  | .lf _ a b => Ep.dr ns a ∧ Ep.dr ns b ∧ a.units ≤ 9 ∧ b.units ≤ 9
  | .not t => Tt.dr ns t
  | .bop _ a b => Tt.dr ns a ∧ Tt.dr ns b
theorem look_ex {x : Str} : ∀ {l : List (Str × Int)}, x ∈ l.map (·.1) → (∀ q ∈ l, q.2.natAbs ≤ 9) → ∃ i, look l x = some i ∧ i.natAbs ≤ 9 := fun {l} h g => by
  unfold look
  cases hf : l.find? fun q => q.1 == x with
  | none =>
    rw [List.find?_eq_none] at hf
    rw [List.mem_map] at h
    obtain ⟨q, hq, e⟩ := h
    exact absurd (hf q hq) (by simp [e])
  | some q => exact ⟨q.2, rfl, g q (List.mem_of_find?_eq_some hf)⟩
theorem Ep.dr_ok {l : List (Str × Int)} (h : l.map (·.1) = ns) (g : ∀ q ∈ l, q.2.natAbs ≤ 9) : ∀ {e : Ep}, Ep.dr ns e → e.ok l
  | .is n, hd => by
    have h1 : 0 ≤ n ∧ n ≤ 4 := hd
    show n.natAbs ≤ 9
    omega
  | .of x, hd => look_ex (by rw [h]; exact hd) g
  | .op _ a b, hd => ⟨Ep.dr_ok h g hd.1, Ep.dr_ok h g hd.2⟩
theorem Tt.dr_ok {l : List (Str × Int)} (h : l.map (·.1) = ns) (g : ∀ q ∈ l, q.2.natAbs ≤ 9) : ∀ {e : Tt}, Tt.dr ns e → e.ok l
  | .cst _, _ => trivial
  | .lf _ a b, hd => ⟨Ep.dr_ok h g hd.1, Ep.dr_ok h g hd.2.1, hd.2.2⟩
  | .not t, hd => Tt.dr_ok (e := t) h g hd
  | .bop _ a b, hd => ⟨Tt.dr_ok h g hd.1, Tt.dr_ok h g hd.2⟩
def nmsP (ns : List Str) : PV := .lst (ns.map PV.str)
theorem ok_nms : okEq (nmsP ns) (.lst []) = true := by
  have : ∀ l : List Str, plains (l.map PV.str) = true := fun l => by
    induction l with
    | nil => rfl
    | cons x l ih => simp [ih]
  simp [okEq, nmsP, this]
theorem ne_nms (h : ns ≠ []) : eqP (nmsP ns) (.lst []) = false := by
  cases ns with
  | nil => exact absurd rfl h
  | cons x l => simp [nmsP]
theorem expr_ok (hl : ns.length ≤ 10) (hne : ns ≠ []) : ∀ (u m : Nat) (a b : Int) (T : Store) (Q : EV → Store → Prop), CupOk a b → u ≤ 3 → u + 3 ≤ m → (∀ (e : Ep) a' b', CupOk a' b' → Ep.dr ns e → e.units ≤ 2 ^ u → Q (.p e.pv) (cup a' b' :: T)) → wp (run F m 10 [.box 0, .p (nmsP ns), .p (.int (u : Nat))]) (cup a b :: T) Q := by
  intro u
  induction u with
  | zero =>
    intro m a b T Q c hu hm hQ
    obtain ⟨m, rfl⟩ : ∃ k, m = k + 1 := ⟨m - 1, by omega⟩
    rw [wp_run (d := e10.fn) rfl rfl]
    simp [e10, b10, ok_nms, ne_nms hne]
    refine roll' c (by omega) (by decide) (by decide) fun r a b c h0 h1 => ?_
    simp
    split
    · refine some' c (by omega) (by simpa [nmsP] using hne) (by simp; omega) fun x a b c hx => ?_
      rw [List.mem_map] at hx
      obtain ⟨z, hz, rfl⟩ := hx
      simpa [Ep.pv] using hQ (.of z) a b c hz (by simp only [Ep.units]; omega)
    · refine roll' c (by omega) (by decide) (by decide) fun r a b c h0 h1 => ?_
      simpa [Ep.pv] using hQ (.is r) a b c ⟨h0, by omega⟩ (by simp only [Ep.units]; omega)
  | succ u ih =>
    intro m a b T Q c hu hm hQ
    obtain ⟨m, rfl⟩ : ∃ k, m = k + 1 := ⟨m - 1, by omega⟩
    rw [wp_run (d := e10.fn) rfl rfl]
    have h0u : ¬ ((u : Int) + 1 = 0) := by omega
    have hp : 1 ≤ 2 ^ (u + 1) := Nat.one_le_two_pow
    simp [e10, b10, ok_nms, ne_nms hne, h0u]
    refine roll' c (by omega) (by decide) (by decide) fun r a b c h0 h1 => ?_
    simp
    split
    · refine roll' c (by omega) (by decide) (by decide) fun r a b c h0 h1 => ?_
      simp
      split
      · refine some' c (by omega) (by simpa [nmsP] using hne) (by simp; omega) fun x a b c hx => ?_
        rw [List.mem_map] at hx
        obtain ⟨z, hz, rfl⟩ := hx
        simpa [Ep.pv] using hQ (.of z) a b c hz (by simp only [Ep.units]; omega)
      · refine roll' c (by omega) (by decide) (by decide) fun r a b c h0 h1 => ?_
        simpa [Ep.pv] using hQ (.is r) a b c ⟨h0, by omega⟩ (by simp only [Ep.units]; omega)
    · refine some' c (by omega) (by simp) (by simp) fun x a b c hx => ?_
      refine ih _ a b T _ c (by omega) (by omega) fun v a b c g1 u1 => ?_
      simp
      refine ih _ a b T _ c (by omega) (by omega) fun v2 a b c g2 u2 => ?_
      simp
      simp at hx
      obtain ⟨o, rfl⟩ : ∃ o : Op, x = .str o.w := by
        rcases hx with rfl | rfl | rfl | rfl
        · exact ⟨.plus, rfl⟩
        · exact ⟨.minus, rfl⟩
        · exact ⟨.times, rfl⟩
        · exact ⟨.rest, rfl⟩
      exact hQ (.op o v v2) a b c ⟨g1, g2⟩ (by simp only [Ep.units]; rw [Nat.pow_succ]; omega)
theorem lf_ok (hl : ns.length ≤ 10) (hne : ns ≠ []) (c : CupOk a b) (hm : 5 ≤ m) {R : PV → Prop} {n : Nat} (hn : n = T.length + 1) (hQ : ∀ (t : Tt) a' b', CupOk a' b' → Tt.dr ns t → t.ht = 0 → Q (.p t.pv) (cup a' b' :: T)) : wp (run F m 5 [.box 0, .p (.lst [.str "same", .str "unlike", .str "less", .str "most"])]) (cup a b :: T) (fun v S => wp (run F m 10 [.box 0, .p (nmsP ns), .p (.int 1)]) S fun v1 S => wp (run F m 10 [.box 0, .p (nmsP ns), .p (.int 1)]) S fun v2 S => wp (ofO (pures [v, v1, v2])) S fun xs S => Q (.p (.tup xs)) (S.take n)) := by
  subst hn
  refine some' c (by omega) (by simp) (by simp) fun x a b c hx => ?_
  refine expr_ok hl hne 1 m _ _ T _ c (by decide) (by omega) fun v a b c g1 u1 => ?_
  refine expr_ok hl hne 1 m _ _ T _ c (by decide) (by omega) fun v2 a b c g2 u2 => ?_
  simp at hx
  obtain ⟨o, rfl⟩ : ∃ o : Cw, x = .str o.w := by
    rcases hx with rfl | rfl | rfl | rfl
    · exact ⟨.same, rfl⟩
    · exact ⟨.unlike, rfl⟩
    · exact ⟨.less, rfl⟩
    · exact ⟨.most, rfl⟩
  simp
  exact hQ (.lf o v v2) a b c ⟨g1, g2, by omega, by omega⟩ rfl
theorem test_ok (hl : ns.length ≤ 10) (hne : ns ≠ []) : ∀ (u m : Nat) (a b : Int) (T : Store) (Q : EV → Store → Prop), CupOk a b → u ≤ 3 → u + 8 ≤ m → (∀ (t : Tt) a' b', CupOk a' b' → Tt.dr ns t → t.ht ≤ u → Q (.p t.pv) (cup a' b' :: T)) → wp (run F m 11 [.box 0, .p (nmsP ns), .p (.int (u : Nat))]) (cup a b :: T) Q := by
  intro u
  induction u with
  | zero =>
    intro m a b T Q c hu hm hQ
    obtain ⟨m, rfl⟩ : ∃ k, m = k + 1 := ⟨m - 1, by omega⟩
    rw [wp_run (d := e11.fn) rfl rfl]
    simp [e11, b11]
    refine roll' c (by omega) (by decide) (by decide) fun r a b c h0 h1 => ?_
    simp
    split
    · refine some' c (by omega) (by simp) (by simp) fun x a b c hx => ?_
      simp at hx
      rcases hx with rfl | rfl
      · simpa [Tt.pv] using hQ (.cst true) a b c trivial (Nat.le_refl _)
      · simpa [Tt.pv] using hQ (.cst false) a b c trivial (Nat.le_refl _)
    · split
      · exact lf_ok (R := fun _ => True) hl hne c (by omega) rfl fun t a b c g1 u1 => hQ t a b c g1 (by omega)
      · exact lf_ok (R := fun _ => True) hl hne c (by omega) rfl fun t a b c g1 u1 => hQ t a b c g1 (by omega)
  | succ u ih =>
    intro m a b T Q c hu hm hQ
    obtain ⟨m, rfl⟩ : ∃ k, m = k + 1 := ⟨m - 1, by omega⟩
    rw [wp_run (d := e11.fn) rfl rfl]
    have h0u : ¬ ((u : Int) + 1 = 0) := by omega
    simp [e11, b11, h0u]
    refine roll' c (by omega) (by decide) (by decide) fun r a b c h0 h1 => ?_
    simp
    split
    · refine some' c (by omega) (by simp) (by simp) fun x a b c hx => ?_
      simp at hx
      rcases hx with rfl | rfl
      · simpa [Tt.pv] using hQ (.cst true) a b c trivial (Nat.zero_le _)
      · simpa [Tt.pv] using hQ (.cst false) a b c trivial (Nat.zero_le _)
    · split
      · exact lf_ok (R := fun _ => True) hl hne c (by omega) rfl fun t a b c g1 u1 => hQ t a b c g1 (by omega)
      · split
        · refine ih _ a b T _ c (by omega) (by omega) fun t a b c g1 u1 => ?_
          simpa [Tt.pv] using hQ (.not t) a b c g1 (by simp only [Tt.ht]; omega)
        · refine some' c (by omega) (by simp) (by simp) fun x a b c hx => ?_
          refine ih _ a b T _ c (by omega) (by omega) fun v a b c g1 u1 => ?_
          refine ih _ a b T _ c (by omega) (by omega) fun v2 a b c g2 u2 => ?_
          simp at hx
          rcases hx with rfl | rfl
          · simpa [Tt.pv] using hQ (.bop true v v2) a b c ⟨g1, g2⟩ (by simp only [Tt.ht]; omega)
          · simpa [Tt.pv] using hQ (.bop false v v2) a b c ⟨g1, g2⟩ (by simp only [Tt.ht]; omega)
end L15

set_option Elab.async false
set_option linter.all false
set_option maxRecDepth 100000
set_option maxHeartbeats 4000000
namespace L15
open PySem L2 Ip Gm
variable {m : Nat} {T : Store} {Q : EV → Store → Prop} {xs : List PV} {a b : Int} {ns : List Str}
theorem names_loop (hm : 2 ≤ m) : ∀ (l : List Str) (a b : Int) (R : List PV → Store → Prop), CupOk a b → (∀ (l' : List Str) a b, CupOk a b → l'.Sublist l → R (l'.map PV.str) (cup a b :: T)) → wp (compL (fun x => some [some (.box 0), some (.p (nmsP ns)), some (.p x)]) (fun en => evIfs (run F m) [.cmp .eq (.call 3 [.var 0, .con (.int 2)]) (.con (.int 0))] en) (elt1 (run F m) (.var 2)) (l.map PV.str)) (cup a b :: T) R
  | [], a, b, R, c, h => h [] a b c (List.Sublist.refl _)
  | x :: l, a, b, R, c, h => by
    rw [List.map_cons, compL1]
    simp
    refine roll' c (by omega) (by decide) (by decide) fun r a b c h0 h1 => ?_
    simp
    split
    · refine names_loop hm l a b _ c fun l' a b c s => ?_
      have := h (x :: l') a b c (s.cons_cons x)
      simpa using this
    · exact names_loop hm l a b R c fun l' a b c s => h l' a b c (s.cons _)
theorem law_names (hl : ns.length ≤ 10) (c : CupOk a b) (hm : 3 ≤ m) (hQ : ∀ (l : List Str) a' b', CupOk a' b' → l.Sublist ns → Q (.p (.tup (l.map PV.str))) (cup a' b' :: T)) : wp (run F m 9 [.box 0, .p (nmsP ns)]) (cup a b :: T) Q := by
  obtain ⟨m, rfl⟩ : ∃ k, m = k + 1 := ⟨m - 1, by omega⟩
  rw [wp_run (d := e9.fn) rfl rfl]
  simp [e9, b9]
  have hi : itemsOf (nmsP ns) = some (ns.map PV.str) := rfl
  rw [hi, wp_ofO]
  refine names_loop (by omega) ns a b _ c fun l a b c s => ?_
  have := s.length_le
  have hl2 : l.length ≤ 16777216 := by omega
  simp [hl2]
  exact hQ l a b c s
def abc : List Str := ["a", "b", "c"]
def sA : List Sx := b2.take 2
theorem part_data {eX2 eX7 eX3 eX4 eX5 eX6 e2 eX9 eX10 eX11 e10 e7 e11 e12 e1 : Option EV} {R : Flw → Store → Prop} (c : CupOk a b) (hm : 5 ≤ m) (h : ∀ (ds : List Dt) a b eX2 eX7, CupOk a b → ds ≠ [] → ds.length ≤ 3 → (∃ k, ds.map Dt.name = abc.take k) → (∀ d ∈ ds, 0 ≤ d.first ∧ d.first ≤ d.great ∧ d.great ≤ 3) → R (.nx [some (.box 0), some (.p (.tup (ds.map Dt.pv))), eX2, eX3, eX4, eX5, eX6, eX7, e2, eX9, eX10, eX11, e10, e7, e11, e12]) (cup a b :: T)) : wp (exSs (run F m) sA [some (.box 0), e1, eX2, eX3, eX4, eX5, eX6, eX7, e2, eX9, eX10, eX11, e10, e7, e11, e12]) (cup a b :: T) R := by
  simp only [sA, b2, List.take_succ_cons, List.take_zero]
  simp
  refine some' c (by omega) (by simp) (by simp) fun x a b c hx => ?_
  obtain ⟨k, hk1, hk3, rfl⟩ : ∃ k : Nat, 1 ≤ k ∧ k ≤ 3 ∧ x = .int (k : Nat) := by
    simp at hx
    rcases hx with rfl | rfl | rfl
    · exact ⟨1, by omega, by omega, rfl⟩
    · exact ⟨2, by omega, by omega, rfl⟩
    · exact ⟨3, by omega, by omega, rfl⟩
  simp
  have hlab : (List.take k [PV.str (Str.ofString "a"), PV.str (Str.ofString "b"), PV.str (Str.ofString "c")]) = (abc.take k).map PV.str := by
    rw [List.map_take]; rfl
  rw [hlab]
  have hnd : ∃ j, abc.take k = abc.take j := ⟨k, rfl⟩
  have hlen : (abc.take k).length = k := by simp [abc]; omega
  generalize abc.take k = nl at hnd hlen ⊢
  refine loopF_inv (fun xs env S' => ∃ dn rs a b eX2 eX7, CupOk a b ∧ S' = cup a b :: T ∧ nl = dn.map Dt.name ++ rs ∧ xs = rs.map PV.str ∧ (∀ d ∈ dn, 0 ≤ d.first ∧ d.first ≤ d.great ∧ d.great ≤ 3) ∧ env = [some (.box 0), some (.p (.tup (dn.map Dt.pv))), eX2, eX3, eX4, eX5, eX6, eX7, e2, eX9, eX10, eX11, e10, e7, e11, e12]) ⟨[], nl, a, b, eX2, eX7, c, rfl, rfl, rfl, by simp, rfl⟩ ?_ ?_
  · rintro x r env S' ⟨dn, rs, a, b, eX2, eX7, c, rfl, hnl, hx, hd, rfl⟩
    cases rs with
    | nil => cases hx
    | cons z rs =>
      cases hx
      refine ⟨_, rfl, ?_⟩
      have hdl : dn.length ≤ 10 := by
        have := congrArg List.length hnl
        simp at this
        omega
      have hl1 : dn.length ≤ 16777215 := by omega
      simp
      refine some' c (by omega) (by simp) (by simp) fun x a b c hx => ?_
      obtain ⟨g, hg1, hg3, rfl⟩ : ∃ g : Int, 1 ≤ g ∧ g ≤ 3 ∧ x = .int g := by
        simp at hx
        rcases hx with rfl | rfl | rfl
        · exact ⟨1, by omega, by omega, rfl⟩
        · exact ⟨2, by omega, by omega, rfl⟩
        · exact ⟨3, by omega, by omega, rfl⟩
      have hsm : small (g + 1) = true := by unfold small; simp; omega
      simp [hsm]
      refine roll' c (by omega) (by omega) (by omega) fun r a b c r0 r1 => ?_
      simp
      refine roll' c (by omega) (by decide) (by decide) fun k a b c k0 k1 => ?_
      simp [hl1]
      refine ⟨dn ++ [⟨z, g, r, decide (k = 0)⟩], rs, a, b, c, rfl, by rw [hnl]; simp, rfl, fun d hm => ?_, by simp [Dt.pv]⟩
      rcases List.mem_append.mp hm with hm | hm
      · exact hd d hm
      · rw [List.mem_singleton.mp hm]
        exact ⟨r0, by dsimp only; omega, hg3⟩
  · rintro env S' ⟨dn, rs, a, b, eX2, eX7, c, rfl, hnl, hx, hd, rfl⟩
    have hrs : rs = [] := by cases rs with | nil => rfl | cons _ _ => cases hx
    subst hrs
    rw [List.append_nil] at hnl
    have hl3 : dn.length = k := by rw [← hlen, hnl]; simp
    simp
    exact h dn a b eX2 eX7 c (by intro z; rw [z] at hl3; simp at hl3; omega) (by omega) (by rw [← hnl]; exact hnd) hd
end L15

set_option Elab.async false
set_option linter.all false
set_option maxRecDepth 100000
set_option maxHeartbeats 4000000
namespace L15
open PySem L2 Ip Gm
variable {m : Nat} {T : Store} {Q : EV → Store → Prop} {xs : List PV} {a b : Int} {ns : List Str}
def sB : List Sx := (b2.drop 2).take 4
theorem ints_of : ∀ {vs : List PV} {P : Int → Prop}, (∀ v ∈ vs, ∃ i, v = .int i ∧ P i) → ∃ is : List Int, vs = is.map PV.int ∧ ∀ i ∈ is, P i
  | [], _, _ => ⟨[], rfl, by simp⟩
  | v :: vs, P, h => by
    obtain ⟨i, rfl, hi⟩ := h v List.mem_cons_self
    obtain ⟨is, rfl, his⟩ := ints_of fun w hw => h w (List.mem_cons_of_mem _ hw)
    exact ⟨i :: is, rfl, fun j hj => by
      rcases List.mem_cons.mp hj with rfl | hj
      · exact hi
      · exact his j hj⟩
theorem pts_of {ns : List Str} : ∀ {vs : List PV}, (∀ v ∈ vs, ∃ p : Pt, v = p.pv ∧ p.sees.Sublist ns) → ∃ ps : List Pt, vs = ps.map Pt.pv ∧ ∀ p ∈ ps, p.sees.Sublist ns
  | [], _ => ⟨[], rfl, by simp⟩
  | v :: vs, h => by
    obtain ⟨p, rfl, hp⟩ := h v List.mem_cons_self
    obtain ⟨ps, rfl, hps⟩ := pts_of fun w hw => h w (List.mem_cons_of_mem _ hw)
    exact ⟨p :: ps, rfl, fun j hj => by
      rcases List.mem_cons.mp hj with rfl | hj
      · exact hp
      · exact hps j hj⟩
theorem part_own {ds : List Dt} {eX2 eX7 eX3 eX4 eX5 eX6 e2 eX9 eX10 eX11 e10 e7 e11 e12 : Option EV} {R : Flw → Store → Prop} (c : CupOk a b) (hm : 5 ≤ m) (hd0 : ds ≠ []) (hdl : ds.length ≤ 3) (h : ∀ (ow : List Int) (ps : List Pt) a b, CupOk a b → ow.length ≤ 5 → (∀ i ∈ ow, 0 ≤ i ∧ i ≤ ps.length) → ps.length ≤ 3 → (∀ p ∈ ps, p.sees.Sublist (ds.map Dt.name)) → R (.nx [some (.box 0), some (.p (.tup (ds.map Dt.pv))), eX2, some (.p (nmsP (ds.map Dt.name))), some (.p (.tup (ps.map Pt.pv))), some (.p (.lst (ow.map PV.int))), some (.p (.tup [])), eX7, e2, eX9, eX10, eX11, e10, e7, e11, e12]) (cup a b :: T)) : wp (exSs (run F m) sB [some (.box 0), some (.p (.tup (ds.map Dt.pv))), eX2, eX3, eX4, eX5, eX6, eX7, e2, eX9, eX10, eX11, e10, e7, e11, e12]) (cup a b :: T) R := by
  simp only [sB, b2, List.drop_succ_cons, List.drop_zero, List.take_succ_cons, List.take_zero]
  simp
  rw [compL_map (fun _ => true) (fun v => match v with | .tup (n :: _) => n | _ => .non)]
  · rw [filt1, List.map_map]
    have hf : (ds.map ((fun v => match v with | .tup (n :: _) => n | _ => .non) ∘ Dt.pv)) = (ds.map Dt.name).map PV.str := by
      rw [List.map_map]; rfl
    rw [hf]
    have hl1 : ds.length ≤ 16777216 := by omega
    simp [hl1]
    refine roll' c (by omega) (by decide) (by decide) fun r a b c h0 h1 => ?_
    obtain ⟨k, rfl⟩ : ∃ k : Nat, r = (k : Int) := ⟨r.toNat, by omega⟩
    have hnm : (ds.map (PV.str ∘ Dt.name)) = (ds.map Dt.name).map PV.str := by rw [List.map_map]
    rw [hnm]
    rw [wp_intO1, cut_t]
    refine compL_inv (fun S => ∃ a b, CupOk a b ∧ S = cup a b :: T) (fun v => ∃ p : Pt, v = p.pv ∧ p.sees.Sublist (ds.map Dt.name)) ⟨a, b, c, rfl⟩ ?_ ?_
    · rintro x hx S ⟨a, b, c, rfl⟩
      obtain ⟨z, rfl⟩ : ∃ z, x = .str z := by
        have hx := List.mem_of_mem_take hx
        simp at hx
        rcases hx with rfl | rfl | rfl <;> exact ⟨_, rfl⟩
      simp only [wp_ofO]
      simp
      rw [hnm]
      refine law_names (by rw [List.length_map]; omega) c (by omega) fun l a b c hs => ?_
      simp
      exact ⟨⟨⟨z, l⟩, rfl, hs⟩, a, b, c, rfl⟩
    · rintro ps S hpl hps ⟨a, b, c, rfl⟩
      have hpl3 : ps.length ≤ 3 := Nat.le_trans hpl (by simp; omega)
      obtain ⟨ps, rfl, hsub⟩ := pts_of hps
      rw [List.length_map] at hpl3
      refine ⟨by rw [List.length_map]; omega, ?_⟩
      refine some' c (by omega) (by simp) (by simp) fun x a b c hx => ?_
      obtain ⟨j, hj0, hj5, rfl⟩ : ∃ j : Int, 0 ≤ j ∧ j ≤ 5 ∧ x = .int j := by
        simp at hx
        rcases hx with rfl | rfl | rfl | rfl | rfl
        · exact ⟨0, by omega, by omega, rfl⟩
        · exact ⟨2, by omega, by omega, rfl⟩
        · exact ⟨3, by omega, by omega, rfl⟩
        · exact ⟨4, by omega, by omega, rfl⟩
        · exact ⟨5, by omega, by omega, rfl⟩
      refine ⟨j, rfl, by unfold small; simp; omega, ?_⟩
      refine compL_inv (fun S => ∃ a b, CupOk a b ∧ S = cup a b :: T) (fun v => ∃ i, v = .int i ∧ (0 ≤ i ∧ i ≤ ps.length)) ⟨a, b, c, rfl⟩ ?_ ?_
      · rintro x hx S ⟨a, b, c, rfl⟩
        have hsm : small ((ps.length : Int) + 1) = true := by unfold small; simp; omega
        simp [hsm]
        refine roll' c (by omega) (by omega) (by omega) fun r a b c h0 h1 => ?_
        simp
        exact ⟨⟨h0, by omega⟩, a, b, c, rfl⟩
      · rintro vs S hvl hvs ⟨a, b, c, rfl⟩
        have hvl5 : vs.length ≤ 5 := Nat.le_trans hvl (by simp [rngL]; omega)
        obtain ⟨is, rfl, his⟩ := ints_of hvs
        refine ⟨by omega, ?_⟩
        have hs : sortP (is.map PV.int) = some ((isort ltZ is).map PV.int) := by
          unfold sortP
          rw [allI_map]
        have hperm := (isort_stb swoZ is).perm
        rw [sortL_of hs]
        simp
        rw [hnm]
        exact h (isort ltZ is) ps a b c (by rw [hperm.length_eq]; simpa using hvl5) (fun i hi => his i (hperm.mem_iff.mp hi)) hpl3 hsub
  · intro v hv R'
    rw [List.mem_map] at hv
    obtain ⟨d, _, rfl⟩ := hv
    simp
    simp [Dt.pv]
end L15

set_option Elab.async false
set_option linter.all false
set_option maxRecDepth 100000
set_option maxHeartbeats 4000000
namespace L15
open PySem L2 Ip Gm
variable {m : Nat} {T : Store} {Q : EV → Store → Prop} {xs : List PV} {a b : Int} {ns : List Str}
def rnd (d : Dt) : Ep := .op .rest (.op .plus (.of d.name) (.is 1)) (.is (d.great + 1))
/-- the draws of the sets -/
theorem comp_sets {ds : List Dt} {eX2 eX4 eX5 eX6 eX7 e2 eX9 eX10 e10 e7 e11 : Option EV} (hm : 6 ≤ m) (hd0 : ds ≠ []) (hdl : ds.length ≤ 3) (hg : ∀ d ∈ ds, 0 ≤ d.great ∧ d.great ≤ 3) : ∀ (l : List (Dt × Nat)) (a b : Int) (R : List PV → Store → Prop), (∀ q ∈ l, ds[q.2]? = some q.1) → CupOk a b → (∀ (qs : List (Str × Ep)) a b, CupOk a b → (qs.map (·.1)).Sublist (l.map fun q => q.1.name) → (∀ q ∈ qs, Ep.dr (ds.map Dt.name) q.2 ∧ q.2.units ≤ 9) → R (qs.map setPv) (cup a b :: T)) → wp (compL (fun x => some [some (.box 0), some (.p (.tup (ds.map Dt.pv))), eX2, some (.p (nmsP (ds.map Dt.name))), eX4, eX5, eX6, eX7, e2, eX9, eX10, some (.p (.lst (ds.map fun d => (rnd d).pv))), e10, e7, e11, some (.p x)]) (fun en => evIfs (run F m) [.cmp .eq (.call 3 [.var 0, .con (.int 2)]) (.con (.int 0))] en) (elt1 (run F m) (.tup [.ix (.var 3) (.var 15), .call 5 [.var 0, .lst [.ix (.var 11) (.var 15), .ix (.var 11) (.var 15), .call 10 [.var 0, .var 3, .con (.int 1)]]]])) (l.map fun q => PV.int (q.2 : Int))) (cup a b :: T) R
  | [], a, b, R, _, c, h => h [] a b c (List.Sublist.refl _) (by simp)
  | q :: l, a, b, R, hl, c, h => by
    rw [List.map_cons, compL1]
    have hq := hl q List.mem_cons_self
    have hi := (List.getElem?_eq_some_iff.mp hq).1
    have hqe := (List.getElem?_eq_some_iff.mp hq).2
    have a1 : atI ((ds.map Dt.name).map PV.str) (q.2 : Int) = some (.str q.1.name) := by
      rw [Ip.atI_nat (by simpa using hi)]; simp [hqe]
    have a2 : atI (ds.map fun d => (rnd d).pv) (q.2 : Int) = some (rnd q.1).pv := by
      rw [Ip.atI_nat (by simpa using hi)]; simp [hqe]
    have hmem : q.1 ∈ ds := List.mem_of_getElem? hq
    simp
    refine roll' c (by omega) (by decide) (by decide) fun r a b c h0 h1 => ?_
    simp
    split
    · have a1' : ixop (nmsP (ds.map Dt.name)) (.int (q.2 : Int)) = some (.str q.1.name) := a1
      rw [a1']
      simp only [wp_ofO, a2]
      have hne : ds.map Dt.name ≠ [] := by simpa using hd0
      refine expr_ok (by rw [List.length_map]; omega) hne 1 m _ _ T _ c (by decide) (by omega) fun v a b c g1 u1 => ?_
      simp
      refine some' c (by omega) (by simp) (by simp) fun x a b c hx => ?_
      obtain ⟨e, rfl, he⟩ : ∃ e : Ep, x = e.pv ∧ (Ep.dr (ds.map Dt.name) e ∧ e.units ≤ 9) := by
        simp at hx
        rcases hx with rfl | rfl
        · refine ⟨_, rfl, ⟨⟨List.mem_map.mpr ⟨_, hmem, rfl⟩, ⟨by omega, by omega⟩⟩, ?_⟩, by simp [rnd, Ep.units]⟩
          have := hg _ hmem
          exact ⟨by omega, by omega⟩
        · exact ⟨v, rfl, g1, by omega⟩
      simp
      refine comp_sets hm hd0 hdl hg l a b _ (fun r hr => hl r (List.mem_cons_of_mem _ hr)) c fun qs a b c s d => ?_
      have := h ((q.1.name, e) :: qs) a b c (by simpa using s) (fun r hr => by
        rcases List.mem_cons.mp hr with rfl | hr
        · exact he
        · exact d r hr)
      simpa [setPv] using this
    · exact comp_sets hm hd0 hdl hg l a b R (fun r hr => hl r (List.mem_cons_of_mem _ hr)) c fun qs a b c s d => h qs a b c (s.cons _) d
end L15

set_option Elab.async false
set_option linter.all false
set_option maxRecDepth 100000
set_option maxHeartbeats 4000000
namespace L15
open PySem L2 Ip Gm
variable {m : Nat} {T : Store} {Q : EV → Store → Prop} {xs : List PV} {a b : Int} {ns : List Str}
def sC : List Sx := b2.drop 6
theorem up_at {i : Nat} (h : i < 5) : ∃ x : Str, (atI : List PV → Int → Option PV) [PV.str "up", PV.str "down", PV.str "go", PV.str "halt", PV.str "turn"] (i : Int) = some (.str x) := by
  match i, h with
  | 0, _ => exact ⟨_, rfl⟩
  | 1, _ => exact ⟨_, rfl⟩
  | 2, _ => exact ⟨_, rfl⟩
  | 3, _ => exact ⟨_, rfl⟩
  | 4, _ => exact ⟨_, rfl⟩
theorem rng_zip {α : Type} (l : List α) : rngL 0 (l.length : Int) = l.zipIdx.map fun q => PV.int (q.2 : Int) := by
  have : l.zipIdx.map (fun q => PV.int (q.2 : Int)) = (l.zipIdx.map (·.2)).map fun i => PV.int ((i : Nat) : Int) := by rw [List.map_map]; rfl
  rw [this, List.zipIdx_map_snd, ← List.range_eq_range']
  unfold rngL
  simp
def Own (ps : List Pt) (g : Gp) : Prop := g.owner = .non ∨ ∃ k : Nat, g.owner = .int (k : Nat) ∧ k < ps.length
/-- a step that may be drawn -/
structure SDr (ns : List Str) (p : Gp) : Prop where
  test : Tt.dr ns p.test
  ht : p.test.ht ≤ 1
  nd : (p.sets.map (·.1)).Nodup
  sl : p.sets.length ≤ 3
  sub : ∀ q ∈ p.sets, q.1 ∈ ns ∧ Ep.dr ns q.2 ∧ q.2.units ≤ 9
theorem SDr.ok {p : Gp} (h : SDr ns p) : POk ns p := ⟨fun l h1 h2 => Tt.dr_ok h1 h2 h.test, by have := h.ht; omega, fun q hq => ⟨(h.sub q hq).1, (h.sub q hq).2.2, fun l h1 h2 => Ep.dr_ok h1 h2 (h.sub q hq).2.1⟩, h.nd, by have := h.sl; omega⟩
theorem part_steps {ds : List Dt} {ow : List Int} {ps : List Pt} {eX2 eX7 e2 eX9 eX10 eX11 e10 e7 e11 e12 : Option EV} {R : Flw → Store → Prop} (c : CupOk a b) (hm : 12 ≤ m) (hd0 : ds ≠ []) (hdl : ds.length ≤ 3) (hab : ∃ k, ds.map Dt.name = abc.take k) (hd : ∀ d ∈ ds, 0 ≤ d.first ∧ d.first ≤ d.great ∧ d.great ≤ 3) (ho : ow.length ≤ 5) (hoi : ∀ i ∈ ow, 0 ≤ i ∧ i ≤ ps.length) (hpl : ps.length ≤ 3) (hps : ∀ p ∈ ps, p.sees.Sublist (ds.map Dt.name)) (h : ∀ (y : Sy) (ps : List Pt) a b, CupOk a b → YOk y → YP y ps → R (.ret (.p y.pv)) (cup a b :: T)) : wp (exSs (run F m) sC [some (.box 0), some (.p (.tup (ds.map Dt.pv))), eX2, some (.p (nmsP (ds.map Dt.name))), some (.p (.tup (ps.map Pt.pv))), some (.p (.lst (ow.map PV.int))), some (.p (.tup [])), eX7, e2, eX9, eX10, eX11, e10, e7, e11, e12]) (cup a b :: T) R := by
  simp only [sC, b2, List.drop_succ_cons, List.drop_zero]
  simp [evIt]
  have hne : ds.map Dt.name ≠ [] := by simpa using hd0
  have hsrt : (ds.map Dt.name).Pairwise fun x z => ltT x z = true := by
    obtain ⟨k, e⟩ := hab
    rw [e]
    exact (show abc.Pairwise fun x z => ltT x z = true by decide).sublist (List.take_sublist _ _)
  have hnd : (ds.map Dt.name).Nodup := hsrt.imp fun {x z} q e => by
    subst e
    have := swoT.asym _ _ q
    rw [q] at this
    cases this
  refine loopF_inv (fun xs env S' => ∃ a b gs rs e2 eX9 eX10 eX11 e10 e7 e12, CupOk a b ∧ S' = cup a b :: T ∧ (∀ g ∈ gs, SDr (ds.map Dt.name) g ∧ Own ps g) ∧ gs.length + rs.length ≤ 5 ∧ (∀ i ∈ (rs : List Int), 0 ≤ i ∧ i ≤ (ps.length : Int)) ∧ xs = enumL gs.length (rs.map PV.int) ∧ env = [some (.box 0), some (.p (.tup (ds.map Dt.pv))), eX2, some (.p (nmsP (ds.map Dt.name))), some (.p (.tup (ps.map Pt.pv))), some (.p (.lst (ow.map PV.int))), some (.p (.tup (gs.map Gp.pv))), eX7, e2, eX9, eX10, eX11, e10, e7, e11, e12]) ⟨a, b, [], ow, e2, eX9, eX10, eX11, e10, e7, e12, c, rfl, by simp, by simpa using ho, hoi, rfl, rfl⟩ ?_ ?_
  · rintro x r env S' ⟨a, b, gs, rs, e2, eX9, eX10, eX11, e10, e7, e12, c, rfl, hgs, hlen, hrs, hx, rfl⟩
    cases rs with
    | nil => cases hx
    | cons o rs =>
      simp [enumL] at hx
      obtain ⟨rfl, rfl⟩ := hx
      simp at hlen
      refine ⟨_, rfl, ?_⟩
      obtain ⟨ox0, ox4⟩ := hrs o List.mem_cons_self
      obtain ⟨nm, hnm⟩ := up_at (i := gs.length) (by omega)
      simp
      refine some' c (by omega) (by simp) (by simp) fun x a b c hx => ?_
      obtain ⟨kd, rfl⟩ : ∃ kd : Str, x = .str kd := by
        simp at hx
        rcases hx with rfl | rfl | rfl | rfl | rfl <;> exact ⟨_, rfl⟩
      simp
      rw [compL_map (fun _ => true) (fun v => match v with | .tup [.str n, .int g, _, _] => Ep.pv (.op .rest (.op .plus (.of n) (.is 1)) (.is (g + 1))) | _ => .non)]
      · rw [filt1, List.map_map]
        have hf : (ds.map ((fun v => match v with | .tup [.str n, .int g, _, _] => Ep.pv (.op .rest (.op .plus (.of n) (.is 1)) (.is (g + 1))) | _ => .non) ∘ Dt.pv)) = ds.map fun d => (rnd d).pv := rfl
        rw [hf]
        have hl1 : ds.length ≤ 16777216 := by omega
        simp [hl1]
        have hlq : bltop .len [nmsP (ds.map Dt.name)] = some (.int (ds.length : Nat)) := by simp [nmsP]
        rw [hlq]
        simp only [wp_ofO]
        refine ⟨_, rfl, by unfold small; simp; omega, ?_⟩
        rw [rng_zip]
        refine comp_sets (by omega) hd0 hdl (fun d hm => ⟨by have := hd d hm; omega, (hd d hm).2.2⟩) ds.zipIdx a b _ (fun q hq => by
          obtain ⟨d, i⟩ := q
          simpa using (List.mem_zipIdx_iff_getElem?.mp hq)) c fun qs a b c hs hq => ?_
        have hz : (ds.zipIdx.map fun q => q.1.name) = ds.map Dt.name := by
          have : (ds.zipIdx.map fun q => q.1.name) = (ds.zipIdx.map (·.1)).map Dt.name := by rw [List.map_map]; rfl
          rw [this, List.zipIdx_map_fst]
        rw [hz] at hs
        have hql : qs.length ≤ 3 := by
          have := hs.length_le
          simp at this
          omega
        have hqn : (qs.map (·.1)).Nodup := hnd.sublist hs
        have hqm : ∀ q ∈ qs, q.1 ∈ ds.map Dt.name ∧ Ep.dr (ds.map Dt.name) q.2 ∧ q.2.units ≤ 9 := fun q hm => ⟨hs.subset (List.mem_map.mpr ⟨q, hm, rfl⟩), hq q hm⟩
        refine ⟨by rw [List.length_map]; omega, ?_⟩
        refine some' c (by omega) (by simp) (by simp) fun x a b c hx => ?_
        obtain ⟨L, hLl, hLn, hLm, hrev, hrd⟩ : ∃ L : List (Str × Ep), L.length ≤ 3 ∧ (L.map (·.1)).Nodup ∧ (∀ q ∈ L, q.1 ∈ ds.map Dt.name ∧ Ep.dr (ds.map Dt.name) q.2 ∧ q.2.units ≤ 9) ∧ revop (.lst (qs.map setPv)) x = some (.lst (L.map setPv)) ∧ True := by
          simp at hx
          rcases hx with rfl | rfl
          · exact ⟨qs, hql, hqn, hqm, by simp, trivial⟩
          · refine ⟨qs.reverse, by simpa using hql, ?_, fun q hm => hqm q (List.mem_reverse.mp hm), by simp, trivial⟩
            rw [List.map_reverse]
            exact (List.reverse_perm _).nodup_iff.mpr hqn
        rw [wp_rdp, hrev]
        have hl2 : L.length ≤ 16777216 := by omega
        have hl3 : gs.length ≤ 16777215 := by omega
        simp only [wp_ofO, hnm]
        simp [hl2, hl3]
        have hfin : ∀ (own : PV) (ho : own = .non ∨ ∃ k : Nat, own = .int (k : Nat) ∧ k < ps.length) (t : Tt) (a b : Int), CupOk a b → Tt.dr (ds.map Dt.name) t → t.ht ≤ 1 → ∃ a_1 b_1, CupOk a_1 b_1 ∧ cup a b = cup a_1 b_1 ∧ ∃ x : List Gp, (∀ g ∈ x, SDr (ds.map Dt.name) g ∧ Own ps g) ∧ ∃ x_1 : List Int, x.length + x_1.length ≤ 5 ∧ (∀ i ∈ x_1, 0 ≤ i ∧ i ≤ ps.length) ∧ enumL (gs.length + 1) (rs.map PV.int) = enumL x.length (x_1.map PV.int) ∧ gs.map Gp.pv ++ [.tup [.str nm, own, .str kd, t.pv, .tup (L.map setPv)]] = x.map Gp.pv := fun own ho t a b c g1 u1 => ⟨a, b, c, rfl, gs ++ [⟨nm, own, kd, t, L⟩], fun g hg => by
          rcases List.mem_append.mp hg with hg | hg
          · exact hgs g hg
          · rw [List.mem_singleton.mp hg]
            exact ⟨⟨g1, u1, hLn, hLl, hLm⟩, ho⟩, rs, by simp; omega, fun i hi => hrs i (List.mem_cons_of_mem _ hi), by simp, by simp [Gp.pv]⟩
        split
        · rename_i hpos
          refine test_ok (by rw [List.length_map]; omega) hne 1 m _ _ T _ c (by omega) (by omega) fun t a b c g1 u1 => ?_
          simpa [hl3] using hfin (.int (o - 1)) (.inr ⟨(o - 1).toNat, by congr 1; omega, by omega⟩) t a b c g1 u1
        · refine test_ok (by rw [List.length_map]; omega) hne 1 m _ _ T _ c (by omega) (by omega) fun t a b c g1 u1 => ?_
          simpa [hl3] using hfin .non (.inl rfl) t a b c g1 u1
      · intro v hv R'
        rw [List.mem_map] at hv
        obtain ⟨d, hdm, rfl⟩ := hv
        have hg := hd d hdm
        have hsm : small (d.great + 1) = true := by unfold small; simp; omega
        simp
        simp [Dt.pv, hsm, Ep.pv]
        rfl
  · rintro env S' ⟨a, b, gs, rs, e2, eX9, eX10, eX11, e10, e7, e12, c, rfl, hgs, hlen, hrs, hx, rfl⟩
    simp
    refine roll' c (by omega) (by decide) (by decide) fun r a b c h0 h1 => ?_
    simp
    exact h ⟨ds, r, gs, .tup (ps.map Pt.pv)⟩ ps a b c ⟨hnd, by show ds.length ≤ 10; omega, by show gs.length ≤ 10; omega, fun d hdm => by have := hd d hdm; dsimp only at *; omega, h0, by show r ≤ 9; omega, fun p hp => (hgs p hp).1.ok⟩ ⟨rfl, hpl, hps, fun g hg => (hgs g hg).2, hsrt, hdl, by show gs.length ≤ 5; omega⟩
end L15

set_option Elab.async false
set_option linter.all false
set_option maxRecDepth 100000
set_option maxHeartbeats 4000000
namespace L15
open PySem L2 Ip Gm
variable {m : Nat} {T : Store} {Q : EV → Store → Prop} {xs : List PV} {a b : Int} {ns : List Str}
theorem b2_eq : b2 = sA ++ (sB ++ sC) := rfl
theorem law_system (c : CupOk a b) (hm : 13 ≤ m) (hQ : ∀ (y : Sy) (ps : List Pt) a b, CupOk a b → YOk y → YP y ps → Q (.p y.pv) (cup a b :: T)) : wp (run F m 2 [.box 0]) (cup a b :: T) Q := by
  obtain ⟨m, rfl⟩ : ∃ k, m = k + 1 := ⟨m - 1, by omega⟩
  rw [wp_run (d := e2.fn) rfl rfl]
  show wp (exSs (run F m) b2 [some (.box 0), none, none, none, none, none, none, none, none, none, none, none, none, none, none, none]) _ _
  rw [b2_eq, wp_app]
  refine part_data c (by omega) fun ds a b eX2 eX7 c h0 hl hab hd => ?_
  rw [aft_nx, wp_app]
  refine part_own c (by omega) h0 hl fun ow ps a b c ho hoi hpl hps => ?_
  rw [aft_nx]
  refine part_steps c (by omega) h0 hl hab hd ho hoi hpl hps fun y ps a b c hy hp => ?_
  show wp (leave false (T.length + 1) _) _ _
  rw [wp_leaveP]
  simpa using hQ y ps a b c hy hp
end L15

set_option Elab.async false
set_option linter.all false
set_option maxRecDepth 100000
set_option maxHeartbeats 400000
namespace L15
open PySem L2 Ip Gm
variable {m k : Nat} {S T : Store} {Q : EV → Store → Prop} {y : Sy} {ps : List Pt} {gs : List Gr} {gv bp : PV} {a b : Int}
@[simp] theorem sy3 : ixop y.pv (.int 3) = some y.parts := by
  unfold Sy.pv
  rw [ix_t]
  exact Ip.atI_nat (xs := [_, _, _, _]) (n := 3) (by simp)
@[simp] theorem pt1 {p : Pt} : ixop p.pv (.int 1) = some (.tup (p.sees.map PV.str)) := by simp [Pt.pv]
theorem ix_part (hp : y.parts = .tup (ps.map Pt.pv)) (hk : k < ps.length) : ∃ p, ixop y.parts (.int (k : Nat)) = some (Pt.pv p) ∧ p.sees = seesOf ps k ∧ ps[k]? = some p := by
  refine ⟨ps[k], ?_, ?_, List.getElem?_eq_getElem hk⟩
  · rw [hp, ix_t, Ip.atI_nat (by simpa using hk)]
    simp [hk]
  · unfold seesOf
    rw [List.getElem?_eq_getElem hk]; rfl
/-- the names that are granted -/
theorem comp_got {asg : PV → Option Nv} {ifs : Nv → M Bool} {elt : Nv → M PV} {R : List PV → Store → Prop} (h : ∀ g : Gr, ∀ R : Bool → PV → Store → Prop, wp (ofO (asg (grPv g))) S (fun en S => wp (ifs en) S fun b S => if b = true then wp (elt en) S fun v S => R b v S else R b .non S) = R (decide (((g.1 : Nat) : Int) = ((k : Nat) : Int))) (if ((g.1 : Nat) : Int) = ((k : Nat) : Int) then .str g.2 else .non) S) : wp (compL asg ifs elt (gs.map grPv)) S R = R ((gotOf gs k).map PV.str) S := by
  rw [compL_map (fun v => match v with | .tup [.int a, _] => decide (a = (k : Int)) | _ => false) (fun v => match v with | .tup [_, w] => w | _ => .non)]
  · congr 1
    unfold gotOf
    rw [List.filter_map, List.map_map, List.map_map]
    have e : ((fun v => match v with | .tup [.int a, _] => decide (a = (k : Int)) | _ => false) ∘ grPv) = fun g : Gr => decide (g.1 = k) := by
      funext g
      show decide (((g.1 : Nat) : Int) = (k : Int)) = _
      exact decide_eq_decide.mpr Int.ofNat_inj
    rw [e]
    rfl
  · intro v hv R'
    rw [List.mem_map] at hv
    obtain ⟨g, _, rfl⟩ := hv
    rw [h g R']
    show _ = R' (decide (((g.1 : Nat) : Int) = (k : Int))) (if decide (((g.1 : Nat) : Int) = (k : Int)) = true then .str g.2 else .non) S
    congr 1
    by_cases q : ((g.1 : Nat) : Int) = (k : Int)
    · rw [if_pos q, if_pos (decide_eq_true q)]
    · rw [if_neg q, if_neg (by simpa using q)]
theorem law_seen (hp : y.parts = .tup (ps.map Pt.pv)) (hk : k < ps.length) (hn : (seesOf ps k ++ gotOf gs k).Nodup) (hl : (seesOf ps k ++ gotOf gs k).length ≤ 4) (hg : itemsOf gv = some (gs.map grPv)) (hm : 1 ≤ m) : wp (run F m 12 [.p y.pv, .p gv, .p (.int (k : Nat))]) S Q = Q (.p (.lst ((seenL ps gs k).map PV.str))) S := by
  obtain ⟨m, rfl⟩ : ∃ k, m = k + 1 := ⟨m - 1, by omega⟩
  rw [wp_run (d := e12.fn) rfl rfl]
  obtain ⟨p, h1, h2, _⟩ := ix_part hp hk
  simp at hl
  have d1 : dedS [] (seesOf ps k) = seesOf ps k := by
    have := dedS_nd (acc := []) (l := seesOf ps k) (hn.sublist (by simp))
    simpa using this
  have d2 : dedS [] (gotOf gs k) = gotOf gs k := by
    have := dedS_nd (acc := []) (l := gotOf gs k) (hn.sublist (by simp))
    simpa using this
  have s1 : setOf ((seesOf ps k).map PV.str) = some (.set ((seesOf ps k).map PV.str)) := by rw [setOf_str (by omega), d1]
  have s2 : setOf ((gotOf gs k).map PV.str) = some (.set ((gotOf gs k).map PV.str)) := by rw [setOf_str (by omega), d2]
  simp [e12, b12, hg, h1, h2, s1]
  rw [comp_got (k := k)]
  · have hl3 : (gotOf gs k).length ≤ 16777216 := by omega
    have e : sortP (dedP ((seesOf ps k).map PV.str) ((gotOf gs k).map PV.str)) = some ((seenL ps gs k).map PV.str) := by rw [dedP_str, dedS_nd hn, sortP_str]; rfl
    simp [hl3, s2, hl, e]
  · intro g R'
    simp [grPv]
    by_cases q : ((g.1 : Nat) : Int) = (k : Int)
    · simp [q]
    · simp [q]
end L15

set_option Elab.async false
set_option linter.all false
set_option maxRecDepth 100000
set_option maxHeartbeats 400000
namespace L15
open PySem L2 Ip Gm
variable {m k : Nat} {S T : Store} {Q : EV → Store → Prop} {y : Sy} {ps : List Pt} {gs : List Gr} {gv bp : PV} {a b : Int}
theorem ok_strs (x : Str) (l : List Str) : okEq (.str x) (.tup (l.map PV.str)) = true ∧ okEq (.str x) (.lst (l.map PV.str)) = true := by
  have : plains (l.map PV.str) = true := by
    induction l with
    | nil => rfl
    | cons z l ih => simpa using ih
  simp [okEq, this]
def dC : Ex := .comp (.tup [.var 2, .ix (.var 9) (.con (.int 0))]) [9] (.nm 9) (.seq (.ix (.var 1) (.con (.int 0)))) [.and (.cmp .notin (.ix (.var 9) (.con (.int 0))) (.ix (.ix (.ix (.var 1) (.con (.int 3))) (.var 2)) (.con (.int 1)))) (.cmp .eq (.call 3 [.var 0, .con (.int 4)]) (.con (.int 0)))]
/-- the draws of a part's grants -/
theorem gr_loop {e3 e4 e5 e6 e7 e8 : Option EV} (hm : 2 ≤ m) (hp : y.parts = .tup (ps.map Pt.pv)) (hk : k < ps.length) : ∀ (l : List Dt) (a b : Int) (R : List PV → Store → Prop), CupOk a b → (∀ (xs : List Str) a b, CupOk a b → xs.Sublist (l.map Dt.name) → (∀ x ∈ xs, x ∉ seesOf ps k) → R (xs.map fun x => grPv (k, x)) (cup a b :: T)) → wp (compL (fun x => some [some (.box 0), some (.p y.pv), some (.p (.int (k : Nat))), e3, e4, e5, e6, e7, e8, some (.p x)]) (fun en => evIfs (run F m) [.and (.cmp .notin (.ix (.var 9) (.con (.int 0))) (.ix (.ix (.ix (.var 1) (.con (.int 3))) (.var 2)) (.con (.int 1)))) (.cmp .eq (.call 3 [.var 0, .con (.int 4)]) (.con (.int 0)))] en) (elt1 (run F m) (.tup [.var 2, .ix (.var 9) (.con (.int 0))])) (l.map Dt.pv)) (cup a b :: T) R
  | [], a, b, R, c, h => h [] a b c (List.Sublist.refl _) (by simp)
  | d :: l, a, b, R, c, h => by
    rw [List.map_cons, compL1]
    obtain ⟨p, h1, h2, _⟩ := ix_part hp hk
    simp [h1, h2, ok_strs, memP_str]
    by_cases q : d.name ∈ seesOf ps k
    · simp [q]
      exact gr_loop hm hp hk l a b R c fun xs a b c s n => h xs a b c (s.cons _) n
    · simp [q]
      refine roll' c (by omega) (by decide) (by decide) fun r a b c h0 h1 => ?_
      simp
      split
      · refine gr_loop hm hp hk l a b _ c fun xs a b c s n => ?_
        have := h (d.name :: xs) a b c (by simpa using s) (fun x hx => by
          rcases List.mem_cons.mp hx with rfl | hx
          · exact q
          · exact n x hx)
        simpa [grPv] using this
      · exact gr_loop hm hp hk l a b R c fun xs a b c s n => h xs a b c (s.cons _) n
def cA : List Sx := (b4.drop 1).take 1
theorem rngL_cons {i n : Nat} (h : i < n) : ((List.range' i (n - i)).map fun j => PV.int ((j : Nat) : Int)) = PV.int (i : Int) :: ((List.range' (i + 1) (n - (i + 1))).map fun j => PV.int ((j : Nat) : Int)) := by
  rw [show n - i = (n - (i + 1)) + 1 by omega, List.range'_succ]; rfl
theorem rngL_0 (n : Nat) : rngL 0 (n : Int) = (List.range' 0 (n - 0)).map fun j => PV.int ((j : Nat) : Int) := by
  unfold rngL
  rw [← List.range_eq_range']
  simp
theorem part_gr {e2 e4 e5 e6 e7 e8 e9 : Option EV} {R : Flw → Store → Prop} (c : CupOk a b) (hm : 5 ≤ m) (hp : YP y ps) (h : ∀ (gs : List Gr) a b e2, CupOk a b → GOk y ps gs → gs.length ≤ 9 → R (.nx [some (.box 0), some (.p y.pv), e2, some (.p (.lst (gs.map grPv))), e4, e5, e6, e7, e8, e9]) (cup a b :: T)) : wp (exSs (run F m) cA [some (.box 0), some (.p y.pv), e2, some (.p (.lst [])), e4, e5, e6, e7, e8, e9]) (cup a b :: T) R := by
  simp only [cA, b4, List.drop_succ_cons, List.drop_zero, List.take_succ_cons, List.take_zero]
  have hpl := hp.pl
  have hl1 : bltop .len [y.parts] = some (.int (ps.length : Nat)) := by rw [hp.parts]; simp
  simp [hl1]
  refine ⟨by unfold small; simp; omega, ?_⟩
  rw [rngL_0]
  refine loopF_inv (fun xs env S' => ∃ i gs a b e2, i ≤ ps.length ∧ xs = ((List.range' i (ps.length - i)).map fun j => PV.int ((j : Nat) : Int)) ∧ CupOk a b ∧ S' = cup a b :: T ∧ gs.length ≤ 3 * i ∧ GOk y ps gs ∧ (∀ g ∈ gs, g.1 < i) ∧ env = [some (.box 0), some (.p y.pv), e2, some (.p (.lst (gs.map grPv))), e4, e5, e6, e7, e8, e9]) ⟨0, [], a, b, e2, by omega, rfl, c, rfl, by simp, ⟨by simp, by simp, by simp⟩, by simp, rfl⟩ ?_ ?_
  · rintro x r env S' ⟨i, gs, a, b, e2, hi, hx, c, rfl, hl, hg, hgi, rfl⟩
    have hlt : i < ps.length := by
      by_cases q : i < ps.length
      · exact q
      · rw [show ps.length - i = 0 by omega] at hx
        cases hx
    rw [rngL_cons hlt] at hx
    cases hx
    refine ⟨_, rfl, ?_⟩
    simp [sy0]
    refine gr_loop (by omega) hp.parts hlt y.data a b _ c fun xs a b c s n => ?_
    have hs := s.length_le
    have hdl := hp.dl
    simp at hs
    have hl2 : xs.length ≤ 16777216 := by omega
    have hl3 : gs.length + xs.length ≤ 16777216 := by omega
    simp [hl2, hl3]
    refine ⟨i + 1, hlt, rfl, gs ++ xs.map fun x => (i, x), a, b, c, rfl, ?_, ?_, ?_, ?_⟩
    · simp; omega
    · have hnx : (xs.map fun x => ((i, x) : Gr)).Nodup := by
        rw [List.nodup_iff_pairwise_ne, List.pairwise_map]
        have : xs.Nodup := (names_nd hp).sublist s
        rw [List.nodup_iff_pairwise_ne] at this
        exact this.imp fun q e => q (congrArg Prod.snd e)
      refine ⟨?_, fun g hgm => ?_, fun g hgm => ?_⟩
      · rw [List.nodup_append]
        refine ⟨hg.nd, hnx, fun u hu v hv e => ?_⟩
        obtain ⟨x, _, rfl⟩ := List.mem_map.mp hv
        have := hgi u hu
        rw [e] at this
        exact absurd this (Nat.lt_irrefl _)
      · rcases List.mem_append.mp hgm with z | z
        · exact hg.lt g z
        · obtain ⟨x, _, rfl⟩ := List.mem_map.mp z
          exact hlt
      · rcases List.mem_append.mp hgm with z | z
        · exact hg.nm g z
        · obtain ⟨x, hx, rfl⟩ := List.mem_map.mp z
          exact ⟨s.subset hx, n x hx⟩
    · intro u v huv
      rcases List.mem_append.mp huv with z | z
      · exact Nat.lt_succ_of_lt (hgi _ z)
      · obtain ⟨x, _, e⟩ := List.mem_map.mp z
        cases e
        exact Nat.lt_succ_self _
    · simp
  · rintro env S' ⟨i, gs, a, b, e2, hi, hx, c, rfl, hl, hg, hgi, rfl⟩
    simp
    exact h gs a b e2 c hg (by omega)
def cB : List Sx := (b4.drop 2).take 1
/-- the draws of a ban's pairs -/
theorem bn_loop {e2 e3 e4 e5 e6 e8 : Option EV} {L : List Str} (hm : 2 ≤ m) : ∀ (l : List Dt) (a b : Int) (R : List PV → Store → Prop), (∀ d ∈ l, 0 ≤ d.great ∧ d.great ≤ 9) → CupOk a b → (∀ (qs : List (Str × Int)) a b, CupOk a b → (qs.map (·.1)).Sublist (l.map Dt.name) → (∀ q ∈ qs, q.1 ∈ L) → (∀ q ∈ qs, ∃ d ∈ l, d.name = q.1 ∧ 0 ≤ q.2 ∧ q.2 ≤ d.great) → R (qs.map prPv) (cup a b :: T)) → wp (compL (fun x => some [some (.box 0), some (.p y.pv), e2, e3, e4, e5, e6, some (.p (.tup (L.map PV.str))), e8, some (.p x)]) (fun en => evIfs (run F m) [.cmp .isin (.ix (.var 9) (.con (.int 0))) (.var 7)] en) (elt1 (run F m) (.tup [.ix (.var 9) (.con (.int 0)), .call 3 [.var 0, .bin .add (.ix (.var 9) (.con (.int 1))) (.con (.int 1))]])) (l.map Dt.pv)) (cup a b :: T) R
  | [], a, b, R, hl, c, h => h [] a b c (List.Sublist.refl _) (by simp) (by simp)
  | d :: l, a, b, R, hl, c, h => by
    rw [List.map_cons, compL1]
    have hd := hl d List.mem_cons_self
    have hl' : ∀ d ∈ l, 0 ≤ d.great ∧ d.great ≤ 9 := fun d h => hl d (List.mem_cons_of_mem _ h)
    simp [ok_strs, memP_str]
    by_cases q : d.name ∈ L
    · simp [q]
      refine roll' c (by omega) (by omega) (by omega) fun r a b c h0 h1 => ?_
      simp
      refine bn_loop hm l a b _ hl' c fun qs a b c s n v => ?_
      have := h ((d.name, r) :: qs) a b c (by simpa using s) (fun x hx => by
        rcases List.mem_cons.mp hx with rfl | hx
        · exact q
        · exact n x hx) (fun x hx => by
        rcases List.mem_cons.mp hx with rfl | hx
        · exact ⟨d, List.mem_cons_self, rfl, h0, by dsimp only; omega⟩
        · obtain ⟨d', h1, h2⟩ := v x hx
          exact ⟨d', List.mem_cons_of_mem _ h1, h2⟩)
      simpa [prPv] using this
    · simp [q]
      exact bn_loop hm l a b R hl' c fun qs a b c s n v => h qs a b c (s.cons _) n fun x hx => by
        obtain ⟨d', h1, h2⟩ := v x hx
        exact ⟨d', List.mem_cons_of_mem _ h1, h2⟩
end L15

set_option Elab.async false
set_option linter.all false
set_option maxRecDepth 100000
set_option maxHeartbeats 400000
namespace L15
open PySem L2 Ip Gm
variable {m k : Nat} {S T : Store} {Q : EV → Store → Prop} {y : Sy} {ps : List Pt} {gs : List Gr} {gv bp : PV} {a b : Int}
theorem set_mid {c d : Cell} : (cup a b :: (T ++ [c])).set (T.length + 1) d = cup a b :: (T ++ [d]) := by simp
theorem get_mid {c : Cell} : (cup a b :: (T ++ [c]))[T.length + 1]? = some c := by simp
theorem enumL_cons {n : Nat} {x : PV} {xs : List PV} : enumL n (x :: xs) = .tup [.int (n : Nat), x] :: enumL (n + 1) xs := rfl
@[simp] theorem sp1 {p : Gp} : ixop p.pv (.int 1) = some p.owner := by simp [Gp.pv]
theorem it_gs : itemsOf (.lst (gs.map grPv)) = some (gs.map grPv) := rfl
theorem part_bans {e2 e5 e6 e7 e8 e9 : Option EV} {R : Flw → Store → Prop} (c : CupOk a b) (hm : 6 ≤ m) (hy : YOk y) (hp : YP y ps) (hg : GOk y ps gs) (h : ∀ (bs : List Ban) a b e5 e6 e7 e8, CupOk a b → BsOk y ps gs bs → R (.nx [some (.box 0), some (.p y.pv), e2, some (.p (.lst (gs.map grPv))), some (.box (T.length + 1)), e5, e6, e7, e8, e9]) (cup a b :: (T ++ [.lst (bs.map banPv)]))) : wp (exSs (run F m) cB [some (.box 0), some (.p y.pv), e2, some (.p (.lst (gs.map grPv))), some (.box (T.length + 1)), e5, e6, e7, e8, e9]) (cup a b :: (T ++ [.lst []])) R := by
  simp only [cB, b4, List.drop_succ_cons, List.drop_zero, List.take_succ_cons, List.take_zero]
  have hsl := hp.sl
  simp [evIt, sy2]
  refine loopF_inv (fun xs env S' => ∃ (bs : List Ban) (dn rs : List Gp) (a b : Int) (e5 e6 e7 e8 : Option EV), y.steps = dn ++ rs ∧ xs = enumL dn.length (rs.map Gp.pv) ∧ CupOk a b ∧ S' = cup a b :: (T ++ [.lst (bs.map banPv)]) ∧ (∀ b ∈ bs, BnOk y ps gs b) ∧ (bs.map (·.1)).Pairwise (· < ·) ∧ (∀ b ∈ bs, b.1 < (dn.length : Int)) ∧ bs.length ≤ dn.length ∧ env = [some (.box 0), some (.p y.pv), e2, some (.p (.lst (gs.map grPv))), some (.box (T.length + 1)), e5, e6, e7, e8, e9]) ⟨[], [], y.steps, a, b, e5, e6, e7, e8, rfl, rfl, c, rfl, by simp, by simp, by simp, by simp, rfl⟩ ?_ ?_
  · rintro x r env S' ⟨bs, dn, rs, a, b, e5, e6, e7, e8, hdn, hx, c, rfl, hb, hasc, hlt, hbl, rfl⟩
    cases rs with
    | nil => cases hx
    | cons p rs =>
      rw [List.map_cons, enumL_cons] at hx
      cases hx
      refine ⟨_, rfl, ?_⟩
      have hstep : y.steps[dn.length]? = some p := by rw [hdn]; simp
      have hpm : p ∈ y.steps := List.mem_of_getElem? hstep
      have hdl : dn.length < 5 := by
        have := congrArg List.length hdn
        simp at this
        omega
      have e1 : y.steps = (dn ++ [p]) ++ rs := by rw [hdn]; simp
      have e2 : enumL (dn.length + 1) (rs.map Gp.pv) = enumL (dn ++ [p]).length (rs.map Gp.pv) := by simp
      have up : ∀ (i : Int) (qs : List (Str × Int)), (i, qs) ∈ bs → i < ((dn ++ [p]).length : Int) := fun i qs h => by have := hlt _ h; simp at this ⊢; omega
      have hbl2 : bs.length ≤ (dn ++ [p]).length := by simp; omega
      rcases hp.own p hpm with ho | ⟨k, ho, hk⟩
      · simp [ho]
        exact ⟨bs, dn ++ [p], rs, e1, e2, a, b, c, ⟨rfl, rfl⟩, fun i qs h => hb _ h, hasc, up, hbl2⟩
      · simp [ho]
        by_cases hf : p.kind = "fault"
        · simp [hf]
          exact ⟨bs, dn ++ [p], rs, e1, e2, a, b, c, ⟨rfl, rfl⟩, fun i qs h => hb _ h, hasc, up, hbl2⟩
        · simp [hf]
          refine roll' c (by omega) (by decide) (by decide) fun r a b c h0 h1 => ?_
          simp
          split
          · rw [law_seen hp.parts hk (both_nd hp hg) (by have := both_len (k := k) hp hg; omega) it_gs (by omega)]
            have hsn : (seenL ps gs k).length ≤ 10 := by
              have h1 := (seen_sub (k := k) hp hg).length_le
              have h2 : y.names.length = y.data.length := by simp [Sy.names]
              have := hp.dl
              omega
            refine law_names (m := m) (ns := seenL ps gs k) (T := T ++ [.lst (bs.map banPv)]) hsn c (by omega) fun L a b c hL => ?_
            refine bn_loop (m := m) (L := L) (T := T ++ [.lst (bs.map banPv)]) (by omega) y.data a b _ (fun d hd => by have := hy.gr d hd; omega) c fun qs a b c s n v => ?_
            have hql : qs.length ≤ 16777216 := by
              have := s.length_le
              have := hp.dl
              simp at *
              omega
            refine ⟨by rw [List.length_map]; exact hql, ?_⟩
            rw [wp_chkA get_mid, wp_appB get_mid (by rw [List.length_map]; unfold Line; omega), set_mid]
            have hban : BnOk y ps gs ((dn.length : Nat), qs) := by
              refine ⟨⟨dn.length, k, p, rfl, hstep, ho, hk, hf, fun q hq => ?_⟩, s, v⟩
              have := hL.subset (n q hq)
              rw [seen_eq hp hg] at this
              simpa using (List.mem_filter.mp this).2
            refine ⟨bs ++ [(((dn.length : Nat) : Int), qs)], dn ++ [p], rs, e1, e2, a, b, c, by simp [banPv], fun i z h => ?_, ?_, fun i z h => ?_, by simp; omega⟩
            · rcases List.mem_append.mp h with h | h
              · exact hb _ h
              · rw [List.mem_singleton.mp h]; exact hban
            · rw [List.map_append, List.pairwise_append]
              refine ⟨hasc, by simp, fun u hu v hv => ?_⟩
              obtain ⟨w, hw, rfl⟩ := List.mem_map.mp hu
              simp at hv
              rw [hv]
              exact hlt w hw
            · rcases List.mem_append.mp h with h | h
              · exact up _ _ h
              · cases List.mem_singleton.mp h
                simp
                omega
          · exact ⟨bs, dn ++ [p], rs, e1, e2, a, b, c, ⟨rfl, rfl⟩, fun i qs h => hb _ h, hasc, up, hbl2⟩
  · rintro env S' ⟨bs, dn, rs, a, b, e5, e6, e7, e8, hdn, hx, c, rfl, hb, hasc, hlt, hbl, rfl⟩
    have hrs : rs = [] := by cases rs with | nil => rfl | cons _ _ => cases hx
    subst hrs
    rw [List.append_nil] at hdn
    simp
    exact h bs a b e5 e6 e7 e8 c ⟨hb, hasc, by rw [hdn] at hsl; omega⟩
def cC : List Sx := b4.drop 3
theorem b4_eq : b4 = b4.take 1 ++ (cA ++ (cB ++ cC)) := rfl
theorem law_changes (c : CupOk a b) (hm : 8 ≤ m) (hy : YOk y) (hp : YP y ps) (hQ : ∀ (bs : List Ban) (gs : List Gr) a b, CupOk a b → GOk y ps gs → gs.length ≤ 9 → BsOk y ps gs bs → Q (.p (chPv bs (grsPv gs))) (cup a b :: T)) : wp (run F m 4 [.box 0, .p y.pv]) (cup a b :: T) Q := by
  obtain ⟨m, rfl⟩ : ∃ k, m = k + 1 := ⟨m - 1, by omega⟩
  rw [wp_run (d := e4.fn) rfl rfl]
  show wp (exSs (run F m) b4 [some (.box 0), some (.p y.pv), none, none, none, none, none, none, none, none]) _ _
  rw [b4_eq, wp_app]
  generalize hz : cA ++ (cB ++ cC) = Z
  simp only [b4, List.take_succ_cons, List.take_zero]
  simp
  rw [← hz, wp_app]
  refine part_gr (m := m) (T := T ++ [.lst []]) c (by omega) hp fun gs a b e2 c hg hgl => ?_
  rw [aft_nx, wp_app]
  refine part_bans (m := m) (T := T) c (by omega) hy hp hg fun bs a b e5 e6 e7 e8 c hb => ?_
  rw [aft_nx]
  simp only [cC, b4, List.drop_succ_cons, List.drop_zero]
  have hgp := sortG_perm gs
  have e1 : e4.fn.keep = false := rfl
  simp [get_mid, sortL_gr, e1]
  have := hQ bs (sortG gs) a b c (hg.perm hgp) (by rw [hgp.length_eq]; exact hgl) (hb.perm hgp)
  simpa [chPv, bansPv, grsPv] using this
end L15

set_option Elab.async false
set_option linter.all false
set_option maxRecDepth 100000
set_option maxHeartbeats 400000
namespace L15
open PySem L2 Ip Gm
variable {m k : Nat} {S T : Store} {Q : EV → Store → Prop} {y : Sy} {s : Gs} {ps : List Pt} {gs : List Gr} {gv bp : PV} {a b : Int}
def ownL (y : Sy) (k : Nat) : List Nat := (y.steps.zipIdx.filter fun q => match q.1.owner with | .int i => decide (i = (k : Int)) | _ => false).map (·.2)
theorem enumL_zip : ∀ (l : List Gp) (n : Nat), enumL n (l.map Gp.pv) = (l.zipIdx n).map fun q => .tup [.int (q.2 : Nat), q.1.pv]
  | [], _ => rfl
  | p :: l, n => by rw [List.map_cons, List.zipIdx_cons, List.map_cons, enumL_cons, enumL_zip l (n + 1)]
end L15

set_option Elab.async false
set_option linter.all false
set_option maxRecDepth 100000
set_option maxHeartbeats 400000
namespace L15
open PySem L2 Ip Gm
variable {m k i : Nat} {S T : Store} {Q : EV → Store → Prop} {y : Sy} {s : Gs} {p : Gp} {ps : List Pt} {gs : List Gr} {bs : List Ban} {gv bp : PV} {a b : Int}
def tb : List Sx := match b0 with | _ :: .forS _ _ b :: _ => b | _ => []
theorem bans_ok (hy : YOk y) (hb : BsOk y ps gs bs) : BanOk y bs := by
  have hl := hb.len
  refine ⟨by omega, fun b m => ?_, fun b m q hq => ?_⟩
  · have := ((hb.each b m).sub).length_le
    have h2 : y.names.length = y.data.length := by simp [Sy.names]
    have := hy.dl
    simp at *
    omega
  · exact (hb.each b m).sub.subset (List.mem_map.mpr ⟨q, hq, rfl⟩)
theorem bok_of (h : BanOk y bs) : BOk bs := ⟨h.len, h.each⟩
inductive Rk : List Dt → List Dt → Prop
  | nil : Rk [] []
  | cons {d c l k} : Rk l k → Rk (d :: l) (⟨d.name, d.great, d.first, c⟩ :: k)
theorem Rk.nms {l k : List Dt} (h : Rk l k) : k.map Dt.name = l.map Dt.name := by
  induction h with
  | nil => rfl
  | cons _ ih => simp [ih]
theorem Rk.len {l k : List Dt} (h : Rk l k) : k.length = l.length := by
  have := congrArg List.length h.nms
  simpa using this
theorem Rk.mem {l k : List Dt} (h : Rk l k) : ∀ e ∈ k, ∃ d ∈ l, e.name = d.name ∧ e.great = d.great ∧ e.first = d.first := by
  induction h with
  | nil => simp
  | @cons d c l k _ ih =>
    intro e he
    rcases List.mem_cons.mp he with rfl | he
    · exact ⟨d, List.mem_cons_self, rfl, rfl, rfl⟩
    · obtain ⟨d2, h1, h2⟩ := ih e he
      exact ⟨d2, List.mem_cons_of_mem _ h1, h2⟩
theorem clk_loopG {asg : PV → Option Nv} {ifs : Nv → M Bool} {elt : Nv → M PV} : ∀ (l : List Dt) (a b : Int) (R : List PV → Store → Prop), (∀ d ∈ l, ∀ (a b : Int) (Q : PV → Store → Prop), CupOk a b → (∀ z a b, CupOk a b → Q (Dt.pv ⟨d.name, d.great, d.first, z⟩) (cup a b :: T)) → wp (ofO (asg d.pv)) (cup a b :: T) fun en S => wp (ifs en) S fun t S => if t = true then wp (elt en) S Q else False) → CupOk a b → (∀ (k : List Dt) a b, CupOk a b → Rk l k → R (k.map Dt.pv) (cup a b :: T)) → wp (compL asg ifs elt (l.map Dt.pv)) (cup a b :: T) R
  | [], a, b, R, _, c, h => h [] a b c .nil
  | d :: l, a, b, R, hs, c, h => by
    rw [List.map_cons, compL1]
    refine wp_mono (hs d List.mem_cons_self a b (fun v S => wp (compL asg ifs elt (l.map Dt.pv)) S fun r S => R (v :: r) S) c fun z a b c => ?_) fun en S q => wp_mono q fun t S q => ?_
    · refine clk_loopG l a b _ (fun d hd => hs d (List.mem_cons_of_mem _ hd)) c fun k a b c i => ?_
      exact h (_ :: k) a b c (.cons i)
    · cases t with
      | true => simpa using q
      | false => simp at q
def withD (y : Sy) (k : List Dt) : Sy := ⟨k, y.flt, y.steps, y.parts⟩
theorem with_names {k : List Dt} (h : Rk y.data k) : (withD y k).names = y.names := h.nms
theorem with_ok {k : List Dt} (hy : YOk y) (h : Rk y.data k) : YOk (withD y k) := by
  refine ⟨by rw [with_names h]; exact hy.nd, by rw [show (withD y k).data = k from rfl, h.len]; exact hy.dl, hy.sl, fun e he => ?_, hy.f0, hy.f1, fun p hp => by rw [with_names h]; exact hy.st p hp⟩
  obtain ⟨d, hd, _, h2, h3⟩ := h.mem e he
  rw [h2, h3]
  exact hy.gr d hd
theorem with_yp {k : List Dt} (hp : YP y ps) (h : Rk y.data k) : YP (withD y k) ps := 
  ⟨hp.parts, hp.pl, fun p hm => by rw [with_names h]; exact hp.sub p hm, hp.own, by rw [with_names h]; exact hp.srt, by rw [show (withD y k).data = k from rfl, h.len]; exact hp.dl, hp.sl⟩
theorem turnA {sc : PV} {f2 f3 f4 f5 f6 f7 f8 f9 f10 f11 : Option EV} {R : Flw → Store → Prop} (c : CupOk a b) (hm : 40 ≤ m) (h : ∀ (y : Sy) (ps : List Pt) a b, CupOk a b → YOk y → YP y ps → R (.nx [some (.p sc), some (.box 0), f2, f3, f4, f5, some (.p y.pv), f7, f8, f9, f10, f11]) (cup a b :: T)) : wp (exSs (run F m) (tb.take 2) [some (.p sc), some (.box 0), f2, f3, f4, f5, f6, f7, f8, f9, f10, f11]) (cup a b :: T) R := by
  simp only [tb, b0, List.take_succ_cons, List.take_zero]
  simp
  refine law_system (m := m) c (by omega) fun y ps a b c hy hp => ?_
  simp
  refine roll' (m := m) c (by omega) (by omega) (by omega) fun r a b c h0 h1 => ?_
  simp
  by_cases hr : r = 0
  · simp [hr, sy0]
    refine clk_loopG y.data a b _ (fun d hd a b Q c hQ => ?_) c fun k a b c hk => ?_
    · have hcut : ∀ x z u v : PV, cutP [x, z, u, v] none (some 3) = [x, z, u] := fun x z u v => rfl
      simp [Dt.pv, hcut]
      refine roll' (m := m) c (by omega) (by omega) (by omega) fun r a b c h0 h1 => ?_
      simp
      exact hQ (decide (r = 0)) a b c
    · have hkl : k.length ≤ 16777216 := by have := hk.len; have := hy.dl; omega
      have hcut : ∀ x z u v : PV, cutP [x, z, u, v] (some 1) none = [z, u, v] := fun x z u v => rfl
      have := h (withD y k) ps a b c (with_ok hy hk) (with_yp hp hk)
      simp [Sy.pv, hcut, hkl]
      simpa [Sy.pv, withD] using this
  · simp [hr]
    exact h y ps a b c hy hp
theorem mvs_ok : ∀ l : List (PV × Gs), (∀ q ∈ l, (∃ i, q.1 = .int i) ∨ ∃ z, q.1 = .str z) → plains (l.map mvPv) = true ∧ deps (l.map mvPv) ≤ 4 ∧ eqPs (l.map mvPv) (l.map mvPv) = true
  | [], _ => ⟨rfl, by simp, rfl⟩
  | q :: l, h => by
    obtain ⟨h1, h2, h3⟩ := mvs_ok l fun r hr => h r (List.mem_cons_of_mem _ hr)
    have g1 : plain (stPv q.2) = true := by
      have := ok_sts' q.2 q.2
      rw [okEq_iff] at this
      exact this.1
    have g2 : dep (stPv q.2) ≤ 2 := by
      have hd : ∀ l : List Int, deps (l.map PV.int) = 0 := fun l => by
        induction l with
        | nil => rfl
        | cons z l ih => simp [ih]
      simp [stPv, hd]
    have g3 : eqP (stPv q.2) (stPv q.2) = true := by rw [eq_sts]; simp
    rcases h q List.mem_cons_self with ⟨i, e⟩ | ⟨z, e⟩
    · simp [h1, h3]
      simp [mvPv, e, g1, g3]
      omega
    · simp [h1, h3]
      simp [mvPv, e, g1, g3]
      omega
theorem turnB {sc : PV} {f2 f3 f4 f5 f7 f8 f9 f10 f11 : Option EV} {R : Flw → Store → Prop} (c : CupOk a b) (hm : 60 ≤ m) (hy : YOk y) (hp : YP y ps) (h : ∀ f8 f9 a b, CupOk a b → R (.nx [some (.p sc), some (.box 0), f2, f3, f4, f5, some (.p y.pv), f7, f8, f9, f10, f11]) (cup a b :: T)) : wp (exSs (run F m) (tb.drop 2) [some (.p sc), some (.box 0), f2, f3, f4, f5, some (.p y.pv), f7, f8, f9, f10, f11]) (cup a b :: T) R := by
  simp only [tb, b0, List.drop_succ_cons, List.drop_zero]
  simp
  refine law_changes (m := m) c (by omega) hy hp fun bs gs a b c hg hgl hb => ?_
  have hdl := hy.dl
  have hf0 := hy.f0
  have hf1 := hy.f1
  simp [sy0]
  refine val_loopG y.data a b _ (fun d hd a b Q c hQ => ?_) c fun vs a b c hv => ?_
  · have := hy.gr d hd
    simp
    refine roll' (m := m) c (by omega) (by omega) (by omega) fun r a b c h0 h1 => ?_
    simp
    refine some' (m := m) c (by omega) (by simp) (by simp) fun x a b c hx => ?_
    simp at hx
    rcases hx with rfl | rfl
    · simpa using hQ d.great a b c (by omega) (by omega)
    · simpa using hQ r a b c h0 (by omega)
  · have hvl := hv.len
    have hl1 : vs.length ≤ 16777216 := by omega
    simp [hl1]
    refine roll' (m := m) c (by omega) (by omega) (by omega) fun r a b c h0 h1 => ?_
    have hs : SOk y (vs, r) := ⟨hv, h0, by dsimp only; omega⟩
    have hbo := bans_ok hy hb
    have m1 : ∀ S Q, wp (run F m 6 [.p y.pv, .p (chPv bs (grsPv gs)), .p (stPv (vs, r))]) S Q = Q (.p (.tup ((moves y bs (vs, r)).map mvPv))) S := fun S Q => moves_at hy hs (bok_of hbo) (by omega)
    have m2 : ∀ S Q, wp (run F m 7 [.p y.pv, .p (bansPv bs), .p (stPv (vs, r))]) S Q = Q (.p (.lst ((moves y bs (vs, r)).map mvPv))) S := fun S Q => law_moves rfl hbo hy hs (by omega)
    have hml : (moves y bs (vs, r)).length ≤ 16777216 := by have := moves_len (y := y) (bs := bs) (s := (vs, r)) hy; omega
    obtain ⟨g1, g2, g3⟩ := mvs_ok (moves y bs (vs, r)) labsB
    have ho : okEq (.tup ((moves y bs (vs, r)).map mvPv)) (.tup ((moves y bs (vs, r)).map mvPv)) = true := by
      rw [okEq_iff]
      refine ⟨by simp [g1], by simp [g1], ?_⟩
      rw [deps_tup]
      omega
    have hch : ixop (chPv bs (grsPv gs)) (.int 0) = some (bansPv bs) := by simp [chPv]
    have hR := h (some (.p (chPv bs (grsPv gs)))) (some (.p (stPv (vs, r)))) a b c
    simp [stPv] at m1 m2 hR
    simp [m1, m2, hch, hml, ho, g3]
    exact hR
theorem turn {sc : PV} {f2 f3 f4 f5 f6 f7 f8 f9 f10 f11 : Option EV} {R : Flw → Store → Prop} (c : CupOk a b) (hm : 60 ≤ m) (h : ∀ f6 f8 f9 a b, CupOk a b → R (.nx [some (.p sc), some (.box 0), f2, f3, f4, f5, f6, f7, f8, f9, f10, f11]) (cup a b :: T)) : wp (exSs (run F m) tb [some (.p sc), some (.box 0), f2, f3, f4, f5, f6, f7, f8, f9, f10, f11]) (cup a b :: T) R := by
  rw [show tb = tb.take 2 ++ tb.drop 2 from rfl, wp_app]
  refine turnA c (by omega) fun y ps a b c hy hp => ?_
  rw [aft_nx]
  exact turnB c hm hy hp fun f8 f9 a b c => h _ _ _ _ _ c
theorem loop8 {sc : PV} {R : Flw → Store → Prop} (c : CupOk a b) (hm : 60 ≤ m) (h : ∀ f2 f6 f8 f9 a b, CupOk a b → R (.nx [some (.p sc), some (.box 0), f2, none, none, none, f6, none, f8, f9, none, none]) (cup a b :: T)) : wp (exS (run F m) (.forS (.nm 2) (.rng1 (.con (.int 8))) tb) [some (.p sc), some (.box 0), none, none, none, none, none, none, none, none, none, none]) (cup a b :: T) R := by
  generalize hC : tb = C
  have hsm : small (8 : Int) = true := by decide
  simp [hsm]
  refine loopF_inv (fun xs env S' => ∃ a b f2 f6 f8 f9, CupOk a b ∧ S' = cup a b :: T ∧ env = [some (.p sc), some (.box 0), f2, none, none, none, f6, none, f8, f9, none, none]) ⟨a, b, none, none, none, none, c, rfl, rfl⟩ ?_ ?_
  · rintro x r env S' ⟨a, b, f2, f6, f8, f9, c, rfl, rfl⟩
    refine ⟨_, rfl, ?_⟩
    rw [← hC]
    refine turn c hm fun f6 f8 f9 a b c => ?_
    exact ⟨a, b, _, _, _, _, c, rfl, rfl⟩
  · rintro env S' ⟨a, b, f2, f6, f8, f9, c, rfl, rfl⟩
    exact h _ _ _ _ _ _ c
end L15

set_option Elab.async false
set_option linter.all false
set_option maxRecDepth 100000
set_option maxHeartbeats 400000
namespace L15
open PySem L2 Ip Gm
variable {m k i : Nat} {S T : Store} {Q : EV → Store → Prop} {y : Sy} {s : Gs} {p : Gp} {a b : Int}
theorem mark_int {z : Int} (hm : 1 ≤ m) : wp (run F m 27 [.p (.int z)]) S Q = Q (.p (.int 2)) S := by
  refine wp_det ?_ Q
  obtain ⟨m, rfl⟩ : ∃ k, m = k + 1 := ⟨m - 1, by omega⟩
  rw [wp_run (d := e27.fn) rfl rfl]
  have hn : Ip.isNon (.int z) = false := rfl
  simp [e27, b27, hn]
theorem mark_str {z : Str} (hm : 1 ≤ m) : wp (run F m 27 [.p (.str z)]) S Q = Q (.p (.int 3)) S := by
  refine wp_det ?_ Q
  obtain ⟨m, rfl⟩ : ∃ k, m = k + 1 := ⟨m - 1, by omega⟩
  rw [wp_run (d := e27.fn) rfl rfl]
  have hn : Ip.isNon (.str z) = false := rfl
  simp [e27, b27, hn]
theorem mark_tup {xs : List PV} (hm : 1 ≤ m) : wp (run F m 27 [.p (.tup xs)]) S Q = Q (.p (.int 4)) S := by
  refine wp_det ?_ Q
  obtain ⟨m, rfl⟩ : ∃ k, m = k + 1 := ⟨m - 1, by omega⟩
  rw [wp_run (d := e27.fn) rfl rfl]
  simp [e27, b27]
theorem same_int {z : Int} (hm : 2 ≤ m) : wp (run F m 18 [.p (.int z), .p (.int z)]) S Q = Q (.p (.bl true)) S := by
  refine wp_det ?_ Q
  obtain ⟨m, rfl⟩ : ∃ k, m = k + 1 := ⟨m - 1, by omega⟩
  rw [wp_run (d := e18.fn) rfl rfl]
  have h := fun S Q => mark_int (m := m) (z := z) (S := S) (Q := Q) (by omega)
  simp [e18, b18, h]
  rfl
theorem same_str {z : Str} (hm : 2 ≤ m) : wp (run F m 18 [.p (.str z), .p (.str z)]) S Q = Q (.p (.bl true)) S := by
  refine wp_det ?_ Q
  obtain ⟨m, rfl⟩ : ∃ k, m = k + 1 := ⟨m - 1, by omega⟩
  rw [wp_run (d := e18.fn) rfl rfl]
  have h := fun S Q => mark_str (m := m) (z := z) (S := S) (Q := Q) (by omega)
  simp [e18, b18, h]
  rfl
theorem same_tup {xs : List PV} (hm : 1 ≤ m) (hl : xs.length ≤ 1000) (h : ∀ x ∈ xs, ∀ S Q, wp (run F m 18 [.p x, .p x]) S Q = Q (.p (.bl true)) S) : wp (run F (m + 1) 18 [.p (.tup xs), .p (.tup xs)]) S Q = Q (.p (.bl true)) S := by
  refine wp_det ?_ Q
  rw [wp_run (d := e18.fn) rfl rfl]
  have h1 := fun S Q => mark_tup (m := m) (xs := xs) (S := S) (Q := Q) (by omega)
  simp [e18, b18, h1]
  refine ⟨rfl, ?_⟩
  simp [evIt, seqOf]
  have hz : ∀ l : List PV, (∀ x ∈ l, x ∈ xs) → ∀ q ∈ zipL l l, ∃ x ∈ xs, q = .tup [x, x] := fun l => by
    induction l with
    | nil => intro _ q hq; cases hq
    | cons x l ih =>
      intro g q hq
      rw [show zipL (x :: l) (x :: l) = .tup [x, x] :: zipL l l from rfl] at hq
      rcases List.mem_cons.mp hq with rfl | hq
      · exact ⟨x, g x List.mem_cons_self, rfl⟩
      · exact ih (fun z hz => g z (List.mem_cons_of_mem _ hz)) q hq
  rw [compL_map (fun _ => false) (fun _ => .non)]
  · have e : (zipL xs xs).filter (fun _ => false) = [] := by simp
    rw [e]
    simp
    rfl
  · intro v hv R'
    obtain ⟨x, hx, rfl⟩ := hz xs (fun _ h => h) v hv
    simp [h x hx]
end L15

set_option Elab.async false
set_option linter.all false
set_option maxRecDepth 100000
set_option maxHeartbeats 400000
namespace L15
open PySem L2 Ip Gm
variable {m k i : Nat} {S T : Store} {Q : EV → Store → Prop} {y : Sy} {s : Gs} {p : Gp} {a b : Int} {qs : List Gp}
theorem pok_dr {ns : List Str} {p : Gp} (h1 : Tt.dr ns p.test) (h2 : p.test.ht ≤ 9) (h3 : ∀ q ∈ p.sets, q.1 ∈ ns ∧ q.2.units ≤ 9 ∧ Ep.dr ns q.2) (h4 : (p.sets.map (·.1)).Nodup) (h5 : p.sets.length ≤ 10) : POk ns p :=
  ⟨fun l hl hg => Tt.dr_ok hl hg h1, h2, fun q hq => ⟨(h3 q hq).1, (h3 q hq).2.1, fun l hl hg => Ep.dr_ok hl hg (h3 q hq).2.2⟩, h4, h5⟩
def EOk (p : Gp) : Prop := (∃ v : Int, 0 ≤ v ∧ v ≤ 3 ∧ p.sets = [(("a" : Str), Ep.is v)]) ∧ (p.test = .cst true ∨ ∃ r : Int, 0 ≤ r ∧ r ≤ 3 ∧ (p.test = .lf .same (.of "a") (.is r) ∨ p.test = .lf .unlike (.of "a") (.is r))) ∧ p.kind ≠ "fault"
def yE (qs : List Gp) : Sy := ⟨[⟨"a", 3, 0, false⟩], 0, qs, .tup [.tup [.str "p", .tup [.str "a"]]]⟩
theorem yE_names : (yE qs).names = [("a" : Str)] := rfl
theorem yE_ok (hl : qs.length ≤ 8) (h : ∀ p ∈ qs, EOk p) : YOk (yE qs) := by
  refine ⟨by rw [yE_names]; simp, by simp [yE], by simp [yE]; omega, ?_, by simp [yE], by simp [yE], ?_⟩
  · intro d hd
    simp [yE] at hd
    subst hd; decide
  · intro p hp
    rw [yE_names]
    obtain ⟨⟨v, v0, v1, hv⟩, ht, hk⟩ := h p hp
    refine pok_dr ?_ ?_ (fun q hq => ?_) (by rw [hv]; simp) (by rw [hv]; simp)
    · rcases ht with e | ⟨r, r0, r1, e | e⟩
      · rw [e]; trivial
      · rw [e]; simp [Tt.dr, Ep.dr, Ep.units]; omega
      · rw [e]; simp [Tt.dr, Ep.dr, Ep.units]; omega
    · rcases ht with e | ⟨r, r0, r1, e | e⟩ <;> rw [e] <;> simp [Tt.ht]
    · rw [hv] at hq
      simp at hq; subst hq
      exact ⟨by simp, by simp [Ep.units], by simp [Ep.dr]; omega⟩
def vOf (p : Gp) : Int := match p.sets with
  | [(_, .is v)] => v
  | _ => 0
def soE (n : Int) (p : Gp) : Bool := p.test.so [("a", n)]
theorem pos_E {n : Int} (h : EOk p) : posB (yE qs) [] ([n], 0) i p = soE n p := by
  obtain ⟨⟨v, v0, v1, hv⟩, ht, hk⟩ := h
  have e1 : (yE qs).prs ([n], 0) = [(("a" : Str), n)] := rfl
  unfold posB soE
  rw [e1]
  have e2 : setL (yE qs) ([n], 0) p = [(("a" : Str), v)] := by unfold setL; rw [hv]; rfl
  rw [e2]
  have e3 : inR (yE qs) ("a", v) = true := by
    have : greatOf (yE qs) "a" = 3 := rfl
    unfold inR
    rw [this]
    simp
    omega
  simp [hk, e3, banned]
theorem after_E {n : Int} (h : EOk p) : after (yE qs) ([n], 0) p = ([vOf p], 0) := by
  obtain ⟨⟨v, v0, v1, hv⟩, ht, hk⟩ := h
  have e1 : (yE qs).prs ([n], 0) = [(("a" : Str), n)] := rfl
  have e2 : setL (yE qs) ([n], 0) p = [(("a" : Str), v)] := by unfold setL; rw [hv]; rfl
  have e4 : vOf p = v := by unfold vOf; rw [hv]
  unfold after newV lowF
  rw [e1, e2, e4]
  simp [hk, look]
theorem tick_E {n : Int} : canTick (yE qs) ([n], 0) = false := by
  have : tickV (yE qs) ([n], 0) = [n] := by simp [tickV, yE]
  unfold canTick
  rw [this]
  simp
def duePv (q : Gp × Nat) : PV := .tup [.int (q.2 : Int), .tup [.tup [.int (vOf q.1)], .int 0]]
def dueL (n : Int) (qs : List Gp) : List PV := (qs.zipIdx.filter fun q => soE n q.1).map duePv
def restE (n : Int) : PV := .tup [.str "rest", .tup [.tup [.int n], .int 0]]
theorem moves_E {n : Int} (h : ∀ p ∈ qs, EOk p) : (moves (yE qs) [] ([n], 0)).map mvPv = if dueL n qs = [] then [restE n] else dueL n qs := by
  have e : mvL (yE qs) [] ([n], 0) = (qs.zipIdx.filter fun q => soE n q.1).map fun q => (PV.int (q.2 : Int), (([vOf q.1], 0) : Gs)) := by
    unfold mvL
    rw [tick_E]
    simp only [Bool.false_eq_true, if_false, List.append_nil]
    have hm : ∀ q ∈ qs.zipIdx, q.1 ∈ qs := fun q hq => List.mem_of_getElem? (List.mem_zipIdx_iff_getElem?.mp hq)
    have ef : (qs.zipIdx.filter fun q => posB (yE qs) [] ([n], 0) q.2 q.1) = qs.zipIdx.filter fun q => soE n q.1 := by
      refine List.filter_congr fun q hq => ?_
      exact pos_E (h q.1 (hm q hq))
    rw [show (yE qs).steps = qs from rfl, ef]
    refine List.map_congr_left fun q hq => ?_
    rw [after_E (h q.1 (hm q (List.mem_filter.mp hq).1))]
  have e2 : dueL n qs = (mvL (yE qs) [] ([n], 0)).map mvPv := by
    rw [e, List.map_map]
    rfl
  rw [moves_mvL, e2]
  by_cases g : mvL (yE qs) [] ([n], 0) = []
  · rw [if_pos g, g]
    rfl
  · rw [if_neg g, if_neg (by simpa using g)]
theorem dueL_snoc {n : Int} {dn : List Gp} : dueL n (dn ++ [p]) = dueL n dn ++ (if soE n p then [duePv (p, dn.length)] else []) := by
  unfold dueL
  rw [List.zipIdx_append, List.filter_append, List.map_append]
  congr 1
  cases g : soE n p <;> simp [g]
theorem dueL_len {n : Int} : (dueL n qs).length ≤ qs.length := by
  unfold dueL
  rw [List.length_map]
  refine Nat.le_trans (List.length_filter_le _ _) ?_
  simp
theorem same_rows {n : Int} (hm : 8 ≤ m) (hl : qs.length ≤ 8) : wp (run F m 18 [.p (.tup (if dueL n qs = [] then [restE n] else dueL n qs)), .p (.tup (if dueL n qs = [] then [restE n] else dueL n qs))]) S Q = Q (.p (.bl true)) S := by
  obtain ⟨m, rfl⟩ : ∃ k, m = k + 5 := ⟨m - 5, by omega⟩
  have st : ∀ v : Int, ∀ S Q, wp (run F (m + 3) 18 [.p (.tup [.tup [.int v], .int 0]), .p (.tup [.tup [.int v], .int 0])]) S Q = Q (.p (.bl true)) S := fun v S Q => by
    refine same_tup (by omega) (by simp) fun x hx S Q => ?_
    simp at hx
    rcases hx with rfl | rfl
    · refine same_tup (by omega) (by simp) fun x hx S Q => ?_
      simp at hx
      subst hx
      exact same_int (by omega)
    · exact same_int (by omega)
  have h1 : ∀ x ∈ (if dueL n qs = [] then [restE n] else dueL n qs), ∀ S Q, wp (run F (m + 4) 18 [.p x, .p x]) S Q = Q (.p (.bl true)) S := fun x hx S Q => by
    have : (∃ q, x = duePv q) ∨ x = restE n := by
      split at hx
      · exact .inr (List.mem_singleton.mp hx)
      · unfold dueL at hx
        obtain ⟨q, _, rfl⟩ := List.mem_map.mp hx
        exact .inl ⟨q, rfl⟩
    rcases this with ⟨q, rfl⟩ | rfl
    · refine same_tup (by omega) (by simp) fun x hx S Q => ?_
      simp at hx
      rcases hx with rfl | rfl
      · exact same_int (by omega)
      · exact st _ S Q
    · refine same_tup (by omega) (by simp) fun x hx S Q => ?_
      simp at hx
      rcases hx with rfl | rfl
      · exact same_str (by omega)
      · exact st _ S Q
  refine same_tup (by omega) ?_ h1
  have := dueL_len (n := n) (qs := qs)
  split
  · simp
  · omega
end L15

set_option Elab.async false
set_option linter.all false
set_option maxRecDepth 100000
set_option maxHeartbeats 400000
namespace L15
open PySem L2 Ip Gm
variable {m k i : Nat} {S T : Store} {Q : EV → Store → Prop} {y : Sy} {s : Gs} {p : Gp} {a b : Int} {qs : List Gp}
def dB : List Sx := match b8 with | _ :: .forS _ _ b :: _ => b | _ => []
def ofA : PV := .tup [.str "of", .str "a"]
theorem let8 : ∀ i : Nat, i < 8 → ∃ z : Str, ixop (.str "abcdefgh") (.int (i : Int)) = some (.str z) ∧ z.length ≤ 1
  | 0, _ => ⟨_, rfl, by decide +kernel⟩
  | 1, _ => ⟨_, rfl, by decide +kernel⟩
  | 2, _ => ⟨_, rfl, by decide +kernel⟩
  | 3, _ => ⟨_, rfl, by decide +kernel⟩
  | 4, _ => ⟨_, rfl, by decide +kernel⟩
  | 5, _ => ⟨_, rfl, by decide +kernel⟩
  | 6, _ => ⟨_, rfl, by decide +kernel⟩
  | 7, _ => ⟨_, rfl, by decide +kernel⟩
  | i + 8, h => absurd h (by omega)
theorem draw_one {n : Int} {f2 f3 f7 f8 f9 : Option EV} {R : Flw → Store → Prop} (c : CupOk a b) (hm : 40 ≤ m) (hl : qs.length < 8) (h : ∀ f7 f8 p a b, CupOk a b → EOk p → R (.nx [some (.box 0), some (.p (.int (qs.length : Int))), f2, f3, some (.p (.int n)), some (.box (T.length + 1)), some (.p ofA), f7, f8, f9]) (cup a b :: (T ++ [.lst ((qs ++ [p]).map Gp.pv)]))) : wp (exSs (run F m) dB [some (.box 0), some (.p (.int (qs.length : Int))), f2, f3, some (.p (.int n)), some (.box (T.length + 1)), some (.p ofA), f7, f8, f9]) (cup a b :: (T ++ [.lst (qs.map Gp.pv)])) R := by
  obtain ⟨z, hz, hzl⟩ := let8 qs.length hl
  simp only [dB, b8]
  simp
  refine roll' (m := m) c (by omega) (by omega) (by omega) fun r1 a b c r10 r11 => ?_
  simp
  refine roll' (m := m) c (by omega) (by omega) (by omega) fun r2 a b c r20 r21 => ?_
  simp
  refine some' (m := m) c (by omega) (by simp) (by simp) fun x a b c hx => ?_
  refine some' (m := m) c (by omega) (by simp) (by simp) fun w a b c hw => ?_
  simp
  rw [wp_chkA get_mid]
  have ht : ∃ t : Tt, x = t.pv ∧ (t = .cst true ∨ ∃ r : Int, 0 ≤ r ∧ r ≤ 3 ∧ (t = .lf .same (.of "a") (.is r) ∨ t = .lf .unlike (.of "a") (.is r))) := by
    simp at hx
    rcases hx with rfl | rfl | rfl
    · exact ⟨.cst true, rfl, .inl rfl⟩
    · exact ⟨.lf .same (.of "a") (.is r1), rfl, .inr ⟨r1, r10, by omega, .inl rfl⟩⟩
    · exact ⟨.lf .unlike (.of "a") (.is r2), rfl, .inr ⟨r2, r20, by omega, .inr rfl⟩⟩
  have hk : ∃ kd : Str, w = .str kd ∧ kd ≠ "fault" := by
    simp at hw
    rcases hw with rfl | rfl | rfl | rfl
    · exact ⟨_, rfl, by decide +kernel⟩
    · exact ⟨_, rfl, by decide +kernel⟩
    · exact ⟨_, rfl, by decide +kernel⟩
    · exact ⟨_, rfl, by decide +kernel⟩
  obtain ⟨t, rfl, ht⟩ := ht
  obtain ⟨kd, rfl, hk⟩ := hk
  simp [hz]
  have hsl : (Str.ofString "s").length = 1 := by decide +kernel
  have fin : ∀ (ow : PV) (r : Int) (a b : Int), CupOk a b → 0 ≤ r → r < 4 → wp (methop .append (.box (T.length + 1)) [.tup [.str (Str.ofString "s" ++ z), ow, .str kd, t.pv, .tup [.tup [.str "a", .tup [.str "is", .int r]]]]]) (cup a b :: (T ++ [.lst (qs.map Gp.pv)])) fun x S => R (.nx [some (.box 0), some (.p (.int (qs.length : Int))), f2, f3, some (.p (.int n)), some (.box (T.length + 1)), some (.p ofA), some (.p t.pv), some (.p (.str kd)), f9]) S := fun ow r a b c h0 h1 => by
    rw [wp_appB get_mid (by rw [List.length_map]; unfold Line; omega), set_mid]
    have hp : EOk ⟨Str.ofString "s" ++ z, ow, kd, t, [("a", .is r)]⟩ := ⟨⟨r, h0, by omega, rfl⟩, ht, hk⟩
    have := h (some (.p t.pv)) (some (.p (.str kd))) _ a b c hp
    simpa [Gp.pv, setPv, Ep.pv] using this
  refine ⟨by omega, ?_⟩
  by_cases hn : (qs.length : Int) < n
  · rw [if_pos hn]
    refine roll' (m := m) (n := 4) (T := T ++ [.lst (qs.map Gp.pv)]) c (by omega) (by omega) (by omega) fun r a b c h0 h1 => ?_
    simp
    exact fin .non r a b c h0 h1
  · rw [if_neg hn]
    refine roll' (m := m) (n := 4) (T := T ++ [.lst (qs.map Gp.pv)]) c (by omega) (by omega) (by omega) fun r a b c h0 h1 => ?_
    simp
    exact fin (.int 0) r a b c h0 h1
theorem draw_all {n : Int} {f1 f2 f3 f7 f8 f9 : Option EV} {R : Flw → Store → Prop} (c : CupOk a b) (hm : 40 ≤ m) (h : ∀ (f1 f7 f8 : Option EV) (qs : List Gp) (a b : Int), CupOk a b → qs.length = 8 → (∀ p ∈ qs, EOk p) → R (.nx [some (.box 0), f1, f2, f3, some (.p (.int n)), some (.box (T.length + 1)), some (.p ofA), f7, f8, f9]) (cup a b :: (T ++ [.lst (qs.map Gp.pv)]))) : wp (exS (run F m) (.forS (.nm 1) (.rng1 (.con (.int 8))) dB) [some (.box 0), f1, f2, f3, some (.p (.int n)), some (.box (T.length + 1)), some (.p ofA), f7, f8, f9]) (cup a b :: (T ++ [.lst []])) R := by
  generalize hC : dB = C
  have hsm : small (8 : Int) = true := by decide
  simp [hsm]
  rw [show rngL 0 8 = ((List.range' 0 (8 - 0)).map fun j => PV.int ((j : Nat) : Int)) from rfl]
  refine loopF_inv (fun xs env S' => ∃ (qs : List Gp) (a b : Int) (f1 f7 f8 : Option EV), qs.length ≤ 8 ∧ (∀ p ∈ qs, EOk p) ∧ xs = ((List.range' qs.length (8 - qs.length)).map fun j => PV.int ((j : Nat) : Int)) ∧ CupOk a b ∧ S' = cup a b :: (T ++ [.lst (qs.map Gp.pv)]) ∧ env = [some (.box 0), f1, f2, f3, some (.p (.int n)), some (.box (T.length + 1)), some (.p ofA), f7, f8, f9]) ⟨[], a, b, f1, f7, f8, by simp, by simp, rfl, c, rfl, rfl⟩ ?_ ?_
  · rintro x r env S' ⟨qs, a, b, f1, f7, f8, hl, hq, hx, c, rfl, rfl⟩
    have hlt : qs.length < 8 := by
      by_cases q : qs.length < 8
      · exact q
      · rw [show 8 - qs.length = 0 by omega] at hx
        cases hx
    rw [rngL_cons hlt] at hx
    cases hx
    refine ⟨_, rfl, ?_⟩
    rw [← hC]
    refine draw_one c hm hlt fun f7 f8 p a b c hp => ?_
    refine ⟨qs ++ [p], a, b, _, f7, f8, by simp; omega, fun g hg => ?_, by simp, c, rfl, rfl⟩
    rcases List.mem_append.mp hg with hg | hg
    · exact hq g hg
    · rw [List.mem_singleton.mp hg]; exact hp
  · rintro env S' ⟨qs, a, b, f1, f7, f8, hl, hq, hx, c, rfl, rfl⟩
    have : qs.length = 8 := by
      by_cases q : qs.length < 8
      · rw [rngL_cons q] at hx; cases hx
      · omega
    exact h _ _ _ qs a b c this hq
end L15

set_option Elab.async false
set_option linter.all false
set_option maxRecDepth 100000
set_option maxHeartbeats 400000
namespace L15
open PySem L2 Ip Gm
variable {m k i n5 : Nat} {S T : Store} {Q : EV → Store → Prop} {y : Sy} {s : Gs} {p : Gp} {a b : Int} {qs : List Gp}
def uB : List Sx := match b8 with | _ :: _ :: _ :: .forS _ _ b :: _ => b | _ => []
def wB : List Sx := match uB with | _ :: .forS _ _ b :: _ => b | _ => []
theorem due_one {n : Int} {dn rs : List Gp} {f0 f2 f4 f6 f7 f8 : Option EV} {R : Flw → Store → Prop} (hS : S[n5]? = some (.lst (qs.map Gp.pv))) (hdn : qs = dn ++ p :: rs) (hl : qs.length ≤ 8) (he : EOk p) (h : ∀ f7, R (.nx [f0, some (.p (.int (dn.length : Int))), f2, some (.p (.int n)), f4, some (.box n5), f6, f7, f8, some (.box S.length)]) (S ++ [.lst (dueL n (dn ++ [p]))])) : wp (exSs (run F m) wB [f0, some (.p (.int (dn.length : Int))), f2, some (.p (.int n)), f4, some (.box n5), f6, f7, f8, some (.box S.length)]) (S ++ [.lst (dueL n dn)]) R := by
  obtain ⟨⟨v, v0, v1, hv⟩, ht, hk⟩ := he
  have hn5 : n5 < S.length := (List.getElem?_eq_some_iff.mp hS).1
  have hS2 : ((S ++ [Cell.lst (dueL n dn)])[n5]?).bind cellV = some (.lst (qs.map Gp.pv)) := by
    rw [List.getElem?_append_left hn5, hS]; rfl
  have hstep : qs[dn.length]? = some p := by rw [hdn]; simp
  have ha : atI (qs.map Gp.pv) ((dn.length : Nat) : Int) = some p.pv := ix_steps (y := yE qs) hstep
  have h3 : ixop p.pv (.int 3) = some p.test.pv := by simp [Gp.pv]
  have h4 : ixop p.pv (.int 4) = some (.tup [.tup [.str "a", .tup [.str "is", .int v]]]) := by rw [sp4, hv]; rfl
  have hvo : vOf p = v := by unfold vOf; rw [hv]
  have hcell : (S ++ [Cell.lst (dueL n dn)])[S.length]? = some (.lst (dueL n dn)) := by rw [getE]
  have hdl : (dueL n dn).length < Line := by
    have h1 := dueL_len (n := n) (qs := dn)
    have : dn.length ≤ qs.length := by rw [hdn]; simp
    unfold Line; omega
  have hd : duePv (p, dn.length) = .tup [.int (dn.length : Int), .tup [.tup [.int v], .int 0]] := by unfold duePv; rw [hvo]
  have hset : ∀ z : PV, (S ++ [Cell.lst (dueL n dn)]).set S.length (.lst (dueL n dn ++ [z])) = S ++ [.lst (dueL n dn ++ [z])] := fun z => by rw [setE]
  rw [dueL_snoc] at h
  simp only [wB, uB, b8]
  rcases ht with e | ⟨r, r0, r1, e | e⟩
  · have hs : soE n p = true := by unfold soE; rw [e]; rfl
    rw [hs, if_pos rfl, hd] at h
    simp [hS2, ha, h3, e, Tt.pv]
    refine ⟨rfl, ?_⟩
    rw [wp_chkA hcell]
    simp [hS2, ha, h4]
    rw [wp_appB hcell hdl, hset]
    exact h _
  · have hs : soE n p = decide (n = r) := by unfold soE; rw [e]; simp [Tt.so, Cw.val, Ep.val, look]
    rw [hs, hd] at h
    simp [hS2, ha, h3, e, Tt.pv, Ep.pv, Cw.w]
    refine ⟨rfl, rfl, ?_⟩
    by_cases g : r = n
    · rw [if_pos g]
      rw [decide_eq_true g.symm, if_pos rfl] at h
      rw [wp_chkA hcell]
      simp [hS2, ha, h4]
      rw [wp_appB hcell hdl, hset]
      exact h _
    · rw [if_neg g]
      rw [decide_eq_false (fun q => g q.symm)] at h
      simpa using h _
  · have hs : soE n p = !decide (n = r) := by unfold soE; rw [e]; simp [Tt.so, Cw.val, Ep.val, look]
    rw [hs, hd] at h
    simp [hS2, ha, h3, e, Tt.pv, Ep.pv, Cw.w]
    refine ⟨rfl, rfl, ?_⟩
    by_cases g : r = n
    · rw [if_pos g]
      rw [decide_eq_true g.symm] at h
      simpa using h _
    · rw [if_neg g]
      rw [decide_eq_false (fun q => g q.symm)] at h
      simp at h
      rw [wp_chkA hcell]
      simp [hS2, ha, h4]
      rw [wp_appB hcell hdl, hset]
      exact h _
theorem due_all {n : Int} {f0 f1 f2 f4 f6 f7 f8 : Option EV} {R : Flw → Store → Prop} (hS : S[n5]? = some (.lst (qs.map Gp.pv))) (hl : qs.length = 8) (he : ∀ p ∈ qs, EOk p) (h : ∀ f1 f7, R (.nx [f0, f1, f2, some (.p (.int n)), f4, some (.box n5), f6, f7, f8, some (.box S.length)]) (S ++ [.lst (dueL n qs)])) : wp (exS (run F m) (.forS (.nm 1) (.rng1 (.con (.int 8))) wB) [f0, f1, f2, some (.p (.int n)), f4, some (.box n5), f6, f7, f8, some (.box S.length)]) (S ++ [.lst []]) R := by
  generalize hC : wB = C
  have hsm : small (8 : Int) = true := by decide
  simp [hsm]
  rw [show rngL 0 8 = ((List.range' 0 (8 - 0)).map fun j => PV.int ((j : Nat) : Int)) from rfl]
  refine loopF_inv (fun xs env S' => ∃ (dn rs : List Gp) (f1 f7 : Option EV), qs = dn ++ rs ∧ xs = ((List.range' dn.length (8 - dn.length)).map fun j => PV.int ((j : Nat) : Int)) ∧ S' = S ++ [.lst (dueL n dn)] ∧ env = [f0, f1, f2, some (.p (.int n)), f4, some (.box n5), f6, f7, f8, some (.box S.length)]) ⟨[], qs, f1, f7, rfl, rfl, rfl, rfl⟩ ?_ ?_
  · rintro x r env S' ⟨dn, rs, f1, f7, hdn, hx, rfl, rfl⟩
    have hlt : dn.length < 8 := by
      by_cases q : dn.length < 8
      · exact q
      · rw [show 8 - dn.length = 0 by omega] at hx
        cases hx
    cases rs with
    | nil => rw [hdn, List.append_nil] at hl; omega
    | cons p rs =>
      rw [rngL_cons hlt] at hx
      cases hx
      refine ⟨_, rfl, ?_⟩
      rw [← hC]
      refine due_one hS hdn (by omega) (he p (by rw [hdn]; simp)) fun f7 => ?_
      exact ⟨dn ++ [p], rs, _, f7, by rw [hdn]; simp, by simp, rfl, rfl⟩
  · rintro env S' ⟨dn, rs, f1, f7, hdn, hx, rfl, rfl⟩
    have h8 : ¬ dn.length < 8 := fun q => by rw [rngL_cons q] at hx; cases hx
    have hrs : rs = [] := by
      have := congrArg List.length hdn
      rw [List.length_append] at this
      exact List.eq_nil_of_length_eq_zero (by omega)
    subst hrs
    rw [List.append_nil] at hdn
    subst hdn
    exact h _ _
theorem due_plain {n : Int} : plains (dueL n qs) = true := by
  unfold dueL
  generalize (qs.zipIdx.filter fun q => soE n q.1) = l
  induction l with
  | nil => rfl
  | cons q l ih => simp [ih, duePv]
theorem wp_neB {n : Nat} {xs : List PV} {Q : EV → Store → Prop} (h : (S[n]?).bind cellV = some (.lst xs)) (ho : okEq (.lst xs) (.lst []) = true) : wp (cmpE .ne (.box n) (.p (.lst []))) S Q = Q (.p (.bl (!decide (xs = [])))) S := by
  unfold cmpE
  cases xs with
  | nil => simp [h, ho]
  | cons x l => simp [h, ho]
theorem uB_eq : uB = uB.take 1 ++ ([.forS (.nm 1) (.rng1 (.con (.int 8))) wB] ++ uB.drop 2) := rfl
theorem round_one {n : Int} {f0 f1 f4 f6 f7 f8 f9 : Option EV} {R : Flw → Store → Prop} (hm : 60 ≤ m) (h0 : 0 ≤ n) (h3 : n ≤ 3) (hS : S[n5]? = some (.lst (qs.map Gp.pv))) (hl : qs.length = 8) (he : ∀ p ∈ qs, EOk p) (h : ∀ f1 f7 f9 X, R (.nx [f0, f1, some (.p (yE qs).pv), some (.p (.int n)), f4, some (.box n5), f6, f7, f8, f9]) (S ++ [X])) : wp (exSs (run F m) uB [f0, f1, some (.p (yE qs).pv), some (.p (.int n)), f4, some (.box n5), f6, f7, f8, f9]) S R := by
  rw [uB_eq, wp_app]
  generalize hz : ([.forS (.nm 1) (.rng1 (.con (.int 8))) wB] ++ uB.drop 2 : List Sx) = Z
  simp only [uB, b8, List.take_succ_cons, List.take_zero]
  simp
  rw [← hz, wp_app, wp_ss1]
  refine due_all hS hl he fun f1 f7 => ?_
  rw [aft_nx, wp_ss0, aft_nx]
  have hs : SOk (yE qs) ([n], 0) := ⟨.cons h0 h3 .nil, by simp, by simp [yE]⟩
  have hmv := moves_E (n := n) he
  have m6 : ∀ S Q, wp (run F m 6 [.p (yE qs).pv, .p (.tup [.tup [], .tup []]), .p (.tup [.tup [.int n], .int 0])]) S Q = Q (.p (.tup (if dueL n qs = [] then [restE n] else dueL n qs))) S := fun S Q => by
    rw [← hmv]
    exact moves_at (bs := []) (gr := .tup []) (yE_ok (by omega) he) hs ⟨by simp, by simp⟩ (by omega)
  have sm : ∀ S Q, wp (run F m 18 [.p (.tup (if dueL n qs = [] then [restE n] else dueL n qs)), .p (.tup (if dueL n qs = [] then [restE n] else dueL n qs))]) S Q = Q (.p (.bl true)) S := fun S Q => same_rows (by omega) (by omega)
  have hcell : ((S ++ [Cell.lst (dueL n qs)])[S.length]?).bind cellV = some (.lst (dueL n qs)) := by rw [getE]; rfl
  have hok : okEq (.lst (dueL n qs)) (.lst []) = true := by simp [okEq, due_plain]
  have hdl : (dueL n qs).length ≤ 16777216 := by
    have h1 := dueL_len (n := n) (qs := qs)
    omega
  simp only [uB, b8, List.drop_succ_cons, List.drop_zero]
  generalize (yE qs).pv = yy at *
  by_cases g : dueL n qs = []
  · rw [if_pos g] at m6 sm
    have e : restE n = .tup [.str "rest", .tup [.tup [.int n], .int 0]] := rfl
    rw [e] at m6 sm
    rw [g] at hcell hok ⊢
    simp
    rw [wp_neB hcell hok]
    simp [m6, sm]
    exact h _ _ _ _
  · rw [if_neg g] at m6 sm
    simp
    rw [wp_neB hcell hok]
    simp [hcell, g, hdl, m6, sm]
    exact h _ _ _ _
theorem rounds {f0 f1 f3 f4 f6 f7 f8 f9 : Option EV} {R : Flw → Store → Prop} (hm : 60 ≤ m) (hS : S[n5]? = some (.lst (qs.map Gp.pv))) (hl : qs.length = 8) (he : ∀ p ∈ qs, EOk p) (h : ∀ f1 f3 f7 f9 X, R (.nx [f0, f1, some (.p (yE qs).pv), f3, f4, some (.box n5), f6, f7, f8, f9]) (S ++ X)) : wp (exS (run F m) (.forS (.nm 3) (.rng1 (.con (.int 4))) uB) [f0, f1, some (.p (yE qs).pv), f3, f4, some (.box n5), f6, f7, f8, f9]) S R := by
  generalize hC : uB = C
  obtain ⟨yy, hyy⟩ : ∃ yy, yy = (yE qs).pv := ⟨_, rfl⟩
  rw [← hyy] at h ⊢
  have hn5 : n5 < S.length := (List.getElem?_eq_some_iff.mp hS).1
  have hsm : small (4 : Int) = true := by decide
  simp [hsm]
  rw [show rngL 0 4 = ((List.range' 0 (4 - 0)).map fun j => PV.int ((j : Nat) : Int)) from rfl]
  refine loopF_inv (fun xs env S' => ∃ (i : Nat) (f1 f3 f7 f9 : Option EV) (X : Store), xs = ((List.range' i (4 - i)).map fun j => PV.int ((j : Nat) : Int)) ∧ S' = S ++ X ∧ env = [f0, f1, some (.p yy), f3, f4, some (.box n5), f6, f7, f8, f9]) ⟨0, f1, f3, f7, f9, [], rfl, by simp, rfl⟩ ?_ ?_
  · rintro x r env S' ⟨i, f1, f3, f7, f9, X, hx, rfl, rfl⟩
    have hlt : i < 4 := by
      by_cases q : i < 4
      · exact q
      · rw [show 4 - i = 0 by omega] at hx
        cases hx
    rw [rngL_cons hlt] at hx
    cases hx
    refine ⟨_, rfl, ?_⟩
    rw [← hC, hyy]
    refine round_one hm (by omega) (by omega) (by rw [List.getElem?_append_left hn5]; exact hS) hl he fun f1 f7 f9 Y => ?_
    exact ⟨i + 1, f1, _, f7, f9, X ++ [Y], rfl, by simp, rfl⟩
  · rintro env S' ⟨i, f1, f3, f7, f9, X, hx, rfl, rfl⟩
    exact h _ _ _ _ _
theorem b8_eq : b8 = b8.take 1 ++ ([.forS (.nm 1) (.rng1 (.con (.int 8))) dB] ++ ((b8.drop 2).take 1 ++ ([.forS (.nm 3) (.rng1 (.con (.int 4))) uB] ++ b8.drop 4))) := rfl
theorem eight_right (c : CupOk a b) (hm : 61 ≤ m) (hQ : ∀ a b, CupOk a b → Q (.p (.bl true)) (cup a b :: T)) : wp (run F m 8 [.box 0]) (cup a b :: T) Q := by
  obtain ⟨m, rfl⟩ : ∃ k, m = k + 1 := ⟨m - 1, by omega⟩
  rw [wp_run (d := e8.fn) rfl rfl]
  show wp (exSs (run F m) b8 [some (.box 0), none, none, none, none, none, none, none, none, none]) _ _
  rw [b8_eq, wp_app]
  generalize hz : ([.forS (.nm 1) (.rng1 (.con (.int 8))) dB] ++ ((b8.drop 2).take 1 ++ ([.forS (.nm 3) (.rng1 (.con (.int 4))) uB] ++ b8.drop 4)) : List Sx) = Z
  simp only [b8, List.take_succ_cons, List.take_zero]
  simp
  refine roll' (m := m) c (by omega) (by omega) (by omega) fun n a b c h0 h1 => ?_
  simp
  rw [← hz, wp_app, wp_ss1]
  refine draw_all c (by omega) fun f1 f7 f8 qs a b c hl he => ?_
  rw [aft_nx, wp_ss0, aft_nx, wp_app]
  generalize hz2 : ([.forS (.nm 3) (.rng1 (.con (.int 4))) uB] ++ b8.drop 4 : List Sx) = Z2
  simp only [b8, List.drop_succ_cons, List.drop_zero, List.take_succ_cons, List.take_zero]
  have hcell : ((cup a b :: (T ++ [.lst (qs.map Gp.pv)]))[T.length + 1]?).bind cellV = some (.lst (qs.map Gp.pv)) := by rw [get_mid]; rfl
  have hql : qs.length ≤ 16777216 := by omega
  simp [hcell, hql]
  rw [← hz2, wp_app, wp_ss1]
  refine rounds (qs := qs) (by omega) get_mid hl he fun f1 f3 f7 f9 X => ?_
  rw [aft_nx, wp_ss0, aft_nx]
  simp only [b8, List.drop_succ_cons, List.drop_zero]
  have e1 : e8.fn.keep = false := rfl
  simp [e1]
  exact hQ a b c
end L15

set_option Elab.async false
set_option linter.all false
set_option maxRecDepth 100000
set_option maxHeartbeats 1000000
namespace L15
open PySem L2 Ip Gm
variable {m k i : Nat} {S T : Store} {Q : EV → Store → Prop} {y : Sy} {s : Gs} {p : Gp} {a b : Int} {bs : List Ban}
def q0 : Gp := ⟨"haste", .int 0, "urgent", .lf .same (.of "a") (.is 1), [("a", .is 2)]⟩
def q1 : Gp := ⟨"up", .int 0, "plain", .lf .less (.of "a") (.is 1), [("a", .is 1)]⟩
def yF : Sy := ⟨[⟨"a", 2, 0, false⟩, ⟨"c", 2, 0, true⟩, ⟨"d", 1, 0, true⟩], 0, [q0, q1], .tup [.tup [.str "me", .tup [.str "a"]]]⟩
theorem yF_names : yF.names = [("a" : Str), ("c" : Str), ("d" : Str)] := rfl
theorem yF_ok : YOk yF := by
  refine ⟨by decide +kernel, by decide, by decide, ?_, by decide, by decide, ?_⟩
  · intro d hd
    simp [yF] at hd
    rcases hd with rfl | rfl | rfl <;> decide
  · intro p hp
    rw [yF_names]
    simp [yF] at hp
    rcases hp with rfl | rfl
    all_goals
      refine pok_dr (by simp [q0, q1, Tt.dr, Ep.dr, Ep.units]) (by simp [q0, q1, Tt.ht]) (fun q hq => ?_) (by simp [q0, q1]) (by simp [q0, q1])
      simp [q0, q1] at hq
      subst hq
      exact ⟨by simp, by simp [Ep.units], by simp [Ep.dr]⟩
theorem sok {u v w : Int} (h : 0 ≤ u ∧ u ≤ 2 ∧ 0 ≤ v ∧ v ≤ 2 ∧ 0 ≤ w ∧ w ≤ 1) : SOk yF ([u, v, w], 0) := ⟨.cons h.1 h.2.1 (.cons h.2.2.1 h.2.2.2.1 (.cons h.2.2.2.2.1 h.2.2.2.2.2 .nil)), Int.le_refl _, Int.le_refl _⟩
theorem mo {r : List PV} (hm : 60 ≤ m) (bs : List Ban) (u v w : Int) (hb : BOk bs) (hs : 0 ≤ u ∧ u ≤ 2 ∧ 0 ≤ v ∧ v ≤ 2 ∧ 0 ≤ w ∧ w ≤ 1) (hr : (moves yF bs ([u, v, w], 0)).map mvPv = r) : ∀ S Q, wp (run F m 6 [.p yF.pv, .p (.tup [bansPv bs, .tup []]), .p (.tup [.tup [.int u, .int v, .int w], .int 0])]) S Q = Q (.p (.tup r)) S := fun S Q => by
  rw [← hr]
  exact moves_at yF_ok (sok hs) hb (by omega)
def fA : List Sx := (b0.drop 3).take 8
def fB : List Sx := b0.drop 11
def st3 (u v w : Int) : PV := .tup [.tup [.int u, .int v, .int w], .int 0]
def x0 : PV := .tup [.tup [.int 0, .int 0, .int 0], .tup [], .tup [.tup [.int 1, .tup [.tup [.int 1, .int 0, .int 0], .int 0]], .tup [.str "tick", .tup [.tup [.int 0, .int 1, .int 1], .int 0]]]]
def x1 : PV := .tup [.tup [.int 1, .int 0, .int 0], .tup [], .tup [.tup [.int 0, .tup [.tup [.int 2, .int 0, .int 0], .int 0]]]]
def x2 : PV := .tup [.tup [.int 1, .int 0, .int 0], .tup [.tup [.int 0, .tup []]], .tup [.tup [.str "rest", .tup [.tup [.int 1, .int 0, .int 0], .int 0]]]]
def x3 : PV := .tup [.tup [.int 2, .int 1, .int 1], .tup [], .tup [.tup [.str "tick", .tup [.tup [.int 2, .int 2, .int 1], .int 0]]]]
def x4 : PV := .tup [.tup [.int 2, .int 2, .int 1], .tup [], .tup [.tup [.str "rest", .tup [.tup [.int 2, .int 2, .int 1], .int 0]]]]
def x5 : PV := .tup [.tup [.int 0, .int 2, .int 1], .tup [.tup [.int 1, .tup [.tup [.str "a", .int 0]]]], .tup [.tup [.str "rest", .tup [.tup [.int 0, .int 2, .int 1], .int 0]]]]
theorem fA_ok {sc : PV} {f1 f2 f6 f8 f9 : Option EV} {R : Flw → Store → Prop} (h : ∀ f3 f4 f5, R (.nx [some (.p sc), f1, f2, f3, f4, f5, some (.p yF.pv), some (.p (.lst [x0, x1, x2, x3, x4, x5])), f8, f9, none, none]) S) : wp (exSs (run F m) fA [some (.p sc), f1, f2, none, none, none, f6, none, f8, f9, none, none]) S R := by
  have hy : yF.pv = .tup [.tup [Dt.pv ⟨"a", 2, 0, false⟩, Dt.pv ⟨"c", 2, 0, true⟩, Dt.pv ⟨"d", 1, 0, true⟩], .int 0, .tup [q0.pv, q1.pv], .tup [.tup [.str "me", .tup [.str "a"]]]] := rfl
  simp only [fA, b0, List.drop_succ_cons, List.drop_zero, List.take_succ_cons, List.take_zero]
  simp [hy, Dt.pv, q0, q1, Gp.pv, setPv, Tt.pv, Ep.pv, Cw.w, x0, x1, x2, x3, x4, x5] at h
  simp
  exact h _ _ _
theorem fB_ok {f0 f1 f2 f3 f4 f5 f8 f9 f10 f11 : Option EV} {R : Flw → Store → Prop} (hm : 60 ≤ m) (h : R (.ret (.p (.bl true))) S) : wp (exSs (run F m) fB [f0, f1, f2, f3, f4, f5, some (.p yF.pv), some (.p (.lst [x0, x1, x2, x3, x4, x5])), f8, f9, f10, f11]) S R := by
  have r0 := mo hm [] 0 0 0 ⟨by simp, by simp⟩ (by decide) (r := [.tup [.int 1, .tup [.tup [.int 1, .int 0, .int 0], .int 0]], .tup [.str "tick", .tup [.tup [.int 0, .int 1, .int 1], .int 0]]]) rfl
  have r1 := mo hm [] 1 0 0 ⟨by simp, by simp⟩ (by decide) (r := [.tup [.int 0, .tup [.tup [.int 2, .int 0, .int 0], .int 0]]]) rfl
  have r2 := mo hm [(0, [])] 1 0 0 ⟨by simp, by simp⟩ (by decide) (r := [.tup [.str "rest", .tup [.tup [.int 1, .int 0, .int 0], .int 0]]]) rfl
  have r3 := mo hm [] 2 1 1 ⟨by simp, by simp⟩ (by decide) (r := [.tup [.str "tick", .tup [.tup [.int 2, .int 2, .int 1], .int 0]]]) rfl
  have r4 := mo hm [] 2 2 1 ⟨by simp, by simp⟩ (by decide) (r := [.tup [.str "rest", .tup [.tup [.int 2, .int 2, .int 1], .int 0]]]) rfl
  have r5 := mo hm [(1, [("a", 0)])] 0 2 1 ⟨by simp, by simp⟩ (by decide) (r := [.tup [.str "rest", .tup [.tup [.int 0, .int 2, .int 1], .int 0]]]) rfl
  simp [bansPv, banPv, prPv] at r0 r1 r2 r3 r4 r5
  generalize yF.pv = yy at *
  simp only [fB, b0, List.drop_succ_cons, List.drop_zero]
  simp [evIt]
  rw [compL_map (fun _ => false) (fun _ => .non)]
  · simp
    exact ⟨rfl, h⟩
  · intro v hv R'
    simp at hv
    rcases hv with rfl | rfl | rfl | rfl | rfl | rfl
    · simp [x0, r0]; intro _; rfl
    · simp [x1, r1]; intro _; rfl
    · simp [x2, r2]; intro _; rfl
    · simp [x3, r3]; intro _; rfl
    · simp [x4, r4]; intro _; rfl
    · simp [x5, r5]; intro _; rfl
end L15

set_option Elab.async false
set_option linter.all false
set_option maxRecDepth 100000
set_option maxHeartbeats 400000
namespace L15
open PySem L2 Ip Gm
theorem b0_eq : b0 = [.asg (.nm 1) (.call 1 [.var 0])] ++ ([.forS (.nm 2) (.rng1 (.con (.int 8))) tb] ++ ([.ifS (.not (.call 8 [.var 1])) [.ret (.con (.bl false))] []] ++ (fA ++ fB))) := rfl
theorem says0 (ns : List Int) (hl : ns.length ≤ 63) : wp (run F 200 0 [.p (.lst (ns.map PV.int))]) [] fun v S => v = .p (.bl true) := by
  obtain ⟨N, hN⟩ : ∃ N, N = 199 := ⟨_, rfl⟩
  have h1 : ∀ Q, (∀ a b, CupOk a b → Q (.box 0) [cup a b]) → wp (run F N 1 [.p (.lst (ns.map PV.int))]) [] Q := fun Q h => by subst hN; exact cup_ok (k := 198) hcup (by omega) h
  have hm : 61 ≤ N := by omega
  rw [show (200 : Nat) = N + 1 by rw [hN], wp_run (d := e0.fn) rfl rfl]
  show wp (exSs (run F N) b0 [some (.p (.lst (ns.map PV.int))), none, none, none, none, none, none, none, none, none, none, none]) [] _
  rw [b0_eq]
  generalize hz : ([.forS (.nm 2) (.rng1 (.con (.int 8))) tb] ++ ([.ifS (.not (.call 8 [.var 1])) [.ret (.con (.bl false))] []] ++ (fA ++ fB)) : List Sx) = Z
  rw [wp_app]
  simp
  refine h1 _ fun a b c => ?_
  rw [← hz, wp_app, wp_ss1]
  refine loop8 c (by omega) fun f2 f6 f8 f9 a b c => ?_
  rw [aft_nx, wp_ss0, aft_nx]
  generalize hz2 : (fA ++ fB : List Sx) = Z2
  rw [wp_app]
  simp
  refine eight_right c hm fun a b c => ?_
  simp
  rw [← hz2, wp_app]
  refine fA_ok fun f3 f4 f5 => ?_
  rw [aft_nx]
  exact fB_ok (by omega) rfl
theorem says : lw.Says 200 0 63 := fun ns hl => by
  obtain ⟨v, S, h1, rfl⟩ := ok_wp (says0 ns hl)
  exact ⟨S, h1⟩
end L15

set_option Elab.async false
set_option linter.all false
set_option maxRecDepth 100000
set_option maxHeartbeats 0
namespace L15
open PySem PySem.Spec PyProof.Rows L2 Ip
def lo0 : List Str := [("rest_by" : Str), ("joined" : Str), ("worth" : Str), ("PLAIN" : Str), ("is_so" : Str), ("DATA" : Str), ("no_changes" : Str), ("names_in" : Str), ("pairs_of" : Str), ("TICK" : Str), ("REST" : Str), ("FAULT" : Str), ("URGENT" : Str), ("set_values" : Str), ("is_banned" : Str), ("is_possible" : Str), ("after_step" : Str), ("later_clocks" : Str), ("can_tick" : Str), ("moves_at" : Str), ("_law_cup" : Str), ("_law_roll" : Str), ("_law_some" : Str), ("_law_worth" : Str), ("_law_so" : Str), ("_law_expression" : Str), ("_law_test" : Str), ("_law_names" : Str), ("_law_system" : Str), ("_law_seen" : Str)]
def lo1 : List Str := [("_law_changes" : Str), ("_law_dict" : Str), ("_law_behind" : Str), ("_law_moves" : Str), ("_law_mark" : Str), ("_law_same" : Str), ("_law_eight_right" : Str)]
def loose : List Str := lo0 ++ lo1
abbrev hk : PySem.W.Hook := He.hookX 6 lw.fa lw.fn [] [] lw.ex
def ob (s : PySem.W.SharedT) : He.AlX := He.obsX 6 lw.fa lw.fn [] [] lw.ex (HandSHeadRun.getT s)
theorem ob_eq (s : PySem.W.SharedT) : ob s = hk.obs s.abs := He.obsX_eq (HandSHeadRun.getT_eq s)
theorem head_run (w : World) : HandSHeadRun.RunEq (PySem.W.OpenLaw.row PySem.Challenge.rw_gamecheck_k15_whole_moves_of_states) (PySem.W.view (PySem.W.OpenLaw.row PySem.Challenge.rw_gamecheck_k15_whole_moves_of_states).prog [42]) hk ob 20000 loose w := by
  intro os
  kernel_rfl
end L15
open PySem PySem.W PySem.Calls PyProof.Rows
theorem PySem.Challenge.cw_gamecheck_k15_whole_moves_of_states_holds : PySem.Challenge.rw_gamecheck_k15_whole_moves_of_states.Holds := by
  w_on; o_law
  refine HandSHeadRun.head_any (r := OpenLaw.row PySem.Challenge.rw_gamecheck_k15_whole_moves_of_states) (q := view (OpenLaw.row PySem.Challenge.rw_gamecheck_k15_whole_moves_of_states).prog [42]) (H := L15.hk) (ob := L15.ob) (M := 20000) (loose := L15.loose) (d := HandSHeadRun.topDef (OpenLaw.row PySem.Challenge.rw_gamecheck_k15_whole_moves_of_states).prog 42) (kwd := []) L15.ob_eq
    (by kernel_rfl) (fun s => by kernel_rfl) L15.head_run (by kernel_rfl) (by kernel_rfl) (by kernel_rfl) (by rfl) (by first | assumption | decide +kernel) (by decide +kernel) ⟨rfl, rfl, rfl, rfl, rfl, by decide +kernel⟩ ?hw ?hc
  case hw => w_witness2
  case hc =>
    refine Ip.walkG (l := PySem.Challenge.rw_gamecheck_k15_whole_moves_of_states) (n := 63) (k := 200) (x := "script") rfl (by decide) (by kernel_rfl) ⟨rfl, by decide, by decide⟩ ?F
    intro w mg fa h Y G hmg
    have e : (HandSHeadRun.topDef (OpenLaw.row PySem.Challenge.rw_gamecheck_k15_whole_moves_of_states).prog 42).name = ("law" : PySem.Str) := by kernel_rfl
    rw [e] at hmg
    exact Ip.law_end L15.lw L15.ok L15.bd L15.pl (e := L15.e0) (f := 0) (k := 199) rfl rfl L15.says w mg fa h Y G hmg

