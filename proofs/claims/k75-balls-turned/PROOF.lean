import PyProof.Rows.All
import Wide.All
import OpenK.AllK
import Wide.FinOn
import HandS.ForMost
import HandS.Deep
import HandS.TupAny
import HandS.TupMul
import HandS.TupLe
import HandS.Style
import HandS.IsInst
import HandS.Conv
import HandS.Zip
import KE.KDictKeyed
import KE.KDictCopyH
import KE.SortData
import KE.DataMinMax
import HandS.Dict
import KE.KDictDisplayH
import KE.KDictWalk
import KE.DataCmp
import KE.GoesEnum
import HandS.NoneIn
import PySem.Challenge.RW_mirrorsure_k75_balls_turned
set_option Elab.async false
set_option linter.all false
set_option maxRecDepth 100000
/-! An evaluator over pure data, for texts whose lists and dicts live in a small store. -/
namespace Py
open PySem

/-- data: immutable trees; ref k: the k-th object of the store -/
inductive D where
  | non | bl (b : Bool) | int (i : Int) | str (cs : List Nat)
  | tup (xs : List D) | lst (xs : List D) | dct (kvs : List (D × D)) | ref (k : Nat) | fn (k : Nat)
instance : Inhabited D := ⟨.non⟩

mutual
/-- plain data of at most this depth: no refs, no dicts -/
def D.ok : Nat → D → Bool
  | _, .non => true
  | _, .bl _ => true
  | _, .int _ => true
  | _, .str cs => cs.all fun c => decide (c < 55296)
  | n, .tup xs => decide (0 < n) && D.oks (n - 1) xs
  | n, .lst xs => decide (0 < n) && D.oks (n - 1) xs
  | _, .dct _ => false
  | _, .ref _ => false
  | _, .fn _ => false
def D.oks : Nat → List D → Bool
  | _, [] => true
  | n, x :: xs => D.ok n x && D.oks n xs
end
mutual
/-- no refs within -/
def D.pure : D → Bool
  | .non => true
  | .bl _ => true
  | .int _ => true
  | .str _ => true
  | .tup xs => D.pures xs
  | .lst xs => D.pures xs
  | .dct kvs => D.pureK kvs
  | .ref _ => false
  | .fn _ => true
def D.pures : List D → Bool
  | [] => true
  | x :: xs => D.pure x && D.pures xs
def D.pureK : List (D × D) → Bool
  | [] => true
  | x :: xs => D.pureP x && D.pureK xs
def D.pureP : D × D → Bool
  | (a, b) => D.pure a && D.pure b
end
mutual
/-- Python's == on plain data -/
def D.eqv : D → D → Bool
  | .non, .non => true
  | .bl a, .bl b => a == b
  | .bl a, .int j => (if a then 1 else 0) == j
  | .int i, .bl b => i == (if b then 1 else 0)
  | .int i, .int j => i == j
  | .str x, .str y => x == y
  | .lst xs, .lst ys => D.eqvs xs ys
  | .tup xs, .tup ys => D.eqvs xs ys
  | _, _ => false
def D.eqvs : List D → List D → Bool
  | [], [] => true
  | x :: xs, y :: ys => D.eqv x y && D.eqvs xs ys
  | _, _ => false
end

mutual
/-- data that can be keys (no truth values) -/
def nkey : D → Option NestedKey
  | .non => some .none
  | .int i => some (.num i)
  | .str cs => some (.text ⟨cs.toArray⟩)
  | .tup xs => (nkeys xs).map .tup
  | .bl _ => none
  | .lst _ => none
  | .dct _ => none
  | .ref _ => none
  | .fn _ => none
def nkeys : List D → Option (List NestedKey)
  | [] => some []
  | x :: xs => (nkey x).bind fun k => (nkeys xs).bind fun ks => some (k :: ks)
end
mutual
/-- Python's < on data that are alike -/
def D.ltb : D → D → Bool
  | .int i, .int j => decide (i < j)
  | .bl a, .bl b => !a && b
  | .str a, .str b => decide (a < b)
  | .tup xs, .tup ys => D.ltbs xs ys
  | .lst xs, .lst ys => D.ltbs xs ys
  | _, _ => false
def D.ltbs : List D → List D → Bool
  | [], [] => false
  | [], _ :: _ => true
  | _ :: _, [] => false
  | x :: xs, y :: ys => if D.eqv x y then D.ltbs xs ys else D.ltb x y
end
mutual
/-- the two can be compared, place by place -/
def D.alk : D → D → Bool
  | .non, .non => true
  | .bl _, .bl _ => true
  | .int _, .int _ => true
  | .str _, .str _ => true
  | .lst xs, .lst ys => D.alks xs ys
  | .tup xs, .tup ys => D.alks xs ys
  | _, _ => false
def D.alks : List D → List D → Bool
  | x :: xs, y :: ys => D.alk x y && D.alks xs ys
  | [], _ => true
  | _ :: _, [] => true
end

inductive O where
  | lst (xs : List D) | dct (kvs : List (D × D)) | dead
abbrev DEnv := List (Option D)
abbrev DSt := List O

inductive BOp | add | sub | mul | fdiv | mod | pow
  deriving DecidableEq
inductive COp | eq | ne | lt | le | gt | ge | isin | nin | is | isn
  deriving DecidableEq
inductive Ty | int | bool | str | tuple | list | dict
  deriving DecidableEq
inductive Bi | len | tuple | list | all | any | sorted | min | max | abs | int | str | sum | min2 | max2 | lrange1 | lrange2 | dict | sortset | lenset
  deriving DecidableEq
inductive Mt | append | extend | pop | popAt | index | count | countT | join | get | get2 | split | replace | endswith
  deriving DecidableEq

mutual
inductive IE where
  | cst (d : D) | var (i : Nat) | glb (j : Nat)
  | tup (es : IEs) | lst (es : IEs) | dct (es : IEs)
  | bin (op : BOp) (a b : IE) | neg (a : IE)
  | cmp (op : COp) (a b : IE) | chn (op op' : COp) (a b c : IE)
  | and (a b : IE) | or (a b : IE) | not (a : IE) | ite (c a b : IE)
  | ix (a b : IE) | sl (a : IE) (lo hi : IEo) | rev (a : IE)
  | call (f : Nat) (es : IEs) | bi (b : Bi) (es : IEs) | isi (a : IE) (t : Ty) | mth (m : Mt) (o : IE) (es : IEs)
  | lc (own : List Nat) (tg : Tg) (it : II) (c e : IE)
  | lc2 (own : List Nat) (tg : Tg) (it : II) (own1 : List Nat) (tg1 : Tg) (it1 : II) (c e : IE)
  | al (e : IE) | fz (e : IE) | dis (ks : List (Sum Int (List Nat))) (vs : IEs) (k : IE)
inductive IEs where
  | nil | cons (e : IE) (es : IEs)
inductive IEo where
  | none | some (e : IE)
inductive II where
  | seq (e : IE) | rng1 (a : IE) | rng2 (a b : IE) | rng3 (a b c : IE) | enum (e : IE) | zip (a b : IE) | enumz (a b : IE)
inductive Tg where
  | nm (i : Nat) | sub (o i : IE) | tp (ts : Tgs)
inductive Tgs where
  | nil | cons (t : Tg) (ts : Tgs)
end
mutual
inductive IS where
  | asg (tg : Tg) (e : IE) | par (is : List Nat) (es : IEs) | ex (e : IE) | ret (e : IE) | retO (i : Nat) | retN | pass | rse | frz (i : Nat)
  | ite (c : IE) (a b : ISs) | for_ (tg : Tg) (it : II) (b : ISs) | whl (c : IE) (b : ISs)
inductive ISs where
  | nil | cons (s : IS) (ss : ISs)
end

/-! ### operations -/
/-- a list, a dict of the store, as it stands -/
def view (st : DSt) : D → Option D
  | .ref k => match st[k]? with
    | some (.lst xs) => some (.lst xs)
    | some (.dct kvs) => some (.dct kvs)
    | _ => none
  | d => some d
def small (i : Int) : Bool := decide (-(2 ^ 64) < i) && decide (i < 2 ^ 64)
def sz (n : Nat) : Bool := decide (n ≤ 100000)
def rept {α : Type} (n : Nat) (xs : List α) : List α := (List.replicate n xs).flatten
def binD : BOp → D → D → Option D
  | .add, .int i, .int j => some (.int (i + j))
  | .add, .str a, .str b => if sz (a.length + b.length) then some (.str (a ++ b)) else none
  | .add, .tup a, .tup b => if sz (a.length + b.length) then some (.tup (a ++ b)) else none
  | .add, .lst a, .lst b => if sz (a.length + b.length) then some (.lst (a ++ b)) else none
  | .sub, .int i, .int j => some (.int (i - j))
  | .mul, .int i, .int j => if small i || small j then some (.int (i * j)) else none
  | .mul, .str a, .int j => if decide (1 ≤ j) && decide (j ≤ 1000) && sz (a.length * j.toNat) then some (.str (rept j.toNat a)) else none
  | .mul, .tup a, .int j => if decide (1 ≤ j) && decide (j ≤ 1000) && decide (a.length ≤ 1000) then some (.tup (rept j.toNat a)) else none
  | .mul, .lst a, .int j => if decide (0 ≤ j) && decide (j ≤ 1000) && decide (a.length ≤ 1000) then some (.lst (rept j.toNat a)) else none
  | .fdiv, .int i, .int j => if decide (j ≠ 0) && decide (j.natAbs < 1073741824) then some (.int (i.fdiv j)) else none
  | .mod, .int i, .int j => if decide (j ≠ 0) then some (.int (i.fmod j)) else none
  | .pow, .int i, .int j => if decide (0 ≤ j) && decide (j ≤ 1000000) && decide (i.natAbs < 2 ^ 64) then some (.int (i ^ j.toNat)) else none
  | _, _, _ => none
def dkey : D → Option (Sum Int (List Nat))
  | .int i => some (.inl i)
  | .str cs => some (.inr cs)
  | _ => none
/-- {k: v, ..}[x], keys ints and texts -/
def disD (ks : List (Sum Int (List Nat))) (ds : List D) (x : D) : Option D :=
  if decide (ks.Nodup) && decide (ks.length ≤ 15) && decide (ks.length = ds.length) then (dkey x).bind fun k => ((ks.zip ds).find? fun p => decide (p.1 = k)).map (·.2) else none
def isNon : D → Bool
  | .non => true
  | _ => false
def memD (x : D) (ys : List D) : Option Bool := if D.ok 60 x && D.oks 60 ys then some (ys.any fun y => D.eqv y x) else none
def isTupD : D → Bool
  | .tup _ => true
  | _ => false
/-- x can be a key of such a dict -/
def keyOk (x : D) : Bool := D.ok 8 x && (nkey x).isSome
def fitK (x : D) (kvs : List (D × D)) : Bool := keyOk x && kvs.all fun p => isTupD p.1 == isTupD x
def findK (k : D) (kvs : List (D × D)) : Option D := (kvs.find? fun p => D.eqv p.1 k).map (·.2)
def hasK (k : D) (kvs : List (D × D)) : Bool := kvs.any fun p => D.eqv p.1 k
def putKD (kvs : List (D × D)) (k v : D) : List (D × D) := if hasK k kvs then kvs.map (fun p => if D.eqv p.1 k then (p.1, v) else p) else kvs ++ [(k, v)]
def setK (kvs : List (D × D)) (k v : D) : Option (List (D × D)) := if fitK k kvs && sz (kvs.length + 1) then some (putKD kvs k v) else none
/-- k1, v1, k2, v2, .. as pairs -/
def pairK : List D → Option (List (D × D))
  | [] => some []
  | [_] => none
  | k :: v :: r => (pairK r).map ((k, v) :: ·)
def pairT : List D → Option (List (D × D))
  | [] => some []
  | .tup [k, v] :: r => (pairT r).map ((k, v) :: ·)
  | _ :: _ => none
def distK : List (D × D) → Bool
  | [] => true
  | p :: r => fitK p.1 r && !hasK p.1 r && distK r
def dispK (ds : List D) : Option D := (pairK ds).bind fun kvs => if distK kvs && decide (kvs.length ≤ 15) then some (.dct kvs) else none
def inD : D → D → Option Bool
  | .str [c], .str z => some (decide (c ∈ z))
  | x, .lst ys => memD x ys
  | x, .tup ys => memD x ys
  | x, .dct kvs => if fitK x kvs then some (hasK x kvs) else if isNon x && kvs.all (fun p => isTupD p.1) then some false else none
  | _, _ => none
def cmpOk (x y : D) : Bool := (D.ok 60 x && D.ok 60 y) && (D.alk x y && D.alk y x) && (!isNon x && !isNon y)
def ltD : D → D → Option Bool
  | .int i, .int j => some (decide (i < j))
  | x, y => if cmpOk x y then some (D.ltb x y) else none
def leD : D → D → Option Bool
  | .int i, .int j => some (decide (i ≤ j))
  | x, y => if cmpOk x y then some (!D.ltb y x) else none
def cmpD : COp → D → D → Option Bool
  | .eq, x, y => if D.ok 60 x && D.ok 60 y then some (D.eqv x y) else none
  | .ne, x, y => if D.ok 60 x && D.ok 60 y then some (!D.eqv x y) else none
  | .lt, x, y => ltD x y
  | .le, x, y => leD x y
  | .gt, x, y => ltD y x
  | .ge, x, y => leD y x
  | .isin, x, y => inD x y
  | .nin, x, y => (inD x y).map (!·)
  | .is, x, .non => some (isNon x)
  | .isn, x, .non => some (!isNon x)
  | .is, .bl a, .bl b => some (a == b)
  | .isn, .bl a, .bl b => some (!(a == b))
  | _, _, _ => none
def ixD : D → D → Option D
  | .lst xs, .int i => L2.atI xs i
  | .tup xs, .int i => L2.atI xs i
  | .str cs, .int i => if sz cs.length then (L2.atI cs i).map fun c => .str [c] else none
  | .dct kvs, k => if fitK k kvs then findK k kvs else none
  | _, _ => none
def cut {α : Type} (xs : List α) (lo hi : Option Int) : List α :=
  (xs.drop (HT.sIx xs.length 0 lo)).take (HT.sIx xs.length xs.length hi - HT.sIx xs.length 0 lo)
def slD : D → Option Int → Option Int → Option D
  | .lst xs, lo, hi => some (.lst (cut xs lo hi))
  | .tup xs, lo, hi => some (.tup (cut xs lo hi))
  | .str cs, lo, hi => if sz cs.length then some (.str (cut cs lo hi)) else none
  | _, _, _ => none
def revD : D → Option D
  | .lst xs => some (.lst xs.reverse)
  | .str cs => if sz cs.length then some (.str cs.reverse) else none
  | _ => none
def bools : List D → Option (List Bool)
  | [] => some []
  | .bl b :: r => (bools r).map (b :: ·)
  | _ => none
def intsL : List D → Option (List Int)
  | [] => some []
  | .int b :: r => (intsL r).map (b :: ·)
  | _ => none
def strsL : List D → Option (List (List Nat))
  | [] => some []
  | .str b :: r => (strsL r).map (b :: ·)
  | _ => none
def rangeL (a b : Int) : List D := (List.range (b - a).toNat).map fun i => .int (a + (i : Nat))
def rngOk (a b : Int) : Bool := decide (-1000000 ≤ a) && decide (a ≤ 1000000) && decide (-1000000 ≤ b) && decide (b ≤ 1000000)
def joinS (sep : List Nat) : List (List Nat) → List Nat
  | [] => []
  | [x] => x
  | x :: y :: r => x ++ (sep ++ joinS sep (y :: r))
def isiD : D → Ty → Option Bool
  | .non, _ => some false
  | .bl _, .int => some true
  | .bl _, .bool => some true
  | .bl _, _ => some false
  | .int _, .int => some true
  | .int _, _ => some false
  | .str _, .str => some true
  | .str _, _ => some false
  | .tup _, .tuple => some true
  | .tup _, _ => some false
  | .lst _, .list => some true
  | .lst _, _ => some false
  | _, _ => none
def lenD : D → Option Nat
  | .str cs => if sz cs.length then some cs.length else none
  | .tup xs => some xs.length
  | .lst xs => some xs.length
  | .dct kvs => if sz kvs.length then some kvs.length else none
  | _ => none
def seqD : D → Option (List D)
  | .tup xs => some xs
  | .lst xs => some xs
  | .str cs => if sz cs.length then some (cs.map fun c => .str [c]) else none
  | .dct kvs => if sz kvs.length then some (kvs.map (·.1)) else none
  | _ => none
/-- a built-in function of viewed arguments -/
def biLen : List D → Option D
  | [x] => (lenD x).map fun n => .int n
  | _ => none
def biTuple : List D → Option D
  | [.tup xs] => some (.tup xs)
  | [.lst xs] => some (.tup xs)
  | _ => none
def biList : List D → Option D
  | [.tup xs] => some (.lst xs)
  | [.lst xs] => some (.lst xs)
  | [.str cs] => if sz cs.length then some (.lst (cs.map fun c => .str [c])) else none
  | _ => none
def biAll : List D → Option D
  | [.lst xs] => (bools xs).map fun bs => .bl (bs.all id)
  | _ => none
def biAny : List D → Option D
  | [.lst xs] => (bools xs).map fun bs => .bl (bs.any id)
  | _ => none
def biAbs : List D → Option D
  | [.int i] => some (.int (if i < 0 then -i else i))
  | _ => none
def biMin2 : List D → Option D
  | [.int i, .int j] => some (.int (if j < i then j else i))
  | _ => none
def biMax2 : List D → Option D
  | [.int i, .int j] => some (.int (if j > i then j else i))
  | _ => none
def biInt : List D → Option D
  | [.int i] => some (.int i)
  | [.bl b] => some (.int (if b then 1 else 0))
  | _ => none
def biSum : List D → Option D
  | [.lst xs] => (intsL xs).map fun is => .int is.sum
  | _ => none
def biLr1 : List D → Option D
  | [.int b] => if rngOk 0 b then some (.lst (rangeL 0 b)) else none
  | _ => none
def biLr2 : List D → Option D
  | [.int a, .int b] => if rngOk a b then some (.lst (rangeL a b)) else none
  | _ => none
/-- all of them can be compared -/
def alkAll (xs : List D) : Bool := D.oks 60 xs && xs.all fun a => xs.all fun b => D.alk a b
def minDD (x : D) (xs : List D) : D := xs.foldl (fun a y => if D.ltb y a then y else a) x
def maxDD (x : D) (xs : List D) : D := xs.foldl (fun a y => if D.ltb a y then y else a) x
def isL : D → Bool
  | .lst _ => true
  | _ => false
def minG (xs : List D) : Option D := match xs with
  | x :: r => if alkAll (x :: r) && (x :: r).all fun a => !isNon a && !isL a then some (minDD x r) else none
  | [] => none
def maxG (xs : List D) : Option D := match xs with
  | x :: r => if alkAll (x :: r) && (x :: r).all fun a => !isNon a && !isL a then some (maxDD x r) else none
  | [] => none
def biMin1 : List D → Option D
  | [.lst (.int n :: xs)] => (intsL xs).map fun ns => .int (ns.foldl min n)
  | [.lst xs] => minG xs
  | [.tup xs] => minG xs
  | _ => none
def biMax1 : List D → Option D
  | [.lst (.int n :: xs)] => (intsL xs).map fun ns => .int (ns.foldl max n)
  | [.lst xs] => maxG xs
  | [.tup xs] => maxG xs
  | _ => none
def isInt1 : D → Bool
  | .int _ => true
  | _ => false
def isStr1 : D → Bool
  | .str _ => true
  | _ => false
def isTupNE : D → Bool
  | .tup (_ :: _) => true
  | _ => false
def sortOk (xs : List D) : Bool := alkAll xs && (xs.all isTupNE || xs.all fun x => !isNon x && !isTupD x) && sz xs.length
def sortOkL (xs : List D) : Bool := sortOk xs || (alkAll xs && decide (xs.length ≤ 1) && xs.all fun x => !isNon x)
def sortL (xs : List D) : List D := xs.mergeSort fun a b => !D.ltb b a
def biSorted : List D → Option D
  | [.str cs] => if sortOk (cs.map fun c => .str [c]) then some (.lst (sortL (cs.map fun c => .str [c]))) else none
  | [.lst xs] => if sortOkL xs then some (.lst (sortL xs)) else none
  | [.dct kvs] => if sortOk (kvs.map (·.1)) then some (.lst (sortL (kvs.map (·.1)))) else none
  | _ => none
def dedupL (xs : List D) : List D := xs.foldl (fun acc x => if acc.any fun y => D.eqv y x then acc else acc ++ [x]) []
/-- what a set can be made of: all of one shape -/
def setOk (xs : List D) : Bool := xs.all keyOk && (xs.all isTupNE || xs.all isInt1 || xs.all isStr1) && decide (xs.length ≤ 1000)
def biSortset : List D → Option D
  | [.lst xs] => if setOk xs && sortOkL (dedupL xs) then some (.lst (sortL (dedupL xs))) else none
  | [.tup xs] => if setOk xs && sortOkL (dedupL xs) then some (.lst (sortL (dedupL xs))) else none
  | _ => none
def biLenset : List D → Option D
  | [.lst xs] => if setOk xs then some (.int (dedupL xs).length) else none
  | _ => none
def biDict : List D → Option D
  | [.lst xs] => (pairT xs).bind fun kvs => if distK kvs && sz kvs.length then some (.dct kvs) else none
  | _ => none
def biD : Bi → List D → Option D
  | .min => biMin1
  | .max => biMax1
  | .len => biLen
  | .tuple => biTuple
  | .list => biList
  | .all => biAll
  | .any => biAny
  | .abs => biAbs
  | .min2 => biMin2
  | .max2 => biMax2
  | .int => biInt
  | .sum => biSum
  | .lrange1 => biLr1
  | .lrange2 => biLr2
  | .sorted => biSorted
  | .dict => biDict
  | .sortset => biSortset
  | .lenset => biLenset
  | _ => fun _ => none
def viewAll (st : DSt) : List D → Option (List D)
  | [] => some []
  | x :: xs => (view st x).bind fun u => (viewAll st xs).bind fun us => some (u :: us)
def setO (st : DSt) (k : Nat) (o : O) : DSt := st.set k o
/-- a method of a viewed receiver; changes at a ref -/
def mtAppend : D → List D → DSt → Option (D × DSt)
  | .ref k, [d], st => match st[k]? with
    | some (.lst xs) => if sz (xs.length + 1) then some (.non, setO st k (.lst (xs ++ [d]))) else none
    | _ => none
  | _, _, _ => none
def mtPop : D → List D → DSt → Option (D × DSt)
  | .ref k, [], st => match st[k]? with
    | some (.lst xs) => (xs[xs.length - 1]?).map fun y => (y, setO st k (.lst xs.dropLast))
    | _ => none
  | _, _, _ => none
def mtJoin : D → List D → DSt → Option (D × DSt)
  | .str sep, [.lst xs], st => (strsL xs).bind fun ys => if sz (joinS sep ys).length && sz (ys.length * (sep.length + 1)) then some (.str (joinS sep ys), st) else none
  | .str sep, [.tup xs], st => (strsL xs).bind fun ys => if sz (joinS sep ys).length && sz (ys.length * (sep.length + 1)) then some (.str (joinS sep ys), st) else none
  | _, _, _ => none
def eraseAt {α : Type} (xs : List α) (i : Int) : List α := match L2.ixN xs.length i with
  | some k => xs.eraseIdx k
  | none => xs
def mtPopAt : D → List D → DSt → Option (D × DSt)
  | .ref k, [.int i], st => match st[k]? with
    | some (.lst xs) => if small i && sz xs.length then (L2.atI xs i).map fun y => (y, setO st k (.lst (eraseAt xs i))) else none
    | _ => none
  | _, _, _ => none
def mtGet : D → List D → DSt → Option (D × DSt)
  | o, [k], st => match view st o with
    | some (.dct kvs) => if fitK k kvs then some ((findK k kvs).getD .non, st) else none
    | _ => none
  | _, _, _ => none
def mtGet2 : D → List D → DSt → Option (D × DSt)
  | o, [k, d], st => match view st o with
    | some (.dct kvs) => if fitK k kvs then some ((findK k kvs).getD d, st) else none
    | _ => none
  | _, _, _ => none
def mtIndex : D → List D → DSt → Option (D × DSt)
  | o, [x], st => match view st o with
    | some (.lst ys) => if D.ok 60 x && D.oks 60 ys then (ys.findIdx? fun y => D.eqv y x).map fun n => (.int n, st) else none
    | _ => none
  | _, _, _ => none
def mtCount : D → List D → DSt → Option (D × DSt)
  | o, [x], st => match view st o with
    | some (.lst ys) => if D.ok 60 x && D.oks 60 ys then some (.int (ys.countP fun y => D.eqv y x), st) else none
    | _ => none
  | _, _, _ => none
def mtCountT : D → List D → DSt → Option (D × DSt)
  | .tup ys, [x], st => if D.ok 60 x && D.oks 60 ys then some (.int (ys.countP fun y => D.eqv y x), st) else none
  | _, _, _ => none
def mtReplace : D → List D → DSt → Option (D × DSt)
  | .str x, [.str [a], .str [b]], st => if decide (x.length ≤ 1000) then some (.str (x.map fun c => if c = a then b else c), st) else none
  | _, _, _ => none
def mtExtend : D → List D → DSt → Option (D × DSt)
  | .ref k, [.lst ys], st => match st[k]? with
    | some (.lst xs) => if sz (xs.length + ys.length) then some (.non, setO st k (.lst (xs ++ ys))) else none
    | _ => none
  | _, _, _ => none
def mthD : Mt → D → List D → DSt → Option (D × DSt)
  | .append => mtAppend
  | .pop => mtPop
  | .popAt => mtPopAt
  | .get => mtGet
  | .get2 => mtGet2
  | .index => mtIndex
  | .join => mtJoin
  | .count => mtCount
  | .countT => mtCountT
  | .replace => mtReplace
  | .extend => mtExtend
  | _ => fun _ _ _ => none

def isLst : D → Bool
  | .lst _ => true
  | _ => false
def isStr : D → Bool
  | .str _ => true
  | _ => false
def isTup1 : D → Bool
  | .tup _ => true
  | _ => false
def isDct : D → Bool
  | .dct _ => true
  | _ => false
def mtTy : Mt → D → Bool
  | .append => isLst
  | .extend => isLst
  | .pop => isLst
  | .popAt => isLst
  | .index => isLst
  | .count => isLst
  | .countT => isTup1
  | .join => isStr
  | .split => isStr
  | .replace => isStr
  | .endswith => isStr
  | .get => isDct
  | .get2 => isDct
def wipeD (env : DEnv) : List Nat → DEnv
  | [] => env
  | v :: vs => (wipeD env vs).set v none
/-- a comprehension's turns -/
def lcGo (f : D → DSt → Option (List D × DSt)) : List D → DSt → Option (List D × DSt)
  | [], st => some ([], st)
  | x :: xs, st => (f x st).bind fun r => (lcGo f xs r.2).bind fun q => some (r.1 ++ q.1, q.2)
def enumL : Nat → List D → List D
  | _, [] => []
  | n, x :: xs => .tup [.int n, x] :: enumL (n + 1) xs
def zipL : List D → List D → List D
  | x :: xs, y :: ys => .tup [x, y] :: zipL xs ys
  | _, _ => []
def rng3L (a c : Int) : Nat → List D
  | 0 => []
  | n + 1 => .int a :: rng3L (a + c) c n
def rng3N (a b c : Int) : Nat := if 0 < c then ((b - a + c - 1) / c).toNat else ((a - b - c - 1) / (-c)).toNat
/-- o[i] = d -/
def subLst (xs : List D) (d : D) : D → Option (List D)
  | .int j => (L2.ixN xs.length j).map fun n => xs.set n d
  | _ => none
def subSet (st : DSt) (o i d : D) : Option DSt := match o with
  | .ref k => match st[k]? with
    | some (.lst xs) => (subLst xs d i).map fun ys => setO st k (.lst ys)
    | some (.dct kvs) => (setK kvs i d).map fun ks => setO st k (.dct ks)
    | _ => none
  | _ => none
def enD : D → Option (List D)
  | .lst xs => some xs
  | .tup xs => some xs
  | _ => none
def tupIt : D → Option (List D)
  | .tup xs => some xs
  | .lst xs => some xs
  | _ => none
def unc : List D → Option (D × List D)
  | [] => none
  | x :: r => some (x, r)
mutual
def evE (Γ : Nat → List D → DSt → Option (D × DSt)) (G : List D) : IE → DEnv → DSt → Option (D × DSt)
  | .cst d, _, st => some (d, st)
  | .var i, env, st => match env[i]? with
    | some (some d) => some (d, st)
    | _ => none
  | .glb j, _, st => match G[j]? with
    | some d => some (d, st)
    | none => none
  | .tup es, env, st => (evEs Γ G es env st).bind fun r => if sz r.1.length then some (.tup r.1, r.2) else none
  | .lst es, env, st => (evEs Γ G es env st).bind fun r => if sz r.1.length then some (.lst r.1, r.2) else none
  | .dct es, env, st => (evEs Γ G es env st).bind fun r => (dispK r.1).bind fun d => some (d, r.2)
  | .bin op a b, env, st => (evE Γ G a env st).bind fun x => (evE Γ G b env x.2).bind fun y => (view y.2 x.1).bind fun u => (view y.2 y.1).bind fun v => (binD op u v).bind fun d => some (d, y.2)
  | .neg a, env, st => (evE Γ G a env st).bind fun x => match x.1 with
    | .int i => some (.int (-i), x.2)
    | _ => none
  | .cmp op a b, env, st => (evE Γ G a env st).bind fun x => (evE Γ G b env x.2).bind fun y => (view y.2 x.1).bind fun u => (view y.2 y.1).bind fun v => (cmpD op u v).bind fun d => some (.bl d, y.2)
  | .chn op op' a b c, env, st => (evE Γ G a env st).bind fun x => (evE Γ G b env x.2).bind fun y => (view y.2 x.1).bind fun u => (view y.2 y.1).bind fun v => (cmpD op u v).bind fun d =>
      if d then (evE Γ G c env y.2).bind fun z => (view z.2 y.1).bind fun u => (view z.2 z.1).bind fun v => (cmpD op' u v).bind fun d => some (.bl d, z.2)
      else some (.bl false, y.2)
  | .and a b, env, st => (evE Γ G a env st).bind fun x => match x.1 with
    | .bl true => evE Γ G b env x.2
    | .bl false => some (.bl false, x.2)
    | _ => none
  | .or a b, env, st => (evE Γ G a env st).bind fun x => match x.1 with
    | .bl true => some (.bl true, x.2)
    | .bl false => evE Γ G b env x.2
    | _ => none
  | .not a, env, st => (evE Γ G a env st).bind fun x => match x.1 with
    | .bl b => some (.bl (!b), x.2)
    | _ => none
  | .ite c a b, env, st => (evE Γ G c env st).bind fun x => match x.1 with
    | .bl true => evE Γ G a env x.2
    | .bl false => evE Γ G b env x.2
    | _ => none
  | .ix a b, env, st => (evE Γ G a env st).bind fun x => (evE Γ G b env x.2).bind fun y => (view y.2 x.1).bind fun u => (ixD u y.1).bind fun d => some (d, y.2)
  | .sl a lo hi, env, st => (evE Γ G a env st).bind fun x => (evO Γ G lo env x.2).bind fun l => (evO Γ G hi env l.2).bind fun h => (view h.2 x.1).bind fun u => (slD u l.1 h.1).bind fun d => some (d, h.2)
  | .rev a, env, st => (evE Γ G a env st).bind fun x => (view x.2 x.1).bind fun u => (revD u).bind fun d => some (d, x.2)
  | .call f es, env, st => (evEs Γ G es env st).bind fun r => Γ f r.1 r.2
  | .bi b es, env, st => (evEs Γ G es env st).bind fun r => (viewAll r.2 r.1).bind fun ds => (biD b ds).bind fun d => some (d, r.2)
  | .isi a t, env, st => (evE Γ G a env st).bind fun x => (view x.2 x.1).bind fun u => (isiD u t).bind fun d => some (.bl d, x.2)
  | .mth m o es, env, st => (evE Γ G o env st).bind fun x => (view x.2 x.1).bind fun u => if mtTy m u then (evEs Γ G es env x.2).bind fun r => mthD m x.1 r.1 r.2 else none
  | .lc own tg it c e, env, st => (evI Γ G it env st).bind fun r => (lcGo (fun x s => (asgT Γ G tg x (wipeD env own) s).bind fun w => (evE Γ G c w.1 w.2).bind fun b => match b.1 with
      | .bl true => (evE Γ G e w.1 b.2).bind fun d => some ([d.1], d.2)
      | .bl false => some ([], b.2)
      | _ => none) r.1 r.2).bind fun q => if sz q.1.length then some (.lst q.1, q.2) else none
  | .lc2 own tg it own1 tg1 it1 c e, env, st => (evI Γ G it env st).bind fun r => (lcGo (fun x s => (asgT Γ G tg x (wipeD env own) s).bind fun w => (evI Γ G it1 w.1 w.2).bind fun r1 =>
      lcGo (fun x1 s1 => (asgT Γ G tg1 x1 (wipeD w.1 own1) s1).bind fun w1 => (evE Γ G c w1.1 w1.2).bind fun b => match b.1 with
        | .bl true => (evE Γ G e w1.1 b.2).bind fun d => some ([d.1], d.2)
        | .bl false => some ([], b.2)
        | _ => none) r1.1 r1.2) r.1 r.2).bind fun q => if sz q.1.length then some (.lst q.1, q.2) else none
  | .dis ks vs k, env, st => (evEs Γ G vs env st).bind fun r => (evE Γ G k env r.2).bind fun y => (disD ks r.1 y.1).bind fun d => some (d, y.2)
  | .al e, env, st => (evE Γ G e env st).bind fun x => match x.1 with
    | .lst xs => some (.ref x.2.length, x.2 ++ [.lst xs])
    | .dct kvs => some (.ref x.2.length, x.2 ++ [.dct kvs])
    | _ => none
  | .fz e, env, st => (evE Γ G e env st).bind fun x => match x.1 with
    | .ref k => match x.2[k]? with
      | some (.lst xs) => if D.pures xs then some (.lst xs, setO x.2 k .dead) else none
      | some (.dct kvs) => if D.pureK kvs then some (.dct kvs, setO x.2 k .dead) else none
      | _ => none
    | d => some (d, x.2)
def evEs (Γ : Nat → List D → DSt → Option (D × DSt)) (G : List D) : IEs → DEnv → DSt → Option (List D × DSt)
  | .nil, _, st => some ([], st)
  | .cons e es, env, st => (evE Γ G e env st).bind fun x => (evEs Γ G es env x.2).bind fun r => some (x.1 :: r.1, r.2)
def evO (Γ : Nat → List D → DSt → Option (D × DSt)) (G : List D) : IEo → DEnv → DSt → Option (Option Int × DSt)
  | .none, _, st => some (none, st)
  | .some e, env, st => (evE Γ G e env st).bind fun x => match x.1 with
    | .int i => some (some i, x.2)
    | _ => none
def evI (Γ : Nat → List D → DSt → Option (D × DSt)) (G : List D) : II → DEnv → DSt → Option (List D × DSt)
  | .seq e, env, st => (evE Γ G e env st).bind fun x => (seqD x.1).bind fun xs => some (xs, x.2)
  | .rng1 a, env, st => (evE Γ G a env st).bind fun x => match x.1 with
    | .int b => if rngOk 0 b then some (rangeL 0 b, x.2) else none
    | _ => none
  | .rng2 a b, env, st => (evE Γ G a env st).bind fun x => (evE Γ G b env x.2).bind fun y => match x.1, y.1 with
    | .int a, .int b => if rngOk a b then some (rangeL a b, y.2) else none
    | _, _ => none
  | .rng3 a b c, env, st => (evE Γ G a env st).bind fun x => (evE Γ G b env x.2).bind fun y => (evE Γ G c env y.2).bind fun z => match x.1, y.1, z.1 with
    | .int a, .int b, .int c => if rngOk a b && decide (c = -1) then some ((List.range (a - b).toNat).map fun (i : Nat) => .int (a + (i : Nat) * (-1)), z.2) else none
    | _, _, _ => none
  | .enum e, env, st => (evE Γ G e env st).bind fun x => (enD x.1).bind fun xs => some (enumL 0 xs, x.2)
  | .enumz a b, env, st => (evE Γ G a env st).bind fun x => (evE Γ G b env x.2).bind fun y => match x.1, y.1 with
    | .tup xs, .tup ys => some (enumL 0 (zipL xs ys), y.2)
    | _, _ => none
  | .zip a b, env, st => (evE Γ G a env st).bind fun x => (evE Γ G b env x.2).bind fun y => match x.1, y.1 with
    | .lst xs, .lst ys => some (zipL xs ys, y.2)
    | .tup xs, .tup ys => some (zipL xs ys, y.2)
    | _, _ => none
def asgT (Γ : Nat → List D → DSt → Option (D × DSt)) (G : List D) : Tg → D → DEnv → DSt → Option (DEnv × DSt)
  | .nm i, d, env, st => some (env.set i (some d), st)
  | .sub o i, d, env, st => (evE Γ G o env st).bind fun x => (evE Γ G i env x.2).bind fun y => (subSet y.2 x.1 y.1 d).bind fun s => some (env, s)
  | .tp ts, d, env, st => (tupIt d).bind fun xs => asgTs Γ G ts xs env st
def asgTs (Γ : Nat → List D → DSt → Option (D × DSt)) (G : List D) : Tgs → List D → DEnv → DSt → Option (DEnv × DSt)
  | .nil, xs, env, st => if xs.length = 0 then some (env, st) else none
  | .cons t ts, xs, env, st => (unc xs).bind fun p => (asgT Γ G t p.1 env st).bind fun w => asgTs Γ G ts p.2 w.1 w.2
end

/-! ### statements -/
inductive Out where
  | nx (env : DEnv) (st : DSt) | rt (d : D) (st : DSt)
def forGo (f : D → DEnv → DSt → Option Out) : List D → DEnv → DSt → Option Out
  | [], env, st => some (.nx env st)
  | x :: xs, env, st => (f x env st).bind fun o => match o with
    | .nx env' st' => forGo f xs env' st'
    | .rt d st' => some (.rt d st')
def whGo (c : DEnv → DSt → Option (Bool × DSt)) (b : DEnv → DSt → Option Out) : Nat → DEnv → DSt → Option Out
  | 0, _, _ => none
  | n + 1, env, st => (c env st).bind fun r => match r.1 with
    | true => (b env r.2).bind fun o => match o with
      | .nx env' st' => whGo c b n env' st'
      | .rt d st' => some (.rt d st')
    | false => some (.nx env r.2)
open Classical in
/-- a while: what it comes to, if it ends -/
noncomputable def wh (c : DEnv → DSt → Option (Bool × DSt)) (b : DEnv → DSt → Option Out) (env : DEnv) (st : DSt) : Option Out :=
  if h : ∃ n, (whGo c b n env st).isSome = true then whGo c b h.choose env st else none
def evT (Γ : Nat → List D → DSt → Option (D × DSt)) (G : List D) (e : IE) (env : DEnv) (st : DSt) : Option (Bool × DSt) :=
  (evE Γ G e env st).bind fun x => match x.1 with
    | .bl b => some (b, x.2)
    | _ => none
def setAll (env : DEnv) : List Nat → List D → Option DEnv
  | [], [] => some env
  | i :: is, d :: ds => setAll (env.set i (some d)) is ds
  | _, _ => none
/-- a list (dict) of the store, no more to be changed -/
def frzV (env : DEnv) (i : Nat) (st : DSt) : Option (DEnv × DSt) := match env[i]? with
  | some (some (.ref k)) => match st[k]? with
    | some (.lst xs) => some (env.set i (some (.lst xs)), st.set k .dead)
    | some (.dct kvs) => some (env.set i (some (.dct kvs)), st.set k .dead)
    | _ => none
  | _ => none
mutual
noncomputable def evS (Γ : Nat → List D → DSt → Option (D × DSt)) (G : List D) : IS → DEnv → DSt → Option Out
  | .asg tg e, env, st => (evE Γ G e env st).bind fun x => (asgT Γ G tg x.1 env x.2).bind fun w => some (.nx w.1 w.2)
  | .par is es, env, st => (evEs Γ G es env st).bind fun r => (setAll env is r.1).bind fun env' => some (.nx env' r.2)
  | .ex e, env, st => (evE Γ G e env st).bind fun x => some (.nx env x.2)
  | .ret e, env, st => (evE Γ G e env st).bind fun x => some (.rt x.1 x.2)
  | .retO i, env, st => match env[i]? with
    | some (some (.ref k)) => some (.rt (.ref k) st)
    | _ => none
  | .retN, _, st => some (.rt .non st)
  | .pass, env, st => some (.nx env st)
  | .rse, _, _ => none
  | .frz i, env, st => (frzV env i st).bind fun r => some (.nx r.1 r.2)
  | .ite c a b, env, st => (evT Γ G c env st).bind fun x => match x.1 with
    | true => evSs Γ G a env x.2
    | false => evSs Γ G b env x.2
  | .for_ tg it b, env, st => (evI Γ G it env st).bind fun r => forGo (fun x env s => (asgT Γ G tg x env s).bind fun w => evSs Γ G b w.1 w.2) r.1 env r.2
  | .whl c b, env, st => wh (fun env st => evT Γ G c env st) (fun env st => evSs Γ G b env st) env st
noncomputable def evSs (Γ : Nat → List D → DSt → Option (D × DSt)) (G : List D) : ISs → DEnv → DSt → Option Out
  | .nil, env, st => some (.nx env st)
  | .cons s ss, env, st => (evS Γ G s env st).bind fun o => match o with
    | .nx env' st' => evSs Γ G ss env' st'
    | .rt d st' => some (.rt d st')
end
/-! ### a call -/
def mapO {α β : Type} (f : α → Option β) : List α → Option (List β)
  | [] => some []
  | x :: xs => (f x).bind fun y => (mapO f xs).bind fun ys => some (y :: ys)
/-- the refs from n on, made data -/
def frz (n : Nat) (st : DSt) : Nat → D → Option D
  | 0, d => if D.pure d then some d else none
  | f + 1, d => if D.pure d then some d else match d with
    | .ref k => if k < n then some (.ref k) else match st[k]? with
      | some (.lst xs) => (mapO (frz n st f) xs).map .lst
      | some (.dct kvs) => if D.pureK kvs then some (.dct kvs) else none
      | _ => none
    | .tup xs => (mapO (frz n st f) xs).map .tup
    | .lst xs => (mapO (frz n st f) xs).map .lst
    | _ => none
def O.pure : O → Bool
  | .lst xs => D.pures xs
  | .dct kvs => D.pureK kvs
  | .dead => true
def O.isDead : O → Bool
  | .dead => true
  | _ => false
/-- an own list, given back as a new one -/
def ownLst (n : Nat) (st : DSt) : D → Option D
  | .ref k => if k < n then none else match st[k]? with
    | some (.lst xs) => if D.pures xs then some (.lst xs) else none
    | _ => none
  | _ => none
open Classical in
/-- behind a call: its own objects are data now -/
noncomputable def fin (fr : Bool) (st : DSt) (d : D) (st' : DSt) : Option (D × DSt) :=
  if st'.length = st.length then some (d, st') else if fr = true then
    (ownLst st.length st' d).bind fun d' => if st'.take st.length = st then some (d', st) else if (st'.take st.length).all O.pure && decide ((st'.take st.length).map O.isDead = st.map O.isDead) then some (d', st'.take st.length) else none else
    (frz st.length st' 6 d).bind fun d' => if st'.take st.length = st then some (d', st) else if (st'.take st.length).all O.pure then some (d', st'.take st.length) else none
noncomputable def callD (Γ : Nat → List D → DSt → Option (D × DSt)) (G : List D) (fr : Bool) (n : Nat) (b : ISs) (ds : List D) (st : DSt) : Option (D × DSt) :=
  (evSs Γ G b (ds.map some ++ List.replicate (n - ds.length) none) st).bind fun o => match o with
    | .nx _ st' => fin fr st .non st'
    | .rt d st' => fin fr st d st'
end Py

set_option Elab.async false
set_option linter.all false
set_option maxRecDepth 100000
set_option autoImplicit false
namespace Py
open PySem PySem.Spec L2

/-! ### the weakest readings -/
def wpE (X : Cx) (e : Expr) : TE := fun σ H Q => ∀ pins s, Inv X pins σ H s → wpAny (model X.prog X.w) X.A (eval e X.env) (EP X pins σ Q) X.xe s
def wpT (X : Cx) (e : Expr) : TT := fun σ H Q => ∀ pins s, Inv X pins σ H s → wpAny (model X.prog X.w) X.A (isTrue e X.env (eval e X.env)) (TP X pins σ Q) X.xe s
def wpW (X : Cx) (e : Expr) : TT := fun σ H Q => ∀ whole pins s, Inv X pins σ H s → wpAny (model X.prog X.w) X.A (isTrue e X.env whole) (TP X pins σ Q) X.xe s
def wpA (X : Cx) (es : List Expr) : TA := fun σ H Q => ∀ pos pins s, Inv X pins σ H s → wpAny (model X.prog X.w) X.A (spliced (backTo pos (starEach es X.env))) (AP X pins σ Q) X.xe s
def wpS (X : Cx) (st : Stmt) : TS := fun D σ H => ∀ pins s, Inv X pins σ H s → wpAny (model X.prog X.w) X.A (exec st X.env) (SP X pins D) X.xe s
def wpSs (X : Cx) (st : List Stmt) : TS := fun D σ H => ∀ pins s, Inv X pins σ H s → wpAny (model X.prog X.w) X.A (execs st X.env) (SP X pins D) X.xe s
def wpG (X : Cx) (target : Expr) : TG := fun v σ H Q => ∀ pins s u, Inv X pins σ H s → RelV v u → wpAny (model X.prog X.w) X.A (assign target X.env u) (fun _ s' => ∃ σ' H', Inv X pins σ' H' s' ∧ Q σ' H') X.xe s
def wpI (X : Cx) (tg iter : Expr) : TI := fun σ H R => ∀ pins s, Inv X pins σ H s → wpAny (model X.prog X.w) X.A (eval iter X.env) (fun v s1 => wpAny (model X.prog X.w) X.A (pyIter v) (PIE X pins σ tg R) X.xe s1) X.xe s
section
variable {X : Cx} {σ : St} {H : Hp}
theorem pe_wp {e : Expr} : PE X e (wpE X e) := ⟨fun pins s σ H Q I h => h pins s I⟩
theorem pt_wp {e : Expr} : PT X e (wpT X e) := ⟨fun pins s σ H Q I h => h pins s I⟩
theorem pw_wp {e : Expr} : PW X e (wpW X e) := ⟨fun wh pins s σ H Q I h => h wh pins s I⟩
theorem pa_wp {e : List Expr} : PA X e (wpA X e) := ⟨fun pos pins s σ H Q I h => h pos pins s I⟩
theorem ps_wp {e : Stmt} : PS X e (wpS X e) := ⟨fun pins s σ H Q I h => h pins s I⟩
theorem pss_wp {e : List Stmt} : PSs X e (wpSs X e) := ⟨fun pins s σ H Q I h => h pins s I⟩
theorem pg_wp {e : Expr} : PG X e (wpG X e) := ⟨fun pins s σ H v u Q I r h => h pins s u I r⟩
theorem pi_wp {t e : Expr} : PI X t e (wpI X t e) := ⟨fun pins s σ H R I h => h pins s I⟩
theorem le_E {e : Expr} {t : TE} {Q : VK} (h : PE X e t) (q : t σ H Q) : wpE X e σ H Q := fun pins s I => h.run pins s σ H Q I q
theorem le_T {e : Expr} {t : TT} {Q : Bool → Hp → Prop} (h : PT X e t) (q : t σ H Q) : wpT X e σ H Q := fun pins s I => h.run pins s σ H Q I q
theorem le_W {e : Expr} {t : TT} {Q : Bool → Hp → Prop} (h : PW X e t) (q : t σ H Q) : wpW X e σ H Q := fun wh pins s I => h.run wh pins s σ H Q I q
theorem le_A {e : List Expr} {t : TA} {Q : List V → Hp → Prop} (h : PA X e t) (q : t σ H Q) : wpA X e σ H Q := fun pos pins s I => h.run pos pins s σ H Q I q
theorem le_S {e : Stmt} {t : TS} {D : Ends} (h : PS X e t) (q : t D σ H) : wpS X e D σ H := fun pins s I => h.run pins s σ H D I q
theorem le_Ss {e : List Stmt} {t : TS} {D : Ends} (h : PSs X e t) (q : t D σ H) : wpSs X e D σ H := fun pins s I => h.run pins s σ H D I q
theorem le_G {e : Expr} {t : TG} {v : V} {Q : St → Hp → Prop} (h : PG X e t) (q : t v σ H Q) : wpG X e v σ H Q := fun pins s u I r => h.run pins s σ H v u Q I r q
theorem le_I {t e : Expr} {w : TI} {R : It → Hp → Prop} (h : PI X t e w) (q : w σ H R) : wpI X t e σ H R := fun pins s I => h.run pins s σ H R I q
theorem wpE.mono {e : Expr} {Q Q' : VK} (h : wpE X e σ H Q) (k : ∀ v H', Q v H' → Q' v H') : wpE X e σ H Q' := fun pins s I =>
  thn (h pins s I) fun u s' ⟨v, H', I', r, q⟩ => ⟨v, H', I', r, k v H' q⟩
end

/-! ### data and the heap -/
/-- ghosts: Z: what is not data for good; ρ: where the store's objects stand (none: given up) -/
structure Gh where
  Z : Addr → Prop
  ρ : List (Option Addr)
/-- a tuple of the written part -/
def KTup (K : PySem.W.Frag) (a : Addr) (xs : List V) : Prop :=
  ∃ (o : Obj) (its : Array Value) (n : Nat), K.lookup a = some o ∧ o.cls = .type "tuple" ∧ o.data = .seq its n ∧ its.size ≤ sizeLine ∧ Vals xs its.toList
/-- a list of the written part -/
def KLst (K : PySem.W.Frag) (a : Addr) (xs : List V) : Prop :=
  ∃ (o : Obj) (its : Array Value) (n : Nat), K.lookup a = some o ∧ o.cls = .type "list" ∧ o.dict = none ∧ o.data = .seq its n ∧ its.size ≤ sizeLine ∧ Vals xs its.toList
/-- a dict's entries, as they stand -/
abbrev Ents := List DictEntry × Nat
def rawO (a : Addr) (es : Ents) : HO := .ext fun h => h.DictRaw a es.1.toArray es.2 ∧ (a == sysModules) = false
/-- a dict of the written part -/
def KRaw (K : PySem.W.Frag) (a : Addr) (es : Ents) : Prop :=
  ∃ o : Obj, K.lookup a = some o ∧ o.ExactDict ∧ o.data = .dict es.1.toArray es.2 ∧ (a == sysModules) = false
mutual
def RelD (K : PySem.W.Frag) (w : World) (g : Gh) (H : Hp) : D → V → Prop
  | .non, v => v = .non
  | .bl b, v => v = .bl b
  | .int i, v => v = .int i
  | .str cs, v => v = .str ⟨cs.toArray⟩
  | .tup ds, v => ∃ a vs, v = .ref a ∧ ((Rd H a (.tup vs) ∧ ¬ g.Z a) ∨ KTup K a vs) ∧ RelDs K w g H ds vs
  | .lst ds, v => ∃ a vs, v = .ref a ∧ ((Rd H a (.lst vs) ∧ ¬ g.Z a) ∨ KLst K a vs) ∧ RelDs K w g H ds vs
  | .dct kvs, v => ∃ (a : Addr) (es : Ents), v = .ref a ∧ ((Rd H a (rawO a es) ∧ ¬ g.Z a) ∨ KRaw K a es) ∧ distK kvs = true ∧ RelKs K w g H kvs es.1
  | .ref k, v => k < g.ρ.length ∧ ∀ a, g.ρ[k]? = some (some a) → v = .ref a
  | .fn _, _ => False
def RelDs (K : PySem.W.Frag) (w : World) (g : Gh) (H : Hp) : List D → List V → Prop
  | [], vs => vs = []
  | d :: ds, vs => ∃ v r, vs = v :: r ∧ RelD K w g H d v ∧ RelDs K w g H ds r
def RelKs (K : PySem.W.Frag) (w : World) (g : Gh) (H : Hp) : List (D × D) → List DictEntry → Prop
  | [], vs => vs = []
  | p :: ds, vs => ∃ v r, vs = v :: r ∧ RelP K w g H p v ∧ RelKs K w g H ds r
def RelP (K : PySem.W.Frag) (w : World) (g : Gh) (H : Hp) : D × D → DictEntry → Prop
  | (a, b), e => (∃ n, nkey a = some n ∧ D.ok 8 a = true ∧ e.hash = n.hash w) ∧ (∃ v, RelV v e.key ∧ RelD K w g H a v) ∧ ∃ v, RelV v e.val ∧ RelD K w g H b v
end
/-- from (g, H) on to (g', H') -/
structure Ext (g : Gh) (H : Hp) (g' : Gh) (H' : Hp) : Prop where
  keep : ∀ a o, ¬ g.Z a → H a = some o → H' a = some o ∧ ¬ g'.Z a
  pend : ∀ a, g.Z a → (∀ k : Nat, g.ρ[k]? ≠ some (some a)) → H' a = H a ∧ g'.Z a ∧ ∀ k : Nat, g'.ρ[k]? ≠ some (some a)
  trk : ∀ a, H a ≠ none → H' a ≠ none
  len : g.ρ.length ≤ g'.ρ.length
  refs : ∀ (k : Nat) a, k < g.ρ.length → g'.ρ[k]? = some (some a) → g.ρ[k]? = some (some a)
theorem Ext.refl (g : Gh) (H : Hp) : Ext g H g H := ⟨fun _ _ z h => ⟨h, z⟩, fun _ z n => ⟨rfl, z, n⟩, fun _ h => h, Nat.le_refl _, fun _ _ _ h => h⟩
theorem Ext.trans {g g1 g2 : Gh} {H H1 H2 : Hp} (e : Ext g H g1 H1) (f : Ext g1 H1 g2 H2) : Ext g H g2 H2 where
  keep := fun a o z h => let ⟨h1, z1⟩ := e.keep a o z h; f.keep a o z1 h1
  pend := fun a z n => by
    obtain ⟨h1, z1, n1⟩ := e.pend a z n
    obtain ⟨h2, z2, n2⟩ := f.pend a z1 n1
    exact ⟨h2.trans h1, z2, n2⟩
  trk := fun a h => f.trk a (e.trk a h)
  len := Nat.le_trans e.len f.len
  refs := fun k a hk h => e.refs k a hk (f.refs k a (Nat.lt_of_lt_of_le hk e.len) h)
theorem Ext.fresh {g g' : Gh} {H H' : Hp} (e : Ext g H g' H') {p : Addr} (h : H' p = none) : H p = none := by
  cases q : H p with
  | none => rfl
  | some o => exact absurd h (e.trk p (by rw [q]; simp))
theorem Ext.rd {g g' : Gh} {H H' : Hp} (e : Ext g H g' H') {a : Addr} {u : HO} (h : Rd H a u) (z : ¬ g.Z a) : Rd H' a u ∧ ¬ g'.Z a := by
  rcases h with h | ⟨o, h⟩
  · exact ⟨.inl (e.keep a _ z h).1, (e.keep a _ z h).2⟩
  · exact ⟨.inr ⟨o, (e.keep a _ z h).1⟩, (e.keep a _ z h).2⟩
/-- what data lean on -/
structure Ext0 (g : Gh) (H : Hp) (g' : Gh) (H' : Hp) : Prop where
  keep : ∀ a o, ¬ g.Z a → H a = some o → H' a = some o ∧ ¬ g'.Z a
  len : g.ρ.length ≤ g'.ρ.length
  refs : ∀ (k : Nat) a, k < g.ρ.length → g'.ρ[k]? = some (some a) → g.ρ[k]? = some (some a)
theorem Ext.e0 {g g' : Gh} {H H' : Hp} (e : Ext g H g' H') : Ext0 g H g' H' := ⟨e.keep, e.len, e.refs⟩
theorem Ext0.rd {g g' : Gh} {H H' : Hp} (e : Ext0 g H g' H') {a : Addr} {u : HO} (h : Rd H a u) (z : ¬ g.Z a) : Rd H' a u ∧ ¬ g'.Z a := by
  rcases h with h | ⟨o, h⟩
  · exact ⟨.inl (e.keep a _ z h).1, (e.keep a _ z h).2⟩
  · exact ⟨.inr ⟨o, (e.keep a _ z h).1⟩, (e.keep a _ z h).2⟩
mutual
theorem RelD.ext0 {K : PySem.W.Frag} {w : World} {g g' : Gh} {H H' : Hp} (e : Ext0 g H g' H') : ∀ {d : D} {v : V}, RelD K w g H d v → RelD K w g' H' d v
  | .non, v, h => h
  | .bl b, v, h => h
  | .int i, v, h => h
  | .str cs, v, h => h
  | .tup ds, v, h => by
    rw [RelD] at h ⊢
    obtain ⟨a, vs, hv, ha, hr⟩ := h
    refine ⟨a, vs, hv, ?_, RelDs.ext0 e hr⟩
    rcases ha with ⟨ha, z⟩ | ha
    · exact .inl (e.rd ha z)
    · exact .inr ha
  | .lst ds, v, h => by
    rw [RelD] at h ⊢
    obtain ⟨a, vs, hv, ha, hr⟩ := h
    refine ⟨a, vs, hv, ?_, RelDs.ext0 e hr⟩
    rcases ha with ⟨ha, z⟩ | ha
    · exact .inl (e.rd ha z)
    · exact .inr ha
  | .dct kvs, v, h => by
    rw [RelD] at h ⊢
    obtain ⟨a, es, hv, ha, hd, hr⟩ := h
    refine ⟨a, es, hv, ?_, hd, RelKs.ext0 e hr⟩
    rcases ha with ⟨ha, z⟩ | ha
    · exact .inl (e.rd ha z)
    · exact .inr ha
  | .ref k, v, h => by
    rw [RelD] at h ⊢
    exact ⟨Nat.lt_of_lt_of_le h.1 e.len, fun a q => h.2 a (e.refs k a h.1 q)⟩
  | .fn k, v, h => by
    rw [RelD] at h
    exact h.elim
theorem RelDs.ext0 {K : PySem.W.Frag} {w : World} {g g' : Gh} {H H' : Hp} (e : Ext0 g H g' H') : ∀ {ds : List D} {vs : List V}, RelDs K w g H ds vs → RelDs K w g' H' ds vs
  | [], vs, h => h
  | d :: ds, vs, h => by
    rw [RelDs] at h ⊢
    obtain ⟨v, r, hv, h1, h2⟩ := h
    exact ⟨v, r, hv, RelD.ext0 e h1, RelDs.ext0 e h2⟩
theorem RelKs.ext0 {K : PySem.W.Frag} {w : World} {g g' : Gh} {H H' : Hp} (e : Ext0 g H g' H') : ∀ {ds : List (D × D)} {vs : List DictEntry}, RelKs K w g H ds vs → RelKs K w g' H' ds vs
  | [], vs, h => h
  | d :: ds, vs, h => by
    rw [RelKs] at h ⊢
    obtain ⟨v, r, hv, h1, h2⟩ := h
    exact ⟨v, r, hv, RelP.ext0 e h1, RelKs.ext0 e h2⟩
theorem RelP.ext0 {K : PySem.W.Frag} {w : World} {g g' : Gh} {H H' : Hp} (e : Ext0 g H g' H') : ∀ {p : D × D} {v : DictEntry}, RelP K w g H p v → RelP K w g' H' p v
  | (a, b), v, h => by
    rw [RelP] at h ⊢
    obtain ⟨h1, ⟨u, h2, h3⟩, z, h4, h5⟩ := h
    exact ⟨h1, ⟨u, h2, RelD.ext0 e h3⟩, z, h4, RelD.ext0 e h5⟩
end
theorem RelD.ext {K : PySem.W.Frag} {w : World} {g g' : Gh} {H H' : Hp} {d : D} {v : V} (h : RelD K w g H d v) (e : Ext g H g' H') : RelD K w g' H' d v := RelD.ext0 e.e0 h
theorem RelDs.ext {K : PySem.W.Frag} {w : World} {g g' : Gh} {H H' : Hp} {d : List D} {v : List V} (h : RelDs K w g H d v) (e : Ext g H g' H') : RelDs K w g' H' d v := RelDs.ext0 e.e0 h
theorem RelKs.ext {K : PySem.W.Frag} {w : World} {g g' : Gh} {H H' : Hp} {d : List (D × D)} {v : List DictEntry} (h : RelKs K w g H d v) (e : Ext g H g' H') : RelKs K w g' H' d v := RelKs.ext0 e.e0 h
theorem RelDs.length {K : PySem.W.Frag} {w : World} {g : Gh} {H : Hp} : ∀ {ds : List D} {vs : List V}, RelDs K w g H ds vs → ds.length = vs.length
  | [], vs, h => by rw [RelDs] at h; subst h; rfl
  | d :: ds, vs, h => by
    rw [RelDs] at h
    obtain ⟨v, r, rfl, _, h2⟩ := h
    simp [RelDs.length h2]
theorem RelDs.get {K : PySem.W.Frag} {w : World} {g : Gh} {H : Hp} : ∀ {ds : List D} {vs : List V} {i : Nat} {d : D}, RelDs K w g H ds vs → ds[i]? = some d → ∃ v, vs[i]? = some v ∧ RelD K w g H d v
  | [], vs, i, d, _, e => by simp at e
  | x :: ds, vs, 0, d, h, e => by
    rw [RelDs] at h
    obtain ⟨v, r, rfl, h1, h2⟩ := h
    simp at e
    subst e
    exact ⟨v, rfl, h1⟩
  | x :: ds, vs, i + 1, d, h, e => by
    rw [RelDs] at h
    obtain ⟨v, r, rfl, h1, h2⟩ := h
    obtain ⟨z, hw, q⟩ := RelDs.get (i := i) h2 (by simpa using e)
    exact ⟨z, by simpa using hw, q⟩
theorem RelDs.getV {K : PySem.W.Frag} {w : World} {g : Gh} {H : Hp} : ∀ {ds : List D} {vs : List V} {i : Nat} {v : V}, RelDs K w g H ds vs → vs[i]? = some v → ∃ d, ds[i]? = some d ∧ RelD K w g H d v := fun {ds vs i v} h e => by
  have hl := h.length
  have hi : i < vs.length := (List.getElem?_eq_some_iff.mp e).1
  have hd : ds[i]? = some ds[i] := List.getElem?_eq_getElem (by omega)
  obtain ⟨z, hw, q⟩ := h.get hd
  rw [hw] at e
  cases e
  exact ⟨_, hd, q⟩
theorem RelDs.cons {K : PySem.W.Frag} {w : World} {g : Gh} {H : Hp} {d : D} {ds : List D} {v : V} {vs : List V} (h1 : RelD K w g H d v) (h2 : RelDs K w g H ds vs) : RelDs K w g H (d :: ds) (v :: vs) := by
  rw [RelDs]
  exact ⟨v, vs, rfl, h1, h2⟩
theorem RelDs.nil {K : PySem.W.Frag} {w : World} {g : Gh} {H : Hp} : RelDs K w g H [] [] := by rw [RelDs]
theorem RelDs.append {K : PySem.W.Frag} {w : World} {g : Gh} {H : Hp} : ∀ {ds es : List D} {vs ws : List V}, RelDs K w g H ds vs → RelDs K w g H es ws → RelDs K w g H (ds ++ es) (vs ++ ws)
  | [], es, vs, ws, h, h' => by
    rw [RelDs] at h
    subst h
    exact h'
  | d :: ds, es, vs, ws, h, h' => by
    rw [RelDs] at h
    obtain ⟨v, r, rfl, h1, h2⟩ := h
    exact RelDs.cons h1 (RelDs.append h2 h')
theorem RelDs.of_get {K : PySem.W.Frag} {w : World} {g : Gh} {H : Hp} : ∀ {ds : List D} {vs : List V}, ds.length = vs.length → (∀ (i : Nat) d v, ds[i]? = some d → vs[i]? = some v → RelD K w g H d v) → RelDs K w g H ds vs
  | [], [], _, _ => RelDs.nil
  | [], _ :: _, h, _ => by simp at h
  | _ :: _, [], h, _ => by simp at h
  | d :: ds, v :: vs, h, k => RelDs.cons (k 0 d v rfl rfl) (RelDs.of_get (by simpa using h) fun i d' v' h1 h2 => k (i + 1) d' v' (by simpa using h1) (by simpa using h2))
theorem RelDs.set {K : PySem.W.Frag} {w : World} {g : Gh} {H : Hp} {ds : List D} {vs : List V} {d : D} {v : V} (h : RelDs K w g H ds vs) (n : Nat) (r : RelD K w g H d v) : RelDs K w g H (ds.set n d) (vs.set n v) := by
  refine RelDs.of_get (by simp [h.length]) fun i d' v' h1 h2 => ?_
  rw [List.getElem?_set] at h1 h2
  by_cases hn : n = i
  · subst hn
    rw [if_pos rfl] at h1 h2
    split at h1
    · cases h1
      split at h2
      · cases h2
        exact r
      · cases h2
    · cases h1
  · rw [if_neg hn] at h1 h2
    obtain ⟨z, hw, q⟩ := h.get h1
    rw [hw] at h2
    cases h2
    exact q
theorem RelDs.sub {K : PySem.W.Frag} {w : World} {g : Gh} {H : Hp} {ds : List D} {vs : List V} (h : RelDs K w g H ds vs) (a n : Nat) : RelDs K w g H ((ds.drop a).take n) ((vs.drop a).take n) := by
  refine RelDs.of_get (by simp [h.length]) fun i d' v' h1 h2 => ?_
  rw [List.getElem?_take] at h1 h2
  split at h1
  · rename_i hi
    rw [if_pos hi] at h2
    rw [List.getElem?_drop] at h1 h2
    obtain ⟨z, hw, q⟩ := h.get h1
    rw [hw] at h2
    cases h2
    exact q
  · cases h1
theorem RelDs.dropLast {K : PySem.W.Frag} {w : World} {g : Gh} {H : Hp} {ds : List D} {vs : List V} (h : RelDs K w g H ds vs) : RelDs K w g H ds.dropLast vs.dropLast := by
  have := h.sub 0 (ds.length - 1)
  rw [List.drop_zero, List.drop_zero] at this
  rw [List.dropLast_eq_take, List.dropLast_eq_take, ← h.length]
  exact this

/-! ### the store -/
def ORel (K : PySem.W.Frag) (w : World) (g : Gh) (H : Hp) : O → Addr → Prop
  | .lst xs, a => ∃ vs, H a = some (.lst vs) ∧ RelDs K w g H xs vs
  | .dct kvs, a => ∃ es : Ents, H a = some (rawO a es) ∧ distK kvs = true ∧ RelKs K w g H kvs es.1
  | .dead, _ => False
structure StOk (K : PySem.W.Frag) (w : World) (g : Gh) (H : Hp) (st : DSt) : Prop where
  len : g.ρ.length = st.length
  inj : ∀ (k j : Nat) a, g.ρ[k]? = some (some a) → g.ρ[j]? = some (some a) → k = j
  inZ : ∀ (k : Nat) a, g.ρ[k]? = some (some a) → g.Z a
  trk : ∀ a, g.Z a → H a ≠ none
  obj : ∀ (k : Nat) a o, g.ρ[k]? = some (some a) → st[k]? = some o → ORel K w g H o a
  live : ∀ (k : Nat) o, st[k]? = some o → (o = .dead ∧ g.ρ[k]? = some none) ∨ ∃ a, g.ρ[k]? = some (some a)
structure EnvR (K : PySem.W.Frag) (w : World) (g : Gh) (H : Hp) (env : DEnv) (σ : St) : Prop where
  len : env.length = σ.length
  get : ∀ (i : Nat) d, env[i]? = some (some d) → ∃ v, σ[i]? = some (some v) ∧ RelD K w g H d v
theorem EnvR.ext {K : PySem.W.Frag} {w : World} {g g' : Gh} {H H' : Hp} {env : DEnv} {σ : St} (e : EnvR K w g H env σ) (x : Ext g H g' H') : EnvR K w g' H' env σ :=
  ⟨e.len, fun i d h => let ⟨v, h1, h2⟩ := e.get i d h; ⟨v, h1, h2.ext x⟩⟩
theorem EnvR.set {K : PySem.W.Frag} {w : World} {g : Gh} {H : Hp} {env : DEnv} {σ : St} {d : D} {v : V} (e : EnvR K w g H env σ) (i : Nat) (r : RelD K w g H d v) : EnvR K w g H (env.set i (some d)) (σ.set i (some v)) := by
  refine ⟨by simp [e.len], fun j d' h => ?_⟩
  by_cases hj : i = j
  · subst hj
    rw [List.getElem?_set] at h
    rw [if_pos rfl] at h
    split at h
    · cases h
      rename_i hl
      refine ⟨v, ?_, r⟩
      rw [List.getElem?_set_self (by rw [← e.len]; exact hl)]
    · cases h
  · rw [List.getElem?_set_ne hj] at h ⊢
    exact e.get j d' h
theorem EnvR.wipe {K : PySem.W.Frag} {w : World} {g : Gh} {H : Hp} {env : DEnv} {σ : St} (e : EnvR K w g H env σ) : ∀ vs : List Nat, EnvR K w g H (wipeD env vs) (wipe σ vs)
  | [] => e
  | v :: vs => by
    have ih := EnvR.wipe e vs
    unfold wipeD L2.wipe
    refine ⟨by simp [ih.len], fun j d' h => ?_⟩
    by_cases hj : v = j
    · subst hj
      rw [List.getElem?_set] at h
      rw [if_pos rfl] at h
      split at h <;> cases h
    · rw [List.getElem?_set_ne hj] at h ⊢
      exact ih.get j d' h
/-- a new object, data from the start -/
theorem ext_new {g : Gh} {H : Hp} {p : Addr} {o : HO} (h : H p = none) (hz : ¬ g.Z p) : Ext g H g (upd H p o) :=
  ⟨fun a u z e => ⟨by rw [upd_ne (ne_of_none e h)]; exact e, z⟩, fun a z n => ⟨by rw [upd_ne (show a ≠ p from fun q => hz (q ▸ z))], z, n⟩, fun a e => by
    by_cases hp : a = p
    · subst hp
      rw [upd_same]
      simp
    · rw [upd_ne hp]
      exact e, Nat.le_refl _, fun _ _ _ q => q⟩
theorem ORel.ext0 {K : PySem.W.Frag} {w : World} {g g' : Gh} {H H' : Hp} {o : O} {a : Addr} (h : ORel K w g H o a) (e : Ext0 g H g' H') (k : H' a = H a) : ORel K w g' H' o a := by
  cases o with
  | lst xs =>
    obtain ⟨vs, ha, r⟩ := h
    exact ⟨vs, k.trans ha, RelDs.ext0 e r⟩
  | dct kvs =>
    obtain ⟨es, ha, hd, r⟩ := h
    exact ⟨es, k.trans ha, hd, RelKs.ext0 e r⟩
  | dead => exact h.elim
theorem StOk.ext0 {K : PySem.W.Frag} {w : World} {g : Gh} {H H' : Hp} {st : DSt} (s : StOk K w g H st) (e : Ext0 g H g H') (t : ∀ a, H a ≠ none → H' a ≠ none) (k : ∀ (n : Nat) a, g.ρ[n]? = some (some a) → H' a = H a) : StOk K w g H' st where
  len := s.len
  inj := s.inj
  inZ := s.inZ
  trk := fun a z => t a (s.trk a z)
  obj := fun n a o h1 h2 => (s.obj n a o h1 h2).ext0 e (k n a h1)
  live := s.live
theorem StOk.ext {K : PySem.W.Frag} {w : World} {g : Gh} {H H' : Hp} {st : DSt} (s : StOk K w g H st) (e : Ext g H g H') (k : ∀ a, g.Z a → H' a = H a) : StOk K w g H' st :=
  s.ext0 e.e0 e.trk fun n a h => k a (s.inZ n a h)
theorem StOk.nZ {K : PySem.W.Frag} {w : World} {g : Gh} {H : Hp} {st : DSt} (s : StOk K w g H st) {p : Addr} (h : H p = none) : ¬ g.Z p := fun z => s.trk p z h
theorem StOk.new {K : PySem.W.Frag} {w : World} {g : Gh} {H : Hp} {st : DSt} (s : StOk K w g H st) {p : Addr} {o : HO} (h : H p = none) : StOk K w g (upd H p o) st :=
  s.ext (ext_new h (s.nZ h)) fun a z => upd_ne (show a ≠ p from fun q => s.nZ h (q ▸ z))
theorem StOk.mv {K : PySem.W.Frag} {w : World} {g g' : Gh} {H H' : Hp} {st : DSt} (s : StOk K w g H st) (e : Ext0 g H g' H') (er : g'.ρ = g.ρ) (iz : ∀ (k : Nat) a, g.ρ[k]? = some (some a) → g'.Z a) (t : ∀ a, g'.Z a → H' a ≠ none) (k : ∀ (n : Nat) a, g.ρ[n]? = some (some a) → H' a = H a) : StOk K w g' H' st where
  len := by rw [er]; exact s.len
  inj := by rw [er]; exact s.inj
  inZ := fun n a h => iz n a (by rw [er] at h; exact h)
  trk := t
  obj := fun n a o h1 h2 => by
    rw [er] at h1
    exact (s.obj n a o h1 h2).ext0 e (k n a h1)
  live := by rw [er]; exact s.live
end Py

set_option Elab.async false
set_option linter.all false
set_option maxRecDepth 100000
set_option autoImplicit false
set_option maxHeartbeats 1000000
namespace Py
open PySem PySem.Spec L2

/-! ### ends -/
/-- the new list (dict) that nobody else has -/
def Fresh (K : PySem.W.Frag) (w : World) (H : Hp) (g' : Gh) (H' : Hp) (st : DSt) (d : D) (v : V) : Prop :=
  (∀ ds, d = .lst ds → ∃ p vs, v = .ref p ∧ H p = none ∧ ¬ g'.Z p ∧ H' p = some (.lst vs) ∧ RelDs K w ⟨fun a => g'.Z a ∨ a = p, g'.ρ⟩ H' ds vs ∧ StOk K w ⟨fun a => g'.Z a ∨ a = p, g'.ρ⟩ H' st) ∧
  (∀ kvs, d = .dct kvs → ∃ (p : Addr) (es : Ents), v = .ref p ∧ H p = none ∧ ¬ g'.Z p ∧ H' p = some (rawO p es) ∧ distK kvs = true ∧ RelKs K w ⟨fun a => g'.Z a ∨ a = p, g'.ρ⟩ H' kvs es.1 ∧ StOk K w ⟨fun a => g'.Z a ∨ a = p, g'.ρ⟩ H' st)
def Post (K : PySem.W.Frag) (w : World) (b : Bool) (g : Gh) (H : Hp) (st' : DSt) (d : D) (Q : VK) : Prop :=
  ∀ v H' g', Ext g H g' H' → StOk K w g' H' st' → RelD K w g' H' d v → (b = true → Fresh K w H g' H' st' d v) → Q v H'
/-- what is neither a list nor a dict -/
def D.flat : D → Bool
  | .lst _ => false
  | .dct _ => false
  | _ => true
section
variable {K : PySem.W.Frag} {w : World} {b : Bool} {g g1 : Gh} {H H1 : Hp} {st : DSt} {d : D} {v : V} {Q : VK}
theorem Fresh.of_flat {g' : Gh} {H' : Hp} (h : d.flat = true) : Fresh K w H g' H' st d v := ⟨fun ds e => (by rw [e] at h; cases h), fun kvs e => (by rw [e] at h; cases h)⟩
theorem Fresh.mono {g' : Gh} {H' : Hp} (f : Fresh K w H1 g' H' st d v) (e : Ext g H g1 H1) : Fresh K w H g' H' st d v :=
  ⟨fun ds h => let ⟨p, vs, a, b, c⟩ := f.1 ds h; ⟨p, vs, a, e.fresh b, c⟩, fun ds h => let ⟨p, vs, a, b, c⟩ := f.2 ds h; ⟨p, vs, a, e.fresh b, c⟩⟩
theorem Post.mono (P : Post K w b g H st d Q) (e : Ext g H g1 H1) : Post K w b g1 H1 st d Q := fun v H' g' x s r f => P v H' g' (e.trans x) s r fun hb => (f hb).mono e
theorem Post.val (P : Post K w b g H st d Q) (s : StOk K w g H st) (r : RelD K w g H d v) (h : b = true → d.flat = true) : Q v H := P v H g (Ext.refl g H) s r fun hb => .of_flat (h hb)
theorem Post.tup {ds : List D} {vs : List V} (P : Post K w b g H st (.tup ds) Q) (s : StOk K w g H st) (r : RelDs K w g H ds vs) : ∀ p, H p = none → Q (.ref p) (upd H p (.tup vs)) := fun p hp => by
  have e := ext_new (o := .tup vs) hp (s.nZ hp)
  refine P _ _ g e (s.new hp) ?_ fun _ => .of_flat rfl
  rw [RelD]
  exact ⟨p, vs, rfl, .inl ⟨.inl upd_same, s.nZ hp⟩, r.ext e⟩
theorem Post.lst {ds : List D} {vs : List V} (P : Post K w b g H st (.lst ds) Q) (s : StOk K w g H st) (r : RelDs K w g H ds vs) : ∀ p, H p = none → Q (.ref p) (upd H p (.lst vs)) := fun p hp => by
  have e := ext_new (o := .lst vs) hp (s.nZ hp)
  refine P _ _ g e (s.new hp) ?_ fun _ => ⟨fun ds' h => ?_, fun kvs h => by cases h⟩
  · rw [RelD]
    exact ⟨p, vs, rfl, .inl ⟨.inl upd_same, s.nZ hp⟩, r.ext e⟩
  · cases h
    have e1 : Ext0 g H ⟨fun a => g.Z a ∨ a = p, g.ρ⟩ (upd H p (.lst vs)) := ⟨fun a u z q => ⟨by rw [upd_ne (ne_of_none q hp)]; exact q, fun z' => z'.elim z fun q' => ne_of_none q hp q'⟩, Nat.le_refl _, fun _ _ _ q => q⟩
    refine ⟨p, vs, rfl, hp, s.nZ hp, upd_same, RelDs.ext0 e1 r, s.mv e1 rfl (fun k a h => .inl (s.inZ k a h)) (fun a z => ?_) (fun n a h => upd_ne (show a ≠ p from fun q => s.nZ hp (q ▸ s.inZ n a h)))⟩
    rcases z with z | rfl
    · exact e.trk a (s.trk a z)
    · rw [upd_same]
      simp
end

section
variable {K : PySem.W.Frag} {w : World} {b : Bool} {g g1 : Gh} {H H1 : Hp} {st : DSt} {Q : VK}
theorem Post.dct {kvs : List (D × D)} {es : Ents} (P : Post K w b g H st (.dct kvs) Q) (s : StOk K w g H st) (hd : distK kvs = true) (r : RelKs K w g H kvs es.1) : ∀ p, H p = none → Q (.ref p) (upd H p (rawO p es)) := fun p hp => by
  have e := ext_new (o := rawO p es) hp (s.nZ hp)
  refine P _ _ g e (s.new hp) ?_ fun _ => ⟨fun ds' h => (by cases h), fun kvs h => ?_⟩
  · rw [RelD]
    exact ⟨p, es, rfl, .inl ⟨.inl upd_same, s.nZ hp⟩, hd, r.ext e⟩
  · cases h
    have e1 : Ext0 g H ⟨fun a => g.Z a ∨ a = p, g.ρ⟩ (upd H p (rawO p es)) := ⟨fun a u z q => ⟨by rw [upd_ne (ne_of_none q hp)]; exact q, fun z' => z'.elim z fun q' => ne_of_none q hp q'⟩, Nat.le_refl _, fun _ _ _ q => q⟩
    refine ⟨p, es, rfl, hp, s.nZ hp, upd_same, hd, RelKs.ext0 e1 r, s.mv e1 rfl (fun k a h => .inl (s.inZ k a h)) (fun a z => ?_) (fun n a h => upd_ne (show a ≠ p from fun q => s.nZ hp (q ▸ s.inZ n a h)))⟩
    rcases z with z | rfl
    · exact e.trk a (s.trk a z)
    · rw [upd_same]
      simp
end
/-- what is seen of a store's object, or data -/
def RelT (K : PySem.W.Frag) (w : World) (g : Gh) (H : Hp) : D → V → Prop
  | .lst ds, v => ∃ a vs, v = .ref a ∧ SqL K H a vs ∧ RelDs K w g H ds vs
  | .dct kvs, v => ∃ (a : Addr) (es : Ents), v = .ref a ∧ (Rd H a (rawO a es) ∨ KRaw K a es) ∧ distK kvs = true ∧ RelKs K w g H kvs es.1
  | d, v => RelD K w g H d v
section
variable {K : PySem.W.Frag} {w : World} {g : Gh} {H : Hp} {st : DSt} {d u : D} {v : V}
theorem RelD.t (h : RelD K w g H d v) : RelT K w g H d v := by
  cases d with
  | lst ds =>
    rw [RelD] at h
    obtain ⟨a, vs, h1, h2, h3⟩ := h
    exact ⟨a, vs, h1, h2.elim (fun q => .inl q.1) .inr, h3⟩
  | dct kvs =>
    rw [RelD] at h
    obtain ⟨a, vs, h1, h2, h3, h4⟩ := h
    exact ⟨a, vs, h1, h2.elim (fun q => .inl q.1) .inr, h3, h4⟩
  | _ => exact h
theorem view_t (h : view st d = some u) (s : StOk K w g H st) (r : RelD K w g H d v) : RelT K w g H u v := by
  cases d with
  | ref k =>
    rw [RelD] at r
    unfold view at h
    simp only at h
    cases ho : st[k]? with
    | none => rw [ho] at h; cases h
    | some o =>
      rw [ho] at h
      rcases s.live k o ho with ⟨rfl, _⟩ | ⟨a, ha⟩
      · cases h
      · have hv := r.2 a ha
        have q := s.obj k a o ha ho
        cases o with
        | lst xs =>
          cases h
          obtain ⟨vs, h1, h2⟩ := q
          exact ⟨a, vs, hv, .inl (.inl h1), h2⟩
        | dct kvs =>
          cases h
          obtain ⟨es, h1, h2⟩ := q
          exact ⟨a, es, hv, .inl (.inl h1), h2⟩
        | dead => cases h
  | _ =>
    unfold view at h
    cases h
    exact r.t
theorem RelT.int {i : Int} (r : RelT K w g H (.int i) v) : v = .int i := by simpa only [RelT, RelD] using r
theorem RelT.bl {i : Bool} (r : RelT K w g H (.bl i) v) : v = .bl i := by simpa only [RelT, RelD] using r
theorem RelT.str {i : List Nat} (r : RelT K w g H (.str i) v) : v = .str ⟨i.toArray⟩ := by simpa only [RelT, RelD] using r
theorem RelT.non (r : RelT K w g H .non v) : v = .non := by simpa only [RelT, RelD] using r
theorem RelT.tup {ds : List D} (r : RelT K w g H (.tup ds) v) : ∃ a vs, v = .ref a ∧ SqT K H a vs ∧ RelDs K w g H ds vs := by
  have r : RelD K w g H (.tup ds) v := r
  rw [RelD] at r
  obtain ⟨a, vs, h1, h2, h3⟩ := r
  exact ⟨a, vs, h1, h2.elim (fun q => .inl q.1) .inr, h3⟩
theorem RelT.lst {ds : List D} (r : RelT K w g H (.lst ds) v) : ∃ a vs, v = .ref a ∧ SqL K H a vs ∧ RelDs K w g H ds vs := r
theorem RelT.dct {kvs : List (D × D)} (r : RelT K w g H (.dct kvs) v) : ∃ (a : Addr) (es : Ents), v = .ref a ∧ (Rd H a (rawO a es) ∨ KRaw K a es) ∧ distK kvs = true ∧ RelKs K w g H kvs es.1 := r
theorem RelT.toD (r : RelT K w g H d v) (h : d.flat = false → d.flat = true) : RelD K w g H d v := by
  cases d <;> first | exact r | (simp [D.flat] at h; done)
theorem relD_int {i : Int} : RelD K w g H (.int i) (.int i) := by rw [RelD]
theorem relD_bl {i : Bool} : RelD K w g H (.bl i) (.bl i) := by rw [RelD]
theorem relD_non : RelD K w g H .non .non := by rw [RelD]
theorem relD_str {i : List Nat} : RelD K w g H (.str i) (.str ⟨i.toArray⟩) := by rw [RelD]
end
theorem sz_le {n : Nat} (h : sz n = true) : n ≤ sizeLine := by
  have : n ≤ 100000 := of_decide_eq_true h
  exact Nat.le_trans this (by decide)

/-! ### two-place operations -/
section
variable {X : Cx} {pins : List (Addr × Obj)} {σ : L2.St} {H : Hp} {s : Shared}
theorem Inv.lstR {l : Addr} {xs : List V} (I : Inv X pins σ H s) (hH : SqL X.K H l xs) : xs.length ≤ sizeLine ∧ ∃ (its : List Value) (n : Nat) (sl : Array (Option Value)), Vals xs its ∧ xs.length = its.length ∧ s.heap.get? l = some { cls := .type "list", dict := none, data := .seq its.toArray n, slots := sl } := by
  obtain ⟨its, r, ⟨⟨c, dd, da, sl⟩, n, e, h1, h2, h3⟩, z⟩ := I.list hH
  simp only at h1 h2 h3
  subst h1 h2 h3
  exact ⟨z, its, n, sl, r, r.length, e⟩
theorem list_add_s (l : Addr) (items : Array Value) (n : Nat) (sl : Array (Option Value)) (b : Addr) (items2 : Array Value) (n2 : Nat) (sl2 : Array (Option Value)) (hc0 : items.size + items2.size ≤ sizeLine) :
    Meets (Builtin.«list.__add__» ⟨[.ref l, .ref b], []⟩) (fun _ R s => s.heap.get? l = some ⟨.type "list", none, .seq items n, sl⟩ ∧ s.heap.get? b = some ⟨.type "list", none, .seq items2 n2, sl2⟩ ∧
      R (.ok (.ret (Value.ref s.heap.objs.size))) { s with heap := s.heap.push { cls := Value.type "list", data := Data.seq (items ++ items2) }, toks := s.toks }) :=
  .of_wp fun prog w A R s h => by
    obtain ⟨hp, g, d, tk, os⟩ := s
    obtain ⟨hl, hb, h⟩ := h
    have f1 := AutoSeq1.idx_int
    have f2 := AutoSeq1.sub_tuple_tuple
    have f3 := AutoSeq1.sub_list_list
    have f4 := AutoSeq1.sub_tuple_list
    have f5 := AutoSeq1.sub_list_tuple
    wp_walk using AutoSeq1.wpAny_loadPart' hl, AutoSeq1.wpAny_loadPart' hb
    exact ⟨_, rfl, h⟩
def rCatR (K : PySem.W.Frag) : R2 := fun x y H Q => ∃ l b xs zs, x = .ref l ∧ y = .ref b ∧ SqL K H l xs ∧ SqL K H b zs ∧ xs.length + zs.length ≤ sizeLine ∧ ∀ p, H p = none → Q (.ref p) (upd H p (.lst (xs ++ zs)))
theorem op_catR : OpR X (binaryOp .Add) (rCatR X.K) := by
  intro pins s σ H x y v u Q I rx ry h
  obtain ⟨l, b, xs, zs, rfl, rfl, hH, hB, hz, q⟩ := h
  cases rx
  cases ry
  obtain ⟨z, its, n, sl, r, hl, e⟩ := Inv.lstR I hH
  obtain ⟨z2, its2, n2, sl2, r2, hl2, e2⟩ := Inv.lstR I hB
  refine PySem.concat_meets ⟨_, e, rfl⟩ ⟨_, e2, rfl⟩ noFill_list_add seq_list_add F.slot_list_add F.entry_list_add (F.args_list_add_2 _ _) (list_add_s l its.toArray n sl b its2.toArray n2 sl2 (by rw [List.size_toArray, List.size_toArray]; omega)) ⟨e, e2, ?_⟩
  have ea : its.toArray ++ its2.toArray = (its ++ its2).toArray := by simp
  rw [ea]
  exact ⟨.ref _, _, I.lnew (t' := s.toks) (r.append r2) (by rw [List.length_append]; omega), rfl, q _ I.fresh⟩
theorem fold_rep {α : Type} (xs : List α) : ∀ (k : Nat) (acc : List α), (List.replicate k xs.toArray).foldl (fun x1 x2 => x1 ++ x2) acc.toArray = (acc ++ (List.replicate k xs).flatten).toArray
  | 0, acc => by simp
  | k + 1, acc => by
    rw [List.replicate_succ, List.foldl_cons, List.replicate_succ, List.flatten_cons]
    have := fold_rep xs k (acc ++ xs)
    rw [show acc.toArray ++ xs.toArray = (acc ++ xs).toArray by simp, this]
    simp
theorem rept_len {α : Type} (n : Nat) (xs : List α) : (rept n xs).length = n * xs.length := by
  unfold rept
  rw [List.length_flatten, List.map_replicate, List.sum_replicate_nat]
theorem rept_one {α : Type} (xs : List α) : rept 1 xs = xs := by simp [rept]
/-- a text times a number -/
def rRepS : R2 := fun x y H Q => ∃ (a : List Nat) (k : Int), x = .str ⟨a.toArray⟩ ∧ y = .int k ∧ 1 ≤ k ∧ k ≤ 1000 ∧ a.length * k.toNat ≤ 100000 ∧ Q (.str ⟨(rept k.toNat a).toArray⟩) H
theorem op_repS : OpR X (binaryOp .Mult) rRepS := by
  intro pins s σ H x y v u Q I rx ry h
  obtain ⟨a, k, rfl, rfl, h1, h2, hz, q⟩ := h
  obtain ⟨t, rfl⟩ := rx
  obtain ⟨t', rfl⟩ := ry
  have hlen : (⟨a.toArray⟩ : Str).length = a.length := by simp [Str.length]
  refine PySem.P.mul_str ?_ (fun _ _ => ?_) (fun _ _ => ?_) ?_
  · rw [decide_eq_false (by omega), decide_eq_false (by omega)]
    rfl
  · rw [hlen]
    have h4 : (a.length : Int) * k ≤ 100000 := by
      have e : ((a.length * k.toNat : Nat) : Int) ≤ 100000 := by omega
      rw [Int.natCast_mul, Int.toNat_of_nonneg (by omega)] at e
      exact e
    have h5 : (a.length : Int) ≤ ((2 : Int) ^ 63 - 1) / k := Int.le_ediv_of_mul_le (by omega) (by omega)
    omega
  · rw [hlen]
    unfold Builtin.Str.tooLong
    refine decide_eq_false ?_
    rw [sizeLine_eq]
    omega
  · rw [if_neg (by omega)]
    by_cases h3 : (k == 1 || (⟨a.toArray⟩ : Str).length == 0) = true
    · rw [if_pos h3]
      refine ⟨.str ⟨a.toArray⟩, H, I, ⟨_, rfl⟩, ?_⟩
      rw [hlen, Bool.or_eq_true] at h3
      rcases h3 with h3 | h3
      · have : k = 1 := by simpa using h3
        subst this
        rw [show ((1 : Int).toNat) = 1 from rfl, rept_one] at q
        exact q
      · have h5 : a = [] := by simpa using h3
        subst h5
        have : rept k.toNat ([] : List Nat) = [] := by
          apply List.eq_nil_of_length_eq_zero
          rw [rept_len]
          simp
        rw [this] at q
        exact q
    · rw [if_neg h3]
      have e := fold_rep a k.toNat []
      rw [List.nil_append] at e
      have e2 : (List.replicate k.toNat (⟨a.toArray⟩ : Str).cps).foldl (fun x1 x2 => x1 ++ x2) #[] = (rept k.toNat a).toArray := e
      rw [e2]
      refine ⟨?_, .str _, H, I.tok _, ⟨_, rfl⟩, q⟩
      show (rept k.toNat a).toArray.size ≤ sizeLine
      rw [List.size_toArray, rept_len, sizeLine_eq, Nat.mul_comm]
      omega
end
end Py

set_option Elab.async false
set_option linter.all false
set_option maxRecDepth 100000
set_option autoImplicit false
set_option maxHeartbeats 1000000
namespace Py
open PySem PySem.Spec L2
/-- a tuple times 1 is itself -/
theorem tuple_mul1 (l : Addr) (items : Array Value) (n : Nat) (dd : Option Addr) (sl : Array (Option Value)) (x : Int) (u : Tok) (c0 : (decide (x < -(2 ^ 63)) || decide (x ≥ 2 ^ 63)) = false) (c1 : (items.isEmpty || x == 1) = true) :
    Meets (Builtin.«tuple.__mul__» ⟨[.ref l, .int x u], []⟩) (fun _ R s => s.heap.get? l = some { cls := .type "tuple", dict := dd, data := .seq items n, slots := sl } ∧
      R (.ok (.ret (Value.ref l))) s) :=
  .of_wp fun prog w A R s h => by
    obtain ⟨hp, g, d, tk, os⟩ := s
    obtain ⟨hl, h⟩ := h
    have f1 := AutoSeq1.idx_int
    wp_walk using wpAny_loadPart' hl
    repeat (first
      | (refine wpAny_ite_false (decide_eq_false (by rw [c0]; exact Bool.false_ne_true)) ?_; wp_walk using wpAny_loadPart' hl)
      | (refine wpAny_ite_true (decide_eq_true (by rw [c1])) ?_; wp_walk using wpAny_loadPart' hl))
    exact ⟨_, rfl, h⟩
section
variable {X : Cx}
/-- a tuple, not empty, times a number from 1 on -/
def rRepTA (K : PySem.W.Frag) : R2 := fun x y H Q => ∃ l k xs, x = .ref l ∧ y = .int k ∧ SqT K H l xs ∧ 1 ≤ k ∧ k ≤ 1000 ∧ xs.length ≤ 1000 ∧
  ((k = 1 ∨ xs = []) → Q (.ref l) H) ∧ (¬ (k = 1 ∨ xs = []) → ∀ p, H p = none → Q (.ref p) (upd H p (.tup (rept k.toNat xs))))
theorem op_repTA : OpR X (binaryOp .Mult) (rRepTA X.K) := by
  intro pins s σ H x y v u Q I rx ry h
  obtain ⟨l, k, xs, rfl, rfl, hT, h1, h2, hz, q1, q2⟩ := h
  by_cases hc : k = 1 ∨ xs = []
  · cases rx
    obtain ⟨t, rfl⟩ := ry
    obtain ⟨its, r, ⟨⟨cls, dd, data, sl⟩, ho, hcl, n, hd⟩, hs⟩ := I.tuple hT
    simp only at hcl hd
    subst hcl hd
    have ce : (its.toArray.isEmpty || k == 1) = true := by
      rcases hc with rfl | rfl
      · simp
      · cases r
        rfl
    have cb : (decide (k < -(2 ^ 63)) || decide (k ≥ 2 ^ 63)) = false := by
      rw [Bool.or_eq_false_iff]
      exact ⟨decide_eq_false (by omega), decide_eq_false (by omega)⟩
    exact wpAny_binaryOp_repeat_ref (T := "tuple") (U := "int") (by decide) ⟨_, ho, rfl⟩ (fun s' => typeIs_int s' k t) noFill_tuple_mul F.fills_int_mul F.slot_int_rmul repeat_tuple F.slot_int_index.lookup
      (call_meets F.slot_int_rmul (typeIs_int s k t) F.entry_int_rmul (F.args_int_rmul_2 _ _) (int_rmul_tuple k t l its.toArray n dd sl)
        ⟨ho, rfl, ⟨_, ho, rfl⟩, call_meets F.slot_tuple_mul ⟨_, ho, rfl⟩ F.entry_tuple_mul (F.args_tuple_mul_2 _ _) (tuple_mul1 l its.toArray n dd sl k t cb ce) ⟨ho, .ref l, H, I, rfl, q1 hc⟩⟩)
  · exact op_repT pins s σ H _ _ v u Q I rx ry ⟨l, k, xs, rfl, rfl, hT, fun e => hc (.inr e), by have : k ≠ 1 := fun e => hc (.inl e); omega, h2, hz, q2 hc⟩
theorem int_rmul_list_s (a : Int) (t : Tok) (l : Addr) (items : Array Value) (n : Nat) (sl : Array (Option Value)) :
    Meets (Builtin.«int.__rmul__» ⟨[.int a t, .ref l], []⟩) (fun _ R s => s.heap.get? l = some ⟨.type "list", none, .seq items n, sl⟩ ∧ R (.ok (.ret Value.notImplemented)) s) :=
  .of_wp fun prog w A R s h => by
    obtain ⟨hp, g, d, tk, os⟩ := s
    obtain ⟨hl, h⟩ := h
    wp_walk
    exact ⟨_, rfl, h⟩
theorem list_mul_s (l : Addr) (items : Array Value) (n : Nat) (sl : Array (Option Value)) (x : Int) (u : Tok) (hc0 : ¬(!Builtin.List.listFitsIndex x) = true) (hc1 : ¬items.size * x.toNat > (2 ^ 63 - 1) / 8) (hc2 : ¬Builtin.List.listTooLong (items.size * x.toNat) = true) :
    Meets (Builtin.«list.__mul__» ⟨[.ref l, .int x u], []⟩) (fun _ R s => s.heap.get? l = some ⟨.type "list", none, .seq items n, sl⟩ ∧
      R (.ok (.ret (Value.ref s.heap.objs.size))) { s with heap := s.heap.push { cls := Value.type "list", data := Data.seq (List.foldl (fun x1 x2 => x1 ++ x2) #[] (List.replicate (if items.isEmpty = true then 0 else x.toNat) items)) }, toks := s.toks }) :=
  .of_wp fun prog w A R s h => by
    obtain ⟨hp, g, d, tk, os⟩ := s
    obtain ⟨hl, h⟩ := h
    have hsz := PySem.AutoListH.joined_fits hc2
    wp_walk
    refine wpAny_ite_false (decide_eq_false (Nat.not_lt.mpr hsz)) ?_
    wp_walk
    exact ⟨_, rfl, h⟩
/-- a list times a number -/
def rRepR (K : PySem.W.Frag) : R2 := fun x y H Q => ∃ l k xs, x = .ref l ∧ y = .int k ∧ SqL K H l xs ∧ 0 ≤ k ∧ k ≤ 1000 ∧ xs.length ≤ 1000 ∧ ∀ p, H p = none → Q (.ref p) (upd H p (.lst (rept k.toNat xs)))
theorem op_repR : OpR X (binaryOp .Mult) (rRepR X.K) := by
  intro pins s σ H x y v u Q I rx ry h
  obtain ⟨l, k, xs, rfl, rfl, hH, h1, h2, hz, q⟩ := h
  cases rx
  obtain ⟨t, rfl⟩ := ry
  obtain ⟨z, its, n, sl, r, hl, e⟩ := Inv.lstR I hH
  have hm : its.toArray.size * k.toNat ≤ 1000000 := by
    rw [List.size_toArray, ← hl]
    have := Nat.mul_le_mul hz (show k.toNat ≤ 1000 by omega)
    omega
  have b1 : ¬ its.toArray.size * k.toNat > (2 ^ 63 - 1) / 8 := by
    have : (2 ^ 63 - 1) / 8 = 1152921504606846975 := by decide
    omega
  have b2 : ¬ (!Builtin.List.listFitsIndex k) = true := by
    rw [fitsIndex_both (by omega) (by omega)]
    simp
  have b3 : ¬ Builtin.List.listTooLong (its.toArray.size * k.toNat) = true := by
    rw [notLongL (by rw [sizeLine_eq]; omega)]
    simp
  have b4 : List.foldl (fun x1 x2 => x1 ++ x2) #[] (List.replicate (if its.toArray.isEmpty = true then 0 else k.toNat) its.toArray) = (rept k.toNat its).toArray := by
    have f := fold_rep its (if its.toArray.isEmpty = true then 0 else k.toNat) []
    rw [List.nil_append] at f
    rw [show (#[] : Array Value) = ([] : List Value).toArray from rfl, f]
    cases its with
    | nil => simp [rept]
    | cons a r' => simp [rept]
  refine wpAny_binaryOp_repeat_ref (T := "list") (U := "int") (by decide) ⟨_, e, rfl⟩ (fun s' => typeIs_int s' k t) noFill_list_mul F.fills_int_mul F.slot_int_rmul repeat_list F.slot_int_index.lookup
    (call_meets F.slot_int_rmul (typeIs_int s k t) F.entry_int_rmul (F.args_int_rmul_2 _ _) (int_rmul_list_s k t l its.toArray n sl)
      ⟨e, rfl, ⟨_, e, rfl⟩, call_meets F.slot_list_mul ⟨_, e, rfl⟩ F.entry_list_mul (F.args_list_mul_2 _ _) (list_mul_s l its.toArray n sl k t b2 b1 b3) ⟨e, ?_⟩⟩)
  rw [b4]
  have hv : Vals (rept k.toNat xs) (rept k.toNat its) := r.rep k.toNat
  exact ⟨.ref _, _, I.lnew (t' := s.toks) hv (by rw [rept_len, sizeLine_eq]; have := Nat.mul_le_mul (show k.toNat ≤ 1000 by omega) hz; omega), rfl, q _ I.fresh⟩
end
/-! ### the operators -/
def bop : BOp → Operator
  | .add => .Add
  | .sub => .Sub
  | .mul => .Mult
  | .fdiv => .FloorDiv
  | .mod => .Mod
  | .pow => .Pow
theorem rept_rel {K : PySem.W.Frag} {w : World} {g : Gh} {H : Hp} {ds : List D} {vs : List V} (r : RelDs K w g H ds vs) : ∀ n, RelDs K w g H (rept n ds) (rept n vs)
  | 0 => RelDs.nil
  | n + 1 => by
    have := rept_rel r n
    unfold rept at this ⊢
    rw [List.replicate_succ, List.replicate_succ, List.flatten_cons, List.flatten_cons]
    exact r.append this
section
variable {X : Cx} {pins : List (Addr × Obj)} {σ : L2.St} {H : Hp} {s : Shared} {g : Gh} {st : DSt} {Q : VK}
theorem small_of {i : Int} (h : small i = true) : -(2 ^ 64) < i ∧ i < 2 ^ 64 := by
  unfold small at h
  rw [Bool.and_eq_true] at h
  exact ⟨of_decide_eq_true h.1, of_decide_eq_true h.2⟩
theorem mk_app (a b : List Nat) : (⟨a.toArray⟩ : Str) ++ (⟨b.toArray⟩ : Str) = ⟨(a ++ b).toArray⟩ := by
  show (⟨a.toArray ++ b.toArray⟩ : Str) = _
  simp
theorem bin_ok {op : BOp} {a b d : D} {x y : V} {u v : Value} {fr : Bool} (h : binD op a b = some d) (I : Inv X pins σ H s) (S : StOk X.K X.w g H st) (ra : RelT X.K X.w g H a x) (rb : RelT X.K X.w g H b y)
    (rx : RelV x u) (ry : RelV y v) (P : Post X.K X.w fr g H st d Q) : wpAny (model X.prog X.w) X.A (binaryOp (bop op) u v) (EP X pins σ Q) X.xe s := by
  unfold binD at h
  split at h
  · cases h
    exact op_add pins s σ H _ _ u v Q I rx ry ⟨_, _, ra.int, rb.int, P.val S relD_int fun _ => rfl⟩
  · split at h
    · cases h
      rename_i hz
      refine op_add_str pins s σ H _ _ u v Q I rx ry ⟨_, _, ra.str, rb.str, ?_, ?_⟩
      · have := sz_le hz
        simpa [Str.length] using this
      · rw [mk_app]
        exact P.val S relD_str fun _ => rfl
    · cases h
  · split at h
    · cases h
      rename_i a b hz
      obtain ⟨l, xs, hx, hX, r1⟩ := ra.tup
      obtain ⟨l2, ys, hy, hY, r2⟩ := rb.tup
      refine op_catA pins s σ H _ _ u v Q I rx ry ⟨l, l2, xs, ys, hx, hy, hX, hY, by rw [← r1.length, ← r2.length]; exact sz_le hz, fun e => ?_, fun _ e => ?_, fun _ _ => ?_⟩
      · subst e
        have : a = [] := List.eq_nil_of_length_eq_zero r1.length
        subst this
        rw [List.nil_append] at P
        refine P.val S ?_ fun _ => rfl
        rw [← hy]
        exact rb
      · subst e
        have : b = [] := List.eq_nil_of_length_eq_zero r2.length
        subst this
        rw [List.append_nil] at P
        refine P.val S ?_ fun _ => rfl
        rw [← hx]
        exact ra
      · exact P.tup S (r1.append r2)
    · cases h
  · split at h
    · cases h
      rename_i hz
      obtain ⟨l, xs, hx, hX, r1⟩ := ra.lst
      obtain ⟨l2, ys, hy, hY, r2⟩ := rb.lst
      exact op_catR pins s σ H _ _ u v Q I rx ry ⟨l, l2, xs, ys, hx, hy, hX, hY, by rw [← r1.length, ← r2.length]; exact sz_le hz, P.lst S (r1.append r2)⟩
    · cases h
  · cases h
    exact op_sub pins s σ H _ _ u v Q I rx ry ⟨_, _, ra.int, rb.int, P.val S relD_int fun _ => rfl⟩
  · split at h
    · cases h
      rename_i hz
      rw [Bool.or_eq_true] at hz
      exact op_mul pins s σ H _ _ u v Q I rx ry ⟨_, _, ra.int, rb.int, hz.elim (fun q => .inl (small_of q)) (fun q => .inr (small_of q)), P.val S relD_int fun _ => rfl⟩
    · cases h
  · split at h
    · cases h
      rename_i hz
      simp only [Bool.and_eq_true, decide_eq_true_eq, sz] at hz
      exact op_repS pins s σ H _ _ u v Q I rx ry ⟨_, _, ra.str, rb.int, hz.1.1, hz.1.2, hz.2, P.val S relD_str fun _ => rfl⟩
    · cases h
  · split at h
    · cases h
      rename_i a j hz
      simp only [Bool.and_eq_true, decide_eq_true_eq] at hz
      obtain ⟨l, xs, hx, hX, r1⟩ := ra.tup
      refine op_repTA pins s σ H _ _ u v Q I rx ry ⟨l, j, xs, hx, rb.int, hX, hz.1.1, hz.1.2, by rw [← r1.length]; exact hz.2, fun e => ?_, fun e => P.tup S (rept_rel r1 _)⟩
      refine P.val S ?_ fun _ => rfl
      have e2 : rept j.toNat a = a := by
        rcases e with rfl | rfl
        · exact rept_one a
        · have : a = [] := List.eq_nil_of_length_eq_zero r1.length
          subst this
          exact List.eq_nil_of_length_eq_zero (by rw [rept_len]; rfl)
      rw [e2, ← hx]
      exact ra
    · cases h
  · split at h
    · cases h
      rename_i a j hz
      simp only [Bool.and_eq_true, decide_eq_true_eq] at hz
      obtain ⟨l, xs, hx, hX, r1⟩ := ra.lst
      exact op_repR pins s σ H _ _ u v Q I rx ry ⟨l, j, xs, hx, rb.int, hX, hz.1.1, hz.1.2, by rw [← r1.length]; exact hz.2, P.lst S (rept_rel r1 _)⟩
    · cases h
  · split at h
    · cases h
      rename_i hz
      simp only [Bool.and_eq_true, decide_eq_true_eq] at hz
      exact op_fdivN pins s σ H _ _ u v Q I rx ry ⟨_, _, ra.int, rb.int, hz, P.val S relD_int fun _ => rfl⟩
    · cases h
  · split at h
    · cases h
      rename_i hz
      simp only [decide_eq_true_eq] at hz
      exact op_modN pins s σ H _ _ u v Q I rx ry ⟨_, _, ra.int, rb.int, hz, P.val S relD_int fun _ => rfl⟩
    · cases h
  · split at h
    · cases h
      rename_i hz
      simp only [Bool.and_eq_true, decide_eq_true_eq] at hz
      exact op_pow pins s σ H _ _ u v Q I rx ry ⟨_, _, ra.int, rb.int, ⟨hz.1.1, hz.1.2, hz.2⟩, P.val S relD_int fun _ => rfl⟩
    · cases h
  · cases h
end
end Py

set_option Elab.async false
set_option linter.all false
set_option maxRecDepth 100000
set_option autoImplicit false
set_option maxHeartbeats 1000000
namespace Py
open PySem PySem.Spec L2
/-! ### keys carried by value, exactly -/
def exactB : Value → Bool
  | .bool _ => false
  | _ => true
def xKind (P : Program) (w : World) : PySem.KeyKind P w Leaf where
  is := fun k v => Leaf.isOf k v && exactB v
  hash := (leafKind P w).hash
  inj := fun v a b ha hb => (leafKind P w).inj v a b (by rw [Bool.and_eq_true] at ha; exact ha.1) (by rw [Bool.and_eq_true] at hb; exact hb.1)
  byValue := fun k v h => (leafKind P w).byValue k v (by rw [Bool.and_eq_true] at h; exact h.1)
  pyHash := fun hv h => (leafKind P w).pyHash (by rw [Bool.and_eq_true] at hv; exact hv.1) h
  eqBool := fun hu hv h => (leafKind P w).eqBool (by rw [Bool.and_eq_true] at hu; exact hu.1) (by rw [Bool.and_eq_true] at hv; exact hv.1) h
  «strs» := fun k x t v h => by
    rw [Bool.and_eq_true] at h
    have := (leafKind P w).strs k x t v h.1
    show (Leaf.isOf k v && exactB v) = v.isStr x
    rw [show Leaf.isOf k v = v.isStr x from this]
    cases v <;> simp [exactB, Value.isStr]
def leafOf : D → Leaf
  | .int i => .num i
  | .str cs => .text ⟨cs.toArray⟩
  | _ => .none
theorem leaf_key {k : D} {n : NestedKey} (h : nkey k = some n) (t : isTupD k = false) : n = (leafOf k).key := by
  cases k <;> simp [nkey, isTupD] at h t <;> (subst h; rfl)
theorem x_is {P : Program} {w : World} {K : PySem.W.Frag} {g : Gh} {H : Hp} : ∀ {k : D} {n : NestedKey} {v : V} {u : Value}, nkey k = some n → isTupD k = false → RelD K w g H k v → RelV v u → (xKind P w).is (leafOf k) u = true
  | .non, n, v, u, h, t, r, ru => by
    rw [RelD] at r; subst r; cases (show u = Value.none from ru); rfl
  | .int i, n, v, u, h, t, r, ru => by
    rw [RelD] at r; subst r; obtain ⟨t, rfl⟩ := ru
    show (decide (i = i) && true) = true
    simp
  | .str cs, n, v, u, h, t, r, ru => by
    rw [RelD] at r; subst r; obtain ⟨t, rfl⟩ := ru
    show (Value.isStrOf (⟨cs.toArray⟩ : Str) (.str ⟨cs.toArray⟩ t) && true) = true
    simp [Value.isStrOf]
  | .tup _, n, v, u, h, t, r, ru => by simp [isTupD] at t
  | .bl _, n, v, u, h, t, r, ru => by simp [nkey] at h
  | .lst _, n, v, u, h, t, r, ru => by simp [nkey] at h
  | .dct _, n, v, u, h, t, r, ru => by simp [nkey] at h
  | .ref _, n, v, u, h, t, r, ru => by simp [nkey] at h
  | .fn _, n, v, u, h, t, r, ru => by simp [nkey] at h
theorem x_rel {P : Program} {w : World} {K : PySem.W.Frag} {g : Gh} {H : Hp} : ∀ {k : D} {n : NestedKey} {u : Value}, nkey k = some n → isTupD k = false → (xKind P w).is (leafOf k) u = true → ∃ v, RelV v u ∧ RelD K w g H k v
  | .non, n, u, h, t, hi => by
    have hi : (Leaf.isOf .none u && exactB u) = true := hi
    rw [Bool.and_eq_true] at hi
    have h1 : Leaf.isOf .none u = true := hi.1
    cases u <;> simp [Leaf.isOf] at h1
    exact ⟨.non, rfl, by rw [RelD]⟩
  | .int i, n, u, h, t, hi => by
    have hi : (Leaf.isOf (.num i) u && exactB u) = true := hi
    rw [Bool.and_eq_true] at hi
    have h1 : Leaf.isOf (.num i) u = true := hi.1
    cases u <;> simp [Leaf.isOf] at h1
    · have h2 := hi.2
      simp [exactB] at h2
    · subst h1
      exact ⟨.int _, ⟨_, rfl⟩, by rw [RelD]⟩
  | .str cs, n, u, h, t, hi => by
    have hi : (Leaf.isOf (.text ⟨cs.toArray⟩) u && exactB u) = true := hi
    rw [Bool.and_eq_true] at hi
    have h1 : Leaf.isOf (.text ⟨cs.toArray⟩) u = true := hi.1
    obtain ⟨t, rfl⟩ := Value.isStrOf_shape (show Value.isStrOf _ u = true from h1)
    exact ⟨.str _, ⟨t, rfl⟩, by rw [RelD]⟩
  | .tup _, n, u, h, t, hi => by simp [isTupD] at t
  | .bl _, n, u, h, t, hi => by simp [nkey] at h
  | .lst _, n, u, h, t, hi => by simp [nkey] at h
  | .dct _, n, u, h, t, hi => by simp [nkey] at h
  | .ref _, n, u, h, t, hi => by simp [nkey] at h
  | .fn _, n, u, h, t, hi => by simp [nkey] at h
/-! ### equality of keys -/
mutual
theorem nkey_eqv : ∀ (a b : D) (m n : NestedKey), nkey a = some m → nkey b = some n → D.eqv a b = decide (m = n)
  | .non, b, m, n, ha, hb => by
    rw [nkey] at ha
    cases ha
    cases b <;> simp [nkey] at hb <;> (try subst hb) <;> simp [D.eqv]
    obtain ⟨ks, _, rfl⟩ := hb
    simp
  | .int i, b, m, n, ha, hb => by
    rw [nkey] at ha
    cases ha
    cases b <;> simp [nkey] at hb <;> (try subst hb) <;> simp [D.eqv]
    · rw [Bool.eq_iff_iff]; simp
    · obtain ⟨ks, _, rfl⟩ := hb
      simp
  | .str x, b, m, n, ha, hb => by
    rw [nkey] at ha
    cases ha
    cases b <;> simp [nkey] at hb <;> (try subst hb) <;> simp [D.eqv]
    · rw [Bool.eq_iff_iff]; simp
    · obtain ⟨ks, _, rfl⟩ := hb
      simp
  | .tup xs, b, m, n, ha, hb => by
    rw [nkey, Option.map_eq_some_iff] at ha
    obtain ⟨ks, h1, rfl⟩ := ha
    cases b <;> simp [nkey] at hb <;> (try subst hb) <;> (try simp [D.eqv])
    rename_i ys
    obtain ⟨js, h2, rfl⟩ := hb
    rw [nkeys_eqv xs ys ks js h1 h2]
    simp
  | .bl _, b, m, n, ha, hb => by simp [nkey] at ha
  | .lst _, b, m, n, ha, hb => by simp [nkey] at ha
  | .dct _, b, m, n, ha, hb => by simp [nkey] at ha
  | .ref _, b, m, n, ha, hb => by simp [nkey] at ha
  | .fn _, b, m, n, ha, hb => by simp [nkey] at ha
theorem nkeys_eqv : ∀ (a b : List D) (m n : List NestedKey), nkeys a = some m → nkeys b = some n → D.eqvs a b = decide (m = n)
  | [], b, m, n, ha, hb => by
    rw [nkeys] at ha
    cases ha
    cases b with
    | nil => rw [nkeys] at hb; cases hb; simp [D.eqvs]
    | cons y ys =>
      rw [nkeys] at hb
      obtain ⟨k, _, hb⟩ := Option.bind_eq_some_iff.mp hb
      obtain ⟨ks, _, hb⟩ := Option.bind_eq_some_iff.mp hb
      cases hb
      simp [D.eqvs]
  | x :: xs, b, m, n, ha, hb => by
    rw [nkeys] at ha
    obtain ⟨k, h1, ha⟩ := Option.bind_eq_some_iff.mp ha
    obtain ⟨ks, h2, ha⟩ := Option.bind_eq_some_iff.mp ha
    cases ha
    cases b with
    | nil => rw [nkeys] at hb; cases hb; simp [D.eqvs]
    | cons y ys =>
      rw [nkeys] at hb
      obtain ⟨j, h3, hb⟩ := Option.bind_eq_some_iff.mp hb
      obtain ⟨js, h4, hb⟩ := Option.bind_eq_some_iff.mp hb
      cases hb
      rw [D.eqvs, nkey_eqv x y k j h1 h3, nkeys_eqv xs ys ks js h2 h4, Bool.eq_iff_iff]
      simp
end
/-! ### keys in the heap -/
section
variable {X : Cx} {pins : List (Addr × Obj)} {σ : L2.St} {H : Hp} {s : Shared} {g : Gh}
theorem Inv.sqT (I : Inv X pins σ H s) {a : Addr} {vs : List V} (h : SqT X.K H a vs) : ∃ (its : List Value) (o : Obj) (n : Nat), Vals vs its ∧ s.heap.get? a = some o ∧ o.cls = .type "tuple" ∧ o.data = .seq its.toArray n := by
  obtain ⟨its, hv, ⟨o, h1, h2, n, h3⟩, _⟩ := I.tuple h
  exact ⟨its, o, n, hv, h1, h2, h3⟩
mutual
theorem nested_of (I : Inv X pins σ H s) : ∀ (m : Nat) (d : D) (n : NestedKey) (v : V) (u : Value), D.ok m d = true → nkey d = some n → RelD X.K X.w g H d v → RelV v u → NestedIs s.heap n u ∧ n.depth ≤ m
  | m, .non, n, v, u, ok, h, r, ru => by
    rw [nkey] at h; cases h
    rw [RelD] at r; subst r
    cases (show u = Value.none from ru)
    exact ⟨.none, Nat.zero_le _⟩
  | m, .int i, n, v, u, ok, h, r, ru => by
    rw [nkey] at h; cases h
    rw [RelD] at r; subst r
    obtain ⟨t, rfl⟩ := ru
    exact ⟨.int _ _, Nat.zero_le _⟩
  | m, .str x, n, v, u, ok, h, r, ru => by
    rw [nkey] at h; cases h
    rw [RelD] at r; subst r
    obtain ⟨t, rfl⟩ := ru
    exact ⟨.text _ _, Nat.zero_le _⟩
  | m, .tup xs, n, v, u, ok, h, r, ru => by
    rw [nkey, Option.map_eq_some_iff] at h
    obtain ⟨ks, h1, rfl⟩ := h
    rw [D.ok, Bool.and_eq_true, decide_eq_true_eq] at ok
    rw [RelD] at r
    obtain ⟨a, vs, rfl, ha, hr⟩ := r
    cases (show u = Value.ref a from ru)
    obtain ⟨its, o, k, hv, q1, q2, q3⟩ := Inv.sqT I (show SqT X.K H a vs from ha.elim (fun q => .inl q.1) .inr)
    obtain ⟨p1, p2⟩ := nesteds_of I (m - 1) xs ks vs its ok.2 h1 hr hv
    refine ⟨.tup q1 q2 q3 (by simpa using p1), ?_⟩
    rw [NestedKey.depth]
    omega
  | m, .bl _, n, v, u, ok, h, r, ru => by simp [nkey] at h
  | m, .lst _, n, v, u, ok, h, r, ru => by simp [nkey] at h
  | m, .dct _, n, v, u, ok, h, r, ru => by simp [nkey] at h
  | m, .ref _, n, v, u, ok, h, r, ru => by simp [nkey] at h
  | m, .fn _, n, v, u, ok, h, r, ru => by simp [nkey] at h
theorem nesteds_of (I : Inv X pins σ H s) : ∀ (m : Nat) (ds : List D) (ks : List NestedKey) (vs : List V) (us : List Value), D.oks m ds = true → nkeys ds = some ks → RelDs X.K X.w g H ds vs → Vals vs us → NestedAll s.heap ks us ∧ NestedKey.depthAll ks ≤ m
  | m, [], ks, vs, us, ok, h, r, ru => by
    rw [nkeys] at h; cases h
    rw [RelDs] at r; subst r
    cases ru
    exact ⟨.nil, Nat.zero_le _⟩
  | m, x :: xs, ks, vs, us, ok, h, r, ru => by
    rw [nkeys] at h
    obtain ⟨k, h1, h⟩ := Option.bind_eq_some_iff.mp h
    obtain ⟨ks', h2, h⟩ := Option.bind_eq_some_iff.mp h
    cases h
    rw [D.oks, Bool.and_eq_true] at ok
    rw [RelDs] at r
    obtain ⟨v, r', rfl, r1, r2⟩ := r
    cases ru with
    | cons u1 u2 =>
      obtain ⟨p1, p2⟩ := nested_of I m x k v _ ok.1 h1 r1 u1
      obtain ⟨p3, p4⟩ := nesteds_of I m xs ks' r' _ ok.2 h2 r2 u2
      refine ⟨.cons p1 p3, ?_⟩
      rw [NestedKey.depthAll]
      exact Nat.max_le.mpr ⟨p2, p4⟩
end
end
end Py

set_option Elab.async false
set_option linter.all false
set_option maxRecDepth 100000
set_option autoImplicit false
set_option maxHeartbeats 1000000
namespace Py
open PySem PySem.Spec L2
def keyW (a : D) : Prop := (∃ n, nkey a = some n) ∧ D.ok 8 a = true
theorem keyOk_w {a : D} (h : keyOk a = true) : keyW a := by
  unfold keyOk at h
  rw [Bool.and_eq_true, Option.isSome_iff_exists] at h
  exact ⟨h.2, h.1⟩
theorem fitK_of {x : D} {kvs : List (D × D)} (h : fitK x kvs = true) : keyW x ∧ ∀ p ∈ kvs, isTupD p.1 = isTupD x := by
  unfold fitK at h
  rw [Bool.and_eq_true] at h
  exact ⟨keyOk_w h.1, fun p hp => eq_of_beq (List.all_eq_true.mp h.2 p hp)⟩
theorem leaf_inj {a b : D} {m n : NestedKey} (ha : nkey a = some m) (hb : nkey b = some n) (ta : isTupD a = false) (tb : isTupD b = false) : decide (leafOf a = leafOf b) = decide (m = n) := by
  refine decide_eq_decide.mpr ⟨fun h => ?_, fun h => ?_⟩
  · rw [leaf_key ha ta, leaf_key hb tb, h]
  · have := leaf_key ha ta
    have := leaf_key hb tb
    exact Leaf.key_inj (by rw [← leaf_key ha ta, ← leaf_key hb tb, h])
section
variable {P : Program} {K : PySem.W.Frag} {w : World} {g : Gh} {H : Hp}
/-- values that are data -/
def VR (K : PySem.W.Frag) (w : World) (g : Gh) (H : Hp) (d : D) (u : Value) : Prop := ∃ v, RelV v u ∧ RelD K w g H d v
def LPr (K : PySem.W.Frag) (w : World) (g : Gh) (H : Hp) (p : D × D) (q : Leaf × Value) : Prop := keyW p.1 ∧ isTupD p.1 = false ∧ q.1 = leafOf p.1 ∧ VR K w g H p.2 q.2
def TPr (K : PySem.W.Frag) (w : World) (g : Gh) (H : Hp) (p : D × D) (x : NestedKey × Addr × Value) : Prop := nkey p.1 = some x.1 ∧ D.ok 8 p.1 = true ∧ isTupD p.1 = true ∧ RelD K w g H p.1 (.ref x.2.1) ∧ VR K w g H p.2 x.2.2
abbrev LP (K : PySem.W.Frag) (w : World) (g : Gh) (H : Hp) := Paired (LPr K w g H)
abbrev TP (K : PySem.W.Frag) (w : World) (g : Gh) (H : Hp) := Paired (TPr K w g H)
theorem relKs_cons {p : D × D} {r : List (D × D)} {e : DictEntry} {es : List DictEntry} (h1 : RelP K w g H p e) (h2 : RelKs K w g H r es) : RelKs K w g H (p :: r) (e :: es) := by
  rw [RelKs]
  exact ⟨e, es, rfl, h1, h2⟩
theorem relKs_nil : RelKs K w g H [] [] := by rw [RelKs]
theorem relKs_len : ∀ {kvs : List (D × D)} {es : List DictEntry}, RelKs K w g H kvs es → kvs.length = es.length
  | [], es, h => by rw [RelKs] at h; subst h; rfl
  | p :: r, es, h => by
    rw [RelKs] at h
    obtain ⟨e, es', rfl, _, h2⟩ := h
    simp [relKs_len h2]
theorem lp_of : ∀ {kvs : List (D × D)} {es : List DictEntry}, RelKs K w g H kvs es → (∀ p ∈ kvs, isTupD p.1 = false) → ∃ ps, LP K w g H kvs ps ∧ (∀ e ∈ es, ∃ k, (xKind P w).is k e.key = true ∧ e.hash = (xKind P w).hash k) ∧ PySem.Pairs (xKind P w) es ps
  | [], es, h, t => by
    rw [RelKs] at h
    subst h
    exact ⟨[], .nil, fun e he => (by cases he), .nil⟩
  | (a, d) :: r, es, h, t => by
    rw [RelKs] at h
    obtain ⟨e, es', rfl, h1, h2⟩ := h
    obtain ⟨ps, q1, q2, q3⟩ := lp_of h2 fun p hp => t p (by simp [hp])
    rw [RelP] at h1
    obtain ⟨⟨n, n1, n2, n3⟩, ⟨v, v1, v2⟩, z, z1, z2⟩ := h1
    have ta : isTupD a = false := t (a, d) (by simp)
    have hi := x_is (P := P) n1 ta v2 v1
    refine ⟨(leafOf a, e.val) :: ps, .cons ⟨⟨⟨n, n1⟩, n2⟩, ta, rfl, z, z1, z2⟩ q1, fun e' he => ?_, .cons hi rfl q3⟩
    rcases List.mem_cons.mp he with rfl | he
    · refine ⟨leafOf a, hi, ?_⟩
      rw [n3, leaf_key n1 ta]
      rfl
    · exact q2 e' he
theorem lp_back : ∀ {kvs : List (D × D)} {es : List DictEntry} {ps : List (Leaf × Value)}, LP K w g H kvs ps → (∀ e ∈ es, ∃ k, (xKind P w).is k e.key = true ∧ e.hash = (xKind P w).hash k) → PySem.Pairs (xKind P w) es ps → RelKs K w g H kvs es
  | [], es, ps, h, hk, hp => by
    cases h
    cases hp
    exact relKs_nil
  | (a, d) :: r, es, ps, h, hk, hp => by
    cases h with
    | cons h1 h2 =>
      cases hp with
      | @cons e kv es kvs p1 p2 p3 =>
        obtain ⟨⟨⟨n, n1⟩, n2⟩, ta, e1, z, z1, z2⟩ := h1
        refine relKs_cons ?_ (lp_back h2 (fun e' he => hk e' (by simp [he])) p3)
        rw [RelP]
        have hi : (xKind P w).is (leafOf a) e.key = true := by rw [← e1]; exact p1
        obtain ⟨k, k1, k2⟩ := hk e (by simp)
        have := (xKind P w).inj _ _ _ k1 hi
        subst this
        exact ⟨⟨n, n1, n2, by rw [k2, leaf_key n1 ta]; rfl⟩, x_rel n1 ta hi, z, by rw [p2]; exact z1, z2⟩
theorem tp_of : ∀ {kvs : List (D × D)} {es : List DictEntry}, RelKs K w g H kvs es → (∀ p ∈ kvs, isTupD p.1 = true) → ∃ xs, TP K w g H kvs xs ∧ es = xs.map (entryOfKey (nestedKind P w))
  | [], es, h, t => by
    rw [RelKs] at h
    subst h
    exact ⟨[], .nil, rfl⟩
  | (a, d) :: r, es, h, t => by
    rw [RelKs] at h
    obtain ⟨e, es', rfl, h1, h2⟩ := h
    obtain ⟨xs, q1, rfl⟩ := tp_of h2 fun p hp => t p (by simp [hp])
    rw [RelP] at h1
    obtain ⟨⟨n, n1, n2, n3⟩, ⟨v, v1, v2⟩, z, z1, z2⟩ := h1
    have ta : isTupD a = true := t (a, d) (by simp)
    obtain ⟨b, hb, rfl⟩ : ∃ b, e.key = .ref b ∧ v = .ref b := by
      cases a <;> simp [isTupD] at ta
      have v3 := v2
      rw [RelD] at v3
      obtain ⟨b, vs, rfl, _⟩ := v3
      exact ⟨b, v1, rfl⟩
    refine ⟨(n, b, e.val) :: xs, .cons ⟨n1, n2, ta, v2, z, z1, z2⟩ q1, ?_⟩
    rw [List.map_cons]
    congr 1
    cases e
    simp only at hb n3
    subst hb n3
    rfl
theorem tp_back : ∀ {kvs : List (D × D)} {xs : List (NestedKey × Addr × Value)}, TP K w g H kvs xs → RelKs K w g H kvs (xs.map (entryOfKey (nestedKind P w)))
  | [], xs, h => by
    cases h
    exact relKs_nil
  | (a, d) :: r, xs, h => by
    cases h with
    | cons h1 h2 =>
      obtain ⟨n1, n2, ta, hr, z, z1, z2⟩ := h1
      refine relKs_cons ?_ (tp_back h2)
      rw [RelP]
      exact ⟨⟨_, n1, n2, rfl⟩, ⟨_, (show RelV (.ref _) (Value.ref _) from rfl), hr⟩, z, z1, z2⟩
/-! ### look-ups agree -/
theorem lp_find {k : D} (hk : keyW k) (tk : isTupD k = false) : ∀ {kvs : List (D × D)} {ps : List (Leaf × Value)}, LP K w g H kvs ps → (∀ d, findK k kvs = some d → ∃ u, valueAt ps (leafOf k) = some u ∧ VR K w g H d u) ∧ (findK k kvs = none → valueAt ps (leafOf k) = none) ∧ hasK k kvs = (valueAt ps (leafOf k)).isSome ∧ hasK k kvs = (ps.any fun kv => decide (kv.1 = leafOf k))
  | [], ps, h => by
    cases h
    exact ⟨fun d q => (by cases q), fun _ => rfl, rfl, rfl⟩
  | (a, d) :: r, ps, h => by
    cases h with
    | @cons x q xs qs h1 h2 =>
      obtain ⟨⟨⟨m, m1⟩, m2⟩, ta, e1, hv⟩ := h1
      obtain ⟨⟨n, n1⟩, n2⟩ := hk
      obtain ⟨i1, i2, i3, i4⟩ := lp_find ⟨⟨n, n1⟩, n2⟩ tk h2
      have e : D.eqv a k = decide (q.1 = leafOf k) := by
        rw [nkey_eqv a k m n m1 n1, e1, leaf_inj m1 n1 ta tk]
      unfold findK hasK valueAt at *
      simp only [List.find?_cons, List.any_cons, e]
      by_cases hq : q.1 = leafOf k
      · simp only [decide_eq_true hq, Bool.true_or]
        exact ⟨fun d' q' => (by cases q'; exact ⟨_, rfl, hv⟩), fun q' => (by cases q'), rfl, trivial⟩
      · simp only [decide_eq_false hq, Bool.false_or]
        exact ⟨i1, i2, i3, i4⟩
theorem tp_find {k : D} {n : NestedKey} (hk : nkey k = some n) : ∀ {kvs : List (D × D)} {xs : List (NestedKey × Addr × Value)}, TP K w g H kvs xs → (∀ d, findK k kvs = some d → ∃ p, atKey xs n = some p ∧ VR K w g H d p.2) ∧ (findK k kvs = none → atKey xs n = none) ∧ hasK k kvs = (atKey xs n).isSome
  | [], xs, h => by
    cases h
    exact ⟨fun d q => (by cases q), fun _ => rfl, rfl⟩
  | (a, d) :: r, ps, h => by
    cases h with
    | @cons x q xs qs h1 h2 =>
      obtain ⟨m1, m2, ta, hr, hv⟩ := h1
      obtain ⟨i1, i2, i3⟩ := tp_find hk h2
      have e : D.eqv a k = decide (q.1 = n) := nkey_eqv a k _ n m1 hk
      unfold findK hasK atKey at *
      simp only [List.find?_cons, List.any_cons, e]
      by_cases hq : q.1 = n
      · simp only [decide_eq_true hq, Bool.true_or]
        exact ⟨fun d' q' => (by cases q'; exact ⟨_, rfl, hv⟩), fun q' => (by cases q'), rfl⟩
      · simp only [decide_eq_false hq, Bool.false_or]
        exact ⟨i1, i2, i3⟩
theorem paired_map {α β α' β' : Type} {R : α → β → Prop} {R' : α' → β' → Prop} (f : α → α') (f2 : β → β') (h : ∀ a b, R a b → R' (f a) (f2 b)) : ∀ {l : List α} {m : List β}, Paired R l m → Paired R' (l.map f) (m.map f2)
  | _, _, .nil => .nil
  | _, _, .cons r t => .cons (h _ _ r) (paired_map f f2 h t)
theorem paired_app {α β : Type} {R : α → β → Prop} : ∀ {l l' : List α} {m m' : List β}, Paired R l m → Paired R l' m' → Paired R (l ++ l') (m ++ m')
  | _, _, _, _, .nil, h => h
  | _, _, _, _, .cons r t, h => .cons r (paired_app t h)
theorem lp_put {k d : D} {u : Value} (hk : keyW k) (tk : isTupD k = false) (hv : VR K w g H d u) {kvs : List (D × D)} {ps : List (Leaf × Value)} (h : LP K w g H kvs ps) : LP K w g H (putKD kvs k d) (stored ps (leafOf k) u) := by
  obtain ⟨_, _, _, i4⟩ := lp_find hk tk h
  obtain ⟨⟨n, n1⟩, n2⟩ := hk
  unfold putKD stored
  rw [i4]
  split
  · rename_i c
    refine paired_map _ _ (fun p q r => ?_) h
    obtain ⟨⟨⟨m, m1⟩, m2⟩, ta, e1, hv'⟩ := r
    have e : D.eqv p.1 k = decide (q.1 = leafOf k) := by
      rw [nkey_eqv p.1 k m n m1 n1, e1, leaf_inj m1 n1 ta tk]
    rw [e]
    by_cases hq : q.1 = leafOf k
    · rw [decide_eq_true hq, if_pos rfl, if_pos hq]
      exact ⟨⟨⟨m, m1⟩, m2⟩, ta, e1, hv⟩
    · rw [decide_eq_false hq, if_neg (by simp), if_neg hq]
      exact ⟨⟨⟨m, m1⟩, m2⟩, ta, e1, hv'⟩
  · rename_i c
    exact paired_app h (.cons ⟨⟨⟨n, n1⟩, n2⟩, tk, rfl, hv⟩ .nil)
theorem tp_put {k d : D} {n : NestedKey} {b : Addr} {u : Value} (hk : nkey k = some n) (ok : D.ok 8 k = true) (tk : isTupD k = true) (hr : RelD K w g H k (.ref b)) (hv : VR K w g H d u) {kvs : List (D × D)} {xs : List (NestedKey × Addr × Value)} (h : TP K w g H kvs xs) :
    TP K w g H (putKD kvs k d) (storedH xs n b u) := by
  obtain ⟨_, _, i3⟩ := tp_find hk h
  unfold putKD storedH
  rw [i3]
  split
  · rename_i c
    refine paired_map _ _ (fun p q r => ?_) h
    obtain ⟨m1, m2, ta, hr', hv'⟩ := r
    have e : D.eqv p.1 k = decide (q.1 = n) := nkey_eqv p.1 k _ n m1 hk
    unfold putAt
    rw [e]
    by_cases hq : q.1 = n
    · rw [decide_eq_true hq, if_pos rfl, if_pos hq]
      exact ⟨m1, m2, ta, hr', hv⟩
    · rw [decide_eq_false hq, if_neg (by simp), if_neg hq]
      exact ⟨m1, m2, ta, hr', hv'⟩
  · exact paired_app h (.cons ⟨hk, ok, tk, hr, hv⟩ .nil)
/-! ### no key twice -/
theorem hasK_mem {k : D} {kvs : List (D × D)} : hasK k kvs = false ↔ ∀ p ∈ kvs, D.eqv p.1 k = false := by
  unfold hasK
  rw [List.any_eq_false]
  simp
theorem lp_nodup : ∀ {kvs : List (D × D)} {ps : List (Leaf × Value)}, LP K w g H kvs ps → distK kvs = true → (ps.map (·.1)).Nodup
  | [], ps, h, hd => by cases h; exact .nil
  | (a, d) :: r, ps, h, hd => by
    cases h with
    | @cons x q xs qs h1 h2 =>
      unfold distK at hd
      rw [Bool.and_eq_true, Bool.and_eq_true, Bool.not_eq_true'] at hd
      obtain ⟨hk, ta, e1, hv⟩ := h1
      rw [List.map_cons, List.nodup_cons]
      refine ⟨fun hm => ?_, lp_nodup h2 hd.2⟩
      obtain ⟨_, _, _, i4⟩ := lp_find hk ta h2
      rw [hd.1.2] at i4
      obtain ⟨z, z1, z2⟩ := List.mem_map.mp hm
      have := List.any_eq_false.mp i4.symm z z1
      simp [z2, e1] at this
theorem tp_nodup : ∀ {kvs : List (D × D)} {ps : List (NestedKey × Addr × Value)}, TP K w g H kvs ps → distK kvs = true → (ps.map (·.1)).Nodup
  | [], ps, h, hd => by cases h; exact .nil
  | (a, d) :: r, ps, h, hd => by
    cases h with
    | @cons x q xs qs h1 h2 =>
      unfold distK at hd
      rw [Bool.and_eq_true, Bool.and_eq_true, Bool.not_eq_true'] at hd
      obtain ⟨m1, m2, ta, hr, hv⟩ := h1
      rw [List.map_cons, List.nodup_cons]
      refine ⟨fun hm => ?_, tp_nodup h2 hd.2⟩
      obtain ⟨_, _, i3⟩ := tp_find m1 h2
      rw [hd.1.2] at i3
      obtain ⟨z, z1, z2⟩ := List.mem_map.mp hm
      have i3 := i3.symm
      unfold atKey at i3
      rw [Option.isSome_map] at i3
      have i4 : (List.find? (fun x => decide (x.1 = q.1)) qs).isSome = true := List.find?_isSome.mpr ⟨z, z1, by simp [z2]⟩
      rw [i3] at i4
      cases i4
theorem eqv_keyW {a b : D} (ha : keyW a) (hb : keyW b) (h : D.eqv a b = true) : ∃ n, nkey a = some n ∧ nkey b = some n := by
  obtain ⟨⟨m, m1⟩, _⟩ := ha
  obtain ⟨⟨n, n1⟩, _⟩ := hb
  rw [nkey_eqv a b m n m1 n1, decide_eq_true_eq] at h
  exact ⟨m, m1, h ▸ n1⟩
theorem keyOk_of {a : D} (h : keyW a) : keyOk a = true := by
  obtain ⟨⟨m, m1⟩, h⟩ := h
  unfold keyOk
  rw [h, m1]
  rfl
theorem distK_iff : ∀ {kvs : List (D × D)}, distK kvs = true ↔ kvs.Pairwise (fun p q => isTupD q.1 = isTupD p.1 ∧ D.eqv q.1 p.1 = false) ∧ ∀ p ∈ kvs, keyW p.1
  | [] => by simp [distK]
  | p :: r => by
    unfold distK
    rw [Bool.and_eq_true, Bool.and_eq_true, Bool.not_eq_true', distK_iff, List.pairwise_cons, hasK_mem]
    constructor
    · rintro ⟨⟨h1, h2⟩, h3, h4⟩
      obtain ⟨q1, q2⟩ := fitK_of h1
      exact ⟨⟨fun a ha => ⟨q2 a ha, h2 a ha⟩, h3⟩, fun a ha => (List.mem_cons.mp ha).elim (fun e => e ▸ q1) (h4 a)⟩
    · rintro ⟨⟨h1, h2⟩, h3⟩
      refine ⟨⟨?_, fun a ha => (h1 a ha).2⟩, h2, fun a ha => h3 a (by simp [ha])⟩
      unfold fitK
      rw [keyOk_of (h3 p (by simp)), Bool.true_and, List.all_eq_true]
      exact fun a ha => by simp [(h1 a ha).1]
theorem distK_put {kvs : List (D × D)} {k d : D} (h : distK kvs = true) (hf : fitK k kvs = true) : distK (putKD kvs k d) = true := by
  obtain ⟨q1, q2⟩ := fitK_of hf
  rw [distK_iff] at h ⊢
  unfold putKD
  split
  · constructor
    · rw [List.pairwise_map]
      refine h.1.imp fun {a b} hab => ?_
      have e : ∀ p : D × D, (if D.eqv p.1 k = true then (p.1, d) else p).1 = p.1 := fun p => by split <;> rfl
      rw [e, e]
      exact hab
    · intro p hp
      obtain ⟨z, z1, rfl⟩ := List.mem_map.mp hp
      have e : ∀ p : D × D, (if D.eqv p.1 k = true then (p.1, d) else p).1 = p.1 := fun p => by split <;> rfl
      rw [e]
      exact h.2 z z1
  · rename_i c
    rw [Bool.not_eq_true, hasK_mem] at c
    constructor
    · rw [List.pairwise_append]
      refine ⟨h.1, List.pairwise_singleton _ _, fun a ha b hb => ?_⟩
      rw [List.mem_singleton.mp hb]
      refine ⟨(q2 a ha).symm, ?_⟩
      have ea := h.2 a ha
      cases hq : D.eqv k a.1 with
      | false => rfl
      | true =>
        obtain ⟨n, n1, n2⟩ := eqv_keyW q1 ea hq
        have := nkey_eqv a.1 k n n n2 n1
        rw [c a ha] at this
        simp at this
    · intro p hp
      rcases List.mem_append.mp hp with hp | hp
      · exact h.2 p hp
      · rw [List.mem_singleton.mp hp]
        exact q1
end
end Py

set_option Elab.async false
set_option linter.all false
set_option maxRecDepth 100000
set_option autoImplicit false
set_option maxHeartbeats 1000000
namespace Py
open PySem PySem.Spec L2
/-! ### a dict in the heap -/
def DctAt (K : PySem.W.Frag) (H : Hp) (a : Addr) (es : Ents) : Prop := Rd H a (rawO a es) ∨ KRaw K a es
section
variable {X : Cx} {pins : List (Addr × Obj)} {σ : L2.St} {H : Hp} {s : Shared} {g : Gh} {a : Addr} {kvs : List (D × D)} {es : Ents} {A : Around} {E : Value → Shared → Prop} {k d : D} {y v : V} {u z : Value}
theorem raw_at (I : Inv X pins σ H s) (h : DctAt X.K H a es) : s.heap.DictRaw a es.1.toArray es.2 ∧ (a == sysModules) = false := by
  rcases h with h | ⟨o, h1, h2, h3, h4⟩
  · exact (rd_of I.hok h).1
  · exact ⟨⟨o, I.kIn a o h1, h2, h3⟩, h4⟩
theorem dk_leaf (I : Inv X pins σ H s) (h : DctAt X.K H a es) (hd : distK kvs = true) (hr : RelKs X.K X.w g H kvs es.1) (ht : ∀ p ∈ kvs, isTupD p.1 = false) : ∃ ps, LP X.K X.w g H kvs ps ∧ s.heap.DictOf (xKind X.prog X.w) a ps := by
  obtain ⟨⟨o, h1, h2, h3⟩, h4⟩ := raw_at I h
  obtain ⟨ps, q1, q2, q3⟩ := lp_of (P := X.prog) hr ht
  exact ⟨ps, q1, o, es.1.toArray, es.2, h1, h2, h3, fun e he => q2 e (by simpa using he), by simpa using q3, lp_nodup q1 hd⟩
theorem dk_tup (I : Inv X pins σ H s) (h : DctAt X.K H a es) (hd : distK kvs = true) (hr : RelKs X.K X.w g H kvs es.1) (ht : ∀ p ∈ kvs, isTupD p.1 = true) : ∃ xs, TP X.K X.w g H kvs xs ∧ s.heap.DictOfH (nestedKind X.prog X.w) a xs := by
  obtain ⟨⟨o, h1, h2, h3⟩, h4⟩ := raw_at I h
  obtain ⟨xs, q1, q2⟩ := tp_of (P := X.prog) hr ht
  refine ⟨xs, q1, o, es.1.toArray, es.2, h1, h2, h3, by simpa using q2, ?_, tp_nodup q1 hd⟩
  have key : ∀ {kvs : List (D × D)} {xs : List (NestedKey × Addr × Value)}, TP X.K X.w g H kvs xs → ∀ x ∈ xs, (nestedKind X.prog X.w).is s.heap x.1 x.2.1 := by
    intro kvs xs h
    induction h with
    | nil => intro x hx; cases hx
    | cons h1 h2 ih =>
      intro x hx
      rcases List.mem_cons.mp hx with rfl | hx
      · obtain ⟨n1, n2, _, r, _⟩ := h1
        exact nested_of I 8 _ _ _ _ n2 n1 r rfl
      · exact ih x hx
  exact key q1
theorem dk_two (I : Inv X pins σ H s) (h : DctAt X.K H a es) (hd : distK kvs = true) (hr : RelKs X.K X.w g H kvs es.1) (hf : fitK k kvs = true) (rk : RelD X.K X.w g H k y) (ry : RelV y u) :
    (a == sysModules) = false ∧ ((isTupD k = false ∧ ∃ ps, LP X.K X.w g H kvs ps ∧ s.heap.DictOf (xKind X.prog X.w) a ps ∧ (xKind X.prog X.w).is (leafOf k) u = true) ∨
      (isTupD k = true ∧ ∃ xs b n, u = .ref b ∧ y = .ref b ∧ nkey k = some n ∧ TP X.K X.w g H kvs xs ∧ s.heap.DictOfH (nestedKind X.prog X.w) a xs ∧ (nestedKind X.prog X.w).is s.heap n b)) := by
  obtain ⟨⟨⟨n, n1⟩, n2⟩, q2⟩ := fitK_of hf
  refine ⟨(raw_at I h).2, ?_⟩
  cases ht : isTupD k with
  | false =>
    obtain ⟨ps, q3, q4⟩ := dk_leaf I h hd hr fun p hp => (q2 p hp).trans ht
    exact .inl ⟨rfl, ps, q3, q4, x_is n1 ht rk ry⟩
  | true =>
    obtain ⟨xs, q3, q4⟩ := dk_tup I h hd hr fun p hp => (q2 p hp).trans ht
    obtain ⟨b, rfl⟩ : ∃ b, y = .ref b := by
      cases k <;> simp [isTupD] at ht
      have v3 := rk
      rw [RelD] at v3
      obtain ⟨b, vs, rfl, _⟩ := v3
      exact ⟨b, rfl⟩
    cases (show u = Value.ref b from ry)
    exact .inr ⟨rfl, xs, b, n, rfl, rfl, n1, q3, q4, nested_of I 8 _ _ _ _ n2 n1 rk rfl⟩
theorem room8 (hu : A.units + 65 < cLine) : (nestedKind X.prog X.w).room A.in1 := by
  show A.units + 1 + 8 < cLine
  omega
/-- d[k] -/
theorem dd_item {Q : Value → Shared → Prop} (hu : A.units + 65 < cLine) (I : Inv X pins σ H s) (h : DctAt X.K H a es) (hd : distK kvs = true) (hr : RelKs X.K X.w g H kvs es.1) (hf : fitK k kvs = true) (rk : RelD X.K X.w g H k y) (ry : RelV y u)
    (hv : findK k kvs = some d) (q : ∀ v w' s', Inv X pins σ H s' → RelV v w' → RelD X.K X.w g H d v → Q w' s') : wpAny (model X.prog X.w) A (getItem (.ref a) u) Q E s := by
  obtain ⟨hs, ⟨tk, ps, q1, q2, q3⟩ | ⟨tk, xs, b, n, rfl, e2, n1, q1, q2, q3⟩⟩ := dk_two I h hd hr hf rk ry
  · obtain ⟨w', e1, v, v1, v2⟩ := (lp_find (fitK_of hf).1 tk q1).1 d hv
    exact wpAny_getItem_of q3 q2.mapOf e1 (q v w' _ (I.tok _) v1 v2)
  · obtain ⟨p, e1, v, v1, v2⟩ := (tp_find n1 q1).1 d hv
    exact wpAny_getItem_heap (room8 hu) q3 q2 e1 (q v p.2 _ (I.tok _) v1 v2)
/-- k in d -/
theorem dd_in {Q : Value → Shared → Prop} (hu : A.units + 65 < cLine) (I : Inv X pins σ H s) (h : DctAt X.K H a es) (hd : distK kvs = true) (hr : RelKs X.K X.w g H kvs es.1) (hf : fitK k kvs = true) (rk : RelD X.K X.w g H k y) (ry : RelV y u)
    (q : ∀ s', Inv X pins σ H s' → Q (.bool (hasK k kvs)) s') : wpAny (model X.prog X.w) A (compareOp .In u (.ref a)) Q E s := by
  obtain ⟨hs, ⟨tk, ps, q1, q2, q3⟩ | ⟨tk, xs, b, n, rfl, e2, n1, q1, q2, q3⟩⟩ := dk_two I h hd hr hf rk ry
  · refine wpAny_in_of q3 hs q2.mapOf ?_
    rw [← (lp_find (fitK_of hf).1 tk q1).2.2.1]
    exact q _ (I.tok _)
  · refine wpAny_in_heap (room8 hu) q3 hs q2 ?_
    rw [← (tp_find n1 q1).2.2]
    exact q _ (I.tok _)
theorem dd_nin {Q : Value → Shared → Prop} (hu : A.units + 65 < cLine) (I : Inv X pins σ H s) (h : DctAt X.K H a es) (hd : distK kvs = true) (hr : RelKs X.K X.w g H kvs es.1) (hf : fitK k kvs = true) (rk : RelD X.K X.w g H k y) (ry : RelV y u)
    (q : ∀ s', Inv X pins σ H s' → Q (.bool (!hasK k kvs)) s') : wpAny (model X.prog X.w) A (compareOp .NotIn u (.ref a)) Q E s := by
  obtain ⟨hs, ⟨tk, ps, q1, q2, q3⟩ | ⟨tk, xs, b, n, rfl, e2, n1, q1, q2, q3⟩⟩ := dk_two I h hd hr hf rk ry
  · refine wpAny_notIn_of q3 hs q2.mapOf ?_
    rw [← (lp_find (fitK_of hf).1 tk q1).2.2.1]
    exact q _ (I.tok _)
  · refine PyProof.Rows.wpAny_notIn_heap (room8 hu) q3 hs q2 ?_
    rw [← (tp_find n1 q1).2.2]
    exact q _ (I.tok _)
/-- d.get(k) -/
theorem dd_get1 {Q : Value → Shared → Prop} (hu : A.units + 65 < cLine) (I : Inv X pins σ H s) (h : DctAt X.K H a es) (hd : distK kvs = true) (hr : RelKs X.K X.w g H kvs es.1) (hf : fitK k kvs = true) (rk : RelD X.K X.w g H k y) (ry : RelV y u)
    (q : ∀ v w' s', Inv X pins σ H s' → RelV v w' → RelD X.K X.w g H ((findK k kvs).getD .non) v → Q w' s') : wpAny (model X.prog X.w) A (call (.builtin "dict.get") [.ref a, u]) Q E s := by
  obtain ⟨hs, ⟨tk, ps, q1, q2, q3⟩ | ⟨tk, xs, b, n, rfl, e2, n1, q1, q2, q3⟩⟩ := dk_two I h hd hr hf rk ry
  · obtain ⟨f1, f2, _⟩ := lp_find (fitK_of hf).1 tk q1
    refine call_meetsIn PySem.F.slot_dict_get q2.typeIs PySem.F.entry_dict_get (PySem.F.args_dict_get_2 _ _) (meets_dict_get (xKind X.prog X.w) a q3 hs) ⟨_, q2.mapOf, ?_⟩
    cases hv : findK k kvs with
    | some d =>
      obtain ⟨w', e1, v, v1, v2⟩ := f1 d hv
      rw [e1]
      rw [hv] at q
      exact q v w' _ (I.tok _) v1 v2
    | none =>
      rw [f2 hv]
      rw [hv] at q
      exact q .non .none _ (I.tok _) rfl (show RelD X.K X.w g H .non .non by rw [RelD])
  · obtain ⟨f1, f2, _⟩ := tp_find n1 q1
    refine call_meetsIn PySem.F.slot_dict_get q2.typeIs PySem.F.entry_dict_get (PySem.F.args_dict_get_2 _ _) (meetsH_dict_get (nestedKind X.prog X.w) a b hs) ⟨room8 hu, n, xs, q3, q2, ?_⟩
    cases hv : findK k kvs with
    | some d =>
      obtain ⟨p, e1, v, v1, v2⟩ := f1 d hv
      rw [e1]
      rw [hv] at q
      exact q v p.2 _ (I.tok _) v1 v2
    | none =>
      rw [f2 hv]
      rw [hv] at q
      exact q .non .none _ (I.tok _) rfl (show RelD X.K X.w g H .non .non by rw [RelD])
/-- d.get(k, x) -/
theorem dd_get2 {Q : Value → Shared → Prop} {x : D} {vx : V} {ux : Value} (hu : A.units + 65 < cLine) (I : Inv X pins σ H s) (h : DctAt X.K H a es) (hd : distK kvs = true) (hr : RelKs X.K X.w g H kvs es.1) (hf : fitK k kvs = true) (rk : RelD X.K X.w g H k y) (ry : RelV y u)
    (rx : RelD X.K X.w g H x vx) (rux : RelV vx ux)
    (q : ∀ v w' s', Inv X pins σ H s' → RelV v w' → RelD X.K X.w g H ((findK k kvs).getD x) v → Q w' s') : wpAny (model X.prog X.w) A (call (.builtin "dict.get") [.ref a, u, ux]) Q E s := by
  obtain ⟨hs, ⟨tk, ps, q1, q2, q3⟩ | ⟨tk, xs, b, n, rfl, e2, n1, q1, q2, q3⟩⟩ := dk_two I h hd hr hf rk ry
  · obtain ⟨f1, f2, _⟩ := lp_find (fitK_of hf).1 tk q1
    refine call_meetsIn PySem.F.slot_dict_get q2.typeIs PySem.F.entry_dict_get (PySem.F.args_dict_get_3 _ _ _) (meets_dict_get_default (xKind X.prog X.w) a q3 hs ux) ⟨_, q2.mapOf, ?_⟩
    cases hv : findK k kvs with
    | some d =>
      obtain ⟨w', e1, v, v1, v2⟩ := f1 d hv
      rw [e1]
      rw [hv] at q
      exact q v w' _ (I.tok _) v1 v2
    | none =>
      rw [f2 hv]
      rw [hv] at q
      exact q vx ux _ (I.tok _) rux rx
  · obtain ⟨f1, f2, _⟩ := tp_find n1 q1
    refine call_meetsIn PySem.F.slot_dict_get q2.typeIs PySem.F.entry_dict_get (PySem.F.args_dict_get_3 _ _ _) (meetsH_dict_get_default (nestedKind X.prog X.w) a b hs ux) ⟨room8 hu, n, xs, q3, q2, ?_⟩
    cases hv : findK k kvs with
    | some d =>
      obtain ⟨p, e1, v, v1, v2⟩ := f1 d hv
      rw [e1]
      rw [hv] at q
      exact q v p.2 _ (I.tok _) v1 v2
    | none =>
      rw [f2 hv]
      rw [hv] at q
      exact q vx ux _ (I.tok _) rux rx
theorem paired_len {α β : Type} {R : α → β → Prop} {l : List α} {m : List β} (h : Paired R l m) : l.length = m.length := Paired.length h
/-- d[k] = v -/
theorem dd_set {Q : Unit → Shared → Prop} (hu : A.units + 65 < cLine) (I : Inv X pins σ H s) (h : H a = some (rawO a es)) (hd : distK kvs = true) (hr : RelKs X.K X.w g H kvs es.1) (hf : fitK k kvs = true) (hz : kvs.length ≤ sizeLine) (rk : RelD X.K X.w g H k y) (ry : RelV y u)
    (rv : RelD X.K X.w g H d v) (rz : RelV v z)
    (q : ∀ (es' : Ents) s', RelKs X.K X.w g H (putKD kvs k d) es'.1 → Inv X pins σ (upd H a (rawO a es')) s' → Q () s') : wpAny (model X.prog X.w) A (setItem (.ref a) u z) Q E s := by
  obtain ⟨hs, ⟨tk, ps, q1, q2, q3⟩ | ⟨tk, xs, b, n, rfl, e2, n1, q1, q2, q3⟩⟩ := dk_two I (.inl (.inl h)) hd hr hf rk ry
  · refine wpAny_setItem_pairs (hsz := by rw [← paired_len q1]; exact hz) q3 q2 fun h' dd' sb => ?_
    obtain ⟨o, es', ep, h1, h2, h3, h4, h5, h6⟩ := dd'
    have q4 := lp_put (fitK_of hf).1 tk ⟨v, rz, rv⟩ q1
    refine q (es'.toList, ep) _ (lp_back q4 (fun e he => h4 e (by simpa using he)) h5) ?_
    exact d_write I (by rw [h]; exact True.intro) sb ⟨o, h1⟩ ⟨⟨⟨o, h1, h2, by simpa using h3⟩, hs⟩, ⟨o, h1⟩, fun H1 H2 ⟨p1, p2⟩ st => ⟨p1.at st, p2⟩⟩
  · subst e2
    refine wpAny_setItem_heap (hsz := by rw [← paired_len q1]; exact hz) (room8 hu) q3 q2 fun h' dd' sb => ?_
    obtain ⟨o, es', ep, h1, h2, h3, h4, h5, h6⟩ := dd'
    have q4 := tp_put n1 (fitK_of hf).1.2 tk rk ⟨v, rz, rv⟩ q1
    refine q (es'.toList, ep) _ (by rw [h4]; exact tp_back q4) ?_
    exact d_write I (by rw [h]; exact True.intro) sb ⟨o, h1⟩ ⟨⟨⟨o, h1, h2, by simpa using h3⟩, hs⟩, ⟨o, h1⟩, fun H1 H2 ⟨p1, p2⟩ st => ⟨p1.at st, p2⟩⟩
/-- len(d) -/
theorem dd_len {Q : Value → Shared → Prop} (I : Inv X pins σ H s) (h : DctAt X.K H a es) (hz : es.1.length ≤ sizeLine) (q : ∀ t s', Inv X pins σ H s' → Q (.int es.1.length t) s') : wpAny (model X.prog X.w) A (call (.builtin "len") [.ref a]) Q E s := by
  obtain ⟨h1, h2⟩ := raw_at I h
  refine PyProof.Rows.call_len_slot (n := es.1.length) h1.typeIs PySem.F.slot_dict_len (fun Q' hq => call_len_raw h2 h1 (by simpa using hq)) (by omega) (by rw [sizeLine_eq] at hz; omega) ?_
  exact q _ _ (I.tok _)
theorem dk_empty' {P : Program} {w : World} {H : Hp} (h : Heap) (hb : sysModules < h.objs.size) : ObjOk P w H (h.push { cls := .type "dict", data := .dict #[] }) h.objs.size (rawO h.objs.size ([], 0)) :=
  ⟨⟨⟨_, Heap.get?_push_size _ rfl, ⟨rfl, rfl, rfl⟩, rfl⟩, beq_eq_false_iff_ne.mpr (Ne.symm (Nat.ne_of_lt hb))⟩, ⟨_, Heap.get?_push_size _ rfl⟩, fun H1 H2 ⟨p1, p2⟩ st => ⟨p1.at st, p2⟩⟩
def tDNewO : TE := fun _ H Q => ∀ p, H p = none → Q (.ref p) (upd H p (rawO p ([], 0)))
theorem pe_dnewO {pos : Pos} : PE X (.Dict [] [] pos) tDNewO := ⟨fun pins s σ H Q I h =>
  wpAny_Dict_empty ⟨.ref s.heap.objs.size, _, I.laid (a := s.heap.objs.size) (o := rawO s.heap.objs.size ([], 0)) (t' := s.toks) (fun _ _ q => Heap.get?_push_of_some _ q) (Nat.le_refl _) (dk_empty' s.heap I.big), rfl, h _ (I.hok.fresh (Nat.le_refl _))⟩⟩
end
end Py

set_option Elab.async false
set_option linter.all false
set_option maxRecDepth 100000
set_option autoImplicit false
set_option maxHeartbeats 1000000
namespace Py
open PySem PySem.Spec L2
/-! ### None looked for among keys that are tuples -/
section
variable {P : Program} {w : World} {A : Around} {E : Value → Shared → Prop} {s : Shared} {d : Addr} {xs : List (NestedKey × Addr × Value)}
def TupK (xs : List (NestedKey × Addr × Value)) : Prop := ∀ x ∈ xs, ∃ ks, x.1 = NestedKey.tup ks
theorem none_eq {x : NestedKey × Addr × Value} {Q : Bool → Shared → Prop} (hu : A.units + 9 < cLine) (hi : (nestedKind P w).is s.heap x.1 x.2.1) (ht : ∃ ks, x.1 = NestedKey.tup ks) (q : Q false s) :
    wpAny (model P w) A (eqBool (.ref x.2.1) .none) Q E s := by
  obtain ⟨ks, e⟩ := ht
  obtain ⟨h1, h2⟩ := hi
  rw [e] at h1 h2
  refine eqAt_key (.tup ks) .none A s _ _ h1 .none ?_ P w E Q q
  have : min (NestedKey.depth (.tup ks)) (NestedKey.depth .none) ≤ 8 := Nat.le_trans (Nat.min_le_left _ _) h2
  omega
theorem none_tell {vs : List Value} {Q : Bool → Shared → Prop} (hv : ∀ v ∈ vs, ∃ k b, v = Value.ref b ∧ (nestedKind P w).is s.heap k b) (q : Q false s) : wpAny (model P w) A (tableMayTell .none vs) Q E s := by
  unfold tableMayTell
  by_cases c : vs.isEmpty = true
  · rw [if_pos c]
    exact wpAny_pure q
  · rw [if_neg c]
    refine wpAny_bind (QuietAt.byValue rfl A E _ ?_)
    rw [if_neg (by simp)]
    refine wpAny_bind (wpAny_forIn_list _ (fun l r z => z = s ∧ r = (none, ()) ∧ ∀ v ∈ l, v ∈ vs) _ (fun v l r z hI => ?_) (fun r z hI => ?_) vs _ ⟨rfl, rfl, fun _ h => h⟩)
    · obtain ⟨rfl, rfl, hl⟩ := hI
      obtain ⟨k, b, rfl, hk⟩ := hv v (hl v List.mem_cons_self)
      refine wpAny_bind ((nestedKind P w).quiet hk ?_)
      rw [if_neg (by simp)]
      exact wpAny_pure ⟨rfl, rfl, fun u hu => hl u (List.mem_cons_of_mem _ hu)⟩
    · obtain ⟨rfl, rfl, _⟩ := hI
      exact wpAny_pure q
theorem none_find {o : Obj} {es : Array DictEntry} {ep : Nat} {hh : Int} {Q : Option Nat → Shared → Prop} (hu : A.units + 9 < cLine) (ho : s.heap.get? d = some o) (hd : o.data = .dict es ep) (he : es.toList = xs.map (entryOfKey (nestedKind P w)))
    (hi : ∀ x ∈ xs, (nestedKind P w).is s.heap x.1 x.2.1) (ht : TupK xs) (q : Q none s) : wpAny (model P w) A (dictFind d .none hh) Q E s := by
  have mem : ∀ e ∈ es, ∃ x ∈ xs, e = entryOfKey (nestedKind P w) x := fun e h => by
    have : e ∈ xs.map (entryOfKey (nestedKind P w)) := by rw [← he]; exact Array.mem_toList_iff.mpr h
    obtain ⟨x, hx, rfl⟩ := List.mem_map.mp this
    exact ⟨x, hx, rfl⟩
  unfold dictFind
  try with_reducible refine wpAny_holding ?_
  refine wpAny_bind (wpAny_dictEntries ho hd ?_)
  dsimp only
  have pl : ∀ i ∈ placesWithHash es.size (fun i => es[i]?.map (·.hash)) hh, i < es.size := fun i hi => by
    unfold placesWithHash at hi
    exact List.mem_range.mp (List.mem_filter.mp hi).1
  generalize placesWithHash es.size (fun i => es[i]?.map (·.hash)) hh = ps at pl ⊢
  have ref : ∀ v ∈ ps.filterMap (fun i => es[i]?.map (·.key)), ∃ k b, v = Value.ref b ∧ (nestedKind P w).is s.heap k b := fun v hv => by
    obtain ⟨i, _, e⟩ := List.mem_filterMap.mp hv
    obtain ⟨en, e1, rfl⟩ := Option.map_eq_some_iff.mp e
    obtain ⟨x, hx, rfl⟩ := mem en (Array.mem_of_getElem? e1)
    exact ⟨x.1, x.2.1, rfl, hi x hx⟩
  by_cases c : ps = []
  · subst c
    rw [if_pos (by simp [carriedByValue])]
    exact wpAny_pure q
  · have ne : ∃ b r, ps.filterMap (fun i => es[i]?.map (·.key)) = Value.ref b :: r := by
      cases hf : ps.filterMap (fun i => es[i]?.map (·.key)) with
      | nil =>
        obtain ⟨i, r, rfl⟩ := List.exists_cons_of_ne_nil c
        have := List.filterMap_eq_nil_iff.mp hf i List.mem_cons_self
        rw [Array.getElem?_eq_getElem (pl i List.mem_cons_self)] at this
        cases this
      | cons v r =>
        obtain ⟨k, b, rfl, _⟩ := ref v (by rw [hf]; exact List.mem_cons_self)
        exact ⟨b, r, rfl⟩
    obtain ⟨b, r, e⟩ := ne
    rw [if_neg (by rw [e]; simp [carriedByValue]), if_neg (by rw [e]; simp)]
    refine wpAny_bind (none_tell ref ?_)
    rw [if_neg (by simp)]
    refine wpAny_bind (wpAny_forIn_list _ (fun l r z => z = s ∧ r = (none, none)) _ (fun i l r z hI => ?_) (fun r z hI => ?_) ps _ ⟨rfl, rfl⟩)
    · obtain ⟨rfl, rfl⟩ := hI
      cases h : es[i]? with
      | none => exact wpAny_pure ⟨rfl, rfl⟩
      | some en =>
        obtain ⟨x, hx, rfl⟩ := mem en (Array.mem_of_getElem? h)
        dsimp only
        split
        · refine wpAny_bind (wpAny_dictEpoch ho hd (wpAny_bind (none_eq hu (hi x hx) (ht x hx) (wpAny_bind (wpAny_dictEpoch ho hd ?_)))))
          rw [if_neg (by simp)]
          rw [if_neg (by simp)]
          refine wpAny_bind (wpAny_rule ?_)
          rw [if_neg (by simp)]
          exact wpAny_pure ⟨rfl, rfl⟩
        · exact wpAny_pure ⟨rfl, rfl⟩
    · obtain ⟨rfl, rfl⟩ := hI
      exact wpAny_pure q
theorem none_get {Q : Option Value → Shared → Prop} (hu : A.units + 9 < cLine) (hm : s.heap.DictOfH (nestedKind P w) d xs) (ht : TupK xs)
    (q : ∀ t, Q none { s with toks := t }) : wpAny (model P w) A (dictGet d .none) Q E s := by
  obtain ⟨o, es, ep, ho, _, hd, he, his, hn⟩ := hm
  unfold dictGet
  try with_reducible refine wpAny_holding ?_
  refine wpAny_bind (pyHash_key .none .none A s _ .none (by show A.units + 0 < cLine; omega) (wpAny_bind (none_find (s := { s with toks := _ }) hu ho hd he his ht ?_)))
  exact wpAny_pure (q _)
theorem none_contains {Q : Bool → Shared → Prop} (hu : A.units + 65 < cLine) (hs : (d == sysModules) = false) (hm : s.heap.DictOfH (nestedKind P w) d xs) (ht : TupK xs)
    (q : ∀ t, Q false { s with toks := t }) : wpAny (model P w) A (contains (.ref d) .none) Q E s := by
  unfold contains
  try with_reducible refine wpAny_holding ?_
  refine wpAny_bind (wpAny_specialOf hm.typeIs slot_dict_contains.lookup ?_)
  dsimp only
  have nb : ¬ (some (Value.builtin "dict.__contains__") == some Value.none) = true := by
    rw [beq_builtin_none]
    simp
  show wpAny _ _ (if (some (Value.builtin "dict.__contains__") == some Value.none) = true then _ else _) _ E s
  rw [if_neg nb]
  refine wpAny_bind (wpAny_callSpecialUnlessNone?_slot (name := Str.ofString "__contains__") hm.typeIs slot_dict_contains ?_)
  refine wpAny_call_entry slot_dict_contains hm.typeIs entry_dict_contains ?_ (args_dict_contains _ _)
  show wpAny _ _ (dictGet d .none >>= _) _ _ s
  refine wpAny_bind (none_get (A := A.in1) (by show A.units + 1 + 9 < cLine; omega) hm ht fun t => ?_)
  show wpAny _ _ (Builtin.Dict.pendingKey? d .none >>= _) _ _ _
  exact wpAny_bind (wpAny_pendingKey_other hs (wpAny_pure ⟨_, rfl, wpAny_truthy_bool (q t)⟩))
theorem tup_keys {K : PySem.W.Frag} {g : Gh} {H : Hp} {kvs : List (D × D)} {xs : List (NestedKey × Addr × Value)} (h : TP K w g H kvs xs) : TupK xs := by
  induction h with
  | nil => intro x hx; cases hx
  | cons h1 h2 ih =>
    rename_i p y _ _
    intro x hx
    rcases List.mem_cons.mp hx with rfl | hx
    · obtain ⟨n1, _, t, _⟩ := h1
      obtain ⟨k, v⟩ := p
      cases k with
      | tup us =>
        have n1 : (nkeys us).map NestedKey.tup = some x.1 := n1
        obtain ⟨ks, _, e⟩ := Option.map_eq_some_iff.mp n1
        exact ⟨ks, e.symm⟩
      | _ => simp [isTupD] at t
    · exact ih x hx
theorem none_in {Q : Value → Shared → Prop} (hu : A.units + 65 < cLine) (hs : (d == sysModules) = false) (hm : s.heap.DictOfH (nestedKind P w) d xs) (ht : TupK xs)
    (q : ∀ t, Q (.bool false) { s with toks := t }) : wpAny (model P w) A (compareOp .In .none (.ref d)) Q E s := by
  show wpAny _ _ (contains (.ref d) .none >>= fun b => return .bool b) Q E s
  exact wpAny_bind (none_contains hu hs hm ht fun t => wpAny_pure (q t))
theorem none_nin {Q : Value → Shared → Prop} (hu : A.units + 65 < cLine) (hs : (d == sysModules) = false) (hm : s.heap.DictOfH (nestedKind P w) d xs) (ht : TupK xs)
    (q : ∀ t, Q (.bool true) { s with toks := t }) : wpAny (model P w) A (compareOp .NotIn .none (.ref d)) Q E s := by
  show wpAny _ _ (contains (.ref d) .none >>= fun b => return .bool (!b)) Q E s
  exact wpAny_bind (none_contains hu hs hm ht fun t => wpAny_pure (q t))
end
end Py

set_option Elab.async false
set_option linter.all false
set_option maxRecDepth 100000
set_option autoImplicit false
set_option maxHeartbeats 1000000
namespace Py
open PySem PySem.Spec L2
mutual
def toPy : D → PyData
  | .non => .none
  | .bl b => .bool b
  | .int i => .int i
  | .str cs => .str ⟨cs.toArray⟩
  | .tup xs => .tuple (toPys xs)
  | .lst xs => .list (toPys xs)
  | .dct _ => .none
  | .ref _ => .none
  | .fn _ => .none
def toPys : List D → List PyData
  | [] => []
  | x :: xs => toPy x :: toPys xs
end
theorem toPys_map : ∀ xs : List D, toPys xs = xs.map toPy
  | [] => rfl
  | x :: xs => by rw [toPys, toPys_map xs]; rfl
mutual
theorem ok_lay : ∀ (n : Nat) (d : D), D.ok n d = true → (toPy d).canLay0 = true ∧ (toPy d).depth ≤ n
  | n, .non, h => ⟨rfl, Nat.zero_le _⟩
  | n, .bl b, h => ⟨rfl, Nat.zero_le _⟩
  | n, .int i, h => ⟨rfl, Nat.zero_le _⟩
  | n, .str cs, h => by
    rw [D.ok] at h
    rw [toPy]
    refine ⟨?_, Nat.zero_le _⟩
    unfold PyData.canLay0 PyData.strOk
    rw [Array.all_eq_true']
    intro x hx
    have := List.all_eq_true.mp h x (by simpa using hx)
    simp only [decide_eq_true_eq] at this ⊢
    omega
  | n, .tup xs, h => by
    rw [D.ok, Bool.and_eq_true] at h
    obtain ⟨h1, h2⟩ := ok_lays (n - 1) xs h.2
    have h3 := of_decide_eq_true h.1
    rw [toPy]
    refine ⟨?_, ?_⟩
    · unfold PyData.canLay0
      exact h1
    · unfold PyData.depth
      omega
  | n, .lst xs, h => by
    rw [D.ok, Bool.and_eq_true] at h
    obtain ⟨h1, h2⟩ := ok_lays (n - 1) xs h.2
    have h3 := of_decide_eq_true h.1
    rw [toPy]
    refine ⟨?_, ?_⟩
    · unfold PyData.canLay0
      exact h1
    · unfold PyData.depth
      omega
  | n, .dct _, h => by simp [D.ok] at h
  | n, .ref _, h => by simp [D.ok] at h
  | n, .fn _, h => by simp [D.ok] at h
theorem ok_lays : ∀ (n : Nat) (ds : List D), D.oks n ds = true → PyData.canLayAll0 (toPys ds) = true ∧ PyData.depthAll (toPys ds) ≤ n
  | n, [], h => ⟨rfl, Nat.zero_le _⟩
  | n, x :: xs, h => by
    rw [D.oks, Bool.and_eq_true] at h
    obtain ⟨h1, h2⟩ := ok_lay n x h.1
    obtain ⟨h3, h4⟩ := ok_lays n xs h.2
    rw [toPys]
    unfold PyData.canLayAll0 PyData.depthAll
    rw [h1, h3]
    exact ⟨rfl, Nat.max_le.mpr ⟨h2, h4⟩⟩
end
theorem ok_shaped {n : Nat} {d : D} (h : D.ok n d = true) (hn : n ≤ 64) : SeqAt.shaped (toPy d) = true := by
  obtain ⟨h1, h2⟩ := ok_lay n d h
  unfold SeqAt.shaped
  rw [h1, Bool.true_and]
  exact decide_eq_true (Nat.le_trans h2 hn)
section
variable {K : PySem.W.Frag} {w : World} {g : Gh} {H : Hp}
mutual
theorem dp_of : ∀ (n : Nat) (d : D) (v : V), D.ok n d = true → RelD K w g H d v → Dp K H v (toPy d)
  | n, .non, v, h, r => by rw [RelD] at r; subst r; exact .non
  | n, .bl b, v, h, r => by rw [RelD] at r; subst r; exact .bl b
  | n, .int i, v, h, r => by rw [RelD] at r; subst r; exact .int i
  | n, .str cs, v, h, r => by rw [RelD] at r; subst r; exact .str _
  | n, .tup xs, v, h, r => by
    rw [D.ok, Bool.and_eq_true] at h
    rw [RelD] at r
    obtain ⟨a, vs, rfl, ha, hr⟩ := r
    rw [toPy]
    exact .tup (ha.elim (fun q => .inl q.1) .inr) (dps_of (n - 1) xs vs h.2 hr)
  | n, .lst xs, v, h, r => by
    rw [D.ok, Bool.and_eq_true] at h
    rw [RelD] at r
    obtain ⟨a, vs, rfl, ha, hr⟩ := r
    rw [toPy]
    exact .lst (ha.elim (fun q => .inl q.1) .inr) (dps_of (n - 1) xs vs h.2 hr)
  | n, .dct _, v, h, r => by simp [D.ok] at h
  | n, .ref _, v, h, r => by simp [D.ok] at h
  | n, .fn _, v, h, r => by simp [D.ok] at h
theorem dps_of : ∀ (n : Nat) (ds : List D) (vs : List V), D.oks n ds = true → RelDs K w g H ds vs → DpAll K H vs (toPys ds)
  | n, [], vs, h, r => by rw [RelDs] at r; subst r; exact .nil
  | n, x :: xs, vs, h, r => by
    rw [D.oks, Bool.and_eq_true] at h
    rw [RelDs] at r
    obtain ⟨v, r', rfl, h1, h2⟩ := r
    rw [toPys]
    exact .cons (dp_of n x v h.1 h1) (dps_of n xs r' h.2 h2)
end
theorem dp_t {n : Nat} {d : D} {v : V} (h : D.ok n d = true) (r : RelT K w g H d v) : Dp K H v (toPy d) := by
  cases d with
  | lst xs =>
    rw [D.ok, Bool.and_eq_true] at h
    obtain ⟨a, vs, rfl, ha, hr⟩ := r
    rw [toPy]
    exact .lst ha (dps_of _ xs vs h.2 hr)
  | dct _ => simp [D.ok] at h
  | _ => exact dp_of (K := K) (w := w) (g := g) n _ v h r
end
theorem beq_arr (x y : List Nat) : ((⟨x.toArray⟩ : Str) == ⟨y.toArray⟩) = (x == y) := by
  rw [Bool.eq_iff_iff]
  simp
mutual
theorem eqv_py : ∀ (n m : Nat) (a b : D), D.ok n a = true → D.ok m b = true → PyData.eqv (toPy a) (toPy b) = D.eqv a b
  | n, m, .tup xs, .tup ys, h, k => by
    rw [D.ok, Bool.and_eq_true] at h k
    rw [toPy, toPy, D.eqv]
    unfold PyData.eqv
    exact eqvs_py _ _ xs ys h.2 k.2
  | n, m, .lst xs, .lst ys, h, k => by
    rw [D.ok, Bool.and_eq_true] at h k
    rw [toPy, toPy, D.eqv]
    unfold PyData.eqv
    exact eqvs_py _ _ xs ys h.2 k.2
  | n, m, .dct _, _, h, k => by simp [D.ok] at h
  | n, m, .ref _, _, h, k => by simp [D.ok] at h
  | n, m, .fn _, _, h, k => by simp [D.ok] at h
  | n, m, .str x, .str y, h, k => by simp only [toPy, PyData.eqv, D.eqv, beq_arr]
  | n, m, .non, .non, h, k => by simp only [toPy, PyData.eqv, D.eqv]
  | n, m, .non, .bl _, h, k => by simp only [toPy, PyData.eqv, D.eqv]
  | n, m, .non, .int _, h, k => by simp only [toPy, PyData.eqv, D.eqv]
  | n, m, .non, .str _, h, k => by simp only [toPy, PyData.eqv, D.eqv]
  | n, m, .non, .tup _, h, k => by simp only [toPy, PyData.eqv, D.eqv]
  | n, m, .non, .lst _, h, k => by simp only [toPy, PyData.eqv, D.eqv]
  | n, m, .bl _, .non, h, k => by simp only [toPy, PyData.eqv, D.eqv]
  | n, m, .bl _, .bl _, h, k => by simp only [toPy, PyData.eqv, D.eqv]
  | n, m, .bl _, .int _, h, k => by simp only [toPy, PyData.eqv, D.eqv]
  | n, m, .bl _, .str _, h, k => by simp only [toPy, PyData.eqv, D.eqv]
  | n, m, .bl _, .tup _, h, k => by simp only [toPy, PyData.eqv, D.eqv]
  | n, m, .bl _, .lst _, h, k => by simp only [toPy, PyData.eqv, D.eqv]
  | n, m, .int _, .non, h, k => by simp only [toPy, PyData.eqv, D.eqv]
  | n, m, .int _, .bl _, h, k => by simp only [toPy, PyData.eqv, D.eqv]
  | n, m, .int _, .int _, h, k => by simp only [toPy, PyData.eqv, D.eqv]
  | n, m, .int _, .str _, h, k => by simp only [toPy, PyData.eqv, D.eqv]
  | n, m, .int _, .tup _, h, k => by simp only [toPy, PyData.eqv, D.eqv]
  | n, m, .int _, .lst _, h, k => by simp only [toPy, PyData.eqv, D.eqv]
  | n, m, .str _, .non, h, k => by simp only [toPy, PyData.eqv, D.eqv]
  | n, m, .str _, .bl _, h, k => by simp only [toPy, PyData.eqv, D.eqv]
  | n, m, .str _, .int _, h, k => by simp only [toPy, PyData.eqv, D.eqv]
  | n, m, .str _, .tup _, h, k => by simp only [toPy, PyData.eqv, D.eqv]
  | n, m, .str _, .lst _, h, k => by simp only [toPy, PyData.eqv, D.eqv]
  | n, m, .tup _, .non, h, k => by simp only [toPy, PyData.eqv, D.eqv]
  | n, m, .tup _, .bl _, h, k => by simp only [toPy, PyData.eqv, D.eqv]
  | n, m, .tup _, .int _, h, k => by simp only [toPy, PyData.eqv, D.eqv]
  | n, m, .tup _, .str _, h, k => by simp only [toPy, PyData.eqv, D.eqv]
  | n, m, .tup _, .lst _, h, k => by simp only [toPy, PyData.eqv, D.eqv]
  | n, m, .lst _, .non, h, k => by simp only [toPy, PyData.eqv, D.eqv]
  | n, m, .lst _, .bl _, h, k => by simp only [toPy, PyData.eqv, D.eqv]
  | n, m, .lst _, .int _, h, k => by simp only [toPy, PyData.eqv, D.eqv]
  | n, m, .lst _, .str _, h, k => by simp only [toPy, PyData.eqv, D.eqv]
  | n, m, .lst _, .tup _, h, k => by simp only [toPy, PyData.eqv, D.eqv]
  | n, m, _, .dct _, h, k => by simp [D.ok] at k
  | n, m, _, .ref _, h, k => by simp [D.ok] at k
  | n, m, _, .fn _, h, k => by simp [D.ok] at k
theorem eqvs_py : ∀ (n m : Nat) (a b : List D), D.oks n a = true → D.oks m b = true → PyData.eqvAll (toPys a) (toPys b) = D.eqvs a b
  | n, m, [], [], h, k => by simp only [toPys, PyData.eqvAll, D.eqvs]
  | n, m, [], _ :: _, h, k => by simp only [toPys, PyData.eqvAll, D.eqvs]
  | n, m, _ :: _, [], h, k => by simp only [toPys, PyData.eqvAll, D.eqvs]
  | n, m, x :: xs, y :: ys, h, k => by
    rw [D.oks, Bool.and_eq_true] at h k
    rw [toPys, toPys, D.eqvs]
    unfold PyData.eqvAll
    rw [eqv_py n m x y h.1 k.1, eqvs_py n m xs ys h.2 k.2]
end
theorem any_py {n m : Nat} {x : D} (hx : D.ok m x = true) : ∀ {ys : List D}, D.oks n ys = true → ((toPys ys).any fun z => PyData.eqv z (toPy x)) = ys.any fun y => D.eqv y x
  | [], h => rfl
  | y :: ys, h => by
    rw [D.oks, Bool.and_eq_true] at h
    rw [toPys, List.any_cons, List.any_cons, eqv_py n m y x h.1 hx, any_py hx h.2]
mutual
theorem alk_py : ∀ (n m : Nat) (a b : D), D.ok n a = true → D.ok m b = true → PySem.W.alike (toPy a) (toPy b) = D.alk a b
  | n, m, .tup xs, b, h, k => by
    rw [D.ok, Bool.and_eq_true] at h
    cases b with
    | tup ys =>
      rw [D.ok, Bool.and_eq_true] at k
      rw [toPy, toPy, D.alk]
      unfold PySem.W.alike
      exact alks_py _ _ xs ys h.2 k.2
    | _ => first | (simp only [toPy, PySem.W.alike, D.alk]; done) | (simp [D.ok] at k; done)
  | n, m, .lst xs, b, h, k => by
    rw [D.ok, Bool.and_eq_true] at h
    cases b with
    | lst ys =>
      rw [D.ok, Bool.and_eq_true] at k
      rw [toPy, toPy, D.alk]
      unfold PySem.W.alike
      exact alks_py _ _ xs ys h.2 k.2
    | _ => first | (simp only [toPy, PySem.W.alike, D.alk]; done) | (simp [D.ok] at k; done)
  | n, m, .dct _, _, h, k => by simp [D.ok] at h
  | n, m, .ref _, _, h, k => by simp [D.ok] at h
  | n, m, .fn _, _, h, k => by simp [D.ok] at h
  | n, m, .non, b, h, k => by cases b <;> first | (simp only [toPy, PySem.W.alike, D.alk]; done) | (simp [D.ok] at k; done)
  | n, m, .bl _, b, h, k => by cases b <;> first | (simp only [toPy, PySem.W.alike, D.alk]; done) | (simp [D.ok] at k; done)
  | n, m, .int _, b, h, k => by cases b <;> first | (simp only [toPy, PySem.W.alike, D.alk]; done) | (simp [D.ok] at k; done)
  | n, m, .str _, b, h, k => by cases b <;> first | (simp only [toPy, PySem.W.alike, D.alk]; done) | (simp [D.ok] at k; done)
theorem alks_py : ∀ (n m : Nat) (a b : List D), D.oks n a = true → D.oks m b = true → PySem.W.alikeAll (toPys a) (toPys b) = D.alks a b
  | n, m, [], _, h, k => by simp only [toPys, PySem.W.alikeAll, D.alks]
  | n, m, _ :: _, [], h, k => by simp only [toPys, PySem.W.alikeAll, D.alks]
  | n, m, x :: xs, y :: ys, h, k => by
    rw [D.oks, Bool.and_eq_true] at h k
    rw [toPys, toPys, D.alks]
    unfold PySem.W.alikeAll
    rw [alk_py n m x y h.1 k.1, alks_py n m xs ys h.2 k.2]
end
mutual
theorem ltb_py : ∀ (n m : Nat) (a b : D), D.ok n a = true → D.ok m b = true → D.alk a b = true → PySem.W.dataLt (toPy a) (toPy b) = D.ltb a b
  | n, m, .tup xs, b, h, k, l => by
    rw [D.ok, Bool.and_eq_true] at h
    cases b with
    | tup ys =>
      rw [D.ok, Bool.and_eq_true] at k
      rw [D.alk] at l
      rw [toPy, toPy, D.ltb, PySem.W.dataLt_tuple]
      exact ltbs_py _ _ xs ys h.2 k.2 l
    | _ => simp [D.alk] at l
  | n, m, .lst xs, b, h, k, l => by
    rw [D.ok, Bool.and_eq_true] at h
    cases b with
    | lst ys =>
      rw [D.ok, Bool.and_eq_true] at k
      rw [D.alk] at l
      rw [toPy, toPy, D.ltb, PySem.W.dataLt_list]
      exact ltbs_py _ _ xs ys h.2 k.2 l
    | _ => simp [D.alk] at l
  | n, m, .dct _, _, h, k, l => by simp [D.ok] at h
  | n, m, .ref _, _, h, k, l => by simp [D.ok] at h
  | n, m, .fn _, _, h, k, l => by simp [D.ok] at h
  | n, m, .non, b, h, k, l => by
    cases b <;> first | (simp [D.alk] at l; done) | skip
    rw [toPy, D.ltb]
    · unfold PySem.W.dataLt
      simp only [PySem.W.keyToks, PyProof.Rows.lex_irrefl]
    all_goals simp
  | n, m, .bl x, b, h, k, l => by
    cases b <;> first | (simp [D.alk] at l; done) | skip
    rename_i y
    rw [toPy, toPy, PySem.W.dataLt_bool, D.ltb]
    cases x <;> cases y <;> rfl
  | n, m, .int x, b, h, k, l => by
    cases b <;> first | (simp [D.alk] at l; done) | skip
    rw [toPy, toPy, PySem.W.dataLt_int, D.ltb]
  | n, m, .str x, b, h, k, l => by
    cases b <;> first | (simp [D.alk] at l; done) | skip
    rw [toPy, toPy, PySem.W.dataLt_str, D.ltb]
theorem ltbs_py : ∀ (n m : Nat) (a b : List D), D.oks n a = true → D.oks m b = true → D.alks a b = true → PyProof.Rows.lexLt PyProof.Rows.itemOrd (PySem.W.keyToksAll (toPys a)) (PySem.W.keyToksAll (toPys b)) = D.ltbs a b
  | n, m, [], [], h, k, l => by simp [toPys, PySem.W.keyToksAll, PyProof.Rows.lex_irrefl, D.ltbs]
  | n, m, [], y :: ys, h, k, l => by
    rw [toPys, toPys, PySem.W.toks_all_cons, D.ltbs]
    simp only [PySem.W.keyToksAll]
    rw [PyProof.Rows.lex_diff (O := PyProof.Rows.itemOrd) (by simp)]
    simp [PyProof.Rows.itemLt]
  | n, m, x :: xs, [], h, k, l => by
    rw [toPys, toPys, PySem.W.toks_all_cons, D.ltbs]
    simp only [PySem.W.keyToksAll]
    rw [PyProof.Rows.lex_diff (O := PyProof.Rows.itemOrd) (by simp)]
    simp [PyProof.Rows.itemLt]
  | n, m, x :: xs, y :: ys, h, k, l => by
    rw [D.oks, Bool.and_eq_true] at h k
    rw [D.alks, Bool.and_eq_true] at l
    rw [toPys, toPys, D.ltbs]
    have e1 := eqv_py n m x y h.1 k.1
    have l1 : PySem.W.alike (toPy x) (toPy y) = true := by rw [alk_py n m x y h.1 k.1]; exact l.1
    cases e : D.eqv x y with
    | true =>
      rw [PySem.W.dataLt_all_yes l1 (by rw [e1]; exact e), if_pos rfl]
      exact ltbs_py n m xs ys h.2 k.2 l.2
    | false =>
      rw [PySem.W.dataLt_all_no l1 (by rw [e1]; exact e), if_neg (by simp)]
      exact ltb_py n m x y h.1 k.1 l.1
end
theorem toPy_nn {n : Nat} {d : D} (h : D.ok n d = true) (hn : isNon d = false) : toPy d ≠ .none := by
  cases d <;> first | (simp [toPy]; done) | (simp [isNon] at hn; done) | (simp [D.ok] at h; done)
def cop : COp → CmpOp
  | .eq => .Eq
  | .ne => .NotEq
  | .lt => .Lt
  | .le => .LtE
  | .gt => .Gt
  | .ge => .GtE
  | .isin => .In
  | .nin => .NotIn
  | .is => .Is
  | .isn => .IsNot
section
variable {X : Cx} {pins : List (Addr × Obj)} {σ : L2.St} {H : Hp} {s : Shared} {g : Gh} {st : DSt} {Q : VK}
theorem room_in {n m : Nat} {x : D} {ys : List D} (hx : D.ok n x = true) (hn : n ≤ 64) (hu : X.A.units + 65 < cLine) : X.A.units + 1 + min (PyData.depthAll (toPys ys)) (toPy x).depth < cLine := by
  have h1 := (ok_lay n x hx).2
  have h2 : min (PyData.depthAll (toPys ys)) (toPy x).depth ≤ (toPy x).depth := Nat.min_le_right _ _
  omega
theorem in_ok {b d : D} {a : Bool} {x y : V} {u v : Value} (hu : X.A.units + 65 < cLine) (h : inD d b = some a) (I : Inv X pins σ H s) (ra : RelT X.K X.w g H d x) (rb : RelT X.K X.w g H b y)
    (rx : RelV x u) (ry : RelV y v) (neg : Bool) (P : Q (.bl (neg ^^ a)) H) : wpAny (model X.prog X.w) X.A (compareOp (if neg then .NotIn else .In) u v) (EP X pins σ Q) X.xe s := by
  unfold inD at h
  split at h
  · cases h
    cases neg with
    | false => exact op_in_sign pins s σ H _ _ u v Q I rx ry ⟨_, _, ra.str, rb.str, by simpa using P⟩
    | true => exact op_notIn_sign pins s σ H _ _ u v Q I rx ry ⟨_, _, ra.str, rb.str, by simpa using P⟩
  · unfold memD at h
    split at h
    · cases h
      rename_i ys hz
      rw [Bool.and_eq_true] at hz
      have so : D.ok 61 (.lst ys) = true := by rw [D.ok]; simpa using hz.2
      have e := any_py hz.1 hz.2
      cases neg with
      | false => exact op_inD hu pins s σ H _ _ u v Q I rx ry ⟨toPy d, toPys ys, dp_t hz.1 ra, by have := dp_t so rb; rwa [toPy] at this, ok_shaped hz.1 (by decide), by have := ok_shaped so (by decide); rwa [toPy] at this, by rw [e]; simpa using P⟩
      | true => exact op_notInD hu pins s σ H _ _ u v Q I rx ry ⟨toPy d, toPys ys, dp_t hz.1 ra, by have := dp_t so rb; rwa [toPy] at this, ok_shaped hz.1 (by decide), by have := ok_shaped so (by decide); rwa [toPy] at this, by rw [e]; simpa using P⟩
    · cases h
  · unfold memD at h
    split at h
    · cases h
      rename_i ys hz
      rw [Bool.and_eq_true] at hz
      have so : D.ok 61 (.tup ys) = true := by rw [D.ok]; simpa using hz.2
      have e := any_py hz.1 hz.2
      obtain ⟨as, r1⟩ := Dp.reads I _ x u (dp_t hz.1 ra) rx
      obtain ⟨bs, r2⟩ := Dp.reads I _ y v (dp_t so rb) ry
      rw [toPy] at r2
      have l1 := (ok_lay _ _ hz.1).1
      have l2 := (ok_lays _ _ hz.2).1
      have rm := room_in (X := X) (m := 0) (ys := ys) hz.1 (by decide) hu
      cases neg with
      | false => exact SeqAt.in_tuple_reads r2 r1 l2 l1 rm ⟨.bl _, H, I, rfl, by rw [e]; simpa using P⟩
      | true => exact SeqAt.notIn_tuple_reads r2 r1 l2 l1 rm ⟨.bl _, H, I, rfl, by rw [e]; simpa using P⟩
    · cases h
  · split at h
    · rename_i hz
      cases h
      have rd : RelD X.K X.w g H d x := RelT.toD ra (by
        obtain ⟨⟨⟨m, m1⟩, _⟩, _⟩ := fitK_of hz
        intro e
        cases d <;> first | (simp [nkey] at m1; done) | rfl)
      obtain ⟨p, es, rfl, hp, hd, hr⟩ := rb.dct
      cases (show v = Value.ref p from ry)
      cases neg with
      | false => exact dd_in hu I hp hd hr hz rd rx fun s' I' => ⟨.bl _, H, I', rfl, by simpa using P⟩
      | true => exact dd_nin hu I hp hd hr hz rd rx fun s' I' => ⟨.bl _, H, I', rfl, by simpa using P⟩
    · split at h
      · rename_i hz
        cases h
        rw [Bool.and_eq_true] at hz
        obtain ⟨p, es, rfl, hp, hd, hr⟩ := rb.dct
        cases (show v = Value.ref p from ry)
        obtain ⟨xs, q1, q2⟩ := dk_tup I hp hd hr fun k hk => by simpa using List.all_eq_true.mp hz.2 k hk
        have e : u = Value.none := by
          cases d <;> simp [isNon] at hz
          cases ra.non
          exact rx
        subst e
        cases neg with
        | false => exact none_in hu (raw_at I hp).2 q2 (tup_keys q1) fun t => ⟨.bl _, H, I.tok _, rfl, by simpa using P⟩
        | true => exact none_nin hu (raw_at I hp).2 q2 (tup_keys q1) fun t => ⟨.bl _, H, I.tok _, rfl, by simpa using P⟩
      · cases h
  · cases h
theorem view_nref {st : DSt} {d u : D} (h : view st d = some u) : ∀ k, u ≠ .ref k := fun k e => by
  subst e
  cases d with
  | ref j =>
    unfold view at h
    simp only at h
    split at h <;> cases h
  | _ =>
    unfold view at h
    cases h
theorem isNon_rel {a : D} {x : V} (ra : RelT X.K X.w g H a x) (hr : ∀ k, a ≠ .ref k) : decide (x = .non) = isNon a := by
  cases a with
  | non => rw [ra.non]; rfl
  | bl b => rw [ra.bl]; rfl
  | int b => rw [ra.int]; rfl
  | str b => rw [ra.str]; rfl
  | tup b => obtain ⟨_, _, rfl, _⟩ := ra.tup; rfl
  | lst b => obtain ⟨_, _, rfl, _⟩ := ra.lst; rfl
  | dct b => obtain ⟨_, _, rfl, _⟩ := ra; rfl
  | ref k => exact absurd rfl (hr k)
  | fn k => exact (show False by have r : RelD X.K X.w g H (.fn k) x := ra; rwa [RelD] at r).elim
theorem lt_ok {b d : D} {a : Bool} {x y : V} {u v : Value} (hu : X.A.units + 65 < cLine) (h : ltD d b = some a) (I : Inv X pins σ H s) (ra : RelT X.K X.w g H d x) (rb : RelT X.K X.w g H b y)
    (rx : RelV x u) (ry : RelV y v) (P : Q (.bl a) H) : wpAny (model X.prog X.w) X.A (compareOp .Lt u v) (EP X pins σ Q) X.xe s := by
  unfold ltD at h
  split at h
  · cases h
    exact op_lt pins s σ H _ _ u v Q I rx ry ⟨_, _, ra.int, rb.int, P⟩
  · split at h
    · rename_i hz
      cases h
      unfold cmpOk at hz
      simp only [Bool.and_eq_true, Bool.not_eq_true'] at hz
      obtain ⟨⟨⟨z1, z2⟩, z3, z4⟩, z5, z6⟩ := hz
      obtain ⟨as, r1⟩ := Dp.reads I _ x u (dp_t z1 ra) rx
      obtain ⟨bs, r2⟩ := Dp.reads I _ y v (dp_t z2 rb) ry
      have l1 := (ok_lay _ _ z1).2
      refine PySem.W.lt_data r1 r2 (by rw [alk_py _ _ _ _ z1 z2]; exact z3) (toPy_nn z1 z5) ?_ ⟨.bl _, H, I, rfl, ?_⟩
      · have := Nat.min_le_left (toPy d).depth (toPy b).depth
        omega
      · rw [ltb_py _ _ _ _ z1 z2 z3]
        exact P
    · cases h
theorem gt_ok {b d : D} {a : Bool} {x y : V} {u v : Value} (hu : X.A.units + 65 < cLine) (h : ltD b d = some a) (I : Inv X pins σ H s) (ra : RelT X.K X.w g H d x) (rb : RelT X.K X.w g H b y)
    (rx : RelV x u) (ry : RelV y v) (P : Q (.bl a) H) : wpAny (model X.prog X.w) X.A (compareOp .Gt u v) (EP X pins σ Q) X.xe s := by
  unfold ltD at h
  split at h
  · cases h
    exact op_gt pins s σ H _ _ u v Q I rx ry ⟨_, _, ra.int, rb.int, P⟩
  · split at h
    · rename_i hz
      cases h
      unfold cmpOk at hz
      simp only [Bool.and_eq_true, Bool.not_eq_true'] at hz
      obtain ⟨⟨⟨z1, z2⟩, z3, z4⟩, z5, z6⟩ := hz
      obtain ⟨as, r1⟩ := Dp.reads I _ x u (dp_t z2 ra) rx
      obtain ⟨bs, r2⟩ := Dp.reads I _ y v (dp_t z1 rb) ry
      have l1 := (ok_lay _ _ z2).2
      refine PySem.W.gt_data r1 r2 (by rw [alk_py _ _ _ _ z2 z1]; exact z4) (toPy_nn z2 z6) ?_ ⟨.bl _, H, I, rfl, ?_⟩
      · have := Nat.min_le_left (toPy d).depth (toPy b).depth
        omega
      · rw [ltb_py _ _ _ _ z1 z2 z3]
        exact P
    · cases h
theorem le_ok {b d : D} {a : Bool} {x y : V} {u v : Value} (hu : X.A.units + 65 < cLine) (h : leD d b = some a) (I : Inv X pins σ H s) (ra : RelT X.K X.w g H d x) (rb : RelT X.K X.w g H b y)
    (rx : RelV x u) (ry : RelV y v) (P : Q (.bl a) H) : wpAny (model X.prog X.w) X.A (compareOp .LtE u v) (EP X pins σ Q) X.xe s := by
  unfold leD at h
  split at h
  · cases h
    exact op_le pins s σ H _ _ u v Q I rx ry ⟨_, _, ra.int, rb.int, P⟩
  · split at h
    · rename_i hz
      cases h
      unfold cmpOk at hz
      simp only [Bool.and_eq_true, Bool.not_eq_true'] at hz
      obtain ⟨⟨⟨z1, z2⟩, z3, z4⟩, z5, z6⟩ := hz
      obtain ⟨as, r1⟩ := Dp.reads I _ x u (dp_t z1 ra) rx
      obtain ⟨bs, r2⟩ := Dp.reads I _ y v (dp_t z2 rb) ry
      have l1 := (ok_lay _ _ z1).2
      refine PySem.W.le_data r1 r2 (by rw [alk_py _ _ _ _ z1 z2]; exact z3) (toPy_nn z1 z5) ?_ ⟨.bl _, H, I, rfl, ?_⟩
      · have := Nat.min_le_left (toPy d).depth (toPy b).depth
        omega
      · rw [ltb_py _ _ _ _ z2 z1 z4]
        exact P
    · cases h
theorem ge_ok {b d : D} {a : Bool} {x y : V} {u v : Value} (hu : X.A.units + 65 < cLine) (h : leD b d = some a) (I : Inv X pins σ H s) (ra : RelT X.K X.w g H d x) (rb : RelT X.K X.w g H b y)
    (rx : RelV x u) (ry : RelV y v) (P : Q (.bl a) H) : wpAny (model X.prog X.w) X.A (compareOp .GtE u v) (EP X pins σ Q) X.xe s := by
  unfold leD at h
  split at h
  · cases h
    exact op_ge pins s σ H _ _ u v Q I rx ry ⟨_, _, ra.int, rb.int, P⟩
  · split at h
    · rename_i hz
      cases h
      unfold cmpOk at hz
      simp only [Bool.and_eq_true, Bool.not_eq_true'] at hz
      obtain ⟨⟨⟨z1, z2⟩, z3, z4⟩, z5, z6⟩ := hz
      obtain ⟨as, r1⟩ := Dp.reads I _ x u (dp_t z2 ra) rx
      obtain ⟨bs, r2⟩ := Dp.reads I _ y v (dp_t z1 rb) ry
      have l1 := (ok_lay _ _ z2).2
      refine PySem.W.ge_data r1 r2 (by rw [alk_py _ _ _ _ z2 z1]; exact z4) (toPy_nn z2 z6) ?_ ⟨.bl _, H, I, rfl, ?_⟩
      · have := Nat.min_le_left (toPy d).depth (toPy b).depth
        omega
      · rw [ltb_py _ _ _ _ z2 z1 z4]
        exact P
    · cases h
theorem cmp_ok {op : COp} {b d : D} {a : Bool} {x y : V} {u v : Value} (hu : X.A.units + 65 < cLine) (h : cmpD op d b = some a) (hr : ∀ k, d ≠ .ref k) (I : Inv X pins σ H s) (ra : RelT X.K X.w g H d x) (rb : RelT X.K X.w g H b y)
    (rx : RelV x u) (ry : RelV y v) (P : Q (.bl a) H) : wpAny (model X.prog X.w) X.A (compareOp (cop op) u v) (EP X pins σ Q) X.xe s := by
  unfold cmpD at h
  split at h
  · split at h
    · cases h
      rename_i hz
      rw [Bool.and_eq_true] at hz
      exact op_eqD (by omega) pins s σ H _ _ u v Q I rx ry ⟨toPy d, toPy b, dp_t hz.1 ra, dp_t hz.2 rb, ok_shaped hz.1 (by decide), ok_shaped hz.2 (by decide), by rw [eqv_py _ _ _ _ hz.1 hz.2]; exact P⟩
    · cases h
  · split at h
    · cases h
      rename_i hz
      rw [Bool.and_eq_true] at hz
      exact op_neD (by omega) pins s σ H _ _ u v Q I rx ry ⟨toPy d, toPy b, dp_t hz.1 ra, dp_t hz.2 rb, ok_shaped hz.1 (by decide), ok_shaped hz.2 (by decide), by rw [eqv_py _ _ _ _ hz.1 hz.2]; exact P⟩
    · cases h
  · exact lt_ok hu h I ra rb rx ry P
  · exact le_ok hu h I ra rb rx ry P
  · exact gt_ok hu h I ra rb rx ry P
  · exact ge_ok hu h I ra rb rx ry P
  · exact in_ok hu h I ra rb rx ry false (by simpa using P)
  · cases hi : inD d b with
    | none => rw [hi] at h; cases h
    | some c =>
      rw [hi] at h
      cases h
      exact in_ok hu hi I ra rb rx ry true (by simpa using P)
  · cases h
    exact op_isN pins s σ H _ _ u v Q I rx ry ⟨rb.non, by rw [isNon_rel ra hr]; exact P⟩
  · cases h
    exact op_notN pins s σ H _ _ u v Q I rx ry ⟨rb.non, by rw [isNon_rel ra hr]; exact P⟩
  · cases h
    exact op_isBl pins s σ H _ _ u v Q I rx ry ⟨_, _, ra.bl, rb.bl, by rw [← Bool.beq_eq_decide_eq]; exact P⟩
  · cases h
    exact op_notBl pins s σ H _ _ u v Q I rx ry ⟨_, _, ra.bl, rb.bl, by rw [← Bool.beq_eq_decide_eq]; exact P⟩
  · cases h
end
end Py

set_option Elab.async false
set_option linter.all false
set_option maxRecDepth 100000
set_option autoImplicit false
set_option maxHeartbeats 1000000
namespace Py
open PySem PySem.Spec L2

/-- a def that may be called: its name, how many arguments, whether what it gives is new, its value -/
structure DFn where
  name : Str
  ar : Nat
  fr : Bool
  F : List D → DSt → Option (D × DSt)
def gam (L : List DFn) : Nat → List D → DSt → Option (D × DSt) := fun f ds st => match L[f]? with
  | some e => e.F ds st
  | none => none
/-- what makes new lists (dicts) -/
def frsh (L : List DFn) : IE → Bool
  | .lst _ => true
  | .lc .. => true
  | .lc2 .. => true
  | .dct .. => true
  | .bin .add _ _ => true
  | .bin .mul _ _ => true
  | .bi .list _ => true
  | .bi .lrange1 _ => true
  | .bi .lrange2 _ => true
  | .bi .sorted _ => true
  | .bi .sortset _ => true
  | .bi .dict _ => true
  | .sl .. => true
  | .rev .. => true
  | .mth .split _ _ => true
  | .call f _ => match L[f]? with
    | some e => e.fr
    | none => false
  | _ => false
/-- a def's promise -/
def SpOf (K : PySem.W.Frag) (w : World) (n : Nat) (F : List D → DSt → Option (D × DSt)) (fr : Bool) : Sp := fun vs H Q _ =>
  ∃ g st ds d st', StOk K w g H st ∧ RelDs K w g H ds vs ∧ ds.length = n ∧ F ds st = some (d, st') ∧ Post K w fr g H st' d Q
structure FnS (P : Program) (w : World) (K : PySem.W.Frag) (mg : Str → Option Value) (base : Heap) (k : Nat) (e : DFn) : Prop where
  ex : ∃ f fd ps, mg e.name = some (.ref f) ∧ PySem.W.keepIn K (.ref f) = true ∧ Binds K fd ps [] ∧ FnOk P w K mg base CX0 k f fd ps (SpOf K w e.ar e.F e.fr)
def bnames : List Str := ["len", "tuple", "list", "all", "any", "sorted", "min", "max", "abs", "int", "str", "sum", "dict", "range", "enumerate", "zip", "isinstance", "bool", "set", "reversed"]
/-- where a text of ours stands -/
structure XOk (X : Cx) (k : Nat) (L : List DFn) (gl : List Str) (G : List D) : Prop where
  calm : X.calm = true
  nd : X.N.Nodup
  xe : X.xe = fun _ _ => False
  room : Room k X.A
  fns : ∀ (i : Nat) e, L[i]? = some e → FnS X.prog X.w X.K X.mg X.base k e
  bs : ∀ x ∈ bnames, X.mg x = none
  gls : ∀ (i : Nat) x d, gl[i]? = some x → G[i]? = some d → ∃ u v, X.mg x = some u ∧ RelV v u ∧ ∀ g H, RelD X.K X.w g H d v
theorem XOk.blk {X : Cx} {k : Nat} {L : List DFn} {gl : List Str} {G : List D} (h : XOk X k L gl G) (s : Shared) (H : Hp) (scope : Scope) (cenv : Env) (fp : List Addr) : XOk (X.blk s H scope cenv fp) k L gl G :=
  ⟨h.calm, h.nd, rfl, h.room, h.fns, h.bs, h.gls⟩

section
variable (L : List DFn) (G : List D) (X : Cx)
def SE (e : Expr) (ie : IE) : Prop := ∀ (σ : L2.St) (H : Hp) (g : Gh) (env : DEnv) (st : DSt) (d : D) (st' : DSt) (Q : VK),
  EnvR X.K X.w g H env σ → StOk X.K X.w g H st → evE (gam L) G ie env st = some (d, st') → Post X.K X.w (frsh L ie) g H st' d Q → wpE X e σ H Q
def ST (e : Expr) (ie : IE) : Prop := ∀ (σ : L2.St) (H : Hp) (g : Gh) (env : DEnv) (st : DSt) (b : Bool) (st' : DSt) (Q : Bool → Hp → Prop),
  EnvR X.K X.w g H env σ → StOk X.K X.w g H st → evE (gam L) G ie env st = some (.bl b, st') → (∀ H' g', Ext g H g' H' → StOk X.K X.w g' H' st' → Q b H') → wpT X e σ H Q
def SA (es : List Expr) (ies : IEs) : Prop := ∀ (σ : L2.St) (H : Hp) (g : Gh) (env : DEnv) (st : DSt) (ds : List D) (st' : DSt) (Q : List V → Hp → Prop),
  EnvR X.K X.w g H env σ → StOk X.K X.w g H st → evEs (gam L) G ies env st = some (ds, st') → (∀ vs H' g', Ext g H g' H' → StOk X.K X.w g' H' st' → RelDs X.K X.w g' H' ds vs → Q vs H') → wpA X es σ H Q
end
/-- not starred -/
def plainE : Expr → Bool
  | .Starred .. => false
  | _ => true
theorem star_cons {e : Expr} {es : List Expr} {env : Env} (h : plainE e = true) : starEach (e :: es) env = (false, eval e env) :: starEach es env := by
  cases e <;> first | rfl | (simp [plainE] at h)
theorem star_all {es : List Expr} {env : Env} {pos : Pos} (h : es.all plainE = true) : (backTo pos (starEach es env)).any (·.1) = false := by
  induction es with
  | nil => rfl
  | cons e es ih =>
    rw [List.all_cons, Bool.and_eq_true] at h
    rw [star_cons h.1]
    show (false || (backTo pos (starEach es env)).any (·.1)) = false
    rw [ih h.2]
    rfl
section
variable {L : List DFn} {G : List D} {X : Cx}
theorem bindS {α β : Type} {o : Option α} {f : α → Option β} {b : β} (h : o.bind f = some b) : ∃ a, o = some a ∧ f a = some b := by
  cases o with
  | none => cases h
  | some a => exact ⟨a, rfl, h⟩
/-- as a test: any expression but and, or, not, if-else, comparisons -/
theorem st_val {e : Expr} {ie : IE} (h : SE L G X e ie) (he : ∀ whole, isTrue e X.env whole = (do let v ← whole; standAt e.pos; holding [v] (truthy v))) : ST L G X e ie := by
  intro σ H g env st b st' Q hE hS hev hQ
  refine le_T (pt_val pe_wp he) ?_
  refine h σ H g env st _ st' _ hE hS hev fun v H' g' x s r _ => ?_
  rw [RelD] at r
  exact ⟨b, r, hQ H' g' x s⟩
/-- a value that is no test: where the test is told -/
theorem se_test {e : Expr} {ie : IE} {d : D} (hb : D) : True := trivial
theorem se_int {i : Int} {j : Nat} {pos : Pos} : SE L G X (.Constant (.int i) j pos) (.cst (.int i)) := by
  intro σ H g env st d st' Q hE hS hev P
  cases hev
  exact le_E pe_int (P.val hS relD_int fun _ => rfl)
theorem se_bl {i : Bool} {j : Nat} {pos : Pos} : SE L G X (.Constant (.bool i) j pos) (.cst (.bl i)) := by
  intro σ H g env st d st' Q hE hS hev P
  cases hev
  exact le_E pe_bl (P.val hS relD_bl fun _ => rfl)
theorem se_non {j : Nat} {pos : Pos} : SE L G X (.Constant .none j pos) (.cst .non) := by
  intro σ H g env st d st' Q hE hS hev P
  cases hev
  exact le_E pe_non (P.val hS relD_non fun _ => rfl)
theorem se_str {x : Str} {cs : List Nat} {j : Nat} {pos : Pos} (h : x.cps.toList = cs) : SE L G X (.Constant (.str x) j pos) (.cst (.str cs)) := by
  intro σ H g env st d st' Q hE hS hev P
  cases hev
  have e : x = ⟨cs.toArray⟩ := by
    subst h
    cases x
    rfl
  subst e
  exact le_E pe_str (P.val hS relD_str fun _ => rfl)
theorem se_var {i : Nat} {x : Str} {pos : Pos} (hN : X.N[i]? = some x) (hv : Vis X.env.scope x) (hd : (x == ("__debug__" : Str)) = false) (hcd : (x == ("__classdict__" : Str)) = false) : SE L G X (.Name x pos) (.var i) := by
  intro σ H g env st d st' Q hE hS hev P
  rw [evE] at hev
  split at hev
  · rename_i d' hd'
    cases hev
    obtain ⟨v, h1, h2⟩ := hE.get i _ hd'
    refine le_E (pe_var hN hv hd hcd) ⟨v, h1, ?_⟩
    exact P v H g (Ext.refl g H) hS h2 fun hb => by cases hb
  · cases hev
theorem se_glb {i : Nat} {x : Str} {pos : Pos} {k : Nat} {gl : List Str} (hX : XOk X k L gl G) (hi : gl[i]? = some x) (hg : Gl X x) (hd : (x == ("__debug__" : Str)) = false) : SE L G X (.Name x pos) (.glb i) := by
  intro σ H g env st d st' Q hE hS hev P
  rw [evE] at hev
  split at hev
  · rename_i d' hd'
    cases hev
    obtain ⟨u, v, h1, h2, h3⟩ := hX.gls i x _ hi hd'
    refine le_E (pe_glob hg h1 h2 hd) ?_
    exact P v H g (Ext.refl g H) hS (h3 g H) fun hb => by cases hb
  · cases hev
theorem sa_nil : SA L G X [] .nil := by
  intro σ H g env st ds st' Q hE hS hev hQ
  rw [evEs] at hev
  cases hev
  exact le_A pa_nil (hQ [] H g (Ext.refl g H) hS RelDs.nil)
theorem sa_cons {e : Expr} {es : List Expr} {ie : IE} {ies : IEs} (h1 : SE L G X e ie) (h2 : SA L G X es ies) (hp : plainE e = true) : SA L G X (e :: es) (.cons ie ies) := by
  intro σ H g env st ds st' Q hE hS hev hQ
  rw [evEs] at hev
  obtain ⟨⟨d, st1⟩, e1, hev⟩ := bindS hev
  obtain ⟨⟨r, st2⟩, e2, hev⟩ := bindS hev
  cases hev
  refine le_A (pa_cons pe_wp pa_wp (star_cons hp)) ?_
  refine h1 σ H g env st d st1 _ hE hS e1 fun v H1 g1 x1 s1 r1 _ => ?_
  refine h2 σ H1 g1 env st1 r st2 _ (hE.ext x1) s1 e2 fun vs H2 g2 x2 s2 r2 => ?_
  exact hQ _ H2 g2 (x1.trans x2) s2 (RelDs.cons (r1.ext x2) r2)
theorem se_tup {es : List Expr} {ies : IEs} {j : Nat} {pos : Pos} (h : SA L G X es ies) : SE L G X (.Tuple es j pos) (.tup ies) := by
  intro σ H g env st d st' Q hE hS hev P
  rw [evE] at hev
  obtain ⟨⟨ds, st1⟩, e1, hev⟩ := bindS hev
  split at hev
  · rename_i hz
    cases hev
    refine le_E (pe_tup pa_wp) ?_
    refine h σ H g env st ds st1 _ hE hS e1 fun vs H1 g1 x1 s1 r1 => ⟨by rw [← r1.length]; exact sz_le hz, ?_⟩
    exact (P.mono x1).tup s1 r1
  · cases hev
theorem se_lst {es : List Expr} {ies : IEs} {pos : Pos} (h : SA L G X es ies) : SE L G X (.List es pos) (.lst ies) := by
  intro σ H g env st d st' Q hE hS hev P
  rw [evE] at hev
  obtain ⟨⟨ds, st1⟩, e1, hev⟩ := bindS hev
  split at hev
  · rename_i hz
    cases hev
    refine le_E (pe_lst pa_wp) ?_
    refine h σ H g env st ds st1 _ hE hS e1 fun vs H1 g1 x1 s1 r1 => ⟨by rw [← r1.length]; exact sz_le hz, ?_⟩
    exact (P.mono x1).lst s1 r1
  · cases hev
/-- by values -/
def rBin (X : Cx) (op : BOp) : R2 := fun x y H Q => ∃ g st a b d fr, StOk X.K X.w g H st ∧ RelT X.K X.w g H a x ∧ RelT X.K X.w g H b y ∧ binD op a b = some d ∧ Post X.K X.w fr g H st d Q
theorem op_rBin (op : BOp) : OpR X (binaryOp (bop op)) (rBin X op) := by
  intro pins s σ H x y v u Q I rx ry ⟨g, st, a, b, d, fr, S, ra, rb, h, P⟩
  exact bin_ok h I S ra rb rx ry P
theorem frsh_bin {op : BOp} {a b : IE} {d x y : D} (h : binD op x y = some d) (hf : frsh L (.bin op a b) = false) : d.flat = true := by
  cases op <;> first | (simp [frsh] at hf; done) | (cases x <;> cases y <;> simp only [binD] at h <;> first | (cases h; done) | (cases h; rfl) | (split at h <;> first | (cases h; done) | (cases h; rfl)))
theorem se_bin {a b : Expr} {ia ib : IE} {op : BOp} {o : Operator} {pos : Pos} (ho : o = bop op) (ha : SE L G X a ia) (hb : SE L G X b ib) : SE L G X (.BinOp a o b pos) (.bin op ia ib) := by
  subst ho
  intro σ H g env st d st' Q hE hS hev P
  rw [evE] at hev
  obtain ⟨⟨x, st1⟩, e1, hev⟩ := bindS hev
  obtain ⟨⟨y, st2⟩, e2, hev⟩ := bindS hev
  obtain ⟨u, e3, hev⟩ := bindS hev
  obtain ⟨v, e4, hev⟩ := bindS hev
  obtain ⟨d', e5, hev⟩ := bindS hev
  cases hev
  refine le_E (pe_op (op_rBin op) pe_wp pe_wp) ?_
  refine ha σ H g env st x st1 _ hE hS e1 fun vx H1 g1 x1 s1 r1 _ => ?_
  refine hb σ H1 g1 env st1 y st2 _ (hE.ext x1) s1 e2 fun vy H2 g2 x2 s2 r2 _ => ?_
  exact ⟨g2, st2, u, v, d, _, s2, view_t e3 s2 (r1.ext x2), view_t e4 s2 r2, e5, P.mono (x1.trans x2)⟩
theorem se_neg {a : Expr} {ia : IE} {pos : Pos} (ha : SE L G X a ia) : SE L G X (.UnaryOp .USub a pos) (.neg ia) := by
  intro σ H g env st d st' Q hE hS hev P
  rw [evE] at hev
  obtain ⟨⟨x, st1⟩, e1, hev⟩ := bindS hev
  split at hev
  · rename_i i hx
    cases hev
    simp only at hx
    subst hx
    refine le_E (pe_un un_neg pe_wp) ?_
    refine ha σ H g env st _ st1 _ hE hS e1 fun vx H1 g1 x1 s1 r1 _ => ?_
    rw [RelD] at r1
    exact ⟨i, r1, (P.mono x1).val s1 relD_int fun _ => rfl⟩
  · cases hev
def rCmp (X : Cx) (op : COp) : R2 := fun x y H Q => ∃ (g : Gh) (st : DSt) (a b : D) (d : Bool), StOk X.K X.w g H st ∧ RelT X.K X.w g H a x ∧ RelT X.K X.w g H b y ∧ (∀ k, a ≠ .ref k) ∧ cmpD op a b = some d ∧ Q (.bl d) H
theorem op_rCmp {k : Nat} (hr : Room k X.A) (op : COp) : OpR X (compareOp (cop op)) (rCmp X op) := by
  intro pins s σ H x y v u Q I rx ry ⟨g, st, a, b, d, S, ra, rb, hn, h, P⟩
  exact cmp_ok (by have := hr.un; omega) h hn I ra rb rx ry P
theorem se_cmp {a b : Expr} {ia ib : IE} {op : COp} {o : CmpOp} {pos : Pos} {k : Nat} (hr : Room k X.A) (ho : o = cop op) (hm : behindInMarks o b = false) (ha : SE L G X a ia) (hb : SE L G X b ib) :
    SE L G X (.Compare a [o] [b] pos) (.cmp op ia ib) ∧ ST L G X (.Compare a [o] [b] pos) (.cmp op ia ib) := by
  subst ho
  refine ⟨fun σ H g env st d st' Q hE hS hev P => ?_, fun σ H g env st d st' Q hE hS hev P => ?_⟩
  · rw [evE] at hev
    obtain ⟨⟨x, st1⟩, e1, hev⟩ := bindS hev
    obtain ⟨⟨y, st2⟩, e2, hev⟩ := bindS hev
    obtain ⟨u, e3, hev⟩ := bindS hev
    obtain ⟨v, e4, hev⟩ := bindS hev
    obtain ⟨d', e5, hev⟩ := bindS hev
    cases hev
    refine le_E (pe_cmpR (op_rCmp hr op) pe_wp pe_wp hm) ?_
    refine ha σ H g env st x st1 _ hE hS e1 fun vx H1 g1 x1 s1 r1 _ => ?_
    refine hb σ H1 g1 env st1 y st2 _ (hE.ext x1) s1 e2 fun vy H2 g2 x2 s2 r2 _ => ?_
    exact ⟨g2, st2, u, v, d', s2, view_t e3 s2 (r1.ext x2), view_t e4 s2 r2, view_nref e3, e5, (P.mono (x1.trans x2)).val s2 relD_bl fun _ => rfl⟩
  · rw [evE] at hev
    obtain ⟨⟨x, st1⟩, e1, hev⟩ := bindS hev
    obtain ⟨⟨y, st2⟩, e2, hev⟩ := bindS hev
    obtain ⟨u, e3, hev⟩ := bindS hev
    obtain ⟨v, e4, hev⟩ := bindS hev
    obtain ⟨d', e5, hev⟩ := bindS hev
    cases hev
    refine le_T (pt_cmpR (op_rCmp hr op) pe_wp pe_wp hm) ?_
    refine ha σ H g env st x st1 _ hE hS e1 fun vx H1 g1 x1 s1 r1 _ => ?_
    refine hb σ H1 g1 env st1 y st2 _ (hE.ext x1) s1 e2 fun vy H2 g2 x2 s2 r2 _ => ?_
    exact ⟨g2, st2, u, v, d, s2, view_t e3 s2 (r1.ext x2), view_t e4 s2 r2, view_nref e3, e5, d, rfl, P H2 g2 (x1.trans x2) s2⟩
theorem se_chn {a b c : Expr} {ia ib ic : IE} {op op' : COp} {o o' : CmpOp} {pos : Pos} {k : Nat} (hr : Room k X.A) (ho : o = cop op) (ho' : o' = cop op') (hm : lastMarks [o, o'] [b, c] = false) (ha : SE L G X a ia) (hb : SE L G X b ib) (hc : SE L G X c ic) :
    SE L G X (.Compare a [o, o'] [b, c] pos) (.chn op op' ia ib ic) ∧ ST L G X (.Compare a [o, o'] [b, c] pos) (.chn op op' ia ib ic) := by
  subst ho ho'
  have key : ∀ (σ : L2.St) (H : Hp) (g : Gh) (env : DEnv) (st : DSt) (d : D) (st' : DSt) (Q : VK), EnvR X.K X.w g H env σ → StOk X.K X.w g H st → evE (gam L) G (.chn op op' ia ib ic) env st = some (d, st') →
      (∀ b H' g', d = .bl b → Ext g H g' H' → StOk X.K X.w g' H' st' → Q (.bl b) H') → tChain (rCmp X op) (rCmp X op') (wpE X a) (wpE X b) (wpE X c) σ H Q := by
    intro σ H g env st d st' Q hE hS hev P
    rw [evE] at hev
    obtain ⟨⟨x, st1⟩, e1, hev⟩ := bindS hev
    obtain ⟨⟨y, st2⟩, e2, hev⟩ := bindS hev
    obtain ⟨u, e3, hev⟩ := bindS hev
    obtain ⟨v, e4, hev⟩ := bindS hev
    obtain ⟨d', e5, hev⟩ := bindS hev
    refine ha σ H g env st x st1 _ hE hS e1 fun vx H1 g1 x1 s1 r1 _ => ?_
    refine hb σ H1 g1 env st1 y st2 _ (hE.ext x1) s1 e2 fun vy H2 g2 x2 s2 r2 _ => ?_
    refine ⟨g2, st2, u, v, d', s2, view_t e3 s2 (r1.ext x2), view_t e4 s2 r2, view_nref e3, e5, d', rfl, ?_⟩
    cases d' with
    | false =>
      rw [if_neg (by simp)] at hev
      cases hev
      rw [if_neg (by simp)]
      exact P false H2 g2 rfl (x1.trans x2) s2
    | true =>
      rw [if_pos rfl] at hev ⊢
      obtain ⟨⟨z, st3⟩, e6, hev⟩ := bindS hev
      obtain ⟨u', e7, hev⟩ := bindS hev
      obtain ⟨v', e8, hev⟩ := bindS hev
      obtain ⟨d2, e9, hev⟩ := bindS hev
      cases hev
      refine hc σ H2 g2 env st2 z st3 _ (hE.ext (x1.trans x2)) s2 e6 fun vz H3 g3 x3 s3 r3 _ => ?_
      exact ⟨g3, st3, u', v', d2, s3, view_t e7 s3 (r2.ext x3), view_t e8 s3 r3, view_nref e7, e9, P d2 H3 g3 rfl ((x1.trans x2).trans x3) s3⟩
  refine ⟨fun σ H g env st d st' Q hE hS hev P => ?_, fun σ H g env st d st' Q hE hS hev P => ?_⟩
  · refine le_E (pe_chain (op_rCmp hr op) (op_rCmp hr op') pe_wp pe_wp pe_wp hm) (key σ H g env st d st' Q hE hS hev fun b H' g' e x s => ?_)
    subst e
    exact (P.mono x).val s relD_bl fun _ => rfl
  · refine le_T (pt_chain (op_rCmp hr op) (op_rCmp hr op') pe_wp pe_wp pe_wp hm) (key σ H g env st _ st' _ hE hS hev fun b H' g' e x s => ?_)
    cases e
    exact ⟨_, rfl, P H' g' x s⟩
end
end Py

set_option Elab.async false
set_option linter.all false
set_option maxRecDepth 100000
set_option autoImplicit false
set_option maxHeartbeats 1000000
namespace Py
open PySem PySem.Spec L2
theorem Post.any {K : PySem.W.Frag} {w : World} {b : Bool} {g : Gh} {H : Hp} {st : DSt} {d : D} {Q : VK} (P : Post K w false g H st d Q) : Post K w b g H st d Q := fun v H' g' x s r _ => P v H' g' x s r fun h => by cases h
section
variable (L : List DFn) (G : List D) (X : Cx)
def SW (e : Expr) (ie : IE) : Prop := ∀ (σ : L2.St) (H : Hp) (g : Gh) (env : DEnv) (st : DSt) (b : Bool) (st' : DSt) (Q : Bool → Hp → Prop),
  EnvR X.K X.w g H env σ → StOk X.K X.w g H st → evE (gam L) G ie env st = some (.bl b, st') → (∀ H' g', Ext g H g' H' → StOk X.K X.w g' H' st' → Q b H') → wpW X e σ H Q
end
section
variable {L : List DFn} {G : List D} {X : Cx}
theorem st_of_sw {e : Expr} {ie : IE} (h : SW L G X e ie) : ST L G X e ie := fun σ H g env st b st' Q hE hS hev hQ => le_T (PW.pt pw_wp) (h σ H g env st b st' Q hE hS hev hQ)
theorem sw_one {a : Expr} {ia : IE} {op : BoolOp} {pos : Pos} (ha : SE L G X a ia) (hb : ST L G X a ia) : SE L G X (.BoolOp op [a] pos) ia ∧ SW L G X (.BoolOp op [a] pos) ia := by
  refine ⟨fun σ H g env st d st' Q hE hS hev P => le_E (pe_one pe_wp) (ha σ H g env st d st' Q hE hS hev P), fun σ H g env st b st' Q hE hS hev hQ => ?_⟩
  cases op with
  | And => exact le_W (pw_and1 pt_wp) (hb σ H g env st b st' Q hE hS hev hQ)
  | Or => exact le_W (pw_or1 pt_wp) (hb σ H g env st b st' Q hE hS hev hQ)
theorem sw_and {a b : Expr} {rest : List Expr} {ia ib : IE} {pos : Pos} (ha : SE L G X a ia) (ta : ST L G X a ia) (hb : SE L G X (.BoolOp .And (b :: rest) pos) ib) (tb : SW L G X (.BoolOp .And (b :: rest) pos) ib) :
    SE L G X (.BoolOp .And (a :: b :: rest) pos) (.and ia ib) ∧ SW L G X (.BoolOp .And (a :: b :: rest) pos) (.and ia ib) := by
  refine ⟨fun σ H g env st d st' Q hE hS hev P => ?_, fun σ H g env st d st' Q hE hS hev hQ => ?_⟩
  · rw [evE] at hev
    obtain ⟨⟨x, st1⟩, e1, hev⟩ := bindS hev
    refine le_E (pe_and pe_wp pe_wp) ?_
    refine ha σ H g env st x st1 _ hE hS e1 fun vx H1 g1 x1 s1 r1 _ => ?_
    split at hev
    · rename_i hx
      simp only at hx
      subst hx
      rw [RelD] at r1
      refine ⟨true, r1, ?_⟩
      rw [if_pos rfl]
      exact hb σ H1 g1 env st1 d st' Q (hE.ext x1) s1 hev (P.mono x1).any
    · rename_i hx
      simp only at hx
      subst hx
      rw [RelD] at r1
      cases hev
      refine ⟨false, r1, ?_⟩
      rw [if_neg (by simp)]
      exact (P.mono x1).val s1 relD_bl fun _ => rfl
    · cases hev
  · rw [evE] at hev
    obtain ⟨⟨x, st1⟩, e1, hev⟩ := bindS hev
    refine le_W (pw_and pt_wp pw_wp) ?_
    split at hev
    · rename_i hx
      simp only at hx
      subst hx
      refine ta σ H g env st _ st1 _ hE hS e1 fun H1 g1 x1 s1 => ?_
      rw [if_pos rfl]
      exact tb σ H1 g1 env st1 d st' Q (hE.ext x1) s1 hev fun H2 g2 x2 s2 => hQ H2 g2 (x1.trans x2) s2
    · rename_i hx
      simp only at hx
      subst hx
      cases hev
      refine ta σ H g env st _ _ _ hE hS e1 fun H1 g1 x1 s1 => ?_
      rw [if_neg (by simp)]
      exact hQ H1 g1 x1 s1
    · cases hev
theorem sw_or {a b : Expr} {rest : List Expr} {ia ib : IE} {pos : Pos} (ha : SE L G X a ia) (ta : ST L G X a ia) (hb : SE L G X (.BoolOp .Or (b :: rest) pos) ib) (tb : SW L G X (.BoolOp .Or (b :: rest) pos) ib) :
    SE L G X (.BoolOp .Or (a :: b :: rest) pos) (.or ia ib) ∧ SW L G X (.BoolOp .Or (a :: b :: rest) pos) (.or ia ib) := by
  refine ⟨fun σ H g env st d st' Q hE hS hev P => ?_, fun σ H g env st d st' Q hE hS hev hQ => ?_⟩
  · rw [evE] at hev
    obtain ⟨⟨x, st1⟩, e1, hev⟩ := bindS hev
    refine le_E (pe_or pe_wp pe_wp) ?_
    refine ha σ H g env st x st1 _ hE hS e1 fun vx H1 g1 x1 s1 r1 _ => ?_
    split at hev
    · rename_i hx
      simp only at hx
      subst hx
      rw [RelD] at r1
      cases hev
      refine ⟨true, r1, ?_⟩
      rw [if_pos rfl]
      exact (P.mono x1).val s1 relD_bl fun _ => rfl
    · rename_i hx
      simp only at hx
      subst hx
      rw [RelD] at r1
      refine ⟨false, r1, ?_⟩
      rw [if_neg (by simp)]
      exact hb σ H1 g1 env st1 d st' Q (hE.ext x1) s1 hev (P.mono x1).any
    · cases hev
  · rw [evE] at hev
    obtain ⟨⟨x, st1⟩, e1, hev⟩ := bindS hev
    refine le_W (pw_or pt_wp pw_wp) ?_
    split at hev
    · rename_i hx
      simp only at hx
      subst hx
      cases hev
      refine ta σ H g env st _ _ _ hE hS e1 fun H1 g1 x1 s1 => ?_
      rw [if_pos rfl]
      exact hQ H1 g1 x1 s1
    · rename_i hx
      simp only at hx
      subst hx
      refine ta σ H g env st _ st1 _ hE hS e1 fun H1 g1 x1 s1 => ?_
      rw [if_neg (by simp)]
      exact tb σ H1 g1 env st1 d st' Q (hE.ext x1) s1 hev fun H2 g2 x2 s2 => hQ H2 g2 (x1.trans x2) s2
    · cases hev
theorem se_not {a : Expr} {ia : IE} {pos : Pos} (ha : SE L G X a ia) (ta : ST L G X a ia) : SE L G X (.UnaryOp .Not a pos) (.not ia) ∧ ST L G X (.UnaryOp .Not a pos) (.not ia) := by
  refine ⟨fun σ H g env st d st' Q hE hS hev P => ?_, fun σ H g env st d st' Q hE hS hev hQ => ?_⟩
  · rw [evE] at hev
    obtain ⟨⟨x, st1⟩, e1, hev⟩ := bindS hev
    split at hev
    · rename_i b hx
      simp only at hx
      subst hx
      cases hev
      refine le_E (pe_not pe_wp) ?_
      refine ha σ H g env st _ st1 _ hE hS e1 fun vx H1 g1 x1 s1 r1 _ => ?_
      rw [RelD] at r1
      exact ⟨b, r1, (P.mono x1).val s1 relD_bl fun _ => rfl⟩
    · cases hev
  · rw [evE] at hev
    obtain ⟨⟨x, st1⟩, e1, hev⟩ := bindS hev
    split at hev
    · rename_i b hx
      simp only at hx
      subst hx
      cases hev
      exact le_T (pt_not pt_wp) (ta σ H g env st b st1 _ hE hS e1 fun H1 g1 x1 s1 => hQ H1 g1 x1 s1)
    · cases hev
theorem se_ite {c a b : Expr} {ic ia ib : IE} {pos : Pos} (hc : ST L G X c ic) (ha : SE L G X a ia) (hb : SE L G X b ib) : SE L G X (.IfExp c a b pos) (.ite ic ia ib) := by
  intro σ H g env st d st' Q hE hS hev P
  rw [evE] at hev
  obtain ⟨⟨x, st1⟩, e1, hev⟩ := bindS hev
  refine le_E (pe_ifExp pt_wp pe_wp pe_wp) ?_
  split at hev
  · rename_i hx
    simp only at hx
    subst hx
    refine hc σ H g env st _ st1 _ hE hS e1 fun H1 g1 x1 s1 => ?_
    rw [if_pos rfl]
    exact ha σ H1 g1 env st1 d st' Q (hE.ext x1) s1 hev (P.mono x1).any
  · rename_i hx
    simp only at hx
    subst hx
    refine hc σ H g env st _ st1 _ hE hS e1 fun H1 g1 x1 s1 => ?_
    rw [if_neg (by simp)]
    exact hb σ H1 g1 env st1 d st' Q (hE.ext x1) s1 hev (P.mono x1).any
  · cases hev
theorem RelDs.reverse {K : PySem.W.Frag} {w : World} {g : Gh} {H : Hp} : ∀ {ds : List D} {vs : List V}, RelDs K w g H ds vs → RelDs K w g H ds.reverse vs.reverse
  | [], vs, h => by
    rw [RelDs] at h
    subst h
    exact RelDs.nil
  | d :: ds, vs, h => by
    rw [RelDs] at h
    obtain ⟨v, r, rfl, h1, h2⟩ := h
    rw [List.reverse_cons, List.reverse_cons]
    exact (RelDs.reverse h2).append (RelDs.cons h1 RelDs.nil)
/-! ### subscripts -/
theorem atI_rel {K : PySem.W.Frag} {w : World} {g : Gh} {H : Hp} {xs : List D} {vs : List V} {i : Int} {d : D} (r : RelDs K w g H xs vs) (h : atI xs i = some d) : ∃ v, atI vs i = some v ∧ RelD K w g H d v := by
  unfold atI at h ⊢
  obtain ⟨j, hj, h⟩ := bindS h
  rw [← r.length, hj]
  exact r.get h
def rIxO (X : Cx) : R2 := fun x y H Q => ∃ (g : Gh) (st : DSt) (a b d : D), RelT X.K X.w g H a x ∧ RelD X.K X.w g H b y ∧ ixD a b = some d ∧ ∀ v, RelD X.K X.w g H d v → Q v H
theorem ix_dct (hu : X.A.units + 65 < cLine) {value slice : Expr} {pins : List (Addr × Obj)} {s : Shared} {σ : L2.St} {H : Hp} {y : V} {u : Value} {Q : VK} {g : Gh} {p : Addr} {kvs : List (D × D)} {es : Ents} {b d : D} (I : Inv X pins σ H s) (ry : RelV y u)
    (h : DctAt X.K H p es) (hd : distK kvs = true) (hr : RelKs X.K X.w g H kvs es.1) (hf : fitK b kvs = true) (rk : RelD X.K X.w g H b y) (hv : findK b kvs = some d) (P : ∀ v, RelD X.K X.w g H d v → Q v H)
    (hs : subscripted slice false (.ref p) u = operate [.ref p, u] (getItem (.ref p) u)) : wpAny (model X.prog X.w) X.A (PyProof.Rows.subscriptTail value slice (.ref p) u) (EP X pins σ Q) X.xe s := by
  obtain ⟨hraw, _⟩ := raw_at I h
  have ty : s.TypeIs (.ref p) "dict" := hraw.typeIs
  refine PyProof.Rows.tail_any (ops := [.ref p, u]) ty PySem.F.slot_dict_getitem.lookup ?_ hs
  exact dd_item hu I h hd hr hf rk ry hv fun v w' s' I' rw' rd => ⟨v, H, I', rw', P v rd⟩
theorem ix_rIxO {k : Nat} (hR : Room k X.A) : IxR X (rIxO X) := by
  intro value slice pins s σ H x y v u Q I rx ry ⟨g, st, a, b, d, ra, rb, h, P⟩ hs
  unfold ixD at h
  split at h
  · obtain ⟨p, vs, hx, hX, r1⟩ := ra.lst
    rw [RelD] at rb
    obtain ⟨z, hz, rz⟩ := atI_rel r1 h
    exact ix_list value slice pins s σ H x y v u Q I rx ry ⟨p, vs, _, z, hx, rb, hX, hz, P z rz⟩ hs
  · obtain ⟨p, vs, hx, hX, r1⟩ := ra.tup
    rw [RelD] at rb
    obtain ⟨z, hz, rz⟩ := atI_rel r1 h
    exact ix_tup value slice pins s σ H x y v u Q I rx ry ⟨p, vs, _, z, hx, rb, hX, hz, P z rz⟩ hs
  · split at h
    · rename_i cs i hz
      rw [RelD] at rb
      cases hc : atI cs i with
      | none => rw [hc] at h; cases h
      | some c =>
        rw [hc] at h
        cases h
        refine ix_str value slice pins s σ H x y v u Q I rx ry ⟨_, _, c, ra.str, rb, ?_, ?_, P _ relD_str⟩ hs
        · exact sz_le hz
        · simpa using hc
    · cases h
  · split at h
    · rename_i hf
      obtain ⟨p, es, rfl, hp, hd, hr⟩ := ra.dct
      cases (show v = Value.ref p from rx)
      exact ix_dct (by have := hR.un; omega) I ry hp hd hr hf rb h P hs
    · cases h
  · cases h
def isSlice : Expr → Bool
  | .Slice .. => true
  | _ => false
theorem plainIx_of {b : Expr} (h : isSlice b = false) : PlainIx b := fun o i => by
  cases b <;> first | rfl | (simp [isSlice] at h)
theorem se_ix {a b : Expr} {ia ib : IE} {pos : Pos} {k : Nat} (hR : Room k X.A) (hs : isSlice b = false) (ha : SE L G X a ia) (hb : SE L G X b ib) : SE L G X (.Subscript a b pos) (.ix ia ib) := by
  intro σ H g env st d st' Q hE hS hev P
  rw [evE] at hev
  obtain ⟨⟨x, st1⟩, e1, hev⟩ := bindS hev
  obtain ⟨⟨y, st2⟩, e2, hev⟩ := bindS hev
  obtain ⟨u, e3, hev⟩ := bindS hev
  obtain ⟨d', e5, hev⟩ := bindS hev
  cases hev
  refine le_E (pe_ix (ix_rIxO hR) pe_wp pe_wp (plainIx_of hs)) ?_
  refine ha σ H g env st x st1 _ hE hS e1 fun vx H1 g1 x1 s1 r1 _ => ?_
  refine hb σ H1 g1 env st1 y st2 _ (hE.ext x1) s1 e2 fun vy H2 g2 x2 s2 r2 _ => ?_
  exact ⟨g2, st2, u, y, d, view_t e3 s2 (r1.ext x2), r2, e5, fun v r => P v H2 g2 (x1.trans x2) s2 r fun h => by cases h⟩
/-- a slice's part -/
def SO (L : List DFn) (G : List D) (X : Cx) (e : Option Expr) (ie : IEo) : Prop := ∃ t, PO X e t ∧ ∀ (σ : L2.St) (H : Hp) (g : Gh) (env : DEnv) (st : DSt) (o : Option Int) (st' : DSt) (Q : Option Int → Hp → Prop),
  EnvR X.K X.w g H env σ → StOk X.K X.w g H st → evO (gam L) G ie env st = some (o, st') → (∀ H' g', Ext g H g' H' → StOk X.K X.w g' H' st' → Q o H') → t σ H Q
theorem so_none : SO L G X none .none := ⟨_, po_none, fun σ H g env st o st' Q hE hS hev hQ => by
  rw [evO] at hev
  cases hev
  exact hQ H g (Ext.refl g H) hS⟩
theorem so_some {e : Expr} {ie : IE} (h : SE L G X e ie) : SO L G X (some e) (.some ie) := ⟨_, po_some pe_wp, fun σ H g env st o st' Q hE hS hev hQ => by
  rw [evO] at hev
  obtain ⟨⟨x, st1⟩, e1, hev⟩ := bindS hev
  split at hev
  · rename_i i hx
    simp only at hx
    subst hx
    cases hev
    refine h σ H g env st _ st1 _ hE hS e1 fun vx H1 g1 x1 s1 r1 _ => ?_
    rw [RelD] at r1
    exact ⟨i, r1, hQ H1 g1 x1 s1⟩
  · cases hev⟩
def rSlO (X : Cx) : V → Option Int → Option Int → Hp → VK → Prop := fun x lo hi H Q => ∃ (g : Gh) (st : DSt) (a d : D) (fr : Bool), StOk X.K X.w g H st ∧ RelT X.K X.w g H a x ∧ slD a lo hi = some d ∧ Post X.K X.w fr g H st d Q
theorem sl_rSlO : SlR X (rSlO X) := by
  intro pins s σ H x v vl vu lo hi sl Q I rx hs pl pu ⟨g, st, a, d, fr, S, ra, h, P⟩
  unfold slD at h
  split at h
  · cases h
    obtain ⟨p, vs, hx, hX, r1⟩ := ra.lst
    refine sl_list pins s σ H x v vl vu _ _ sl Q I rx hs pl pu ⟨p, vs, hx, hX, ?_⟩
    unfold cutV
    rw [← r1.length]
    exact P.lst S (r1.sub _ _)
  · cases h
    rename_i xs
    obtain ⟨p, vs, hx, hX, r1⟩ := ra.tup
    refine sl_tupA pins s σ H x v vl vu _ _ sl Q I rx hs pl pu ⟨p, vs, hx, hX, fun hw => ?_, fun hw => ?_⟩
    · rw [← r1.length] at hw
      have e : cut xs lo hi = xs := by
        unfold cut
        rw [hw.1, hw.2, List.drop_zero, Nat.sub_zero, List.take_length]
      rw [e] at P
      refine P.val S ?_ fun _ => rfl
      rw [← hx]
      exact ra
    · unfold cutV
      rw [← r1.length]
      exact P.tup S (r1.sub _ _)
  · split at h
    · cases h
      rename_i cs hz
      refine sl_str pins s σ H x v vl vu _ _ sl Q I rx hs pl pu ⟨_, ra.str, sz_le hz, ?_⟩
      have e : cutS ⟨cs.toArray⟩ lo hi = ⟨(cut cs lo hi).toArray⟩ := by
        unfold cutS cut
        simp [Str.length]
      rw [e]
      exact P.val S relD_str fun _ => rfl
    · cases h
  · cases h
theorem se_sl {a : Expr} {lo hi : Option Expr} {ia : IE} {il ih : IEo} {p2 pos : Pos} (ha : SE L G X a ia) (hl : SO L G X lo il) (hh : SO L G X hi ih) : SE L G X (.Subscript a (.Slice lo hi none p2) pos) (.sl ia il ih) := by
  intro σ H g env st d st' Q hE hS hev P
  obtain ⟨t1, po1, hl⟩ := hl
  obtain ⟨t2, po2, hh⟩ := hh
  rw [evE] at hev
  obtain ⟨⟨x, st1⟩, e1, hev⟩ := bindS hev
  obtain ⟨⟨l, st2⟩, e2, hev⟩ := bindS hev
  obtain ⟨⟨h, st3⟩, e3, hev⟩ := bindS hev
  obtain ⟨u, e4, hev⟩ := bindS hev
  obtain ⟨d', e5, hev⟩ := bindS hev
  cases hev
  refine le_E (pe_slice sl_rSlO pe_wp po1 po2) ?_
  refine ha σ H g env st x st1 _ hE hS e1 fun vx H1 g1 x1 s1 r1 _ => ?_
  refine hl σ H1 g1 env st1 l st2 _ (hE.ext x1) s1 e2 fun H2 g2 x2 s2 => ?_
  refine hh σ H2 g2 env st2 h st3 _ (hE.ext (x1.trans x2)) s2 e3 fun H3 g3 x3 s3 => ?_
  exact ⟨g3, st3, u, d, _, s3, view_t e4 s3 ((r1.ext x2).ext x3), e5, P.mono ((x1.trans x2).trans x3)⟩
/-- a list or a text from behind -/
def tRevA (K : PySem.W.Frag) (te : TE) : TE := fun σ H Q => te σ H fun x H1 => (∃ a xs, x = .ref a ∧ SqL K H1 a xs ∧ ∀ p, H1 p = none → Q (.ref p) (upd H1 p (.lst xs.reverse))) ∨ (∃ cs : List Nat, x = .str ⟨cs.toArray⟩ ∧ cs.length ≤ sizeLine ∧ Q (.str ⟨cs.reverse.toArray⟩) H1)
theorem pick_rev (cs : List Nat) : ((Builtin.Str.strSliceIndices none none (-1) cs.length).filterMap (cs.toArray[·]?)) = cs.reverse := by
  have e : Builtin.Str.strSliceIndices none none (-1) cs.length = sliceRange ((cs.length : Int) - 1) (-1) (-1) := by
    unfold Builtin.Str.strSliceIndices
    simp
  rw [e, PySem.W.krv_sliceRange, PySem.W.krv_range, List.filterMap_reverse]
  have := PySem.W.krv_all cs.toArray
  simp only [List.size_toArray] at this
  rw [this]
theorem pe_revA {e : Expr} {te : TE} {k : Nat} {p1 p2 p3 pos : Pos} (he : PE X e te) : PE X (.Subscript e (.Slice none none (some (.UnaryOp .USub (.Constant (.int 1) k p1) p2)) p3) pos) (tRevA X.K te) := by
  refine ⟨fun pins s0 σ H Q I h => PyProof.Rows.Subscript_ (thn (he.run pins s0 σ H _ I h) fun v s1 ⟨x, H1, I1, r1, q1⟩ => ?_)⟩
  have step : PO X (some (.UnaryOp .USub (.Constant (.int 1) k p1) p2)) (tPart (tUn (rU fun i => .int (-i)) (tC (.int 1)))) := po_some (pe_un un_neg pe_int)
  refine wpAny_Slice (thn (po_none.run pins s1 σ H1 (fun o H2 => o = none ∧ H2 = H1) I1 ⟨rfl, rfl⟩) fun vl s2 ⟨lo, H2, I2, pl, e1, e2⟩ => ?_)
  subst e1 e2
  refine thn (po_none.run pins s2 σ H2 (fun o H3 => o = none ∧ H3 = H2) I2 ⟨rfl, rfl⟩) fun vu s3 ⟨hi, H3, I3, pu, e1, e2⟩ => ?_
  subst e1 e2
  refine thn (step.run pins s3 σ H3 (fun o H4 => o = some (-1) ∧ H4 = H3) I3 ⟨1, rfl, -1, rfl, rfl, rfl⟩) fun vs s4 ⟨o, H4, I4, ps, e1, e2⟩ => ?_
  subst e1 e2
  have I5 : Inv X pins σ H4 { s4 with heap := s4.heap.push { cls := .type "slice", data := .fields #[vl, vu, vs] } } := I4.kept (t' := s4.toks) fun b ob q => Heap.get?_push_of_some _ q
  rcases q1 with ⟨a, xs, rfl, hx, q⟩ | ⟨cs, rfl, hz, q⟩
  · cases (show v = Value.ref a from r1)
    obtain ⟨its, r, ht, hz⟩ := I5.list hx
    have hlen := r.length
    refine PyProof.Rows.tail_any (ops := [.ref a, .ref s4.heap.objs.size]) ht.isList.typeIs (PySem.slot_list_getitem.lookup) ?_ (by with_unfolding_all rfl)
    refine wpAny_getItem_list_slice ht.isList (Heap.IsSliceOf.new _ vl vu vs) pl pu ps (by decide) ?_ (by rw [List.size_toArray]; omega)
    rw [PySem.W.krv_pick]
    have new : ObjOk X.prog X.w (upd H4 (s4.heap.push { cls := .type "slice", data := .fields #[vl, vu, vs] }).objs.size (.lst xs.reverse)) ((s4.heap.push { cls := .type "slice", data := .fields #[vl, vu, vs] }).push { cls := .type "list", data := .seq its.reverse.toArray }) (s4.heap.push { cls := .type "slice", data := .fields #[vl, vu, vs] }).objs.size (.lst xs.reverse) :=
      ⟨by rw [List.length_reverse]; exact hz, _, 0, r.reverse, Heap.get?_push_size _ rfl⟩
    exact ⟨.ref _, _, I5.laid (t' := s4.toks) (fun b ob w => Heap.get?_push_of_some _ w) (Nat.le_refl _) new, rfl, q _ (I5.hok.fresh (Nat.le_refl _))⟩
  · obtain ⟨t, rfl⟩ := r1
    obtain ⟨l', rfl, e1⟩ := IsPart.raw pl
    obtain ⟨u', rfl, e2⟩ := IsPart.raw pu
    obtain ⟨st', rfl, e3⟩ := IsPart.raw ps
    have hsl : (s4.heap.push { cls := .type "slice", data := .fields #[partValue l', partValue u', partValue st'] }).IsSlice s4.heap.objs.size l' u' st' := ⟨_, Heap.get?_push_size _ rfl, rfl, rfl⟩
    refine PyProof.Rows.tail_any (ops := [.str ⟨cs.toArray⟩ t, .ref s4.heap.objs.size]) (typeIs_str _ _ _) (PySem.F.slot_str_getitem.lookup) ?_ (by with_unfolding_all rfl)
    have g1 : (st'.map (·.1)).getD 1 = -1 := by rw [e3]; rfl
    refine wpAny_getItem_str_slice (l := l') (u := u') (st := st') hsl (by rw [g1]; rfl) ?_
    have pk : slicePicked ⟨cs.toArray⟩ l' u' st' = Builtin.Str.strSliceIndices none none (-1) cs.length := by
      unfold slicePicked
      rw [g1, e1, e2]
      simp [Str.length]
    have mk : sliceMade ⟨cs.toArray⟩ t l' u' st' = Made.str ⟨cs.reverse.toArray⟩ := by
      unfold sliceMade
      rw [g1, pk, if_neg (by simp)]
      congr 2
      congr 1
      exact pick_rev cs
    rw [mk]
    exact ⟨by simpa [Str.length] using hz, .str _, H4, I5.tok _, ⟨_, rfl⟩, q⟩
theorem se_rev {a : Expr} {ia : IE} {k : Nat} {p1 p2 p3 pos : Pos} (ha : SE L G X a ia) : SE L G X (.Subscript a (.Slice none none (some (.UnaryOp .USub (.Constant (.int 1) k p1) p2)) p3) pos) (.rev ia) := by
  intro σ H g env st d st' Q hE hS hev P
  rw [evE] at hev
  obtain ⟨⟨x, st1⟩, e1, hev⟩ := bindS hev
  obtain ⟨u, e4, hev⟩ := bindS hev
  obtain ⟨d', e5, hev⟩ := bindS hev
  cases hev
  unfold revD at e5
  split at e5
  · cases e5
    refine le_E (pe_revA pe_wp) ?_
    refine ha σ H g env st x st1 _ hE hS e1 fun vx H1 g1 x1 s1 r1 _ => ?_
    obtain ⟨p, vs, hx, hX, r2⟩ := (view_t e4 s1 r1).lst
    exact .inl ⟨p, vs, hx, hX, (P.mono x1).lst s1 r2.reverse⟩
  · split at e5
    · rename_i cs hz
      cases e5
      refine le_E (pe_revA pe_wp) ?_
      refine ha σ H g env st x st1 _ hE hS e1 fun vx H1 g1 x1 s1 r1 _ => ?_
      exact .inr ⟨cs, (view_t e4 s1 r1).str, sz_le hz, (P.mono x1).val s1 relD_str fun _ => rfl⟩
    · cases e5
  · cases e5
end
end Py

set_option Elab.async false
set_option linter.all false
set_option maxRecDepth 100000
set_option autoImplicit false
set_option maxHeartbeats 1000000
namespace Py
open PySem PySem.Spec L2
def IEs.len : IEs → Nat
  | .nil => 0
  | .cons _ es => es.len + 1
section
variable {L : List DFn} {G : List D} {X : Cx}
theorem evEs_len {Γ : Nat → List D → DSt → Option (D × DSt)} : ∀ {es : IEs} {env : DEnv} {st st' : DSt} {ds : List D}, evEs Γ G es env st = some (ds, st') → ds.length = es.len
  | .nil, env, st, st', ds, h => by
    rw [evEs] at h
    cases h
    rfl
  | .cons e es, env, st, st', ds, h => by
    rw [evEs] at h
    obtain ⟨x, e1, h⟩ := bindS h
    obtain ⟨r, e2, h⟩ := bindS h
    cases h
    rw [List.length_cons, evEs_len (ds := r.1) (st' := r.2) e2]
    rfl
/-! ### a call of a def -/
theorem se_call {x : Str} {p pos : Pos} {es : List Expr} {ies : IEs} {f k : Nat} {gl : List Str} {e : DFn} (hX : XOk X k L gl G) (hf : L[f]? = some e) (hx : e.name = x) (hn : ies.len = e.ar) (hg : Gl X x) (hd : (x == ("__debug__" : Str)) = false)
    (hp : es.all plainE = true) (hl : es.length = ies.len) (h : SA L G X es ies) : SE L G X (.Call (.Name x p) es [] pos) (.call f ies) := by
  intro σ H g env st d st' Q hE hS hev P
  rw [evE] at hev
  obtain ⟨⟨ds, st1⟩, e1, hev⟩ := bindS hev
  obtain ⟨fa, fd, ps, hm, hk, hb, F⟩ := (hX.fns f e hf).ex
  have hlen := evEs_len e1
  have hF : e.F ds st1 = some (d, st') := by
    unfold gam at hev
    rw [hf] at hev
    exact hev
  have hfr : frsh L (.call f ies) = e.fr := by
    simp only [frsh, hf]
  rw [hfr] at P
  subst hx
  cases es with
  | nil =>
    refine le_E (pe_call0 F hX.room hg hm hk hb .nil pass0 hd) ?_
    cases ies with
    | nil =>
      rw [evEs] at e1
      cases e1
      exact ⟨g, st, [], d, st', hS, RelDs.nil, hn, hF, P⟩
    | cons a b => simp [IEs.len] at hl
  | cons a es =>
    rw [List.all_cons, Bool.and_eq_true] at hp
    refine le_E (pe_call F hX.room hg hm hk hb .nil pass0 pa_wp hd (star_cons hp.1) (star_all hp.2)) ?_
    refine h σ H g env st ds st1 _ hE hS e1 fun vs H1 g1 x1 s1 r1 => ?_
    rw [List.append_nil]
    exact ⟨g1, st1, ds, d, st', s1, r1, hlen.trans hn, hF, P.mono x1⟩
/-! ### built-in functions -/
def RelTs (K : PySem.W.Frag) (w : World) (g : Gh) (H : Hp) : List D → List V → Prop
  | [], vs => vs = []
  | d :: ds, vs => ∃ v r, vs = v :: r ∧ RelT K w g H d v ∧ RelTs K w g H ds r
theorem viewAll_t {K : PySem.W.Frag} {w : World} {g : Gh} {H : Hp} {st : DSt} (s : StOk K w g H st) : ∀ {ds us : List D} {vs : List V}, viewAll st ds = some us → RelDs K w g H ds vs → RelTs K w g H us vs
  | [], us, vs, h, r => by
    cases h
    rw [RelDs] at r
    exact r
  | d :: ds, us, vs, h, r => by
    unfold viewAll at h
    obtain ⟨u, e1, h⟩ := bindS h
    obtain ⟨us', e2, h⟩ := bindS h
    cases h
    rw [RelDs] at r
    obtain ⟨v, r', rfl, h1, h2⟩ := r
    exact ⟨v, r', rfl, view_t e1 s h1, viewAll_t s e2 h2⟩
theorem RelTs.one {K : PySem.W.Frag} {w : World} {g : Gh} {H : Hp} {a : D} {vs : List V} (h : RelTs K w g H [a] vs) : ∃ v, vs = [v] ∧ RelT K w g H a v := by
  obtain ⟨v, r, rfl, h1, rfl⟩ := h
  exact ⟨v, rfl, h1⟩
theorem RelTs.two {K : PySem.W.Frag} {w : World} {g : Gh} {H : Hp} {a b : D} {vs : List V} (h : RelTs K w g H [a, b] vs) : ∃ v u, vs = [v, u] ∧ RelT K w g H a v ∧ RelT K w g H b u := by
  obtain ⟨v, r, rfl, h1, u, r', rfl, h2, rfl⟩ := h
  exact ⟨v, u, rfl, h1, h2⟩
theorem bools_rel {K : PySem.W.Frag} {w : World} {g : Gh} {H : Hp} : ∀ {xs : List D} {bs : List Bool} {vs : List V}, bools xs = some bs → RelDs K w g H xs vs → vs = bs.map V.bl
  | [], bs, vs, h, r => by
    cases h
    rw [RelDs] at r
    exact r
  | d :: ds, bs, vs, h, r => by
    rw [RelDs] at r
    obtain ⟨v, r', rfl, h1, h2⟩ := r
    cases d <;> simp only [bools] at h <;> first | (cases h; done) | skip
    cases e : bools ds with
    | none => rw [e] at h; cases h
    | some cs =>
      rw [e] at h
      cases h
      rw [RelD] at h1
      subst h1
      rw [bools_rel e h2]
      rfl
theorem ints_rel {K : PySem.W.Frag} {w : World} {g : Gh} {H : Hp} : ∀ {xs : List D} {bs : List Int} {vs : List V}, intsL xs = some bs → RelDs K w g H xs vs → vs = bs.map V.int
  | [], bs, vs, h, r => by
    cases h
    rw [RelDs] at r
    exact r
  | d :: ds, bs, vs, h, r => by
    rw [RelDs] at r
    obtain ⟨v, r', rfl, h1, h2⟩ := r
    cases d <;> simp only [intsL] at h <;> first | (cases h; done) | skip
    cases e : intsL ds with
    | none => rw [e] at h; cases h
    | some cs =>
      rw [e] at h
      cases h
      rw [RelD] at h1
      subst h1
      rw [ints_rel e h2]
      rfl
theorem strs_rel {K : PySem.W.Frag} {w : World} {g : Gh} {H : Hp} : ∀ {xs : List D} {bs : List (List Nat)} {vs : List V}, strsL xs = some bs → RelDs K w g H xs vs → vs = (bs.map fun b => (⟨b.toArray⟩ : Str)).map V.str
  | [], bs, vs, h, r => by
    cases h
    rw [RelDs] at r
    exact r
  | d :: ds, bs, vs, h, r => by
    rw [RelDs] at r
    obtain ⟨v, r', rfl, h1, h2⟩ := r
    cases d <;> simp only [strsL] at h <;> first | (cases h; done) | skip
    cases e : strsL ds with
    | none => rw [e] at h; cases h
    | some cs =>
      rw [e] at h
      cases h
      rw [RelD] at h1
      subst h1
      rw [strs_rel e h2]
      rfl
def rBi (X : Cx) (b : Bi) : List V → Hp → VK → Prop := fun vs H Q => ∃ (g : Gh) (st : DSt) (us : List D) (d : D) (fr : Bool), StOk X.K X.w g H st ∧ RelTs X.K X.w g H us vs ∧ biD b us = some d ∧ Post X.K X.w fr g H st d Q
theorem rd_seq {K : PySem.W.Frag} {H : Hp} {a : Addr} {xs : List V} (h : Rd H a (.lst xs)) : SqL K H a xs := .inl h
theorem bi_len : CallR X (.builtin "len") (rBi X .len) := by
  intro pins s σ H vs us Q I rv ⟨g, st, ws, d, fr, S, r, h, P⟩
  replace h : biLen ws = some d := h
  unfold biLen at h
  split at h <;> first | (cases h; done) | skip
  obtain ⟨v, rfl, rt⟩ := r.one
  rename_i x
  cases e : lenD x with
  | none => rw [e] at h; cases h
  | some n =>
    rw [e] at h
    cases h
    have old : (LenV X.K v H n) → wpAny (model X.prog X.w) X.A (call (.builtin "len") us) (EP X pins σ Q) X.xe s := fun hl => call_len pins s σ H _ us Q I rv ⟨v, n, rfl, hl, P.val S relD_int fun _ => rfl⟩
    unfold lenD at e
    split at e
    · split at e
      · cases e
        rename_i hz
        refine old ?_
        rw [rt.str]
        exact ⟨by simpa [Str.length] using sz_le hz, by simp [Str.length]⟩
      · cases e
    · cases e
      obtain ⟨a, xs, rfl, hX, r1⟩ := rt.tup
      exact old (.inr ⟨xs, hX, r1.length⟩)
    · cases e
      obtain ⟨a, xs, rfl, hX, r1⟩ := rt.lst
      exact old (.inl ⟨xs, hX, r1.length⟩)
    · split at e
      · rename_i hz
        cases e
        obtain ⟨a, es, rfl, hX, hd, hr⟩ := rt.dct
        obtain ⟨u, rfl, ru⟩ := rv.one
        cases (show u = Value.ref a from ru)
        refine dd_len I hX (by rw [← relKs_len hr]; exact sz_le hz) fun t s' I' => ?_
        rw [relKs_len hr] at P
        exact ⟨.int _, H, I', ⟨t, rfl⟩, P.val S relD_int fun _ => rfl⟩
      · cases e
    · cases e
theorem bi_tuple : CallR X (.type "tuple") (rBi X .tuple) := by
  intro pins s σ H vs us Q I rv ⟨g, st, ws, d, fr, S, r, h, P⟩
  replace h : biTuple ws = some d := h
  unfold biTuple at h
  split at h <;> first | (cases h; done) | skip
  · cases h
    obtain ⟨v, rfl, rt⟩ := r.one
    obtain ⟨a, xs, rfl, hX, r1⟩ := rt.tup
    exact call_tuple_of pins s σ H _ us Q I rv ⟨a, xs, rfl, .inr ⟨hX, P.val S rt fun _ => rfl⟩⟩
  · cases h
    obtain ⟨v, rfl, rt⟩ := r.one
    obtain ⟨a, xs, rfl, hX, r1⟩ := rt.lst
    exact call_tuple_of pins s σ H _ us Q I rv ⟨a, xs, rfl, .inl ⟨hX, P.tup S r1⟩⟩
theorem list_str {x : Str} {t : Tok} {pins : List (Addr × Obj)} {σ : L2.St} {H : Hp} {s : Shared} {Q : VK} (hc : X.calm = true) (I : Inv X pins σ H s) (hz : x.length ≤ sizeLine)
    (q : ∀ p, H p = none → Q (.ref p) (upd H p (.lst (x.cps.toList.map fun c => V.str ⟨#[c]⟩)))) : wpAny (model X.prog X.w) X.A (call (.type "list") [.str x t]) (EP X pins σ Q) X.xe s := by
  refine call_list_str (I.ok.hd hc) x t (fun h' tk acc c hk he hi => ?_) hz
  refine ⟨.ref s.heap.objs.size, _, I.laid (t' := tk) hk (Nat.le_refl _) (show ObjOk X.prog X.w _ _ _ (.lst (x.cps.toList.map fun c => V.str ⟨#[c]⟩)) from ⟨?_, acc.toList, c, ?_, ?_⟩), rfl, q _ I.fresh⟩
  · rw [List.length_map]
    exact hz
  · have hn := hi.1
    have : ∀ (l : List Nat) (us : List Value), us.length = l.length → (∀ (j : Nat) v, us[j]? = some v → ∃ c u, l[j]? = some c ∧ v = Value.str ⟨#[c]⟩ u) → Vals (l.map fun c => V.str ⟨#[c]⟩) us := by
      intro l
      induction l with
      | nil =>
        intro us hl _
        have : us = [] := List.eq_nil_of_length_eq_zero hl
        subst this
        exact .nil
      | cons a l ih =>
        intro us hl hj
        cases us with
        | nil => simp at hl
        | cons b us =>
          obtain ⟨c, u, h1, h2⟩ := hj 0 b rfl
          cases h1
          exact .cons ⟨u, h2⟩ (ih us (by simpa using hl) fun j v hv => by
            obtain ⟨c', u', h3, h4⟩ := hj (j + 1) v (by simpa using hv)
            exact ⟨c', u', by simpa using h3, h4⟩)
    refine this _ _ (by simpa using hn) fun j v hv => ?_
    obtain ⟨c, u, h1, h2⟩ := hi.2 j v (by simpa using hv)
    exact ⟨c, u, by simpa using h1, h2⟩
  · simpa using he
theorem bi_list (hc : X.calm = true) : CallR X (.type "list") (rBi X .list) := by
  intro pins s σ H vs us Q I rv ⟨g, st, ws, d, fr, S, r, h, P⟩
  replace h : biList ws = some d := h
  unfold biList at h
  split at h <;> first | (cases h; done) | skip
  · cases h
    obtain ⟨v, rfl, rt⟩ := r.one
    obtain ⟨a, xs, rfl, hX, r1⟩ := rt.tup
    exact call_list_of pins s σ H _ us Q I rv ⟨a, xs, rfl, .inr hX, P.lst S r1⟩
  · cases h
    obtain ⟨v, rfl, rt⟩ := r.one
    obtain ⟨a, xs, rfl, hX, r1⟩ := rt.lst
    exact call_list_of pins s σ H _ us Q I rv ⟨a, xs, rfl, .inl hX, P.lst S r1⟩
  · split at h
    · cases h
      rename_i cs hz
      obtain ⟨v, rfl, rt⟩ := r.one
      rw [rt.str] at rv
      obtain ⟨u, rfl, ru⟩ := rv.one
      obtain ⟨t, rfl⟩ := ru
      refine list_str hc I (by simpa [Str.length] using sz_le hz) ?_
      have : RelDs X.K X.w g H (cs.map fun c => D.str [c]) (cs.map fun c => V.str ⟨#[c]⟩) := by
        clear hz rv rt P r I
        induction cs with
        | nil => exact RelDs.nil
        | cons a l ih => exact RelDs.cons (by rw [RelD]) ih
      exact P.lst S this
    · cases h
theorem bi_all (hc : X.calm = true) : CallR X (.builtin "all") (rBi X .all) := by
  intro pins s σ H vs us Q I rv ⟨g, st, ws, d, fr, S, r, h, P⟩
  replace h : biAll ws = some d := h
  unfold biAll at h
  split at h <;> first | (cases h; done) | skip
  obtain ⟨v, rfl, rt⟩ := r.one
  obtain ⟨a, xs, rfl, hX, r1⟩ := rt.lst
  rename_i ys
  cases e : bools ys with
  | none => rw [e] at h; cases h
  | some bs =>
    rw [e] at h
    cases h
    have := bools_rel e r1
    subst this
    exact cr_all hc pins s σ H _ us Q I rv ⟨a, bs, rfl, hX, P.val S relD_bl fun _ => rfl⟩
theorem bi_any (hc : X.calm = true) : CallR X (.builtin "any") (rBi X .any) := by
  intro pins s σ H vs us Q I rv ⟨g, st, ws, d, fr, S, r, h, P⟩
  replace h : biAny ws = some d := h
  unfold biAny at h
  split at h <;> first | (cases h; done) | skip
  obtain ⟨v, rfl, rt⟩ := r.one
  obtain ⟨a, xs, rfl, hX, r1⟩ := rt.lst
  rename_i ys
  cases e : bools ys with
  | none => rw [e] at h; cases h
  | some bs =>
    rw [e] at h
    cases h
    have := bools_rel e r1
    subst this
    exact cr_any hc pins s σ H _ us Q I rv ⟨a, bs, rfl, hX, P.val S relD_bl fun _ => rfl⟩
theorem bi_sum (hc : X.calm = true) : CallR X (.builtin "sum") (rBi X .sum) := by
  intro pins s σ H vs us Q I rv ⟨g, st, ws, d, fr, S, r, h, P⟩
  replace h : biSum ws = some d := h
  unfold biSum at h
  split at h <;> first | (cases h; done) | skip
  obtain ⟨v, rfl, rt⟩ := r.one
  obtain ⟨a, xs, rfl, hX, r1⟩ := rt.lst
  rename_i ys
  cases e : intsL ys with
  | none => rw [e] at h; cases h
  | some bs =>
    rw [e] at h
    cases h
    have := ints_rel e r1
    subst this
    exact cr_sum hc pins s σ H _ us Q I rv ⟨a, bs, rfl, hX, P.val S relD_int fun _ => rfl⟩
theorem bi_abs : CallR X (.builtin "abs") (rBi X .abs) := by
  intro pins s σ H vs us Q I rv ⟨g, st, ws, d, fr, S, r, h, P⟩
  replace h : biAbs ws = some d := h
  unfold biAbs at h
  split at h <;> first | (cases h; done) | skip
  cases h
  obtain ⟨v, rfl, rt⟩ := r.one
  exact call_abs pins s σ H _ us Q I rv ⟨_, by rw [rt.int], P.val S relD_int fun _ => rfl⟩
theorem bi_int : CallR X (.type "int") (rBi X .int) := by
  intro pins s σ H vs us Q I rv ⟨g, st, ws, d, fr, S, r, h, P⟩
  replace h : biInt ws = some d := h
  unfold biInt at h
  split at h <;> first | (cases h; done) | skip
  · cases h
    obtain ⟨v, rfl, rt⟩ := r.one
    exact call_int1 pins s σ H _ us Q I rv (.inl ⟨_, by rw [rt.int], P.val S relD_int fun _ => rfl⟩)
  · cases h
    obtain ⟨v, rfl, rt⟩ := r.one
    exact call_int1 pins s σ H _ us Q I rv (.inr ⟨_, by rw [rt.bl], P.val S relD_int fun _ => rfl⟩)
theorem bi_min2 (hc : X.calm = true) : CallR X (.builtin "min") (rBi X .min2) := by
  intro pins s σ H vs us Q I rv ⟨g, st, ws, d, fr, S, r, h, P⟩
  replace h : biMin2 ws = some d := h
  unfold biMin2 at h
  split at h <;> first | (cases h; done) | skip
  cases h
  obtain ⟨v, u, rfl, rt, ru⟩ := r.two
  exact call_min2 hc pins s σ H _ us Q I rv ⟨_, _, by rw [rt.int, ru.int], P.val S relD_int fun _ => rfl⟩
theorem bi_max2 (hc : X.calm = true) : CallR X (.builtin "max") (rBi X .max2) := by
  intro pins s σ H vs us Q I rv ⟨g, st, ws, d, fr, S, r, h, P⟩
  replace h : biMax2 ws = some d := h
  unfold biMax2 at h
  split at h <;> first | (cases h; done) | skip
  cases h
  obtain ⟨v, u, rfl, rt, ru⟩ := r.two
  exact call_max2 hc pins s σ H _ us Q I rv ⟨_, _, by rw [rt.int, ru.int], P.val S relD_int fun _ => rfl⟩
theorem reads_ints {h : Heap} : ∀ {ns : List Int} {us : List Value}, Vals (ns.map V.int) us → ReadsAll h us (ns.map PyData.int) []
  | [], us, r => by
    cases r
    exact .nil
  | n :: ns, us, r => by
    rw [List.map_cons] at r
    cases r with
    | cons h1 h2 =>
      obtain ⟨t, rfl⟩ := h1
      exact .cons (.int n t) (reads_ints h2)
theorem alike_ints1 (ns : List Int) : PySem.W.AlikeAll (ns.map PyData.int) := ⟨fun x hx y hy => by
  obtain ⟨i, _, rfl⟩ := List.mem_map.mp hx
  obtain ⟨j, _, rfl⟩ := List.mem_map.mp hy
  rfl, fun x hx => by
  obtain ⟨i, _, rfl⟩ := List.mem_map.mp hx
  intro e
  cases e⟩
mutual
theorem toPy_inj : ∀ (n m : Nat) (a b : D), D.ok n a = true → D.ok m b = true → toPy a = toPy b → a = b
  | n, m, .tup xs, b, h, k, e => by
    cases b with
    | tup ys =>
      rw [D.ok, Bool.and_eq_true] at h k
      rw [toPy, toPy] at e
      injection e with e
      rw [toPys_inj _ _ xs ys h.2 k.2 e]
    | _ => first | (simp [toPy] at e; done) | (simp [D.ok] at k; done)
  | n, m, .lst xs, b, h, k, e => by
    cases b with
    | lst ys =>
      rw [D.ok, Bool.and_eq_true] at h k
      rw [toPy, toPy] at e
      injection e with e
      rw [toPys_inj _ _ xs ys h.2 k.2 e]
    | _ => first | (simp [toPy] at e; done) | (simp [D.ok] at k; done)
  | n, m, .dct _, _, h, k, e => by simp [D.ok] at h
  | n, m, .ref _, _, h, k, e => by simp [D.ok] at h
  | n, m, .fn _, _, h, k, e => by simp [D.ok] at h
  | n, m, .non, b, h, k, e => by cases b <;> first | rfl | (simp [toPy] at e; done) | (simp [D.ok] at k; done)
  | n, m, .bl _, b, h, k, e => by cases b <;> first | (simp [toPy] at e; (try subst e); rfl) | (simp [toPy] at e; done) | (simp [D.ok] at k; done)
  | n, m, .int _, b, h, k, e => by cases b <;> first | (simp [toPy] at e; (try subst e); rfl) | (simp [toPy] at e; done) | (simp [D.ok] at k; done)
  | n, m, .str _, b, h, k, e => by cases b <;> first | (simp [toPy] at e; (try subst e); rfl) | (simp [toPy] at e; done) | (simp [D.ok] at k; done)
theorem toPys_inj : ∀ (n m : Nat) (a b : List D), D.oks n a = true → D.oks m b = true → toPys a = toPys b → a = b
  | n, m, [], [], h, k, e => rfl
  | n, m, [], _ :: _, h, k, e => by simp [toPys] at e
  | n, m, _ :: _, [], h, k, e => by simp [toPys] at e
  | n, m, x :: xs, y :: ys, h, k, e => by
    rw [D.oks, Bool.and_eq_true] at h k
    rw [toPys, toPys] at e
    injection e with e1 e2
    rw [toPy_inj n m x y h.1 k.1 e1, toPys_inj n m xs ys h.2 k.2 e2]
end
section
variable {pins : List (Addr × Obj)} {σ : L2.St} {H : Hp} {s : Shared} {g : Gh}
theorem reads_of (I : Inv X pins σ H s) {n : Nat} {d : D} {v : V} {u : Value} (ok : D.ok n d = true) (r : RelD X.K X.w g H d v) (ru : RelV v u) : ∃ as, Reads s.heap u (toPy d) as := Dp.reads I _ v u (dp_of n d v ok r) ru
theorem readsAll_of (I : Inv X pins σ H s) : ∀ {n : Nat} {ds : List D} {vs : List V} {us : List Value}, D.oks n ds = true → RelDs X.K X.w g H ds vs → Vals vs us → ∃ as, ReadsAll s.heap us (toPys ds) as
  | n, [], vs, us, ok, r, ru => by
    rw [RelDs] at r; subst r; cases ru
    exact ⟨[], .nil⟩
  | n, d :: ds, vs, us, ok, r, ru => by
    rw [D.oks, Bool.and_eq_true] at ok
    rw [RelDs] at r
    obtain ⟨v, r', rfl, r1, r2⟩ := r
    cases ru with
    | cons u1 u2 =>
      obtain ⟨as, h1⟩ := reads_of I ok.1 r1 u1
      obtain ⟨bs, h2⟩ := readsAll_of I ok.2 r2 u2
      exact ⟨as ++ bs, .cons h1 h2⟩
theorem each_of : ∀ {ds : List D} {vs : List V} {us : List Value}, RelDs X.K X.w g H ds vs → Vals vs us → PySem.W.EachIs (fun u d => VR X.K X.w g H d u) us ds
  | [], vs, us, r, ru => by
    rw [RelDs] at r; subst r; cases ru
    exact .nil
  | d :: ds, vs, us, r, ru => by
    rw [RelDs] at r
    obtain ⟨v, r', rfl, r1, r2⟩ := r
    cases ru with
    | cons u1 u2 => exact .cons ⟨v, u1, r1⟩ (each_of r2 u2)
theorem each_reads (I : Inv X pins σ H s) : ∀ {n : Nat} {ds : List D} {us : List Value}, D.oks n ds = true → PySem.W.EachIs (fun u d => VR X.K X.w g H d u) us ds → PySem.W.EachIs (fun u d => ∃ as, Reads s.heap u (toPy d) as) us ds
  | n, [], us, ok, r => by cases r; exact .nil
  | n, d :: ds, us, ok, r => by
    rw [D.oks, Bool.and_eq_true] at ok
    cases r with
    | cons h1 h2 =>
      obtain ⟨v, v1, v2⟩ := h1
      exact .cons (reads_of I ok.1 v2 v1) (each_reads I ok.2 h2)
theorem each_back : ∀ {ds : List D} {us : List Value}, PySem.W.EachIs (fun u d => VR X.K X.w g H d u) us ds → ∃ vs, Vals vs us ∧ RelDs X.K X.w g H ds vs
  | [], us, r => by cases r; exact ⟨[], .nil, RelDs.nil⟩
  | d :: ds, us, r => by
    cases r with
    | cons h1 h2 =>
      obtain ⟨v, v1, v2⟩ := h1
      obtain ⟨vs, q1, q2⟩ := each_back h2
      exact ⟨v :: vs, .cons v1 q1, RelDs.cons v2 q2⟩
end
theorem oks_mem : ∀ {n : Nat} {xs : List D} {x : D}, D.oks n xs = true → x ∈ xs → D.ok n x = true
  | n, [], x, h, hx => by cases hx
  | n, y :: xs, x, h, hx => by
    rw [D.oks, Bool.and_eq_true] at h
    rcases List.mem_cons.mp hx with rfl | hx
    · exact h.1
    · exact oks_mem h.2 hx
theorem alkAll_of {xs : List D} (h : alkAll xs = true) : D.oks 60 xs = true ∧ ∀ a ∈ xs, ∀ b ∈ xs, D.alk a b = true := by
  unfold alkAll at h
  rw [Bool.and_eq_true] at h
  exact ⟨h.1, fun a ha b hb => List.all_eq_true.mp (List.all_eq_true.mp h.2 a ha) b hb⟩
theorem alike_of {xs : List D} (h : alkAll xs = true) : ∀ d ∈ xs.map toPy, ∀ d' ∈ xs.map toPy, PySem.W.alike d d' = true := by
  obtain ⟨h1, h2⟩ := alkAll_of h
  intro d hd d' hd'
  obtain ⟨a, ha, rfl⟩ := List.mem_map.mp hd
  obtain ⟨b, hb, rfl⟩ := List.mem_map.mp hd'
  rw [alk_py _ _ a b (oks_mem h1 ha) (oks_mem h1 hb)]
  exact h2 a ha b hb
theorem alikeAll_of {xs : List D} (h : alkAll xs = true) (hn : ∀ a ∈ xs, isNon a = false) : PySem.W.AlikeAll (toPys xs) := by
  rw [toPys_map]
  refine ⟨alike_of h, fun d hd => ?_⟩
  obtain ⟨a, ha, rfl⟩ := List.mem_map.mp hd
  exact toPy_nn (oks_mem (alkAll_of h).1 ha) (hn a ha)
theorem minDD_py : ∀ (xs : List D) (x : D), (∀ a ∈ x :: xs, D.ok 60 a = true) → (∀ a ∈ x :: xs, ∀ b ∈ x :: xs, D.alk a b = true) → PySem.W.minD (toPy x) (toPys xs) = toPy (minDD x xs) ∧ minDD x xs ∈ x :: xs
  | [], x, _, _ => ⟨rfl, by simp [minDD]⟩
  | y :: xs, x, ho, ha => by
    have e : PySem.W.dataLt (toPy y) (toPy x) = D.ltb y x := ltb_py 60 60 y x (ho y (by simp)) (ho x (by simp)) (ha y (by simp) x (by simp))
    rw [toPys]
    show PySem.W.minD (if PySem.W.dataLt (toPy y) (toPy x) = true then toPy y else toPy x) (toPys xs) = toPy (minDD (if D.ltb y x = true then y else x) xs) ∧ minDD (if D.ltb y x = true then y else x) xs ∈ _
    rw [e]
    split
    · obtain ⟨h1, h2⟩ := minDD_py xs y (fun a h => ho a (by simp at h ⊢; exact .inr h)) (fun a h b h' => ha a (by simp at h ⊢; exact .inr h) b (by simp at h' ⊢; exact .inr h'))
      exact ⟨h1, by simp at h2 ⊢; exact .inr h2⟩
    · obtain ⟨h1, h2⟩ := minDD_py xs x (fun a h => ho a (by simp at h ⊢; exact h.imp id .inr)) (fun a h b h' => ha a (by simp at h ⊢; exact h.imp id .inr) b (by simp at h' ⊢; exact h'.imp id .inr))
      exact ⟨h1, by simp at h2 ⊢; exact h2.imp id .inr⟩
theorem maxDD_py : ∀ (xs : List D) (x : D), (∀ a ∈ x :: xs, D.ok 60 a = true) → (∀ a ∈ x :: xs, ∀ b ∈ x :: xs, D.alk a b = true) → PySem.W.maxD (toPy x) (toPys xs) = toPy (maxDD x xs) ∧ maxDD x xs ∈ x :: xs
  | [], x, _, _ => ⟨rfl, by simp [maxDD]⟩
  | y :: xs, x, ho, ha => by
    have e : PySem.W.dataLt (toPy x) (toPy y) = D.ltb x y := ltb_py 60 60 x y (ho x (by simp)) (ho y (by simp)) (ha x (by simp) y (by simp))
    rw [toPys]
    show PySem.W.maxD (if PySem.W.dataLt (toPy x) (toPy y) = true then toPy y else toPy x) (toPys xs) = toPy (maxDD (if D.ltb x y = true then y else x) xs) ∧ maxDD (if D.ltb x y = true then y else x) xs ∈ _
    rw [e]
    split
    · obtain ⟨h1, h2⟩ := maxDD_py xs y (fun a h => ho a (by simp at h ⊢; exact .inr h)) (fun a h b h' => ha a (by simp at h ⊢; exact .inr h) b (by simp at h' ⊢; exact .inr h'))
      exact ⟨h1, by simp at h2 ⊢; exact .inr h2⟩
    · obtain ⟨h1, h2⟩ := maxDD_py xs x (fun a h => ho a (by simp at h ⊢; exact h.imp id .inr)) (fun a h b h' => ha a (by simp at h ⊢; exact h.imp id .inr) b (by simp at h' ⊢; exact h'.imp id .inr))
      exact ⟨h1, by simp at h2 ⊢; exact h2.imp id .inr⟩
theorem minG_of {xs : List D} {d : D} (h : minG xs = some d) : ∃ x r, xs = x :: r ∧ alkAll xs = true ∧ (∀ a ∈ xs, isNon a = false) ∧ d = minDD x r ∧ ∀ a ∈ xs, isL a = false := by
  unfold minG at h
  split at h
  · rename_i x r
    split at h
    · rename_i hz
      cases h
      rw [Bool.and_eq_true] at hz
      have key := fun a ha => by simpa using List.all_eq_true.mp hz.2 a ha
      exact ⟨x, r, rfl, hz.1, fun a ha => (key a ha).1, rfl, fun a ha => (key a ha).2⟩
    · cases h
  · cases h
theorem maxG_of {xs : List D} {d : D} (h : maxG xs = some d) : ∃ x r, xs = x :: r ∧ alkAll xs = true ∧ (∀ a ∈ xs, isNon a = false) ∧ d = maxDD x r ∧ ∀ a ∈ xs, isL a = false := by
  unfold maxG at h
  split at h
  · rename_i x r
    split at h
    · rename_i hz
      cases h
      rw [Bool.and_eq_true] at hz
      have key := fun a ha => by simpa using List.all_eq_true.mp hz.2 a ha
      exact ⟨x, r, rfl, hz.1, fun a ha => (key a ha).1, rfl, fun a ha => (key a ha).2⟩
    · cases h
  · cases h
theorem flat_of {n : Nat} {a : D} (h : isL a = false) (ok : D.ok n a = true) : a.flat = true := by
  cases a <;> first | rfl | (simp [isL] at h; done) | (simp [D.ok] at ok; done)
theorem best_min {pins : List (Addr × Obj)} {σ : L2.St} {H : Hp} {s : Shared} {g : Gh} {st : DSt} {xs : List D} {d : D} {zs : List V} {fr : Bool} {Q : VK} {its : Array Value} (I : Inv X pins σ H s) (S : StOk X.K X.w g H st) (h : minG xs = some d) (r1 : RelDs X.K X.w g H xs zs) (rv : Vals zs its.toList) (P : Post X.K X.w fr g H st d Q)
    {v : Value} {h' : Heap} {tk i : Nat} {bs : List Addr} (hv : its[i]? = some v) (hr : ∀ x r, xs = x :: r → Reads h' v (PySem.W.minD (toPy x) (toPys r)) bs) (hk : ∀ b o, s.heap.get? b = some o → h'.get? b = some o) : EP X pins σ Q v { s with heap := h', toks := tk } := by
  obtain ⟨x, r, rfl, h1, h2, rfl, h3⟩ := minG_of h
  obtain ⟨o1, o2⟩ := alkAll_of h1
  obtain ⟨e1, e2⟩ := minDD_py r x (fun a ha => oks_mem o1 ha) o2
  have hr := hr x r rfl
  rw [e1] at hr
  have hi : i < (x :: r).length := by
    have q1 := (Array.getElem?_eq_some_iff.mp hv).1
    have q2 := rv.length
    have q3 := r1.length
    simp only [Array.length_toList] at q2
    omega
  obtain ⟨z, hz, rz⟩ := r1.get (List.getElem?_eq_getElem hi)
  obtain ⟨u, hu, ru⟩ := rv.get hz
  rw [Array.getElem?_toList, hv] at hu
  cases hu
  have hm : (x :: r)[i] ∈ x :: r := List.getElem_mem hi
  obtain ⟨as, r5⟩ := reads_of I (oks_mem o1 hm) rz ru
  have e3 := PySem.W.alike_unique _ _ _ _ _ (by rw [alk_py 60 60 _ _ (oks_mem o1 hm) (oks_mem o1 e2)]; exact o2 _ hm _ e2) (PySem.W.reads_keeps hk r5) hr
  have e4 := toPy_inj 60 60 _ _ (oks_mem o1 hm) (oks_mem o1 e2) e3
  rw [e4] at rz
  refine ⟨z, H, I.kept hk, ru, P.val S rz fun _ => flat_of (e4 ▸ h3 _ hm) (e4 ▸ oks_mem o1 hm)⟩
theorem best_max {pins : List (Addr × Obj)} {σ : L2.St} {H : Hp} {s : Shared} {g : Gh} {st : DSt} {xs : List D} {d : D} {zs : List V} {fr : Bool} {Q : VK} {its : Array Value} (I : Inv X pins σ H s) (S : StOk X.K X.w g H st) (h : maxG xs = some d) (r1 : RelDs X.K X.w g H xs zs) (rv : Vals zs its.toList) (P : Post X.K X.w fr g H st d Q)
    {v : Value} {h' : Heap} {tk i : Nat} {bs : List Addr} (hv : its[i]? = some v) (hr : ∀ x r, xs = x :: r → Reads h' v (PySem.W.maxD (toPy x) (toPys r)) bs) (hk : ∀ b o, s.heap.get? b = some o → h'.get? b = some o) : EP X pins σ Q v { s with heap := h', toks := tk } := by
  obtain ⟨x, r, rfl, h1, h2, rfl, h3⟩ := maxG_of h
  obtain ⟨o1, o2⟩ := alkAll_of h1
  obtain ⟨e1, e2⟩ := maxDD_py r x (fun a ha => oks_mem o1 ha) o2
  have hr := hr x r rfl
  rw [e1] at hr
  have hi : i < (x :: r).length := by
    have q1 := (Array.getElem?_eq_some_iff.mp hv).1
    have q2 := rv.length
    have q3 := r1.length
    simp only [Array.length_toList] at q2
    omega
  obtain ⟨z, hz, rz⟩ := r1.get (List.getElem?_eq_getElem hi)
  obtain ⟨u, hu, ru⟩ := rv.get hz
  rw [Array.getElem?_toList, hv] at hu
  cases hu
  have hm : (x :: r)[i] ∈ x :: r := List.getElem_mem hi
  obtain ⟨as, r5⟩ := reads_of I (oks_mem o1 hm) rz ru
  have e3 := PySem.W.alike_unique _ _ _ _ _ (by rw [alk_py 60 60 _ _ (oks_mem o1 hm) (oks_mem o1 e2)]; exact o2 _ hm _ e2) (PySem.W.reads_keeps hk r5) hr
  have e4 := toPy_inj 60 60 _ _ (oks_mem o1 hm) (oks_mem o1 e2) e3
  rw [e4] at rz
  refine ⟨z, H, I.kept hk, ru, P.val S rz fun _ => flat_of (e4 ▸ h3 _ hm) (e4 ▸ oks_mem o1 hm)⟩
theorem bi_min1 (hc : X.calm = true) (hu : X.A.units + 65 < cLine) : CallR X (.builtin "min") (rBi X .min) := by
  intro pins s σ H vs us Q I rv ⟨g, st, ws, d, fr, S, r, h, P⟩
  replace h : biMin1 ws = some d := h
  unfold biMin1 at h
  split at h <;> first | (cases h; done) | skip
  · rename_i n xs
    cases e : intsL xs with
    | none => rw [e] at h; cases h
    | some ns =>
      rw [e] at h
      cases h
      obtain ⟨v, rfl, rt⟩ := r.one
      obtain ⟨a, zs, rfl, hX, r1⟩ := rt.lst
      have e2 : intsL (.int n :: xs) = some (n :: ns) := by
        rw [intsL, e]
        rfl
      have := ints_rel e2 r1
      subst this
      obtain ⟨its, rvs, hl, _⟩ := I.list hX
      rw [Vals.ref1 rv]
      refine PySem.W.min_list_data (I.ok.hd hc) hl.isList (reads_ints (ns := n :: ns) rvs) (alike_ints1 (n :: ns)) ?_ fun i v h' tk bs hv hr hk => ?_
      · have := PySem.W.depth_ints (n :: ns)
        rw [List.map_cons] at this
        rw [this]
        omega
      · rw [PySem.W.minD_ints] at hr
        cases hr
        exact ⟨.int _, H, I.kept hk, ⟨_, rfl⟩, P.val S relD_int fun _ => rfl⟩
  · obtain ⟨v, rfl, rt⟩ := r.one
    obtain ⟨a, zs, rfl, hX, r1⟩ := rt.lst
    obtain ⟨x, q, rfl, h1, h2, e, h3⟩ := minG_of h
    obtain ⟨its, rvs, hl, _⟩ := I.list hX
    obtain ⟨as, ra⟩ := readsAll_of I (alkAll_of h1).1 r1 rvs
    rw [Vals.ref1 rv]
    refine PySem.W.min_list_data (x := toPy x) (xs := toPys q) (I.ok.hd hc) hl.isList ra (alikeAll_of h1 h2) ?_ fun i v h' tk bs hv hr hk => ?_
    · have := (ok_lays _ _ (alkAll_of h1).1).2
      rw [toPys] at this
      omega
    · exact best_min I S h r1 (its := its.toArray) rvs P hv (fun x' r' e' => by cases e'; exact hr) hk
  · obtain ⟨v, rfl, rt⟩ := r.one
    obtain ⟨a, zs, rfl, hX, r1⟩ := rt.tup
    obtain ⟨x, q, rfl, h1, h2, e, h3⟩ := minG_of h
    obtain ⟨its, rvs, hl, _⟩ := I.tuple hX
    obtain ⟨as, ra⟩ := readsAll_of I (alkAll_of h1).1 r1 rvs
    rw [Vals.ref1 rv]
    refine PySem.W.min_tuple_data (x := toPy x) (xs := toPys q) (I.ok.hd hc) (show s.heap.IsTuple a its.toArray from hl) ra (alikeAll_of h1 h2) ?_ fun i v h' tk bs hv hr hk => ?_
    · have := (ok_lays _ _ (alkAll_of h1).1).2
      rw [toPys] at this
      omega
    · exact best_min I S h r1 (its := its.toArray) rvs P hv (fun x' r' e' => by cases e'; exact hr) hk
theorem bi_max1 (hc : X.calm = true) (hu : X.A.units + 65 < cLine) : CallR X (.builtin "max") (rBi X .max) := by
  intro pins s σ H vs us Q I rv ⟨g, st, ws, d, fr, S, r, h, P⟩
  replace h : biMax1 ws = some d := h
  unfold biMax1 at h
  split at h <;> first | (cases h; done) | skip
  · rename_i n xs
    cases e : intsL xs with
    | none => rw [e] at h; cases h
    | some ns =>
      rw [e] at h
      cases h
      obtain ⟨v, rfl, rt⟩ := r.one
      obtain ⟨a, zs, rfl, hX, r1⟩ := rt.lst
      have e2 : intsL (.int n :: xs) = some (n :: ns) := by
        rw [intsL, e]
        rfl
      have := ints_rel e2 r1
      subst this
      obtain ⟨its, rvs, hl, _⟩ := I.list hX
      rw [Vals.ref1 rv]
      refine PySem.W.max_list_data (I.ok.hd hc) hl.isList (reads_ints (ns := n :: ns) rvs) (alike_ints1 (n :: ns)) ?_ fun i v h' tk bs hv hr hk => ?_
      · have := PySem.W.depth_ints (n :: ns)
        rw [List.map_cons] at this
        rw [this]
        omega
      · rw [PySem.W.maxD_ints] at hr
        cases hr
        exact ⟨.int _, H, I.kept hk, ⟨_, rfl⟩, P.val S relD_int fun _ => rfl⟩
  · obtain ⟨v, rfl, rt⟩ := r.one
    obtain ⟨a, zs, rfl, hX, r1⟩ := rt.lst
    obtain ⟨x, q, rfl, h1, h2, e, h3⟩ := maxG_of h
    obtain ⟨its, rvs, hl, _⟩ := I.list hX
    obtain ⟨as, ra⟩ := readsAll_of I (alkAll_of h1).1 r1 rvs
    rw [Vals.ref1 rv]
    refine PySem.W.max_list_data (x := toPy x) (xs := toPys q) (I.ok.hd hc) hl.isList ra (alikeAll_of h1 h2) ?_ fun i v h' tk bs hv hr hk => ?_
    · have := (ok_lays _ _ (alkAll_of h1).1).2
      rw [toPys] at this
      omega
    · exact best_max I S h r1 (its := its.toArray) rvs P hv (fun x' r' e' => by cases e'; exact hr) hk
  · obtain ⟨v, rfl, rt⟩ := r.one
    obtain ⟨a, zs, rfl, hX, r1⟩ := rt.tup
    obtain ⟨x, q, rfl, h1, h2, e, h3⟩ := maxG_of h
    obtain ⟨its, rvs, hl, _⟩ := I.tuple hX
    obtain ⟨as, ra⟩ := readsAll_of I (alkAll_of h1).1 r1 rvs
    rw [Vals.ref1 rv]
    refine PySem.W.max_tuple_data (x := toPy x) (xs := toPys q) (I.ok.hd hc) (show s.heap.IsTuple a its.toArray from hl) ra (alikeAll_of h1 h2) ?_ fun i v h' tk bs hv hr hk => ?_
    · have := (ok_lays _ _ (alkAll_of h1).1).2
      rw [toPys] at this
      omega
    · exact best_max I S h r1 (its := its.toArray) rvs P hv (fun x' r' e' => by cases e'; exact hr) hk
/-! ### sorted -/
theorem sortOk_of {xs : List D} (h : sortOk xs = true) : alkAll xs = true ∧ PySem.W.Sortable (xs.map toPy) ∧ xs.length ≤ sizeLine := by
  unfold sortOk at h
  rw [Bool.and_eq_true, Bool.and_eq_true, Bool.or_eq_true] at h
  obtain ⟨⟨h1, h2⟩, h3⟩ := h
  refine ⟨h1, ?_, sz_le h3⟩
  rcases h2 with h2 | h2
  · refine .inl fun d hd => ?_
    obtain ⟨a, ha, rfl⟩ := List.mem_map.mp hd
    have := List.all_eq_true.mp h2 a ha
    cases a <;> first | (simp [isTupNE] at this; done) | skip
    rename_i ys
    cases ys with
    | nil => simp [isTupNE] at this
    | cons y ys => exact ⟨_, _, by rw [toPy, toPys]⟩
  · refine .inr fun d hd => ?_
    obtain ⟨a, ha, rfl⟩ := List.mem_map.mp hd
    have := List.all_eq_true.mp h2 a ha
    rw [Bool.and_eq_true, Bool.not_eq_true', Bool.not_eq_true'] at this
    have ok := oks_mem (alkAll_of h1).1 ha
    refine ⟨toPy_nn ok this.1, fun xs e => ?_⟩
    cases a <;> first | (simp [toPy] at e; done) | (simp [isTupD] at this; done) | (simp [D.ok] at ok; done)
/-- data that can be sorted, few of any kind too -/
theorem sorts_few {prog : Program} {w : World} {A : Around} {s : Shared} {us : List Value} {ds : List PyData} (e : PySem.W.EachIs (fun u d => ∃ as, Reads s.heap u d as) us ds) (al : PySem.W.AllAlike ds) (l1 : ds.length ≤ 1) (nn : ∀ d ∈ ds, d ≠ .none)
    (hu : ∀ d ∈ ds, A.units + d.depth < cLine) : PySem.W.SortsAt prog w A s (PySem.W.dataKind s.heap ds) us := by
  refine ⟨fun u hv => ?_, PyProof.Rows.general', fun E x y k l Q hk hl q => ?_, fun h2 => ?_⟩
  · obtain ⟨d, hd, as, r⟩ := e.left u hv
    exact ⟨_, PySem.W.dataKind_some al hd r⟩
  · obtain ⟨d, as, hd, r, rfl⟩ := PySem.W.dataKind_inv hk
    obtain ⟨d', as', hd', r', rfl⟩ := PySem.W.dataKind_inv hl
    exact PySem.W.oneLt_alike (f := false) (fun z => by cases z) r r' (al d hd d' hd') (nn d hd) (Nat.lt_of_le_of_lt (Nat.add_le_add_left (Nat.min_le_left _ _) _) (hu d hd)) q
  · have el := e.length
    omega
/-- what the evaluator sorts, the model can sort -/
theorem sorts_at {prog : Program} {w : World} {A : Around} {s : Shared} {us : List Value} {xs : List D} (h : sortOkL xs = true) (e : PySem.W.EachIs (fun u d => ∃ as, Reads s.heap u (toPy d) as) us xs)
    (hu : ∀ d ∈ xs, A.units + (toPy d).depth < cLine) : PySem.W.SortsAt prog w A s (PySem.W.dataKind s.heap (xs.map toPy)) us := by
  have em : PySem.W.EachIs (fun u d => ∃ as, Reads s.heap u d as) us (xs.map toPy) := PySem.W.each_map (R := fun u d => ∃ as, Reads s.heap u d as) toPy e
  have bd : ∀ d ∈ xs.map toPy, A.units + d.depth < cLine := fun d hd => by
    obtain ⟨b, hb, rfl⟩ := List.mem_map.mp hd
    exact hu b hb
  unfold sortOkL at h
  rcases Bool.or_eq_true_iff.mp h with h | h
  · obtain ⟨h1, h2, h3⟩ := sortOk_of h
    exact PySem.W.SortsAt.data em (alike_of h1) h2 bd
  · rw [Bool.and_eq_true, Bool.and_eq_true, decide_eq_true_eq] at h
    obtain ⟨⟨h1, h2⟩, h3⟩ := h
    refine sorts_few em (alike_of h1) (by rw [List.length_map]; exact h2) (fun d hd => ?_) bd
    obtain ⟨b, hb, rfl⟩ := List.mem_map.mp hd
    exact toPy_nn (oks_mem (alkAll_of h1).1 hb) (by simpa using List.all_eq_true.mp h3 b hb)
theorem sortOkL_of {xs : List D} (h : sortOkL xs = true) : alkAll xs = true ∧ xs.length ≤ sizeLine := by
  unfold sortOkL at h
  rcases Bool.or_eq_true_iff.mp h with h | h
  · obtain ⟨h1, h2, h3⟩ := sortOk_of h
    exact ⟨h1, h3⟩
  · rw [Bool.and_eq_true, Bool.and_eq_true, decide_eq_true_eq] at h
    exact ⟨h.1.1, Nat.le_trans h.1.2 (by decide)⟩
theorem sort_eq {xs : List D} (h : alkAll xs = true) : xs.mergeSort (PySem.W.dataLe false toPy) = sortL xs := by
  have := List.map_mergeSort (r := PySem.W.dataLe false toPy) (s := fun a b => !D.ltb b a) (f := id) (l := xs) (fun a ha b hb => by
    obtain ⟨h1, h2⟩ := alkAll_of h
    rw [PySem.W.dataLe_eq]
    show (!PySem.W.dataLt (toPy b) (toPy a)) = !D.ltb b a
    rw [ltb_py 60 60 b a (oks_mem h1 hb) (oks_mem h1 ha) (h2 b hb a ha)])
  rwa [List.map_id, List.map_id] at this
mutual
theorem nkey_flat : ∀ (d : D) (n : NestedKey) (h : Heap) (v : Value) (as : List Addr), nkey d = some n → Reads h v (toPy d) as → as = []
  | .non, n, h, v, as, hn, r => by rw [toPy] at r; cases r; rfl
  | .int _, n, h, v, as, hn, r => by rw [toPy] at r; cases r; rfl
  | .str _, n, h, v, as, hn, r => by rw [toPy] at r; cases r; rfl
  | .tup xs, n, h, v, as, hn, r => by
    rw [nkey, Option.map_eq_some_iff] at hn
    obtain ⟨ks, h1, _⟩ := hn
    rw [toPy] at r
    cases r with
    | tuple q1 q2 q3 q4 => exact nkeys_flat xs ks h _ _ h1 q4
  | .bl _, n, h, v, as, hn, r => by simp [nkey] at hn
  | .lst _, n, h, v, as, hn, r => by simp [nkey] at hn
  | .dct _, n, h, v, as, hn, r => by simp [nkey] at hn
  | .ref _, n, h, v, as, hn, r => by simp [nkey] at hn
  | .fn _, n, h, v, as, hn, r => by simp [nkey] at hn
theorem nkeys_flat : ∀ (ds : List D) (ks : List NestedKey) (h : Heap) (vs : List Value) (as : List Addr), nkeys ds = some ks → ReadsAll h vs (toPys ds) as → as = []
  | [], ks, h, vs, as, hn, r => by rw [toPys] at r; cases r; rfl
  | d :: ds, ks, h, vs, as, hn, r => by
    rw [nkeys] at hn
    obtain ⟨k, h1, hn⟩ := Option.bind_eq_some_iff.mp hn
    obtain ⟨ks', h2, hn⟩ := Option.bind_eq_some_iff.mp hn
    rw [toPys] at r
    cases r with
    | cons q1 q2 => rw [nkey_flat d k h _ _ h1 q1, nkeys_flat ds ks' h _ _ h2 q2]; rfl
end
theorem keys_each {g : Gh} {H : Hp} : ∀ {kvs : List (D × D)} {es : List DictEntry}, RelKs X.K X.w g H kvs es → PySem.W.EachIs (fun u d => VR X.K X.w g H d u) (es.map (·.key)) (kvs.map (·.1)) ∧ ∀ d ∈ kvs.map (·.1), ∃ n, nkey d = some n
  | [], es, h => by
    rw [RelKs] at h
    subst h
    exact ⟨.nil, fun d hd => by cases hd⟩
  | (a, b) :: r, es, h => by
    rw [RelKs] at h
    obtain ⟨e, es', rfl, h1, h2⟩ := h
    obtain ⟨q1, q2⟩ := keys_each h2
    rw [RelP] at h1
    obtain ⟨⟨n, n1, n2, n3⟩, ⟨v, v1, v2⟩, z, z1, z2⟩ := h1
    refine ⟨.cons ⟨v, v1, v2⟩ q1, fun d hd => ?_⟩
    rcases List.mem_cons.mp hd with rfl | hd
    · exact ⟨n, n1⟩
    · exact q2 d hd
theorem each_flat {a : Addr} {h : Heap} : ∀ {ds : List D} {us : List Value}, (∀ d ∈ ds, ∃ n, nkey d = some n) → PySem.W.EachIs (fun u d => ∃ as, Reads h u (toPy d) as) us ds → PySem.W.EachIs (fun u d => ∃ as, Reads h u (toPy d) as ∧ a ∉ as) us ds
  | [], us, hn, r => by cases r; exact .nil
  | d :: ds, us, hn, r => by
    cases r with
    | cons h1 h2 =>
      obtain ⟨as, h1⟩ := h1
      obtain ⟨n, hn1⟩ := hn d (by simp)
      exact .cons ⟨as, h1, by rw [nkey_flat d n h _ _ hn1 h1]; simp⟩ (each_flat (fun d' hd => hn d' (by simp [hd])) h2)
theorem sorted_end {pins : List (Addr × Obj)} {σ : L2.St} {H : Hp} {s : Shared} {g : Gh} {st : DSt} {xs : List D} {fr : Bool} {Q : VK} (I : Inv X pins σ H s) (S : StOk X.K X.w g H st) (h1 : alkAll xs = true) (hz : xs.length ≤ sizeLine) (P : Post X.K X.w fr g H st (.lst (sortL xs)) Q)
    {out : List Value} (ho : PySem.W.EachIs (fun u d => VR X.K X.w g H d u) out (xs.mergeSort (PySem.W.dataLe false toPy))) {h' : Heap} {tk p : Nat} (hp : s.heap.objs.size ≤ p) (hk : ∀ b o, s.heap.get? b = some o → h'.get? b = some o) {c : Nat} (hg : h'.get? p = some (PyProof.Rows.seqObj "list" out.toArray c)) :
    EP X pins σ Q (.ref p) { s with heap := h', toks := tk } := by
  rw [sort_eq h1] at ho
  obtain ⟨vs, q1, q2⟩ := each_back ho
  have hl : vs.length = xs.length := by
    rw [← q2.length]
    unfold sortL
    rw [List.length_mergeSort]
  exact ⟨.ref p, upd H p (.lst vs), I.laid (t' := tk) hk hp ⟨by omega, out, c, q1, hg⟩, rfl, P.lst S q2 p (I.hok.fresh hp)⟩
theorem signs_each {g : Gh} {H : Hp} : ∀ {cs : List Nat} {us : List Value}, us.length = cs.length → (∀ (j : Nat) v, us[j]? = some v → ∃ c u, cs[j]? = some c ∧ v = Value.str ⟨#[c]⟩ u) → PySem.W.EachIs (fun u d => VR X.K X.w g H d u) us (cs.map fun c => D.str [c])
  | [], us, hl, _ => by
    have : us = [] := List.eq_nil_of_length_eq_zero hl
    subst this
    exact .nil
  | a :: l, [], hl, _ => by simp at hl
  | a :: l, b :: us, hl, hj => by
    obtain ⟨c, u, h1, h2⟩ := hj 0 b rfl
    cases h1
    refine .cons ⟨.str ⟨#[a]⟩, ⟨u, h2⟩, ?_⟩ (signs_each (by simpa using hl) fun j v hv => ?_)
    · rw [RelD]
    · obtain ⟨c', u', h3, h4⟩ := hj (j + 1) v (by simpa using hv)
      exact ⟨c', u', by simpa using h3, h4⟩
theorem bi_sorted (hc : X.calm = true) (hu : X.A.units + 130 < cLine) : CallR X (.builtin "sorted") (rBi X .sorted) := by
  intro pins s σ H vs us Q I rv ⟨g, st, ws, d, fr, S, r, h, P⟩
  replace h : biSorted ws = some d := h
  unfold biSorted at h
  split at h <;> first | (cases h; done) | skip
  · split at h
    · rename_i cs hz
      cases h
      obtain ⟨h1, h2, h3⟩ := sortOk_of hz
      obtain ⟨v, rfl, rt⟩ := r.one
      rw [rt.str] at rv
      obtain ⟨u, rfl, ru⟩ := rv.one
      obtain ⟨t, rfl⟩ := ru
      refine PySem.Calls.call_function_entry PyProof.Rows.kind_sorted PyProof.Rows.plain_sorted PyProof.Rows.entry_sorted (PyProof.Rows.args_sorted1 _) ?_
      unfold Builtin.«sorted»
      refine wpAny_bind (m := checkCount "sorted" 1 1 _) (wpAny_pure ?_)
      have hA : X.A.in1.handled = none := I.ok.hd hc
      have hcl : cs.length ≤ sizeLine := by simpa using h3
      refine wpAny_bind (wpAny_collect_str hA ⟨cs.toArray⟩ t (fun s' acc hk hg hd ho hi => ?_) (by simpa using hcl))
      obtain ⟨hp', g', d', tk', o'⟩ := s'
      simp only at hg hd ho hk
      subst hg hd ho
      have hal : acc.toList.length = cs.length := by
        have := hi.1
        simpa using this
      have hv : PySem.W.EachIs (fun u d => VR X.K X.w g H d u) acc.toList (cs.map fun c => D.str [c]) := signs_each hal fun j v hj => by
        obtain ⟨c, u, q1, q2⟩ := hi.2 j v (by simpa using hj)
        exact ⟨c, u, by simpa using q1, q2⟩
      refine wpAny_bind (wpAny_newList ?_ (by rw [hal]; exact hcl))
      have I' : Inv X pins σ H { s with heap := hp', toks := tk' } := I.kept hk
      have e3 := each_reads I' (alkAll_of h1).1 hv
      have e2 : ∀ d ∈ (cs.map fun c => D.str [c]), ∃ n, nkey d = some n := fun d hd => by
        obtain ⟨c, _, rfl⟩ := List.mem_map.mp hd
        exact ⟨_, by rw [nkey]⟩
      have e4 : PySem.W.EachIs (fun u d => ∃ as, Reads (hp'.push { cls := .type "list", data := .seq acc.toList.toArray }) u (toPy d) as ∧ hp'.objs.size ∉ as) acc.toList (cs.map fun c => D.str [c]) :=
        each_flat e2 (e3.mono fun u d ⟨as, q⟩ => ⟨as, PySem.W.reads_keeps (fun b o q' => Heap.get?_push_of_some _ q') q⟩)
      refine wpAny_bind (wpAny_holding (PySem.W.list_sort_data (R := fun u d => VR X.K X.w g H d u) (enc := toPy) (n := 0) (s := { s with heap := hp'.push { cls := .type "list", data := .seq acc.toList.toArray }, toks := tk' }) (Heap.get?_push_size _ rfl) hv e4 (alike_of h1) h2 h3 (fun b hb => ?_) fun out _ ho => ?_))
      · have := (ok_lay _ _ (oks_mem (alkAll_of h1).1 hb)).2
        show X.A.units + 1 + 1 + _ < _
        omega
      · have hg0 : (hp'.push { cls := .type "list", data := .seq acc.toList.toArray }).get? hp'.objs.size = some (PyProof.Rows.seqObj "list" acc.toList.toArray 0) := Heap.get?_push_size _ rfl
        obtain ⟨c, hg⟩ := PyProof.Rows.sortedHeap_at (out := out.toArray) hg0
        refine wpAny_pure ⟨_, rfl, ?_⟩
        refine sorted_end I' S h1 h3 P ho (p := hp'.objs.size) (Nat.le_refl _) (fun b o q => ?_) hg
        have hb : hp'.get? b = some o := q
        have hbl := Heap.lt_size hb
        rw [PyProof.Rows.sortedHeap_old (Nat.ne_of_lt hbl) (show b < (hp'.push _).objs.size by rw [Heap.size_push]; exact Nat.lt_succ_of_lt hbl)]
        exact Heap.get?_push_of_some _ hb
    · cases h
  · split at h
    · rename_i xs hz
      cases h
      obtain ⟨h1, h3⟩ := sortOkL_of hz
      obtain ⟨v, rfl, rt⟩ := r.one
      obtain ⟨a, zs, rfl, hX, r1⟩ := rt.lst
      obtain ⟨its, rvs, hl, _⟩ := I.list hX
      rw [Vals.ref1 rv]
      have e := each_of r1 rvs
      have er := each_reads I (alkAll_of h1).1 e
      have e2 : PySem.W.EachIs (fun u d => ∃ as, Reads (PySem.W.sortingHeap (PySem.W.copyHeap s.heap its) (s.heap.objs.size + 1) its) u (toPy d) as) its xs :=
        er.mono fun u d ⟨as, q⟩ => ⟨as, PyProof.Rows.Reads.keeps (fun _ _ z => PySem.W.sorting_copy_old z) q⟩
      refine PySem.W.sorted_vals hl.isList (sorts_at (s := { s with heap := PySem.W.sortingHeap (PySem.W.copyHeap s.heap its) (s.heap.objs.size + 1) its }) hz e2 fun b hb => ?_) (by rw [e.length]; exact h3) ?_
      · have := (ok_lay _ _ (oks_mem (alkAll_of h1).1 hb)).2
        show X.A.units + 1 + 1 + _ < _
        omega
      · obtain ⟨c, hg⟩ := PyProof.Rows.sortedAll_at s.heap its (PySem.W.sortVals (PySem.W.dataKind (PySem.W.sortingHeap (PySem.W.copyHeap s.heap its) (s.heap.objs.size + 1) its) (xs.map toPy)) false its its).toArray
        exact sorted_end I S h1 h3 P (PySem.W.sortVals_data false e e2 (alike_of h1)) (Nat.le_succ _) (fun b o q => PyProof.Rows.sortedAll_old q) hg
    · cases h
  · split at h
    · rename_i kvs hz
      cases h
      obtain ⟨h1, h2, h3⟩ := sortOk_of hz
      obtain ⟨v, rfl, rt⟩ := r.one
      obtain ⟨a, es, rfl, hX, hd, hr⟩ := rt.dct
      rw [Vals.ref1 rv]
      obtain ⟨hraw, hs⟩ := raw_at I hX
      obtain ⟨e1, e2⟩ := keys_each hr
      have hel : es.1.length ≤ sizeLine := by
        rw [← relKs_len hr]
        simpa using h3
      refine PySem.Calls.call_function_entry PyProof.Rows.kind_sorted PyProof.Rows.plain_sorted PyProof.Rows.entry_sorted (PyProof.Rows.args_sorted1 _) ?_
      unfold Builtin.«sorted»
      refine wpAny_bind (m := checkCount "sorted" 1 1 _) (wpAny_pure ?_)
      have hA : X.A.in1.handled = none := I.ok.hd hc
      refine wpAny_bind (PySem.W.kdu_collect (KdlSrc.rawDict (ep := es.2) (es := es.1.toArray) hs) hA hraw (by simpa using hel) fun h' tk acc hk hacc => ?_)
      have hacc2 : acc.toList = es.1.map (·.key) := by
        refine List.ext_getElem? fun j => ?_
        obtain ⟨q1, q2⟩ := hacc
        by_cases hj : j < acc.size
        · obtain ⟨hj2, e⟩ := q2 j acc[j] (Array.getElem?_eq_getElem hj)
          rw [Array.getElem?_toList, Array.getElem?_eq_getElem hj, e, List.getElem?_map]
          simp only [List.size_toArray] at hj2
          rw [List.getElem?_eq_getElem hj2]
          rfl
        · rw [List.getElem?_eq_none (by simpa using hj), List.getElem?_eq_none (by simp only [List.size_toArray] at q1; simp; omega)]
      have hal : acc.toList.length = es.1.length := by rw [hacc2, List.length_map]
      refine wpAny_bind (wpAny_newList ?_ (by rw [hal]; exact hel))
      have I' : Inv X pins σ H { s with heap := h', toks := tk } := I.kept hk
      have e3 := each_reads I' (alkAll_of h1).1 (hacc2 ▸ e1)
      have e4 : PySem.W.EachIs (fun u d => ∃ as, Reads (h'.push { cls := .type "list", data := .seq acc.toList.toArray }) u (toPy d) as ∧ h'.objs.size ∉ as) acc.toList (kvs.map (·.1)) :=
        each_flat e2 (e3.mono fun u d ⟨as, q⟩ => ⟨as, PySem.W.reads_keeps (fun b o q' => Heap.get?_push_of_some _ q') q⟩)
      refine wpAny_bind (wpAny_holding (PySem.W.list_sort_data (R := fun u d => VR X.K X.w g H d u) (enc := toPy) (n := 0) (s := { s with heap := h'.push { cls := .type "list", data := .seq acc.toList.toArray }, toks := tk }) (Heap.get?_push_size _ rfl) (hacc2 ▸ e1) e4 (alike_of h1) h2 h3 (fun b hb => ?_) fun out _ ho => ?_))
      · have := (ok_lay _ _ (oks_mem (alkAll_of h1).1 hb)).2
        show X.A.units + 1 + 1 + _ < _
        omega
      · have hg0 : (h'.push { cls := .type "list", data := .seq acc.toList.toArray }).get? h'.objs.size = some (PyProof.Rows.seqObj "list" acc.toList.toArray 0) := Heap.get?_push_size _ rfl
        obtain ⟨c, hg⟩ := PyProof.Rows.sortedHeap_at (out := out.toArray) hg0
        refine wpAny_pure ⟨_, rfl, ?_⟩
        refine sorted_end I' S h1 h3 P ho (p := h'.objs.size) (Nat.le_refl _) (fun b o q => ?_) hg
        have hb : h'.get? b = some o := q
        have hbl := Heap.lt_size hb
        rw [PyProof.Rows.sortedHeap_old (Nat.ne_of_lt hbl) (show b < (h'.push _).objs.size by rw [Heap.size_push]; exact Nat.lt_succ_of_lt hbl)]
        exact Heap.get?_push_of_some _ hb
    · cases h
/-- the built-in functions that are served, as they are called -/
def biV : Bi → Option (Str × Value)
  | .len => some ("len", .builtin "len")
  | .tuple => some ("tuple", .type "tuple")
  | .list => some ("list", .type "list")
  | .all => some ("all", .builtin "all")
  | .any => some ("any", .builtin "any")
  | .sorted => some ("sorted", .builtin "sorted")
  | .sum => some ("sum", .builtin "sum")
  | .abs => some ("abs", .builtin "abs")
  | .int => some ("int", .type "int")
  | .min2 => some ("min", .builtin "min")
  | .max2 => some ("max", .builtin "max")
  | .min => some ("min", .builtin "min")
  | .max => some ("max", .builtin "max")
  | _ => none
theorem se_bi {x : Str} {p pos : Pos} {e : Expr} {es : List Expr} {ies : IEs} {b : Bi} {v : Value} {k : Nat} {gl : List Str} (hX : XOk X k L gl G) (hb : biV b = some (x, v)) (hg : Gl X x)
    (hp : (e :: es).all plainE = true) (h : SA L G X (e :: es) ies) : SE L G X (.Call (.Name x p) (e :: es) [] pos) (.bi b ies) := by
  intro σ H g env st d st' Q hE hS hev P
  rw [evE] at hev
  obtain ⟨⟨ds, st1⟩, e1, hev⟩ := bindS hev
  obtain ⟨us, e2, hev⟩ := bindS hev
  obtain ⟨d', e3, hev⟩ := bindS hev
  cases hev
  rw [List.all_cons, Bool.and_eq_true] at hp
  have go : wpA X (e :: es) σ H fun vs H1 => rBi X b vs H1 Q := by
    refine h σ H g env st ds st1 _ hE hS e1 fun vs H1 g1 x1 s1 r1 => ?_
    exact ⟨g1, st1, us, d, _, s1, viewAll_t s1 e2 r1, e3, P.mono x1⟩
  have hm : ∀ y ∈ bnames, X.mg y = none := hX.bs
  cases b <;> simp only [biV] at hb <;> first | (cases hb; done) | skip
  all_goals (cases hb)
  · exact le_E (pe_callB bi_len hg (hm _ (by decide)) (by decide +kernel) pa_wp (by decide) (by decide) (star_cons hp.1) (star_all hp.2)) go
  · exact le_E (pe_callTy bi_tuple hg (hm _ (by decide)) (by decide +kernel) pa_wp (by decide) (by decide) (star_cons hp.1) (star_all hp.2)) go
  · exact le_E (pe_callTy (bi_list hX.calm) hg (hm _ (by decide)) (by decide +kernel) pa_wp (by decide) (by decide) (star_cons hp.1) (star_all hp.2)) go
  · exact le_E (pe_callB (bi_all hX.calm) hg (hm _ (by decide)) (by decide +kernel) pa_wp (by decide) (by decide) (star_cons hp.1) (star_all hp.2)) go
  · exact le_E (pe_callB (bi_any hX.calm) hg (hm _ (by decide)) (by decide +kernel) pa_wp (by decide) (by decide) (star_cons hp.1) (star_all hp.2)) go
  · exact le_E (pe_callB (bi_sorted hX.calm (by have := hX.room.un; omega)) hg (hm _ (by decide)) (by decide +kernel) pa_wp (by decide) (by decide) (star_cons hp.1) (star_all hp.2)) go
  · exact le_E (pe_callB (bi_min1 hX.calm (by have := hX.room.un; omega)) hg (hm _ (by decide)) (by decide +kernel) pa_wp (by decide) (by decide) (star_cons hp.1) (star_all hp.2)) go
  · exact le_E (pe_callB (bi_max1 hX.calm (by have := hX.room.un; omega)) hg (hm _ (by decide)) (by decide +kernel) pa_wp (by decide) (by decide) (star_cons hp.1) (star_all hp.2)) go
  · exact le_E (pe_callB bi_abs hg (hm _ (by decide)) (by decide +kernel) pa_wp (by decide) (by decide) (star_cons hp.1) (star_all hp.2)) go
  · exact le_E (pe_callTy bi_int hg (hm _ (by decide)) (by decide +kernel) pa_wp (by decide) (by decide) (star_cons hp.1) (star_all hp.2)) go
  · exact le_E (pe_callB (bi_sum hX.calm) hg (hm _ (by decide)) (by decide +kernel) pa_wp (by decide) (by decide) (star_cons hp.1) (star_all hp.2)) go
  · exact le_E (pe_callB (bi_min2 hX.calm) hg (hm _ (by decide)) (by decide +kernel) pa_wp (by decide) (by decide) (star_cons hp.1) (star_all hp.2)) go
  · exact le_E (pe_callB (bi_max2 hX.calm) hg (hm _ (by decide)) (by decide +kernel) pa_wp (by decide) (by decide) (star_cons hp.1) (star_all hp.2)) go
end
end Py

set_option Elab.async false
set_option linter.all false
set_option maxRecDepth 100000
set_option autoImplicit false
set_option maxHeartbeats 1000000
namespace Py
open PySem PySem.Spec L2
section
variable {L : List DFn} {G : List D} {X : Cx}
/-! ### isinstance -/
def tyN : Ty → Str
  | .int => "int"
  | .bool => "bool"
  | .str => "str"
  | .tuple => "tuple"
  | .list => "list"
  | .dict => "dict"
def tyS : Ty → String
  | .int => "int"
  | .bool => "bool"
  | .str => "str"
  | .tuple => "tuple"
  | .list => "list"
  | .dict => "dict"
theorem tyN_mem (t : Ty) : tyN t ∈ bnames := by cases t <;> decide
theorem tyN_boot (t : Ty) : bootBuiltins (tyN t) = some (.type (tyS t)) := by cases t <;> decide +kernel
theorem tyN_ok (t : Ty) : tyN t ≠ "__name__" ∧ (tyN t == ("__debug__" : Str)) = false := by cases t <;> decide
/-- the built-in class of data -/
def dTy : D → Option String
  | .non => some "NoneType"
  | .bl _ => some "bool"
  | .int _ => some "int"
  | .str _ => some "str"
  | .tup _ => some "tuple"
  | .lst _ => some "list"
  | _ => none
theorem ty_rel {K : PySem.W.Frag} {w : World} {g : Gh} {H : Hp} {a : D} {v : V} {n : String} (h : dTy a = some n) (r : RelT K w g H a v) : TyX K H v (.type n) := by
  cases a with
  | non => cases h; rw [r.non]; exact .base .non
  | bl b => cases h; rw [r.bl]; exact .base (.bl b)
  | int b => cases h; rw [r.int]; exact .base (.int b)
  | str b => cases h; rw [r.str]; exact .base (.str _)
  | tup b =>
    cases h
    obtain ⟨p, xs, rfl, hX, _⟩ := r.tup
    rcases hX with (hX | ⟨o, hX⟩) | ⟨o, its, n, h1, h2, h3⟩
    · exact .base (.tup hX)
    · exact .fTuple hX
    · exact .kTuple h1 h2
  | lst b =>
    cases h
    obtain ⟨p, xs, rfl, hX, _⟩ := r.lst
    rcases hX with (hX | ⟨o, hX⟩) | ⟨o, its, n, h1, h2, h3⟩
    · exact .base (.lst hX)
    · exact .base (.frz hX)
    · exact .kList h1 h2
  | dct b => cases h
  | ref b => cases h
  | fn b => cases h
theorem isi_kit {a : D} {n : String} {t : Ty} (h : dTy a = some n) : ∃ b, isiD a t = some b ∧ kitB n (tyS t) = some b := by
  cases a <;> cases h <;> cases t <;> exact ⟨_, rfl, by decide +kernel⟩
def rIsiO (X : Cx) (t : Ty) : List V → Hp → VK → Prop := fun vs H Q => ∃ (g : Gh) (st : DSt) (a : D) (v : V) (b : Bool), vs = [v, .ty (tyS t)] ∧ RelT X.K X.w g H a v ∧ (∃ n, dTy a = some n) ∧ isiD a t = some b ∧ Q (.bl b) H
theorem call_isiO (t : Ty) : CallR X (.builtin "isinstance") (rIsiO X t) := by
  intro pins s σ H vs us Q I rv ⟨g, st, a, v, b, e, r, ⟨n, hn⟩, h, P⟩
  subst e
  obtain ⟨b', h1, h2⟩ := isi_kit (t := t) hn
  rw [h] at h1
  cases h1
  exact call_isi pins s σ H _ us Q I rv ⟨v, .ty (tyS t), .type n, .type (tyS t), b, rfl, .ty _, ty_rel hn r, kit_ty h2, P⟩
theorem se_isi {a : Expr} {ia : IE} {t : Ty} {p p2 pos : Pos} {k : Nat} {gl : List Str} (hX : XOk X k L gl G) (hg : Gl X "isinstance") (hg2 : Gl X (tyN t)) (hp : plainE a = true) (h : SE L G X a ia) :
    SE L G X (.Call (.Name "isinstance" p) [a, .Name (tyN t) p2] [] pos) (.isi ia t) := by
  intro σ H g env st d st' Q hE hS hev P
  rw [evE] at hev
  obtain ⟨⟨x, st1⟩, e1, hev⟩ := bindS hev
  obtain ⟨u, e2, hev⟩ := bindS hev
  obtain ⟨b, e3, hev⟩ := bindS hev
  cases hev
  have pe2 : PE X (.Name (tyN t) p2) (tC (.ty (tyS t))) := pe_bltn hg2 (hX.bs _ (tyN_mem t)) (tyN_boot t) rfl (tyN_ok t).1 (tyN_ok t).2
  have hpa : PA X [a, .Name (tyN t) p2] (tCons (wpE X a) (tCons (tC (.ty (tyS t))) tNil)) := pa_cons pe_wp (pa_cons pe2 pa_nil) (star_cons hp)
  refine le_E (pe_callB (call_isiO t) hg (hX.bs _ (by decide)) (by decide +kernel) hpa (by decide) (by decide) (star_cons hp) (by rfl)) ?_
  refine h σ H g env st x st1 _ hE hS e1 fun v H1 g1 x1 s1 r1 _ => ?_
  refine ⟨g1, st1, u, v, b, rfl, view_t e2 s1 r1, ?_, e3, (P.mono x1).val s1 relD_bl fun _ => rfl⟩
  cases u <;> first | exact ⟨_, rfl⟩ | (simp [isiD] at e3; done)
/-! ### list(range(..)) -/
theorem rgV_rel {K : PySem.W.Frag} {w : World} {g : Gh} {H : Hp} (a b : Int) : RelDs K w g H (rangeL a b) (rgV a b) := by
  unfold rangeL rgV
  generalize List.range (b - a).toNat = l
  induction l with
  | nil => exact RelDs.nil
  | cons i l ih => exact RelDs.cons (by rw [RelD]) ih
theorem rngOk_le {a b : Int} (h : rngOk a b = true) : (-1000000 ≤ a ∧ a ≤ 1000000) ∧ -1000000 ≤ b ∧ b ≤ 1000000 := by
  unfold rngOk at h
  simp only [Bool.and_eq_true, decide_eq_true_eq] at h
  omega
theorem rgOk_of {a b : Int} (h : rngOk a b = true) : RgOk a b := by
  have := rngOk_le h
  unfold RgOk
  omega
theorem se_lr1 {a : Expr} {ia : IE} {p p1 p2 pos : Pos} {k : Nat} {gl : List Str} (hX : XOk X k L gl G) (hg : Gl X "list") (hg2 : Gl X "range") (hp : plainE a = true) (h : SE L G X a ia) :
    SE L G X (.Call (.Name "list" p) [.Call (.Name "range" p1) [a] [] p2] [] pos) (.bi .lrange1 (.cons ia .nil)) := by
  intro σ H g env st d st' Q hE hS hev P
  rw [evE] at hev
  obtain ⟨⟨ds, st1⟩, e0, hev⟩ := bindS hev
  rw [evEs] at e0
  obtain ⟨us, e2, hev⟩ := bindS hev
  obtain ⟨d', e3, hev⟩ := bindS hev
  cases hev
  obtain ⟨⟨x, st2⟩, e1, e0⟩ := bindS e0
  rw [evEs] at e0
  cases e0
  unfold viewAll viewAll at e2
  obtain ⟨u, e4, e2⟩ := bindS e2
  cases e2
  refine le_E (pe_listRg hX.calm hg (hX.bs _ (by decide)) (prg_1 hg2 (hX.bs _ (by decide)) pe_wp (star_cons hp))) ?_
  refine h σ H g env st x _ _ hE hS e1 fun v H1 g1 x1 s1 r1 _ => ?_
  have rt := view_t e4 s1 r1
  replace e3 : biLr1 [u] = some d := e3
  unfold biLr1 at e3
  split at e3
  · rename_i b he
    cases he
    split at e3
    · rename_i hz
      cases e3
      exact ⟨b, rt.int, rgOk_of hz, (P.mono x1).lst s1 (rgV_rel 0 b)⟩
    · cases e3
  · cases e3
theorem se_lr2 {a b : Expr} {ia ib : IE} {p p1 p2 pos : Pos} {k : Nat} {gl : List Str} (hX : XOk X k L gl G) (hg : Gl X "list") (hg2 : Gl X "range") (hp : plainE a = true) (hp2 : plainE b = true) (h : SE L G X a ia) (h2 : SE L G X b ib) :
    SE L G X (.Call (.Name "list" p) [.Call (.Name "range" p1) [a, b] [] p2] [] pos) (.bi .lrange2 (.cons ia (.cons ib .nil))) := by
  intro σ H g env st d st' Q hE hS hev P
  rw [evE] at hev
  obtain ⟨⟨ds, st1⟩, e0, hev⟩ := bindS hev
  rw [evEs] at e0
  obtain ⟨us, e2, hev⟩ := bindS hev
  obtain ⟨d', e3, hev⟩ := bindS hev
  cases hev
  obtain ⟨⟨x, st2⟩, e1, e0⟩ := bindS e0
  obtain ⟨⟨y, st3⟩, e5, e0⟩ := bindS e0
  rw [evEs] at e5
  obtain ⟨⟨z, st4⟩, e6, e5⟩ := bindS e5
  rw [evEs] at e5
  cases e5
  cases e0
  unfold viewAll viewAll viewAll at e2
  obtain ⟨u, e4, e2⟩ := bindS e2
  obtain ⟨us', e7, e2⟩ := bindS e2
  cases e2
  obtain ⟨u2, e8, e7⟩ := bindS e7
  cases e7
  refine le_E (pe_listRg hX.calm hg (hX.bs _ (by decide)) (prg_2 hg2 (hX.bs _ (by decide)) pe_wp pe_wp (star_cons hp) (star_cons hp2) (star_all (by simp [hp2])))) ?_
  refine h σ H g env st x _ _ hE hS e1 fun v H1 g1 x1 s1 r1 _ => ?_
  refine h2 σ H1 g1 env _ z _ _ (hE.ext x1) s1 e6 fun v2 H2 g2 x2 s2 r2 _ => ?_
  have rt := view_t e4 s2 (r1.ext x2)
  have rt2 := view_t e8 s2 r2
  replace e3 : biLr2 [u, u2] = some d := e3
  unfold biLr2 at e3
  split at e3
  · rename_i a' b' he
    cases he
    split at e3
    · rename_i hz
      cases e3
      exact ⟨a', b', rt.int, rt2.int, rgOk_of hz, (P.mono (x1.trans x2)).lst s2 (rgV_rel a' b')⟩
    · cases e3
  · cases e3
/-! ### methods -/
def mtN : Mt → Str
  | .append => "append"
  | .extend => "extend"
  | .pop => "pop"
  | .popAt => "pop"
  | .index => "index"
  | .count => "count"
  | .countT => "count"
  | .join => "join"
  | .get => "get"
  | .get2 => "get"
  | .split => "split"
  | .replace => "replace"
  | .endswith => "endswith"
/-- a store's object changed -/
theorem StOk.set {K : PySem.W.Frag} {w : World} {g : Gh} {H : Hp} {st : DSt} (S : StOk K w g H st) {k : Nat} {a : Addr} {o : O} {u : HO} (hk : g.ρ[k]? = some (some a)) (ho : ∀ H', Ext g H g H' → H' a = some u → ORel K w g H' o a) (nd : o ≠ .dead) :
    Ext g H g (upd H a u) ∧ StOk K w g (upd H a u) (setO st k o) := by
  have za := S.inZ k a hk
  have e : Ext g H g (upd H a u) := ⟨fun b z nz h => ⟨by rw [upd_ne (show b ≠ a from fun q => nz (q ▸ za))]; exact h, nz⟩, fun b z n => ⟨by rw [upd_ne (show b ≠ a from fun q => n k (q ▸ hk))], z, n⟩, fun b h => by
    by_cases hb : b = a
    · subst hb
      rw [upd_same]
      simp
    · rw [upd_ne hb]
      exact h, Nat.le_refl _, fun _ _ _ q => q⟩
  refine ⟨e, by simp [setO, S.len], S.inj, S.inZ, fun b z => e.trk b (S.trk b z), fun j b o' h1 h2 => ?_, fun j o' h2 => ?_⟩
  · unfold setO at h2
    by_cases hj : k = j
    · subst hj
      rw [List.getElem?_set] at h2
      rw [if_pos rfl] at h2
      split at h2
      · cases h2
        rw [hk] at h1
        cases h1
        exact ho _ e upd_same
      · cases h2
    · rw [List.getElem?_set_ne hj] at h2
      have hb : b ≠ a := fun q => hj (S.inj k j a hk (q ▸ h1))
      have q := S.obj j b o' h1 h2
      cases o' with
      | lst xs =>
        obtain ⟨vs, q1, q2⟩ := q
        exact ⟨vs, by rw [upd_ne hb]; exact q1, q2.ext e⟩
      | dct kvs =>
        obtain ⟨es, q1, qd, q2⟩ := q
        exact ⟨es, by rw [upd_ne hb]; exact q1, qd, q2.ext e⟩
      | dead => exact q.elim
  · unfold setO at h2
    by_cases hj : k = j
    · subst hj
      exact .inr ⟨a, hk⟩
    · rw [List.getElem?_set_ne hj] at h2
      exact S.live j o' h2
def rMt (X : Cx) (m : Mt) : V → List V → Hp → VK → Prop := fun x vs H Q => ∃ (g : Gh) (st : DSt) (o : D) (ds : List D) (d : D) (st' : DSt), StOk X.K X.w g H st ∧ RelD X.K X.w g H o x ∧ RelDs X.K X.w g H ds vs ∧ mthD m o ds st = some (d, st') ∧ Post X.K X.w false g H st' d Q
theorem ref_lst {K : PySem.W.Frag} {w : World} {g : Gh} {H : Hp} {st : DSt} (S : StOk K w g H st) {k : Nat} {v : V} {xs : List D} (r : RelD K w g H (.ref k) v) (h : st[k]? = some (.lst xs)) :
    ∃ a vs, v = .ref a ∧ g.ρ[k]? = some (some a) ∧ H a = some (.lst vs) ∧ RelDs K w g H xs vs := by
  rw [RelD] at r
  rcases S.live k _ h with ⟨e, _⟩ | ⟨a, ha⟩
  · cases e
  · obtain ⟨vs, h1, h2⟩ := S.obj k a _ ha h
    exact ⟨a, vs, r.2 a ha, ha, h1, h2⟩
theorem mt_append_ok : MtM X "list.append" (rMt X .append) := by
  intro pins s σ H x vs v us Q I rx rv ⟨g, st, o, ds, d, st', S, ro, rd, h, P⟩
  replace h : mtAppend o ds st = some (d, st') := h
  unfold mtAppend at h
  split at h
  · rename_i st0 k d0
    split at h
    · rename_i xs hk
      split at h
      · rename_i hz
        cases h
        obtain ⟨a, ws, rfl, hr, hH, r1⟩ := ref_lst S ro hk
        rw [RelDs] at rd
        obtain ⟨v0, r', rfl, h1, h2⟩ := rd
        rw [RelDs] at h2
        subst h2
        refine mt_append pins s σ H _ _ v us Q I rx rv ⟨a, ws, v0, rfl, rfl, hH, ?_, ?_⟩
        · rw [← r1.length]
          have := sz_le hz
          omega
        · obtain ⟨e, S'⟩ := S.set (o := .lst (xs ++ [d0])) (u := .lst (ws ++ [v0])) hr (fun H' e' q => ⟨_, q, (r1.ext e').append (RelDs.cons (h1.ext e') RelDs.nil)⟩) (by simp)
          exact P _ _ g e S' relD_non fun h => by cases h
      · cases h
    · cases h
  · cases h
theorem mt_pop_ok : MtR X "list.pop" (rMt X .pop) := by
  intro pins s σ H x vs v us Q I rx rv ⟨g, st, o, ds, d, st', S, ro, rd, h, P⟩
  replace h : mtPop o ds st = some (d, st') := h
  unfold mtPop at h
  split at h
  · rename_i st0 k
    split at h
    · rename_i xs hk
      cases hy : xs[xs.length - 1]? with
      | none => rw [hy] at h; cases h
      | some y =>
        rw [hy] at h
        cases h
        obtain ⟨a, ws, rfl, hr, hH, r1⟩ := ref_lst S ro hk
        rw [RelDs] at rd
        subst rd
        obtain ⟨v0, hv, rv0⟩ := r1.get hy
        rw [r1.length] at hv
        obtain ⟨e, S'⟩ := S.set (o := .lst xs.dropLast) (u := .lst ws.dropLast) hr (fun H' e' q => ⟨_, q, (r1.ext e').dropLast⟩) (by simp)
        exact mt_pop pins s σ H _ _ v us Q I rx rv ⟨a, ws, v0, rfl, rfl, hH, hv, P _ _ g e S' (rv0.ext e) fun h => by cases h⟩
    · cases h
  · cases h
theorem mt_popAt_ok : MtR X "list.pop" (rMt X .popAt) := by
  intro pins s σ H x vs v us Q I rx rv ⟨g, st, o, ds, d, st', S, ro, rd, h, P⟩
  replace h : mtPopAt o ds st = some (d, st') := h
  unfold mtPopAt at h
  split at h
  · rename_i st0 k i
    split at h
    · rename_i xs hk
      split at h
      · rename_i hz
        rw [Bool.and_eq_true] at hz
        cases hy : atI xs i with
        | none => rw [hy] at h; cases h
        | some y =>
          rw [hy] at h
          cases h
          obtain ⟨a, ws, rfl, hr, hH, r1⟩ := ref_lst S ro hk
          rw [RelDs] at rd
          obtain ⟨v0, r', rfl, h1, h2⟩ := rd
          rw [RelDs] at h2
          subst h2
          rw [RelD] at h1
          unfold atI at hy
          obtain ⟨j, hj, hy⟩ := bindS hy
          obtain ⟨q1, q2, q3, q4⟩ := ixN_seq hj
          have hzl : xs.length ≤ 100000 := of_decide_eq_true hz.2
          obtain ⟨v1, hv, rv0⟩ := r1.get hy
          have ee : eraseAt xs i = xs.eraseIdx j := by
            unfold eraseAt
            rw [hj]
          obtain ⟨e, S'⟩ := S.set (o := .lst (xs.eraseIdx j)) (u := .lst (ws.eraseIdx j)) hr (fun H' e' q => ⟨_, q, by
            have := r1.ext e'
            rw [List.eraseIdx_eq_take_drop_succ, List.eraseIdx_eq_take_drop_succ]
            refine RelDs.append ?_ ?_
            · have := this.sub 0 j
              simpa using this
            · have h3 := this.sub (j + 1) xs.length
              rw [List.take_of_length_le (by simp), List.take_of_length_le (by simp [r1.length])] at h3
              exact h3⟩) (by simp)
          rw [ee] at P
          exact mt_popAt pins s σ H _ _ v us Q I rx rv ⟨a, ws, i, j, v1, rfl, by rw [h1], hH, by omega, by omega, by rw [← r1.length]; exact q1, hv, P _ _ g e S' (rv0.ext e) fun h => by cases h⟩
      · cases h
    · cases h
  · cases h
theorem mt_index_ok (hu : X.A.units + 65 < cLine) : MtR X "list.index" (rMt X .index) := by
  intro pins s σ H x vs v us Q I rx rv ⟨g, st, o, ds, d, st', S, ro, rd, h, P⟩
  replace h : mtIndex o ds st = some (d, st') := h
  unfold mtIndex at h
  split at h
  · rename_i st0 z
    split at h
    · rename_i ys hk
      split at h
      · rename_i hz
        rw [Bool.and_eq_true] at hz
        cases hy : ys.findIdx? fun y => D.eqv y z with
        | none => rw [hy] at h; cases h
        | some n =>
          rw [hy] at h
          cases h
          rw [RelDs] at rd
          obtain ⟨v0, r', rfl, h1, h2⟩ := rd
          rw [RelDs] at h2
          subst h2
          have rt := view_t hk S ro
          obtain ⟨a, ws, rfl, hX, r1⟩ := rt.lst
          have so : D.ok 61 (.lst ys) = true := by rw [D.ok]; simpa using hz.2
          obtain ⟨hlt, f1, f2⟩ := List.findIdx?_eq_some_iff_getElem.mp hy
          refine mt_indexD hu pins s σ H _ _ v us Q I rx rv ⟨a, v0, toPy z, toPys ys, n, toPy ys[n], rfl, rfl, by have := dp_t so rt; rwa [toPy] at this, dp_of _ _ _ hz.1 h1, by have := ok_shaped so (by decide); rwa [toPy] at this, ok_shaped hz.1 (by decide), ?_, ?_, fun m z' hm hz' => ?_, P.val S relD_int fun _ => rfl⟩
          · rw [toPys_map, List.getElem?_map, List.getElem?_eq_getElem hlt]
            rfl
          · rw [eqv_py 60 60 _ _ (oks_mem hz.2 (List.getElem_mem hlt)) hz.1]
            exact f1
          · have hm2 : m < ys.length := Nat.lt_trans hm hlt
            rw [toPys_map, List.getElem?_map, List.getElem?_eq_getElem hm2] at hz'
            cases hz'
            rw [eqv_py 60 60 _ _ (oks_mem hz.2 (List.getElem_mem hm2)) hz.1]
            simpa using f2 m hm
      · cases h
    · cases h
  · cases h
/-! ### methods of dicts -/
def tBMD (K : PySem.W.Frag) (r : V → List V → Hp → VK → Prop) (te : TE) (ta : TA) : TE := fun σ H Q => te σ H fun x H1 => (∃ a es, x = .ref a ∧ DctAt K H1 a es) ∧ ta σ H1 fun vs H2 => r x vs H2 Q
theorem pe_bmD {o e : Expr} {es : List Expr} {name : Str} {id : String} {apos cpos : Pos} {r : V → List V → Hp → VK → Prop} {te : TE} {ta : TA} (slot : Slot "dict" name id) (hty : typeOf (.builtin id) = pure (.type "method_descriptor")) (hm : MtR X id r) (ho : PE X o te) (ha : PA X (e :: es) ta)
    (hbase : attributeBase o name X.env (eval o X.env) = eval o X.env)
    (few : ((backTo cpos (starEach (e :: es) X.env)).all (fun x => !x.1) && (backToKw cpos (keywordEach [] X.env)).all (fun x => x.1.isSome)
      && decide ((e :: es).length + ([] : List Keyword).length + (if ([] : List Keyword).isEmpty then 0 else 1) < 30)) = true)
    (line : (apos.endLine == cpos.line) = true) (hs : starEach (e :: es) X.env = (false, eval e X.env) :: starEach es X.env) (hp : (backTo cpos (starEach es X.env)).any (·.1) = false) :
    PE X (.Call (.Attribute o name apos) (e :: es) [] cpos) (tBMD X.K r te ta) := by
  refine ⟨fun pins s σ H Q I h => PySem.wpAny_Call_method_late hbase few line rfl (thn (ho.run pins s σ H _ I h) fun v s1 ⟨x, H1, I1, r1, ⟨a, es', ex, hd⟩, q1⟩ => ?_)⟩
  subst ex
  cases (show v = Value.ref a from r1)
  obtain ⟨⟨ob, g1, g2, g3⟩, _⟩ := raw_at I1 hd
  refine ⟨"dict", id, PySem.F.plainAttrs_dict, slot, hty, ⟨ob, g1, g2.1⟩, fun b q => (by cases q; exact ⟨ob, g1, g2.2.1⟩), ?_⟩
  have hA := ha.run cpos pins s1 σ H1 _ I1 q1
  rw [hs] at hA ⊢
  refine PySem.Calls.callWith_builtin (by show (false || (backTo cpos (starEach es X.env)).any (·.1)) = false; rw [hp] <;> rfl) (PySem.Calls.evalArgs_plain ?_)
  exact thn hA fun us s2 ⟨vs, H2, I2, r2, q2⟩ => hm pins s2 σ H2 _ vs _ us Q I2 r1 r2 q2
theorem mt_get_ok (hu : X.A.units + 65 < cLine) : MtR X "dict.get" (rMt X .get) := by
  intro pins s σ H x vs v us Q I rx rv ⟨g, st, o, ds, d, st', S, ro, rd, h, P⟩
  replace h : mtGet o ds st = some (d, st') := h
  unfold mtGet at h
  split at h
  · rename_i st0 k
    split at h
    · rename_i kvs hk
      split at h
      · rename_i hf
        cases h
        rw [RelDs] at rd
        obtain ⟨v0, r', rfl, h1, h2⟩ := rd
        rw [RelDs] at h2
        subst h2
        obtain ⟨a, es, rfl, hX, hd, hr⟩ := (view_t hk S ro).dct
        cases (show v = Value.ref a from rx)
        obtain ⟨u, rfl, ru⟩ := rv.one
        exact dd_get1 hu I hX hd hr hf h1 ru fun w v' s' I' rw' rd' => ⟨w, H, I', rw', P w H g (Ext.refl g H) S rd' fun h => by cases h⟩
      · cases h
    · cases h
  · cases h
theorem mt_get2_ok (hu : X.A.units + 65 < cLine) : MtR X "dict.get" (rMt X .get2) := by
  intro pins s σ H x vs v us Q I rx rv ⟨g, st, o, ds, d, st', S, ro, rd, h, P⟩
  replace h : mtGet2 o ds st = some (d, st') := h
  unfold mtGet2 at h
  split at h
  · rename_i st0 k z
    split at h
    · rename_i kvs hk
      split at h
      · rename_i hf
        cases h
        rw [RelDs] at rd
        obtain ⟨v0, r', rfl, h1, h2⟩ := rd
        rw [RelDs] at h2
        obtain ⟨v1, r'', rfl, h3, h4⟩ := h2
        rw [RelDs] at h4
        subst h4
        obtain ⟨a, es, rfl, hX, hd, hr⟩ := (view_t hk S ro).dct
        cases (show v = Value.ref a from rx)
        cases rv with
        | cons ru rv2 =>
          obtain ⟨u2, rfl, ru2⟩ := Vals.one rv2
          exact dd_get2 hu I hX hd hr hf h1 ru h3 ru2 fun w v' s' I' rw' rd' => ⟨w, H, I', rw', P w H g (Ext.refl g H) S rd' fun h => by cases h⟩
      · cases h
    · cases h
  · cases h
theorem join_len (sep : List Nat) : ∀ ys : List (List Nat), (ys.map (·.length)).sum ≤ (joinS sep ys).length ∧ ys.length * sep.length ≤ (joinS sep ys).length + sep.length
  | [] => by simp [joinS]
  | [a] => by simp [joinS]
  | a :: b :: r => by
    obtain ⟨h1, h2⟩ := join_len sep (b :: r)
    rw [joinS, List.length_append, List.length_append, List.map_cons, List.sum_cons, List.length_cons, Nat.succ_mul]
    omega
theorem joinS_eq (sep : List Nat) : ∀ ys : List (List Nat), TL.joinL sep ys = joinS sep ys
  | [] => rfl
  | [a] => rfl
  | a :: b :: r => by
    unfold TL.joinL joinS
    rw [joinS_eq sep (b :: r)]
theorem join_txt (sep : List Nat) (ys : List (List Nat)) : Txt.join ⟨sep.toArray⟩ (ys.map fun b => (⟨b.toArray⟩ : Str)) = ⟨(joinS sep ys).toArray⟩ := by
  rw [TL.join_eq]
  have h := TL.tl_join ⟨sep.toArray⟩ (ys.map fun b => (⟨b.toArray⟩ : Str))
  have e : ((ys.map fun b => (⟨b.toArray⟩ : Str)).map TL.tl) = ys := by
    rw [List.map_map]
    conv => rhs; rw [← List.map_id ys]
    congr 1
  rw [e, joinS_eq] at h
  have h : (Str.join ⟨sep.toArray⟩ (ys.map fun b => (⟨b.toArray⟩ : Str))).cps.toList = joinS sep ys := h
  cases hj : Str.join ⟨sep.toArray⟩ (ys.map fun b => (⟨b.toArray⟩ : Str)) with
  | mk c =>
    rw [hj] at h
    rw [← h]
theorem mt_join_ok : MtR X "str.join" (rMt X .join) := by
  intro pins s σ H x vs v us Q I rx rv ⟨g, st, o, ds, d, st', S, ro, rd, h, P⟩
  replace h : mtJoin o ds st = some (d, st') := h
  unfold mtJoin at h
  have fin : ∀ (sep : List Nat) (ys : List (List Nat)) (p : Addr), o = .str sep → vs = [.ref p] → (SqL X.K H p ((ys.map fun b => (⟨b.toArray⟩ : Str)).map V.str) ∨ SqT X.K H p ((ys.map fun b => (⟨b.toArray⟩ : Str)).map V.str)) →
      (sz (joinS sep ys).length && sz (ys.length * (sep.length + 1))) = true → d = .str (joinS sep ys) → st' = st → wpAny (model X.prog X.w) X.A (call (.builtin "str.join") (v :: us)) (EP X pins σ Q) X.xe s := by
    intro sep ys p e1 e2 hp hz e3 e4
    subst e1 e2 e3 e4
    rw [RelD] at ro
    simp only [Bool.and_eq_true, sz, decide_eq_true_eq] at hz
    refine mt_join pins s σ H _ _ v us Q I rx rv ⟨_, p, _, ro, rfl, hp, ?_, ?_⟩
    · obtain ⟨h1, h2⟩ := join_len sep ys
      have e5 : ((ys.map fun b => (⟨b.toArray⟩ : Str)).map (·.length)) = ys.map (·.length) := by
        rw [List.map_map]
        congr 1
      rw [e5, List.length_map]
      have e6 : (⟨sep.toArray⟩ : Str).length = sep.length := by simp [Str.length]
      rw [e6]
      have h3 : ys.length * sep.length ≤ ys.length * (sep.length + 1) := Nat.mul_le_mul_left _ (Nat.le_succ _)
      omega
    · rw [join_txt]
      exact P.val S relD_str fun _ => rfl
  split at h
  · rename_i st0 sep xs
    obtain ⟨ys, h1, h⟩ := bindS h
    split at h
    · rename_i hz
      cases h
      rw [RelDs] at rd
      obtain ⟨z, r', rfl, h3, h4⟩ := rd
      rw [RelDs] at h4
      subst h4
      rw [RelD] at h3
      obtain ⟨p, zs, rfl, hR, h5⟩ := h3
      have := strs_rel h1 h5
      subst this
      exact fin sep ys p rfl rfl (.inl (hR.elim (fun q => .inl q.1) .inr)) hz rfl rfl
    · cases h
  · rename_i st0 sep xs
    obtain ⟨ys, h1, h⟩ := bindS h
    split at h
    · rename_i hz
      cases h
      rw [RelDs] at rd
      obtain ⟨z, r', rfl, h3, h4⟩ := rd
      rw [RelDs] at h4
      subst h4
      rw [RelD] at h3
      obtain ⟨p, zs, rfl, hR, h5⟩ := h3
      have := strs_rel h1 h5
      subst this
      exact fin sep ys p rfl rfl (.inr (hR.elim (fun q => .inl q.1) .inr)) hz rfl rfl
    · cases h
  · cases h
/-- what an attribute stands at -/
def plainO : Expr → Bool
  | .Call _ [] _ _ => false
  | _ => true
theorem base_of {o : Expr} {n : Str} {env : Env} (h : plainO o = true) : attributeBase o n env (eval o env) = eval o env := by
  cases o with
  | Call f es ks p =>
    cases es with
    | nil => simp [plainO] at h
    | cons e r => cases f <;> rfl
  | _ => rfl
def fewOk (es : List Expr) : Bool := es.all plainE && decide (es.length < 20)
theorem few_of {e : Expr} {es : List Expr} {env : Env} {cpos : Pos} (h : fewOk (e :: es) = true) : ((backTo cpos (starEach (e :: es) env)).all (fun x => !x.1) && (backToKw cpos (keywordEach [] env)).all (fun x => x.1.isSome)
      && decide ((e :: es).length + ([] : List Keyword).length + (if ([] : List Keyword).isEmpty then 0 else 1) < 30)) = true := by
  unfold fewOk at h
  rw [Bool.and_eq_true] at h
  have h1 : ∀ l : List Expr, l.all plainE = true → (backTo cpos (starEach l env)).all (fun x => !x.1) = true := by
    intro l
    induction l with
    | nil => intro _; rfl
    | cons a l ih =>
      intro hl
      rw [List.all_cons, Bool.and_eq_true] at hl
      rw [star_cons hl.1]
      show (true && (backTo cpos (starEach l env)).all (fun x => !x.1)) = true
      rw [ih hl.2]
      rfl
  rw [h1 _ h.1]
  have h2 := of_decide_eq_true h.2
  have h3 : (if ([] : List Keyword).isEmpty then 0 else 1) = 0 := rfl
  rw [h3]
  show (true && true && _) = true
  simp only [Bool.true_and, decide_eq_true_eq, List.length_nil]
  omega
theorem ty_lst {K : PySem.W.Frag} {w : World} {g : Gh} {H : Hp} {u : D} {v : V} (h : isLst u = true) (r : RelT K w g H u v) : tyV K "list" v H := by
  cases u <;> simp [isLst] at h
  obtain ⟨a, xs, rfl, hX, _⟩ := r.lst
  exact .inl ⟨rfl, xs, hX⟩
theorem ty_str {K : PySem.W.Frag} {w : World} {g : Gh} {H : Hp} {u : D} {v : V} (h : isStr u = true) (r : RelT K w g H u v) : tyV K "str" v H := by
  cases u <;> simp [isStr] at h
  rw [r.str]
  rfl
theorem se_mth1 {m : Mt} {o e : Expr} {es : List Expr} {io : IE} {ies : IEs} {apos pos : Pos} {T id : String} (pa : PlainAttrs T) (slot : Slot T (mtN m) id) (hty : typeOf (.builtin id) = pure (.type "method_descriptor")) (hm : MtR X id (rMt X m))
    (tyo : ∀ (g : Gh) (H : Hp) (u : D) (v : V), mtTy m u = true → RelT X.K X.w g H u v → tyV X.K T v H)
    (hb : plainO o = true) (hf : fewOk (e :: es) = true) (hl : (apos.endLine == pos.line) = true) (ho : SE L G X o io) (ha : SA L G X (e :: es) ies) (hfr : frsh L (.mth m io ies) = false) : SE L G X (.Call (.Attribute o (mtN m) apos) (e :: es) [] pos) (.mth m io ies) := by
  intro σ H g env st d st' Q hE hS hev P
  rw [evE] at hev
  obtain ⟨⟨x, st1⟩, e1, hev⟩ := bindS hev
  obtain ⟨u, e3, hev⟩ := bindS hev
  split at hev
  · rename_i hu
    obtain ⟨⟨ds, st2⟩, e2, hev⟩ := bindS hev
    have hp : (e :: es).all plainE = true := by
      unfold fewOk at hf
      rw [Bool.and_eq_true] at hf
      exact hf.1
    have hp' := hp
    rw [List.all_cons, Bool.and_eq_true] at hp'
    rw [hfr] at P
    refine le_E (pe_bm pa slot hty hm pe_wp pa_wp (base_of hb) (few_of hf) hl (star_cons hp'.1) (star_all hp'.2)) ?_
    refine ho σ H g env st x st1 _ hE hS e1 fun v H1 g1 x1 s1 r1 _ => ?_
    refine ⟨tyo g1 H1 u v hu (view_t e3 s1 r1), ?_⟩
    refine ha σ H1 g1 env st1 ds st2 _ (hE.ext x1) s1 e2 fun vs H2 g2 x2 s2 r2 => ?_
    exact ⟨g2, st2, x, ds, d, st', s2, r1.ext x2, r2, hev, P.mono (x1.trans x2)⟩
  · cases hev
theorem se_mth0 {m : Mt} {o : Expr} {io : IE} {apos pos : Pos} {T id : String} (pa : PlainAttrs T) (slot : Slot T (mtN m) id) (hty : typeOf (.builtin id) = pure (.type "method_descriptor")) (hm : MtR X id (rMt X m))
    (tyo : ∀ (g : Gh) (H : Hp) (u : D) (v : V), mtTy m u = true → RelT X.K X.w g H u v → tyV X.K T v H)
    (hb : plainO o = true) (hl : (apos.endLine == pos.line) = true) (ho : SE L G X o io) (hfr : frsh L (.mth m io .nil) = false) : SE L G X (.Call (.Attribute o (mtN m) apos) [] [] pos) (.mth m io .nil) := by
  intro σ H g env st d st' Q hE hS hev P
  rw [evE] at hev
  obtain ⟨⟨x, st1⟩, e1, hev⟩ := bindS hev
  obtain ⟨u, e3, hev⟩ := bindS hev
  split at hev
  · rename_i hu
    obtain ⟨⟨ds, st2⟩, e2, hev⟩ := bindS hev
    rw [evEs] at e2
    cases e2
    rw [hfr] at P
    refine le_E (pe_bm0 pa slot hty hm pe_wp (base_of hb) hl) ?_
    refine ho σ H g env st x _ _ hE hS e1 fun v H1 g1 x1 s1 r1 _ => ?_
    exact ⟨tyo g1 H1 u v hu (view_t e3 s1 r1), g1, _, x, [], d, st', s1, r1, RelDs.nil, hev, P.mono x1⟩
  · cases hev
theorem se_mthD {m : Mt} {o e : Expr} {es : List Expr} {io : IE} {ies : IEs} {apos pos : Pos} {id : String} (slot : Slot "dict" (mtN m) id) (hty : typeOf (.builtin id) = pure (.type "method_descriptor")) (hm : MtR X id (rMt X m))
    (tyo : ∀ u, mtTy m u = true → isDct u = true)
    (hb : plainO o = true) (hf : fewOk (e :: es) = true) (hl : (apos.endLine == pos.line) = true) (ho : SE L G X o io) (ha : SA L G X (e :: es) ies) (hfr : frsh L (.mth m io ies) = false) : SE L G X (.Call (.Attribute o (mtN m) apos) (e :: es) [] pos) (.mth m io ies) := by
  intro σ H g env st d st' Q hE hS hev P
  rw [evE] at hev
  obtain ⟨⟨x, st1⟩, e1, hev⟩ := bindS hev
  obtain ⟨u, e3, hev⟩ := bindS hev
  split at hev
  · rename_i hu
    obtain ⟨⟨ds, st2⟩, e2, hev⟩ := bindS hev
    have hp : (e :: es).all plainE = true := by
      unfold fewOk at hf
      rw [Bool.and_eq_true] at hf
      exact hf.1
    have hp' := hp
    rw [List.all_cons, Bool.and_eq_true] at hp'
    rw [hfr] at P
    refine le_E (pe_bmD slot hty hm pe_wp pa_wp (base_of hb) (few_of hf) hl (star_cons hp'.1) (star_all hp'.2)) ?_
    refine ho σ H g env st x st1 _ hE hS e1 fun v H1 g1 x1 s1 r1 _ => ?_
    have hd := tyo u hu
    have rt := view_t e3 s1 r1
    refine ⟨?_, ?_⟩
    · cases u <;> simp [isDct] at hd
      obtain ⟨a, es', rfl, hX, _⟩ := rt.dct
      exact ⟨a, es', rfl, hX⟩
    refine ha σ H1 g1 env st1 ds st2 _ (hE.ext x1) s1 e2 fun vs H2 g2 x2 s2 r2 => ?_
    exact ⟨g2, st2, x, ds, d, st', s2, r1.ext x2, r2, hev, P.mono (x1.trans x2)⟩
  · cases hev
theorem se_get {o e : Expr} {io : IE} {ies : IEs} {apos pos : Pos} {k : Nat} (hR : Room k X.A) (hb : plainO o = true) (hf : fewOk [e] = true) (hl : (apos.endLine == pos.line) = true) (ho : SE L G X o io) (ha : SA L G X [e] ies) :
    SE L G X (.Call (.Attribute o "get" apos) [e] [] pos) (.mth .get io ies) :=
  se_mthD (m := .get) PySem.F.slot_dict_get PySem.F.type_dict_get (mt_get_ok (by have := hR.un; omega)) (fun u h => h) hb hf hl ho ha rfl
theorem se_get2 {o e f : Expr} {io : IE} {ies : IEs} {apos pos : Pos} {k : Nat} (hR : Room k X.A) (hb : plainO o = true) (hf : fewOk [e, f] = true) (hl : (apos.endLine == pos.line) = true) (ho : SE L G X o io) (ha : SA L G X [e, f] ies) :
    SE L G X (.Call (.Attribute o "get" apos) [e, f] [] pos) (.mth .get2 io ies) :=
  se_mthD (m := .get2) PySem.F.slot_dict_get PySem.F.type_dict_get (mt_get2_ok (by have := hR.un; omega)) (fun u h => h) hb hf hl ho ha rfl
theorem se_popAt {o e : Expr} {io : IE} {ies : IEs} {apos pos : Pos} (hb : plainO o = true) (hf : fewOk [e] = true) (hl : (apos.endLine == pos.line) = true) (ho : SE L G X o io) (ha : SA L G X [e] ies) :
    SE L G X (.Call (.Attribute o "pop" apos) [e] [] pos) (.mth .popAt io ies) :=
  se_mth1 (m := .popAt) PySem.F.plainAttrs_list PySem.F.slot_list_pop PySem.F.type_list_pop mt_popAt_ok (fun g H u v h r => ty_lst h r) hb hf hl ho ha rfl
theorem se_index {o e : Expr} {io : IE} {ies : IEs} {apos pos : Pos} {k : Nat} (hR : Room k X.A) (hb : plainO o = true) (hf : fewOk [e] = true) (hl : (apos.endLine == pos.line) = true) (ho : SE L G X o io) (ha : SA L G X [e] ies) :
    SE L G X (.Call (.Attribute o "index" apos) [e] [] pos) (.mth .index io ies) :=
  se_mth1 (m := .index) PySem.F.plainAttrs_list PySem.F.slot_list_index PySem.F.type_list_index (mt_index_ok (by have := hR.un; omega)) (fun g H u v h r => ty_lst h r) hb hf hl ho ha rfl
theorem se_append {o e : Expr} {io : IE} {ies : IEs} {apos pos : Pos} (hb : plainO o = true) (hf : fewOk [e] = true) (hl : (apos.endLine == pos.line) = true) (ho : SE L G X o io) (ha : SA L G X [e] ies) :
    SE L G X (.Call (.Attribute o "append" apos) [e] [] pos) (.mth .append io ies) :=
  se_mth1 PySem.F.plainAttrs_list PySem.F.slot_list_append PySem.F.type_list_append mt_append_ok (fun g H u v h r => ty_lst h r) hb hf hl ho ha rfl
theorem se_pop {o : Expr} {io : IE} {apos pos : Pos} (hb : plainO o = true) (hl : (apos.endLine == pos.line) = true) (ho : SE L G X o io) :
    SE L G X (.Call (.Attribute o "pop" apos) [] [] pos) (.mth .pop io .nil) :=
  se_mth0 PySem.F.plainAttrs_list PySem.F.slot_list_pop PySem.F.type_list_pop mt_pop_ok (fun g H u v h r => ty_lst h r) hb hl ho rfl
theorem se_join {o e : Expr} {io : IE} {ies : IEs} {apos pos : Pos} (hb : plainO o = true) (hf : fewOk [e] = true) (hl : (apos.endLine == pos.line) = true) (ho : SE L G X o io) (ha : SA L G X [e] ies) :
    SE L G X (.Call (.Attribute o "join" apos) [e] [] pos) (.mth .join io ies) :=
  se_mth1 PySem.F.plainAttrs_str PySem.F.slot_str_join PySem.F.type_str_join mt_join_ok (fun g H u v h r => ty_str h r) hb hf hl ho ha rfl
end
end Py

set_option Elab.async false
set_option linter.all false
set_option maxRecDepth 100000
set_option autoImplicit false
set_option maxHeartbeats 1000000
namespace Py
open PySem PySem.Spec L2
section
variable {L : List DFn} {G : List D} {X : Cx}
/-! ### count, extend -/
theorem list_extend_s (l : Addr) (items : Array Value) (n : Nat) (b : Addr) (items2 : Array Value) (n2 : Nat) (sl2 : Array (Option Value)) (hs : items.size + items2.size ≤ sizeLine) :
    Meets (Builtin.«list.extend» ⟨[.ref l, .ref b], []⟩) (fun _ R s => s.heap.get? l = some ⟨.type "list", none, .seq items n, #[]⟩ ∧ s.heap.get? b = some ⟨.type "list", none, .seq items2 n2, sl2⟩ ∧
      R (.ok (.ret Value.none)) { s with heap := s.heap.update l (Obj.mapSeq fun x => x ++ items2), toks := s.toks }) :=
  .of_wp fun prog w A R s h => by
    obtain ⟨hp, g, d, tk, os⟩ := s
    obtain ⟨hl, hb, h⟩ := h
    have hc0 : ¬ (!items.isEmpty && Builtin.List.listTooLong (items.size + items2.size)) = true := by
      rw [notLongL hs, Bool.and_false]
      exact Bool.false_ne_true
    have hc1 : items.size ≤ sizeLine := by omega
    have f1 := AutoSeq1.idx_int
    have f2 := AutoSeq1.sub_tuple_tuple
    have f3 := AutoSeq1.sub_list_list
    have f4 := AutoSeq1.sub_tuple_list
    have f5 := AutoSeq1.sub_list_tuple
    have hz' : (items ++ items2).size ≤ sizeLine + 1 := by rw [Array.size_append]; omega
    wp_walk using (wpAny_updateSeq hl rfl (hz := hc1) (_hz' := hz')), wpAny_loadPart' hl, wpAny_loadPart' hb
    exact ⟨_, rfl, h⟩
theorem count_py : ∀ {ys : List D} {x : D}, D.oks 60 ys = true → D.ok 60 x = true → (toPys ys).countP (fun z => PyData.eqv z (toPy x)) = ys.countP fun y => D.eqv y x
  | [], x, _, _ => rfl
  | y :: ys, x, h, hx => by
    rw [D.oks, Bool.and_eq_true] at h
    rw [toPys, List.countP_cons, List.countP_cons, count_py h.2 hx, eqv_py 60 60 _ _ h.1 hx]
theorem mt_count_ok (hu : X.A.units + 65 < cLine) : MtR X "list.count" (rMt X .count) := by
  intro pins s σ H x vs v us Q I rx rv ⟨g, st, o, ds, d, st', S, ro, rd, h, P⟩
  replace h : mtCount o ds st = some (d, st') := h
  unfold mtCount at h
  split at h
  · rename_i st0 z
    split at h
    · rename_i ys hk
      split at h
      · rename_i hz
        rw [Bool.and_eq_true] at hz
        cases h
        rw [RelDs] at rd
        obtain ⟨v0, r', rfl, h1, h2⟩ := rd
        rw [RelDs] at h2
        subst h2
        have rt := view_t hk S ro
        obtain ⟨a, ws, rfl, hX, r1⟩ := rt.lst
        have so : D.ok 61 (.lst ys) = true := by rw [D.ok]; simpa using hz.2
        cases rx
        obtain ⟨uy, rfl, ry⟩ := rv.one
        obtain ⟨bs, q1⟩ := Dp.reads I _ _ uy (dp_of _ _ _ hz.1 h1) ry
        have sl : SeqAt.shaped (.list (toPys ys)) = true := by have := ok_shaped so (by decide); rwa [toPy] at this
        have sd : SeqAt.shaped (toPy z) = true := ok_shaped hz.1 (by decide)
        have hxs : PyData.canLayAll0 (toPys ys) = true := SeqAt.canLay_of_shaped sl
        have hroom : X.A.units + 1 + min (PyData.depthAll (toPys ys)) (toPy z).depth < cLine := PyProof.Rows.room_in_shaped sd hu
        obtain ⟨its, rv2, ⟨⟨cls, dd, data, sls⟩, n, ho, hc, hdn, hdt⟩, hlen⟩ := I.list hX
        simp only at hc hdt
        subst hc hdt
        obtain ⟨as, h4⟩ := readsAll_of I hz.2 r1 rv2
        have hmap : its.map (SeqAt.readOf s.heap) = toPys ys := SeqAt.readsAll_map (toPys ys) its as hxs h4
        refine call_meets PySem.F.slot_list_count ⟨_, ho, rfl⟩ PySem.F.entry_list_count (PySem.F.args_list_count_2 _ _)
          (SeqAt.list_countAt a its.toArray n dd sls uy (fun u => PyData.eqv (SeqAt.readOf s.heap u) (toPy z))) ⟨ho, SeqAt.items_eqAt (vs := its.toArray) (show ReadsAll s.heap its.toArray.toList (toPys ys) as from h4) q1 hxs (SeqAt.canLay_of_shaped sd) hroom, ?_⟩
        refine ⟨.int _, H, I.tok _, ⟨s.toks, rfl⟩, ?_⟩
        have e : its.toArray.toList.countP (fun u => PyData.eqv (SeqAt.readOf s.heap u) (toPy z)) = ys.countP fun y => D.eqv y z := by
          rw [← count_py hz.2 hz.1, ← hmap, List.countP_map]
          rfl
        rw [e]
        exact P.val S relD_int fun _ => rfl
      · cases h
    · cases h
  · cases h
theorem mt_extend_ok : MtM X "list.extend" (rMt X .extend) := by
  intro pins s σ H x vs v us Q I rx rv ⟨g, st, o, ds, d, st', S, ro, rd, h, P⟩
  replace h : mtExtend o ds st = some (d, st') := h
  unfold mtExtend at h
  split at h
  · rename_i st0 k ys
    split at h
    · rename_i xs hk
      split at h
      · rename_i hz
        cases h
        obtain ⟨a, ws, rfl, hr, hH, r1⟩ := ref_lst S ro hk
        rw [RelDs] at rd
        obtain ⟨v0, r', rfl, h1, h2⟩ := rd
        rw [RelDs] at h2
        subst h2
        obtain ⟨b, zs, rfl, hB, r2⟩ := (RelD.t h1).lst
        cases rx
        obtain ⟨u, rfl, ru⟩ := rv.one
        cases ru
        obtain ⟨z, its, n, rr, hl, e⟩ := I.lstM hH
        obtain ⟨z2, its2, n2, sl2, rr2, hl2, e2⟩ := Inv.lstR I hB
        have hzl : xs.length + ys.length ≤ sizeLine := sz_le hz
        have w1 := r1.length
        have w2 := r2.length
        have hsz : its.toArray.size + its2.toArray.size ≤ sizeLine := by rw [List.size_toArray, List.size_toArray]; omega
        obtain ⟨ex, S'⟩ := S.set (o := .lst (xs ++ ys)) (u := .lst (ws ++ zs)) hr (fun H' e' q => ⟨_, q, (r1.ext e').append (r2.ext e')⟩) (by simp)
        refine call_meets F.slot_list_extend ⟨_, e, rfl⟩ F.entry_list_extend (F.args_list_extend_2 _ _)
          (list_extend_s a its.toArray n b its2.toArray n2 sl2 hsz) ⟨e, e2, ?_⟩
        refine ⟨.non, _, I.lset (its' := its ++ its2) hH e (by simp) (rr.append rr2) ?_, rfl, P _ _ g ex S' relD_non fun h => by cases h⟩
        rw [List.length_append]
        omega
      · cases h
    · cases h
  · cases h
theorem se_count {o e : Expr} {io : IE} {ies : IEs} {apos pos : Pos} {k : Nat} (hR : Room k X.A) (hb : plainO o = true) (hf : fewOk [e] = true) (hl : (apos.endLine == pos.line) = true) (ho : SE L G X o io) (ha : SA L G X [e] ies) :
    SE L G X (.Call (.Attribute o "count" apos) [e] [] pos) (.mth .count io ies) :=
  se_mth1 (m := .count) PySem.F.plainAttrs_list PySem.F.slot_list_count PySem.F.type_list_count (mt_count_ok (by have := hR.un; omega)) (fun g H u v h r => ty_lst h r) hb hf hl ho ha rfl
theorem se_extend {o e : Expr} {io : IE} {ies : IEs} {apos pos : Pos} (hb : plainO o = true) (hf : fewOk [e] = true) (hl : (apos.endLine == pos.line) = true) (ho : SE L G X o io) (ha : SA L G X [e] ies) :
    SE L G X (.Call (.Attribute o "extend" apos) [e] [] pos) (.mth .extend io ies) :=
  se_mth1 PySem.F.plainAttrs_list PySem.F.slot_list_extend PySem.F.type_list_extend mt_extend_ok (fun g H u v h r => ty_lst h r) hb hf hl ho ha rfl
end
end Py

set_option Elab.async false
set_option linter.all false
set_option maxRecDepth 100000
set_option autoImplicit false
set_option maxHeartbeats 1000000
namespace Py
open PySem PySem.Spec L2
/-! ### scopes: as written, as a block has them -/
structure ScR (sc sc' : Scope) : Prop where
  kind : sc'.kind = sc.kind
  look : ∀ x k, sc.names.lookup x = some k → ∃ k', sc'.names.lookup x = some k' ∧ (k' = k ∨ (k = .free ∧ k' = .cell))
theorem ScR.refl (sc : Scope) : ScR sc sc := ⟨rfl, fun x k h => ⟨k, h, .inl rfl⟩⟩
theorem lookup_lab (f : Str × NameKind → Bool) : ∀ (l : List (Str × NameKind)) (x : Str) (k : NameKind), l.lookup x = some k →
    (l.map fun (p : Str × NameKind) => if f p then (p.1, NameKind.cell) else (p.1, p.2)).lookup x = some (if f (x, k) then .cell else k)
  | [], x, k, h => by simp at h
  | (n, j) :: r, x, k, h => by
    rw [List.lookup_cons] at h
    rw [List.map_cons]
    cases e : x == n with
    | true =>
      rw [e] at h
      have e' : x = n := by simpa using e
      subst e'
      cases h
      by_cases hf : f (x, j) = true
      · rw [if_pos hf, if_pos hf, List.lookup_cons, e]
      · rw [if_neg hf, if_neg hf, List.lookup_cons, e]
    | false =>
      rw [e] at h
      have ih := lookup_lab f r x k h
      by_cases hf : f (n, j) = true
      · rw [if_pos hf, List.lookup_cons, e]
        exact ih
      · rw [if_neg hf, List.lookup_cons, e]
        exact ih
theorem ScR.blk (scope : Scope) (cl : List (Str × Addr)) (C : Addr) (env : Env) : ScR scope (compEnvC scope cl C env).scope := by
  refine ⟨rfl, fun x k h => ?_⟩
  have := lookup_lab (fun p => p.2 == NameKind.free && env.scope.kind == .function && env.kindOf p.1 == some .cell) scope.names x k h
  refine ⟨_, this, ?_⟩
  by_cases hf : (k == NameKind.free && env.scope.kind == .function && env.kindOf x == some .cell) = true
  · rw [if_pos hf]
    simp only [Bool.and_eq_true] at hf
    exact .inr ⟨by simpa using hf.1.1, rfl⟩
  · rw [if_neg hf]
    exact .inl rfl
def visB (sc : Scope) (x : Str) : Bool := match sc.names.lookup x with
  | some .local => true
  | some .cell => true
  | some .free => true
  | _ => false
def locB (sc : Scope) (x : Str) : Bool := match sc.names.lookup x with
  | some .local => true
  | some .cell => true
  | _ => false
def gliB (sc : Scope) (x : Str) : Bool := match sc.names.lookup x with
  | some .globalImplicit => true
  | _ => false
theorem ScR.vis {sc sc' : Scope} (r : ScR sc sc') {x : Str} (h : visB sc x = true) : Vis sc' x := by
  unfold visB at h
  split at h <;> first | (cases h; done) | skip
  all_goals (rename_i e; obtain ⟨k', h1, h2⟩ := r.look x _ e)
  · rcases h2 with rfl | ⟨h2, _⟩
    · exact .inl h1
    · cases h2
  · rcases h2 with rfl | ⟨h2, _⟩
    · exact .inr (.inl h1)
    · cases h2
  · rcases h2 with rfl | ⟨_, rfl⟩
    · exact .inr (.inr h1)
    · exact .inr (.inl h1)
theorem ScR.loc {sc sc' : Scope} (r : ScR sc sc') {x : Str} (h : locB sc x = true) : Loc sc' x := by
  unfold locB at h
  split at h <;> first | (cases h; done) | skip
  all_goals (rename_i e; obtain ⟨k', h1, h2⟩ := r.look x _ e)
  · rcases h2 with rfl | ⟨h2, _⟩
    · exact .inl h1
    · cases h2
  · rcases h2 with rfl | ⟨h2, _⟩
    · exact .inr h1
    · cases h2
theorem ScR.gli {X : Cx} {sc : Scope} (r : ScR sc X.env.scope) {x : Str} (h : gliB sc x = true) : Gl X x := by
  unfold gliB at h
  split at h <;> first | (cases h; done) | skip
  rename_i e
  obtain ⟨k', h1, h2⟩ := r.look x _ e
  rcases h2 with rfl | ⟨h2, _⟩
  · exact h1
  · cases h2
/-! ### targets -/
mutual
def tgIn : Tg → List Nat → Bool
  | .nm i, vs => decide (i ∈ vs)
  | .sub _ _, _ => false
  | .tp ts, vs => tgsIn ts vs
def tgsIn : Tgs → List Nat → Bool
  | .nil, _ => true
  | .cons t ts, vs => tgIn t vs && tgsIn ts vs
end
theorem wipe_out' {σ : L2.St} {i : Nat} {x : Option V} : ∀ {vs : List Nat}, i ∉ vs → wipe (σ.set i x) vs = (wipe σ vs).set i x
  | [], _ => rfl
  | v :: vs, h => by
    simp only [List.mem_cons, not_or] at h
    unfold wipe
    rw [wipe_out' h.2, List.set_comm _ _ h.1]
theorem wipe_in {σ : L2.St} {i : Nat} {x : Option V} : ∀ {vs : List Nat}, i ∈ vs → wipe (σ.set i x) vs = wipe σ vs
  | [], h => by simp at h
  | v :: vs, h => by
    unfold wipe
    by_cases hv : i ∈ vs
    · rw [wipe_in hv]
    · rw [wipe_out' hv]
      have e : i = v := by
        rcases List.mem_cons.mp h with h | h
        · exact h
        · exact absurd h hv
      subst e
      rw [List.set_set]
def wpGs (X : Cx) (ts : List Expr) : TGs := fun vs σ H Q => ∀ pins s us, Inv X pins σ H s → Vals vs us → wpAny (model X.prog X.w) X.A (assignInOrder ((assignEach ts X.env).map (·.2)) us) (fun _ s' => ∃ σ' H', Inv X pins σ' H' s' ∧ Q σ' H') X.xe s
theorem pgs_wp {X : Cx} {e : List Expr} : PGs X e (wpGs X e) := ⟨fun pins s σ H v u Q I r h => h pins s u I r⟩
theorem le_Gs {X : Cx} {σ : L2.St} {H : Hp} {e : List Expr} {t : TGs} {v : List V} {Q : L2.St → Hp → Prop} (h : PGs X e t) (q : t v σ H Q) : wpGs X e v σ H Q := fun pins s u I r => h.run pins s σ H v u Q I r q
section
variable (L : List DFn) (G : List D) (X : Cx)
def SG (e : Expr) (tg : Tg) : Prop := ∀ (v : V) (σ : L2.St) (H : Hp) (g : Gh) (d : D) (env : DEnv) (st : DSt) (env' : DEnv) (st' : DSt) (Q : L2.St → Hp → Prop),
  RelD X.K X.w g H d v → EnvR X.K X.w g H env σ → StOk X.K X.w g H st → asgT (gam L) G tg d env st = some (env', st') →
  (∀ σ' H' g', Ext g H g' H' → StOk X.K X.w g' H' st' → EnvR X.K X.w g' H' env' σ' → (∀ vs, tgIn tg vs = true → wipe σ' vs = wipe σ vs) → Q σ' H') → wpG X e v σ H Q
def SGs (es : List Expr) (tg : Tgs) : Prop := ∀ (vl : List V) (σ : L2.St) (H : Hp) (g : Gh) (ds : List D) (env : DEnv) (st : DSt) (env' : DEnv) (st' : DSt) (Q : L2.St → Hp → Prop),
  RelDs X.K X.w g H ds vl → EnvR X.K X.w g H env σ → StOk X.K X.w g H st → asgTs (gam L) G tg ds env st = some (env', st') →
  (∀ σ' H' g', Ext g H g' H' → StOk X.K X.w g' H' st' → EnvR X.K X.w g' H' env' σ' → (∀ vs, tgsIn tg vs = true → wipe σ' vs = wipe σ vs) → Q σ' H') → wpGs X es vl σ H Q
end
section
variable {L : List DFn} {G : List D} {X : Cx}
theorem sg_nm {i : Nat} {x : Str} {pos : Pos} {k : Nat} {gl : List Str} (hX : XOk X k L gl G) (hi : X.N[i]? = some x) (hx : Loc X.env.scope x) (hf : X.fn x = true ∨ X.env.scope.names.lookup x = some .local) : SG L G X (.Name x pos) (.nm i) := by
  intro v σ H g d env st env' st' Q r hE hS hev hQ
  rw [asgT] at hev
  cases hev
  refine le_G (pg_name hX.nd hi hx hf) ?_
  exact hQ _ H g (Ext.refl g H) hS (hE.set i r) fun vs h => by
    rw [tgIn] at h
    exact wipe_in (of_decide_eq_true h)
def rSetO (X : Cx) (o : D) (i : D) (d : D) (st : DSt) (st' : DSt) (g : Gh) : TSet := fun x y v H Q => StOk X.K X.w g H st ∧ RelD X.K X.w g H o x ∧ RelD X.K X.w g H i y ∧ RelD X.K X.w g H d v ∧ ∀ H' , Ext g H g H' → StOk X.K X.w g H' st' → Q H'
def rSetDD (X : Cx) : TSet := fun x y v H Q => ∃ (g : Gh) (kvs : List (D × D)) (k d : D) (a : Addr) (es : Ents), x = .ref a ∧ H a = some (rawO a es) ∧ distK kvs = true ∧ RelKs X.K X.w g H kvs es.1 ∧ fitK k kvs = true ∧ kvs.length ≤ sizeLine ∧ RelD X.K X.w g H k y ∧ RelD X.K X.w g H d v ∧
  ∀ es' : Ents, RelKs X.K X.w g H (putKD kvs k d) es'.1 → Q (upd H a (rawO a es'))
theorem ref_dct {K : PySem.W.Frag} {w : World} {g : Gh} {H : Hp} {st : DSt} (S : StOk K w g H st) {k : Nat} {v : V} {kvs : List (D × D)} (r : RelD K w g H (.ref k) v) (h : st[k]? = some (.dct kvs)) :
    ∃ (a : Addr) (es : Ents), v = .ref a ∧ g.ρ[k]? = some (some a) ∧ H a = some (rawO a es) ∧ distK kvs = true ∧ RelKs K w g H kvs es.1 := by
  rw [RelD] at r
  rcases S.live k _ h with ⟨e, _⟩ | ⟨a, ha⟩
  · cases e
  · obtain ⟨es, h1, hd, h2⟩ := S.obj k a _ ha h
    exact ⟨a, es, r.2 a ha, ha, h1, hd, h2⟩
theorem set_dctD {kk : Nat} (hR : Room kk X.A) : PSet X (rSetDD X) := by
  intro pins s σ H o i v ov iv u Q I ro ri rv ⟨g, kvs, k, d, a, es, e1, e2, hd, hr, hf, hz, rk, rd, q⟩
  subst e1
  cases (show ov = Value.ref a from ro)
  exact dd_set (by have := hR.un; omega) I e2 hd hr hf hz rk ri rd rv fun es' s' hr' I' => ⟨_, I', q es' hr'⟩
theorem assign_sub {o i : Expr} {pos : Pos} {env : Env} (h : isSlice i = false) : ∀ v, assign (.Subscript o i pos) env v = (do
      let ov ← holding [v] (eval o env)
      let iv ← holding [v, ov] (eval i env)
      standAt pos
      holding [v, ov, iv] (setItem ov iv v)
      release [v, ov, iv] []) := fun v => by
  cases i <;> first | rfl | (simp [isSlice] at h)
theorem sg_sub {o i : Expr} {io ii : IE} {pos : Pos} {kk : Nat} (hR : Room kk X.A) (hs : isSlice i = false) (ho : SE L G X o io) (hi : SE L G X i ii) : SG L G X (.Subscript o i pos) (.sub io ii) := by
  intro v σ H g d env st env' st' Q r hE hS hev hQ
  rw [asgT] at hev
  (replace hev := bindS hev); obtain ⟨⟨x, st1⟩, e1, hev⟩ := hev
  (replace hev := bindS hev); obtain ⟨⟨y, st2⟩, e2, hev⟩ := hev
  (replace hev := bindS hev); obtain ⟨st3, e3, hev⟩ := hev
  cases hev
  unfold subSet at e3
  split at e3
  · rename_i k hx
    simp only at hx
    subst hx
    split at e3
    · rename_i xs hk
      cases hy : subLst xs d y with
      | none => rw [hy] at e3; cases e3
      | some zs =>
        rw [hy] at e3
        cases e3
        unfold subLst at hy
        split at hy
        · rename_i j
          cases hn : ixN xs.length j with
          | none => rw [hn] at hy; cases hy
          | some n =>
            rw [hn] at hy
            cases hy
            refine le_G (pg_sub pe_wp pe_wp set_list (assign_sub hs)) ?_
            refine ho σ H g env st _ st1 _ hE hS e1 fun vo H1 g1 x1 s1 r1 _ => ?_
            refine hi σ H1 g1 env st1 _ st2 _ (hE.ext x1) s1 e2 fun vi H2 g2 x2 s2 r2 _ => ?_
            obtain ⟨a, ws, e3, hr, hH, r3⟩ := ref_lst s2 (r1.ext x2) hk
            rw [RelD] at r2
            refine ⟨a, ws, j, n, e3, r2, hH, by rw [← r3.length]; exact hn, ?_⟩
            have rd := r.ext (x1.trans x2)
            obtain ⟨e, S'⟩ := s2.set (o := .lst (xs.set n d)) (u := .lst (ws.set n v)) hr (fun H' e' q => ⟨_, q, (r3.ext e').set n (rd.ext e')⟩) (by simp)
            exact hQ _ _ g2 ((x1.trans x2).trans e) S' (hE.ext ((x1.trans x2).trans e)) fun vs h => by
              rw [tgIn] at h
        · cases hy
    · rename_i kvs hk
      cases hy : setK kvs y d with
      | none => rw [hy] at e3; cases e3
      | some zs =>
        rw [hy] at e3
        cases e3
        unfold setK at hy
        split at hy
        · rename_i hz
          cases hy
          rw [Bool.and_eq_true] at hz
          refine le_G (pg_sub pe_wp pe_wp (set_dctD hR) (assign_sub hs)) ?_
          refine ho σ H g env st _ st1 _ hE hS e1 fun vo H1 g1 x1 s1 r1 _ => ?_
          refine hi σ H1 g1 env st1 _ st2 _ (hE.ext x1) s1 e2 fun vi H2 g2 x2 s2 r2 _ => ?_
          obtain ⟨a, es, e3, hr, hH, hd, r3⟩ := ref_dct s2 (r1.ext x2) hk
          have rd := r.ext (x1.trans x2)
          refine ⟨g2, kvs, y, d, a, es, e3, hH, hd, r3, hz.1, by have := of_decide_eq_true hz.2; rw [sizeLine_eq]; omega, r2, rd, fun es' hr' => ?_⟩
          obtain ⟨e, S'⟩ := s2.set (o := .dct (putKD kvs y d)) (u := rawO a es') hr (fun H' e' q => ⟨es', q, distK_put hd hz.1, hr'.ext e'⟩) (by simp)
          exact hQ _ _ g2 ((x1.trans x2).trans e) S' (hE.ext ((x1.trans x2).trans e)) fun vs h => by
            rw [tgIn] at h
        · cases hy
    · cases e3
  · cases e3
def tgE : Expr → Bool
  | .Starred .. => false
  | _ => true
theorem each_cons {e : Expr} {es : List Expr} {env : Env} (h : tgE e = true) : assignEach (e :: es) env = (false, assign e env) :: assignEach es env := by
  cases e <;> first | rfl | (simp [tgE] at h)
theorem each_all {es : List Expr} {env : Env} (h : es.all tgE = true) : (assignEach es env).length = es.length ∧ (assignEach es env).findIdx? (·.1) = none := by
  induction es with
  | nil => exact ⟨rfl, rfl⟩
  | cons e es ih =>
    rw [List.all_cons, Bool.and_eq_true] at h
    obtain ⟨h1, h2⟩ := ih h.2
    rw [each_cons h.1]
    refine ⟨by simp [h1], ?_⟩
    rw [List.findIdx?_cons, h2]
    rfl
theorem sgs_nil : SGs L G X [] .nil := by
  intro vl σ H g ds env st env' st' Q r hE hS hev hQ
  rw [asgTs] at hev
  split at hev
  · rename_i hz
    cases hev
    have := List.eq_nil_of_length_eq_zero hz
    subst this
    rw [RelDs] at r
    exact le_Gs pgs_nil ⟨r, hQ σ H g (Ext.refl g H) hS hE fun vs _ => rfl⟩
  · cases hev
theorem sgs_cons {e : Expr} {es : List Expr} {t : Tg} {ts : Tgs} (hp : tgE e = true) (h1 : SG L G X e t) (h2 : SGs L G X es ts) : SGs L G X (e :: es) (.cons t ts) := by
  intro vl σ H g ds env st env' st' Q r hE hS hev hQ
  rw [asgTs] at hev
  (replace hev := bindS hev); obtain ⟨⟨d, ds'⟩, e0, hev⟩ := hev
  cases ds with
  | nil => cases e0
  | cons d0 ds0 =>
    cases e0
    (replace hev := bindS hev); obtain ⟨w, e1, hev⟩ := hev
    rw [RelDs] at r
    obtain ⟨v, vr, rfl, r1, r2⟩ := r
    refine le_Gs (pgs_cons pg_wp pgs_wp (by rw [each_cons hp]; rfl)) ⟨v, vr, rfl, ?_⟩
    refine h1 v σ H g _ env st w.1 w.2 _ r1 hE hS e1 fun σ1 H1 g1 x1 s1 E1 w1 => ?_
    refine h2 vr σ1 H1 g1 _ w.1 w.2 env' st' _ (r2.ext x1) E1 s1 hev fun σ2 H2 g2 x2 s2 E2 w2 => ?_
    exact hQ σ2 H2 g2 (x1.trans x2) s2 E2 fun vs h => by
      rw [tgsIn, Bool.and_eq_true] at h
      rw [w2 vs h.2, w1 vs h.1]
def Tgs.len : Tgs → Nat
  | .nil => 0
  | .cons _ ts => ts.len + 1
theorem asgTs_len {Γ : Nat → List D → DSt → Option (D × DSt)} : ∀ {ts : Tgs} {ds : List D} {env env' : DEnv} {st st' : DSt}, asgTs Γ G ts ds env st = some (env', st') → ds.length = ts.len
  | .nil, ds, env, env', st, st', h => by
    rw [asgTs] at h
    split at h
    · rename_i hz
      exact hz
    · cases h
  | .cons t ts, ds, env, env', st, st', h => by
    rw [asgTs] at h
    (replace h := bindS h); obtain ⟨p, e0, h⟩ := h
    (replace h := bindS h); obtain ⟨w, e1, h⟩ := h
    cases ds with
    | nil => cases e0
    | cons d0 ds0 =>
      cases e0
      rw [List.length_cons, asgTs_len h]
      rfl
theorem sg_tp {es : List Expr} {ts : Tgs} {j : Nat} {pos : Pos} (hc : X.calm = true) (hp : es.all tgE = true) (hl : es.length = ts.len) (h : SGs L G X es ts) : SG L G X (.Tuple es j pos) (.tp ts) := by
  intro v σ H g d env st env' st' Q r hE hS hev hQ
  rw [asgT] at hev
  (replace hev := bindS hev); obtain ⟨ds, e0, hev⟩ := hev
  unfold tupIt at e0
  split at e0
  · cases e0
    rw [RelD] at r
    obtain ⟨a, vs, e1, ha, hr⟩ := r
    obtain ⟨h1, h2⟩ := each_all (env := X.env) hp
    refine le_G (pg_tup hc pgs_wp h1 h2) ⟨a, vs, e1, ha.elim (fun q => .inl q.1) .inr, ?_, ?_⟩
    · rw [← hr.length, asgTs_len hev, hl]
    · exact h vs σ H g ds env st env' st' Q hr hE hS hev fun σ' H' g' x s E w => hQ σ' H' g' x s E fun vs h => by
        rw [tgIn] at h
        exact w vs h
  · cases e0
    rw [RelD] at r
    obtain ⟨a, vs, e1, ha, hr⟩ := r
    obtain ⟨h1, h2⟩ := each_all (env := X.env) hp
    refine le_G (pg_unl hc pgs_wp h1 h2) ⟨a, vs, e1, ha.elim (fun q => .inl q.1) .inr, ?_, ?_⟩
    · rw [← hr.length, asgTs_len hev, hl]
    · refine h vs σ H g _ env st env' st' Q hr hE hS hev fun σ2 H2 g2 x2 s2 E2 w2 => hQ σ2 H2 g2 x2 s2 E2 fun us hu => ?_
      rw [tgIn] at hu
      exact w2 us hu
  · cases e0
end
/-! ### what is walked -/
/-- J gives these items, one after the other, however the heap goes on -/
def Walk (K : PySem.W.Frag) (w : World) (g0 : Gh) (H0 : Hp) (J : It) (xs : List D) : Prop :=
  ∀ g H st, Ext0 g0 H0 g H → StOk K w g H st →
    (∀ (i : Nat) d, xs[i]? = some d → J.go i H ∧ ∀ x H', J.yld i H x H' → Ext g H g H' ∧ StOk K w g H' st ∧ RelD K w g H' d x) ∧ (∀ i : Nat, xs.length ≤ i → J.stop i H)
def SI (L : List DFn) (G : List D) (X : Cx) (tg e : Expr) (ii : II) : Prop := ∀ (σ : L2.St) (H : Hp) (g : Gh) (env : DEnv) (st : DSt) (xs : List D) (st' : DSt) (R : It → Hp → Prop),
  EnvR X.K X.w g H env σ → StOk X.K X.w g H st → evI (gam L) G ii env st = some (xs, st') → (∀ J H' g', Ext g H g' H' → StOk X.K X.w g' H' st' → Walk X.K X.w g' H' J xs → R J H') → wpI X tg e σ H R
theorem Ext0.refl (g : Gh) (H : Hp) : Ext0 g H g H := (Ext.refl g H).e0
theorem walk_lst {K : PySem.W.Frag} {w : World} {g0 : Gh} {H0 : Hp} {a : Addr} {xs : List D} {vs : List V} (h : (Rd H0 a (.lst vs) ∧ ¬ g0.Z a) ∨ KLst K a vs) (r : RelDs K w g0 H0 xs vs) : Walk K w g0 H0 (Itl K a) xs := by
  intro g H st e S
  have h1 : SqL K H a vs := by
    rcases h with ⟨h, z⟩ | h
    · exact .inl (e.rd h z).1
    · exact .inr h
  refine ⟨fun i d hd => ?_, fun i hi => ⟨vs, h1, by rw [← r.length]; exact hi⟩⟩
  obtain ⟨v, hv, rv⟩ := r.get hd
  refine ⟨⟨vs, v, h1, hv⟩, fun x H' hy => ?_⟩
  obtain ⟨rfl, hy⟩ := hy
  have := hy vs h1
  rw [hv] at this
  cases this
  exact ⟨Ext.refl g _, S, RelD.ext0 e rv⟩
theorem walk_tup {K : PySem.W.Frag} {w : World} {g0 : Gh} {H0 : Hp} {a : Addr} {xs : List D} {vs : List V} (h : (Rd H0 a (.tup vs) ∧ ¬ g0.Z a) ∨ KTup K a vs) (r : RelDs K w g0 H0 xs vs) : Walk K w g0 H0 (Itt K a) xs := by
  intro g H st e S
  have h1 : SqT K H a vs := by
    rcases h with ⟨h, z⟩ | h
    · exact .inl (e.rd h z).1
    · exact .inr h
  refine ⟨fun i d hd => ?_, fun i hi => ⟨vs, h1, by rw [← r.length]; exact hi⟩⟩
  obtain ⟨v, hv, rv⟩ := r.get hd
  refine ⟨⟨vs, v, h1, hv⟩, fun x H' hy => ?_⟩
  obtain ⟨rfl, hy⟩ := hy
  have := hy vs h1
  rw [hv] at this
  cases this
  exact ⟨Ext.refl g _, S, RelD.ext0 e rv⟩
theorem walk_str {K : PySem.W.Frag} {w : World} {g0 : Gh} {H0 : Hp} {cs : List Nat} : Walk K w g0 H0 (Its ⟨cs.toArray⟩) (cs.map fun c => .str [c]) := by
  intro g H st e S
  refine ⟨fun i d hd => ?_, fun i hi => ?_⟩
  · rw [List.getElem?_map] at hd
    cases hc : cs[i]? with
    | none => rw [hc] at hd; cases hd
    | some c =>
      rw [hc] at hd
      cases hd
      refine ⟨?_, fun x H' hy => ?_⟩
      · show i < (⟨cs.toArray⟩ : Str).cps.size
        have := (List.getElem?_eq_some_iff.mp hc).1
        simpa using this
      · obtain ⟨rfl, c', h1, rfl⟩ := hy
        have h1 : cs[i]? = some c' := by simpa using h1
        rw [hc] at h1
        cases h1
        exact ⟨Ext.refl g _, S, by rw [RelD]⟩
  · show (⟨cs.toArray⟩ : Str).cps.size ≤ i
    simpa using hi
/-! ### the keys of a dict -/
theorem relV_inj {x y : V} {u : Value} (h1 : RelV x u) (h2 : RelV y u) : x = y := by
  cases x <;> cases y <;> simp only [RelV] at h1 h2 <;> (try obtain ⟨t, rfl⟩ := h1) <;> (try subst h1) <;> (try obtain ⟨t', h2⟩ := h2) <;> first | rfl | (cases h2; rfl) | (cases h2; done)
def ItD (K : PySem.W.Frag) (a : Addr) (es : Ents) : It :=
  ⟨fun i H => DctAt K H a es ∧ i < es.1.length, fun i H x H' => H' = H ∧ ∃ e, es.1[i]? = some e ∧ RelV x e.key, fun i H => DctAt K H a es ∧ es.1.length ≤ i⟩
theorem turn_keysD {P : Program} {w : World} {K : PySem.W.Frag} {tg : Expr} {a : Addr} {es : Ents} (vals : ∀ e ∈ es.1, ∃ x, RelV x e.key) (it : Addr) : Turn P w K tg (ItD K a es) [it] it (fun i h => h.IsKeyIter it a i es.1.toArray.size es.2) where
  mem := by simp
  obj := fun i h st b hb => by
    have e : b = it := by simpa using hb
    subst e
    obtain ⟨oi, q1, q2, q3⟩ := st
    exact ⟨oi, q1, fun v z => by rw [q3] at z; cases z⟩
  keep := fun i h h' st k => st.at fun oi q => k it (by simp) oi q
  item := by
    intro X hP hw hK hc i pins s σ H E I hf st hg
    subst hP hw hK
    obtain ⟨hd, hi⟩ := hg
    obtain ⟨f0, f1, f2, f3, f4, f5⟩ := hf it (by simp)
    obtain ⟨hraw, _⟩ := raw_at I hd
    have hi' : i < es.1.toArray.size := by simpa using hi
    refine wpAny_pyNext_keys_item_raw st hraw hi' fun h' st' sb => ?_
    have I1 : Inv X pins σ H { s with heap := h' } := I.turned (t' := s.toks) (fun b ob hb q => (sb.2 b hb).trans q) f0 f1 f3 f4 f5
    obtain ⟨oi, q1, q2, q3⟩ := id st'
    have hg : es.1[i]? = some es.1.toArray[i] := by simp
    obtain ⟨x, hx⟩ := vals _ (List.mem_of_getElem? hg)
    exact ⟨es.1.toArray[i].key, rfl, go_of (s := { s with heap := h' }) q1 q2 q3 (by decide) ⟨x, H, I1, hx, ⟨rfl, _, hg, hx⟩, st', fun b hb => (hf b hb).1⟩⟩
  done := by
    intro X hP hw hK hc i pins s σ H E I hf st hg
    subst hP hw hK
    obtain ⟨hd, hi⟩ := hg
    obtain ⟨f0, f1, f2, f3, f4, f5⟩ := hf it (by simp)
    obtain ⟨hraw, _⟩ := raw_at I hd
    exact wpAny_pyNext_keys_end_raw (I.ok.hd hc) st hraw (by simpa using hi) fun h' eb => ⟨rfl, I.turned (t' := s.toks) (fun b ob hb q => eb b ob hb q) f0 f1 f3 f4 f5⟩
  self := fun A i s Q E st h => wpAny_pyIter_keyiter st h
def iKeysD (K : PySem.W.Frag) (td : TE) : TI := fun σ H R => td σ H fun x H1 => ∃ (a : Addr) (es : Ents), x = .ref a ∧ DctAt K H1 a es ∧ (∀ e ∈ es.1, ∃ x, RelV x e.key) ∧ R (ItD K a es) H1
theorem pi_keysD {X : Cx} {tg e : Expr} {td : TE} (he : PE X e td) : PI X tg e (iKeysD X.K td) := by
  refine ⟨fun pins s σ H R I h => thn (he.run pins s σ H _ I h) fun u s1 ⟨x, H1, I1, rx, a, es, ex, hd, hv, q⟩ => ?_⟩
  subst ex
  cases (show u = Value.ref a from rx)
  obtain ⟨hraw, hs⟩ := raw_at I1 hd
  exact wpAny_pyIter_dict_raw hs hraw (pi_one (tk := s1.toks) I1 _ (turn_keysD hv _) ⟨_, Heap.get?_push_size _ rfl, rfl, rfl⟩ q)
theorem relKs_keys {K : PySem.W.Frag} {w : World} {g : Gh} {H : Hp} : ∀ {kvs : List (D × D)} {es : List DictEntry}, RelKs K w g H kvs es → (∀ e ∈ es, ∃ x, RelV x e.key) ∧ ∀ (i : Nat) d e, (kvs.map (·.1))[i]? = some d → es[i]? = some e → ∃ v, RelV v e.key ∧ RelD K w g H d v
  | [], es, h => by
    rw [RelKs] at h
    subst h
    exact ⟨fun e he => (by cases he), fun i d e q => by simp at q⟩
  | (a, b) :: r, es, h => by
    rw [RelKs] at h
    obtain ⟨e, es', rfl, h1, h2⟩ := h
    obtain ⟨q1, q2⟩ := relKs_keys h2
    rw [RelP] at h1
    obtain ⟨_, ⟨v, v1, v2⟩, _⟩ := h1
    refine ⟨fun e' he => ?_, fun i d e' q3 q4 => ?_⟩
    · rcases List.mem_cons.mp he with rfl | he
      · exact ⟨v, v1⟩
      · exact q1 e' he
    · cases i with
      | zero =>
        cases q3
        cases q4
        exact ⟨v, v1, v2⟩
      | succ i => exact q2 i d e' (by simpa using q3) (by simpa using q4)
theorem walk_keys {K : PySem.W.Frag} {w : World} {g0 : Gh} {H0 : Hp} {a : Addr} {es : Ents} {kvs : List (D × D)} (h : (Rd H0 a (rawO a es) ∧ ¬ g0.Z a) ∨ KRaw K a es) (r : RelKs K w g0 H0 kvs es.1) : Walk K w g0 H0 (ItD K a es) (kvs.map (·.1)) := by
  intro g H st e S
  have h1 : DctAt K H a es := h.elim (fun q => .inl (e.rd q.1 q.2).1) .inr
  have hl := relKs_len r
  refine ⟨fun i d hd => ?_, fun i hi => ⟨h1, by rw [← hl]; simpa using hi⟩⟩
  have hi : i < es.1.length := by
    have := (List.getElem?_eq_some_iff.mp hd).1
    rw [List.length_map] at this
    omega
  refine ⟨⟨h1, hi⟩, fun x H' hy => ?_⟩
  obtain ⟨rfl, e', q1, q2⟩ := hy
  obtain ⟨v, v1, v2⟩ := (relKs_keys r).2 i d e' hd q1
  rw [relV_inj q2 v1]
  exact ⟨Ext.refl g _, S, RelD.ext0 e v2⟩
theorem walk_rng {K : PySem.W.Frag} {w : World} {g0 : Gh} {H0 : Hp} {a b : Int} : Walk K w g0 H0 (Itr a (b - a).toNat) (rangeL a b) := by
  intro g H st e S
  unfold rangeL
  refine ⟨fun i d hd => ?_, fun i hi => ?_⟩
  · rw [List.getElem?_map] at hd
    cases hc : (List.range (b - a).toNat)[i]? with
    | none => rw [hc] at hd; cases hd
    | some c =>
      rw [hc] at hd
      cases hd
      have h1 := List.getElem?_eq_some_iff.mp hc
      obtain ⟨h1, h2⟩ := h1
      rw [List.getElem_range] at h2
      subst h2
      rw [List.length_range] at h1
      refine ⟨h1, fun x H' hy => ?_⟩
      obtain ⟨rfl, rfl⟩ := hy
      exact ⟨Ext.refl g _, S, by rw [RelD]⟩
  · rw [List.length_map, List.length_range] at hi
    exact hi
end Py

set_option Elab.async false
set_option linter.all false
set_option maxRecDepth 100000
set_option autoImplicit false
set_option maxHeartbeats 1000000
namespace Py
open PySem PySem.Spec L2
section
variable {L : List DFn} {G : List D} {X : Cx}
theorem si_seq {tg e : Expr} {ie : IE} (h : SE L G X e ie) : SI L G X tg e (.seq ie) := by
  intro σ H g env st xs st' R hE hS hev hR
  rw [evI] at hev
  (replace hev := bindS hev); obtain ⟨⟨d, st1⟩, e1, hev⟩ := hev
  (replace hev := bindS hev); obtain ⟨xs', e2, hev⟩ := hev
  cases hev
  unfold seqD at e2
  split at e2
  · rename_i _ ds hd
    cases e2
    simp only at hd
    subst hd
    refine le_I (pi_tup pe_wp) ?_
    refine h σ H g env st _ _ _ hE hS e1 fun v H1 g1 x1 s1 r1 _ => ?_
    rw [RelD] at r1
    obtain ⟨a, vs, e3, ha, hr⟩ := r1
    exact ⟨a, e3, ⟨vs, ha.elim (fun q => .inl q.1) .inr⟩, hR _ H1 g1 x1 s1 (walk_tup ha hr)⟩
  · rename_i _ ds hd
    cases e2
    simp only at hd
    subst hd
    refine le_I (pi_list pe_wp) ?_
    refine h σ H g env st _ _ _ hE hS e1 fun v H1 g1 x1 s1 r1 _ => ?_
    rw [RelD] at r1
    obtain ⟨a, vs, e3, ha, hr⟩ := r1
    exact ⟨a, e3, ⟨vs, ha.elim (fun q => .inl q.1) .inr⟩, hR _ H1 g1 x1 s1 (walk_lst ha hr)⟩
  · rename_i _ cs hd
    split at e2
    · cases e2
      simp only at hd
      subst hd
      refine le_I (pi_str pe_wp) ?_
      refine h σ H g env st _ _ _ hE hS e1 fun v H1 g1 x1 s1 r1 _ => ?_
      rw [RelD] at r1
      exact ⟨_, r1, hR _ H1 g1 x1 s1 walk_str⟩
    · cases e2
  · rename_i _ kvs hd
    split at e2
    · cases e2
      simp only at hd
      subst hd
      refine le_I (pi_keysD pe_wp) ?_
      refine h σ H g env st _ _ _ hE hS e1 fun v H1 g1 x1 s1 r1 _ => ?_
      rw [RelD] at r1
      obtain ⟨a, es, e3, ha, hdd, hr⟩ := r1
      exact ⟨a, es, e3, ha.elim (fun q => .inl q.1) .inr, (relKs_keys hr).1, hR _ H1 g1 x1 s1 (walk_keys ha hr)⟩
    · cases e2
  · cases e2
theorem si_rng1 {tg a : Expr} {ia : IE} {p pos : Pos} {k : Nat} {gl : List Str} (hX : XOk X k L gl G) (hg : Gl X "range") (hp : plainE a = true) (h : SE L G X a ia) : SI L G X tg (.Call (.Name "range" p) [a] [] pos) (.rng1 ia) := by
  intro σ H g env st xs st' R hE hS hev hR
  rw [evI] at hev
  (replace hev := bindS hev); obtain ⟨⟨d, st1⟩, e1, hev⟩ := hev
  split at hev
  · rename_i b hd
    split at hev
    · rename_i hz
      cases hev
      simp only at hd
      subst hd
      have hb := rngOk_le hz
      refine le_I (pi_range1 hg (hX.bs _ (by decide)) (pa_cons pe_wp pa_nil (star_cons hp)) (star_cons hp)) ?_
      refine h σ H g env st _ _ _ hE hS e1 fun v H1 g1 x1 s1 r1 _ => ?_
      rw [RelD] at r1
      subst r1
      refine ⟨b, rfl, by omega, by omega, hR _ H1 g1 x1 s1 ?_⟩
      have := walk_rng (K := X.K) (w := X.w) (g0 := g1) (H0 := H1) (a := 0) (b := b)
      rwa [Int.sub_zero] at this
    · cases hev
  · cases hev
theorem si_rng2 {tg a b : Expr} {ia ib : IE} {p pos : Pos} {k : Nat} {gl : List Str} (hX : XOk X k L gl G) (hg : Gl X "range") (hp : plainE a = true) (hp2 : plainE b = true) (h : SE L G X a ia) (h2 : SE L G X b ib) : SI L G X tg (.Call (.Name "range" p) [a, b] [] pos) (.rng2 ia ib) := by
  intro σ H g env st xs st' R hE hS hev hR
  rw [evI] at hev
  (replace hev := bindS hev); obtain ⟨⟨d, st1⟩, e1, hev⟩ := hev
  (replace hev := bindS hev); obtain ⟨⟨d2, st2⟩, e2, hev⟩ := hev
  split at hev
  · rename_i a' b' hd hd2
    split at hev
    · rename_i hz
      cases hev
      simp only at hd hd2
      subst hd hd2
      have hb := rngOk_le hz
      refine le_I (pi_range2 hg (hX.bs _ (by decide)) (pa_cons pe_wp (pa_cons pe_wp pa_nil (star_cons hp2)) (star_cons hp)) (by rw [star_cons hp, star_cons hp2]; rfl) (by rw [star_cons hp2]; rfl)) ?_
      refine h σ H g env st _ _ _ hE hS e1 fun v H1 g1 x1 s1 r1 _ => ?_
      refine h2 σ H1 g1 env _ _ _ _ (hE.ext x1) s1 e2 fun v2 H2 g2 x2 s2 r2 _ => ?_
      rw [RelD] at r1 r2
      subst r1 r2
      exact ⟨a', b', rfl, ⟨by omega, by omega, by omega, by omega⟩, hR _ H2 g2 (x1.trans x2) s2 walk_rng⟩
    · cases hev
  · cases hev
theorem si_rng3 {tg a b c : Expr} {ia ib ic : IE} {p pos : Pos} {k : Nat} {gl : List Str} (hX : XOk X k L gl G) (hg : Gl X "range") (hp : plainE a = true) (hp2 : plainE b = true) (hp3 : plainE c = true) (h : SE L G X a ia) (h2 : SE L G X b ib) (h3 : SE L G X c ic) :
    SI L G X tg (.Call (.Name "range" p) [a, b, c] [] pos) (.rng3 ia ib ic) := by
  intro σ H g env st xs st' R hE hS hev hR
  rw [evI] at hev
  (replace hev := bindS hev); obtain ⟨⟨d, st1⟩, e1, hev⟩ := hev
  (replace hev := bindS hev); obtain ⟨⟨d2, st2⟩, e2, hev⟩ := hev
  (replace hev := bindS hev); obtain ⟨⟨d3, st3⟩, e3, hev⟩ := hev
  split at hev
  · rename_i a' b' c' hd hd2 hd3
    split at hev
    · rename_i hz
      cases hev
      simp only at hd hd2 hd3
      subst hd hd2 hd3
      rw [Bool.and_eq_true, decide_eq_true_eq] at hz
      obtain ⟨hz, rfl⟩ := hz
      have hb := rngOk_le hz
      refine le_I (pi_range3 hg (hX.bs _ (by decide)) (pa_cons pe_wp (pa_cons pe_wp (pa_cons pe_wp pa_nil (star_cons hp3)) (star_cons hp2)) (star_cons hp)) (by rw [star_cons hp]) (by rw [star_cons hp2, star_cons hp3]; rfl)) ?_
      refine h σ H g env st _ _ _ hE hS e1 fun v H1 g1 x1 s1 r1 _ => ?_
      refine h2 σ H1 g1 env _ _ _ _ (hE.ext x1) s1 e2 fun v2 H2 g2 x2 s2 r2 _ => ?_
      refine h3 σ H2 g2 env _ _ _ _ ((hE.ext x1).ext x2) s2 e3 fun v3 H3 g3 x3 s3 r3 _ => ?_
      rw [RelD] at r1 r2 r3
      subst r1 r2 r3
      refine ⟨a', b', -1, (a' - b').toNat, rfl, RgC.neg (by omega) (by omega) (by omega) (by omega), hR _ H3 g3 ((x1.trans x2).trans x3) s3 ?_⟩
      intro g H st e S
      refine ⟨fun i d hd => ?_, fun i hi => by rw [List.length_map, List.length_range] at hi; exact hi⟩
      rw [List.getElem?_map] at hd
      cases hc : (List.range (a' - b').toNat)[i]? with
      | none => rw [hc] at hd; cases hd
      | some c =>
        rw [hc] at hd
        cases hd
        obtain ⟨h1, h2⟩ := List.getElem?_eq_some_iff.mp hc
        rw [List.getElem_range] at h2
        subst h2
        rw [List.length_range] at h1
        refine ⟨h1, fun x H' hy => ?_⟩
        obtain ⟨rfl, rfl⟩ := hy
        exact ⟨Ext.refl g _, S, by rw [RelD]⟩
    · cases hev
  · cases hev
theorem enumL_get : ∀ {xs : List D} {n i : Nat} {d : D}, (enumL n xs)[i]? = some d → ∃ x, xs[i]? = some x ∧ d = .tup [.int ((n + i : Nat) : Int), x]
  | [], n, i, d, h => by simp [enumL] at h
  | x :: xs, n, 0, d, h => by
    simp [enumL] at h
    exact ⟨x, rfl, by rw [← h]; rfl⟩
  | x :: xs, n, i + 1, d, h => by
    rw [enumL, List.getElem?_cons_succ] at h
    obtain ⟨y, h1, h2⟩ := enumL_get h
    exact ⟨y, by simpa using h1, by rw [h2, show n + 1 + i = n + (i + 1) by omega]⟩
theorem enumL_len : ∀ {xs : List D} {n : Nat}, (enumL n xs).length = xs.length
  | [], n => rfl
  | x :: xs, n => by rw [enumL, List.length_cons, enumL_len, List.length_cons]
theorem walk_enum {K : PySem.W.Frag} {w : World} {g0 : Gh} {H0 : Hp} {a : Addr} {xs : List D} {vs : List V} (h : (Rd H0 a (.lst vs) ∧ ¬ g0.Z a) ∨ KLst K a vs) (r : RelDs K w g0 H0 xs vs) : Walk K w g0 H0 (Ite K a) (enumL 0 xs) := by
  intro g H st e S
  have h1 : SqL K H a vs := by
    rcases h with ⟨h, z⟩ | h
    · exact .inl (e.rd h z).1
    · exact .inr h
  refine ⟨fun i d hd => ?_, fun i hi => ⟨vs, h1, by rw [← r.length]; rw [enumL_len] at hi; exact hi⟩⟩
  obtain ⟨x, hx, rfl⟩ := enumL_get hd
  obtain ⟨v, hv, rv⟩ := r.get hx
  refine ⟨⟨vs, v, h1, hv⟩, fun y H' hy => ?_⟩
  obtain ⟨T, z, rfl, hT, rfl, hy⟩ := hy
  have := hy vs h1
  rw [hv] at this
  cases this
  have e2 := ext_new (o := .tup [.int (i : Nat), v]) hT (S.nZ hT)
  refine ⟨e2, S.new hT, ?_⟩
  rw [RelD]
  exact ⟨T, _, rfl, .inl ⟨.inl upd_same, S.nZ hT⟩, RelDs.cons (by rw [RelD, Nat.zero_add]) (RelDs.cons ((RelD.ext0 e rv).ext e2) RelDs.nil)⟩
/-- a tuple, numbered -/
def IteT (K : PySem.W.Frag) (a : Addr) : It :=
  ⟨fun i H => ∃ (xs : List V) (x : V), SqT K H a xs ∧ xs[i]? = some x, fun i H v H' => ∃ T x, v = .ref T ∧ H T = none ∧ H' = upd H T (.tup [.int (i : Nat), x]) ∧ ∀ xs, SqT K H a xs → xs[i]? = some x, fun i H => ∃ xs : List V, SqT K H a xs ∧ xs.length ≤ i⟩
theorem vals_inj : ∀ {xs ys : List V} {us : List Value}, Vals xs us → Vals ys us → xs = ys
  | [], ys, us, h1, h2 => by cases h1; cases h2; rfl
  | x :: xs, ys, us, h1, h2 => by
    cases h1 with
    | cons q1 q2 =>
      cases h2 with
      | cons q3 q4 => rw [relV_inj q1 q3, vals_inj q2 q4]
theorem sqT_inj {X : Cx} {pins : List (Addr × Obj)} {σ : L2.St} {H : Hp} {s : Shared} (I : Inv X pins σ H s) {a : Addr} {xs ys : List V} (h1 : SqT X.K H a xs) (h2 : SqT X.K H a ys) : xs = ys := by
  obtain ⟨its, o1, n1, r1, p1, _, q1⟩ := Inv.sqT I h1
  obtain ⟨its2, o2, n2, r2, p2, _, q2⟩ := Inv.sqT I h2
  have e1 : o1 = o2 := Option.some.inj (p1.symm.trans p2)
  subst e1
  rw [q1] at q2
  injection q2 with e _
  have e : its = its2 := by simpa using e
  subst e
  exact vals_inj r1 r2
/-- a tuple's iterator at its end -/
theorem draws_end {prog : Program} {w : World} {A : Around} (hh : A.handled = none) (it t : Addr) (hne : t ≠ it) (items : Array Value) (i : Nat) (hi : items.size ≤ i) :
    Draws prog w A it [it, t] i (fun _ _ => True) (fun j h => j = i ∧ h.IsTupleIter it t i ∧ h.IsTuple t items) where
  live := fun _ _ st => let ⟨o, ho, _⟩ := st.2.1; ⟨o, ho⟩
  frame := fun _ _ _ st hk => ⟨st.1, st.2.1.at fun o e => hk it (by simp) o e, st.2.2.at fun o e => hk t (by simp) o e⟩
  item := fun j s Q E hj st _ => absurd st.1 (Nat.ne_of_lt hj)
  done := fun s Q E st hE => wpAny_nextOf_tuple_end hh st.2.1 st.2.2 (Array.getElem?_eq_none hi) hE
theorem walk_enumT {K : PySem.W.Frag} {w : World} {g0 : Gh} {H0 : Hp} {a : Addr} {xs : List D} {vs : List V} (h : (Rd H0 a (.tup vs) ∧ ¬ g0.Z a) ∨ KTup K a vs) (r : RelDs K w g0 H0 xs vs) : Walk K w g0 H0 (IteT K a) (enumL 0 xs) := by
  intro g H st e S
  have h1 : SqT K H a vs := h.elim (fun q => .inl (e.rd q.1 q.2).1) .inr
  refine ⟨fun i d hd => ?_, fun i hi => ⟨vs, h1, by rw [← r.length]; rw [enumL_len] at hi; exact hi⟩⟩
  obtain ⟨x, hx, rfl⟩ := enumL_get hd
  obtain ⟨v, hv, rv⟩ := r.get hx
  refine ⟨⟨vs, v, h1, hv⟩, fun y H' hy => ?_⟩
  obtain ⟨T, z, rfl, hT, rfl, hy⟩ := hy
  have := hy vs h1
  rw [hv] at this
  cases this
  have e2 := ext_new (o := .tup [.int (i : Nat), v]) hT (S.nZ hT)
  refine ⟨e2, S.new hT, ?_⟩
  rw [RelD]
  exact ⟨T, _, rfl, .inl ⟨.inl upd_same, S.nZ hT⟩, RelDs.cons (by rw [RelD, Nat.zero_add]) (RelDs.cons ((RelD.ext0 e rv).ext e2) RelDs.nil)⟩
theorem turn_enumT {P : Program} {w : World} {K : PySem.W.Frag} {elts : List Expr} {kk : Nat} {tpos : Pos} (a e it : Addr) :
    Turn P w K (.Tuple elts kk tpos) (IteT K a) [e, it] e (fun i h => (∃ old, IsEnum h e it ((i : Nat) : Int) old) ∧ h.IsTupleIter it a i ∧ e ≠ it ∧ e ≠ a ∧ a ≠ it) where
  mem := by simp
  obj := fun i h st b hb => by
    obtain ⟨⟨old, he⟩, ⟨o, ho, hc, hd⟩, _⟩ := st
    rcases (show b = e ∨ b = it by simpa using hb) with z | z
    · rw [z]; exact ⟨_, he, fun v q => nomatch q⟩
    · rw [z]; exact ⟨o, ho, fun v q => by rw [hd] at q; cases q⟩
  keep := fun i h h' st k => let ⟨⟨old, he⟩, hi, hne⟩ := st; ⟨⟨old, k e (by simp) _ he⟩, hi.at fun o q => k it (by simp) o q, hne⟩
  item := by
    intro X hP hw hK hc i pins s σ H E I hf st hg
    subst hP hw hK
    obtain ⟨⟨old, he⟩, hit, hne, hna, hnt⟩ := st
    obtain ⟨xs, x, hq, hx⟩ := hg
    obtain ⟨its, rv, p, hz⟩ := I.tuple hq
    obtain ⟨u, hu, ru⟩ := rv.get hx
    have p' : s.heap.IsTuple a its.toArray := p
    have hel : e < s.heap.objs.size := Heap.lt_size he
    have hil : it < s.heap.objs.size := by obtain ⟨_, q, _⟩ := hit; exact Heap.lt_size q
    have hil2 : i < its.toArray.size := by
      have := (List.getElem?_eq_some_iff.mp hu).1
      simpa using this
    refine wpAny_pyNext_enum_itemC (Draws.tuple (A := X.A.in1) (I.ok.hd hc) it a hnt its.toArray) he ⟨hit, p'⟩ hil2 hne (by simp [hne, hna]) fun y h' tk hy ho hit' hT hsz hk => ?_
    have hyu : y = u := by
      have q1 : its[i]? = some y := by simpa using hy
      rw [hu] at q1
      exact (Option.some.inj q1).symm
    subst hyu
    refine ⟨_, rfl, wpAny_letOwnedTupleGo_enum (s := { s with heap := h', toks := tk + 1 }) ho fun h'' he' sb => ?_⟩
    have hT2 : h''.get? s.heap.objs.size = some { cls := .type "tuple", data := .seq #[.int i tk, y] } := (sb.2 _ (Nat.ne_of_gt hel)).trans hT
    have new : ObjOk X.prog X.w (upd H s.heap.objs.size (.tup [.int (i : Nat), x])) h'' s.heap.objs.size (.tup [.int (i : Nat), x]) :=
      ⟨by show 2 ≤ sizeLine; decide, [.int i tk, y], .cons ⟨_, rfl⟩ (.cons ru .nil), ⟨_, hT2, rfl, _, rfl⟩⟩
    have I1 : Inv X pins σ (upd H s.heap.objs.size (.tup [.int (i : Nat), x])) { s with heap := h'', toks := tk + 1 } :=
      I.turnedNew (ch := [e, it]) (fun b ob hb q => (sb.2 b (fun z => hb (by simp [z]))).trans (hk b ob (fun z => hb (by simp [z])) (fun z => hb (by simp [z])) q)) hf (Nat.le_refl _) new
    refine ⟨.ref s.heap.objs.size, _, I1, rfl, ⟨_, x, rfl, I.hok.fresh (Nat.le_refl _), rfl, fun ys hy => by rw [sqT_inj I hy hq]; exact hx⟩, ⟨⟨y, ?_⟩, hit'.1.at fun o q => (sb.2 it (Ne.symm hne)).trans q, hne, hna, hnt⟩, fun b hb => ?_⟩
    · rw [show ((i + 1 : Nat) : Int) = (i : Int) + 1 by omega]
      exact he'
    · have hb' : b < s.heap.objs.size := by
        rcases (show b = e ∨ b = it by simpa using hb) with z | z
        · rw [z]; exact hel
        · rw [z]; exact hil
      rw [upd_ne (Nat.ne_of_lt hb')]
      exact (hf b hb).1
  done := by
    intro X hP hw hK hc i pins s σ H E I hf st hg
    subst hP hw hK
    obtain ⟨⟨old, he⟩, hit, hne, hna, hnt⟩ := st
    obtain ⟨xs, hq, hx⟩ := hg
    obtain ⟨its, rv, p, hz⟩ := I.tuple hq
    have p' : s.heap.IsTuple a its.toArray := p
    obtain ⟨f0, f1, f2, f3, f4, f5⟩ := hf it (by simp)
    have hl := rv.length
    exact wpAny_pyNext_enum_endD (draws_end (prog := X.prog) (w := X.w) (A := X.A.in1) (I.ok.hd hc) it a hnt its.toArray i (by simp; omega)) he ⟨rfl, hit, p'⟩ fun h' eb => ⟨rfl, I.turned (t' := s.toks) (fun b o hb q => eb b o hb q) f0 f1 f3 f4 f5⟩
  self := fun A i s Q E st h => let ⟨⟨_, he⟩, _⟩ := st; wpAny_pyIter_enum he h
set_option maxHeartbeats 2000000 in
theorem meets_enum_of {v : Value} {o : Obj} {H : Heap → Prop} (B : Begins v o H) :
    Meets (Builtin.«enumerate.__new__» ⟨[.type "enumerate", v], []⟩) (fun _ R s => H s.heap ∧
      R (.ok (.ret (.ref (s.heap.push o).objs.size))) { s with heap := (s.heap.push o).push { cls := .type "enumerate", data := .fields #[.none, .bool false, .ref s.heap.objs.size, rawInt 0, .none, .none] } }) :=
  .of_wp fun prog w A R s h => by
    obtain ⟨hp, gn, dr, tk, os⟩ := s
    obtain ⟨hH, hR⟩ := h
    have sb := sub_enumerate
    have it : ∀ {A' : Around} {E : Value → Shared → Prop} {Q : Value → Shared → Prop}, Q (.ref hp.objs.size) ⟨hp.push o, gn, dr, tk, os⟩ → wpAny (model prog w) A' (pyIter v) Q E ⟨hp, gn, dr, tk, os⟩ :=
      fun q => B.iter prog w _ _ ⟨hp, gn, dr, tk, os⟩ _ hH q
    wp_walk using it
    refine wpAny_stack_any fun stk => wpAny_pure ?_
    split
    · rename_i cl _ _ _ _ _
      cases (cl == Value.type "enumerate")
      all_goals
        wp_walk using it
        exact ⟨_, rfl, hR⟩
    · wp_walk using it
      exact ⟨_, rfl, hR⟩
theorem call_enumerate_begins {prog : Program} {w : World} {A : Around} {E : Value → Shared → Prop} {s : Shared} {l : Addr} {o : Obj} {H : Heap → Prop} {Q : Value → Shared → Prop} (B : Begins (.ref l) o H) (hl : H s.heap)
    (h : ∀ h', IsEnum h' (s.heap.objs.size + 1) s.heap.objs.size 0 .none → h'.get? s.heap.objs.size = some o → h'.objs.size = s.heap.objs.size + 2 →
      (∀ b q, s.heap.get? b = some q → h'.get? b = some q) → Q (.ref (s.heap.objs.size + 1)) { s with heap := h' }) :
    wpAny (model prog w) A (call (.type "enumerate") [.ref l]) Q E s := by
  refine callType_new PySem.F.called_enumerate (by decide) (PySem.F.typeCall_enumerate_1 _) (PySem.F.newCall_enumerate_1 _) (fun ob => PySem.F.args_object_init_2 ob _) PySem.F.entry_enumerate_new (meets_enum_of B) ⟨hl, ?_⟩
  have hz : (s.heap.push o).objs.size = s.heap.objs.size + 1 := Heap.size_push ..
  show _ ∧ _
  rw [hz]
  have en : IsEnum ((s.heap.push o).push { cls := .type "enumerate", data := .fields #[.none, .bool false, .ref s.heap.objs.size, rawInt 0, .none, .none] }) (s.heap.objs.size + 1) s.heap.objs.size 0 .none := by
    have q := Heap.get?_push_size (s.heap.push o) (o := { cls := .type "enumerate", data := .fields #[.none, .bool false, .ref s.heap.objs.size, rawInt 0, .none, .none] }) rfl
    rwa [hz] at q
  exact ⟨⟨_, en, rfl⟩, h _ en (Heap.get?_push_of_some _ (Heap.get?_push_size _ B.free)) (by rw [Heap.size_push, hz]) fun b q x => Heap.get?_push_of_some _ (Heap.get?_push_of_some _ x)⟩
/-- a list or a tuple, numbered -/
def iEnumA (K : PySem.W.Frag) (ta : TA) : TI := fun σ H R => ta σ H fun vs H1 => ∃ (a : Addr) (xs : List V), vs = [.ref a] ∧ ((SqL K H1 a xs ∧ R (Ite K a) H1) ∨ (SqT K H1 a xs ∧ R (IteT K a) H1))
theorem pi_enumA {e : Expr} {ta : TA} {p pos tpos : Pos} {elts : List Expr} {kk : Nat} (hg : Gl X "enumerate") (hm : X.mg "enumerate" = none) (ha : PA X [e] ta) (hs : starEach [e] X.env = [(false, eval e X.env)]) :
    PI X (.Tuple elts kk tpos) (.Call (.Name "enumerate" p) [e] [] pos) (iEnumA X.K ta) := by
  refine ⟨fun pins s σ H R I h => ?_⟩
  refine PyProof.Rows.Call_ (ld_blt I hg hm PyProof.Rows.boot_enumerate (PyProof.Rows.callWith_type1 (thn (ha.run pos pins s σ H _ I h) fun us s1 ⟨vs, H1, I1, r1, a, xs, ex, q1⟩ => ?_) hs rfl))
  subst ex
  obtain ⟨u, rfl, ru⟩ := Vals.one r1
  cases (show u = Value.ref a from ru)
  have nb : ∀ b, b = s1.heap.objs.size + 1 ∨ b = s1.heap.objs.size → s1.heap.objs.size ≤ b := fun b q => by rcases q with q | q <;> omega
  rcases q1 with ⟨hq, q⟩ | ⟨hq, q⟩
  · obtain ⟨its, rv, p', hz⟩ := I1.list hq
    refine call_enumerate_list p'.isList fun h' he hit hsz hk => wpAny_pyIter_enum he ?_
    have I2 : Inv X pins σ H1 { s1 with heap := h' } := I1.kept (t' := s1.toks) hk
    refine ⟨s1.heap.objs.size + 1, [s1.heap.objs.size + 1, s1.heap.objs.size], _, _, H1, rfl, I2, turn_enum a (s1.heap.objs.size + 1) s1.heap.objs.size, ⟨⟨.none, he⟩, hit, Nat.succ_ne_self _⟩, fun b hb => ?_, q⟩
    have hle := nb b (by simpa using hb)
    exact I1.fpOk hle (I1.hok.fresh hle)
  · obtain ⟨its, rv, p', hz⟩ := I1.tuple hq
    have hal : a < s1.heap.objs.size := by obtain ⟨o, ho, _⟩ := p'; exact Heap.lt_size ho
    have pt : s1.heap.IsTuple a its.toArray := p'
    refine call_enumerate_begins (begins_tuple a its.toArray) pt fun h' he hit hsz hk => wpAny_pyIter_enum he ?_
    have I2 : Inv X pins σ H1 { s1 with heap := h' } := I1.kept (t' := s1.toks) hk
    refine ⟨s1.heap.objs.size + 1, [s1.heap.objs.size + 1, s1.heap.objs.size], _, _, H1, rfl, I2, turn_enumT a (s1.heap.objs.size + 1) s1.heap.objs.size, ⟨⟨.none, he⟩, ⟨_, hit, rfl, rfl⟩, Nat.succ_ne_self _, Nat.ne_of_gt (Nat.lt_succ_of_lt hal), Nat.ne_of_lt hal⟩, fun b hb => ?_, q⟩
    have hle := nb b (by simpa using hb)
    exact I1.fpOk hle (I1.hok.fresh hle)
theorem si_enum {e : Expr} {elts : List Expr} {kk : Nat} {tpos : Pos} {ie : IE} {p pos : Pos} {k : Nat} {gl : List Str} (hX : XOk X k L gl G) (hg : Gl X "enumerate") (hp : plainE e = true) (h : SE L G X e ie) : SI L G X (.Tuple elts kk tpos) (.Call (.Name "enumerate" p) [e] [] pos) (.enum ie) := by
  intro σ H g env st xs st' R hE hS hev hR
  rw [evI] at hev
  (replace hev := bindS hev); obtain ⟨⟨d, st1⟩, e1, hev⟩ := hev
  (replace hev := bindS hev); obtain ⟨ys, e2, hev⟩ := hev
  cases hev
  refine le_I (pi_enumA hg (hX.bs _ (by decide)) (pa_cons pe_wp pa_nil (star_cons hp)) (star_cons hp)) ?_
  refine h σ H g env st _ _ _ hE hS e1 fun v H1 g1 x1 s1 r1 _ => ?_
  unfold enD at e2
  split at e2
  · rename_i hd
    simp only at hd
    cases e2
    subst hd
    rw [RelD] at r1
    obtain ⟨a, vs, rfl, ha, hr⟩ := r1
    exact ⟨a, vs, rfl, .inl ⟨ha.elim (fun q => .inl q.1) .inr, hR _ H1 g1 x1 s1 (walk_enum ha hr)⟩⟩
  · rename_i hd
    simp only at hd
    cases e2
    subst hd
    rw [RelD] at r1
    obtain ⟨a, vs, rfl, ha, hr⟩ := r1
    exact ⟨a, vs, rfl, .inr ⟨ha.elim (fun q => .inl q.1) .inr, hR _ H1 g1 x1 s1 (walk_enumT ha hr)⟩⟩
  · cases e2
theorem zipL_get : ∀ {xs ys : List D} {i : Nat} {d : D}, (zipL xs ys)[i]? = some d → ∃ x y, xs[i]? = some x ∧ ys[i]? = some y ∧ d = .tup [x, y]
  | [], ys, i, d, h => by simp [zipL] at h
  | _ :: _, [], i, d, h => by simp [zipL] at h
  | x :: xs, y :: ys, 0, d, h => by
    simp [zipL] at h
    exact ⟨x, y, rfl, rfl, h.symm⟩
  | x :: xs, y :: ys, i + 1, d, h => by
    rw [zipL, List.getElem?_cons_succ] at h
    obtain ⟨u, v, h1, h2, h3⟩ := zipL_get h
    exact ⟨u, v, by simpa using h1, by simpa using h2, h3⟩
theorem zipL_len : ∀ {xs ys : List D}, (zipL xs ys).length = min xs.length ys.length
  | [], ys => by simp [zipL]
  | _ :: _, [] => by simp [zipL]
  | x :: xs, y :: ys => by
    rw [zipL, List.length_cons, zipL_len, List.length_cons, List.length_cons]
    omega
theorem walk_zipL {K : PySem.W.Frag} {w : World} {g0 : Gh} {H0 : Hp} {a b : Addr} {xs ys : List D} {vs us : List V} (h : (Rd H0 a (.lst vs) ∧ ¬ g0.Z a) ∨ KLst K a vs) (h' : (Rd H0 b (.lst us) ∧ ¬ g0.Z b) ∨ KLst K b us) (r : RelDs K w g0 H0 xs vs) (r' : RelDs K w g0 H0 ys us) : Walk K w g0 H0 (Itz K a b) (zipL xs ys) := by
  intro g H st e S
  have h1 : SqL K H a vs := h.elim (fun q => .inl (e.rd q.1 q.2).1) .inr
  have h2 : SqL K H b us := h'.elim (fun q => .inl (e.rd q.1 q.2).1) .inr
  refine ⟨fun i d hd => ?_, fun i hi => ⟨vs, us, h1, h2, by rw [← r.length, ← r'.length]; rw [zipL_len] at hi; omega⟩⟩
  obtain ⟨x, y, hx, hy, rfl⟩ := zipL_get hd
  obtain ⟨v, hv, rv⟩ := r.get hx
  obtain ⟨u, hu, ru⟩ := r'.get hy
  refine ⟨⟨vs, us, v, u, h1, h2, hv, hu⟩, fun z H' hz => ?_⟩
  obtain ⟨T, v', u', rfl, hT, rfl, f1, f2⟩ := hz
  have q1 := f1 vs h1
  have q2 := f2 us h2
  rw [hv] at q1
  rw [hu] at q2
  cases q1
  cases q2
  have e2 := ext_new (o := .tup [v, u]) hT (S.nZ hT)
  refine ⟨e2, S.new hT, ?_⟩
  rw [RelD]
  exact ⟨T, _, rfl, .inl ⟨.inl upd_same, S.nZ hT⟩, RelDs.cons ((RelD.ext0 e rv).ext e2) (RelDs.cons ((RelD.ext0 e ru).ext e2) RelDs.nil)⟩
theorem walk_zipT {K : PySem.W.Frag} {w : World} {g0 : Gh} {H0 : Hp} {a b : Addr} {xs ys : List D} {vs us : List V} (h : (Rd H0 a (.tup vs) ∧ ¬ g0.Z a) ∨ KTup K a vs) (h' : (Rd H0 b (.tup us) ∧ ¬ g0.Z b) ∨ KTup K b us) (r : RelDs K w g0 H0 xs vs) (r' : RelDs K w g0 H0 ys us) : Walk K w g0 H0 (RZ.ItzT K a b) (zipL xs ys) := by
  intro g H st e S
  have h1 : SqT K H a vs := h.elim (fun q => .inl (e.rd q.1 q.2).1) .inr
  have h2 : SqT K H b us := h'.elim (fun q => .inl (e.rd q.1 q.2).1) .inr
  refine ⟨fun i d hd => ?_, fun i hi => ⟨vs, us, h1, h2, by rw [← r.length, ← r'.length]; rw [zipL_len] at hi; omega⟩⟩
  obtain ⟨x, y, hx, hy, rfl⟩ := zipL_get hd
  obtain ⟨v, hv, rv⟩ := r.get hx
  obtain ⟨u, hu, ru⟩ := r'.get hy
  refine ⟨⟨vs, us, v, u, h1, h2, hv, hu⟩, fun z H' hz => ?_⟩
  obtain ⟨T, v', u', rfl, hT, rfl, f1, f2⟩ := hz
  have q1 := f1 vs h1
  have q2 := f2 us h2
  rw [hv] at q1
  rw [hu] at q2
  cases q1
  cases q2
  have e2 := ext_new (o := .tup [v, u]) hT (S.nZ hT)
  refine ⟨e2, S.new hT, ?_⟩
  rw [RelD]
  exact ⟨T, _, rfl, .inl ⟨.inl upd_same, S.nZ hT⟩, RelDs.cons ((RelD.ext0 e rv).ext e2) (RelDs.cons ((RelD.ext0 e ru).ext e2) RelDs.nil)⟩
theorem si_zip {e e2 : Expr} {elts : List Expr} {kk : Nat} {tpos : Pos} {ia ib : IE} {p pos : Pos} {k : Nat} {gl : List Str} (hX : XOk X k L gl G) (hg : Gl X "zip") (hp : plainE e = true) (hp2 : plainE e2 = true) (h : SE L G X e ia) (h2 : SE L G X e2 ib) : SI L G X (.Tuple elts kk tpos) (.Call (.Name "zip" p) [e, e2] [] pos) (.zip ia ib) := by
  intro σ H g env st xs st' R hE hS hev hR
  rw [evI] at hev
  (replace hev := bindS hev); obtain ⟨⟨d, st1⟩, e1, hev⟩ := hev
  (replace hev := bindS hev); obtain ⟨⟨d2, st2⟩, e3, hev⟩ := hev
  have go : ∀ {J : Prop}, J → J := fun j => j
  split at hev
  · rename_i ys zs hd hd2
    cases hev
    simp only at hd hd2
    subst hd hd2
    refine le_I (RZ.pi_zipA hg (hX.bs _ (by decide)) (pa_cons pe_wp (pa_cons pe_wp pa_nil (star_cons hp2)) (star_cons hp)) (star_cons hp) (by rw [star_cons hp2]; rfl)) ?_
    refine h σ H g env st _ _ _ hE hS e1 fun v H1 g1 x1 s1 r1 _ => ?_
    refine h2 σ H1 g1 env _ _ _ _ (hE.ext x1) s1 e3 fun v2 H2 g2 x2 s2 r2 _ => ?_
    have r1 := r1.ext x2
    rw [RelD] at r1 r2
    obtain ⟨a, vs, rfl, ha, hr⟩ := r1
    obtain ⟨b, us, rfl, hb, hr'⟩ := r2
    exact ⟨a, b, vs, us, rfl, .inl ⟨ha.elim (fun q => .inl q.1) .inr, hb.elim (fun q => .inl q.1) .inr, hR _ H2 g2 (x1.trans x2) s2 (walk_zipL ha hb hr hr')⟩⟩
  · rename_i ys zs hd hd2
    cases hev
    simp only at hd hd2
    subst hd hd2
    refine le_I (RZ.pi_zipA hg (hX.bs _ (by decide)) (pa_cons pe_wp (pa_cons pe_wp pa_nil (star_cons hp2)) (star_cons hp)) (star_cons hp) (by rw [star_cons hp2]; rfl)) ?_
    refine h σ H g env st _ _ _ hE hS e1 fun v H1 g1 x1 s1 r1 _ => ?_
    refine h2 σ H1 g1 env _ _ _ _ (hE.ext x1) s1 e3 fun v2 H2 g2 x2 s2 r2 _ => ?_
    have r1 := r1.ext x2
    rw [RelD] at r1 r2
    obtain ⟨a, vs, rfl, ha, hr⟩ := r1
    obtain ⟨b, us, rfl, hb, hr'⟩ := r2
    exact ⟨a, b, vs, us, rfl, .inr ⟨ha.elim (fun q => .inl q.1) .inr, hb.elim (fun q => .inl q.1) .inr, hR _ H2 g2 (x1.trans x2) s2 (walk_zipT ha hb hr hr')⟩⟩
  · cases hev
end
/-! ### comprehensions -/
/-- a new list that grows: not data yet -/
def Gh.add (g : Gh) (p : Addr) : Gh := ⟨fun a => g.Z a ∨ a = p, g.ρ⟩
def Gh.sub (g : Gh) (p : Addr) : Gh := ⟨fun a => g.Z a ∧ a ≠ p, g.ρ⟩
section
variable {K : PySem.W.Frag} {w : World} {g0 : Gh} {H0 : Hp}
theorem ext_sub {g : Gh} {H : Hp} {p : Addr} : Ext0 g H (g.sub p) H := ⟨fun a o z h => ⟨h, fun q => z q.1⟩, Nat.le_refl _, fun _ _ _ h => h⟩
/-- where a growing list p stands behind (g0, H0) -/
structure Gr (K : PySem.W.Frag) (w : World) (g0 : Gh) (H0 : Hp) (p : Addr) (g : Gh) (H : Hp) (st : DSt) (ds : List D) (vs : List V) : Prop where
  ext : Ext g0 H0 g H
  ok : StOk K w g H st
  z : g.Z p
  nr : ∀ k : Nat, g.ρ[k]? ≠ some (some p)
  at_ : H p = some (.lst vs)
  rel : RelDs K w g H ds vs
theorem gr_start {st : DSt} (S : StOk K w g0 H0 st) {p : Addr} (hp : H0 p = none) : Gr K w g0 H0 p (g0.add p) (upd H0 p (.lst [])) st [] [] := by
  have nz := S.nZ hp
  have nr : ∀ k : Nat, g0.ρ[k]? ≠ some (some p) := fun k h => nz (S.inZ k p h)
  have e : Ext g0 H0 (g0.add p) (upd H0 p (.lst [])) := ⟨fun a u z h => ⟨by rw [upd_ne (ne_of_none h hp)]; exact h, fun q => q.elim z fun q => ne_of_none h hp q⟩, fun a z n => ⟨by rw [upd_ne (show a ≠ p from fun q => nz (q ▸ z))], .inl z, n⟩, fun a h => by
    by_cases ha : a = p
    · subst ha
      rw [upd_same]
      simp
    · rw [upd_ne ha]
      exact h, Nat.le_refl _, fun _ _ _ h => h⟩
  refine ⟨e, S.mv e.e0 rfl (fun k a h => .inl (S.inZ k a h)) (fun a z => ?_) (fun n a h => upd_ne (show a ≠ p from fun q => nr n (q ▸ h))), .inr rfl, nr, upd_same, RelDs.nil⟩
  rcases z with z | rfl
  · exact e.trk a (S.trk a z)
  · rw [upd_same]
    simp
/-- a turn's evaluations -/
theorem Gr.go {p : Addr} {g g' : Gh} {H H' : Hp} {st st' : DSt} {ds : List D} {vs : List V} (r : Gr K w g0 H0 p g H st ds vs) (e : Ext g H g' H') (s : StOk K w g' H' st') : Gr K w g0 H0 p g' H' st' ds vs := by
  obtain ⟨h1, h2, h3⟩ := e.pend p r.z r.nr
  exact ⟨r.ext.trans e, s, h2, h3, h1.trans r.at_, r.rel.ext e⟩
/-- an item comes -/
theorem Gr.push {p : Addr} {g : Gh} {H : Hp} {st : DSt} {ds : List D} {vs : List V} {d : D} {v : V} (nz : ¬ g0.Z p) (hp : H0 p = none) (r : Gr K w g0 H0 p g H st ds vs) (h : RelD K w g H d v) : Gr K w g0 H0 p g (upd H p (.lst (vs ++ [v]))) st (ds ++ [d]) (vs ++ [v]) := by
  have e0 : Ext0 g H g (upd H p (.lst (vs ++ [v]))) := ⟨fun a u z q => ⟨by rw [upd_ne (show a ≠ p from fun e => z (e ▸ r.z))]; exact q, z⟩, Nat.le_refl _, fun _ _ _ q => q⟩
  refine ⟨⟨fun a u z q => ?_, fun a z n => ?_, fun a q => ?_, r.ext.len, r.ext.refs⟩, r.ok.mv e0 rfl r.ok.inZ (fun a z => ?_) (fun n a q => upd_ne (show a ≠ p from fun e => r.nr n (e ▸ q))), r.z, r.nr, upd_same, (RelDs.ext0 e0 r.rel).append (RelDs.cons (RelD.ext0 e0 h) RelDs.nil)⟩
  · obtain ⟨h1, h2⟩ := r.ext.keep a u z q
    exact ⟨by rw [upd_ne (show a ≠ p from fun e => h2 (e ▸ r.z))]; exact h1, h2⟩
  · obtain ⟨h1, h2, h3⟩ := r.ext.pend a z n
    exact ⟨by rw [upd_ne (show a ≠ p from fun e => nz (e ▸ z))]; exact h1, h2, h3⟩
  · rw [upd_ne (show a ≠ p from fun e => q (e ▸ hp))]
    exact r.ext.trk a q
  · by_cases ha : a = p
    · subst ha
      rw [upd_same]
      simp
    · rw [upd_ne ha]
      exact r.ok.trk a z
/-- the list is data now -/
theorem Gr.fin {p : Addr} {g : Gh} {H : Hp} {st : DSt} {ds : List D} {vs : List V} (nz : ¬ g0.Z p) (hp : H0 p = none) (r : Gr K w g0 H0 p g H st ds vs) {Q : VK} {b : Bool} (P : Post K w b g0 H0 st (.lst ds) Q) : Q (.ref p) H := by
  have e0 := ext_sub (g := g) (H := H) (p := p)
  refine P (.ref p) H (g.sub p) ⟨fun a u z q => ?_, fun a z n => ?_, r.ext.trk, r.ext.len, r.ext.refs⟩ (r.ok.mv e0 rfl (fun k a h => ⟨r.ok.inZ k a h, fun e => r.nr k (e ▸ h)⟩) (fun a z => r.ok.trk a z.1) fun _ _ _ => rfl) ?_ fun _ => ⟨fun ds' e => ?_, fun kvs e => by cases e⟩
  · obtain ⟨h1, h2⟩ := r.ext.keep a u z q
    exact ⟨h1, fun q => h2 q.1⟩
  · obtain ⟨h1, h2, h3⟩ := r.ext.pend a z n
    exact ⟨h1, ⟨h2, fun e => nz (e ▸ z)⟩, h3⟩
  · rw [RelD]
    exact ⟨p, vs, rfl, .inl ⟨.inl r.at_, fun q => q.2 rfl⟩, RelDs.ext0 e0 r.rel⟩
  · cases e
    have e1 : Ext0 g H ⟨fun a => (g.sub p).Z a ∨ a = p, (g.sub p).ρ⟩ H := ⟨fun a o z h => ⟨h, fun q => z (q.elim (fun q => q.1) fun q => q ▸ r.z)⟩, Nat.le_refl _, fun _ _ _ h => h⟩
    exact ⟨p, vs, rfl, hp, fun q => q.2 rfl, r.at_, RelDs.ext0 e1 r.rel, r.ok.mv e1 rfl (fun k a h => .inl ⟨r.ok.inZ k a h, fun e => r.nr k (e ▸ h)⟩) (fun a z => z.elim (fun z => r.ok.trk a z.1) fun q => by rw [q, r.at_]; simp) fun _ _ _ => rfl⟩
end
end Py

set_option Elab.async false
set_option linter.all false
set_option maxRecDepth 100000
set_option autoImplicit false
set_option maxHeartbeats 2000000
namespace Py
open PySem PySem.Spec L2
/-! ### two tuples side by side, numbered -/
/-- a zip, whatever became of its pair -/
def ZipG (h : Heap) (z TI TO : Addr) : Prop := ∃ (f0 : Value) (f : Bool), (f0 = .none ∨ ∃ T : Nat, f0 = rawInt (T : Int)) ∧ h.get? z = some { cls := .type "zip", dict := none, data := .fields #[f0, .bool f, .bool false, .ref TI, .ref TO], slots := #[] }
section
variable {prog : Program} {w : World} {A : Around} {E : Value → Shared → Prop} {s : Shared}
theorem ZipG.ext {h h' : Heap} {z TI TO : Addr} (g : ZipG h z TI TO) (k : ∀ o, h.get? z = some o → h'.get? z = some o) : ZipG h' z TI TO := let ⟨f0, f, a, b⟩ := g; ⟨f0, f, a, k _ b⟩
theorem ZipG.lt {h : Heap} {z TI TO : Addr} (g : ZipG h z TI TO) : z < h.objs.size := let ⟨_, _, _, b⟩ := g; Heap.lt_size b
theorem alive_any {a : Addr} {Q : Option Obj → Shared → Prop} (h : Q (s.heap.get? a) s) : wpAny (model prog w) A (loadIfAlive a) Q E s := fun _ _ _ => h
/-- is the pair free? -/
theorem zipG_free {z TI TO : Addr} {Q : Bool → Shared → Prop} (hz : ZipG s.heap z TI TO) (h1 : Q true s) (h2 : ∀ h', ZipG h' z TI TO → Heap.SameBut z s.heap h' → Q false { s with heap := h' }) :
    wpAny (model prog w) A (Builtin.SmallTypes.ownedTupleIsFree (.ref z)) Q E s := by
  obtain ⟨f0, f, hf, hz⟩ := hz
  unfold Builtin.SmallTypes.ownedTupleIsFree
  rcases hf with rfl | ⟨T, rfl⟩
  · exact wpAny_bind (wpAny_field hz rfl (x := .none) rfl (wpAny_pure h1))
  · refine wpAny_bind (wpAny_field hz rfl (x := rawInt T) rfl ?_)
    show wpAny _ _ (loadIfAlive ((T : Int).toNat) >>= _) _ _ _
    rw [Int.toNat_natCast]
    refine wpAny_bind (alive_any ?_)
    cases hT : s.heap.get? T with
    | none =>
      simp only [Option.isNone_none, if_true]
      exact wpAny_pure h1
    | some oT =>
      simp only [Option.isNone_some, Bool.false_eq_true, if_false]
      refine wpAny_bind (wpAny_field hz rfl (x := .bool f) rfl ?_)
      cases f with
      | true =>
        rw [if_neg (show ¬ ((Value.bool true != Value.bool true) = true) from Bool.false_ne_true)]
        exact wpAny_pure (h2 s.heap ⟨_, _, .inr ⟨T, rfl⟩, hz⟩ (Heap.SameBut.refl _ _))
      | false =>
        rw [if_pos (show (Value.bool false != Value.bool true) = true from rfl)]
        exact wpAny_bind (wpAny_setField_rec hz (by simp) fun h₁ hz₁ hs₁ => wpAny_pure (h2 h₁ ⟨_, _, .inr ⟨T, rfl⟩, hz₁⟩ hs₁))
theorem zipG_next_item {z TI TO i1 i2 l1 l2 : Addr} {k1 k2 : Nat} {xs ys : Array Value} {x y a b : Value} {Q : Value → Shared → Prop} (D : ZipApart z TI TO i1 i2 l1 l2)
    (hz : ZipG s.heap z TI TO) (hTI : IsPair s.heap TI (.ref i1) (.ref i2)) (hTO : IsPair s.heap TO a b)
    (h1 : s.heap.IsTupleIter i1 l1 k1) (h2 : s.heap.IsTupleIter i2 l2 k2) (hl1 : s.heap.IsTuple l1 xs) (hl2 : s.heap.IsTuple l2 ys) (hx : xs[k1]? = some x) (hy : ys[k2]? = some y)
    (hQ : ∀ h', ZipG h' z TI TO → (∃ a b, IsPair h' TO a b) → h'.IsTupleIter i1 l1 (k1 + 1) → h'.IsTupleIter i2 l2 (k2 + 1) → IsPair h' s.heap.objs.size x y → h'.objs.size = s.heap.objs.size + 1 →
      (∀ c o, c ≠ z → c ≠ TO → c ≠ i1 → c ≠ i2 → s.heap.get? c = some o → h'.get? c = some o) → Q (.ref s.heap.objs.size) { s with heap := h' }) :
    wpAny (model prog w) A (Builtin.«zip.__next__» ⟨[.ref z], []⟩) (fun fin s' => ∃ v, fin = .done (.ret v) ∧ Q v s') E s := by
  have hzl := hz.lt
  have hz' := hz
  obtain ⟨f0, f, hf, hzr⟩ := hz'
  show wpAny _ _ (field (.ref z) 2 >>= _) _ _ _
  refine wpAny_bind (wpAny_field hzr rfl (x := .bool false) rfl ?_)
  show wpAny _ _ (field (.ref z) 3 >>= _) _ _ _
  refine wpAny_bind (wpAny_field hzr rfl (x := .ref TI) rfl ?_)
  refine wpAny_bind (wpAny_seqItems hTI rfl ?_)
  show wpAny _ _ (Builtin.SmallTypes.ownedTupleIsFree (.ref z) >>= _) _ _ _
  refine wpAny_bind (zipG_free hz ?_ fun h₁ hz₁ hs₁ => ?_)
  · simp only [if_true]
    refine wpAny_bind (wpAny_rule ?_)
    refine wpAny_bind (wpAny_field hzr rfl (x := .ref TO) rfl ?_)
    refine wpAny_bind (wpAny_setField_rec hzr (by simp) fun h₁ hz₁ hs₁ => ?_)
    replace hz₁ : h₁.get? z = some { cls := .type "zip", dict := none, data := .fields #[.ellipsis, .bool f, .bool false, .ref TI, .ref TO], slots := #[] } := hz₁
    refine wpAny_bind ?_
    simp only [List.zipIdx_cons, List.zipIdx_nil, List.forIn_cons, List.forIn_nil]
    refine wpAny_bind (wpAny_bind (wpAny_onRaise ?_))
    show wpAny _ _ (Builtin.SmallTypes.nextOf (.ref i1) >>= _) _ _ _
    refine wpAny_bind (RZ.nextOf_tuple_item (h1.extBut hs₁.extBut D.i1z) (hl1.extBut hs₁.extBut D.l1z) hx fun h₂ h1₂ hs₂ => wpAny_pure ?_)
    have hTO₂ : IsPair h₂ TO a b := hs₂.extBut _ _ D.TOi1 (hs₁.extBut _ _ D.TOz hTO)
    refine wpAny_bind (wpAny_seqItems hTO₂ rfl ?_)
    refine wpAny_bind (wpAny_updateSeq_pair hTO₂ fun h₃ hTO₃ hs₃ => ?_)
    replace hTO₃ : IsPair h₃ TO x b := hTO₃
    refine wpAny_bind (wpAny_letGo (wpAny_pure ?_))
    refine wpAny_bind (wpAny_bind (wpAny_onRaise ?_))
    show wpAny _ _ (Builtin.SmallTypes.nextOf (.ref i2) >>= _) _ _ _
    refine wpAny_bind (RZ.nextOf_tuple_item (((h2.extBut hs₁.extBut D.i2z).extBut hs₂.extBut D.i12.symm).extBut hs₃.extBut D.TOi2.symm)
      (((hl2.extBut hs₁.extBut D.l2z).extBut hs₂.extBut D.l2i1).extBut hs₃.extBut D.l2TO) hy fun h₄ h2₄ hs₄ => wpAny_pure ?_)
    have hTO₄ : IsPair h₄ TO x b := hs₄.extBut _ _ D.TOi2 hTO₃
    refine wpAny_bind (wpAny_seqItems hTO₄ rfl ?_)
    refine wpAny_bind (wpAny_updateSeq_pair hTO₄ fun h₅ hTO₅ hs₅ => ?_)
    replace hTO₅ : IsPair h₅ TO x y := hTO₅
    refine wpAny_bind (wpAny_letGo (wpAny_pure (wpAny_pure ?_)))
    refine wpAny_bind (wpAny_seqItems hTO₅ rfl ?_)
    refine wpAny_bind (wpAny_newTuple ?_)
    have hsz : h₅.objs.size = s.heap.objs.size := by rw [hs₅.1, hs₄.1, hs₃.1, hs₂.1, hs₁.1]
    have hz₅ : h₅.get? z = some { cls := .type "zip", dict := none, data := .fields #[.ellipsis, .bool f, .bool false, .ref TI, .ref TO], slots := #[] } := hs₅.extBut _ _ D.TOz.symm (hs₄.extBut _ _ D.i2z.symm (hs₃.extBut _ _ D.TOz.symm (hs₂.extBut _ _ D.i1z.symm hz₁)))
    have hk₅ : ∀ c o, c ≠ z → c ≠ TO → c ≠ i1 → c ≠ i2 → s.heap.get? c = some o → h₅.get? c = some o := fun c o c1 c2 c3 c4 e =>
      hs₅.extBut _ _ c2 (hs₄.extBut _ _ c4 (hs₃.extBut _ _ c2 (hs₂.extBut _ _ c3 (hs₁.extBut _ _ c1 e))))
    have h1₅ : h₅.IsTupleIter i1 l1 (k1 + 1) := ((h1₂.extBut hs₃.extBut D.TOi1.symm).extBut hs₄.extBut D.i12).extBut hs₅.extBut D.TOi1.symm
    have h2₅ : h₅.IsTupleIter i2 l2 (k2 + 1) := h2₄.extBut hs₅.extBut D.TOi2.symm
    have hzlt : z < h₅.objs.size := Heap.lt_size hz₅
    show wpAny _ _ (Builtin.SmallTypes.ownedTupleHandOut (.ref z) (.ref h₅.objs.size) >>= _) _ _ _
    refine wpAny_bind ?_
    unfold Builtin.SmallTypes.ownedTupleHandOut
    have hz₆ : (h₅.push { cls := .type "tuple", data := .seq #[x, y] }).get? z = some { cls := .type "zip", dict := none, data := .fields #[.ellipsis, .bool f, .bool false, .ref TI, .ref TO], slots := #[] } := Heap.get?_push_of_some _ hz₅
    refine wpAny_bind (wpAny_setField_rec hz₆ (by simp) fun h₇ hz₇ hs₇ => ?_)
    refine wpAny_setField_rec hz₇ (by simp) fun h₈ hz₈ hs₈ => ?_
    have up : ∀ c o, c ≠ z → h₅.get? c = some o → h₈.get? c = some o := fun c o c1 e => hs₈.extBut _ _ c1 (hs₇.extBut _ _ c1 (Heap.get?_push_of_some _ e))
    have hT₈ : IsPair h₈ h₅.objs.size x y := hs₈.extBut _ _ (Nat.ne_of_gt hzlt) (hs₇.extBut _ _ (Nat.ne_of_gt hzlt) (Heap.get?_push_size _ rfl))
    have hz8 : h₈.objs.size = h₅.objs.size + 1 := by rw [hs₈.1, hs₇.1, Heap.size_push]
    have hzg : ZipG h₈ z TI TO := ⟨rawInt (h₅.objs.size : Nat), false, .inr ⟨_, rfl⟩, hz₈⟩
    rw [hsz] at hT₈ hz8
    refine wpAny_pure ⟨_, rfl, ?_⟩
    show Q (.ref h₅.objs.size) _
    rw [hsz]
    exact hQ h₈ hzg ⟨_, _, up _ _ D.TOz hTO₅⟩ (h1₅.at fun o e => up _ o D.i1z e) (h2₅.at fun o e => up _ o D.i2z e) hT₈ hz8 fun c o c1 c2 c3 c4 e => up c o c1 (hk₅ c o c1 c2 c3 c4 e)
  · simp only [Bool.false_eq_true, if_false]
    refine wpAny_bind ?_
    rw [← Array.forIn_toList]
    simp only [List.forIn_cons, List.forIn_nil]
    refine wpAny_bind (wpAny_bind (wpAny_holding ?_))
    show wpAny _ _ (Builtin.SmallTypes.nextOf (.ref i1) >>= _) _ _ _
    refine wpAny_bind (RZ.nextOf_tuple_item (s := { s with heap := h₁ }) (h1.extBut hs₁.extBut D.i1z) (hl1.extBut hs₁.extBut D.l1z) hx fun h₂ h1₂ hs₂ => wpAny_pure ?_)
    refine wpAny_pure ?_
    refine wpAny_bind (wpAny_bind (wpAny_holding ?_))
    show wpAny _ _ (Builtin.SmallTypes.nextOf (.ref i2) >>= _) _ _ _
    refine wpAny_bind (RZ.nextOf_tuple_item (s := { s with heap := h₂ }) ((h2.extBut hs₁.extBut D.i2z).extBut hs₂.extBut D.i12.symm) ((hl2.extBut hs₁.extBut D.l2z).extBut hs₂.extBut D.l2i1) hy fun h₃ h2₃ hs₃ => wpAny_pure ?_)
    refine wpAny_pure (wpAny_pure ?_)
    show wpAny _ _ (newTuple [x, y] >>= _) _ _ _
    refine wpAny_bind (wpAny_newTuple ?_)
    have hsz : h₃.objs.size = s.heap.objs.size := by rw [hs₃.1, hs₂.1, hs₁.1]
    have hz₃ : ZipG h₃ z TI TO := hz₁.ext fun o e => hs₃.extBut _ _ D.i2z.symm (hs₂.extBut _ _ D.i1z.symm e)
    have hk : ∀ c o, c ≠ z → c ≠ i1 → c ≠ i2 → s.heap.get? c = some o → h₃.get? c = some o := fun c o c1 c2 c3 e => hs₃.extBut _ _ c3 (hs₂.extBut _ _ c2 (hs₁.extBut _ _ c1 e))
    have h1₃ : h₃.IsTupleIter i1 l1 (k1 + 1) := h1₂.extBut hs₃.extBut D.i12
    refine wpAny_pure ⟨_, rfl, ?_⟩
    show Q (.ref h₃.objs.size) _
    have hp : IsPair (h₃.push { cls := .type "tuple", data := .seq #[x, y] }) h₃.objs.size x y := Heap.get?_push_size _ rfl
    have hz4 : (h₃.push { cls := .type "tuple", data := .seq #[x, y] }).objs.size = h₃.objs.size + 1 := Heap.size_push ..
    rw [hsz] at hp hz4 ⊢
    exact hQ _ (hz₃.ext fun o e => Heap.get?_push_of_some _ e) ⟨a, b, Heap.get?_push_of_some _ (hk _ _ D.TOz D.TOi1 D.TOi2 hTO)⟩ (h1₃.at fun o e => Heap.get?_push_of_some _ e) (h2₃.at fun o e => Heap.get?_push_of_some _ e) hp hz4 fun c o c1 _ c2 c3 e => Heap.get?_push_of_some _ (hk c o c1 c2 c3 e)
theorem zipG_next_end {z TI TO i1 i2 l1 l2 : Addr} {k1 k2 : Nat} {xs ys : Array Value} {a b : Value} {Q : Fin → Shared → Prop} (hh : A.handled = none) (D : ZipApart z TI TO i1 i2 l1 l2)
    (hz : ZipG s.heap z TI TO) (hTI : IsPair s.heap TI (.ref i1) (.ref i2)) (hTO : IsPair s.heap TO a b)
    (h1 : s.heap.IsTupleIter i1 l1 k1) (h2 : s.heap.IsTupleIter i2 l2 k2) (hl1 : s.heap.IsTuple l1 xs) (hl2 : s.heap.IsTuple l2 ys) (hend : xs[k1]? = none ∨ ys[k2]? = none)
    (hE : ∀ h' e, (∀ c o, c ≠ z → c ≠ TO → c ≠ i1 → c ≠ i2 → s.heap.get? c = some o → h'.get? c = some o) → (∃ o, h'.get? e = some o ∧ o.cls = .type "StopIteration") → E (.ref e) { s with heap := h' }) :
    wpAny (model prog w) A (Builtin.«zip.__next__» ⟨[.ref z], []⟩) Q E s := by
  have hz' := hz
  obtain ⟨f0, f, hf, hzr⟩ := hz'
  show wpAny _ _ (field (.ref z) 2 >>= _) _ _ _
  refine wpAny_bind (wpAny_field hzr rfl (x := .bool false) rfl ?_)
  show wpAny _ _ (field (.ref z) 3 >>= _) _ _ _
  refine wpAny_bind (wpAny_field hzr rfl (x := .ref TI) rfl ?_)
  refine wpAny_bind (wpAny_seqItems hTI rfl ?_)
  show wpAny _ _ (Builtin.SmallTypes.ownedTupleIsFree (.ref z) >>= _) _ _ _
  refine wpAny_bind (zipG_free hz ?_ fun h₁ hz₁ hs₁ => ?_)
  · simp only [if_true]
    refine wpAny_bind (wpAny_rule ?_)
    refine wpAny_bind (wpAny_field hzr rfl (x := .ref TO) rfl ?_)
    refine wpAny_bind (wpAny_setField_rec hzr (by simp) fun h₁ hz₁ hs₁ => ?_)
    replace hz₁ : h₁.get? z = some { cls := .type "zip", dict := none, data := .fields #[.ellipsis, .bool f, .bool false, .ref TI, .ref TO], slots := #[] } := hz₁
    refine wpAny_bind ?_
    simp only [List.zipIdx_cons, List.zipIdx_nil, List.forIn_cons, List.forIn_nil]
    refine wpAny_bind (wpAny_bind (wpAny_onRaise ?_))
    show wpAny _ _ (Builtin.SmallTypes.nextOf (.ref i1) >>= _) _ _ _
    cases hx : xs[k1]? with
    | none =>
      refine wpAny_bind (RZ.nextOf_tuple_end hh (h1.extBut hs₁.extBut D.i1z) (hl1.extBut hs₁.extBut D.l1z) hx fun h₂ e hs₂ he => ?_)
      obtain ⟨oe, hoe, hce⟩ := he
      have hz₂ := hs₂ _ _ D.i1z.symm hz₁
      have hez : e ≠ z := fun x => by subst x; rw [hz₂] at hoe; cases hoe; simp at hce
      refine wpAny_setField_rec hz₂ (by simp) fun h₃ _ hs₃ => hE h₃ e (fun c o c1 _ c3 _ x => hs₃.extBut _ _ c1 (hs₂ _ _ c3 (hs₁.extBut _ _ c1 x))) ⟨oe, hs₃.extBut _ _ hez hoe, hce⟩
    | some x =>
      have hy : ys[k2]? = none := by rcases hend with h | h; rw [hx] at h; cases h; exact h
      refine wpAny_bind (RZ.nextOf_tuple_item (h1.extBut hs₁.extBut D.i1z) (hl1.extBut hs₁.extBut D.l1z) hx fun h₂ h1₂ hs₂ => wpAny_pure ?_)
      have hTO₂ : IsPair h₂ TO a b := hs₂.extBut _ _ D.TOi1 (hs₁.extBut _ _ D.TOz hTO)
      refine wpAny_bind (wpAny_seqItems hTO₂ rfl ?_)
      refine wpAny_bind (wpAny_updateSeq_pair hTO₂ fun h₃ hTO₃ hs₃ => ?_)
      refine wpAny_bind (wpAny_letGo (wpAny_pure ?_))
      refine wpAny_bind (wpAny_bind (wpAny_onRaise ?_))
      show wpAny _ _ (Builtin.SmallTypes.nextOf (.ref i2) >>= _) _ _ _
      refine wpAny_bind (RZ.nextOf_tuple_end hh (((h2.extBut hs₁.extBut D.i2z).extBut hs₂.extBut D.i12.symm).extBut hs₃.extBut D.TOi2.symm)
        (((hl2.extBut hs₁.extBut D.l2z).extBut hs₂.extBut D.l2i1).extBut hs₃.extBut D.l2TO) hy fun h₄ e hs₄ he => ?_)
      obtain ⟨oe, hoe, hce⟩ := he
      have hz₄ := hs₄ _ _ D.i2z.symm (hs₃.extBut _ _ D.TOz.symm (hs₂.extBut _ _ D.i1z.symm hz₁))
      have hez : e ≠ z := fun x => by subst x; rw [hz₄] at hoe; cases hoe; simp at hce
      refine wpAny_setField_rec hz₄ (by simp) fun h₅ _ hs₅ => hE h₅ e (fun c o c1 c2 c3 c4 x => hs₅.extBut _ _ c1 (hs₄ _ _ c4 (hs₃.extBut _ _ c2 (hs₂.extBut _ _ c3 (hs₁.extBut _ _ c1 x))))) ⟨oe, hs₅.extBut _ _ hez hoe, hce⟩
  · simp only [Bool.false_eq_true, if_false]
    refine wpAny_bind ?_
    rw [← Array.forIn_toList]
    simp only [List.forIn_cons, List.forIn_nil]
    refine wpAny_bind (wpAny_bind (wpAny_holding ?_))
    show wpAny _ _ (Builtin.SmallTypes.nextOf (.ref i1) >>= _) _ _ _
    cases hx : xs[k1]? with
    | none =>
      refine wpAny_bind (RZ.nextOf_tuple_end (s := { s with heap := h₁ }) hh (h1.extBut hs₁.extBut D.i1z) (hl1.extBut hs₁.extBut D.l1z) hx fun h₂ e hs₂ he => ?_)
      exact hE h₂ e (fun c o c1 _ c3 _ x => hs₂ _ _ c3 (hs₁.extBut _ _ c1 x)) he
    | some x =>
      have hy : ys[k2]? = none := by rcases hend with h | h; rw [hx] at h; cases h; exact h
      refine wpAny_bind (RZ.nextOf_tuple_item (s := { s with heap := h₁ }) (h1.extBut hs₁.extBut D.i1z) (hl1.extBut hs₁.extBut D.l1z) hx fun h₂ h1₂ hs₂ => wpAny_pure ?_)
      refine wpAny_pure ?_
      refine wpAny_bind (wpAny_bind (wpAny_holding ?_))
      show wpAny _ _ (Builtin.SmallTypes.nextOf (.ref i2) >>= _) _ _ _
      refine wpAny_bind (RZ.nextOf_tuple_end (s := { s with heap := h₂ }) hh ((h2.extBut hs₁.extBut D.i2z).extBut hs₂.extBut D.i12.symm) ((hl2.extBut hs₁.extBut D.l2z).extBut hs₂.extBut D.l2i1) hy fun h₃ e hs₃ he => ?_)
      exact hE h₃ e (fun c o c1 _ c3 c4 x => hs₃ _ _ c4 (hs₂.extBut _ _ c3 (hs₁.extBut _ _ c1 x))) he
/-- how the zip stands at its i-th turn -/
def ZipSt (z TI TO i1 i2 l1 l2 : Addr) (i : Nat) (h : Heap) : Prop := ZipG h z TI TO ∧ IsPair h TI (.ref i1) (.ref i2) ∧ (∃ x y, IsPair h TO x y) ∧ h.IsTupleIter i1 l1 i ∧ h.IsTupleIter i2 l2 i
theorem ZipSt.frame {z TI TO i1 i2 l1 l2 : Addr} {i : Nat} {h h' : Heap} (st : ZipSt z TI TO i1 i2 l1 l2 i h) (k : ∀ b ∈ [z, TI, TO, i1, i2], ∀ o, h.get? b = some o → h'.get? b = some o) : ZipSt z TI TO i1 i2 l1 l2 i h' := by
  obtain ⟨hz, hTI, ⟨x, y, hTO⟩, h1, h2⟩ := st
  exact ⟨hz.ext fun o q => k z (by simp) o q, k TI (by simp) _ hTI, ⟨x, y, k TO (by simp) _ hTO⟩, h1.at fun o q => k i1 (by simp) o q, h2.at fun o q => k i2 (by simp) o q⟩
theorem nextOf_zipG_item {z TI TO i1 i2 l1 l2 : Addr} {i : Nat} {xs ys : Array Value} {x y : Value} {Q : Value → Shared → Prop} (D : ZipApart z TI TO i1 i2 l1 l2)
    (st : ZipSt z TI TO i1 i2 l1 l2 i s.heap) (hl1 : s.heap.IsTuple l1 xs) (hl2 : s.heap.IsTuple l2 ys) (hx : xs[i]? = some x) (hy : ys[i]? = some y)
    (hQ : ∀ h', ZipSt z TI TO i1 i2 l1 l2 (i + 1) h' → IsPair h' s.heap.objs.size x y → h'.objs.size = s.heap.objs.size + 1 →
      (∀ c o, c ≠ z → c ≠ TO → c ≠ i1 → c ≠ i2 → s.heap.get? c = some o → h'.get? c = some o) → Q (.ref s.heap.objs.size) { s with heap := h' }) :
    wpAny (model prog w) A (Builtin.SmallTypes.nextOf (.ref z)) Q E s := by
  obtain ⟨hz, hTI, ⟨a, b, hTO⟩, h1, h2⟩ := st
  have hT : s.TypeIs (.ref z) "zip" := by
    obtain ⟨_, _, _, q⟩ := hz
    exact ⟨_, q, rfl⟩
  unfold Builtin.SmallTypes.nextOf
  exact wpAny_bind (wpAny_callSpecial?_slot (name := Str.ofString "__next__") hT PySem.F.slot_zip_next
    (wpAny_call_entry PySem.F.slot_zip_next hT PySem.F.entry_zip_next
      (zipG_next_item D hz hTI hTO h1 h2 hl1 hl2 hx hy fun h' a1 a2 a3 a4 a5 a6 a7 => wpAny_pure (hQ h' ⟨a1, a7 _ _ D.TIz D.TITO D.TIi1 D.TIi2 hTI, a2, a3, a4⟩ a5 a6 a7)) (PySem.F.args_zip_next_1 _)))
theorem nextOf_zipG_end {z TI TO i1 i2 l1 l2 : Addr} {i : Nat} {xs ys : Array Value} {Q : Value → Shared → Prop} (hh : A.handled = none) (D : ZipApart z TI TO i1 i2 l1 l2)
    (st : ZipSt z TI TO i1 i2 l1 l2 i s.heap) (hl1 : s.heap.IsTuple l1 xs) (hl2 : s.heap.IsTuple l2 ys) (hend : xs[i]? = none ∨ ys[i]? = none)
    (hE : ∀ h' e, (∀ c o, c ≠ z → c ≠ TO → c ≠ i1 → c ≠ i2 → s.heap.get? c = some o → h'.get? c = some o) → (∃ o, h'.get? e = some o ∧ o.cls = .type "StopIteration") → E (.ref e) { s with heap := h' }) :
    wpAny (model prog w) A (Builtin.SmallTypes.nextOf (.ref z)) Q E s := by
  obtain ⟨hz, hTI, ⟨a, b, hTO⟩, h1, h2⟩ := st
  have hT : s.TypeIs (.ref z) "zip" := by
    obtain ⟨_, _, _, q⟩ := hz
    exact ⟨_, q, rfl⟩
  unfold Builtin.SmallTypes.nextOf
  exact wpAny_bind (wpAny_callSpecial?_slot (name := Str.ofString "__next__") hT PySem.F.slot_zip_next
    (wpAny_call_entry PySem.F.slot_zip_next hT PySem.F.entry_zip_next (zipG_next_end hh D hz hTI hTO h1 h2 hl1 hl2 hend hE) (PySem.F.args_zip_next_1 _)))
theorem enumZ_next_item {e z TI TO i1 i2 l1 l2 : Addr} {i : Nat} {c : Int} {old : Value} {xs ys : Array Value} {x y : Value} {Q : Value → Shared → Prop} (D : ZipApart z TI TO i1 i2 l1 l2)
    (he : IsEnum s.heap e z c old) (st : ZipSt z TI TO i1 i2 l1 l2 i s.heap) (hl1 : s.heap.IsTuple l1 xs) (hl2 : s.heap.IsTuple l2 ys) (hx : xs[i]? = some x) (hy : ys[i]? = some y) (hef : e ∉ [z, TI, TO, i1, i2])
    (hQ : ∀ h' tk, IsEnumOut h' e z (c + 1) (.ref s.heap.objs.size) (s.heap.objs.size + 1) → ZipSt z TI TO i1 i2 l1 l2 (i + 1) h' → IsPair h' s.heap.objs.size x y →
      h'.get? (s.heap.objs.size + 1) = some { cls := .type "tuple", data := .seq #[.int c tk, .ref s.heap.objs.size] } → h'.objs.size = s.heap.objs.size + 2 →
      (∀ b o, b ≠ e → b ∉ [z, TI, TO, i1, i2] → s.heap.get? b = some o → h'.get? b = some o) → Q (.ref (s.heap.objs.size + 1)) { s with heap := h', toks := tk + 1 }) :
    wpAny (model prog w) A (Builtin.«enumerate.__next__» ⟨[.ref e], []⟩) (fun fin s' => ∃ v, fin = .done (.ret v) ∧ Q v s') E s := by
  obtain ⟨hp, g, d, tk, os⟩ := s
  have hel : e < hp.objs.size := Heap.lt_size he
  have ez : e ≠ z ∧ e ≠ TI ∧ e ≠ TO ∧ e ≠ i1 ∧ e ≠ i2 := by simpa using hef
  show wpAny _ _ (field (.ref e) 2 >>= _) _ _ _
  refine wpAny_bind (wpAny_field he rfl (x := .ref z) rfl ?_)
  refine wpAny_bind (nextOf_zipG_item D st hl1 hl2 hx hy fun h₁ st₁ hp₁ hz₁ hk₁ => ?_)
  replace hp₁ : IsPair h₁ hp.objs.size x y := hp₁
  replace hz₁ : h₁.objs.size = hp.objs.size + 1 := hz₁
  replace hk₁ : ∀ c o, c ≠ z → c ≠ TO → c ≠ i1 → c ≠ i2 → hp.get? c = some o → h₁.get? c = some o := hk₁
  have he₁ : IsEnum h₁ e z c old := hk₁ _ _ ez.1 ez.2.2.1 ez.2.2.2.1 ez.2.2.2.2 he
  show wpAny _ _ (field (.ref e) 3 >>= _) _ _ ⟨h₁, g, d, tk, os⟩
  refine wpAny_bind (wpAny_field he₁ rfl (x := rawInt c) rfl ?_)
  show wpAny _ _ (field (.ref e) 4 >>= _) _ _ ⟨h₁, g, d, tk, os⟩
  refine wpAny_bind (wpAny_field he₁ rfl (x := .none) rfl ?_)
  show wpAny _ _ (mkInt c >>= _) _ _ ⟨h₁, g, d, tk, os⟩
  refine wpAny_bind (wpAny_mkInt ?_)
  show wpAny _ _ (setField (.ref e) 3 (rawInt (c + 1)) >>= _) _ _ ⟨h₁, g, d, tk + 1, os⟩
  refine wpAny_bind (wpAny_setField_rec he₁ (by simp) fun h₂ he₂ hs₂ => ?_)
  replace hs₂ : Heap.SameBut e h₁ h₂ := hs₂
  replace he₂ : IsEnum h₂ e z (c + 1) old := he₂
  show wpAny _ _ (setField (.ref e) 4 .none >>= _) _ _ ⟨h₂, g, d, tk + 1, os⟩
  refine wpAny_bind (wpAny_setField_rec he₂ (by simp) fun h₃ he₃ hs₃ => ?_)
  replace hs₃ : Heap.SameBut e h₂ h₃ := hs₃
  replace he₃ : IsEnum h₃ e z (c + 1) old := he₃
  show wpAny _ _ (newTuple [.int c tk, .ref hp.objs.size] >>= _) _ _ ⟨h₃, g, d, tk + 1, os⟩
  refine wpAny_bind (wpAny_newTuple ?_)
  have he₄ : IsEnum (h₃.push { cls := .type "tuple", data := .seq #[.int c tk, .ref hp.objs.size] }) e z (c + 1) old := Heap.get?_push_of_some _ he₃
  generalize hh₄ : h₃.push { cls := .type "tuple", data := .seq #[.int c tk, .ref hp.objs.size] } = h₄ at he₄
  have hsz : h₃.objs.size = hp.objs.size + 1 := by rw [hs₃.1, hs₂.1, hz₁]
  have ht₄ : h₄.get? (hp.objs.size + 1) = some { cls := .type "tuple", data := .seq #[.int c tk, .ref hp.objs.size] } := by rw [← hh₄, ← hsz]; exact Heap.get?_push_size _ rfl
  have hz₄ : h₄.objs.size = hp.objs.size + 2 := by rw [← hh₄, Heap.size_push, hsz]
  have up : ∀ b o, b ≠ e → h₁.get? b = some o → h₄.get? b = some o := fun b o hbe hb => by
    rw [← hh₄]; exact Heap.get?_push_of_some _ (hs₃.extBut b o hbe (hs₂.extBut b o hbe hb))
  have hp₄ : IsPair h₄ hp.objs.size x y := up _ _ (Nat.ne_of_gt hel) hp₁
  have hk₄ : ∀ b o, b ≠ e → b ∉ [z, TI, TO, i1, i2] → hp.get? b = some o → h₄.get? b = some o := fun b o hbe hbi hb => by
    have q : b ≠ z ∧ b ≠ TI ∧ b ≠ TO ∧ b ≠ i1 ∧ b ≠ i2 := by simpa using hbi
    exact up b o hbe (hk₁ b o q.1 q.2.2.1 q.2.2.2.1 q.2.2.2.2 hb)
  have st₄ : ZipSt z TI TO i1 i2 l1 l2 (i + 1) h₄ := st₁.frame fun b hb o q => up b o (fun q' => hef (q' ▸ hb)) q
  show wpAny _ _ (Builtin.SmallTypes.ownedTupleIsFree (.ref e) >>= _) _ _ ⟨h₄, g, d, tk + 1, os⟩
  rw [hsz]
  clear hh₄ he₃ hs₃ he₂ hs₂ he₁ st₁ hsz up hp₁ hz₁ hk₁ h₃ h₂ h₁
  refine wpAny_bind ?_
  · unfold Builtin.SmallTypes.ownedTupleIsFree
    refine wpAny_bind (wpAny_field he₄ rfl (x := .none) rfl (wpAny_pure ?_))
    simp only [if_true]
    refine wpAny_bind (wpAny_rule ?_)
    refine wpAny_bind (wpAny_field he₄ rfl (x := old) rfl ?_)
    refine wpAny_bind (wpAny_setField_rec he₄ (by simp) fun h₅ he₅ hs₅ => ?_)
    replace hs₅ : Heap.SameBut e h₄ h₅ := hs₅
    replace he₅ : IsEnum h₅ e z (c + 1) (.ref hp.objs.size) := he₅
    show wpAny _ _ (Builtin.SmallTypes.ownedTupleHandOut (.ref e) (.ref (hp.objs.size + 1)) >>= _) _ _ ⟨h₅, g, d, tk + 1, os⟩
    refine wpAny_bind ?_
    · unfold Builtin.SmallTypes.ownedTupleHandOut
      refine wpAny_bind (wpAny_setField_rec he₅ (by simp) fun h₆ he₆ hs₆ => ?_)
      replace hs₆ : Heap.SameBut e h₅ h₆ := hs₆
      replace he₆ : IsEnumOut h₆ e z (c + 1) (.ref hp.objs.size) (hp.objs.size + 1) := he₆
      refine wpAny_setField_rec he₆ (by simp) fun h₇ he₇ hs₇ => ?_
      replace hs₇ : Heap.SameBut e h₆ h₇ := hs₇
      replace he₇ : IsEnumOut h₇ e z (c + 1) (.ref hp.objs.size) (hp.objs.size + 1) := he₇
      have up2 : ∀ b o, b ≠ e → h₄.get? b = some o → h₇.get? b = some o := fun b o hbe hb => hs₇.extBut b o hbe (hs₆.extBut b o hbe (hs₅.extBut b o hbe hb))
      refine wpAny_bind (wpAny_letGo (wpAny_pure ⟨_, rfl, hQ h₇ tk he₇ (st₄.frame fun b hb o q => up2 b o (fun q' => hef (q' ▸ hb)) q) (up2 _ _ (Nat.ne_of_gt hel) hp₄) (up2 _ _ (Nat.ne_of_gt (Nat.lt_succ_of_lt hel)) ht₄) ?_ fun b o hbe hbi hb => up2 b o hbe (hk₄ b o hbe hbi hb)⟩))
      rw [hs₇.1, hs₆.1, hs₅.1, hz₄]
theorem pyNext_enumZ_item {e z TI TO i1 i2 l1 l2 : Addr} {i : Nat} {c : Int} {old : Value} {xs ys : Array Value} {x y : Value} {Q : Option Value → Shared → Prop} (D : ZipApart z TI TO i1 i2 l1 l2)
    (he : IsEnum s.heap e z c old) (st : ZipSt z TI TO i1 i2 l1 l2 i s.heap) (hl1 : s.heap.IsTuple l1 xs) (hl2 : s.heap.IsTuple l2 ys) (hx : xs[i]? = some x) (hy : ys[i]? = some y) (hef : e ∉ [z, TI, TO, i1, i2])
    (hQ : ∀ h' tk, IsEnumOut h' e z (c + 1) (.ref s.heap.objs.size) (s.heap.objs.size + 1) → ZipSt z TI TO i1 i2 l1 l2 (i + 1) h' → IsPair h' s.heap.objs.size x y →
      h'.get? (s.heap.objs.size + 1) = some { cls := .type "tuple", data := .seq #[.int c tk, .ref s.heap.objs.size] } → h'.objs.size = s.heap.objs.size + 2 →
      (∀ b o, b ≠ e → b ∉ [z, TI, TO, i1, i2] → s.heap.get? b = some o → h'.get? b = some o) → Q (some (.ref (s.heap.objs.size + 1))) { s with heap := h', toks := tk + 1 }) :
    wpAny (model prog w) A (pyNext (.ref e)) Q E s := by
  have hT : s.TypeIs (.ref e) "enumerate" := ⟨_, he, rfl⟩
  unfold pyNext
  exact wpAny_bind (wpAny_attempt (wpAny_callSpecial?_slot (name := Str.ofString "__next__") hT PySem.F.slot_enumerate_next
    (wpAny_call_entry PySem.F.slot_enumerate_next hT PySem.F.entry_enumerate_next
      (enumZ_next_item D he st hl1 hl2 hx hy hef fun h' tk a b c d k q => wpAny_pure (hQ h' tk a b c d k q)) (PySem.F.args_enumerate_next_1 _))))
theorem pyNext_enumZ_end {e z TI TO i1 i2 l1 l2 : Addr} {i : Nat} {c : Int} {old : Value} {xs ys : Array Value} {Q : Option Value → Shared → Prop} (hh : A.handled = none) (D : ZipApart z TI TO i1 i2 l1 l2)
    (he : IsEnum s.heap e z c old) (st : ZipSt z TI TO i1 i2 l1 l2 i s.heap) (hl1 : s.heap.IsTuple l1 xs) (hl2 : s.heap.IsTuple l2 ys) (hend : xs[i]? = none ∨ ys[i]? = none)
    (hQ : ∀ h', (∀ b o, b ∉ [z, TI, TO, i1, i2] → s.heap.get? b = some o → h'.get? b = some o) → Q none { s with heap := h' }) : wpAny (model prog w) A (pyNext (.ref e)) Q E s := by
  have hT : s.TypeIs (.ref e) "enumerate" := ⟨_, he, rfl⟩
  unfold pyNext
  refine wpAny_bind (wpAny_attempt (wpAny_callSpecial?_slot (name := Str.ofString "__next__") hT PySem.F.slot_enumerate_next
    (wpAny_call_entry PySem.F.slot_enumerate_next hT PySem.F.entry_enumerate_next ?_ (PySem.F.args_enumerate_next_1 _))))
  show wpAny _ _ (field (.ref e) 2 >>= _) _ _ _
  refine wpAny_bind (wpAny_field he rfl (x := .ref z) rfl ?_)
  refine wpAny_bind (nextOf_zipG_end hh D st hl1 hl2 hend fun h' er hk hE => ?_)
  obtain ⟨o, ho, hc⟩ := hE
  refine wpAny_bind (wpAny_isInstance (T := "StopIteration") (b := true) ⟨o, ho, hc⟩ isSubtype_stop ?_)
  exact wpAny_pure (hQ _ fun b o hb q => by
    have r : b ≠ z ∧ b ≠ TI ∧ b ≠ TO ∧ b ≠ i1 ∧ b ≠ i2 := by simpa using hb
    exact hk b o r.1 r.2.2.1 r.2.2.2.1 r.2.2.2.2 q)
end
/-- two tuples side by side, numbered -/
def IteZ (K : PySem.W.Frag) (a b : Addr) : It :=
  ⟨fun i H => ∃ (xs ys : List V) (x y : V), SqT K H a xs ∧ SqT K H b ys ∧ xs[i]? = some x ∧ ys[i]? = some y,
    fun i H v H' => ∃ T P x y, v = .ref T ∧ H P = none ∧ H T = none ∧ T ≠ P ∧ H' = upd (upd H P (.tup [x, y])) T (.tup [.int (i : Nat), .ref P]) ∧ (∀ xs, SqT K H a xs → xs[i]? = some x) ∧ ∀ ys, SqT K H b ys → ys[i]? = some y,
    fun i H => ∃ xs ys : List V, SqT K H a xs ∧ SqT K H b ys ∧ (xs.length ≤ i ∨ ys.length ≤ i)⟩
/-- one object more is known -/
theorem _root_.L2.Inv.more {X : Cx} {pins : List (Addr × Obj)} {σ : L2.St} {H H0 : Hp} {s : Shared} {T : Addr} {o : HO} (I : Inv X pins σ H s) (hf : FpOk X pins H0 T) (hn : H T = none) (new : ObjOk X.prog X.w (upd H T o) s.heap T o) : Inv X pins σ (upd H T o) s := by
  have e : s = { s with heap := s.heap, gens := s.gens, drawn := s.drawn, toks := s.toks } := by cases s; rfl
  rw [e]
  refine I.call (ch := [T]) ⟨fun b u q _ _ _ => q, fun b u q _ _ _ => ⟨u.slots, q⟩, fun b u q n hb => by rw [upd_ne (fun z => hb (by simp [z]))]; exact n, fun b u q _ => ⟨u, q⟩, fun b xs q => by rw [upd_ne (ne_of_none q hn)]; exact q, fun b u xs q => by rw [upd_ne (ne_of_none q hn)]; exact q, fun b ps q => ⟨#[], by rw [upd_ne (ne_of_none q hn), q]; simp⟩⟩ (fun b u q => ?_) I.bare (fun b hb => ?_)
  · by_cases hb : b = T
    · subst hb
      rw [upd_same] at q
      cases q
      exact new
    · rw [upd_ne hb] at q
      exact (I.hok b u q).stay (fun c v _ q => q) (fun c q => by rw [upd_ne (ne_of_none q hn)]; exact q) fun c xs q => by rw [upd_ne (ne_of_none q hn)]; exact q
  · rw [List.mem_singleton.mp hb]
    exact ⟨hf.2.2.2.1, hf.2.1, hf.2.2.2.2.1, hf.2.2.2.2.2⟩
theorem turn_enumZ {P : Program} {w : World} {K : PySem.W.Frag} {elts : List Expr} {kk : Nat} {tpos : Pos} {a b e z TI TO i1 i2 : Addr} (D : ZipApart z TI TO i1 i2 a b) (hef : e ∉ [z, TI, TO, i1, i2]) :
    Turn P w K (.Tuple elts kk tpos) (IteZ K a b) [e, z, TI, TO, i1, i2] e (fun i h => (∃ old, IsEnum h e z ((i : Nat) : Int) old) ∧ ZipSt z TI TO i1 i2 a b i h) where
  mem := by simp
  obj := fun i h st c hc => by
    obtain ⟨⟨old, he⟩, ⟨f0, f, hf, hz⟩, hTI, ⟨x, y, hTO⟩, ⟨o1, e1, _, d1⟩, ⟨o2, e2, _, d2⟩⟩ := st
    have e' : c = e ∨ c = z ∨ c = TI ∨ c = TO ∨ c = i1 ∨ c = i2 := by simpa using hc
    rcases e' with q | q | q | q | q | q
    · rw [q]; exact ⟨_, he, fun v q => nomatch q⟩
    · rw [q]; exact ⟨_, hz, fun v q => nomatch q⟩
    · rw [q]; exact ⟨_, hTI, fun v q => nomatch q⟩
    · rw [q]; exact ⟨_, hTO, fun v q => nomatch q⟩
    · rw [q]; exact ⟨o1, e1, fun v q => by rw [d1] at q; cases q⟩
    · rw [q]; exact ⟨o2, e2, fun v q => by rw [d2] at q; cases q⟩
  keep := fun i h h' st k => by
    obtain ⟨⟨old, he⟩, st⟩ := st
    exact ⟨⟨old, k e (by simp) _ he⟩, st.frame fun b hb o q => k b (List.mem_cons_of_mem _ hb) o q⟩
  item := by
    intro X hP hw hK hc i pins s σ H E I hf st hg
    subst hP hw hK
    obtain ⟨⟨old, he⟩, hst⟩ := st
    obtain ⟨xs, ys, x, y, hqx, hqy, hx, hy⟩ := hg
    obtain ⟨its, rv, p, _⟩ := I.tuple hqx
    obtain ⟨its2, rv2, p2, _⟩ := I.tuple hqy
    obtain ⟨u, hu, ru⟩ := rv.get hx
    obtain ⟨u2, hu2, ru2⟩ := rv2.get hy
    have hel : e < s.heap.objs.size := Heap.lt_size he
    refine pyNext_enumZ_item D he hst (show s.heap.IsTuple a its.toArray from p) (show s.heap.IsTuple b its2.toArray from p2) (x := u) (y := u2) (by simpa using hu) (by simpa using hu2) hef fun h' tk ho st' hP hT hsz hk => ?_
    refine ⟨_, rfl, wpAny_letOwnedTupleGo_enum (s := { s with heap := h', toks := tk + 1 }) ho fun h'' he' sb => ?_⟩
    have hlt : ∀ c, c ∈ [e, z, TI, TO, i1, i2] → c < s.heap.objs.size := fun c hcm => by
      obtain ⟨⟨f0, f, hf0, hz⟩, hTI, ⟨x0, y0, hTO⟩, ⟨o1, e1, _, _⟩, ⟨o2, e2, _, _⟩⟩ := hst
      have e' : c = e ∨ c = z ∨ c = TI ∨ c = TO ∨ c = i1 ∨ c = i2 := by simpa using hcm
      rcases e' with q | q | q | q | q | q
      · rw [q]; exact hel
      · rw [q]; exact Heap.lt_size hz
      · rw [q]; exact Heap.lt_size hTI
      · rw [q]; exact Heap.lt_size hTO
      · rw [q]; exact Heap.lt_size e1
      · rw [q]; exact Heap.lt_size e2
    have n1 : s.heap.objs.size ≠ e := Nat.ne_of_gt hel
    have n2 : s.heap.objs.size + 1 ≠ e := Nat.ne_of_gt (Nat.lt_succ_of_lt hel)
    have hP2 : h''.get? s.heap.objs.size = some { cls := .type "tuple", data := .seq #[u, u2] } := (sb.2 _ n1).trans hP
    have hT2 : h''.get? (s.heap.objs.size + 1) = some { cls := .type "tuple", data := .seq #[.int i tk, .ref s.heap.objs.size] } := (sb.2 _ n2).trans hT
    have old' : ∀ c ob, c ∉ [e, z, TI, TO, i1, i2] → s.heap.get? c = some ob → h''.get? c = some ob := fun c ob hb q =>
      (sb.2 c (fun q' => hb (by simp [q']))).trans (hk c ob (fun q' => hb (by simp [q'])) (fun q' => hb (List.mem_cons_of_mem _ q')) q)
    have fr1 : H s.heap.objs.size = none := I.hok.fresh (Nat.le_refl _)
    have fr2 : H (s.heap.objs.size + 1) = none := I.hok.fresh (Nat.le_succ _)
    have new1 : ObjOk X.prog X.w (upd H s.heap.objs.size (.tup [x, y])) h'' s.heap.objs.size (.tup [x, y]) :=
      ⟨by show 2 ≤ sizeLine; decide, [u, u2], .cons ru (.cons ru2 .nil), ⟨_, hP2, rfl, _, rfl⟩⟩
    have I1 : Inv X pins σ (upd H s.heap.objs.size (.tup [x, y])) { s with heap := h'', toks := tk + 1 } :=
      I.turnedNew (ch := [e, z, TI, TO, i1, i2]) old' hf (Nat.le_refl _) new1
    have new2 : ObjOk X.prog X.w (upd (upd H s.heap.objs.size (.tup [x, y])) (s.heap.objs.size + 1) (.tup [.int (i : Nat), .ref s.heap.objs.size])) h'' (s.heap.objs.size + 1) (.tup [.int (i : Nat), .ref s.heap.objs.size]) :=
      ⟨by show 2 ≤ sizeLine; decide, [.int i tk, .ref s.heap.objs.size], .cons ⟨_, rfl⟩ (.cons rfl .nil), ⟨_, hT2, rfl, _, rfl⟩⟩
    have I2 : Inv X pins σ (upd (upd H s.heap.objs.size (.tup [x, y])) (s.heap.objs.size + 1) (.tup [.int (i : Nat), .ref s.heap.objs.size])) { s with heap := h'', toks := tk + 1 } :=
      I1.more (I.fpOk (Nat.le_succ _) fr2) (by rw [upd_ne (Nat.succ_ne_self _)]; exact fr2) new2
    refine ⟨.ref (s.heap.objs.size + 1), _, I2, rfl, ⟨s.heap.objs.size + 1, s.heap.objs.size, x, y, rfl, fr1, fr2, Nat.succ_ne_self _, rfl, fun l hl => by rw [I.tuple_inj hl hqx]; exact hx, fun l hl => by rw [I.tuple_inj hl hqy]; exact hy⟩, ⟨⟨.ref s.heap.objs.size, ?_⟩, st'.frame fun b hb o q => (sb.2 b (fun q' => hef (q' ▸ hb))).trans q⟩, fun c hcm => ?_⟩
    · rw [show ((i + 1 : Nat) : Int) = (i : Int) + 1 by omega]
      exact he'
    · have := hlt c hcm
      rw [upd_ne (Nat.ne_of_lt (Nat.lt_succ_of_lt this)), upd_ne (Nat.ne_of_lt this)]
      exact (hf c hcm).1
  done := by
    intro X hP hw hK hc i pins s σ H E I hf st hg
    subst hP hw hK
    obtain ⟨⟨old, he⟩, hst⟩ := st
    obtain ⟨xs, ys, hqx, hqy, hend⟩ := hg
    obtain ⟨its, rv, p, _⟩ := I.tuple hqx
    obtain ⟨its2, rv2, p2, _⟩ := I.tuple hqy
    have l1 := rv.length
    have l2 := rv2.length
    have hend' : its.toArray[i]? = none ∨ its2.toArray[i]? = none := by
      rcases hend with q | q
      · exact .inl (by simp; omega)
      · exact .inr (by simp; omega)
    exact pyNext_enumZ_end (I.ok.hd hc) D he hst (show s.heap.IsTuple a its.toArray from p) (show s.heap.IsTuple b its2.toArray from p2) hend' fun h' hk => ⟨rfl, I.turnedL (t' := s.toks) (ch := [e, z, TI, TO, i1, i2]) (fun c o hb q => hk c o (fun q' => hb (List.mem_cons_of_mem _ q')) q) hf⟩
  self := fun A i s Q E st h => let ⟨⟨_, he⟩, _⟩ := st; wpAny_pyIter_enum he h
theorem walk_enumZ {K : PySem.W.Frag} {w : World} {g0 : Gh} {H0 : Hp} {a b : Addr} {xs ys : List D} {vs us : List V} (h : (Rd H0 a (.tup vs) ∧ ¬ g0.Z a) ∨ KTup K a vs) (h' : (Rd H0 b (.tup us) ∧ ¬ g0.Z b) ∨ KTup K b us) (r : RelDs K w g0 H0 xs vs) (r' : RelDs K w g0 H0 ys us) : Walk K w g0 H0 (IteZ K a b) (enumL 0 (zipL xs ys)) := by
  intro g H st e S
  have h1 : SqT K H a vs := h.elim (fun q => .inl (e.rd q.1 q.2).1) .inr
  have h2 : SqT K H b us := h'.elim (fun q => .inl (e.rd q.1 q.2).1) .inr
  refine ⟨fun i d hd => ?_, fun i hi => ⟨vs, us, h1, h2, by rw [← r.length, ← r'.length]; rw [enumL_len, zipL_len] at hi; omega⟩⟩
  obtain ⟨p, hp, rfl⟩ := enumL_get hd
  obtain ⟨x, y, hx, hy, rfl⟩ := zipL_get hp
  obtain ⟨v, hv, rv⟩ := r.get hx
  obtain ⟨u, hu, ru⟩ := r'.get hy
  refine ⟨⟨vs, us, v, u, h1, h2, hv, hu⟩, fun z H' hz => ?_⟩
  obtain ⟨T, P, v', u', rfl, hP, hT, hne, rfl, f1, f2⟩ := hz
  have q1 := f1 vs h1
  have q2 := f2 us h2
  rw [hv] at q1
  rw [hu] at q2
  cases q1
  cases q2
  have e1 := ext_new (o := .tup [v, u]) hP (S.nZ hP)
  have S1 := S.new (o := .tup [v, u]) hP
  have hT1 : upd H P (.tup [v, u]) T = none := by rw [upd_ne hne]; exact hT
  have e2 := ext_new (o := .tup [.int (i : Nat), .ref P]) hT1 (S1.nZ hT1)
  refine ⟨e1.trans e2, S1.new hT1, ?_⟩
  have pr : RelD K w g (upd H P (.tup [v, u])) (.tup [x, y]) (.ref P) := by
    rw [RelD]
    exact ⟨P, _, rfl, .inl ⟨.inl upd_same, S.nZ hP⟩, RelDs.cons ((RelD.ext0 e rv).ext e1) (RelDs.cons ((RelD.ext0 e ru).ext e1) RelDs.nil)⟩
  rw [RelD]
  exact ⟨T, _, rfl, .inl ⟨.inl upd_same, S1.nZ hT1⟩, RelDs.cons (by rw [RelD, Nat.zero_add]) (RelDs.cons (pr.ext e2) RelDs.nil)⟩
section
variable {L : List DFn} {G : List D} {X : Cx}
set_option maxHeartbeats 2000000 in
theorem meets_enumZ (z TI TO : Addr) (f0 : Value) :
    Meets (Builtin.«enumerate.__new__» ⟨[.type "enumerate", .ref z], []⟩) (fun _ R s => IsZip s.heap z TI TO f0 ∧
      R (.ok (.ret (.ref s.heap.objs.size))) { s with heap := s.heap.push { cls := .type "enumerate", data := .fields #[.none, .bool false, .ref z, rawInt 0, .none, .none] } }) :=
  .of_wp fun prog w A R s h => by
    obtain ⟨hp, gn, dr, tk, os⟩ := s
    obtain ⟨hH, hR⟩ := h
    have sb := sub_enumerate
    have it : ∀ {A' : Around} {E : Value → Shared → Prop} {Q : Value → Shared → Prop}, Q (.ref z) ⟨hp, gn, dr, tk, os⟩ → wpAny (model prog w) A' (pyIter (.ref z)) Q E ⟨hp, gn, dr, tk, os⟩ :=
      fun q => wpAny_pyIter_zip (s := ⟨hp, gn, dr, tk, os⟩) hH q
    wp_walk using it
    refine wpAny_stack_any fun stk => wpAny_pure ?_
    split
    · rename_i cl _ _ _ _ _
      cases (cl == Value.type "enumerate")
      all_goals
        wp_walk using it
        exact ⟨_, rfl, hR⟩
    · wp_walk using it
      exact ⟨_, rfl, hR⟩
theorem call_enumZ {prog : Program} {w : World} {A : Around} {E : Value → Shared → Prop} {s : Shared} {z TI TO : Addr} {f0 : Value} {Q : Value → Shared → Prop} (hz : IsZip s.heap z TI TO f0)
    (h : ∀ h', IsEnum h' s.heap.objs.size z 0 .none → h'.objs.size = s.heap.objs.size + 1 → (∀ b q, s.heap.get? b = some q → h'.get? b = some q) → Q (.ref s.heap.objs.size) { s with heap := h' }) :
    wpAny (model prog w) A (call (.type "enumerate") [.ref z]) Q E s := by
  refine callType_new PySem.F.called_enumerate (by decide) (PySem.F.typeCall_enumerate_1 _) (PySem.F.newCall_enumerate_1 _) (fun ob => PySem.F.args_object_init_2 ob _) PySem.F.entry_enumerate_new (meets_enumZ z TI TO f0) ⟨hz, ?_⟩
  have en : IsEnum (s.heap.push { cls := .type "enumerate", data := .fields #[.none, .bool false, .ref z, rawInt 0, .none, .none] }) s.heap.objs.size z 0 .none := Heap.get?_push_size s.heap rfl
  exact ⟨⟨_, en, rfl⟩, h _ en (Heap.size_push ..) fun b q x => Heap.get?_push_of_some _ x⟩
def iEnumZ (K : PySem.W.Frag) (ta : TA) : TI := fun σ H R => ta σ H fun vs H1 => ∃ a b xs ys, vs = [.ref a, .ref b] ∧ SqT K H1 a xs ∧ SqT K H1 b ys ∧ R (IteZ K a b) H1
theorem pi_enumZ {e e2 : Expr} {ta : TA} {p p2 p3 pos tpos : Pos} {elts : List Expr} {kk : Nat} (hg : Gl X "enumerate") (hm : X.mg "enumerate" = none) (hg2 : Gl X "zip") (hm2 : X.mg "zip" = none) (ha : PA X [e, e2] ta)
    (hs : starEach [e, e2] X.env = (false, eval e X.env) :: starEach [e2] X.env) (hpl : (backTo p3 (starEach [e2] X.env)).any (·.1) = false) :
    PI X (.Tuple elts kk tpos) (.Call (.Name "enumerate" p) [.Call (.Name "zip" p2) [e, e2] [] p3] [] pos) (iEnumZ X.K ta) := by
  refine ⟨fun pins s σ H R I h => ?_⟩
  refine PyProof.Rows.Call_ (ld_blt I hg hm PyProof.Rows.boot_enumerate ?_)
  refine PyProof.Rows.callWith_type1 (PyProof.Rows.args_cons ?_ rfl) rfl rfl
  refine PyProof.Rows.Call_ (ld_blt I hg2 hm2 PyProof.Rows.boot_zip (PyProof.Rows.callWith_type1 (thn (ha.run p3 pins s σ H _ I h) fun us s1 ⟨vs, H1, I1, r1, q1⟩ => ?_) hs hpl))
  obtain ⟨a, b, xs, ys, ex, hqx, hqy, q⟩ := q1
  subst ex
  cases r1 with
  | cons r rr =>
    cases rr with
    | cons r' rr =>
      cases rr
      cases r
      cases r'
      obtain ⟨its, rv, p1, _⟩ := I1.tuple hqx
      obtain ⟨its2, rv2, p2, _⟩ := I1.tuple hqy
      obtain ⟨o1, ho1, _⟩ := id p1
      obtain ⟨o2, ho2, _⟩ := id p2
      refine RZ.call_zipT (show s1.heap.IsTuple a its.toArray from p1) (show s1.heap.IsTuple b its2.toArray from p2) fun h' hz hTI hTO h1 h2 hsz hk => ?_
      refine PyProof.Rows.args_nil ?_
      refine call_enumZ (s := { s1 with heap := h' }) hz fun h'' he hsz2 hk2 => wpAny_pyIter_enum he ?_
      have hsz2' : h''.objs.size = h'.objs.size + 1 := hsz2
      have I2 : Inv X pins σ H1 { s1 with heap := h'' } := I1.kept (t' := s1.toks) fun c o q => hk2 c o (hk c o q)
      have al := Heap.lt_size ho1
      have bl := Heap.lt_size ho2
      have hef : h'.objs.size ∉ [s1.heap.objs.size + 4, s1.heap.objs.size + 2, s1.heap.objs.size + 3, s1.heap.objs.size, s1.heap.objs.size + 1] := by
        rw [hsz]
        simp
      refine ⟨h'.objs.size, [h'.objs.size, s1.heap.objs.size + 4, s1.heap.objs.size + 2, s1.heap.objs.size + 3, s1.heap.objs.size, s1.heap.objs.size + 1], _, _, H1, rfl, I2, turn_enumZ (PySem.W.ktu_apart s1.heap.objs.size a b al bl) hef,
        ⟨⟨.none, he⟩, ⟨_, _, .inl rfl, hk2 _ _ hz⟩, hk2 _ _ hTI, ⟨_, _, hk2 _ _ hTO⟩, h1.at fun o q => hk2 _ _ q, h2.at fun o q => hk2 _ _ q⟩, fun c hcm => ?_, q⟩
      have hle : s1.heap.objs.size ≤ c := by
        have e' : c = h'.objs.size ∨ c = s1.heap.objs.size + 4 ∨ c = s1.heap.objs.size + 2 ∨ c = s1.heap.objs.size + 3 ∨ c = s1.heap.objs.size ∨ c = s1.heap.objs.size + 1 := by simpa using hcm
        rcases e' with q | q | q | q | q | q
        · rw [q, hsz]; exact Nat.le_add_right _ _
        · rw [q]; exact Nat.le_add_right _ _
        · rw [q]; exact Nat.le_add_right _ _
        · rw [q]; exact Nat.le_add_right _ _
        · rw [q]; exact Nat.le_refl _
        · rw [q]; exact Nat.le_add_right _ _
      exact I1.fpOk hle (I1.hok.fresh hle)
theorem si_enumz {e e2 : Expr} {elts : List Expr} {kk : Nat} {tpos : Pos} {ia ib : IE} {p p2 p3 pos : Pos} {k : Nat} {gl : List Str} (hX : XOk X k L gl G) (hg : Gl X "enumerate") (hg2 : Gl X "zip") (hp : plainE e = true) (hp2 : plainE e2 = true) (h : SE L G X e ia) (h2 : SE L G X e2 ib) :
    SI L G X (.Tuple elts kk tpos) (.Call (.Name "enumerate" p) [.Call (.Name "zip" p2) [e, e2] [] p3] [] pos) (.enumz ia ib) := by
  intro σ H g env st xs st' R hE hS hev hR
  rw [evI] at hev
  (replace hev := bindS hev); obtain ⟨⟨d, st1⟩, e1, hev⟩ := hev
  (replace hev := bindS hev); obtain ⟨⟨d2, st2⟩, e3, hev⟩ := hev
  split at hev
  · rename_i ys zs hd hd2
    cases hev
    simp only at hd hd2
    subst hd hd2
    refine le_I (pi_enumZ hg (hX.bs _ (by decide)) hg2 (hX.bs _ (by decide)) (pa_cons pe_wp (pa_cons pe_wp pa_nil (star_cons hp2)) (star_cons hp)) (star_cons hp) (by rw [star_cons hp2]; rfl)) ?_
    refine h σ H g env st _ _ _ hE hS e1 fun v H1 g1 x1 s1 r1 _ => ?_
    refine h2 σ H1 g1 env _ _ _ _ (hE.ext x1) s1 e3 fun v2 H2 g2 x2 s2 r2 _ => ?_
    have r1 := r1.ext x2
    rw [RelD] at r1 r2
    obtain ⟨a, vs, rfl, ha, hr⟩ := r1
    obtain ⟨b, us, rfl, hb, hr'⟩ := r2
    exact ⟨a, b, vs, us, rfl, ha.elim (fun q => .inl q.1) .inr, hb.elim (fun q => .inl q.1) .inr, hR _ H2 g2 (x1.trans x2) s2 (walk_enumZ ha hb hr hr')⟩
  · cases hev
end
end Py

set_option Elab.async false
set_option linter.all false
set_option maxRecDepth 100000
set_option autoImplicit false
set_option maxHeartbeats 2000000
namespace Py
open PySem PySem.Spec L2
theorem ScR.blkOk {N : List Str} {sc sc' scope : Scope} {own : List (Str × Nat)} (r : ScR sc sc') (h : blkC N sc scope own = true) : BlkOk N sc' scope own := by
  have b := blkOk_by h
  refine ⟨b.kind, b.uniq, b.ix, fun y hy e => ?_, b.own⟩
  rcases b.free y hy e with q | q
  · obtain ⟨k', h1, h2⟩ := r.look _ _ q
    rcases h2 with rfl | ⟨h2, _⟩
    · exact .inl h1
    · cases h2
  · obtain ⟨k', h1, h2⟩ := r.look _ _ q
    rcases h2 with rfl | ⟨_, rfl⟩
    · exact .inr h1
    · exact .inl h1
theorem wipe_at {σ : L2.St} {v : Nat} : ∀ {own : List Nat}, v ∈ own → (wipe σ own).set v none = wipe σ own
  | [], h => by simp at h
  | u :: us, h => by
    unfold wipe
    by_cases e : v = u
    · subst e
      rw [List.set_set]
    · rw [List.set_comm _ _ (Ne.symm e), wipe_at (by simpa [e] using h)]
theorem wipe_sub {σ : L2.St} {own : List Nat} : ∀ {vs : List Nat}, (∀ v ∈ vs, v ∈ own) → wipe (wipe σ own) vs = wipe σ own
  | [], _ => rfl
  | v :: vs, h => by
    show (wipe (wipe σ own) vs).set v none = _
    rw [wipe_sub fun u hu => h u (by simp [hu]), wipe_at (h v (by simp))]
theorem Ext0.trans {g g1 g2 : Gh} {H H1 H2 : Hp} (e : Ext0 g H g1 H1) (f : Ext0 g1 H1 g2 H2) : Ext0 g H g2 H2 :=
  ⟨fun a o z h => let ⟨h1, z1⟩ := e.keep a o z h; f.keep a o z1 h1, Nat.le_trans e.len f.len, fun k a hk h => e.refs k a hk (f.refs k a (Nat.lt_of_lt_of_le hk e.len) h)⟩
theorem push_ext0 {g : Gh} {H : Hp} {p : Addr} {u : HO} (z : g.Z p) : Ext0 g H g (upd H p u) := ⟨fun a o nz q => ⟨by rw [upd_ne (show a ≠ p from fun e => nz (e ▸ z))]; exact q, nz⟩, Nat.le_refl _, fun _ _ _ q => q⟩
theorem EnvR.ext0 {K : PySem.W.Frag} {w : World} {g g' : Gh} {H H' : Hp} {env : DEnv} {σ : L2.St} (e : EnvR K w g H env σ) (x : Ext0 g H g' H') : EnvR K w g' H' env σ :=
  ⟨e.len, fun i d h => let ⟨v, h1, h2⟩ := e.get i d h; ⟨v, h1, RelD.ext0 x h2⟩⟩
def plainI : Expr → Bool
  | .Set .. => false
  | _ => true
theorem folded_of {e : Expr} {env : Env} (h : plainI e = true) : ∀ x, foldedSetIterable e env x = pure x := fun x => by
  cases e <;> first | rfl | (simp [plainI] at h)
/-- a comprehension's ifs: none or one -/
def SIf (L : List DFn) (G : List D) (X : Cx) (ifs : List Expr) (c : IE) : Prop := (ifs = [] ∧ c = .cst (.bl true)) ∨ ∃ ce, ifs = [ce] ∧ ST L G X ce c
abbrev BXT := Shared → Hp → Addr → List (Str × Addr) → List Addr → Cx
def ttW (BX : BXT) : List Expr → TT
  | [] => tYes
  | ce :: _ => fun σ H Q => ∀ s H1 C cl fp, wpT (BX s H1 C cl fp) ce σ H Q
def teW (BX : BXT) (e : Expr) : TE := fun σ H Q => ∀ s H1 C cl fp, wpE (BX s H1 C cl fp) e σ H Q
def gW (BX : BXT) (e : Expr) : TG := fun v σ H Q => ∀ s H1 C cl fp, wpG (BX s H1 C cl fp) e v σ H Q
def lcF (L : List DFn) (G : List D) (own : List Nat) (tg : Tg) (c e : IE) (env : DEnv) (x : D) (s : DSt) : Option (List D × DSt) :=
  (asgT (gam L) G tg x (wipeD env own) s).bind fun w => (evE (gam L) G c w.1 w.2).bind fun b => match b.1 with
      | .bl true => (evE (gam L) G e w.1 b.2).bind fun d => some ([d.1], d.2)
      | .bl false => some ([], b.2)
      | _ => none
section
variable {L : List DFn} {G : List D} {X : Cx}
/-- one item's turn -/
theorem lc_item {g0 : Gh} {H0 : Hp} {p : Addr} {own : List Nat} {tg : Tg} {tgE : Expr} {ifs : List Expr} {elt : Expr} {c e : IE} {env : DEnv} {σ : L2.St} {g : Gh} {H : Hp} {st st' : DSt} {x : D} {v : V} {ds r : List D} {vs : List V} {Nx : Hp → Prop}
    {BX : BXT} (hBK : ∀ s H C cl fp, (BX s H C cl fp).K = X.K) (hBw : ∀ s H C cl fp, (BX s H C cl fp).w = X.w)
    (htg : tgIn tg own = true) (hg : ∀ s H C cl fp, SG L G (BX s H C cl fp) tgE tg) (hi : ∀ s H C cl fp, SIf L G (BX s H C cl fp) ifs c) (he : ∀ s H C cl fp, SE L G (BX s H C cl fp) elt e)
    (nz : ¬ g0.Z p) (hp : H0 p = none) (hE : EnvR X.K X.w g H env σ) (R : Gr X.K X.w g0 H0 p g H st ds vs) (hsz : (ds ++ r).length ≤ 100000) (rx : RelD X.K X.w g H x v) (hev : lcF L G own tg c e env x st = some (r, st'))
    (hN : ∀ g' H' vs', Gr X.K X.w g0 H0 p g' H' st' (ds ++ r) vs' → Ext0 g H g' H' → Nx H') :
    gW BX tgE v (wipe σ own) H fun σ2 H2 => wipe σ2 own = wipe σ own ∧ ttW BX ifs σ2 H2 fun b H3 =>
        if b = true then teW BX elt σ2 H3 fun y H4 => ∃ acc, H4 p = some (.lst acc) ∧ acc.length < sizeLine ∧ Nx (upd H4 p (.lst (acc ++ [y]))) else Nx H3 := by
  intro s0 Hs C cl fp
  unfold lcF at hev
  (replace hev := bindS hev); obtain ⟨⟨env1, st1⟩, e1, hev⟩ := hev
  (replace hev := bindS hev); obtain ⟨⟨b, st2⟩, e2, hev⟩ := hev
  have hE1 := hE.wipe own
  refine hg s0 Hs C cl fp v _ H g x _ st env1 st1 _ (by rw [hBK, hBw]; exact rx) (by rw [hBK, hBw]; exact hE1) (by rw [hBK, hBw]; exact R.ok) e1 fun σ2 H2 g2 x2 s2 E2 w2 => ⟨(w2 own htg).trans (wipe_sub fun _ h => h), ?_⟩
  rw [hBK, hBw] at s2 E2
  have R2 := R.go x2 s2
  have elt_go : ∀ {H3 : Hp} {g3 : Gh} (x3 : Ext g2 H2 g3 H3) (s3 : StOk X.K X.w g3 H3 st2) (hb : b = .bl true), teW BX elt σ2 H3 fun y H4 => ∃ acc, H4 p = some (.lst acc) ∧ acc.length < sizeLine ∧ Nx (upd H4 p (.lst (acc ++ [y]))) := by
    intro H3 g3 x3 s3 hb s H1 C cl fp
    subst hb
    simp only at hev
    (replace hev := bindS hev); obtain ⟨⟨d, st3⟩, e3, hev⟩ := hev
    cases hev
    refine he s H1 C cl fp σ2 H3 g3 env1 st2 d st3 _ (by rw [hBK, hBw]; exact E2.ext x3) (by rw [hBK, hBw]; exact s3) e3 fun y H4 g4 x4 s4 r4 _ => ?_
    rw [hBK, hBw] at s4 r4
    have R4 := (R2.go x3 s3).go x4 s4
    refine ⟨vs, R4.at_, ?_, ?_⟩
    · rw [← R.rel.length, sizeLine_eq]
      rw [List.length_append, List.length_singleton] at hsz
      omega
    · exact hN g4 _ _ (R4.push nz hp r4) (((x2.e0.trans x3.e0).trans x4.e0).trans (push_ext0 R4.z))
  have no_go : ∀ {H3 : Hp} {g3 : Gh} (x3 : Ext g2 H2 g3 H3) (s3 : StOk X.K X.w g3 H3 st2) (hb : b = .bl false), Nx H3 := by
    intro H3 g3 x3 s3 hb
    subst hb
    simp only at hev
    cases hev
    have := hN g3 H3 vs
    rw [List.append_nil] at this
    exact this (R2.go x3 s3) (x2.e0.trans x3.e0)
  cases ifs with
  | nil =>
    have hc : c = .cst (.bl true) := by
      rcases hi s0 Hs C cl fp with ⟨_, h⟩ | ⟨ce, h, _⟩
      · exact h
      · cases h
    subst hc
    rw [evE] at e2
    cases e2
    exact iteT (B := Nx H2) (elt_go (Ext.refl _ _) s2 rfl)
  | cons ce rest =>
    intro s H1 C cl fp
    have hst : ST L G (BX s H1 C cl fp) ce c := by
      rcases hi s H1 C cl fp with ⟨h, _⟩ | ⟨ce', h, h2⟩
      · cases h
      · cases h
        exact h2
    have hb : b = .bl true ∨ b = .bl false := by
      split at hev
      · rename_i h
        exact .inl h
      · rename_i h
        exact .inr h
      · cases hev
    rcases hb with rfl | rfl
    · refine hst σ2 H2 g2 env1 st1 true st2 _ (by rw [hBK, hBw]; exact E2) (by rw [hBK, hBw]; exact s2) e2 fun H3 g3 x3 s3 => ?_
      rw [hBK, hBw] at s3
      rw [if_pos rfl]
      exact elt_go x3 s3 rfl
    · refine hst σ2 H2 g2 env1 st1 false st2 _ (by rw [hBK, hBw]; exact E2) (by rw [hBK, hBw]; exact s2) e2 fun H3 g3 x3 s3 => ?_
      rw [hBK, hBw] at s3
      rw [if_neg (by simp)]
      exact no_go x3 s3 rfl
theorem pts_W {BX : BXT} {ifs : List Expr} (h : ifs.length ≤ 1) (s : Shared) (H : Hp) (C : Addr) (cl : List (Str × Addr)) (fp : List Addr) : PTs (BX s H C cl fp) ifs (ttW BX ifs) := by
  cases ifs with
  | nil => exact pts_nil
  | cons ce r =>
    cases r with
    | nil =>
      have : PT (BX s H C cl fp) ce (ttW BX [ce]) := ⟨fun pins s' σ H' Q I q => q s H C cl fp pins s' I⟩
      exact pts_one this
    | cons _ _ => simp at h
theorem pe_W {BX : BXT} {e : Expr} (s : Shared) (H : Hp) (C : Addr) (cl : List (Str × Addr)) (fp : List Addr) : PE (BX s H C cl fp) e (teW BX e) := ⟨fun pins s' σ H' Q I q => q s H C cl fp pins s' I⟩
theorem pg_W {BX : BXT} {e : Expr} (s : Shared) (H : Hp) (C : Addr) (cl : List (Str × Addr)) (fp : List Addr) : PG (BX s H C cl fp) e (gW BX e) := ⟨fun pins s' σ H' v u Q I r q => q s H C cl fp pins s' u I r⟩
theorem SIf.len {ifs : List Expr} {c : IE} (h : SIf L G X ifs c) : ifs.length ≤ 1 := by
  rcases h with ⟨rfl, _⟩ | ⟨ce, rfl, _⟩ <;> simp
/-- the comprehension's reading, whatever it is stored to -/
theorem lc_ev {own : List Nat} {tg : Tg} {tgE : Expr} {it : II} {iter : Expr} {ifs : List Expr} {elt : Expr} {c e : IE} {BX : BXT} (hBK : ∀ s H C cl fp, (BX s H C cl fp).K = X.K) (hBw : ∀ s H C cl fp, (BX s H C cl fp).w = X.w)
    (htg : tgIn tg own = true) (hg : ∀ s H C cl fp, SG L G (BX s H C cl fp) tgE tg) (hi : ∀ s H C cl fp, SIf L G (BX s H C cl fp) ifs c) (he : ∀ s H C cl fp, SE L G (BX s H C cl fp) elt e) (hI : SI L G X tgE iter it) {fr : Bool}
    (σ : L2.St) (H : Hp) (g : Gh) (env : DEnv) (st : DSt) (d : D) (st' : DSt) (Q : VK) (hE : EnvR X.K X.w g H env σ) (hS : StOk X.K X.w g H st) (hev : evE (gam L) G (.lc own tg it c e) env st = some (d, st')) (P : Post X.K X.w fr g H st' d Q) :
    tLc (wpI X tgE iter) (gW BX tgE) (ttW BX ifs) (teW BX elt) own σ H Q := by
  rw [evE] at hev
  (replace hev := bindS hev); obtain ⟨⟨xs, st1⟩, e1, hev⟩ := hev
  (replace hev := bindS hev); obtain ⟨⟨ds, st2⟩, e2, hev⟩ := hev
  split at hev
  · rename_i hz
    cases hev
    have hz' : ds.length ≤ 100000 := of_decide_eq_true hz
    refine hI σ H g env st xs st1 _ hE hS e1 fun J H1 g1 x1 s1 W p hp => ?_
    have nz := s1.nZ hp
    have e2' : lcGo (fun x s => lcF L G own tg c e env x s) xs st1 = some (ds, st2) := e2
    refine ⟨fun i m Hc => m = xs.length - i ∧ i ≤ xs.length ∧ ∃ gc stc dsd acc rest, Gr X.K X.w g1 H1 p gc Hc stc dsd acc ∧ lcGo (fun x s => lcF L G own tg c e env x s) (xs.drop i) stc = some (rest, st2) ∧ ds = dsd ++ rest,
      ⟨xs.length, by simp, Nat.zero_le _, _, st1, [], [], ds, gr_start s1 hp, by rw [List.drop_zero]; exact e2', rfl⟩, ?_⟩
    rintro i m Hc ⟨rfl, hile, gc, stc, dsd, acc, rest, R, hgo, hds⟩
    obtain ⟨w1, w2⟩ := W gc Hc stc R.ext.e0 R.ok
    by_cases hlt : i < xs.length
    · have hx : xs[i]? = some xs[i] := List.getElem?_eq_getElem hlt
      rw [List.drop_eq_getElem_cons hlt] at hgo
      unfold lcGo at hgo
      (replace hgo := bindS hgo); obtain ⟨⟨r0, st3⟩, e3, hgo⟩ := hgo
      (replace hgo := bindS hgo); obtain ⟨⟨r1, st4⟩, e4, hgo⟩ := hgo
      cases hgo
      obtain ⟨w3, w4⟩ := w1 i _ hx
      refine .inr ⟨w3, fun H' => ∃ gc vs', Gr X.K X.w g1 H1 p gc H' st3 (dsd ++ r0) vs', fun H' ⟨gc', vs', R'⟩ => ⟨xs.length - (i + 1), by omega, rfl, hlt, gc', st3, dsd ++ r0, vs', r1, R', e4, by rw [hds, List.append_assoc]⟩, fun x H' hy => ?_⟩
      obtain ⟨x2, s2, rx⟩ := w4 x H' hy
      have R2 := R.go x2 s2
      refine lc_item hBK hBw htg hg hi he nz hp ((hE.ext x1).ext R2.ext) R2 ?_ rx e3 fun g' H' vs' R' _ => ⟨g', vs', R'⟩
      have := congrArg List.length hds
      simp only [List.length_append] at this ⊢
      omega
    · have hi' : xs.length ≤ i := by omega
      rw [List.drop_eq_nil_of_le hi'] at hgo
      unfold lcGo at hgo
      cases hgo
      rw [List.append_nil] at hds
      subst hds
      exact .inl ⟨w2 i hi', R.fin nz hp (P.mono x1)⟩
  · cases hev
theorem se_lc {own : List (Str × Nat)} {sc scope : Scope} {tg : Tg} {tgX iter elt : Expr} {it : II} {ifs : List Expr} {c e : IE} {pos : Pos} {k : Nat} {gl : List Str} (hX : XOk X k L gl G) (hr : ScR sc X.env.scope) (hb : blkC X.N sc scope own = true) (hf : plainI iter = true)
    (htg : tgIn tg (own.map (·.2)) = true) (hg : ∀ s H C cl fp, SG L G (X.blk s H scope (compEnvC scope cl C X.env) fp) tgX tg) (hi : ∀ s H C cl fp, SIf L G (X.blk s H scope (compEnvC scope cl C X.env) fp) ifs c)
    (he : ∀ s H C cl fp, SE L G (X.blk s H scope (compEnvC scope cl C X.env) fp) elt e) (hI : SI L G X tgX iter it) (hlen : ifs.length ≤ 1) : SE L G X (.ListComp elt [⟨tgX, iter, ifs, 0⟩] scope pos) (.lc (own.map (·.2)) tg it c e) := by
  intro σ H g env st d st' Q hE hS hev P
  exact le_E (pe_lc hX.calm hX.nd pi_wp (hr.blkOk hb) (pg_W (BX := fun s H C cl fp => X.blk s H scope (compEnvC scope cl C X.env) fp)) (pts_W (BX := fun s H C cl fp => X.blk s H scope (compEnvC scope cl C X.env) fp) hlen)
    (pe_W (BX := fun s H C cl fp => X.blk s H scope (compEnvC scope cl C X.env) fp)) (folded_of hf))
    (lc_ev (BX := fun s H C cl fp => X.blk s H scope (compEnvC scope cl C X.env) fp) (fun _ _ _ _ _ => rfl) (fun _ _ _ _ _ => rfl) htg hg hi he hI σ H g env st d st' Q hE hS hev P)
/-- with two fors -/
theorem lc2_ev {own own1 : List Nat} {tg tg1 : Tg} {tgE tgE1 : Expr} {it it1 : II} {iter iter1 : Expr} {ifs : List Expr} {elt : Expr} {c e : IE} {BX : BXT} (hBK : ∀ s H C cl fp, (BX s H C cl fp).K = X.K) (hBw : ∀ s H C cl fp, (BX s H C cl fp).w = X.w)
    (htg : tgIn tg own = true) (htg1 : tgIn tg1 own1 = true) (hg : ∀ s H C cl fp, SG L G (BX s H C cl fp) tgE tg) (hg1 : ∀ s H C cl fp, SG L G (BX s H C cl fp) tgE1 tg1) (hi : ∀ s H C cl fp, SIf L G (BX s H C cl fp) ifs c) (he : ∀ s H C cl fp, SE L G (BX s H C cl fp) elt e)
    (hI : SI L G X tgE iter it) (hI1 : ∀ s H C cl fp, SI L G (BX s H C cl fp) tgE1 iter1 it1) {fr : Bool}
    (σ : L2.St) (H : Hp) (g : Gh) (env : DEnv) (st : DSt) (d : D) (st' : DSt) (Q : VK) (hE : EnvR X.K X.w g H env σ) (hS : StOk X.K X.w g H st) (hev : evE (gam L) G (.lc2 own tg it own1 tg1 it1 c e) env st = some (d, st')) (P : Post X.K X.w fr g H st' d Q) :
    tLc2 (wpI X tgE iter) (gW BX tgE) tYes (fun σ H R => ∀ s H1 C cl fp, wpI (BX s H1 C cl fp) tgE1 iter1 σ H R) (gW BX tgE1) (ttW BX ifs) (teW BX elt) own own1 σ H Q := by
  rw [evE] at hev
  (replace hev := bindS hev); obtain ⟨⟨xs, st1⟩, e1, hev⟩ := hev
  (replace hev := bindS hev); obtain ⟨⟨ds, st2⟩, e2, hev⟩ := hev
  split at hev
  · rename_i hz
    cases hev
    have hz' : ds.length ≤ 100000 := of_decide_eq_true hz
    refine hI σ H g env st xs st1 _ hE hS e1 fun J H1 g1 x1 s1 W p hp => ?_
    have nz := s1.nZ hp
    have e2' : lcGo (fun x s => (asgT (gam L) G tg x (wipeD env own) s).bind fun w => (evI (gam L) G it1 w.1 w.2).bind fun r1 => lcGo (fun x1 s1 => lcF L G own1 tg1 c e w.1 x1 s1) r1.1 r1.2) xs st1 = some (ds, st2) := e2
    refine ⟨fun i m Hc => m = xs.length - i ∧ i ≤ xs.length ∧ ∃ gc stc dsd acc rest, Gr X.K X.w g1 H1 p gc Hc stc dsd acc ∧ lcGo (fun x s => (asgT (gam L) G tg x (wipeD env own) s).bind fun w => (evI (gam L) G it1 w.1 w.2).bind fun r1 => lcGo (fun x1 s1 => lcF L G own1 tg1 c e w.1 x1 s1) r1.1 r1.2) (xs.drop i) stc = some (rest, st2) ∧ ds = dsd ++ rest,
      ⟨xs.length, by simp, Nat.zero_le _, _, st1, [], [], ds, gr_start s1 hp, by rw [List.drop_zero]; exact e2', rfl⟩, ?_⟩
    rintro i m Hc ⟨rfl, hile, gc, stc, dsd, acc, rest, R, hgo, hds⟩
    obtain ⟨w1, w2⟩ := W gc Hc stc R.ext.e0 R.ok
    by_cases hlt : i < xs.length
    · have hx : xs[i]? = some xs[i] := List.getElem?_eq_getElem hlt
      rw [List.drop_eq_getElem_cons hlt] at hgo
      unfold lcGo at hgo
      (replace hgo := bindS hgo); obtain ⟨⟨r0, st3⟩, e3, hgo⟩ := hgo
      (replace hgo := bindS hgo); obtain ⟨⟨r1, st4⟩, e4, hgo⟩ := hgo
      cases hgo
      (replace e3 := bindS e3); obtain ⟨⟨env1, sta⟩, ea, e3⟩ := e3
      (replace e3 := bindS e3); obtain ⟨⟨ys, stb⟩, eb, e3⟩ := e3
      simp only at eb e3 e4 hds
      obtain ⟨w3, w4⟩ := w1 i _ hx
      refine .inr ⟨w3, fun H' => ∃ gc vs', Gr X.K X.w g1 H1 p gc H' st3 (dsd ++ r0) vs', fun H' ⟨gc', vs', R'⟩ => ⟨xs.length - (i + 1), by omega, rfl, hlt, gc', st3, dsd ++ r0, vs', r1, R', e4, by rw [hds, List.append_assoc]⟩, fun x H' hy => ?_⟩
      obtain ⟨x2, s2, rx⟩ := w4 x H' hy
      have R2 := R.go x2 s2
      have hE2 := (((hE.ext x1).ext R2.ext).wipe own)
      intro s0 Hs C cl fp
      refine hg s0 Hs C cl fp x _ H' gc _ _ stc env1 sta _ (by rw [hBK, hBw]; exact rx) (by rw [hBK, hBw]; exact hE2) (by rw [hBK, hBw]; exact s2) ea fun σ2 H2 g2 x3 s3 E3 w5 => ⟨(w5 own htg).trans (wipe_sub fun _ h => h), ?_⟩
      rw [hBK, hBw] at s3 E3
      have R3 := R2.go x3 s3
      refine iteT (B := ∃ gc vs', Gr X.K X.w g1 H1 p gc H2 st3 (dsd ++ r0) vs') ?_
      intro s0 Hs C cl fp
      refine hI1 s0 Hs C cl fp σ2 H2 g2 env1 sta ys stb _ (by rw [hBK, hBw]; exact E3) (by rw [hBK, hBw]; exact s3) eb fun J1 H4 g4 x4 s4 W1 => ?_
      rw [hBK, hBw] at s4 W1
      have R4 := R3.go x4 s4
      have E4 := E3.ext x4
      refine ⟨fun j m Hd => m = ys.length - j ∧ j ≤ ys.length ∧ ∃ gd std dse acc' rest', Gr X.K X.w g1 H1 p gd Hd std (dsd ++ dse) acc' ∧ Ext0 g4 H4 gd Hd ∧ lcGo (fun x1 s1 => lcF L G own1 tg1 c e env1 x1 s1) (ys.drop j) std = some (rest', st3) ∧ r0 = dse ++ rest',
        ⟨ys.length, by simp, Nat.zero_le _, g4, stb, [], acc, r0, by rw [List.append_nil]; exact R4, Ext0.refl _ _, by rw [List.drop_zero]; exact e3, rfl⟩, ?_⟩
      rintro j m Hd ⟨rfl, hjle, gd, std, dse, acc', rest', R5, x5, hgo1, hr0⟩
      obtain ⟨u1, u2⟩ := W1 gd Hd std x5 R5.ok
      by_cases hjt : j < ys.length
      · have hy1 : ys[j]? = some ys[j] := List.getElem?_eq_getElem hjt
        rw [List.drop_eq_getElem_cons hjt] at hgo1
        unfold lcGo at hgo1
        (replace hgo1 := bindS hgo1); obtain ⟨⟨t0, st5⟩, e5, hgo1⟩ := hgo1
        (replace hgo1 := bindS hgo1); obtain ⟨⟨t1, st6⟩, e6, hgo1⟩ := hgo1
        cases hgo1
        obtain ⟨u3, u4⟩ := u1 j _ hy1
        refine .inr ⟨u3, fun H' => ∃ gc vs', Gr X.K X.w g1 H1 p gc H' st5 (dsd ++ dse ++ t0) vs' ∧ Ext0 g4 H4 gc H', fun H' ⟨gc', vs', R', x'⟩ => ⟨ys.length - (j + 1), by omega, rfl, hjt, gc', st5, dse ++ t0, vs', t1, by rw [← List.append_assoc]; exact R', x', e6, by rw [hr0, List.append_assoc]⟩, fun y H' hy => ?_⟩
        obtain ⟨x6, s6, ry⟩ := u4 y H' hy
        have R6 := R5.go x6 s6
        refine lc_item hBK hBw htg1 hg1 hi he nz hp (E4.ext0 (x5.trans x6.e0)) R6 ?_ ry e5 fun g' H' vs' R' x7 => ⟨g', vs', R', (x5.trans x6.e0).trans x7⟩
        have h1 := congrArg List.length hds
        have h2 := congrArg List.length hr0
        simp only [List.length_append] at h1 h2 ⊢
        omega
      · have hj' : ys.length ≤ j := by omega
        rw [List.drop_eq_nil_of_le hj'] at hgo1
        unfold lcGo at hgo1
        cases hgo1
        rw [List.append_nil] at hr0
        subst hr0
        exact .inl ⟨u2 j hj', gd, acc', R5⟩
    · have hi' : xs.length ≤ i := by omega
      rw [List.drop_eq_nil_of_le hi'] at hgo
      unfold lcGo at hgo
      cases hgo
      rw [List.append_nil] at hds
      subst hds
      exact .inl ⟨w2 i hi', R.fin nz hp (P.mono x1)⟩
  · cases hev
theorem pi_W {BX : BXT} {t e : Expr} (s : Shared) (H : Hp) (C : Addr) (cl : List (Str × Addr)) (fp : List Addr) : PI (BX s H C cl fp) t e (fun σ H R => ∀ s H1 C cl fp, wpI (BX s H1 C cl fp) t e σ H R) := ⟨fun pins s' σ H' R I q => q s H C cl fp pins s' I⟩
theorem se_lc2 {own : List (Str × Nat)} {own1 : List Nat} {sc scope : Scope} {tg tg1 : Tg} {tgX tgX1 iter iter1 elt : Expr} {it it1 : II} {ifs : List Expr} {c e : IE} {pos : Pos} {k : Nat} {gl : List Str} (hX : XOk X k L gl G) (hr : ScR sc X.env.scope) (hb : blkC X.N sc scope own = true) (hf : plainI iter = true) (hf1 : plainI iter1 = true)
    (hsub : ∀ i ∈ own1, i ∈ own.map (·.2)) (htg : tgIn tg (own.map (·.2)) = true) (htg1 : tgIn tg1 own1 = true)
    (hg : ∀ s H C cl fp, SG L G (X.blk s H scope (compEnvC scope cl C X.env) fp) tgX tg) (hg1 : ∀ s H C cl fp, SG L G (X.blk s H scope (compEnvC scope cl C X.env) fp) tgX1 tg1) (hi : ∀ s H C cl fp, SIf L G (X.blk s H scope (compEnvC scope cl C X.env) fp) ifs c)
    (he : ∀ s H C cl fp, SE L G (X.blk s H scope (compEnvC scope cl C X.env) fp) elt e) (hI : SI L G X tgX iter it) (hI1 : ∀ s H C cl fp, SI L G (X.blk s H scope (compEnvC scope cl C X.env) fp) tgX1 iter1 it1) (hlen : ifs.length ≤ 1) :
    SE L G X (.ListComp elt [⟨tgX, iter, [], 0⟩, ⟨tgX1, iter1, ifs, 0⟩] scope pos) (.lc2 (own.map (·.2)) tg it own1 tg1 it1 c e) := by
  intro σ H g env st d st' Q hE hS hev P
  exact le_E (pe_lc2 hX.calm hX.nd pi_wp (hr.blkOk hb) hsub (pg_W (BX := fun s H C cl fp => X.blk s H scope (compEnvC scope cl C X.env) fp)) (fun _ _ _ _ _ => pts_nil)
    (pi_W (BX := fun s H C cl fp => X.blk s H scope (compEnvC scope cl C X.env) fp)) (pg_W (BX := fun s H C cl fp => X.blk s H scope (compEnvC scope cl C X.env) fp)) (pts_W (BX := fun s H C cl fp => X.blk s H scope (compEnvC scope cl C X.env) fp) hlen)
    (pe_W (BX := fun s H C cl fp => X.blk s H scope (compEnvC scope cl C X.env) fp)) (folded_of hf) (fun env => folded_of hf1))
    (lc2_ev (BX := fun s H C cl fp => X.blk s H scope (compEnvC scope cl C X.env) fp) (fun _ _ _ _ _ => rfl) (fun _ _ _ _ _ => rfl) htg htg1 hg hg1 hi he hI hI1 σ H g env st d st' Q hE hS hev P)
end
end Py

set_option Elab.async false
set_option linter.all false
set_option maxRecDepth 100000
set_option autoImplicit false
set_option maxHeartbeats 2000000
namespace Py
open PySem PySem.Spec L2
section
variable {L : List DFn} {G : List D} {X : Cx}
def RE (L : List DFn) (G : List D) (X : Cx) (t : TE) (ie : IE) : Prop := ∀ (σ : L2.St) (H : Hp) (g : Gh) (env : DEnv) (st : DSt) (d : D) (st' : DSt) (Q : VK),
  EnvR X.K X.w g H env σ → StOk X.K X.w g H st → evE (gam L) G ie env st = some (d, st') → Post X.K X.w (frsh L ie) g H st' d Q → t σ H Q
theorem re_al {t : TE} {ie : IE} (hf : frsh L ie = true) (h : RE L G X t ie) : RE L G X t (.al ie) := by
  intro σ H g env st d st' Q hE hS hev P
  rw [evE] at hev
  (replace hev := bindS hev); obtain ⟨⟨x, st1⟩, e1, hev⟩ := hev
  refine h σ H g env st x st1 _ hE hS e1 fun v H1 g1 x1 s1 r1 fr => ?_
  have fr := fr hf
  have key : ∀ (p : Addr) (o : O), v = .ref p → H p = none → ¬ g1.Z p → H1 p ≠ none → (StOk X.K X.w ⟨fun a => g1.Z a ∨ a = p, g1.ρ⟩ H1 st1) → (∀ g2 : Gh, Ext0 ⟨fun a => g1.Z a ∨ a = p, g1.ρ⟩ H1 g2 H1 → ORel X.K X.w g2 H1 o p) →
      some (D.ref st1.length, st1 ++ [o]) = some (d, st') → Q v H1 := by
    intro p o ev hp nz ht S ho he
    cases he
    subst ev
    have ll := s1.len
    have e2 : Ext0 ⟨fun a => g1.Z a ∨ a = p, g1.ρ⟩ H1 ⟨fun a => g1.Z a ∨ a = p, g1.ρ ++ [some p]⟩ H1 := ⟨fun a o z q => ⟨q, z⟩, by simp, fun k a hk q => by rwa [List.getElem?_append_left hk] at q⟩
    have np : ∀ k : Nat, g1.ρ[k]? ≠ some (some p) := fun k q => nz (s1.inZ k p q)
    have last : ∀ (k : Nat) a, (g1.ρ ++ [some p])[k]? = some (some a) → g1.ρ[k]? = some (some a) ∨ (k = g1.ρ.length ∧ a = p) := fun k a q => by
      by_cases hk : k < g1.ρ.length
      · rw [List.getElem?_append_left hk] at q
        exact .inl q
      · rw [List.getElem?_append_right (by omega)] at q
        have hk2 : k - g1.ρ.length = 0 := by
          by_cases h0 : k - g1.ρ.length = 0
          · exact h0
          · rw [List.getElem?_eq_none (by simp; omega)] at q
            cases q
        rw [hk2] at q
        simp at q
        exact .inr ⟨by omega, q.symm⟩
    refine P (.ref p) H1 ⟨fun a => g1.Z a ∨ a = p, g1.ρ ++ [some p]⟩ ⟨fun a o z q => ?_, fun a z n => ?_, x1.trk, ?_, fun k a hk q => ?_⟩ ⟨by simp [ll], fun k j a h1 h2 => ?_, fun k a h1 => ?_, S.trk, fun k a o' h1 h2 => ?_, fun k o' h2 => ?_⟩ ?_ fun hb => by cases hb
    · obtain ⟨h1, h2⟩ := x1.keep a o z q
      exact ⟨h1, fun q' => q'.elim h2 fun q' => ne_of_none q hp q'⟩
    · obtain ⟨h1, h2, h3⟩ := x1.pend a z n
      refine ⟨h1, .inl h2, fun k q => ?_⟩
      rcases last k a q with q | ⟨_, q⟩
      · exact h3 k q
      · exact hS.trk a z (q ▸ hp)
    · have := x1.len
      show g.ρ.length ≤ (g1.ρ ++ [some p]).length
      rw [List.length_append]
      omega
    · have hk2 : k < g1.ρ.length := Nat.lt_of_lt_of_le hk x1.len
      have q : (g1.ρ ++ [some p])[k]? = some (some a) := q
      rw [List.getElem?_append_left hk2] at q
      exact x1.refs k a hk q
    · rcases last k a h1 with h1 | ⟨k1, a1⟩
      · rcases last j a h2 with h2 | ⟨j1, a2⟩
        · exact s1.inj k j a h1 h2
        · exact absurd (a2 ▸ h1) (np k)
      · rcases last j a h2 with h2 | ⟨j1, a2⟩
        · exact absurd (a1 ▸ h2) (np j)
        · omega
    · rcases last k a h1 with h1 | ⟨k1, a1⟩
      · exact .inl (s1.inZ k a h1)
      · exact .inr a1
    · rcases last k a h1 with h1 | ⟨k1, a1⟩
      · have hk : k < st1.length := by
          have := (List.getElem?_eq_some_iff.mp h1).1
          omega
        have h2 : (st1 ++ [o])[k]? = some o' := h2
        rw [List.getElem?_append_left hk] at h2
        exact (S.obj k a o' h1 h2).ext0 e2 rfl
      · subst a1
        have h2 : (st1 ++ [o])[k]? = some o' := h2
        rw [k1, ll, List.getElem?_concat_length] at h2
        cases h2
        exact ho _ e2
    · have h2 : (st1 ++ [o])[k]? = some o' := h2
      by_cases hk : k < st1.length
      · rw [List.getElem?_append_left hk] at h2
        rcases S.live k o' h2 with ⟨q1, q2⟩ | ⟨a, q⟩
        · refine .inl ⟨q1, ?_⟩
          show (g1.ρ ++ [some p])[k]? = _
          rw [List.getElem?_append_left (by omega)]
          exact q2
        · refine .inr ⟨a, ?_⟩
          show (g1.ρ ++ [some p])[k]? = _
          rw [List.getElem?_append_left (by omega)]
          exact q
      · have hl := (List.getElem?_eq_some_iff.mp h2).1
        rw [List.length_append, List.length_singleton] at hl
        refine .inr ⟨p, ?_⟩
        show (g1.ρ ++ [some p])[k]? = _
        rw [show k = g1.ρ.length by omega, List.getElem?_concat_length]
    · rw [RelD]
      refine ⟨?_, fun a q => ?_⟩
      · show st1.length < (g1.ρ ++ [some p]).length
        rw [List.length_append, ll]
        simp
      · have q : (g1.ρ ++ [some p])[st1.length]? = some (some a) := q
        rw [← ll, List.getElem?_concat_length] at q
        cases q
        rfl
  split at hev
  · rename_i xs hx
    simp only at hx
    subst hx
    obtain ⟨p, vs, ev, hp, nz, hH, hr, hs⟩ := fr.1 xs rfl
    exact key p (.lst xs) ev hp nz (by rw [hH]; simp) hs (fun g2 e => ⟨vs, hH, RelDs.ext0 e hr⟩) hev
  · rename_i kvs hx
    simp only at hx
    subst hx
    obtain ⟨p, es, ev, hp, nz, hH, hd, hr, hs⟩ := fr.2 kvs rfl
    exact key p (.dct kvs) ev hp nz (by rw [hH]; simp) hs (fun g2 e => ⟨es, hH, hd, RelKs.ext0 e hr⟩) hev
  · cases hev
/-! ### statements -/
def EndOk (K : PySem.W.Frag) (w : World) (b : Bool) (g : Gh) (H : Hp) : Out → Ends → Prop
  | .nx env' st', D => ∀ σ' H' g', Ext g H g' H' → StOk K w g' H' st' → EnvR K w g' H' env' σ' → D.nx σ' H'
  | .rt d st', D => Post K w b g H st' d D.rt
theorem EndOk.mono {K : PySem.W.Frag} {w : World} {b : Bool} {g g1 : Gh} {H H1 : Hp} {o : Out} {D : Ends} (h : EndOk K w b g H o D) (e : Ext g H g1 H1) : EndOk K w b g1 H1 o D := by
  cases o with
  | nx env' st' => exact fun σ' H' g' x s E => h σ' H' g' (e.trans x) s E
  | rt d st' => exact Post.mono h e
end
section
variable (L : List DFn) (G : List D) (X : Cx) (b : Bool)
def SS (s : Stmt) (is : IS) : Prop := ∀ (σ : L2.St) (H : Hp) (g : Gh) (env : DEnv) (st : DSt) (out : Out) (D : Ends), EnvR X.K X.w g H env σ → StOk X.K X.w g H st → evS (gam L) G is env st = some out → EndOk X.K X.w b g H out D → wpS X s D σ H
def SSs (s : List Stmt) (is : ISs) : Prop := ∀ (σ : L2.St) (H : Hp) (g : Gh) (env : DEnv) (st : DSt) (out : Out) (D : Ends), EnvR X.K X.w g H env σ → StOk X.K X.w g H st → evSs (gam L) G is env st = some out → EndOk X.K X.w b g H out D → wpSs X s D σ H
end
section
variable {L : List DFn} {G : List D} {X : Cx} {b : Bool}
theorem sss_nil : SSs L G X b [] .nil := by
  intro σ H g env st out D hE hS hev hO
  rw [evSs] at hev
  cases hev
  exact le_Ss pss_nil (hO σ H g (Ext.refl g H) hS hE)
theorem sss_cons {s : Stmt} {ss : List Stmt} {is : IS} {iss : ISs} (h1 : SS L G X b s is) (h2 : SSs L G X b ss iss) : SSs L G X b (s :: ss) (.cons is iss) := by
  intro σ H g env st out D hE hS hev hO
  rw [evSs] at hev
  (replace hev := bindS hev); obtain ⟨o, e1, hev⟩ := hev
  refine le_Ss (pss_cons ps_wp pss_wp) ?_
  show wpS X s { D with nx := wpSs X ss D } σ H
  refine h1 σ H g env st o _ hE hS e1 ?_
  cases o with
  | nx env' st' => exact fun σ' H' g' x s E => h2 σ' H' g' env' st' out D E s hev (hO.mono x)
  | rt d st' =>
    cases hev
    exact hO
theorem ss_pass {pos : Pos} : SS L G X b (.Pass pos) .pass := by
  intro σ H g env st out D hE hS hev hO
  rw [evS] at hev
  cases hev
  exact le_S ps_pass (hO σ H g (Ext.refl g H) hS hE)
theorem ss_rse {s : Stmt} : SS L G X b s .rse := by
  intro σ H g env st out D hE hS hev hO
  rw [evS] at hev
  cases hev
theorem ss_ret {e : Expr} {ie : IE} {pos : Pos} (h : SE L G X e ie) (hb : b = true → frsh L ie = true) : SS L G X b (.Return (some e) pos) (.ret ie) := by
  intro σ H g env st out D hE hS hev hO
  rw [evS] at hev
  (replace hev := bindS hev); obtain ⟨⟨d, st1⟩, e1, hev⟩ := hev
  cases hev
  refine le_S (ps_ret pe_wp) (h σ H g env st d st1 _ hE hS e1 ?_)
  have hO : Post X.K X.w b g H st1 d D.rt := hO
  cases b with
  | false => exact Post.any hO
  | true =>
    have := hb rfl
    rw [this]
    exact hO
/-- an own list of the store, given back -/
theorem ss_retO {e : Expr} {i : Nat} {pos : Pos} (h : SE L G X e (.var i)) : SS L G X b (.Return (some e) pos) (.retO i) := by
  intro σ H g env st out D hE hS hev hO
  rw [evS] at hev
  split at hev
  · rename_i k hi
    cases hev
    have hO : Post X.K X.w b g H st (.ref k) D.rt := hO
    refine le_S (ps_ret pe_wp) (h σ H g env st (.ref k) st _ hE hS (by rw [evE, hi]) ?_)
    exact fun v H' g' x s r _ => hO v H' g' x s r fun _ => .of_flat rfl
  · cases hev
theorem ss_retN {pos : Pos} : SS L G X b (.Return none pos) .retN := by
  intro σ H g env st out D hE hS hev hO
  rw [evS] at hev
  cases hev
  have hO : Post X.K X.w b g H st .non D.rt := hO
  exact le_S ps_retN (hO.val hS relD_non fun _ => rfl)
def isComp : Expr → Bool
  | .ListComp .. => true
  | .SetComp .. => true
  | .DictComp .. => true
  | _ => false
theorem swaps_not {e : Expr} {t : Option Expr} {l : Nat} {env : Env} (h : isComp e = false) : swapsWith e t l env = pure false := by
  cases e <;> first | rfl | (simp [isComp] at h)
theorem ss_ex {e : Expr} {ie : IE} {pos : Pos} (h : SE L G X e ie) (hc : isComp e = false) : SS L G X b (.Expr e pos) (.ex ie) := by
  intro σ H g env st out D hE hS hev hO
  rw [evS] at hev
  (replace hev := bindS hev); obtain ⟨⟨d, st1⟩, e1, hev⟩ := hev
  cases hev
  refine le_S (ps_expr pe_wp (swaps_not hc)) (h σ H g env st d st1 _ hE hS e1 fun v H1 g1 x1 s1 r1 _ => ?_)
  exact hO σ H1 g1 x1 s1 (hE.ext x1)
theorem ss_ite {c : Expr} {ic : IE} {s1 s2 : List Stmt} {i1 i2 : ISs} {pos : Pos} (hc : ST L G X c ic) (h1 : SSs L G X b s1 i1) (h2 : SSs L G X b s2 i2) : SS L G X b (.If c s1 s2 pos) (.ite ic i1 i2) := by
  intro σ H g env st out D hE hS hev hO
  rw [evS] at hev
  (replace hev := bindS hev); obtain ⟨⟨t, st1⟩, e1, hev⟩ := hev
  unfold evT at e1
  (replace e1 := bindS e1); obtain ⟨⟨d, st2⟩, e2, e1⟩ := e1
  split at e1
  · rename_i t' hd
    simp only at hd
    subst hd
    cases e1
    refine le_S (ps_if pt_wp pss_wp pss_wp) ?_
    refine hc σ H g env st _ _ _ hE hS e2 fun H1 g1 x1 s1 => ?_
    cases t with
    | true =>
      rw [if_pos rfl]
      exact h1 σ H1 g1 env _ out D (hE.ext x1) s1 hev (hO.mono x1)
    | false =>
      rw [if_neg (by simp)]
      exact h2 σ H1 g1 env _ out D (hE.ext x1) s1 hev (hO.mono x1)
  · cases e1
theorem ss_for {tg iter : Expr} {t : Tg} {it : II} {body : List Stmt} {ib : ISs} {pos : Pos} {k : Nat} {gl : List Str} (hX : XOk X k L gl G) (hf : plainI iter = true) (hg : SG L G X tg t) (hI : SI L G X tg iter it) (hb : SSs L G X b body ib) :
    SS L G X b (.For tg iter body [] pos) (.for_ t it ib) := by
  intro σ H g env st out D hE hS hev hO
  rw [evS] at hev
  (replace hev := bindS hev); obtain ⟨⟨xs, st1⟩, e1, hev⟩ := hev
  have hp : PassesOwn (model X.prog X.w) X.A X.env X.xe := by
    rw [hX.xe]
    exact PassesOwn.never
  refine le_S (ps_for hp hX.calm pi_wp pg_wp pss_wp (folded_of hf)) ?_
  refine hI σ H g env st xs st1 _ hE hS e1 fun J H1 g1 x1 s1 W => ?_
  refine ⟨fun i m σc Hc => m = xs.length - i ∧ i ≤ xs.length ∧ ∃ gc envc stc, Ext g1 H1 gc Hc ∧ StOk X.K X.w gc Hc stc ∧ EnvR X.K X.w gc Hc envc σc ∧ forGo (fun x env s => (asgT (gam L) G t x env s).bind fun w => evSs (gam L) G ib w.1 w.2) (xs.drop i) envc stc = some out,
    ⟨xs.length, by simp, Nat.zero_le _, g1, env, st1, Ext.refl _ _, s1, hE.ext x1, by rw [List.drop_zero]; exact hev⟩, ?_⟩
  rintro i m σc Hc ⟨rfl, hile, gc, envc, stc, xc, sc, Ec, hgo⟩
  obtain ⟨w1, w2⟩ := W gc Hc stc xc.e0 sc
  by_cases hlt : i < xs.length
  · have hx : xs[i]? = some xs[i] := List.getElem?_eq_getElem hlt
    rw [List.drop_eq_getElem_cons hlt] at hgo
    unfold forGo at hgo
    (replace hgo := bindS hgo); obtain ⟨o, e2, hgo⟩ := hgo
    (replace e2 := bindS e2); obtain ⟨⟨envd, std⟩, e3, e2⟩ := e2
    simp only at e2
    obtain ⟨w3, w4⟩ := w1 i _ hx
    refine .inr ⟨w3, fun σ' H' => ∃ gc envc stc, Ext g1 H1 gc H' ∧ StOk X.K X.w gc H' stc ∧ EnvR X.K X.w gc H' envc σ' ∧ forGo (fun x env s => (asgT (gam L) G t x env s).bind fun w => evSs (gam L) G ib w.1 w.2) (xs.drop (i + 1)) envc stc = some out,
      fun σ' H' ⟨gc', envc', stc', a1, a2, a3, a4⟩ => ⟨xs.length - (i + 1), by omega, rfl, hlt, gc', envc', stc', a1, a2, a3, a4⟩, fun x H' hy => ?_⟩
    obtain ⟨x2, s2, rx⟩ := w4 x H' hy
    refine hg x σc H' gc _ envc stc envd std _ rx (Ec.ext x2) s2 e3 fun σ2 H2 g2 x3 s3 E3 _ => ?_
    refine hb σ2 H2 g2 envd std o _ E3 s3 e2 ?_
    cases o with
    | nx env' st' => exact fun σ' H' g' x s E => ⟨g', env', st', ((xc.trans x2).trans x3).trans x, s, E, hgo⟩
    | rt d st' =>
      cases hgo
      exact Post.mono hO (((x1.trans xc).trans x2).trans x3)
  · have hi' : xs.length ≤ i := by omega
    rw [List.drop_eq_nil_of_le hi'] at hgo
    unfold forGo at hgo
    cases hgo
    exact .inl ⟨w2 i hi', hO σc Hc gc (x1.trans xc) sc Ec⟩
theorem ss_whl {c : Expr} {ic : IE} {body : List Stmt} {ib : ISs} {pos : Pos} {k : Nat} {gl : List Str} (hX : XOk X k L gl G) (hc : ST L G X c ic) (hb : SSs L G X b body ib) : SS L G X b (.While c body [] pos) (.whl ic ib) := by
  intro σ H g env st out D hE hS hev hO
  rw [evS] at hev
  have hp : PassesOwn (model X.prog X.w) X.A X.env X.xe := by
    rw [hX.xe]
    exact PassesOwn.never
  unfold wh at hev
  split at hev
  · rename_i hex
    refine le_S (ps_while hp pt_wp pss_wp) ?_
    refine ⟨fun m σc Hc => ∃ gc envc stc, Ext g H gc Hc ∧ StOk X.K X.w gc Hc stc ∧ EnvR X.K X.w gc Hc envc σc ∧ whGo (fun env st => evT (gam L) G ic env st) (fun env st => evSs (gam L) G ib env st) m envc stc = some out,
      ⟨hex.choose, g, env, st, Ext.refl _ _, hS, hE, hev⟩, ?_⟩
    rintro m σc Hc ⟨gc, envc, stc, xc, sc, Ec, hgo⟩
    cases m with
    | zero => cases hgo
    | succ m =>
      unfold whGo at hgo
      (replace hgo := bindS hgo); obtain ⟨⟨t, st1⟩, e1, hgo⟩ := hgo
      unfold evT at e1
      (replace e1 := bindS e1); obtain ⟨⟨d, st2⟩, e2, e1⟩ := e1
      split at e1
      · rename_i t' hd
        simp only at hd
        subst hd
        cases e1
        refine hc σc Hc gc envc stc _ _ _ Ec sc e2 fun H1 g1 x1 s1 => ?_
        cases t with
        | true =>
          rw [if_pos rfl]
          simp only at hgo
          (replace hgo := bindS hgo); obtain ⟨o, e3, hgo⟩ := hgo
          refine ⟨fun σ' H' => ∃ gc envc stc, Ext g H gc H' ∧ StOk X.K X.w gc H' stc ∧ EnvR X.K X.w gc H' envc σ' ∧ whGo (fun env st => evT (gam L) G ic env st) (fun env st => evSs (gam L) G ib env st) m envc stc = some out,
            fun σ' H' q => ⟨m, Nat.lt_succ_self m, q⟩, ?_⟩
          refine hb σc H1 g1 envc _ o _ (Ec.ext x1) s1 e3 ?_
          cases o with
          | nx env' st' => exact fun σ' H' g' x s E => ⟨g', env', st', (xc.trans x1).trans x, s, E, hgo⟩
          | rt d st' =>
            cases hgo
            exact Post.mono hO (xc.trans x1)
        | false =>
          rw [if_neg (by simp)]
          simp only at hgo
          cases hgo
          exact hO σc H1 g1 (xc.trans x1) s1 (Ec.ext x1)
      · cases e1
  · cases hev
end
end Py

set_option Elab.async false
set_option linter.all false
set_option maxRecDepth 100000
set_option autoImplicit false
set_option maxHeartbeats 2000000
namespace Py
open PySem PySem.Spec L2
section
variable {L : List DFn} {G : List D} {X : Cx} {b : Bool}
theorem se_al {e : Expr} {ie : IE} (hf : frsh L ie = true) (h : SE L G X e ie) : SE L G X e (.al ie) := re_al (t := wpE X e) hf h
/-! ### stores -/
def tupE : Expr → Bool
  | .Tuple .. => true
  | _ => false
def lstE : Expr → Bool
  | .List .. => true
  | _ => false
theorem sw_none1 {tg e : Expr} {env : Env} (h1 : tupE tg = false) (h2 : lstE tg = false) : swappedStores [tg] e env = pure none := by
  cases tg <;> first | rfl | (simp [tupE] at h1; done) | (simp [lstE] at h2; done)
theorem sw_none2 {tg e : Expr} {env : Env} (h : tupE e = false) : swappedStores [tg] e env = pure none := by
  cases e <;> first | (cases tg <;> rfl) | (simp [tupE] at h; done)
def swF (sc : Scope) (l : Nat) : Expr → Option Str
  | .Name id pos => if sc.names.lookup id == some .local && pos.line == l then some id else none
  | _ => none
def swNs (sc : Scope) (ts : List Expr) : List Str := ts.filterMap (swF sc ((ts.head?.map (·.pos.line)).getD 0))
theorem swNs_key {sc : Scope} {ts : List Expr} : ∀ f : Expr → Option Str, (∀ x, f x = swF sc ((ts.head?.map (·.pos.line)).getD 0) x) → ts.filterMap f = swNs sc ts := fun f h => by
  unfold swNs
  congr 1
  funext x
  exact h x
def swTT (sc : Scope) (ts vs : List Expr) : Bool := !(ts.length == 2 || ts.length == 3) || vs.length != ts.length || (swNs sc ts).length != ts.length || vs.all (foldedForSure 8)
theorem sw_none3 {ts vs : List Expr} {k k2 : Nat} {p p2 : Pos} {env : Env} (hp : vs.all plainE = true) (h : swTT env.scope ts vs = true) : swappedStores [.Tuple ts k p] (.Tuple vs k2 p2) env = pure none := by
  unfold swappedStores
  unfold swTT at h
  have hs : (vs.any fun | .Starred .. => true | _ => false) = false := by
    rw [List.any_eq_false]
    intro x hx
    have := List.all_eq_true.mp hp x hx
    cases x <;> first | (simp; done) | (simp [plainE] at this; done)
  simp only [hs]
  generalize hN : List.filterMap _ ts = N
  have hN2 : swNs env.scope ts = N := by
    rw [← hN]
    exact (swNs_key _ (by intro x; cases x <;> rfl)).symm
  rw [hN2] at h
  split
  · rfl
  · rename_i c1
    split
    · rfl
    · split
      · rfl
      · rename_i c3
        split
        · rfl
        · rename_i c4
          exfalso
          rw [Bool.or_eq_true, Bool.or_eq_true, Bool.or_eq_true] at h
          rw [Bool.or_eq_true, Bool.or_eq_true, not_or, not_or] at c1
          rw [Bool.or_eq_true, not_or] at c3
          rcases h with ((h | h) | h) | h
          · exact c1.1.1 h
          · exact c1.1.2 h
          · exact c3.1 h
          · exact c4 h
theorem nostar {vs : List Expr} (hp : vs.all plainE = true) {f : Expr → Bool} (hf : ∀ x, plainE x = true → f x = false) : ¬ (vs.any f) = true := fun h => by
  obtain ⟨x, hx, h⟩ := List.any_eq_true.mp h
  rw [hf x (List.all_eq_true.mp hp x hx)] at h
  cases h
def sw2 (sc : Scope) (x y : Str) (px py : Pos) (a b : Expr) : Bool := decide (sc.names.lookup x = some .local) && decide (sc.names.lookup y = some .local) && (py.line == px.line) && decide (x ≠ y) &&
  !([a, b].all (foldedForSure 8)) && !([a, b].all (constantsAlone 8)) && plainE a && plainE b && decide (sc.kind = .function)
theorem blockKind_fn {env : Env} (h : env.scope.kind = .function) : env.blockKind = .function := by
  unfold Env.blockKind
  rw [h]
  rfl
theorem sw_some2 {x y : Str} {a c : Expr} {px py p p2 : Pos} {k k2 : Nat} {env : Env} (h : sw2 env.scope x y px py a c = true) : swappedStores [.Tuple [.Name x px, .Name y py] k p] (.Tuple [a, c] k2 p2) env = pure (some [x, y]) := by
  unfold sw2 at h
  simp only [Bool.and_eq_true, decide_eq_true_eq, Bool.not_eq_true'] at h
  obtain ⟨⟨⟨⟨⟨⟨⟨⟨h1, h2⟩, h3⟩, h4⟩, h5⟩, h6⟩, h7⟩, h8⟩, h9⟩ := h
  unfold swappedStores
  have hpl : [a, c].all plainE = true := by simp [h7, h8]
  simp only [blockKind_fn h9]
  have e1 : swNs env.scope [Expr.Name x px, Expr.Name y py] = [x, y] := by
    have l1 : (List.lookup x env.scope.names == some NameKind.local && px.line == (Option.map (fun x => x.pos.line) [Expr.Name x px, Expr.Name y py].head?).getD 0) = true := by
      rw [h1]
      show (true && px.line == px.line) = true
      simp
    have l2 : (List.lookup y env.scope.names == some NameKind.local && py.line == (Option.map (fun x => x.pos.line) [Expr.Name x px, Expr.Name y py].head?).getD 0) = true := by
      rw [h2]
      show (true && py.line == px.line) = true
      rw [h3]
      rfl
    unfold swNs
    rw [List.filterMap_cons, List.filterMap_cons, List.filterMap_nil]
    simp only [swF, l1, l2, if_true]
  generalize hN : List.filterMap _ (_ :: _) = N
  have hN2 : swNs env.scope [Expr.Name x px, Expr.Name y py] = N := by
    rw [← hN]
    exact (swNs_key _ (by intro x; cases x <;> rfl)).symm
  rw [e1] at hN2
  subst hN2
  have e2 : [x, y].eraseDups = [x, y] := by
    simp [List.eraseDups_cons, Ne.symm h4]
  rw [e2, h5, h6]
  rw [if_neg (by simp), if_neg (nostar hpl (by intro x hx; cases x <;> first | rfl | (simp [plainE] at hx; done))), if_neg (by simp), if_neg (by simp), if_neg (by simp)]
def sw3 (sc : Scope) (x y z : Str) (px py pz : Pos) (a b c : Expr) : Bool := decide (sc.names.lookup x = some .local) && decide (sc.names.lookup y = some .local) && decide (sc.names.lookup z = some .local) && (py.line == px.line) && (pz.line == px.line) && decide (x ≠ y) && decide (x ≠ z) && decide (y ≠ z) &&
  !([a, b, c].all (foldedForSure 8)) && !([a, b, c].all (constantsAlone 8)) && plainE a && plainE b && plainE c && decide (sc.kind = .function)
theorem sw_some3 {x y z : Str} {a c d : Expr} {px py pz p p2 : Pos} {k k2 : Nat} {env : Env} (h : sw3 env.scope x y z px py pz a c d = true) : swappedStores [.Tuple [.Name x px, .Name y py, .Name z pz] k p] (.Tuple [a, c, d] k2 p2) env = pure (some [x, y, z]) := by
  unfold sw3 at h
  simp only [Bool.and_eq_true, decide_eq_true_eq, Bool.not_eq_true'] at h
  obtain ⟨⟨⟨⟨⟨⟨⟨⟨⟨⟨⟨⟨⟨h1, h2⟩, h2'⟩, h3⟩, h3'⟩, h4⟩, h4'⟩, h4''⟩, h5⟩, h6⟩, h7⟩, h8⟩, h8'⟩, h9⟩ := h
  unfold swappedStores
  have hpl : [a, c, d].all plainE = true := by simp [h7, h8, h8']
  simp only [blockKind_fn h9]
  have e1 : swNs env.scope [Expr.Name x px, Expr.Name y py, Expr.Name z pz] = [x, y, z] := by
    have l1 : (List.lookup x env.scope.names == some NameKind.local && px.line == (Option.map (fun x => x.pos.line) [Expr.Name x px, Expr.Name y py, Expr.Name z pz].head?).getD 0) = true := by
      rw [h1]
      show (true && px.line == px.line) = true
      simp
    have l2 : (List.lookup y env.scope.names == some NameKind.local && py.line == (Option.map (fun x => x.pos.line) [Expr.Name x px, Expr.Name y py, Expr.Name z pz].head?).getD 0) = true := by
      rw [h2]
      show (true && py.line == px.line) = true
      rw [h3]
      rfl
    have l3 : (List.lookup z env.scope.names == some NameKind.local && pz.line == (Option.map (fun x => x.pos.line) [Expr.Name x px, Expr.Name y py, Expr.Name z pz].head?).getD 0) = true := by
      rw [h2']
      show (true && pz.line == px.line) = true
      rw [h3']
      rfl
    unfold swNs
    rw [List.filterMap_cons, List.filterMap_cons, List.filterMap_cons, List.filterMap_nil]
    simp only [swF, l1, l2, l3, if_true]
  generalize hN : List.filterMap _ (_ :: _) = N
  have hN2 : swNs env.scope [Expr.Name x px, Expr.Name y py, Expr.Name z pz] = N := by
    rw [← hN]
    exact (swNs_key _ (by intro x; cases x <;> rfl)).symm
  rw [e1] at hN2
  subst hN2
  have e2 : [x, y, z].eraseDups = [x, y, z] := by
    simp [List.eraseDups_cons, Ne.symm h4, Ne.symm h4', Ne.symm h4'']
  rw [e2, h5, h6]
  rw [if_neg (by simp), if_neg (nostar hpl (by intro x hx; cases x <;> first | rfl | (simp [plainE] at hx; done))), if_neg (by simp), if_neg (by simp), if_neg (by simp)]
theorem setAll2 {env env' : DEnv} {i j : Nat} {ds : List D} (h : setAll env [i, j] ds = some env') : ∃ d e, ds = [d, e] ∧ env' = (env.set i (some d)).set j (some e) := by
  cases ds with
  | nil => cases h
  | cons d r =>
    cases r with
    | nil => cases h
    | cons e r =>
      cases r with
      | nil =>
        cases h
        exact ⟨d, e, rfl, rfl⟩
      | cons _ _ => cases h
theorem setAll3 {env env' : DEnv} {i j l : Nat} {ds : List D} (h : setAll env [i, j, l] ds = some env') : ∃ d e f, ds = [d, e, f] ∧ env' = ((env.set i (some d)).set j (some e)).set l (some f) := by
  cases ds with
  | nil => cases h
  | cons d r =>
    obtain ⟨e, f, rfl, h2⟩ := setAll2 (show setAll (env.set i (some d)) [j, l] r = some env' from h)
    exact ⟨d, e, f, rfl, h2⟩
theorem ss_par2 {x y : Str} {a c : Expr} {px py p p2 pos : Pos} {k k2 i j kk : Nat} {ies : IEs} {gl : List Str} (hX : XOk X kk L gl G) (hi : X.N[i]? = some x) (hj : X.N[j]? = some y) (hij : i ≠ j) (h : sw2 X.env.scope x y px py a c = true) (ha : SA L G X [a, c] ies) :
    SS L G X b (.Assign [.Tuple [.Name x px, .Name y py] k p] (.Tuple [a, c] k2 p2) pos) (.par [i, j] ies) := by
  intro σ H g env st out D hE hS hev hO
  rw [evS] at hev
  (replace hev := bindS hev); obtain ⟨⟨ds, st1⟩, e1, hev⟩ := hev
  (replace hev := bindS hev); obtain ⟨env', e2, hev⟩ := hev
  cases hev
  obtain ⟨d, e, rfl, rfl⟩ := setAll2 e2
  have hw := sw_some2 (k := k) (p := p) (k2 := k2) (p2 := p2) h
  have hn := h
  unfold sw2 at hn
  simp only [Bool.and_eq_true, decide_eq_true_eq, Bool.not_eq_true'] at hn
  obtain ⟨⟨⟨⟨⟨⟨⟨⟨h1, h2⟩, h3⟩, h4⟩, h5⟩, h6⟩, h7⟩, h8⟩, h9⟩ := hn
  refine le_S (ps_par hX.calm hX.nd hi hj hij h1 h2 pa_wp hw) ?_
  refine ha σ H g env st _ st1 _ hE hS e1 fun vs H1 g1 x1 s1 r1 => ?_
  rw [RelDs] at r1
  obtain ⟨v, r, rfl, r2, r1⟩ := r1
  rw [RelDs] at r1
  obtain ⟨v', r', rfl, r3, r1⟩ := r1
  rw [RelDs] at r1
  subst r1
  exact ⟨v, v', rfl, hO _ H1 g1 x1 s1 (((hE.ext x1).set i r2).set j r3)⟩
theorem ss_par3 {x y z : Str} {a c d : Expr} {px py pz p p2 pos : Pos} {k k2 i j l kk : Nat} {ies : IEs} {gl : List Str} (hX : XOk X kk L gl G) (hi : X.N[i]? = some x) (hj : X.N[j]? = some y) (hl : X.N[l]? = some z) (hij : i ≠ j) (hil : i ≠ l) (hjl : j ≠ l)
    (h : sw3 X.env.scope x y z px py pz a c d = true) (ha : SA L G X [a, c, d] ies) :
    SS L G X b (.Assign [.Tuple [.Name x px, .Name y py, .Name z pz] k p] (.Tuple [a, c, d] k2 p2) pos) (.par [i, j, l] ies) := by
  intro σ H g env st out D hE hS hev hO
  rw [evS] at hev
  (replace hev := bindS hev); obtain ⟨⟨ds, st1⟩, e1, hev⟩ := hev
  (replace hev := bindS hev); obtain ⟨env', e2, hev⟩ := hev
  cases hev
  obtain ⟨d1, d2, d3, rfl, rfl⟩ := setAll3 e2
  have hw := sw_some3 (k := k) (p := p) (k2 := k2) (p2 := p2) h
  have hn := h
  unfold sw3 at hn
  simp only [Bool.and_eq_true, decide_eq_true_eq, Bool.not_eq_true'] at hn
  obtain ⟨⟨⟨⟨⟨⟨⟨⟨⟨⟨⟨⟨⟨h1, h2⟩, h2'⟩, h3⟩, h3'⟩, h4⟩, h4'⟩, h4''⟩, h5⟩, h6⟩, h7⟩, h8⟩, h8'⟩, h9⟩ := hn
  refine le_S (L2.ps_par3 hX.calm hX.nd hi hj hl hij hil hjl h1 h2 h2' pa_wp hw) ?_
  refine ha σ H g env st _ st1 _ hE hS e1 fun vs H1 g1 x1 s1 r1 => ?_
  rw [RelDs] at r1
  obtain ⟨v, r, rfl, r2, r1⟩ := r1
  rw [RelDs] at r1
  obtain ⟨v', r', rfl, r3, r1⟩ := r1
  rw [RelDs] at r1
  obtain ⟨v'', r'', rfl, r4, r1⟩ := r1
  rw [RelDs] at r1
  subst r1
  exact ⟨v, v', v'', rfl, hO _ H1 g1 x1 s1 ((((hE.ext x1).set i r2).set j r3).set l r4)⟩
theorem ss_asg {tg e : Expr} {t : Tg} {ie : IE} {pos : Pos} (he : SE L G X e ie) (hg : SG L G X tg t) (hp : tgE tg = true) (hs : swapsWithSole [tg] e pos.line X.env = pure false) (hw : swappedStores [tg] e X.env = pure none) :
    SS L G X b (.Assign [tg] e pos) (.asg t ie) := by
  intro σ H g env st out D hE hS hev hO
  rw [evS] at hev
  (replace hev := bindS hev); obtain ⟨⟨d, st1⟩, e1, hev⟩ := hev
  (replace hev := bindS hev); obtain ⟨⟨env', st2⟩, e2, hev⟩ := hev
  cases hev
  refine le_S (ps_asg pe_wp pg_wp hs hw (by rw [each_cons hp]; rfl)) ?_
  refine he σ H g env st d st1 _ hE hS e1 fun v H1 g1 x1 s1 r1 _ => ?_
  exact hg v σ H1 g1 d env st1 env' st2 _ r1 (hE.ext x1) s1 e2 fun σ' H' g' x s E _ => hO σ' H' g' (x1.trans x) s E
/-- name = a comprehension, on one line -/
theorem ss_setC {i : Nat} {e tg : Expr} {te : TE} {ie : IE} {pos : Pos} (hp : PS X (.Assign [tg] e pos) (tAsg te (gName i))) (he : RE L G X te ie) : SS L G X b (.Assign [tg] e pos) (.asg (.nm i) ie) := by
  intro σ H g env st out D hE hS hev hO
  rw [evS] at hev
  (replace hev := bindS hev); obtain ⟨⟨d, st1⟩, e1, hev⟩ := hev
  (replace hev := bindS hev); obtain ⟨⟨env', st2⟩, e2, hev⟩ := hev
  cases hev
  rw [asgT] at e2
  cases e2
  refine le_S hp ?_
  show te σ H fun x H1 => gName i x σ H1 D.nx
  refine he σ H g env st d _ _ hE hS e1 fun v H1 g1 x1 s1 r1 _ => ?_
  exact hO _ H1 g1 x1 s1 ((hE.ext x1).set i r1)
theorem List.set_getElem?_self'' {α : Type} {l : List α} {i : Nat} {a : α} (h : l[i]? = some a) : l.set i a = l := by
  apply List.ext_getElem?
  intro j
  rw [List.getElem?_set]
  split
  · rename_i e
    subst e
    rw [h]
    rw [if_pos (List.getElem?_eq_some_iff.mp h).1]
  · rfl
/-- behind a freeze -/
theorem frz_ext {K : PySem.W.Frag} {w : World} {g : Gh} {H : Hp} {st : DSt} {k : Nat} {a : Addr} (S : StOk K w g H st) (hk : g.ρ[k]? = some (some a)) :
    Ext g H ⟨fun x => g.Z x ∧ x ≠ a, g.ρ.set k none⟩ H ∧ StOk K w ⟨fun x => g.Z x ∧ x ≠ a, g.ρ.set k none⟩ H (st.set k .dead) := by
  have gt : ∀ (j : Nat) x, (g.ρ.set k none)[j]? = some (some x) → j ≠ k ∧ g.ρ[j]? = some (some x) := fun j x q => by
    rw [List.getElem?_set] at q
    split at q
    · split at q <;> cases q
    · rename_i hj
      exact ⟨fun e => hj e.symm, q⟩
  have e : Ext g H ⟨fun x => g.Z x ∧ x ≠ a, g.ρ.set k none⟩ H := ⟨fun x o z h => ⟨h, fun q => z q.1⟩, fun x z n => ⟨rfl, ⟨z, fun q => n k (q ▸ hk)⟩, fun j q => n j (gt j x q).2⟩, fun _ h => h, by simp, fun j x _ q => (gt j x q).2⟩
  refine ⟨e, ⟨by simp [S.len], fun i j x h1 h2 => S.inj i j x (gt i x h1).2 (gt j x h2).2, fun j x q => ⟨S.inZ j x (gt j x q).2, fun ex => (gt j x q).1 (S.inj j k a (ex ▸ (gt j x q).2) hk)⟩, fun x z => S.trk x z.1, fun j x o h1 h2 => ?_, fun j o q => ?_⟩⟩
  · obtain ⟨h3, h4⟩ := gt j x h1
    rw [List.getElem?_set_ne (fun q => h3 q.symm)] at h2
    exact (S.obj j x o h4 h2).ext0 e.e0 rfl
  · by_cases hj : k = j
    · subst hj
      rw [List.getElem?_set] at q
      rw [if_pos rfl] at q
      split at q
      · cases q
        refine .inl ⟨rfl, ?_⟩
        show (g.ρ.set k none)[k]? = _
        rw [List.getElem?_set_self (List.getElem?_eq_some_iff.mp hk).1]
      · cases q
    · rw [List.getElem?_set_ne hj] at q
      show (o = .dead ∧ (g.ρ.set k none)[j]? = _) ∨ ∃ x, (g.ρ.set k none)[j]? = _
      rw [List.getElem?_set_ne hj]
      exact S.live j o q
theorem sss_frz {s : List Stmt} {i : Nat} {iss : ISs} (h : SSs L G X b s iss) : SSs L G X b s (.cons (.frz i) iss) := by
  intro σ H g env st out D hE hS hev hO
  rw [evSs] at hev
  (replace hev := bindS hev); obtain ⟨o, e1, hev⟩ := hev
  rw [evS] at e1
  (replace e1 := bindS e1); obtain ⟨⟨env1, st1⟩, e2, e1⟩ := e1
  cases e1
  have hev : evSs (gam L) G iss env1 st1 = some out := hev
  unfold frzV at e2
  split at e2
  · rename_i k hi
    obtain ⟨v, hv, rv⟩ := hE.get i _ hi
    rw [RelD] at rv
    have fin : ∀ (a : Addr) (d : Py.D), g.ρ[k]? = some (some a) → (∀ g', Ext g H g' H → ¬ g'.Z a → RelD X.K X.w g' H d v) → env1 = env.set i (some d) → st1 = st.set k .dead → wpSs X s D σ H := by
      intro a d hk hd e3 e4
      subst e3 e4
      obtain ⟨x, S⟩ := frz_ext hS hk
      have hE2 := (hE.ext x).set (v := v) i (hd _ x fun z => z.2 rfl)
      rw [List.set_getElem?_self'' hv] at hE2
      exact h σ H _ _ _ out D hE2 S hev (hO.mono x)
    split at e2
    · rename_i xs hs
      cases e2
      rcases hS.live k _ hs with ⟨q, _⟩ | ⟨a, ha⟩
      · cases q
      · obtain ⟨vs, h1, h2⟩ := hS.obj k a _ ha hs
        exact fin a _ ha (fun g' x z => by rw [RelD]; exact ⟨a, vs, rv.2 a ha, .inl ⟨.inl h1, z⟩, h2.ext x⟩) rfl rfl
    · rename_i kvs hs
      cases e2
      rcases hS.live k _ hs with ⟨q, _⟩ | ⟨a, ha⟩
      · cases q
      · obtain ⟨vs, h1, hdd, h2⟩ := hS.obj k a _ ha hs
        exact fin a _ ha (fun g' x z => by rw [RelD]; exact ⟨a, vs, rv.2 a ha, .inl ⟨.inl h1, z⟩, hdd, h2.ext x⟩) rfl rfl
    · cases e2
  · cases e2
end
end Py

set_option Elab.async false
set_option linter.all false
set_option maxRecDepth 100000
set_option autoImplicit false
set_option maxHeartbeats 2000000
namespace Py
open PySem PySem.Spec L2
/-! ### a new object, not data yet -/
section
variable {K : PySem.W.Frag} {w : World} {g0 : Gh} {H0 : Hp}
structure Gd (K : PySem.W.Frag) (w : World) (g0 : Gh) (H0 : Hp) (p : Addr) (g : Gh) (H : Hp) (st : DSt) (u : HO) : Prop where
  ext : Ext g0 H0 g H
  ok : StOk K w g H st
  z : g.Z p
  nr : ∀ k : Nat, g.ρ[k]? ≠ some (some p)
  at_ : H p = some u
theorem gd_start {st : DSt} (S : StOk K w g0 H0 st) {p : Addr} (hp : H0 p = none) (u : HO) : Gd K w g0 H0 p (g0.add p) (upd H0 p u) st u := by
  have nz := S.nZ hp
  have nr : ∀ k : Nat, g0.ρ[k]? ≠ some (some p) := fun k h => nz (S.inZ k p h)
  have e : Ext g0 H0 (g0.add p) (upd H0 p u) := ⟨fun a o z h => ⟨by rw [upd_ne (ne_of_none h hp)]; exact h, fun q => q.elim z fun q => ne_of_none h hp q⟩, fun a z n => ⟨by rw [upd_ne (show a ≠ p from fun q => nz (q ▸ z))], .inl z, n⟩, fun a h => by
    by_cases ha : a = p
    · subst ha
      rw [upd_same]
      simp
    · rw [upd_ne ha]
      exact h, Nat.le_refl _, fun _ _ _ h => h⟩
  refine ⟨e, S.mv e.e0 rfl (fun k a h => .inl (S.inZ k a h)) (fun a z => ?_) (fun n a h => upd_ne (show a ≠ p from fun q => nr n (q ▸ h))), .inr rfl, nr, upd_same⟩
  rcases z with z | rfl
  · exact e.trk a (S.trk a z)
  · rw [upd_same]
    simp
theorem Gd.go {p : Addr} {g g' : Gh} {H H' : Hp} {st st' : DSt} {u : HO} (r : Gd K w g0 H0 p g H st u) (e : Ext g H g' H') (s : StOk K w g' H' st') : Gd K w g0 H0 p g' H' st' u := by
  obtain ⟨h1, h2, h3⟩ := e.pend p r.z r.nr
  exact ⟨r.ext.trans e, s, h2, h3, h1.trans r.at_⟩
theorem Gd.e0 {p : Addr} {g : Gh} {H : Hp} {st : DSt} {u : HO} (r : Gd K w g0 H0 p g H st u) (u' : HO) : Ext0 g H g (upd H p u') :=
  ⟨fun a u z q => ⟨by rw [upd_ne (show a ≠ p from fun e => z (e ▸ r.z))]; exact q, z⟩, Nat.le_refl _, fun _ _ _ q => q⟩
theorem Gd.write {p : Addr} {g : Gh} {H : Hp} {st : DSt} {u : HO} (nz : ¬ g0.Z p) (hp : H0 p = none) (r : Gd K w g0 H0 p g H st u) (u' : HO) : Gd K w g0 H0 p g (upd H p u') st u' := by
  refine ⟨⟨fun a u z q => ?_, fun a z n => ?_, fun a q => ?_, r.ext.len, r.ext.refs⟩, r.ok.mv (r.e0 u') rfl r.ok.inZ (fun a z => ?_) (fun n a q => upd_ne (show a ≠ p from fun e => r.nr n (e ▸ q))), r.z, r.nr, upd_same⟩
  · obtain ⟨h1, h2⟩ := r.ext.keep a u z q
    exact ⟨by rw [upd_ne (show a ≠ p from fun e => h2 (e ▸ r.z))]; exact h1, h2⟩
  · obtain ⟨h1, h2, h3⟩ := r.ext.pend a z n
    exact ⟨by rw [upd_ne (show a ≠ p from fun e => nz (e ▸ z))]; exact h1, h2, h3⟩
  · rw [upd_ne (show a ≠ p from fun e => q (e ▸ hp))]
    exact r.ext.trk a q
  · by_cases ha : a = p
    · subst ha
      rw [upd_same]
      simp
    · rw [upd_ne ha]
      exact r.ok.trk a z
/-- the dict is data now -/
theorem Gd.fin {p : Addr} {g : Gh} {H : Hp} {st : DSt} {kvs : List (D × D)} {es : Ents} (nz : ¬ g0.Z p) (hp : H0 p = none) (r : Gd K w g0 H0 p g H st (rawO p es)) (hd : distK kvs = true) (hr : RelKs K w g H kvs es.1) {Q : VK} {b : Bool} (P : Post K w b g0 H0 st (.dct kvs) Q) : Q (.ref p) H := by
  have e0 := ext_sub (g := g) (H := H) (p := p)
  refine P (.ref p) H (g.sub p) ⟨fun a u z q => ?_, fun a z n => ?_, r.ext.trk, r.ext.len, r.ext.refs⟩ (r.ok.mv e0 rfl (fun k a h => ⟨r.ok.inZ k a h, fun e => r.nr k (e ▸ h)⟩) (fun a z => r.ok.trk a z.1) fun _ _ _ => rfl) ?_ fun _ => ⟨fun ds' e => (by cases e), fun kvs' e => ?_⟩
  · obtain ⟨h1, h2⟩ := r.ext.keep a u z q
    exact ⟨h1, fun q => h2 q.1⟩
  · obtain ⟨h1, h2, h3⟩ := r.ext.pend a z n
    exact ⟨h1, ⟨h2, fun e => nz (e ▸ z)⟩, h3⟩
  · rw [RelD]
    exact ⟨p, es, rfl, .inl ⟨.inl r.at_, fun q => q.2 rfl⟩, hd, RelKs.ext0 e0 hr⟩
  · cases e
    have e1 : Ext0 g H ⟨fun a => (g.sub p).Z a ∨ a = p, (g.sub p).ρ⟩ H := ⟨fun a o z h => ⟨h, fun q => z (q.elim (fun q => q.1) fun q => q ▸ r.z)⟩, Nat.le_refl _, fun _ _ _ h => h⟩
    exact ⟨p, es, rfl, hp, fun q => q.2 rfl, r.at_, hd, RelKs.ext0 e1 hr, r.ok.mv e1 rfl (fun k a h => .inl ⟨r.ok.inZ k a h, fun e => r.nr k (e ▸ h)⟩) (fun a z => z.elim (fun z => r.ok.trk a z.1) fun q => by rw [q, r.at_]; simp) fun _ _ _ => rfl⟩
end
/-! ### displays of dicts -/
abbrev PR (K : PySem.W.Frag) (w : World) (g : Gh) (H : Hp) : List (D × D) → List (V × V) → Prop := Paired fun p q => RelD K w g H p.1 q.1 ∧ RelD K w g H p.2 q.2
theorem PR.ext {K : PySem.W.Frag} {w : World} {g g' : Gh} {H H' : Hp} (e : Ext g H g' H') : ∀ {kvs : List (D × D)} {ps : List (V × V)}, PR K w g H kvs ps → PR K w g' H' kvs ps
  | _, _, .nil => .nil
  | _, _, .cons h t => .cons ⟨h.1.ext e, h.2.ext e⟩ (PR.ext e t)
theorem merged_new {κ : Type} [DecidableEq κ] : ∀ (more acc : List (κ × Value)), ((acc ++ more).map (·.1)).Nodup → merged acc more = acc ++ more
  | [], acc, h => by rw [List.append_nil]; rfl
  | p :: r, acc, h => by
    show merged (stored acc p.1 p.2) r = _
    have hn : (acc.any fun kv => decide (kv.1 = p.1)) = false := by
      rw [List.any_eq_false]
      intro x hx
      rw [List.map_append, List.nodup_append] at h
      simp only [decide_eq_true_eq]
      exact h.2.2 _ (List.mem_map_of_mem hx) p.1 (by simp)
    have e : stored acc p.1 p.2 = acc ++ [p] := by
      unfold stored
      rw [hn]
      rfl
    rw [e, merged_new r _ (by rw [List.append_assoc]; exact h), List.append_assoc]
    rfl
theorem storedAllH_new {κ : Type} [DecidableEq κ] : ∀ (more acc : List (κ × Addr × Value)), ((acc ++ more).map (·.1)).Nodup → storedAllH acc more = acc ++ more
  | [], acc, h => by rw [List.append_nil]; rfl
  | p :: r, acc, h => by
    show storedAllH (storedH acc p.1 p.2.1 p.2.2) r = _
    have hn : atKey acc p.1 = none := by
      cases e : atKey acc p.1 with
      | none => rfl
      | some x =>
        exfalso
        unfold atKey at e
        obtain ⟨q, hq, _⟩ := Option.map_eq_some_iff.mp e
        have h1 := List.find?_some hq
        have h2 := List.mem_of_find?_eq_some hq
        rw [decide_eq_true_eq] at h1
        rw [List.map_append, List.nodup_append] at h
        exact h.2.2 _ (List.mem_map_of_mem h2) p.1 (by simp) h1
    rw [storedH_new hn, storedAllH_new r _ (by rw [List.append_assoc]; exact h), List.append_assoc]
    rfl
section
variable {X : Cx} {pins : List (Addr × Obj)} {σ : L2.St} {H : Hp} {s : Shared} {g : Gh}
theorem carries_l : ∀ {kvs : List (D × D)} {ps : List (V × V)} {ws : List (Value × Value)}, PR X.K X.w g H kvs ps → VV ps ws → (∀ p ∈ kvs, keyW p.1 ∧ isTupD p.1 = false) → ∃ rs, Carries (xKind X.prog X.w) ws rs ∧ LP X.K X.w g H kvs rs
  | [], ps, ws, r, v, hk => by cases r; cases v; exact ⟨[], trivial, .nil⟩
  | (a, d) :: kvs, ps, ws, r, v, hk => by
    cases r with
    | cons r1 r2 =>
      cases v with
      | @cons x q xs qs v1 v2 =>
        obtain ⟨rs, c, l⟩ := carries_l r2 v2 fun p hp => hk p (by simp [hp])
        obtain ⟨⟨⟨n, n1⟩, n2⟩, t⟩ := hk (a, d) (by simp)
        obtain ⟨q1, q2⟩ := q
        exact ⟨(leafOf a, q2) :: rs, ⟨x_is n1 t r1.1 v1.1, rfl, c⟩, .cons ⟨⟨⟨n, n1⟩, n2⟩, t, rfl, _, v1.2, r1.2⟩ l⟩
theorem carries_t (I : Inv X pins σ H s) : ∀ {kvs : List (D × D)} {ps : List (V × V)} {ws : List (Value × Value)}, PR X.K X.w g H kvs ps → VV ps ws → (∀ p ∈ kvs, keyW p.1 ∧ isTupD p.1 = true) → ∃ rs, CarriesH (nestedKind X.prog X.w) s.heap ws rs ∧ TP X.K X.w g H kvs rs
  | [], ps, ws, r, v, hk => by cases r; cases v; exact ⟨[], trivial, .nil⟩
  | (a, d) :: kvs, ps, ws, r, v, hk => by
    cases r with
    | @cons _ b0 _ _ r1 r2 =>
      cases v with
      | @cons _ q _ qs v1 v2 =>
        obtain ⟨rs, c, l⟩ := carries_t I r2 v2 fun p hp => hk p (by simp [hp])
        obtain ⟨⟨⟨n, n1⟩, n2⟩, t⟩ := hk (a, d) (by simp)
        obtain ⟨q1, q2⟩ := q
        obtain ⟨x1, x2⟩ := b0
        obtain ⟨b, rfl⟩ : ∃ b, x1 = .ref b := by
          have r3 := r1.1
          cases a <;> simp [isTupD] at t
          rw [RelD] at r3
          obtain ⟨b, vs, e, _⟩ := r3
          exact ⟨b, e⟩
        have e := nested_of I 8 _ _ _ _ n2 n1 r1.1 v1.1
        cases (show q1 = Value.ref b from v1.1)
        exact ⟨(n, b, q2) :: rs, ⟨rfl, rfl, e, c⟩, .cons ⟨n1, n2, t, r1.1, _, v1.2, r1.2⟩ l⟩
end
def tDispD (K : PySem.W.Frag) (w : World) (trs : List (TE × TE)) : TE := fun σ H Q => ∀ p, H p = none → tPairs trs σ (upd H p (rawO p ([], 0))) fun ps H2 => H2 p = some (rawO p ([], 0)) ∧ ∃ (g : Gh) (kvs : List (D × D)), PR K w g H2 kvs ps ∧ distK kvs = true ∧ kvs ≠ [] ∧
  ∀ es : Ents, RelKs K w g H2 kvs es.1 → Q (.ref p) (upd H2 p (rawO p es))
theorem dist_kind {kvs : List (D × D)} (h : distK kvs = true) (h0 : kvs ≠ []) : (∀ p ∈ kvs, keyW p.1 ∧ isTupD p.1 = false) ∨ (∀ p ∈ kvs, keyW p.1 ∧ isTupD p.1 = true) := by
  cases kvs with
  | nil => exact absurd rfl h0
  | cons p r =>
    rw [distK_iff, List.pairwise_cons] at h
    obtain ⟨⟨h1, _⟩, h2⟩ := h
    cases hp : isTupD p.1 with
    | false => exact .inl fun q hq => ⟨h2 q hq, (List.mem_cons.mp hq).elim (fun e => e ▸ hp) fun hq => (h1 q hq).1.trans hp⟩
    | true => exact .inr fun q hq => ⟨h2 q hq, (List.mem_cons.mp hq).elim (fun e => e ▸ hp) fun hq => (h1 q hq).1.trans hp⟩
theorem dict_eval {prog : Program} {w : World} {A : Around} {E : Value → Shared → Prop} {s : Shared} {env : Env} {keys : List (Option Expr)} {values : List Expr} {pos : Pos} {Q : Value → Shared → Prop} (hall : keys.all (·.isSome) = true) (hl : keys.length = values.length) (h0 : keys ≠ []) (h15 : keys.length ≤ 15)
    (h : wpAny (model prog w) A (subDict (pairTrees keys values env pos)) (fun d s' => Q (.ref d) s') E s) : wpAny (model prog w) A (eval (.Dict keys values pos) env) Q E s := by
  have hn := pairTrees_length keys values env pos hall hl
  have hne : pairTrees keys values env pos ≠ [] := fun e => h0 (List.eq_nil_of_length_eq_zero (by rw [← hn, e]; rfl))
  rw [arm_eval_Dict, zip_pairTrees keys values env pos hall hl, dictDisplay_pairs _ hne (by omega)]
  exact wpAny_bind (wpAny_standAt (wpAny_bind (wpAny_mono h (fun d s' q => wpAny_pure q) fun _ _ e => e)))
theorem pe_dispD {X : Cx} {pos : Pos} {keys : List (Option Expr)} {values : List Expr} {trs : List (TE × TE)} (hu : X.A.units + 65 < cLine) (h : PPs X pos keys values trs) (hall : keys.all (·.isSome) = true) (hl : keys.length = values.length) (h0 : keys ≠ [])
    (h15 : keys.length ≤ 15) : PE X (.Dict keys values pos) (tDispD X.K X.w trs) := by
  refine ⟨fun pins s σ H Q I q => ?_⟩
  have hn := I.hok.fresh (Nat.le_refl s.heap.objs.size)
  have I1 := I.laid (a := s.heap.objs.size) (o := rawO s.heap.objs.size ([], 0)) (h' := s.heap.push { cls := .type "dict", data := .dict #[] }) (t' := s.toks) (fun _ _ q => Heap.get?_push_of_some _ q) (Nat.le_refl _) (dk_empty' s.heap I.big)
  have hp2 : (pairTrees keys values X.env pos).length ≤ 15 := by rw [pairTrees_length keys values X.env pos hall hl]; exact h15
  refine dict_eval hall hl h0 h15 ?_
  unfold subDict
  refine wpAny_bind (wpAny_alloc ?_)
  refine wpAny_bind (wpAny_holding ?_)
  rw [if_pos hp2]
  refine wpAny_bind (thn (wpAny_evalPairs_len (h.run pins _ σ _ _ I1 (q _ hn))) fun ws s2 ⟨hwl, ps, H2, I2, rel, e, g, kvs, rp, hd, hk0, q2⟩ => ?_)
  have hz : kvs.length ≤ 15 := by
    have e1 := Paired.length rp
    have e2 := Paired.length rel
    omega
  obtain ⟨hraw, hs⟩ := raw_at I2 (.inl (.inl e))
  obtain ⟨ob, o1, o2, o3⟩ := hraw
  refine wpAny_holding ?_
  rcases dist_kind hd hk0 with hk | hk
  · obtain ⟨rs, c, lp⟩ := carries_l rp rel hk
    have hnd := lp_nodup lp hd
    have hm : s2.heap.DictOf (xKind X.prog X.w) s.heap.objs.size [] := ⟨ob, #[], 0, o1, o2, o3, fun e he => by simp at he, .nil, .nil⟩
    have hrl : rs.length ≤ 15 := by rw [← Paired.length lp]; exact hz
    refine wpAny_bind (wpAny_storeAll ws rs [] s2 _ c hm (by rw [sizeLine_eq]; simp; omega) fun h' dd sb => ?_)
    rw [merged_new rs [] (by simpa using hnd), List.nil_append] at dd
    obtain ⟨o, es', ep, h1, h2, h3, h4, h5, h6⟩ := dd
    refine wpAny_pure (wpAny_pure ⟨.ref s.heap.objs.size, _, ?_, rfl, q2 (es'.toList, ep) (lp_back lp (fun e he => h4 e (by simpa using he)) h5)⟩)
    exact d_write I2 (by rw [e]; exact True.intro) sb ⟨o, h1⟩ ⟨⟨⟨o, h1, h2, by simpa using h3⟩, hs⟩, ⟨o, h1⟩, fun H1 H2 ⟨p1, p2⟩ st => ⟨p1.at st, p2⟩⟩
  · obtain ⟨rs, c, tp⟩ := carries_t I2 rp rel hk
    have hnd := tp_nodup tp hd
    have hm : s2.heap.DictOfH (nestedKind X.prog X.w) s.heap.objs.size [] := ⟨ob, #[], 0, o1, o2, o3, rfl, fun x hx => (by cases hx), .nil⟩
    have hrl : rs.length ≤ 15 := by rw [← Paired.length tp]; exact hz
    refine wpAny_bind (wpAny_storeAllH (show (nestedKind X.prog X.w).room X.A by show X.A.units + 8 < cLine; omega) ws rs [] s2 _ c hm (by rw [sizeLine_eq]; simp; omega) fun h' tk dd sb => ?_)
    rw [storedAllH_new rs [] (by simpa using hnd), List.nil_append] at dd
    obtain ⟨o, es', ep, h1, h2, h3, h4, h5, h6⟩ := dd
    refine wpAny_pure (wpAny_pure ⟨.ref s.heap.objs.size, _, ?_, rfl, q2 (es'.toList, ep) (by rw [h4]; exact tp_back tp)⟩)
    exact d_write I2 (by rw [e]; exact True.intro) sb ⟨o, h1⟩ ⟨⟨⟨o, h1, h2, by simpa using h3⟩, hs⟩, ⟨o, h1⟩, fun H1 H2 ⟨p1, p2⟩ st => ⟨p1.at st, p2⟩⟩
/-! ### a display read -/
section
variable {L : List DFn} {G : List D} {X : Cx}
def trsD (X : Cx) (dks : List (Option Expr)) (dvs : List Expr) : List (TE × TE) := (dks.zip dvs).map fun p => (match p.1 with
  | some k => wpE X k
  | none => fun _ _ _ => False, wpE X p.2)
def SDs (L : List DFn) (G : List D) (X : Cx) : List (Option Expr) → List Expr → IEs → Prop
  | [], [], .nil => True
  | some k :: ks, v :: vs, .cons ik (.cons iv r) => SE L G X k ik ∧ SE L G X v iv ∧ SDs L G X ks vs r
  | _, _, _ => False
theorem sds_len : ∀ {ks : List (Option Expr)} {vs : List Expr} {es : IEs}, SDs L G X ks vs es → ks.length = vs.length ∧ ks.all (·.isSome) = true
  | [], [], .nil, _ => ⟨rfl, rfl⟩
  | some k :: ks, v :: vs, .cons ik (.cons iv r), h => by
    obtain ⟨h1, h2⟩ := sds_len h.2.2
    exact ⟨by simp [h1], by simp [h2]⟩
  | [], [], .cons _ _, h => h.elim
  | [], _ :: _, _, h => h.elim
  | none :: _, _, _, h => h.elim
  | some _ :: _, [], _, h => h.elim
  | some _ :: _, _ :: _, .nil, h => h.elim
  | some _ :: _, _ :: _, .cons _ .nil, h => h.elim
theorem ppsD_of : ∀ {ks : List (Option Expr)} {vs : List Expr} {es : IEs} {pos : Pos}, SDs L G X ks vs es → PPs X pos ks vs (trsD X ks vs)
  | [], [], .nil, pos, _ => pps_nil
  | some k :: ks, v :: vs, .cons ik (.cons iv r), pos, h => pps_cons pe_wp pe_wp (ppsD_of h.2.2)
  | [], [], .cons _ _, pos, h => h.elim
  | [], _ :: _, _, pos, h => h.elim
  | none :: _, _, _, pos, h => h.elim
  | some _ :: _, [], _, pos, h => h.elim
  | some _ :: _, _ :: _, .nil, pos, h => h.elim
  | some _ :: _, _ :: _, .cons _ .nil, pos, h => h.elim
theorem pairsD_ev {σ : L2.St} {env : DEnv} : ∀ {ks : List (Option Expr)} {vs : List Expr} {es : IEs}, SDs L G X ks vs es →
    ∀ (H : Hp) (g : Gh) (st : DSt) (ds : List D) (st' : DSt) (Q : List (V × V) → Hp → Prop), EnvR X.K X.w g H env σ → StOk X.K X.w g H st → evEs (gam L) G es env st = some (ds, st') →
    (∀ (ps : List (V × V)) H' g', Ext g H g' H' → StOk X.K X.w g' H' st' → (∀ kvs, pairK ds = some kvs → PR X.K X.w g' H' kvs ps) → Q ps H') → tPairs (trsD X ks vs) σ H Q
  | [], [], .nil, _, H, g, st, ds, st', Q, hE, hS, hev, hQ => by
    rw [evEs] at hev
    cases hev
    exact hQ [] H g (Ext.refl g H) hS fun kvs e => (by cases e; exact .nil)
  | some k :: ks, v :: vs, .cons ik (.cons iv r), h, H, g, st, ds, st', Q, hE, hS, hev, hQ => by
    rw [evEs] at hev
    (replace hev := bindS hev); obtain ⟨⟨d, st1⟩, e1, hev⟩ := hev
    (replace hev := bindS hev); obtain ⟨⟨ds1, st2⟩, e2, hev⟩ := hev
    cases hev
    rw [evEs] at e2
    (replace e2 := bindS e2); obtain ⟨⟨d2, st3⟩, e3, e2⟩ := e2
    (replace e2 := bindS e2); obtain ⟨⟨ds2, st4⟩, e4, e2⟩ := e2
    cases e2
    show wpE X k σ H fun x H1 => wpE X v σ H1 fun y H2 => tPairs (trsD X ks vs) σ H2 fun ps H3 => Q ((x, y) :: ps) H3
    refine h.1 σ H g env st d st1 _ hE hS e1 fun u H1 g1 x1 s1 r1 _ => ?_
    refine h.2.1 σ H1 g1 env st1 d2 _ _ (hE.ext x1) s1 e3 fun u2 H2 g2 x2 s2 r2 _ => ?_
    refine pairsD_ev h.2.2 H2 g2 _ ds2 _ _ ((hE.ext x1).ext x2) s2 e4 fun ps H3 g3 x3 s3 hp => ?_
    refine hQ _ H3 g3 ((x1.trans x2).trans x3) s3 fun kvs e => ?_
    have e : (pairK ds2).map ((d, d2) :: ·) = some kvs := e
    obtain ⟨kvs', e5, rfl⟩ := Option.map_eq_some_iff.mp e
    exact .cons ⟨(r1.ext x2).ext x3, r2.ext x3⟩ (hp kvs' e5)
  | [], [], .cons _ _, h, _, _, _, _, _, _, _, _, _, _ => h.elim
  | [], _ :: _, _, h, _, _, _, _, _, _, _, _, _, _ => h.elim
  | none :: _, _, _, h, _, _, _, _, _, _, _, _, _, _ => h.elim
  | some _ :: _, [], _, h, _, _, _, _, _, _, _, _, _, _ => h.elim
  | some _ :: _, _ :: _, .nil, h, _, _, _, _, _, _, _, _, _, _ => h.elim
  | some _ :: _, _ :: _, .cons _ .nil, h, _, _, _, _, _, _, _, _, _, _ => h.elim
theorem se_dct0 {pos : Pos} : SE L G X (.Dict [] [] pos) (.dct .nil) := by
  intro σ H g env st d st' Q hE hS hev P
  rw [evE, evEs] at hev
  cases hev
  refine le_E pe_dnewO fun p hp => ?_
  exact (gd_start hS hp (rawO p ([], 0))).fin (hS.nZ hp) hp rfl relKs_nil P
theorem se_dctD {ks : List (Option Expr)} {vs : List Expr} {es : IEs} {pos : Pos} {k : Nat} (hR : Room k X.A) (h0 : ks ≠ []) (h15 : ks.length ≤ 15) (h : SDs L G X ks vs es) : SE L G X (.Dict ks vs pos) (.dct es) := by
  intro σ H g env st d st' Q hE hS hev P
  rw [evE] at hev
  (replace hev := bindS hev); obtain ⟨⟨ds, st1⟩, e1, hev⟩ := hev
  (replace hev := bindS hev); obtain ⟨d', e2, hev⟩ := hev
  cases hev
  unfold dispK at e2
  (replace e2 := bindS e2); obtain ⟨kvs, e3, e2⟩ := e2
  split at e2
  · rename_i hz
    cases e2
    rw [Bool.and_eq_true] at hz
    obtain ⟨hl, hall⟩ := sds_len h
    refine le_E (pe_dispD (by have := hR.un; omega) (ppsD_of h) hall hl h0 h15) fun p hp => ?_
    have nz := hS.nZ hp
    have r0 := gd_start hS hp (rawO p ([], 0))
    refine pairsD_ev h _ _ st ds _ _ (hE.ext r0.ext) r0.ok e1 fun ps H1 g1 x1 s1 hpr => ?_
    have r1 := r0.go x1 s1
    have hne : kvs ≠ [] := by
      intro e
      subst e
      cases ks with
      | nil => exact h0 rfl
      | cons k0 ks =>
        cases vs with
        | nil => cases k0 <;> exact h.elim
        | cons v0 vs =>
          cases k0 with
          | none => exact h.elim
          | some k0 =>
            cases es with
            | nil => exact h.elim
            | cons a r =>
              cases r with
              | nil => exact h.elim
              | cons b r =>
                rw [evEs] at e1
                (replace e1 := bindS e1); obtain ⟨⟨d1, st2⟩, e4, e1⟩ := e1
                (replace e1 := bindS e1); obtain ⟨⟨ds1, st3⟩, e5, e1⟩ := e1
                cases e1
                rw [evEs] at e5
                (replace e5 := bindS e5); obtain ⟨⟨d2, st4⟩, e6, e5⟩ := e5
                (replace e5 := bindS e5); obtain ⟨⟨ds2, st5⟩, e7, e5⟩ := e5
                cases e5
                have e3 : (pairK ds2).map ((d1, d2) :: ·) = some [] := e3
                obtain ⟨_, _, e⟩ := Option.map_eq_some_iff.mp e3
                cases e
    refine ⟨r1.at_, g1, kvs, hpr kvs e3, hz.1, hne, fun es' hr' => ?_⟩
    exact (r1.write nz hp (rawO p es')).fin nz hp hz.1 (RelKs.ext0 (r1.e0 _) hr') P
  · cases e2
end
end Py

set_option Elab.async false
set_option linter.all false
set_option maxRecDepth 100000
set_option autoImplicit false
set_option maxHeartbeats 2000000
namespace Py
open PySem PySem.Spec L2
/-! ### a dict display, asked at once -/
def chkK1 : Expr → Sum Int (List Nat) → Bool
  | .Constant (.int i) _ _, .inl j => decide (i = j)
  | .Constant (.str x) _ _, .inr cs => decide (x.cps.toList = cs)
  | _, _ => false
def chkKs : List (Option Expr) → List (Sum Int (List Nat)) → Bool
  | [], [] => true
  | some e :: es, k :: ks => chkK1 e k && chkKs es ks
  | _, _ => false
def keyS : Sum Int (List Nat) → Key
  | .inl i => .inl i
  | .inr cs => .inr ⟨cs.toArray⟩
theorem keyS_inj {a b : Sum Int (List Nat)} (h : keyS a = keyS b) : a = b := by
  cases a <;> cases b <;> simp [keyS] at h <;> first | (subst h; rfl) | skip
section
variable {L : List DFn} {G : List D} {X : Cx}
def trsOf (X : Cx) (dks : List (Option Expr)) (dvs : List Expr) : List (TE × TE) := (dks.zip dvs).map fun p => (match p.1 with
  | some k => wpE X k
  | none => fun _ _ _ => False, wpE X p.2)
theorem pps_of : ∀ {dks : List (Option Expr)} {dvs : List Expr} {ks : List (Sum Int (List Nat))} {pos : Pos}, chkKs dks ks = true → dks.length = dvs.length → PPs X pos dks dvs (trsOf X dks dvs)
  | [], [], ks, pos, h, hl => pps_nil
  | [], _ :: _, ks, pos, h, hl => by simp at hl
  | _ :: _, [], ks, pos, h, hl => by simp at hl
  | none :: _, _ :: _, ks, pos, h, hl => by simp [chkKs] at h
  | some e :: dks, v :: dvs, [], pos, h, hl => by simp [chkKs] at h
  | some e :: dks, v :: dvs, k :: ks, pos, h, hl => by
    unfold chkKs at h
    rw [Bool.and_eq_true] at h
    exact pps_cons pe_wp pe_wp (pps_of h.2 (by simpa using hl))
theorem key_wp {e : Expr} {k : Sum Int (List Nat)} {σ : L2.St} {H : Hp} {Q : VK} (h : chkK1 e k = true) (q : Q (kV (keyS k)) H) : wpE X e σ H Q := by
  cases e <;> simp only [chkK1] at h <;> first | (cases h; done) | skip
  rename_i c j pos
  cases c <;> cases k <;> simp only [chkK1] at h <;> first | (cases h; done) | skip
  · have h := of_decide_eq_true h
    subst h
    exact le_E pe_int q
  · have h := of_decide_eq_true h
    subst h
    exact le_E pe_str q
/-- each of them -/
def SP (L : List DFn) (G : List D) (X : Cx) : List Expr → IEs → Prop
  | [], .nil => True
  | e :: es, .cons ie ies => SE L G X e ie ∧ SP L G X es ies
  | _, _ => False
theorem pairs_ev {σ : L2.St} {env : DEnv} : ∀ {dks : List (Option Expr)} {dvs : List Expr} {ks : List (Sum Int (List Nat))} {ies : IEs}, chkKs dks ks = true → SP L G X dvs ies → dks.length = dvs.length →
    ∀ (H : Hp) (g : Gh) (st : DSt) (ds : List D) (st' : DSt) (Q : List (V × V) → Hp → Prop), EnvR X.K X.w g H env σ → StOk X.K X.w g H st → evEs (gam L) G ies env st = some (ds, st') →
    (∀ (kvs : List (Key × V)) H' g', Ext g H g' H' → StOk X.K X.w g' H' st' → RelDs X.K X.w g' H' ds (kvs.map (·.2)) → kvs.map (·.1) = ks.map keyS → Q (kvs.map fun kv => (kV kv.1, kv.2)) H') → tPairs (trsOf X dks dvs) σ H Q
  | [], dvs, ks, ies, hk, hp, hl, H, g, st, ds, st', Q, hE, hS, hev, hQ => by
    cases dvs with
    | cons _ _ => simp at hl
    | nil =>
      cases ks with
      | cons _ _ => simp [chkKs] at hk
      | nil =>
        cases ies with
        | cons _ _ => exact hp.elim
        | nil =>
          rw [evEs] at hev
          cases hev
          exact hQ [] H g (Ext.refl g H) hS RelDs.nil rfl
  | none :: _, dvs, ks, ies, hk, hp, hl, H, g, st, ds, st', Q, hE, hS, hev, hQ => by simp [chkKs] at hk
  | some e :: dks, dvs, ks, ies, hk, hp, hl, H, g, st, ds, st', Q, hE, hS, hev, hQ => by
    cases dvs with
    | nil => simp at hl
    | cons v dvs =>
      cases ks with
      | nil => simp [chkKs] at hk
      | cons k ks =>
        cases ies with
        | nil => exact hp.elim
        | cons ie ies =>
          unfold chkKs at hk
          rw [Bool.and_eq_true] at hk
          rw [evEs] at hev
          (replace hev := bindS hev); obtain ⟨⟨d, st1⟩, e1, hev⟩ := hev
          (replace hev := bindS hev); obtain ⟨⟨r, st2⟩, e2, hev⟩ := hev
          cases hev
          show wpE X e σ H fun x H1 => wpE X v σ H1 fun y H2 => tPairs (trsOf X dks dvs) σ H2 fun ps H3 => Q ((x, y) :: ps) H3
          refine key_wp hk.1 ?_
          refine hp.1 σ H g env st d st1 _ hE hS e1 fun u H1 g1 x1 s1 r1 _ => ?_
          refine pairs_ev hk.2 hp.2 (by simpa using hl) H1 g1 st1 r _ _ (hE.ext x1) s1 e2 fun kvs H2 g2 x2 s2 r2 e3 => ?_
          exact hQ ((keyS k, u) :: kvs) H2 g2 (x1.trans x2) s2 (RelDs.cons (r1.ext x2) r2) (by rw [List.map_cons, List.map_cons, e3])
theorem mapS' {α β : Type} {o : Option α} {f : α → β} {b : β} (h : o.map f = some b) : ∃ a, o = some a ∧ f a = b := by
  cases o with
  | none => cases h
  | some a => exact ⟨a, rfl, Option.some.inj h⟩
theorem merge_new : ∀ (more acc : List (Key × V)), ((acc ++ more).map (·.1)).Nodup → mergeK acc more = acc ++ more
  | [], acc, h => by rw [List.append_nil]; rfl
  | p :: r, acc, h => by
    show mergeK (putK acc p.1 p.2) r = _
    have hn : valV acc p.1 = none := by
      cases e : valV acc p.1 with
      | none => rfl
      | some x =>
        exfalso
        unfold valV at e
        obtain ⟨q, hq, _⟩ := mapS' e
        have h1 := List.find?_some hq
        have h2 := List.mem_of_find?_eq_some hq
        rw [decide_eq_true_eq] at h1
        rw [List.map_append, List.nodup_append] at h
        exact h.2.2 _ (List.mem_map_of_mem h2) p.1 (by simp) h1
    rw [putK_new _ hn, merge_new r _ (by rw [List.append_assoc]; exact h), List.append_assoc]
    rfl
theorem find_rel {K : PySem.W.Frag} {w : World} {g : Gh} {H : Hp} {k : Sum Int (List Nat)} {d : D} : ∀ {ks : List (Sum Int (List Nat))} {ds : List D} {kvs : List (Key × V)}, RelDs K w g H ds (kvs.map (·.2)) → kvs.map (·.1) = ks.map keyS →
    ((ks.zip ds).find? fun p => decide (p.1 = k)).map (·.2) = some d → ∃ v, valV kvs (keyS k) = some v ∧ RelD K w g H d v
  | [], ds, kvs, r, e, h => by simp at h
  | j :: ks, [], kvs, r, e, h => by simp at h
  | j :: ks, x :: ds, kvs, r, e, h => by
    cases kvs with
    | nil => simp at e
    | cons p kvs =>
      rw [List.map_cons, List.map_cons] at e
      injection e with e1 e2
      rw [List.map_cons, RelDs] at r
      obtain ⟨v, r', hv, h1, h2⟩ := r
      injection hv with v1 v2
      rw [List.zip_cons_cons, List.find?_cons] at h
      by_cases hj : j = k
      · subst hj
        simp at h
        subst h
        exact ⟨p.2, valV_pos e1, v1 ▸ h1⟩
      · simp [hj] at h
        obtain ⟨u, q1, q2⟩ := find_rel (k := k) (d := d) (ks := ks) (ds := ds) (kvs := kvs) (v2 ▸ h2) e2 (by simpa using h)
        exact ⟨u, by rw [valV_neg (fun q => hj (keyS_inj (e1.symm.trans q)))]; exact q1, q2⟩
theorem nodup_keyS : ∀ {ks : List (Sum Int (List Nat))}, ks.Nodup → (ks.map keyS).Nodup
  | [], _ => .nil
  | k :: ks, h => by
    rw [List.map_cons, List.nodup_cons]
    rw [List.nodup_cons] at h
    refine ⟨fun q => ?_, nodup_keyS h.2⟩
    obtain ⟨j, hj, e⟩ := List.mem_map.mp q
    exact h.1 (keyS_inj e ▸ hj)
theorem noSl_of {b : Expr} (h : isSlice b = false) : NoSl b := plainIx_of h
theorem relDs_len {K : PySem.W.Frag} {w : World} {g : Gh} {H : Hp} {ds : List D} {vs : List V} (r : RelDs K w g H ds vs) : ds.length = vs.length := r.length
theorem se_dis {dks : List (Option Expr)} {dvs : List Expr} {ks : List (Sum Int (List Nat))} {i : Expr} {ies : IEs} {ik : IE} {dp pos : Pos} {k : Nat} {gl : List Str} (hX : XOk X k L gl G) (hs : isSlice i = false) (h0 : dks ≠ []) (hk : chkKs dks ks = true) (hl : dks.length = dvs.length)
    (hd : SP L G X dvs ies) (hi : SE L G X i ik) : SE L G X (.Subscript (.Dict dks dvs dp) i pos) (.dis ks ies ik) := by
  intro σ H g env st d st' Q hE hS hev P
  rw [evE] at hev
  (replace hev := bindS hev); obtain ⟨⟨ds, st1⟩, e1, hev⟩ := hev
  (replace hev := bindS hev); obtain ⟨⟨y, st2⟩, e2, hev⟩ := hev
  (replace hev := bindS hev); obtain ⟨d', e3, hev⟩ := hev
  cases hev
  unfold disD at e3
  split at e3
  · rename_i hc
    simp only [Bool.and_eq_true, decide_eq_true_eq] at hc
    obtain ⟨⟨hnd, h15⟩, hlen⟩ := hc
    (replace e3 := bindS e3); obtain ⟨kk, e4, e5⟩ := e3
    have hkl : ∀ {dks : List (Option Expr)} {ks : List (Sum Int (List Nat))}, chkKs dks ks = true → dks.length = ks.length ∧ dks.all (·.isSome) = true := by
      intro dks
      induction dks with
      | nil =>
        intro ks h
        cases ks with
        | nil => exact ⟨rfl, rfl⟩
        | cons _ _ => simp [chkKs] at h
      | cons o dks ih =>
        intro ks h
        cases ks with
        | nil => cases o <;> simp [chkKs] at h
        | cons _ _ =>
          cases o with
          | none => simp [chkKs] at h
          | some _ =>
            unfold chkKs at h
            rw [Bool.and_eq_true] at h
            obtain ⟨q1, q2⟩ := ih h.2
            exact ⟨by simp [q1], by simp [q2]⟩
    obtain ⟨k1, k2⟩ := hkl hk
    refine le_E (pe_dget (hu_of hX.room) (pe_disp (pps_of hk hl) k2 hl h0 (by omega)) pe_wp (noSl_of hs)) ?_
    intro p hp
    have nz := hS.nZ hp
    have nr : ∀ k : Nat, g.ρ[k]? ≠ some (some p) := fun k h => nz (hS.inZ k p h)
    have e : Ext g H (g.add p) (upd H p (.dK [])) := ⟨fun a u z h => ⟨by rw [upd_ne (ne_of_none h hp)]; exact h, fun q => q.elim z fun q => ne_of_none h hp q⟩, fun a z n => ⟨by rw [upd_ne (show a ≠ p from fun q => nz (q ▸ z))], .inl z, n⟩, fun a h => by
      by_cases ha : a = p
      · subst ha
        rw [upd_same]
        simp
      · rw [upd_ne ha]
        exact h, Nat.le_refl _, fun _ _ _ h => h⟩
    have S0 : StOk X.K X.w (g.add p) (upd H p (.dK [])) st := hS.mv e.e0 rfl (fun k a h => .inl (hS.inZ k a h)) (fun a z => by
      rcases z with z | rfl
      · exact e.trk a (hS.trk a z)
      · rw [upd_same]
        simp) (fun n a h => upd_ne (show a ≠ p from fun q => nr n (q ▸ h)))
    refine pairs_ev hk hd hl _ _ st ds st1 _ (hE.ext e) S0 e1 fun kvs H1 g1 x1 s1 r1 ek => ?_
    obtain ⟨p1, p2, p3⟩ := x1.pend p (.inr rfl) nr
    have hkv : kvs.length = ks.length := by
      have := congrArg List.length ek
      simpa using this
    refine ⟨p1.trans upd_same, kvs, rfl, by omega, ?_⟩
    have em : mergeK [] kvs = kvs := merge_new kvs [] (by
      rw [List.nil_append, ek]
      exact nodup_keyS hnd)
    rw [em]
    have f : Ext g H g1 (upd H1 p (.dK kvs)) := by
      have x2 := e.trans x1
      refine ⟨fun a o z h => ?_, fun a z n => ?_, fun a h => ?_, x2.len, x2.refs⟩
      · obtain ⟨h1, h2⟩ := x2.keep a o z h
        exact ⟨by rw [upd_ne (ne_of_none h hp)]; exact h1, h2⟩
      · obtain ⟨h1, h2, h3⟩ := x2.pend a z n
        exact ⟨by rw [upd_ne (show a ≠ p from fun q => nz (q ▸ z))]; exact h1, h2, h3⟩
      · by_cases ha : a = p
        · subst ha
          exact absurd hp h
        · rw [upd_ne ha]
          exact x2.trk a h
    have f0 : Ext0 g1 H1 g1 (upd H1 p (.dK kvs)) := ⟨fun a o z h => ⟨by rw [upd_ne (show a ≠ p from fun q => z (q ▸ p2))]; exact h, z⟩, Nat.le_refl _, fun _ _ _ h => h⟩
    have S1 : StOk X.K X.w g1 (upd H1 p (.dK kvs)) st1 := s1.mv f0 rfl s1.inZ (fun a z => by
      by_cases ha : a = p
      · subst ha
        rw [upd_same]
        simp
      · rw [upd_ne ha]
        exact s1.trk a z) (fun n a h => upd_ne (show a ≠ p from fun q => p3 n (q ▸ h)))
    refine hi σ _ g1 env st1 y _ _ (hE.ext f) S1 e2 fun vy H2 g2 x2 s2 r2 _ => ?_
    obtain ⟨q1, q2, q3⟩ := x2.pend p p2 p3
    have hH2 : H2 p = some (.dK kvs) := q1.trans upd_same
    have rk : vy = kV (keyS kk) := by
      cases y <;> simp only [dkey] at e4 <;> first | (cases e4; done) | skip
      · cases e4
        rw [RelD] at r2
        exact r2
      · cases e4
        rw [RelD] at r2
        exact r2
    have r1' := (RelDs.ext0 f0 r1).ext x2
    obtain ⟨v, v1, v2⟩ := find_rel (k := kk) r1' ek e5
    refine ⟨p, v, rfl, ?_, P v H2 g2 (f.trans x2) s2 v2 fun h => by cases h⟩
    rw [rk, ← v1]
    exact DGet.k hH2
  · cases e3
end
end Py

set_option Elab.async false
set_option linter.all false
set_option maxRecDepth 100000
set_option autoImplicit false
set_option maxHeartbeats 4000000
namespace Py
open PySem PySem.Spec L2
/-! ### the check: this text is that -/
abbrev Sig := Str × Nat × Bool
def DFn.sig (e : DFn) : Sig := (e.name, e.ar, e.fr)
def frshS (fs : List Sig) : IE → Bool
  | .call f _ => match fs[f]? with
    | some e => e.2.2
    | none => false
  | ie => frsh [] ie
theorem frshS_eq {L : List DFn} (ie : IE) (h : frshS (L.map DFn.sig) ie = true) : frsh L ie = true := by
  cases ie with
  | call f es =>
    unfold frshS at h
    simp only [List.getElem?_map] at h
    simp only [frsh]
    cases e : L[f]? with
    | none => rw [e] at h; cases h
    | some x =>
      rw [e] at h
      exact h
  | bin op a b => cases op <;> first | exact h | rfl
  | bi m es => cases m <;> first | exact h | rfl
  | mth m o es => cases m <;> first | exact h | rfl
  | _ => exact h
def nameOk (x : Str) : Bool := !(x == ("__debug__" : Str)) && !(x == ("__classdict__" : Str))
def genE : Expr → Bool
  | .BoolOp .. => false
  | .UnaryOp .Not _ _ => false
  | .Compare .. => false
  | .IfExp .. => false
  | _ => true
theorem isTrue_gen {e : Expr} {env : Env} (h : genE e = true) : ∀ whole, isTrue e env whole = (do let v ← whole; standAt e.pos; holding [v] (truthy v)) := fun whole => by
  cases e <;> first | rfl | (simp [genE] at h; done) | skip
  rename_i op a p
  cases op <;> first | rfl | (simp [genE] at h; done)
def notIf : Expr → Bool
  | .IfExp .. => false
  | _ => true
def chkC : Expr → D → Bool
  | .Constant (.int i) _ _, .int j => decide (i = j)
  | .Constant (.bool i) _ _, .bl j => decide (i = j)
  | .Constant .none _ _, .non => true
  | .Constant (.str x) _ _, .str cs => decide (x.cps.toList = cs)
  | _, _ => false
def chkL (f : Expr → IE → Bool) : List Expr → IEs → Bool
  | [], .nil => true
  | e :: es, .cons ie ies => plainE e && f e ie && chkL f es ies
  | _, _ => false
def chkAnd (f : Expr → IE → Bool) : List Expr → IE → Bool
  | [a], ie => f a ie && notIf a
  | a :: b :: r, .and ia ib => f a ia && notIf a && chkAnd f (b :: r) ib
  | _, _ => false
def chkOr (f : Expr → IE → Bool) : List Expr → IE → Bool
  | [a], ie => f a ie && notIf a
  | a :: b :: r, .or ia ib => f a ia && notIf a && chkOr f (b :: r) ib
  | _, _ => false
def chkO (f : Expr → IE → Bool) : Option Expr → IEo → Bool
  | none, .none => true
  | some e, .some ie => f e ie
  | _, _ => false
def isTup : Expr → Bool
  | .Tuple .. => true
  | _ => false
def chkI (sc : Scope) (f : Expr → IE → Bool) (tg e : Expr) : II → Bool
  | .seq ie => plainI e && f e ie
  | .rng1 ia => (match e with
    | .Call (.Name x _) [a] [] _ => decide (x = ("range" : Str)) && gliB sc x && plainE a && f a ia
    | _ => false)
  | .rng2 ia ib => (match e with
    | .Call (.Name x _) [a, b] [] _ => decide (x = ("range" : Str)) && gliB sc x && plainE a && plainE b && f a ia && f b ib
    | _ => false)
  | .rng3 ia ib ic => (match e with
    | .Call (.Name x _) [a, b, c] [] _ => decide (x = ("range" : Str)) && gliB sc x && plainE a && plainE b && plainE c && f a ia && f b ib && f c ic
    | _ => false)
  | .enum ia => (match e with
    | .Call (.Name x _) [a] [] _ => decide (x = ("enumerate" : Str)) && gliB sc x && plainE a && f a ia && isTup tg
    | _ => false)
  | .zip ia ib => (match e with
    | .Call (.Name x _) [a, b] [] _ => decide (x = ("zip" : Str)) && gliB sc x && plainE a && plainE b && f a ia && f b ib && isTup tg
    | _ => false)
  | .enumz ia ib => (match e with
    | .Call (.Name x _) [.Call (.Name y _) [a, b] [] _] [] _ => decide (x = ("enumerate" : Str)) && decide (y = ("zip" : Str)) && gliB sc x && gliB sc y && plainE a && plainE b && f a ia && f b ib && isTup tg
    | _ => false)
mutual
def chkT (N : List Str) (sc : Scope) (f : Expr → IE → Bool) : Tg → Expr → Bool
  | .nm i, e => (match e with
    | .Name x _ => decide (N[i]? = some x) && locB sc x
    | _ => false)
  | .sub io ii, e => (match e with
    | .Subscript o i _ => !isSlice i && f o io && f i ii
    | _ => false)
  | .tp ts, e => (match e with
    | .Tuple es _ _ => chkTs N sc f ts es
    | _ => false)
def chkTs (N : List Str) (sc : Scope) (f : Expr → IE → Bool) : Tgs → List Expr → Bool
  | .nil, es => es.isEmpty
  | .cons t ts, es => (match es with
    | e :: es => tgE e && chkT N sc f t e && chkTs N sc f ts es
    | [] => false)
end
def ownOf (N : List Str) (own : List Nat) : List (Str × Nat) := own.map fun i => (N.getD i "", i)
theorem ownOf_map (N : List Str) (own : List Nat) : (ownOf N own).map (·.2) = own := by
  unfold ownOf
  rw [List.map_map]
  conv => rhs; rw [← List.map_id own]
  congr 1
def chkIf (f : Expr → IE → Bool) : List Expr → IE → Bool
  | [], .cst (.bl true) => true
  | [c], ic => f c ic && notIf c
  | _, _ => false
def chkLr (sc : Scope) (f : Expr → IE → Bool) (e : Expr) : Bi → IEs → Bool
  | .lrange1, .cons ia .nil => (match e with
      | .Call (.Name x _) [.Call (.Name y _) [a] [] _] [] _ => decide (x = ("list" : Str)) && decide (y = ("range" : Str)) && gliB sc x && gliB sc y && plainE a && f a ia
      | _ => false)
  | .lrange2, .cons ia (.cons ib .nil) => (match e with
      | .Call (.Name x _) [.Call (.Name y _) [a, b] [] _] [] _ => decide (x = ("list" : Str)) && decide (y = ("range" : Str)) && gliB sc x && gliB sc y && plainE a && plainE b && f a ia && f b ib
      | _ => false)
  | _, _ => false
def chkBg (sc : Scope) (f : Expr → IE → Bool) (e : Expr) (b : Bi) (ies : IEs) : Bool := match e with
  | .Call (.Name x _) (a :: es) [] _ => (match biV b with
    | some v => decide (v.1 = x) && gliB sc x && chkL f (a :: es) ies
    | none => false)
  | _ => false
def chkMt (m : Mt) (x : Str) (es : List Expr) : Bool := match m, es with
  | .append, [_] => decide (x = ("append" : Str))
  | .pop, [] => decide (x = ("pop" : Str))
  | .join, [_] => decide (x = ("join" : Str))
  | .popAt, [_] => decide (x = ("pop" : Str))
  | .get, [_] => decide (x = ("get" : Str))
  | .get2, [_, _] => decide (x = ("get" : Str))
  | .index, [_] => decide (x = ("index" : Str))
  | .count, [_] => decide (x = ("count" : Str))
  | .extend, [_] => decide (x = ("extend" : Str))
  | _, _ => false
def chkDs (f : Expr → IE → Bool) : List (Option Expr) → List Expr → IEs → Bool
  | [], [], .nil => true
  | some k :: ks, v :: vs, .cons ik (.cons iv r) => f k ik && f v iv && chkDs f ks vs r
  | _, _, _ => false
def chkE (fs : List Sig) (gl : List Str) (N : List Str) : Nat → Scope → Expr → IE → Bool
  | 0, _, _, _ => false
  | n + 1, sc, e, ie => match ie with
    | .cst d => chkC e d
    | .var i => (match e with
      | .Name x _ => decide (N[i]? = some x) && visB sc x && nameOk x
      | _ => false)
    | .glb i => (match e with
      | .Name x _ => decide (gl[i]? = some x) && gliB sc x && nameOk x
      | _ => false)
    | .tup ies => (match e with
      | .Tuple es _ _ => chkL (chkE fs gl N n sc) es ies
      | _ => false)
    | .lst ies => (match e with
      | .List es _ => chkL (chkE fs gl N n sc) es ies
      | _ => false)
    | .dct ies => (match e with
      | .Dict ks vs _ => decide (ks.length ≤ 15) && chkDs (chkE fs gl N n sc) ks vs ies
      | _ => false)
    | .bin op ia ib => (match e with
      | .BinOp a o b _ => decide (o = bop op) && chkE fs gl N n sc a ia && chkE fs gl N n sc b ib
      | _ => false)
    | .neg ia => (match e with
      | .UnaryOp .USub a _ => chkE fs gl N n sc a ia
      | _ => false)
    | .cmp op ia ib => (match e with
      | .Compare a [o] [b] _ => decide (o = cop op) && !behindInMarks o b && chkE fs gl N n sc a ia && chkE fs gl N n sc b ib
      | _ => false)
    | .chn op op' ia ib ic => (match e with
      | .Compare a [o, o'] [b, c] _ => decide (o = cop op) && decide (o' = cop op') && !lastMarks [o, o'] [b, c] && chkE fs gl N n sc a ia && chkE fs gl N n sc b ib && chkE fs gl N n sc c ic
      | _ => false)
    | .and _ _ => (match e with
      | .BoolOp .And es _ => chkAnd (chkE fs gl N n sc) es ie
      | _ => false)
    | .or _ _ => (match e with
      | .BoolOp .Or es _ => chkOr (chkE fs gl N n sc) es ie
      | _ => false)
    | .not ia => (match e with
      | .UnaryOp .Not a _ => notIf a && chkE fs gl N n sc a ia
      | _ => false)
    | .ite ic ia ib => (match e with
      | .IfExp c a b _ => notIf c && chkE fs gl N n sc c ic && chkE fs gl N n sc a ia && chkE fs gl N n sc b ib
      | _ => false)
    | .ix ia ib => (match e with
      | .Subscript a b _ => !isSlice b && chkE fs gl N n sc a ia && chkE fs gl N n sc b ib
      | _ => false)
    | .sl ia il ih => (match e with
      | .Subscript a (.Slice lo hi none _) _ => chkE fs gl N n sc a ia && chkO (chkE fs gl N n sc) lo il && chkO (chkE fs gl N n sc) hi ih
      | _ => false)
    | .rev ia => (match e with
      | .Subscript a (.Slice none none (some (.UnaryOp .USub (.Constant (.int i) _ _) _)) _) _ => decide (i = 1) && chkE fs gl N n sc a ia
      | _ => false)
    | .call f ies => (match e with
      | .Call (.Name x _) es [] _ => (match fs[f]? with
        | some s => decide (s.1 = x) && decide (s.2.1 = ies.len) && gliB sc x && nameOk x && chkL (chkE fs gl N n sc) es ies
        | none => false)
      | _ => false)
    | .bi b ies => chkLr sc (chkE fs gl N n sc) e b ies || chkBg sc (chkE fs gl N n sc) e b ies
    | .isi ia t => (match e with
      | .Call (.Name x _) [a, .Name y _] [] _ => decide (x = ("isinstance" : Str)) && decide (y = tyN t) && gliB sc x && gliB sc y && plainE a && chkE fs gl N n sc a ia
      | _ => false)
    | .mth m io ies => (match e with
      | .Call (.Attribute o x ap) es [] p => plainO o && fewOk es && (ap.endLine == p.line) && chkE fs gl N n sc o io && chkL (chkE fs gl N n sc) es ies &&
        chkMt m x es
      | _ => false)
    | .lc own tg it ic ie => (match e with
      | .ListComp elt [⟨tgX, iter, ifs, a⟩] scope _ => decide (a = 0) && blkC N sc scope (ownOf N own) && plainI iter && tgIn tg own && chkT N scope (chkE fs gl N n scope) tg tgX && chkI sc (chkE fs gl N n sc) tgX iter it && chkIf (chkE fs gl N n scope) ifs ic && chkE fs gl N n scope elt ie
      | _ => false)
    | .lc2 own tg it own1 tg1 it1 ic ie => (match e with
      | .ListComp elt [⟨tgX, iter, [], a⟩, ⟨tgX1, iter1, ifs, a1⟩] scope _ => decide (a = 0) && decide (a1 = 0) && blkC N sc scope (ownOf N own) && plainI iter && plainI iter1 && own1.all (fun i => decide (i ∈ own)) && tgIn tg own && tgIn tg1 own1 && chkT N scope (chkE fs gl N n scope) tg tgX && chkT N scope (chkE fs gl N n scope) tg1 tgX1 &&
        chkI sc (chkE fs gl N n sc) tgX iter it && chkI scope (chkE fs gl N n scope) tgX1 iter1 it1 && chkIf (chkE fs gl N n scope) ifs ic && chkE fs gl N n scope elt ie
      | _ => false)
    | .dis ks ies ik => (match e with
      | .Subscript (.Dict dks dvs _) i _ => !isSlice i && !dks.isEmpty && decide (dks.length = dvs.length) && chkKs dks ks && chkL (chkE fs gl N n sc) dvs ies && chkE fs gl N n sc i ik
      | _ => false)
    | .al ie => genE e && frshS fs ie && chkE fs gl N n sc e ie
    | _ => false
end Py

set_option Elab.async false
set_option linter.all false
set_option maxRecDepth 100000
set_option autoImplicit false
set_option maxHeartbeats 8000000
namespace Py
open PySem PySem.Spec L2
structure Sit (X : Cx) (sc : Scope) (N : List Str) : Prop where
  scr : ScR sc X.env.scope
  fn : ∀ x, sc.names.lookup x = some .cell → X.fn x = true
  hN : X.N = N
theorem Sit.blk {X : Cx} {sc : Scope} {N : List Str} (h : Sit X sc N) (s : Shared) (H : Hp) (scope : Scope) (cl : List (Str × Addr)) (C : Addr) (fp : List Addr) : Sit (X.blk s H scope (compEnvC scope cl C X.env) fp) scope N :=
  ⟨ScR.blk scope cl C X.env, fun x hx => by show (scope.names.lookup x == some .cell) = true; rw [hx]; rfl, h.hN⟩
theorem nameOk_of {x : Str} (h : nameOk x = true) : (x == ("__debug__" : Str)) = false ∧ (x == ("__classdict__" : Str)) = false := by
  unfold nameOk at h
  rw [Bool.and_eq_true] at h
  exact ⟨by simpa using h.1, by simpa using h.2⟩
section
variable {L : List DFn} {G : List D} {gl N : List Str} {k : Nat}
/-- both readings -/
abbrev Bo (L : List DFn) (G : List D) (X : Cx) (e : Expr) (ie : IE) : Prop := SE L G X e ie ∧ (notIf e = true → ST L G X e ie)
theorem bo_gen {X : Cx} {e : Expr} {ie : IE} (h : SE L G X e ie) (hg : genE e = true) : Bo L G X e ie := ⟨h, fun _ => st_val h (isTrue_gen hg)⟩
theorem chkL_ok {X : Cx} {f : Expr → IE → Bool} (hf : ∀ e ie, f e ie = true → SE L G X e ie) : ∀ {es : List Expr} {ies : IEs}, chkL f es ies = true → SA L G X es ies ∧ es.all plainE = true ∧ es.length = ies.len
  | [], .nil, _ => ⟨sa_nil, rfl, rfl⟩
  | [], .cons _ _, h => by simp [chkL] at h
  | _ :: _, .nil, h => by simp [chkL] at h
  | e :: es, .cons ie ies, h => by
    unfold chkL at h
    rw [Bool.and_eq_true, Bool.and_eq_true] at h
    obtain ⟨h1, h2, h3⟩ := chkL_ok hf h.2
    refine ⟨sa_cons (hf e ie h.1.2) h1 h.1.1, by rw [List.all_cons, h.1.1, h2]; rfl, ?_⟩
    rw [List.length_cons, h3]
    rfl
theorem chkL_sp {X : Cx} {f : Expr → IE → Bool} (hf : ∀ e ie, f e ie = true → SE L G X e ie) : ∀ {es : List Expr} {ies : IEs}, chkL f es ies = true → SP L G X es ies
  | [], .nil, _ => trivial
  | [], .cons _ _, h => by simp [chkL] at h
  | _ :: _, .nil, h => by simp [chkL] at h
  | e :: es, .cons ie ies, h => by
    unfold chkL at h
    rw [Bool.and_eq_true, Bool.and_eq_true] at h
    exact ⟨hf e ie h.1.2, chkL_sp hf h.2⟩
theorem chkDs_ok {X : Cx} {f : Expr → IE → Bool} (hf : ∀ e ie, f e ie = true → SE L G X e ie) : ∀ {ks : List (Option Expr)} {vs : List Expr} {ies : IEs}, chkDs f ks vs ies = true → SDs L G X ks vs ies
  | [], [], .nil, _ => trivial
  | some k :: ks, v :: vs, .cons ik (.cons iv r), h => by
    unfold chkDs at h
    rw [Bool.and_eq_true, Bool.and_eq_true] at h
    exact ⟨hf _ _ h.1.1, hf _ _ h.1.2, chkDs_ok hf h.2⟩
  | [], [], .cons _ _, h => by simp [chkDs] at h
  | [], _ :: _, _, h => by simp [chkDs] at h
  | none :: _, _, _, h => by simp [chkDs] at h
  | some _ :: _, [], _, h => by simp [chkDs] at h
  | some _ :: _, _ :: _, .nil, h => by simp [chkDs] at h
  | some _ :: _, _ :: _, .cons _ .nil, h => by simp [chkDs] at h
theorem chkAnd_ok {X : Cx} {f : Expr → IE → Bool} {pos : PySem.Pos} (hf : ∀ e ie, f e ie = true → Bo L G X e ie) : ∀ {es : List Expr} {ie : IE}, chkAnd f es ie = true → SE L G X (.BoolOp .And es pos) ie ∧ SW L G X (.BoolOp .And es pos) ie
  | [], ie, h => by simp [chkAnd] at h
  | [a], ie, h => by
    unfold chkAnd at h
    rw [Bool.and_eq_true] at h
    obtain ⟨h1, h2⟩ := hf a ie h.1
    exact sw_one h1 (h2 h.2)
  | a :: b :: r, ie, h => by
    cases ie <;> simp only [chkAnd] at h <;> first | (cases h; done) | skip
    rw [Bool.and_eq_true, Bool.and_eq_true] at h
    obtain ⟨h1, h2⟩ := hf a _ h.1.1
    obtain ⟨h3, h4⟩ := chkAnd_ok (pos := pos) hf h.2
    exact sw_and h1 (h2 h.1.2) h3 h4
theorem chkOr_ok {X : Cx} {f : Expr → IE → Bool} {pos : PySem.Pos} (hf : ∀ e ie, f e ie = true → Bo L G X e ie) : ∀ {es : List Expr} {ie : IE}, chkOr f es ie = true → SE L G X (.BoolOp .Or es pos) ie ∧ SW L G X (.BoolOp .Or es pos) ie
  | [], ie, h => by simp [chkOr] at h
  | [a], ie, h => by
    unfold chkOr at h
    rw [Bool.and_eq_true] at h
    obtain ⟨h1, h2⟩ := hf a ie h.1
    exact sw_one h1 (h2 h.2)
  | a :: b :: r, ie, h => by
    cases ie <;> simp only [chkOr] at h <;> first | (cases h; done) | skip
    rw [Bool.and_eq_true, Bool.and_eq_true] at h
    obtain ⟨h1, h2⟩ := hf a _ h.1.1
    obtain ⟨h3, h4⟩ := chkOr_ok (pos := pos) hf h.2
    exact sw_or h1 (h2 h.1.2) h3 h4
theorem chkO_ok {X : Cx} {f : Expr → IE → Bool} (hf : ∀ e ie, f e ie = true → SE L G X e ie) {o : Option Expr} {io : IEo} (h : chkO f o io = true) : SO L G X o io := by
  cases o <;> cases io <;> simp only [chkO] at h <;> first | (cases h; done) | skip
  · exact so_none
  · exact so_some (hf _ _ h)
theorem chkI_ok {X : Cx} {sc : Scope} {f : Expr → IE → Bool} (hX : XOk X k L gl G) (hS : Sit X sc N) (hf : ∀ e ie, f e ie = true → SE L G X e ie) {tg e : Expr} {ii : II} (h : chkI sc f tg e ii = true) : SI L G X tg e ii := by
  cases ii <;> simp only [chkI] at h <;> first | (cases h; done) | skip
  · rw [Bool.and_eq_true] at h
    exact si_seq (hf _ _ h.2)
  · split at h
    · simp only [Bool.and_eq_true, decide_eq_true_eq] at h
      obtain ⟨⟨⟨h1, h2⟩, h3⟩, h4⟩ := h
      subst h1
      exact si_rng1 hX (hS.scr.gli h2) h3 (hf _ _ h4)
    · cases h
  · split at h
    · simp only [Bool.and_eq_true, decide_eq_true_eq] at h
      obtain ⟨⟨⟨⟨⟨h1, h2⟩, h3⟩, h4⟩, h5⟩, h6⟩ := h
      subst h1
      exact si_rng2 hX (hS.scr.gli h2) h3 h4 (hf _ _ h5) (hf _ _ h6)
    · cases h
  · split at h
    · simp only [Bool.and_eq_true, decide_eq_true_eq] at h
      obtain ⟨⟨⟨⟨⟨⟨⟨h1, h2⟩, h3⟩, h4⟩, h4'⟩, h5⟩, h6⟩, h7⟩ := h
      subst h1
      exact si_rng3 hX (hS.scr.gli h2) h3 h4 h4' (hf _ _ h5) (hf _ _ h6) (hf _ _ h7)
    · cases h
  · split at h
    · simp only [Bool.and_eq_true, decide_eq_true_eq] at h
      obtain ⟨⟨⟨⟨h1, h2⟩, h3⟩, h4⟩, h5⟩ := h
      subst h1
      cases tg <;> simp only [isTup] at h5 <;> first | (cases h5; done) | skip
      exact si_enum hX (hS.scr.gli h2) h3 (hf _ _ h4)
    · cases h
  · split at h
    · simp only [Bool.and_eq_true, decide_eq_true_eq] at h
      obtain ⟨⟨⟨⟨⟨⟨h1, h2⟩, h3⟩, h4⟩, h5⟩, h6⟩, h7⟩ := h
      subst h1
      cases tg <;> simp only [isTup] at h7 <;> first | (cases h7; done) | skip
      exact si_zip hX (hS.scr.gli h2) h3 h4 (hf _ _ h5) (hf _ _ h6)
    · cases h
  · split at h
    · simp only [Bool.and_eq_true, decide_eq_true_eq] at h
      obtain ⟨⟨⟨⟨⟨⟨⟨⟨h1, h1'⟩, h2⟩, h2'⟩, h3⟩, h4⟩, h5⟩, h6⟩, h7⟩ := h
      subst h1 h1'
      cases tg <;> simp only [isTup] at h7 <;> first | (cases h7; done) | skip
      exact si_enumz hX (hS.scr.gli h2) (hS.scr.gli h2') h3 h4 (hf _ _ h5) (hf _ _ h6)
    · cases h
mutual
theorem chkT_ok {X : Cx} {sc : Scope} {f : Expr → IE → Bool} (hX : XOk X k L gl G) (hS : Sit X sc N) (hf : ∀ e ie, f e ie = true → SE L G X e ie) : ∀ (t : Tg) (e : Expr), chkT N sc f t e = true → SG L G X e t
  | .nm i, e, h => by
    unfold chkT at h
    split at h
    · rename_i x p
      rw [Bool.and_eq_true, decide_eq_true_eq] at h
      refine sg_nm hX (by rw [hS.hN]; exact h.1) (hS.scr.loc h.2) ?_
      have h2 := h.2
      unfold locB at h2
      split at h2
      · rename_i e1
        obtain ⟨k', e2, e3⟩ := hS.scr.look _ _ e1
        rcases e3 with rfl | ⟨e3, _⟩
        · exact .inr e2
        · cases e3
      · rename_i e1
        exact .inl (hS.fn _ e1)
      · cases h2
    · cases h
  | .sub io ii, e, h => by
    unfold chkT at h
    split at h
    · simp only [Bool.and_eq_true, Bool.not_eq_true'] at h
      exact sg_sub hX.room h.1.1 (hf _ _ h.1.2) (hf _ _ h.2)
    · cases h
  | .tp ts, e, h => by
    unfold chkT at h
    split at h
    · obtain ⟨h1, h2, h3⟩ := chkTs_ok hX hS hf ts _ h
      exact sg_tp hX.calm h2 h3 h1
    · cases h
theorem chkTs_ok {X : Cx} {sc : Scope} {f : Expr → IE → Bool} (hX : XOk X k L gl G) (hS : Sit X sc N) (hf : ∀ e ie, f e ie = true → SE L G X e ie) : ∀ (t : Tgs) (es : List Expr), chkTs N sc f t es = true → SGs L G X es t ∧ es.all tgE = true ∧ es.length = t.len
  | .nil, es, h => by
    unfold chkTs at h
    cases es with
    | nil => exact ⟨sgs_nil, rfl, rfl⟩
    | cons _ _ => simp at h
  | .cons t ts, es, h => by
    unfold chkTs at h
    split at h
    · rw [Bool.and_eq_true, Bool.and_eq_true] at h
      obtain ⟨h1, h2, h3⟩ := chkTs_ok hX hS hf ts _ h.2
      refine ⟨sgs_cons h.1.1 (chkT_ok hX hS hf t _ h.1.2) h1, by rw [List.all_cons, h.1.1, h2]; rfl, ?_⟩
      rw [List.length_cons, h3]
      rfl
    · cases h
end
theorem chkIf_ok {X : Cx} {f : Expr → IE → Bool} (hf : ∀ e ie, f e ie = true → Bo L G X e ie) {ifs : List Expr} {ic : IE} (h : chkIf f ifs ic = true) : SIf L G X ifs ic ∧ ifs.length ≤ 1 := by
  unfold chkIf at h
  split at h
  · exact ⟨.inl ⟨rfl, rfl⟩, by simp⟩
  · rw [Bool.and_eq_true] at h
    exact ⟨.inr ⟨_, rfl, (hf _ _ h.1).2 h.2⟩, by simp⟩
  · cases h
theorem chkLr_ok {X : Cx} {sc : Scope} {f : Expr → IE → Bool} (hX : XOk X k L gl G) (hS : Sit X sc N) (hf : ∀ e ie, f e ie = true → SE L G X e ie) {e : Expr} {b : Bi} {ies : IEs} (h : chkLr sc f e b ies = true) : Bo L G X e (.bi b ies) := by
  unfold chkLr at h
  split at h
  · split at h
    · simp only [Bool.and_eq_true, decide_eq_true_eq] at h
      obtain ⟨⟨⟨⟨⟨h1, h2⟩, h3⟩, h4⟩, h5⟩, h6⟩ := h
      subst h1 h2
      exact bo_gen (se_lr1 hX (hS.scr.gli h3) (hS.scr.gli h4) h5 (hf _ _ h6)) rfl
    · cases h
  · split at h
    · simp only [Bool.and_eq_true, decide_eq_true_eq] at h
      obtain ⟨⟨⟨⟨⟨⟨⟨h1, h2⟩, h3⟩, h4⟩, h5⟩, h5'⟩, h6⟩, h7⟩ := h
      subst h1 h2
      exact bo_gen (se_lr2 hX (hS.scr.gli h3) (hS.scr.gli h4) h5 h5' (hf _ _ h6) (hf _ _ h7)) rfl
    · cases h
  · cases h
theorem chkBg_ok {X : Cx} {sc : Scope} {f : Expr → IE → Bool} (hX : XOk X k L gl G) (hS : Sit X sc N) (hf : ∀ e ie, f e ie = true → SE L G X e ie) {e : Expr} {b : Bi} {ies : IEs} (h : chkBg sc f e b ies = true) : Bo L G X e (.bi b ies) := by
  unfold chkBg at h
  split at h
  · split at h
    · rename_i v hv
      obtain ⟨v1, v2⟩ := v
      simp only [Bool.and_eq_true, decide_eq_true_eq] at h
      obtain ⟨⟨h1, h2⟩, h3⟩ := h
      subst h1
      obtain ⟨h4, h5, h6⟩ := chkL_ok hf h3
      exact bo_gen (se_bi hX hv (hS.scr.gli h2) h5 h4) rfl
    · cases h
  · cases h
theorem chk_ok : ∀ (n : Nat) (X : Cx) (sc : Scope) (e : Expr) (ie : IE), XOk X k L gl G → Sit X sc N → chkE (L.map DFn.sig) gl N n sc e ie = true → Bo L G X e ie
  | 0, X, sc, e, ie, hX, hS, h => by cases h
  | n + 1, X, sc, e, ie, hX, hS, h => by
    have ih : ∀ e ie, chkE (L.map DFn.sig) gl N n sc e ie = true → Bo L G X e ie := fun e ie h => chk_ok n X sc e ie hX hS h
    have ihE : ∀ e ie, chkE (L.map DFn.sig) gl N n sc e ie = true → SE L G X e ie := fun e ie h => (ih e ie h).1
    unfold chkE at h
    cases ie with
    | cst d =>
      simp only at h
      unfold chkC at h
      split at h <;> first | (cases h; done) | skip
      · have h := of_decide_eq_true h
        subst h
        exact bo_gen se_int rfl
      · have h := of_decide_eq_true h
        subst h
        exact bo_gen se_bl rfl
      · exact bo_gen se_non rfl
      · exact bo_gen (se_str (of_decide_eq_true h)) rfl
    | var i =>
      simp only at h
      split at h
      · simp only [Bool.and_eq_true, decide_eq_true_eq] at h
        obtain ⟨h1, h2⟩ := nameOk_of h.2
        exact bo_gen (se_var (by rw [hS.hN]; exact h.1.1) (hS.scr.vis h.1.2) h1 h2) rfl
      · cases h
    | glb i =>
      simp only at h
      split at h
      · simp only [Bool.and_eq_true, decide_eq_true_eq] at h
        obtain ⟨h1, h2⟩ := nameOk_of h.2
        exact bo_gen (se_glb hX h.1.1 (hS.scr.gli h.1.2) h1) rfl
      · cases h
    | tup ies =>
      simp only at h
      split at h
      · exact bo_gen (se_tup (chkL_ok ihE h).1) rfl
      · cases h
    | lst ies =>
      simp only at h
      split at h
      · exact bo_gen (se_lst (chkL_ok ihE h).1) rfl
      · cases h
    | dct ies =>
      simp only at h
      split at h
      · rename_i ks vs p
        rw [Bool.and_eq_true, decide_eq_true_eq] at h
        have hd := chkDs_ok ihE h.2
        cases ks with
        | nil =>
          cases vs with
          | nil =>
            cases ies with
            | nil => exact bo_gen se_dct0 rfl
            | cons _ _ => exact hd.elim
          | cons _ _ => exact hd.elim
        | cons k0 ks => exact bo_gen (se_dctD hX.room (by simp) h.1 hd) rfl
      · cases h
    | bin op ia ib =>
      simp only at h
      split at h
      · simp only [Bool.and_eq_true, decide_eq_true_eq] at h
        exact bo_gen (se_bin h.1.1 (ihE _ _ h.1.2) (ihE _ _ h.2)) rfl
      · cases h
    | neg ia =>
      simp only at h
      split at h
      · exact bo_gen (se_neg (ihE _ _ h)) rfl
      · cases h
    | cmp op ia ib =>
      simp only at h
      split at h
      · simp only [Bool.and_eq_true, decide_eq_true_eq, Bool.not_eq_true'] at h
        obtain ⟨h1, h2⟩ := se_cmp (pos := _) hX.room h.1.1.1 h.1.1.2 (ihE _ _ h.1.2) (ihE _ _ h.2)
        exact ⟨h1, fun _ => h2⟩
      · cases h
    | chn op op' ia ib ic =>
      simp only at h
      split at h
      · simp only [Bool.and_eq_true, decide_eq_true_eq, Bool.not_eq_true'] at h
        obtain ⟨h1, h2⟩ := se_chn (pos := _) hX.room h.1.1.1.1.1 h.1.1.1.1.2 h.1.1.1.2 (ihE _ _ h.1.1.2) (ihE _ _ h.1.2) (ihE _ _ h.2)
        exact ⟨h1, fun _ => h2⟩
      · cases h
    | and ia ib =>
      simp only at h
      split at h
      · obtain ⟨h1, h2⟩ := chkAnd_ok ih h
        exact ⟨h1, fun _ => st_of_sw h2⟩
      · cases h
    | or ia ib =>
      simp only at h
      split at h
      · obtain ⟨h1, h2⟩ := chkOr_ok ih h
        exact ⟨h1, fun _ => st_of_sw h2⟩
      · cases h
    | not ia =>
      simp only at h
      split at h
      · rw [Bool.and_eq_true] at h
        obtain ⟨h1, h2⟩ := ih _ _ h.2
        obtain ⟨h3, h4⟩ := se_not (pos := _) h1 (h2 h.1)
        exact ⟨h3, fun _ => h4⟩
      · cases h
    | ite ic ia ib =>
      simp only at h
      split at h
      · simp only [Bool.and_eq_true] at h
        exact ⟨se_ite ((ih _ _ h.1.1.2).2 h.1.1.1) (ihE _ _ h.1.2) (ihE _ _ h.2), fun h => by cases h⟩
      · cases h
    | ix ia ib =>
      simp only at h
      split at h
      · simp only [Bool.and_eq_true, Bool.not_eq_true'] at h
        exact bo_gen (se_ix hX.room h.1.1 (ihE _ _ h.1.2) (ihE _ _ h.2)) rfl
      · cases h
    | sl ia il ih' =>
      simp only at h
      split at h
      · simp only [Bool.and_eq_true] at h
        exact bo_gen (se_sl (ihE _ _ h.1.1) (chkO_ok ihE h.1.2) (chkO_ok ihE h.2)) rfl
      · cases h
    | rev ia =>
      simp only at h
      split at h
      · simp only [Bool.and_eq_true, decide_eq_true_eq] at h
        obtain ⟨h1, h2⟩ := h
        subst h1
        exact bo_gen (se_rev (ihE _ _ h2)) rfl
      · cases h
    | call f ies =>
      simp only at h
      split at h
      · split at h
        · rename_i s hs
          simp only [Bool.and_eq_true, decide_eq_true_eq] at h
          rw [List.getElem?_map] at hs
          cases e1 : L[f]? with
          | none => rw [e1] at hs; cases hs
          | some e2 =>
            rw [e1] at hs
            cases hs
            obtain ⟨h1, h2, h3⟩ := chkL_ok ihE h.2
            obtain ⟨n1, n2⟩ := nameOk_of h.1.2
            exact bo_gen (se_call hX e1 h.1.1.1.1 h.1.1.1.2.symm (hS.scr.gli h.1.1.2) n1 h2 h3 h1) rfl
        · cases h
      · cases h
    | bi b ies =>
      rw [Bool.or_eq_true] at h
      rcases h with h | h
      · exact chkLr_ok hX hS ihE h
      · exact chkBg_ok hX hS ihE h
    | isi ia t =>
      simp only at h
      split at h
      · simp only [Bool.and_eq_true, decide_eq_true_eq] at h
        obtain ⟨⟨⟨⟨⟨h1, h2⟩, h3⟩, h4⟩, h5⟩, h6⟩ := h
        subst h1 h2
        exact bo_gen (se_isi hX (hS.scr.gli h3) (hS.scr.gli h4) h5 (ihE _ _ h6)) rfl
      · cases h
    | mth m io ies =>
      simp only at h
      split at h
      · rw [Bool.and_eq_true, Bool.and_eq_true, Bool.and_eq_true, Bool.and_eq_true, Bool.and_eq_true] at h
        obtain ⟨⟨⟨⟨⟨h1, h2⟩, h3⟩, h4⟩, h5⟩, h6⟩ := h
        obtain ⟨h7, h8, h9⟩ := chkL_ok ihE h5
        unfold chkMt at h6
        split at h6
        · have h6 := of_decide_eq_true h6
          subst h6
          exact bo_gen (se_append h1 h2 h3 (ihE _ _ h4) h7) rfl
        · have h6 := of_decide_eq_true h6
          subst h6
          cases ies with
          | nil => exact bo_gen (se_pop h1 h3 (ihE _ _ h4)) rfl
          | cons _ _ => simp [chkL] at h5
        · have h6 := of_decide_eq_true h6
          subst h6
          exact bo_gen (se_join h1 h2 h3 (ihE _ _ h4) h7) rfl
        · have h6 := of_decide_eq_true h6
          subst h6
          exact bo_gen (se_popAt h1 h2 h3 (ihE _ _ h4) h7) rfl
        · have h6 := of_decide_eq_true h6
          subst h6
          exact bo_gen (se_get hX.room h1 h2 h3 (ihE _ _ h4) h7) rfl
        · have h6 := of_decide_eq_true h6
          subst h6
          exact bo_gen (se_get2 hX.room h1 h2 h3 (ihE _ _ h4) h7) rfl
        · have h6 := of_decide_eq_true h6
          subst h6
          exact bo_gen (se_index hX.room h1 h2 h3 (ihE _ _ h4) h7) rfl
        · have h6 := of_decide_eq_true h6
          subst h6
          exact bo_gen (se_count hX.room h1 h2 h3 (ihE _ _ h4) h7) rfl
        · have h6 := of_decide_eq_true h6
          subst h6
          exact bo_gen (se_extend h1 h2 h3 (ihE _ _ h4) h7) rfl
        · cases h6
      · cases h
    | lc own tg it ic iel =>
      simp only at h
      split at h
      · simp only [Bool.and_eq_true, decide_eq_true_eq] at h
        obtain ⟨⟨⟨⟨⟨⟨⟨h0, h1⟩, h2⟩, h3⟩, h4⟩, h5⟩, h6⟩, h7⟩ := h
        subst h0
        rename_i scope pos0
        have hB : ∀ s H C cl fp, (∀ e ie, chkE (L.map DFn.sig) gl N n scope e ie = true → Bo L G (X.blk s H scope (compEnvC scope cl C X.env) fp) e ie) := fun s H C cl fp e ie h => chk_ok n _ scope e ie (hX.blk s H scope _ fp) (hS.blk s H scope cl C fp) h
        have := se_lc (pos := pos0) (tg := tg) (own := ownOf N own) hX hS.scr (by rw [hS.hN]; exact h1) h2 (by rw [ownOf_map]; exact h3) (fun s H C cl fp => chkT_ok (hX.blk s H scope _ fp) (hS.blk s H scope cl C fp) (fun e ie h => (hB s H C cl fp e ie h).1) _ _ h4)
          (fun s H C cl fp => (chkIf_ok (hB s H C cl fp) h6).1) (fun s H C cl fp => (hB s H C cl fp _ _ h7).1) (chkI_ok hX hS ihE h5) (by
            rename_i ifs _ _ _
            unfold chkIf at h6
            split at h6 <;> simp at h6 ⊢)
        rw [ownOf_map] at this
        exact bo_gen this rfl
      · cases h
    | lc2 own tg it own1 tg1 it1 ic iel =>
      simp only at h
      split at h
      · simp only [Bool.and_eq_true, decide_eq_true_eq] at h
        obtain ⟨⟨⟨⟨⟨⟨⟨⟨⟨⟨⟨⟨⟨h0, h00⟩, h1⟩, h2⟩, h2'⟩, hs⟩, h3⟩, h3'⟩, h4⟩, h4'⟩, h5⟩, h5'⟩, h6⟩, h7⟩ := h
        subst h0 h00
        rename_i scope pos0
        have hB : ∀ s H C cl fp, (∀ e ie, chkE (L.map DFn.sig) gl N n scope e ie = true → Bo L G (X.blk s H scope (compEnvC scope cl C X.env) fp) e ie) := fun s H C cl fp e ie h => chk_ok n _ scope e ie (hX.blk s H scope _ fp) (hS.blk s H scope cl C fp) h
        have := se_lc2 (pos := pos0) (tg := tg) (tg1 := tg1) (own := ownOf N own) (own1 := own1) hX hS.scr (by rw [hS.hN]; exact h1) h2 h2' (by rw [ownOf_map]; intro i hi; exact of_decide_eq_true (List.all_eq_true.mp hs i hi)) (by rw [ownOf_map]; exact h3) h3'
          (fun s H C cl fp => chkT_ok (hX.blk s H scope _ fp) (hS.blk s H scope cl C fp) (fun e ie h => (hB s H C cl fp e ie h).1) _ _ h4)
          (fun s H C cl fp => chkT_ok (hX.blk s H scope _ fp) (hS.blk s H scope cl C fp) (fun e ie h => (hB s H C cl fp e ie h).1) _ _ h4')
          (fun s H C cl fp => (chkIf_ok (hB s H C cl fp) h6).1) (fun s H C cl fp => (hB s H C cl fp _ _ h7).1) (chkI_ok hX hS ihE h5) (fun s H C cl fp => chkI_ok (hX.blk s H scope _ fp) (hS.blk s H scope cl C fp) (fun e ie h => (hB s H C cl fp e ie h).1) h5') (by
            unfold chkIf at h6
            split at h6 <;> simp at h6 ⊢)
        rw [ownOf_map] at this
        exact bo_gen this rfl
      · cases h
    | al ie =>
      simp only [Bool.and_eq_true] at h
      exact bo_gen (se_al (frshS_eq ie h.1.2) (ihE _ _ h.2)) h.1.1
    | fz ie => simp at h
    | dis ks ies ik =>
      simp only at h
      split at h
      · rw [Bool.and_eq_true, Bool.and_eq_true, Bool.and_eq_true, Bool.and_eq_true, Bool.and_eq_true, Bool.not_eq_true', Bool.not_eq_true', decide_eq_true_eq] at h
        obtain ⟨⟨⟨⟨⟨h1, h2⟩, h2'⟩, h3⟩, h4⟩, h5⟩ := h
        exact bo_gen (se_dis hX h1 (by intro q; rw [q] at h2; cases h2) h3 h2' (chkL_sp ihE h4) (ihE _ _ h5)) rfl
      · cases h
end
end Py

set_option Elab.async false
set_option linter.all false
set_option maxRecDepth 100000
set_option autoImplicit false
set_option maxHeartbeats 8000000
namespace Py
open PySem PySem.Spec L2
/-! ### statements: this text is that -/
/-- no store into a comprehension's own place -/
def tgNot (sc : Scope) (scope : Scope) (p : Pos) : Expr → Bool
  | .Name t pos => !(decide (sc.names.lookup t = some .local) && (pos.line == p.line) && !(scope.names.any fun (n, k) => n == t && (k == .local || k == .cell)))
  | _ => true
def tgYes (N : List Str) (i : Nat) (sc : Scope) (scope : Scope) (p : Pos) : Expr → Bool
  | .Name t pos => decide (N[i]? = some t) && decide (sc.kind = .function) && decide (sc.names.lookup t = some .local) && (pos.line == p.line) && !(scope.names.any fun (n, k) => n == t && (k == .local || k == .cell))
  | _ => false
def swB (sc : Scope) (tg e : Expr) : Bool := match e with
  | .ListComp _ _ scope p => tgNot sc scope p tg
  | e => !isComp e
def noneB (sc : Scope) (tg e : Expr) : Bool := match tg, e with
  | .Tuple ts _ _, .Tuple vs _ _ => vs.all plainE && swTT sc ts vs
  | tg, e => (!tupE tg && !lstE tg) || !tupE e
def strip : IE → IE × Bool
  | .al ie => (ie, true)
  | ie => (ie, false)
def chkSet (fs : List Sig) (gl N : List Str) (n : Nat) (sc : Scope) (tgx e : Expr) (i : Nat) (ie : IE) : Bool := match e with
  | .ListComp elt gs scope p => (match (strip ie).1 with
    | .lc own tg it ic iel => chkE fs gl N n sc e (.lc own tg it ic iel) && tgYes N i sc scope p tgx
    | .lc2 own tg it own1 tg1 it1 ic iel => chkE fs gl N n sc e (.lc2 own tg it own1 tg1 it1 ic iel) && tgYes N i sc scope p tgx
    | _ => false)
  | _ => false
def chkPar (fs : List Sig) (gl N : List Str) (n : Nat) (sc : Scope) (tg e : Expr) (is : List Nat) (ies : IEs) : Bool := match tg, e, is with
  | .Tuple [.Name x px, .Name y py] _ _, .Tuple [a, c] _ _, [i, j] => decide (N[i]? = some x) && decide (N[j]? = some y) && decide (i ≠ j) && sw2 sc x y px py a c && chkL (chkE fs gl N n sc) [a, c] ies
  | .Tuple [.Name x px, .Name y py, .Name z pz] _ _, .Tuple [a, c, d] _ _, [i, j, l] => decide (N[i]? = some x) && decide (N[j]? = some y) && decide (N[l]? = some z) && decide (i ≠ j) && decide (i ≠ l) && decide (j ≠ l) && sw3 sc x y z px py pz a c d && chkL (chkE fs gl N n sc) [a, c, d] ies
  | _, _, _ => false
def isFrz : IS → Bool
  | .frz _ => true
  | _ => false
mutual
def chkS (fs : List Sig) (gl N : List Str) (b : Bool) (n : Nat) (sc : Scope) : IS → Stmt → Bool
  | .asg t ie, s => (match s with
    | .Assign [tg] e pos => (tgE tg && swB sc tg e && noneB sc tg e && chkT N sc (chkE fs gl N n sc) t tg && chkE fs gl N n sc e ie) ||
      (match t with
      | .nm i => chkSet fs gl N n sc tg e i ie
      | _ => false)
    | _ => false)
  | .par is ies, s => (match s with
    | .Assign [tg] e pos => chkPar fs gl N n sc tg e is ies
    | _ => false)
  | .ex ie, s => (match s with
    | .Expr e pos => !isComp e && chkE fs gl N n sc e ie
    | _ => false)
  | .ret ie, s => (match s with
    | .Return (some e) pos => (!b || frshS fs ie) && chkE fs gl N n sc e ie
    | _ => false)
  | .retO i, s => (match s with
    | .Return (some e) _ => chkE fs gl N n sc e (.var i)
    | _ => false)
  | .retN, s => (match s with
    | .Return none _ => true
    | _ => false)
  | .pass, s => (match s with
    | .Pass _ => true
    | _ => false)
  | .rse, _ => true
  | .frz _, _ => false
  | .ite ic i1 i2, s => (match s with
    | .If c s1 s2 _ => notIf c && chkE fs gl N n sc c ic && chkSs fs gl N b n sc i1 s1 && chkSs fs gl N b n sc i2 s2
    | _ => false)
  | .for_ t it ib, s => (match s with
    | .For tg iter body [] _ => plainI iter && chkT N sc (chkE fs gl N n sc) t tg && chkI sc (chkE fs gl N n sc) tg iter it && chkSs fs gl N b n sc ib body
    | _ => false)
  | .whl ic ib, s => (match s with
    | .While c body [] _ => notIf c && chkE fs gl N n sc c ic && chkSs fs gl N b n sc ib body
    | _ => false)
def chkSs (fs : List Sig) (gl N : List Str) (b : Bool) (n : Nat) (sc : Scope) : ISs → List Stmt → Bool
  | .nil, ss => ss.isEmpty
  | .cons i is, ss => (isFrz i && chkSs fs gl N b n sc is ss) || (match ss with
    | s :: ss => chkS fs gl N b n sc i s && chkSs fs gl N b n sc is ss
    | [] => false)
end
theorem isFrz_eq {i : IS} (h : isFrz i = true) : ∃ j, i = .frz j := by
  cases i <;> simp [isFrz] at h
  exact ⟨_, rfl⟩
section
variable {L : List DFn} {G : List D} {gl N : List Str} {k : Nat} {b : Bool}
theorem swB_ok {X : Cx} {sc : Scope} (hS : Sit X sc N) (hk : X.env.scope = sc) {tg e : Expr} {l : Nat} (h : swB sc tg e = true) : swapsWithSole [tg] e l X.env = pure false := by
  show swapsWith e (some tg) l X.env = pure false
  cases e <;> simp only [swB, Bool.not_eq_true'] at h <;> first | exact swaps_not h | skip
  rename_i elt gs scope p
  unfold swapsWith
  cases tg <;> first | rfl | skip
  rename_i t pos
  unfold tgNot at h
  simp only [pure_bind]
  have e1 : (X.env.kindOf t == some NameKind.local) = decide (sc.names.lookup t = some .local) := by
    show (X.env.scope.names.lookup t == _) = _
    rw [hk, Bool.eq_iff_iff, beq_iff_eq, decide_eq_true_eq]
  rw [Bool.not_eq_true'] at h
  show pure (X.env.blockKind == .function && X.env.kindOf t == some .local && pos.line == p.line && !(scope.names.any fun (n, k) => n == t && (k == .local || k == .cell))) = pure false
  rw [e1, Bool.and_assoc, Bool.and_assoc, ← Bool.and_assoc (decide _), h, Bool.and_false]
theorem noneB_ok {X : Cx} {sc : Scope} (hk : X.env.scope = sc) {tg e : Expr} (h : noneB sc tg e = true) : swappedStores [tg] e X.env = pure none := by
  unfold noneB at h
  split at h
  · rw [Bool.and_eq_true] at h
    exact sw_none3 h.1 (hk ▸ h.2)
  · rw [Bool.or_eq_true, Bool.and_eq_true, Bool.not_eq_true', Bool.not_eq_true', Bool.not_eq_true'] at h
    rcases h with h | h
    · exact sw_none1 h.1 h.2
    · exact sw_none2 h
theorem strip_re {X : Cx} {t : TE} {ie : IE} (hf : frsh L (strip ie).1 = true) (h : RE L G X t (strip ie).1) : RE L G X t ie := by
  cases ie <;> first | exact h | skip
  exact re_al hf h
theorem chkSet_ok {X : Cx} {sc : Scope} (hX : XOk X k L gl G) (hS : Sit X sc N) (hk : X.env.scope = sc) {n i : Nat} {tgx e : Expr} {ie : IE} {pos : Pos} (h : chkSet (L.map DFn.sig) gl N n sc tgx e i ie = true) : SS L G X b (.Assign [tgx] e pos) (.asg (.nm i) ie) := by
  unfold chkSet at h
  split at h
  · rename_i elt gs scope p
    split at h
    · rename_i own tg it ic iel hst
      rw [Bool.and_eq_true] at h
      obtain ⟨h, hy⟩ := h
      cases n with
      | zero => cases h
      | succ n =>
      unfold chkE at h
      simp only at h
      split at h
      · rename_i he
        cases he
        simp only [Bool.and_eq_true, decide_eq_true_eq] at h
        obtain ⟨⟨⟨⟨⟨⟨⟨h0, h1⟩, h2⟩, h3⟩, h4⟩, h5⟩, h6⟩, h7⟩ := h
        subst h0
        cases tgx <;> simp only [tgYes] at hy <;> first | (cases hy; done) | skip
        rename_i t tpos
        simp only [Bool.and_eq_true, decide_eq_true_eq, Bool.not_eq_true'] at hy
        obtain ⟨⟨⟨⟨y1, y2⟩, y3⟩, y4⟩, y5⟩ := hy
        have hB : ∀ s H C cl fp, (∀ e ie, chkE (L.map DFn.sig) gl N n scope e ie = true → Bo L G (X.blk s H scope (compEnvC scope cl C X.env) fp) e ie) := fun s H C cl fp e ie h => chk_ok n _ scope e ie (hX.blk s H scope _ fp) (hS.blk s H scope cl C fp) h
        have ihE : ∀ e ie, chkE (L.map DFn.sig) gl N n sc e ie = true → SE L G X e ie := fun e ie h => (chk_ok n X sc e ie hX hS h).1
        have hlen := (chkIf_ok (X := X) (L := L) (G := G) (f := fun _ _ => false) (fun _ _ h => by cases h) (ifs := []) (ic := .cst (.bl true)) rfl).2
        have hlen : ∀ ifs : List Expr, chkIf (chkE (L.map DFn.sig) gl N n scope) ifs ic = true → ifs.length ≤ 1 := fun ifs h6 => by
          unfold chkIf at h6
          split at h6 <;> simp at h6 ⊢
        refine ss_setC (te := _) (L2.ps_setLc hX.calm hX.nd (by rw [hS.hN]; exact y1) (by rw [hk]; exact y3) (sw_true (by rw [hk]; exact y2) (by rw [hk]; exact y3) y4 y5) pi_wp (hS.scr.blkOk (by rw [hS.hN]; exact h1)) (pg_W (BX := fun s H C cl fp => X.blk s H scope (compEnvC scope cl C X.env) fp))
          (pts_W (BX := fun s H C cl fp => X.blk s H scope (compEnvC scope cl C X.env) fp) (hlen _ h6)) (pe_W (BX := fun s H C cl fp => X.blk s H scope (compEnvC scope cl C X.env) fp)) (folded_of h2)) ?_
        refine strip_re (by rw [hst]; rfl) ?_
        rw [hst]
        intro σ H g env st d st' Q hE hS' hev P
        rw [ownOf_map]
        exact lc_ev (BX := fun s H C cl fp => X.blk s H scope (compEnvC scope cl C X.env) fp) (fun _ _ _ _ _ => rfl) (fun _ _ _ _ _ => rfl) h3
          (fun s H C cl fp => chkT_ok (hX.blk s H scope _ fp) (hS.blk s H scope cl C fp) (fun e ie h => (hB s H C cl fp e ie h).1) _ _ h4)
          (fun s H C cl fp => (chkIf_ok (hB s H C cl fp) h6).1) (fun s H C cl fp => (hB s H C cl fp _ _ h7).1) (chkI_ok hX hS ihE h5) σ H g env st d st' Q hE hS' hev P
      · cases h
    · rename_i own tg it own1 tg1 it1 ic iel hst
      rw [Bool.and_eq_true] at h
      obtain ⟨h, hy⟩ := h
      cases n with
      | zero => cases h
      | succ n =>
      unfold chkE at h
      simp only at h
      split at h
      · rename_i he
        cases he
        simp only [Bool.and_eq_true, decide_eq_true_eq] at h
        obtain ⟨⟨⟨⟨⟨⟨⟨⟨⟨⟨⟨⟨⟨h0, h00⟩, h1⟩, h2⟩, h2'⟩, hs⟩, h3⟩, h3'⟩, h4⟩, h4'⟩, h5⟩, h5'⟩, h6⟩, h7⟩ := h
        subst h0 h00
        cases tgx <;> simp only [tgYes] at hy <;> first | (cases hy; done) | skip
        rename_i t tpos
        simp only [Bool.and_eq_true, decide_eq_true_eq, Bool.not_eq_true'] at hy
        obtain ⟨⟨⟨⟨y1, y2⟩, y3⟩, y4⟩, y5⟩ := hy
        have hB : ∀ s H C cl fp, (∀ e ie, chkE (L.map DFn.sig) gl N n scope e ie = true → Bo L G (X.blk s H scope (compEnvC scope cl C X.env) fp) e ie) := fun s H C cl fp e ie h => chk_ok n _ scope e ie (hX.blk s H scope _ fp) (hS.blk s H scope cl C fp) h
        have ihE : ∀ e ie, chkE (L.map DFn.sig) gl N n sc e ie = true → SE L G X e ie := fun e ie h => (chk_ok n X sc e ie hX hS h).1
        have hlen : ∀ ifs : List Expr, chkIf (chkE (L.map DFn.sig) gl N n scope) ifs ic = true → ifs.length ≤ 1 := fun ifs h6 => by
          unfold chkIf at h6
          split at h6 <;> simp at h6 ⊢
        refine ss_setC (te := _) (L2.ps_setLc2 hX.calm hX.nd (by rw [hS.hN]; exact y1) (by rw [hk]; exact y3) (sw_true (by rw [hk]; exact y2) (by rw [hk]; exact y3) y4 y5) pi_wp (hS.scr.blkOk (by rw [hS.hN]; exact h1)) (vs1 := own1)
          (by rw [ownOf_map]; intro i hi; exact of_decide_eq_true (List.all_eq_true.mp hs i hi)) (pg_W (BX := fun s H C cl fp => X.blk s H scope (compEnvC scope cl C X.env) fp)) (fun _ _ _ _ _ => pts_nil)
          (pi_W (BX := fun s H C cl fp => X.blk s H scope (compEnvC scope cl C X.env) fp)) (pg_W (BX := fun s H C cl fp => X.blk s H scope (compEnvC scope cl C X.env) fp))
          (pts_W (BX := fun s H C cl fp => X.blk s H scope (compEnvC scope cl C X.env) fp) (hlen _ h6)) (pe_W (BX := fun s H C cl fp => X.blk s H scope (compEnvC scope cl C X.env) fp)) (folded_of h2) (fun env => folded_of h2')) ?_
        refine strip_re (by rw [hst]; rfl) ?_
        rw [hst]
        intro σ H g env st d st' Q hE hS' hev P
        rw [ownOf_map]
        exact lc2_ev (BX := fun s H C cl fp => X.blk s H scope (compEnvC scope cl C X.env) fp) (fun _ _ _ _ _ => rfl) (fun _ _ _ _ _ => rfl) h3 h3'
          (fun s H C cl fp => chkT_ok (hX.blk s H scope _ fp) (hS.blk s H scope cl C fp) (fun e ie h => (hB s H C cl fp e ie h).1) _ _ h4)
          (fun s H C cl fp => chkT_ok (hX.blk s H scope _ fp) (hS.blk s H scope cl C fp) (fun e ie h => (hB s H C cl fp e ie h).1) _ _ h4')
          (fun s H C cl fp => (chkIf_ok (hB s H C cl fp) h6).1) (fun s H C cl fp => (hB s H C cl fp _ _ h7).1) (chkI_ok hX hS ihE h5) (fun s H C cl fp => chkI_ok (hX.blk s H scope _ fp) (hS.blk s H scope cl C fp) (fun e ie h => (hB s H C cl fp e ie h).1) h5')
          σ H g env st d st' Q hE hS' hev P
      · cases h
    · cases h
  · cases h
theorem chkPar_ok {X : Cx} {sc : Scope} (hX : XOk X k L gl G) (hS : Sit X sc N) (hk : X.env.scope = sc) {n : Nat} {tg e : Expr} {is : List Nat} {ies : IEs} {pos : Pos} (h : chkPar (L.map DFn.sig) gl N n sc tg e is ies = true) : SS L G X b (.Assign [tg] e pos) (.par is ies) := by
  have ihE : ∀ e ie, chkE (L.map DFn.sig) gl N n sc e ie = true → SE L G X e ie := fun e ie h => (chk_ok n X sc e ie hX hS h).1
  unfold chkPar at h
  split at h
  · rw [Bool.and_eq_true, Bool.and_eq_true, Bool.and_eq_true, Bool.and_eq_true, decide_eq_true_eq, decide_eq_true_eq, decide_eq_true_eq] at h
    obtain ⟨⟨⟨⟨h1, h2⟩, h3⟩, h4⟩, h5⟩ := h
    exact ss_par2 hX (by rw [hS.hN]; exact h1) (by rw [hS.hN]; exact h2) h3 (by rw [hk]; exact h4) (chkL_ok ihE h5).1
  · rw [Bool.and_eq_true, Bool.and_eq_true, Bool.and_eq_true, Bool.and_eq_true, Bool.and_eq_true, Bool.and_eq_true, Bool.and_eq_true, decide_eq_true_eq, decide_eq_true_eq, decide_eq_true_eq, decide_eq_true_eq, decide_eq_true_eq, decide_eq_true_eq] at h
    obtain ⟨⟨⟨⟨⟨⟨⟨h1, h2⟩, h3⟩, h4⟩, h5⟩, h6⟩, h7⟩, h8⟩ := h
    exact ss_par3 hX (by rw [hS.hN]; exact h1) (by rw [hS.hN]; exact h2) (by rw [hS.hN]; exact h3) h4 h5 h6 (by rw [hk]; exact h7) (chkL_ok ihE h8).1
  · cases h
mutual
theorem chkS_ok {X : Cx} {sc : Scope} (hX : XOk X k L gl G) (hS : Sit X sc N) (hk : X.env.scope = sc) {n : Nat} : ∀ (is : IS) (s : Stmt), chkS (L.map DFn.sig) gl N b n sc is s = true → SS L G X b s is
  | .asg t ie, s, h => by
    have ihE : ∀ e ie, chkE (L.map DFn.sig) gl N n sc e ie = true → SE L G X e ie := fun e ie h => (chk_ok n X sc e ie hX hS h).1
    unfold chkS at h
    split at h
    · rw [Bool.or_eq_true] at h
      rcases h with h | h
      · rw [Bool.and_eq_true, Bool.and_eq_true, Bool.and_eq_true, Bool.and_eq_true] at h
        obtain ⟨⟨⟨⟨h1, h2⟩, h3⟩, h4⟩, h5⟩ := h
        exact ss_asg (ihE _ _ h5) (chkT_ok hX hS ihE _ _ h4) h1 (swB_ok hS hk h2) (noneB_ok hk h3)
      · split at h
        · exact chkSet_ok hX hS hk h
        · cases h
    · cases h
  | .par is ies, s, h => by
    unfold chkS at h
    split at h
    · exact chkPar_ok hX hS hk h
    · cases h
  | .ex ie, s, h => by
    unfold chkS at h
    split at h
    · rw [Bool.and_eq_true, Bool.not_eq_true'] at h
      exact ss_ex (chk_ok n X sc _ _ hX hS h.2).1 h.1
    · cases h
  | .ret ie, s, h => by
    unfold chkS at h
    split at h
    · rw [Bool.and_eq_true, Bool.or_eq_true, Bool.not_eq_true'] at h
      exact ss_ret (chk_ok n X sc _ _ hX hS h.2).1 fun hb => by
        rcases h.1 with h1 | h1
        · rw [hb] at h1
          cases h1
        · exact frshS_eq _ h1
    · cases h
  | .retO i, s, h => by
    unfold chkS at h
    split at h
    · exact ss_retO (chk_ok n X sc _ _ hX hS h).1
    · cases h
  | .retN, s, h => by
    unfold chkS at h
    split at h
    · exact ss_retN
    · cases h
  | .pass, s, h => by
    unfold chkS at h
    split at h
    · exact ss_pass
    · cases h
  | .rse, s, h => ss_rse
  | .frz i, s, h => by
    unfold chkS at h
    cases h
  | .ite ic i1 i2, s, h => by
    unfold chkS at h
    split at h
    · rw [Bool.and_eq_true, Bool.and_eq_true, Bool.and_eq_true] at h
      obtain ⟨⟨⟨h0, h1⟩, h2⟩, h3⟩ := h
      exact ss_ite ((chk_ok n X sc _ _ hX hS h1).2 h0) (chkSs_ok hX hS hk _ _ h2) (chkSs_ok hX hS hk _ _ h3)
    · cases h
  | .for_ t it ib, s, h => by
    have ihE : ∀ e ie, chkE (L.map DFn.sig) gl N n sc e ie = true → SE L G X e ie := fun e ie h => (chk_ok n X sc e ie hX hS h).1
    unfold chkS at h
    split at h
    · rw [Bool.and_eq_true, Bool.and_eq_true, Bool.and_eq_true] at h
      obtain ⟨⟨⟨h0, h1⟩, h2⟩, h3⟩ := h
      exact ss_for hX h0 (chkT_ok hX hS ihE _ _ h1) (chkI_ok hX hS ihE h2) (chkSs_ok hX hS hk _ _ h3)
    · cases h
  | .whl ic ib, s, h => by
    unfold chkS at h
    split at h
    · rw [Bool.and_eq_true, Bool.and_eq_true] at h
      obtain ⟨⟨h0, h1⟩, h3⟩ := h
      exact ss_whl hX ((chk_ok n X sc _ _ hX hS h1).2 h0) (chkSs_ok hX hS hk _ _ h3)
    · cases h
theorem chkSs_ok {X : Cx} {sc : Scope} (hX : XOk X k L gl G) (hS : Sit X sc N) (hk : X.env.scope = sc) {n : Nat} : ∀ (is : ISs) (s : List Stmt), chkSs (L.map DFn.sig) gl N b n sc is s = true → SSs L G X b s is
  | .nil, ss, h => by
    unfold chkSs at h
    cases ss with
    | nil => exact sss_nil
    | cons _ _ => cases h
  | .cons i is, ss, h => by
    unfold chkSs at h
    rw [Bool.or_eq_true] at h
    rcases h with h | h
    · rw [Bool.and_eq_true] at h
      obtain ⟨j, rfl⟩ := isFrz_eq h.1
      exact sss_frz (chkSs_ok hX hS hk _ _ h.2)
    · split at h
      · rw [Bool.and_eq_true] at h
        exact sss_cons (chkS_ok hX hS hk _ _ h.1) (chkSs_ok hX hS hk _ _ h.2)
      · cases h
end
end
end Py

set_option Elab.async false
set_option linter.all false
set_option maxRecDepth 100000
set_option autoImplicit false
set_option maxHeartbeats 8000000
namespace Py
open PySem PySem.Spec L2
/-! ### the end of a call -/
mutual
def rlt (n : Nat) : D → Prop
  | .ref k => k < n
  | .tup xs => rlts n xs
  | .lst xs => rlts n xs
  | .dct kvs => rltK n kvs
  | _ => True
def rlts (n : Nat) : List D → Prop
  | [] => True
  | x :: xs => rlt n x ∧ rlts n xs
def rltK (n : Nat) : List (D × D) → Prop
  | [] => True
  | x :: xs => rltP n x ∧ rltK n xs
def rltP (n : Nat) : D × D → Prop
  | (a, b) => rlt n a ∧ rlt n b
end
section
variable {K : PySem.W.Frag} {w : World} {g : Gh} {H : Hp}
mutual
theorem RelD.rlt : ∀ {d : D} {v : V}, RelD K w g H d v → rlt g.ρ.length d
  | .non, v, h => trivial
  | .bl b, v, h => trivial
  | .int i, v, h => trivial
  | .str cs, v, h => trivial
  | .tup ds, v, h => by
    rw [RelD] at h
    obtain ⟨a, vs, _, _, hr⟩ := h
    exact RelDs.rlts hr
  | .lst ds, v, h => by
    rw [RelD] at h
    obtain ⟨a, vs, _, _, hr⟩ := h
    exact RelDs.rlts hr
  | .dct kvs, v, h => by
    rw [RelD] at h
    obtain ⟨a, vs, _, _, _, hr⟩ := h
    exact RelKs.rltK hr
  | .ref k, v, h => by
    rw [RelD] at h
    exact h.1
  | .fn k, v, h => trivial
theorem RelDs.rlts : ∀ {ds : List D} {vs : List V}, RelDs K w g H ds vs → rlts g.ρ.length ds
  | [], vs, h => trivial
  | d :: ds, vs, h => by
    rw [RelDs] at h
    obtain ⟨v, r, hv, h1, h2⟩ := h
    exact ⟨RelD.rlt h1, RelDs.rlts h2⟩
theorem RelKs.rltK : ∀ {ds : List (D × D)} {vs : List DictEntry}, RelKs K w g H ds vs → rltK g.ρ.length ds
  | [], vs, h => trivial
  | d :: ds, vs, h => by
    rw [RelKs] at h
    obtain ⟨v, r, hv, h1, h2⟩ := h
    exact ⟨RelP.rltP h1, RelKs.rltK h2⟩
theorem RelP.rltP : ∀ {p : D × D} {v : DictEntry}, RelP K w g H p v → rltP g.ρ.length p
  | (a, b), v, h => by
    rw [RelP] at h
    obtain ⟨_, ⟨u, _, h3⟩, z, _, h5⟩ := h
    exact ⟨RelD.rlt h3, RelD.rlt h5⟩
end
mutual
theorem rlt_pure {n : Nat} : ∀ {d : D}, D.pure d = true → rlt n d
  | .non, h => trivial
  | .bl b, h => trivial
  | .int i, h => trivial
  | .str cs, h => trivial
  | .tup ds, h => by
    unfold D.pure at h
    exact rlts_pure h
  | .lst ds, h => by
    unfold D.pure at h
    exact rlts_pure h
  | .dct kvs, h => by
    unfold D.pure at h
    exact rltK_pure h
  | .ref k, h => by
    unfold D.pure at h
    cases h
  | .fn k, h => trivial
theorem rlts_pure {n : Nat} : ∀ {ds : List D}, D.pures ds = true → rlts n ds
  | [], h => trivial
  | d :: ds, h => by
    unfold D.pures at h
    rw [Bool.and_eq_true] at h
    exact ⟨rlt_pure h.1, rlts_pure h.2⟩
theorem rltK_pure {n : Nat} : ∀ {ds : List (D × D)}, D.pureK ds = true → rltK n ds
  | [], h => trivial
  | d :: ds, h => by
    unfold D.pureK at h
    rw [Bool.and_eq_true] at h
    exact ⟨rltP_pure h.1, rltK_pure h.2⟩
theorem rltP_pure {n : Nat} : ∀ {p : D × D}, D.pureP p = true → rltP n p
  | (a, b), h => by
    unfold D.pureP at h
    rw [Bool.and_eq_true] at h
    exact ⟨rlt_pure h.1, rlt_pure h.2⟩
end
/-- g2 knows the first n -/
structure Cut (n : Nat) (g1 g2 : Gh) : Prop where
  keep : ∀ a, ¬ g1.Z a → ¬ g2.Z a
  len : n ≤ g2.ρ.length
  refs : ∀ (k : Nat) a, k < n → g2.ρ[k]? = some (some a) → g1.ρ[k]? = some (some a)
mutual
theorem RelD.cut {n : Nat} {g2 : Gh} (c : Cut n g g2) : ∀ {d : D} {v : V}, rlt n d → RelD K w g H d v → RelD K w g2 H d v
  | .non, v, p, h => h
  | .bl b, v, p, h => h
  | .int i, v, p, h => h
  | .str cs, v, p, h => h
  | .tup ds, v, p, h => by
    rw [RelD] at h ⊢
    obtain ⟨a, vs, hv, ha, hr⟩ := h
    exact ⟨a, vs, hv, ha.imp (fun q => ⟨q.1, c.keep a q.2⟩) id, RelDs.cut c p hr⟩
  | .lst ds, v, p, h => by
    rw [RelD] at h ⊢
    obtain ⟨a, vs, hv, ha, hr⟩ := h
    exact ⟨a, vs, hv, ha.imp (fun q => ⟨q.1, c.keep a q.2⟩) id, RelDs.cut c p hr⟩
  | .dct kvs, v, p, h => by
    rw [RelD] at h ⊢
    obtain ⟨a, vs, hv, ha, hd, hr⟩ := h
    exact ⟨a, vs, hv, ha.imp (fun q => ⟨q.1, c.keep a q.2⟩) id, hd, RelKs.cut c p hr⟩
  | .ref k, v, p, h => by
    rw [RelD] at h ⊢
    exact ⟨Nat.lt_of_lt_of_le p c.len, fun a q => h.2 a (c.refs k a p q)⟩
  | .fn k, v, p, h => by
    rw [RelD] at h
    exact h.elim
theorem RelDs.cut {n : Nat} {g2 : Gh} (c : Cut n g g2) : ∀ {ds : List D} {vs : List V}, rlts n ds → RelDs K w g H ds vs → RelDs K w g2 H ds vs
  | [], vs, p, h => h
  | d :: ds, vs, p, h => by
    rw [RelDs] at h ⊢
    obtain ⟨v, r, hv, h1, h2⟩ := h
    exact ⟨v, r, hv, RelD.cut c p.1 h1, RelDs.cut c p.2 h2⟩
theorem RelKs.cut {n : Nat} {g2 : Gh} (c : Cut n g g2) : ∀ {ds : List (D × D)} {vs : List DictEntry}, rltK n ds → RelKs K w g H ds vs → RelKs K w g2 H ds vs
  | [], vs, p, h => h
  | d :: ds, vs, p, h => by
    rw [RelKs] at h ⊢
    obtain ⟨v, r, hv, h1, h2⟩ := h
    exact ⟨v, r, hv, RelP.cut c p.1 h1, RelKs.cut c p.2 h2⟩
theorem RelP.cut {n : Nat} {g2 : Gh} (c : Cut n g g2) : ∀ {q : D × D} {v : DictEntry}, rltP n q → RelP K w g H q v → RelP K w g2 H q v
  | (a, b), v, p, h => by
    rw [RelP] at h ⊢
    obtain ⟨h1, ⟨u, h2, h3⟩, z, h4, h5⟩ := h
    exact ⟨h1, ⟨u, h2, RelD.cut c p.1 h3⟩, z, h4, RelD.cut c p.2 h5⟩
end
def cutG (n : Nat) (g : Gh) : Gh := ⟨fun a => g.Z a ∧ ∀ k : Nat, n ≤ k → g.ρ[k]? ≠ some (some a), g.ρ.take n⟩
theorem cut_get {n k : Nat} (h : k < n) : (cutG n g).ρ[k]? = g.ρ[k]? := by
  show (g.ρ.take n)[k]? = _
  rw [List.getElem?_take, if_pos h]
theorem cut_lt {n k : Nat} {a : Addr} (h : (cutG n g).ρ[k]? = some (some a)) : k < n := by
  have := (List.getElem?_eq_some_iff.mp h).1
  have h2 : (g.ρ.take n).length ≤ n := by
    rw [List.length_take]
    omega
  exact Nat.lt_of_lt_of_le this h2
theorem cut_c {n : Nat} (h : n ≤ g.ρ.length) : Cut n g (cutG n g) := ⟨fun a z q => z q.1, by
  show n ≤ (g.ρ.take n).length
  rw [List.length_take]
  omega, fun k a hk q => by rwa [cut_get hk] at q⟩
theorem mapO_rel {f : D → Option D} {g2 : Gh} (hf : ∀ d d' v, f d = some d' → RelD K w g H d v → RelD K w g2 H d' v) : ∀ {ds ds' : List D} {vs : List V}, mapO f ds = some ds' → RelDs K w g H ds vs → RelDs K w g2 H ds' vs
  | [], ds', vs, h, r => by
    cases h
    exact r
  | d :: ds, ds', vs, h, r => by
    unfold mapO at h
    (replace h := bindS h); obtain ⟨y, e1, h⟩ := h
    (replace h := bindS h); obtain ⟨ys, e2, h⟩ := h
    cases h
    rw [RelDs] at r ⊢
    obtain ⟨v, r', hv, h1, h2⟩ := r
    exact ⟨v, r', hv, hf _ _ _ e1 h1, mapO_rel hf e2 h2⟩
theorem mapS {α β : Type} {o : Option α} {f : α → β} {b : β} (h : o.map f = some b) : ∃ a, o = some a ∧ f a = b := by
  cases o with
  | none => cases h
  | some a => exact ⟨a, rfl, Option.some.inj h⟩
theorem frz_rel {n : Nat} {st : DSt} (S : StOk K w g H st) (hn : n ≤ g.ρ.length) : ∀ (f : Nat) (d d' : D) (v : V), frz n st f d = some d' → RelD K w g H d v → RelD K w (cutG n g) H d' v
  | 0, d, d', v, h, r => by
    unfold frz at h
    split at h
    · rename_i hp
      cases h
      exact RelD.cut (cut_c hn) (rlt_pure hp) r
    · cases h
  | f + 1, d, d', v, h, r => by
    unfold frz at h
    split at h
    · rename_i hp
      cases h
      exact RelD.cut (cut_c hn) (rlt_pure hp) r
    · split at h
      · rename_i k _
        split at h
        · rename_i hk
          cases h
          exact RelD.cut (cut_c hn) (show rlt n (.ref k) from hk) r
        · rename_i hk
          rw [RelD] at r
          split at h
          · rename_i xs hs
            (replace h := mapS h); obtain ⟨ys, e1, rfl⟩ := h
            rcases S.live k _ hs with ⟨q, _⟩ | ⟨a, ha⟩
            · cases q
            · obtain ⟨vs, h1, h2⟩ := S.obj k a _ ha hs
              rw [RelD]
              exact ⟨a, vs, r.2 a ha, .inl ⟨.inl h1, fun z => z.2 k (by omega) ha⟩, mapO_rel (fun d d' v => frz_rel S hn f d d' v) e1 h2⟩
          · rename_i kvs hs
            split at h
            · rename_i hp
              cases h
              rcases S.live k _ hs with ⟨q, _⟩ | ⟨a, ha⟩
              · cases q
              · obtain ⟨vs, h1, h2⟩ := S.obj k a _ ha hs
                rw [RelD]
                exact ⟨a, vs, r.2 a ha, .inl ⟨.inl h1, fun z => z.2 k (by omega) ha⟩, h2.1, RelKs.cut (cut_c hn) (rltK_pure hp) h2.2⟩
            · cases h
          · cases h
      · (replace h := mapS h); obtain ⟨ys, e1, rfl⟩ := h
        rw [RelD] at r ⊢
        obtain ⟨a, vs, hv, ha, hr⟩ := r
        exact ⟨a, vs, hv, ha.imp (fun q => ⟨q.1, (cut_c hn).keep a q.2⟩) id, mapO_rel (fun d d' v => frz_rel S hn f d d' v) e1 hr⟩
      · (replace h := mapS h); obtain ⟨ys, e1, rfl⟩ := h
        rw [RelD] at r ⊢
        obtain ⟨a, vs, hv, ha, hr⟩ := r
        exact ⟨a, vs, hv, ha.imp (fun q => ⟨q.1, (cut_c hn).keep a q.2⟩) id, mapO_rel (fun d d' v => frz_rel S hn f d d' v) e1 hr⟩
      · cases h
def rltO (n : Nat) : O → Prop
  | .lst xs => rlts n xs
  | .dct kvs => rltK n kvs
  | .dead => True
theorem ORel.cut {n : Nat} {g2 : Gh} (c : Cut n g g2) {o : O} {a : Addr} (p : rltO n o) (h : ORel K w g H o a) : ORel K w g2 H o a := by
  cases o with
  | lst xs => exact let ⟨vs, h1, h2⟩ := h; ⟨vs, h1, RelDs.cut c p h2⟩
  | dct kvs => exact let ⟨vs, h1, h2⟩ := h; ⟨vs, h1, h2.1, RelKs.cut c p h2.2⟩
  | dead => exact h
theorem StOk.rlt {st : DSt} (S : StOk K w g H st) : ∀ (k : Nat) (o : O), st[k]? = some o → rltO st.length o := fun k o h => by
  rcases S.live k o h with ⟨q, _⟩ | ⟨a, ha⟩
  · subst q
    trivial
  · have := S.obj k a o ha h
    rw [← S.len]
    cases o with
    | lst xs => exact let ⟨vs, h1, h2⟩ := this; RelDs.rlts h2
    | dct kvs => exact let ⟨vs, h1, h2⟩ := this; RelKs.rltK h2.2
    | dead => trivial
theorem StOk.cut {n : Nat} {st st2 : DSt} (S : StOk K w g H st) (hn : n ≤ g.ρ.length) (h2 : st2 = st.take n) (hr : ∀ (k : Nat) (o : O), st2[k]? = some o → rltO n o) : StOk K w (cutG n g) H st2 := by
  subst h2
  have gt : ∀ k : Nat, k < n → (st.take n)[k]? = st[k]? := fun k hk => by rw [List.getElem?_take, if_pos hk]
  have lt : ∀ (k : Nat) o, (st.take n)[k]? = some o → k < n := fun k o h => by
    have := (List.getElem?_eq_some_iff.mp h).1
    rw [List.length_take] at this
    omega
  refine ⟨?_, fun k j a h1 h2 => ?_, fun k a h1 => ⟨?_, fun j hj q => ?_⟩, fun a z => S.trk a z.1, fun k a o h1 h2 => ?_, fun k o h => ?_⟩
  · show (g.ρ.take n).length = _
    rw [List.length_take, List.length_take, S.len]
  · have k1 := cut_lt h1
    have k2 := cut_lt h2
    rw [cut_get k1] at h1
    rw [cut_get k2] at h2
    exact S.inj k j a h1 h2
  · have k1 := cut_lt h1
    rw [cut_get k1] at h1
    exact S.inZ k a h1
  · have k1 := cut_lt h1
    rw [cut_get k1] at h1
    have := S.inj k j a h1 q
    omega
  · have k1 := cut_lt h1
    have h3 := h2
    rw [cut_get k1] at h1
    rw [gt k k1] at h2
    exact ORel.cut (cut_c hn) (hr k o h3) (S.obj k a o h1 h2)
  · have k1 := lt k o h
    rw [gt k k1] at h
    rw [cut_get k1]
    exact S.live k o h
theorem Ext.cut {g1 : Gh} {H1 : Hp} {n : Nat} (x : Ext g H g1 H1) (hn : n = g.ρ.length) : Ext g H (cutG n g1) H1 := by
  have hl := x.len
  refine ⟨fun a o z h => ⟨(x.keep a o z h).1, fun q => (x.keep a o z h).2 q.1⟩, fun a z h => ?_, x.trk, ?_, fun k a hk q => ?_⟩
  · obtain ⟨h1, h2, h3⟩ := x.pend a z h
    refine ⟨h1, ⟨h2, fun k _ => h3 k⟩, fun k q => ?_⟩
    have := cut_lt q
    rw [cut_get this] at q
    exact h3 k q
  · show _ ≤ (g1.ρ.take n).length
    rw [List.length_take]
    omega
  · rw [cut_get (by omega)] at q
    exact x.refs k a hk q
theorem pureO_rlt {n : Nat} {o : O} (h : o.pure = true) : rltO n o := by
  cases o with
  | lst xs => exact rlts_pure h
  | dct kvs => exact rltK_pure h
  | dead => trivial
theorem ownLst_of {n : Nat} {st : DSt} {d d' : D} (h : ownLst n st d = some d') : ∃ k xs, d = .ref k ∧ d' = .lst xs ∧ n ≤ k ∧ st[k]? = some (.lst xs) ∧ D.pures xs = true := by
  unfold ownLst at h
  split at h
  · rename_i k
    split at h
    · cases h
    · rename_i hk
      split at h
      · rename_i xs hs
        split at h
        · rename_i hp
          cases h
          exact ⟨k, xs, rfl, rfl, by omega, hs, hp⟩
        · cases h
      · cases h
  · cases h
theorem fin_post {fr : Bool} {st st1 st' : DSt} {d d' : D} {Q : VK} (S : StOk K w g H st) (h : fin fr st d st1 = some (d', st')) (P : Post K w fr g H st' d' Q) : Post K w fr g H st1 d Q := by
  unfold fin at h
  split at h
  · cases h
    exact P
  · split at h
    · rename_i hfr
      subst hfr
      (replace h := bindS h); obtain ⟨d2, e1, h⟩ := h
      intro v H1 g1 x s r f
      have hn : st.length = g.ρ.length := S.len.symm
      have hle : st.length ≤ g1.ρ.length := hn ▸ x.len
      obtain ⟨k, xs, rfl, rfl, hk, hs, hp⟩ := ownLst_of e1
      rw [RelD] at r
      rcases s.live k _ hs with ⟨q, _⟩ | ⟨p, hpk⟩
      · cases q
      · obtain ⟨vs, h1, h2⟩ := s.obj k p _ hpk hs
        have hv := r.2 p hpk
        have zp := s.inZ k p hpk
        have r2 : RelD K w (cutG st.length g1) H1 (.lst xs) v := by
          rw [RelD]
          exact ⟨p, vs, hv, .inl ⟨.inl h1, fun z => z.2 k hk hpk⟩, RelDs.cut (cut_c hle) (rlts_pure hp) h2⟩
        -- it is new
        have new : ((st1.take st.length).map O.isDead = st.map O.isDead) → H p = none := fun hd => by
          cases hH : H p with
          | none => rfl
          | some o =>
            exfalso
            by_cases zg : g.Z p
            · by_cases hj : ∃ j : Nat, g.ρ[j]? = some (some p)
              · obtain ⟨j, hj⟩ := hj
                have jl : j < st.length := by rw [hn]; exact (List.getElem?_eq_some_iff.mp hj).1
                have jl1 : j < st1.length := by rw [← s.len]; omega
                cases ho : st1[j]? with
                | none => rw [List.getElem?_eq_getElem jl1] at ho; cases ho
                | some o1 =>
                  rcases s.live j o1 ho with ⟨q, _⟩ | ⟨a, ha⟩
                  · subst q
                    have e2 : ((st1.take st.length).map O.isDead)[j]? = some true := by
                      rw [List.getElem?_map, List.getElem?_take, if_pos jl, ho]
                      rfl
                    rw [hd, List.getElem?_map] at e2
                    cases ho2 : st[j]? with
                    | none => rw [ho2] at e2; cases e2
                    | some o2 =>
                      rw [ho2] at e2
                      have := S.obj j p o2 hj ho2
                      cases o2 with
                      | lst _ => cases e2
                      | dct _ => cases e2
                      | dead => exact this.elim
                  · have := x.refs j a (by rw [← hn]; exact jl) ha
                    rw [hj] at this
                    cases this
                    have := s.inj j k p ha hpk
                    omega
              · exact (x.pend p zg (fun j q => hj ⟨j, q⟩)).2.2 k hpk
            · exact (x.keep p o zg hH).2 zp
        have fresh : ∀ st2 : DSt, st2 = st1.take st.length → (∀ (k : Nat) (o : O), st2[k]? = some o → rltO st.length o) → H p = none → Fresh K w H (cutG st.length g1) H1 st2 (.lst xs) v := fun st2 e2 hr hnew => by
          refine ⟨fun ds e => ?_, fun kvs e => by cases e⟩
          cases e
          have c2 : Cut st.length g1 ⟨fun a => (cutG st.length g1).Z a ∨ a = p, (cutG st.length g1).ρ⟩ := ⟨fun a z q => q.elim (fun q => z q.1) (fun q => z (q ▸ zp)), (cut_c hle).len, (cut_c hle).refs⟩
          have sc := s.cut hle e2 hr
          refine ⟨p, vs, hv, hnew, fun z => z.2 k hk hpk, h1, RelDs.cut c2 (rlts_pure hp) h2, ?_⟩
          refine ⟨sc.len, sc.inj, fun j a q => .inl (sc.inZ j a q), fun a z => ?_, fun j a o q1 q2 => ?_, sc.live⟩
          · rcases z with z | rfl
            · exact sc.trk a z
            · rw [h1]
              simp
          · have kl := cut_lt q1
            have q3 := q2
            subst e2
            rw [List.getElem?_take, if_pos kl] at q2
            rw [cut_get kl] at q1
            exact ORel.cut c2 (hr j o q3) (s.obj j a o q1 q2)
        split at h
        · rename_i hst
          cases h
          exact P v H1 _ (x.cut hn) (s.cut hle hst.symm (fun k o q => S.rlt k o q)) r2 fun _ => fresh _ hst.symm (fun k o q => S.rlt k o q) (new (by rw [hst]))
        · split at h
          · rename_i hp2
            cases h
            rw [Bool.and_eq_true, decide_eq_true_eq] at hp2
            have hr : ∀ (k : Nat) (o : O), (st1.take st.length)[k]? = some o → rltO st.length o := fun k o q => pureO_rlt (List.all_eq_true.mp hp2.1 o (List.mem_of_getElem? q))
            exact P v H1 _ (x.cut hn) (s.cut hle rfl hr) r2 fun _ => fresh _ rfl hr (new hp2.2)
          · cases h
    · rename_i hfr
      (replace h := bindS h); obtain ⟨d2, e1, h⟩ := h
      intro v H1 g1 x s r f
      have hn : st.length = g.ρ.length := S.len.symm
      have hle : st.length ≤ g1.ρ.length := hn ▸ x.len
      have r2 := frz_rel s hle 6 d d2 v e1 r
      split at h
      · rename_i hst
        cases h
        exact P v H1 _ (x.cut hn) (s.cut hle hst.symm (fun k o q => S.rlt k o q)) r2 fun hb => absurd hb hfr
      · split at h
        · rename_i hp
          cases h
          refine P v H1 _ (x.cut hn) (s.cut hle rfl fun k o q => ?_) r2 fun hb => absurd hb hfr
          exact pureO_rlt (List.all_eq_true.mp hp o (List.mem_of_getElem? q))
        · cases h
end
/-! ### a def -/
structure Wd (P : Program) (w : World) (K : PySem.W.Frag) (mg : Str → Option Value) (base : Heap) (gl : List Str) (G : List D) : Prop where
  bs : ∀ x ∈ bnames, mg x = none
  gls : ∀ (i : Nat) x d, gl[i]? = some x → G[i]? = some d → ∃ u v, mg x = some u ∧ RelV v u ∧ ∀ g H, RelD K w g H d v
theorem env_start {K : PySem.W.Frag} {w : World} {g : Gh} {H : Hp} {N : List Str} {ds : List D} {vs : List V} (r : RelDs K w g H ds vs) : EnvR K w g H (ds.map some ++ List.replicate (N.length - ds.length) none) (start N vs) := by
  have hl := r.length
  have key : ∀ {ds : List D} {vs : List V}, RelDs K w g H ds vs → ∀ (i : Nat) d, ds[i]? = some d → ∃ v, vs[i]? = some v ∧ RelD K w g H d v := by
    intro ds
    induction ds with
    | nil => intro vs r i d h; simp at h
    | cons a ds ih =>
      intro vs r i d h
      rw [RelDs] at r
      obtain ⟨v, r', rfl, h1, h2⟩ := r
      cases i with
      | zero =>
        simp at h
        subst h
        exact ⟨v, rfl, h1⟩
      | succ i =>
        simp at h
        obtain ⟨v', q1, q2⟩ := ih h2 i d h
        exact ⟨v', by simpa using q1, q2⟩
  refine ⟨by simp [L2.start, hl], fun i d h => ?_⟩
  by_cases hi : i < ds.length
  · rw [List.getElem?_append_left (by simpa using hi), List.getElem?_map] at h
    cases e : ds[i]? with
    | none => rw [e] at h; cases h
    | some d' =>
      rw [e] at h
      cases h
      obtain ⟨v, q1, q2⟩ := key r i d e
      refine ⟨v, ?_, q2⟩
      show (vs.map some ++ _)[i]? = _
      rw [List.getElem?_append_left (by simpa [← hl] using hi), List.getElem?_map, q1]
      rfl
  · rw [List.getElem?_append_right (by simpa using hi), List.getElem?_replicate] at h
    split at h <;> cases h
section
variable {P : Program} {w : World} {K : PySem.W.Frag} {mg : Str → Option Value} {base : Heap} {gl : List Str} {G : List D} {L : List DFn} {x qual : Str} {st0 : Stmt} {f : Addr} {fd : FuncData} {N ps : List Str} {k n : Nat} {fr : Bool} {ib : ISs}
theorem fn_run (F : Fun K x qual st0 f fd) (S : FnScope N ps (defScope st0)) (W : Wd P w K mg base gl G) (fns : ∀ (i : Nat) e, L[i]? = some e → FnS P w K mg base k e)
    (hc : chkSs (L.map DFn.sig) gl N fr n (defScope st0) ib (defBody st0) = true) : FnOk P w K mg base CX0 (k + 1) f fd ps (SpOf K w ps.length (callD (gam L) G fr N.length ib) fr) := by
  refine Fun.ok F S (fun vs H Q E ⟨g, st, ds, d, st', _, r, hl, _⟩ => by rw [← r.length, hl]) fun cdv A outer s H vs Q E hr hsp => ⟨_, pss_wp, ?_⟩
  obtain ⟨g, st, ds, d, st', hS, r, hl, hev, hP⟩ := hsp
  have hX : XOk (cxOf CX0 P w K mg base N qual (defScope st0) f cdv A outer s H E).nox k L gl G := ⟨rfl, S.nd, rfl, hr, fns, W.bs, W.gls⟩
  have hSit : Sit (cxOf CX0 P w K mg base N qual (defScope st0) f cdv A outer s H E).nox (defScope st0) N := ⟨ScR.refl _, fun _ _ => rfl, rfl⟩
  unfold callD at hev
  (replace hev := bindS hev); obtain ⟨o, e1, hev⟩ := hev
  refine chkSs_ok hX hSit rfl _ _ hc (start N vs) H g _ st o _ (env_start r) hS e1 ?_
  cases o with
  | nx env' st1 =>
    intro σ' H' g' x' s' E'
    exact fin_post hS hev hP .non H' g' x' s' relD_non fun _ => .of_flat rfl
  | rt d1 st1 => exact fin_post hS hev hP
theorem fn_ok (F : Fun K x qual st0 f fd) (S : FnScope N ps (defScope st0)) (hb : Binds K fd ps []) (hm : mg x = some (.ref f)) (W : Wd P w K mg base gl G) (fns : ∀ (i : Nat) e, L[i]? = some e → FnS P w K mg base k e)
    (hc : chkSs (L.map DFn.sig) gl N fr n (defScope st0) ib (defBody st0) = true) : FnS P w K mg base (k + 1) ⟨x, ps.length, fr, callD (gam L) G fr N.length ib⟩ :=
  ⟨f, fd, ps, hm, F.kp, hb, fn_run F S W fns hc⟩
/-- by another name -/
theorem fn_okA {y : Str} (F : Fun K x qual st0 f fd) (S : FnScope N ps (defScope st0)) (hb : Binds K fd ps []) (hm : mg y = some (.ref f)) (W : Wd P w K mg base gl G) (fns : ∀ (i : Nat) e, L[i]? = some e → FnS P w K mg base k e)
    (hc : chkSs (L.map DFn.sig) gl N fr n (defScope st0) ib (defBody st0) = true) : FnS P w K mg base (k + 1) ⟨y, ps.length, fr, callD (gam L) G fr N.length ib⟩ :=
  ⟨f, fd, ps, hm, F.kp, hb, fn_run F S W fns hc⟩
theorem FnS.mono {e : DFn} {j : Nat} (h : FnS P w K mg base j e) (hj : j ≤ k) : FnS P w K mg base k e := let ⟨f, fd, ps, h1, h2, h3, h4⟩ := h.ex; ⟨f, fd, ps, h1, h2, h3, h4.mono hj⟩
theorem fns_nil : ∀ (i : Nat) e, ([] : List DFn)[i]? = some e → FnS P w K mg base k e := fun i e h => by simp at h
theorem fns_cons {a : DFn} {j : Nat} (h : FnS P w K mg base j a) (hj : j ≤ k) (t : ∀ (i : Nat) e, L[i]? = some e → FnS P w K mg base k e) : ∀ (i : Nat) e, (a :: L)[i]? = some e → FnS P w K mg base k e
  | 0, e, q => by
    cases q
    exact h.mono hj
  | i + 1, e, q => t i e (by simpa using q)
theorem wd_nil (bs : ∀ x ∈ bnames, mg x = none) : Wd P w K mg base [] [] := ⟨bs, fun i x d h => by simp at h⟩
theorem wd_cons {y : Str} {d : D} {u : Value} {v : V} (W : Wd P w K mg base gl G) (h : mg y = some u) (r : RelV v u) (rd : ∀ g H, RelD K w g H d v) : Wd P w K mg base (y :: gl) (d :: G) := ⟨W.bs, fun i x d' h1 h2 => by
  cases i with
  | zero =>
    cases h1
    cases h2
    exact ⟨u, v, h, r, rd⟩
  | succ i => exact W.gls i x d' (by simpa using h1) (by simpa using h2)⟩
theorem wd_str {y : Str} {z : Str} {cs : List Nat} {t : Tok} (W : Wd P w K mg base gl G) (h : mg y = some (.str z t)) (e : z.cps.toList = cs) : Wd P w K mg base (y :: gl) (.str cs :: G) :=
  wd_cons (v := .str ⟨cs.toArray⟩) W h ⟨t, by subst e; simp⟩ fun g H => relD_str
end
theorem rel_ktup {K : PySem.W.Frag} {w : World} {a : Addr} {od : Option Addr} {its : Array Value} {n : Nat} {sl : Array (Option Value)} {ds : List D} {vs : List V} (l : K.lookup a = some ⟨.type "tuple", od, .seq its n, sl⟩) (hz : its.size ≤ sizeLine) (hv : Vals vs its.toList)
    (hr : ∀ g H, RelDs K w g H ds vs) : ∀ g H, RelD K w g H (.tup ds) (.ref a) := fun g H => by
  rw [RelD]
  exact ⟨a, vs, rfl, .inr ⟨_, its, n, l, rfl, rfl, hz, hv⟩, hr g H⟩
theorem rel_kdct {K : PySem.W.Frag} {w : World} {a : Addr} {es : Array DictEntry} {ep : Nat} {kvs : List (D × D)} (l : K.lookup a = some ⟨.type "dict", none, .dict es ep, #[]⟩) (hs : (a == sysModules) = false) (hd : distK kvs = true) (hr : ∀ g H, RelKs K w g H kvs es.toList) : ∀ g H, RelD K w g H (.dct kvs) (.ref a) := fun g H => by
  rw [RelD]
  exact ⟨a, (es.toList, ep), rfl, .inr ⟨_, l, ⟨rfl, rfl, rfl⟩, by simp, hs⟩, hd, hr g H⟩
theorem relP_str {K : PySem.W.Frag} {w : World} {g : Gh} {H : Hp} {x y : Str} {cs ds : List Nat} {t u : Tok} (hx : x.cps.toList = cs) (hy : y.cps.toList = ds) (hc : (cs.all fun c => decide (c < 55296)) = true := by decide) : RelP K w g H (.str cs, .str ds) ⟨(NestedKey.text x).hash w, .str x t, .str y u⟩ := by
  subst hx hy
  rw [RelP]
  refine ⟨⟨.text x, by rw [nkey], ?_, rfl⟩, ⟨.str x, ⟨t, rfl⟩, ?_⟩, .str y, ⟨u, rfl⟩, ?_⟩
  · rw [D.ok]
    exact hc
  · rw [RelD]
  · rw [RelD]
theorem vals_int {i : Int} {t : Tok} {vs : List V} {us : List Value} (h : Vals vs us) : Vals (.int i :: vs) (.int i t :: us) := .cons ⟨t, rfl⟩ h
theorem vals_ref {a : Addr} {vs : List V} {us : List Value} (h : Vals vs us) : Vals (.ref a :: vs) (.ref a :: us) := .cons rfl h
theorem wd_ref {P : Program} {w : World} {K : PySem.W.Frag} {mg : Str → Option Value} {base : Heap} {gl : List Str} {G : List D} {y : Str} {a : Addr} {d : D} (W : Wd P w K mg base gl G) (h : mg y = some (.ref a)) (rd : ∀ g H, RelD K w g H d (.ref a)) : Wd P w K mg base (y :: gl) (d :: G) := wd_cons (v := .ref a) W h rfl rd
theorem bn_all {p : Str → Prop} (h1 : p "len") (h2 : p "tuple") (h3 : p "list") (h4 : p "all") (h5 : p "any") (h6 : p "sorted") (h7 : p "min") (h8 : p "max") (h9 : p "abs") (h10 : p "int") (h11 : p "str") (h12 : p "sum") (h13 : p "dict") (h14 : p "range") (h15 : p "enumerate") (h16 : p "zip") (h17 : p "isinstance") (h18 : p "bool") (h19 : p "set") (h20 : p "reversed") : ∀ x ∈ bnames, p x := by
  intro x hx
  simp only [bnames, List.mem_cons, List.not_mem_nil, or_false] at hx
  rcases hx with rfl | rfl | rfl | rfl | rfl | rfl | rfl | rfl | rfl | rfl | rfl | rfl | rfl | rfl | rfl | rfl | rfl | rfl | rfl | rfl <;> assumption
end Py

set_option Elab.async false
set_option linter.all false
set_option maxRecDepth 100000
set_option autoImplicit false
set_option maxHeartbeats 2000000
namespace Py
open PySem PySem.Spec L2
/-! ### the law's end -/
/-- what the head asks of the law's def -/
def spLaw (K : PySem.W.Frag) : Sp := fun vs H Q _ => ∃ (a : Addr) (ns : List Int), vs = [.ref a] ∧ SqL K H a (ns.map V.int) ∧ ns.length ≤ 63 ∧ ∀ H', Q (.bl true) H'
theorem relDs_ints {K : PySem.W.Frag} {w : World} {g : Gh} {H : Hp} : ∀ {ns : List Int}, RelDs K w g H (ns.map D.int) (ns.map V.int)
  | [] => RelDs.nil
  | n :: ns => RelDs.cons relD_int relDs_ints
theorem law_end {P : Program} {w : World} {K : PySem.W.Frag} {mg : Str → Option Value} {base : Heap} {k : Nat} {f : Addr} {fd : FuncData} {x : Str} {F : List D → DSt → Option (D × DSt)}
    (h : FnOk P w K mg base CX0 k f fd [x] (SpOf K w 1 F false)) (law : ∀ ns : List Int, ns.length ≤ 63 → ∃ st', F [.lst (ns.map .int)] [] = some (.bl true, st')) : FnOk P w K mg base CX0 k f fd [x] (spLaw K) := by
  refine h.imp fun vs H Q E ⟨a, ns, e, hs, hl, hq⟩ => ?_
  subst e
  obtain ⟨st', hF⟩ := law ns hl
  refine ⟨⟨fun _ => False, []⟩, [], [.lst (ns.map .int)], .bl true, st', ⟨rfl, fun k j a h => by simp at h, fun k a h => by simp at h, fun a h => h.elim, fun k a o h => by simp at h, fun k o h => by simp at h⟩, ?_, rfl, hF, fun v H' g' _ _ r _ => ?_⟩
  · refine RelDs.cons ?_ RelDs.nil
    rw [RelD]
    exact ⟨a, _, rfl, hs.imp (fun q => ⟨q, fun z => z⟩) id, relDs_ints⟩
  · rw [RelD] at r
    subst r
    exact hq H'
/-! ### readings of the evaluator: what it comes to -/
abbrev GA := Nat → List D → DSt → Option (D × DSt)
def wF (F : List D → DSt → Option (D × DSt)) (ds : List D) (st : DSt) (Q : D → DSt → Prop) : Prop := ∃ d st', F ds st = some (d, st') ∧ Q d st'
def wE (Γ : GA) (G : List D) (e : IE) (env : DEnv) (st : DSt) (Q : D → DSt → Prop) : Prop := ∃ d st', evE Γ G e env st = some (d, st') ∧ Q d st'
def wEs (Γ : GA) (G : List D) (e : IEs) (env : DEnv) (st : DSt) (Q : List D → DSt → Prop) : Prop := ∃ d st', evEs Γ G e env st = some (d, st') ∧ Q d st'
def wO (Γ : GA) (G : List D) (e : IEo) (env : DEnv) (st : DSt) (Q : Option Int → DSt → Prop) : Prop := ∃ d st', evO Γ G e env st = some (d, st') ∧ Q d st'
def wI (Γ : GA) (G : List D) (e : II) (env : DEnv) (st : DSt) (Q : List D → DSt → Prop) : Prop := ∃ d st', evI Γ G e env st = some (d, st') ∧ Q d st'
def wA (Γ : GA) (G : List D) (t : Tg) (d : D) (env : DEnv) (st : DSt) (Q : DEnv → DSt → Prop) : Prop := ∃ env' st', asgT Γ G t d env st = some (env', st') ∧ Q env' st'
def wAs (Γ : GA) (G : List D) (t : Tgs) (d : List D) (env : DEnv) (st : DSt) (Q : DEnv → DSt → Prop) : Prop := ∃ env' st', asgTs Γ G t d env st = some (env', st') ∧ Q env' st'
def wS (Γ : GA) (G : List D) (s : IS) (env : DEnv) (st : DSt) (Q : Out → Prop) : Prop := ∃ o, evS Γ G s env st = some o ∧ Q o
def wSs (Γ : GA) (G : List D) (s : ISs) (env : DEnv) (st : DSt) (Q : Out → Prop) : Prop := ∃ o, evSs Γ G s env st = some o ∧ Q o
def wOp {α : Type} (o : Option α) (Q : α → Prop) : Prop := ∃ x, o = some x ∧ Q x
theorem wOp_some {α : Type} {x : α} {Q : α → Prop} : wOp (some x) Q ↔ Q x := by simp [wOp]
theorem wOp_none {α : Type} {Q : α → Prop} : wOp none Q ↔ False := by simp [wOp]
theorem wOp_if {α : Type} {p : Bool} {a : Option α} {Q : α → Prop} : wOp (if p = true then a else none) Q ↔ (p = true ∧ wOp a Q) := by
  cases p <;> simp [wOp]
theorem wOp_map {α β : Type} {o : Option α} {f : α → β} {Q : β → Prop} : wOp (o.map f) Q ↔ wOp o fun x => Q (f x) := by
  cases o <;> simp [wOp]
theorem wOp_bind {α β : Type} {o : Option α} {f : α → Option β} {Q : β → Prop} : wOp (o.bind f) Q ↔ wOp o fun x => wOp (f x) Q := by
  cases o <;> simp [wOp]
section
variable {Γ : GA} {G : List D} {env : DEnv} {st : DSt}
theorem wOp_E {o : Option (D × DSt)} {Q : D → DSt → Prop} : (∃ d st', o = some (d, st') ∧ Q d st') ↔ wOp o fun x => Q x.1 x.2 := by
  constructor
  · rintro ⟨d, s, h, q⟩; exact ⟨(d, s), h, q⟩
  · rintro ⟨⟨d, s⟩, h, q⟩; exact ⟨d, s, h, q⟩
variable {Q : D → DSt → Prop}
theorem wE_op {e : IE} : wE Γ G e env st Q ↔ wOp (evE Γ G e env st) fun x => Q x.1 x.2 := ⟨fun ⟨d, s, h, q⟩ => ⟨(d, s), h, q⟩, fun ⟨⟨d, s⟩, h, q⟩ => ⟨d, s, h, q⟩⟩
theorem wEs_op {e : IEs} {Q : List D → DSt → Prop} : wEs Γ G e env st Q ↔ wOp (evEs Γ G e env st) fun x => Q x.1 x.2 := ⟨fun ⟨d, s, h, q⟩ => ⟨(d, s), h, q⟩, fun ⟨⟨d, s⟩, h, q⟩ => ⟨d, s, h, q⟩⟩
theorem wO_op {e : IEo} {Q : Option Int → DSt → Prop} : wO Γ G e env st Q ↔ wOp (evO Γ G e env st) fun x => Q x.1 x.2 := ⟨fun ⟨d, s, h, q⟩ => ⟨(d, s), h, q⟩, fun ⟨⟨d, s⟩, h, q⟩ => ⟨d, s, h, q⟩⟩
theorem wI_op {e : II} {Q : List D → DSt → Prop} : wI Γ G e env st Q ↔ wOp (evI Γ G e env st) fun x => Q x.1 x.2 := ⟨fun ⟨d, s, h, q⟩ => ⟨(d, s), h, q⟩, fun ⟨⟨d, s⟩, h, q⟩ => ⟨d, s, h, q⟩⟩
theorem wA_op {t : Tg} {d : D} {Q : DEnv → DSt → Prop} : wA Γ G t d env st Q ↔ wOp (asgT Γ G t d env st) fun x => Q x.1 x.2 := ⟨fun ⟨d, s, h, q⟩ => ⟨(d, s), h, q⟩, fun ⟨⟨d, s⟩, h, q⟩ => ⟨d, s, h, q⟩⟩
theorem wAs_op {t : Tgs} {d : List D} {Q : DEnv → DSt → Prop} : wAs Γ G t d env st Q ↔ wOp (asgTs Γ G t d env st) fun x => Q x.1 x.2 := ⟨fun ⟨d, s, h, q⟩ => ⟨(d, s), h, q⟩, fun ⟨⟨d, s⟩, h, q⟩ => ⟨d, s, h, q⟩⟩
theorem wS_op {s : IS} {Q : Out → Prop} : wS Γ G s env st Q ↔ wOp (evS Γ G s env st) Q := Iff.rfl
theorem wSs_op {s : ISs} {Q : Out → Prop} : wSs Γ G s env st Q ↔ wOp (evSs Γ G s env st) Q := Iff.rfl
theorem wF_op {F : List D → DSt → Option (D × DSt)} {ds : List D} : wF F ds st Q ↔ wOp (F ds st) fun x => Q x.1 x.2 := ⟨fun ⟨d, s, h, q⟩ => ⟨(d, s), h, q⟩, fun ⟨⟨d, s⟩, h, q⟩ => ⟨d, s, h, q⟩⟩
/-- a truth value, told -/
def wB (d : D) (Q : Bool → Prop) : Prop := ∃ b, d = .bl b ∧ Q b
theorem wB_bl {b : Bool} {Q : Bool → Prop} : wB (.bl b) Q ↔ Q b := by simp [wB]
def wInt (d : D) (Q : Int → Prop) : Prop := ∃ i, d = .int i ∧ Q i
theorem wInt_int {i : Int} {Q : Int → Prop} : wInt (.int i) Q ↔ Q i := by simp [wInt]
theorem wB_op {β : Type} {x : D} {f : Bool → Option β} {Q : β → Prop} {g : D → Option β} (h : ∀ b, g (.bl b) = f b) (hn : ∀ d, (∀ b, d ≠ .bl b) → g d = none) : wOp (g x) Q ↔ wB x fun b => wOp (f b) Q := by
  constructor
  · rintro ⟨y, h1, q⟩
    cases x with
    | bl b => exact ⟨b, rfl, y, by rw [← h]; exact h1, q⟩
    | _ => rw [hn _ (by intro b e; cases e)] at h1; cases h1
  · rintro ⟨b, rfl, y, h1, q⟩
    exact ⟨y, by rw [h]; exact h1, q⟩
theorem wE_cst {d : D} : wE Γ G (.cst d) env st Q ↔ Q d st := by rw [wE_op, evE, wOp_some]
theorem wE_var {i : Nat} : wE Γ G (.var i) env st Q ↔ ∃ d, env[i]? = some (some d) ∧ Q d st := by
  rw [wE_op, evE]
  split
  · rename_i d h
    rw [wOp_some]
    exact ⟨fun q => ⟨d, h, q⟩, fun ⟨d', h', q⟩ => by rw [h] at h'; cases h'; exact q⟩
  · rename_i h
    rw [wOp_none]
    exact ⟨fun q => q.elim, fun ⟨d', h', q⟩ => h _ h'⟩
theorem wE_glb {i : Nat} : wE Γ G (.glb i) env st Q ↔ ∃ d, G[i]? = some d ∧ Q d st := by
  rw [wE_op, evE]
  split
  · rename_i d h
    rw [wOp_some]
    exact ⟨fun q => ⟨d, h, q⟩, fun ⟨d', h', q⟩ => by rw [h] at h'; cases h'; exact q⟩
  · rename_i h
    rw [wOp_none]
    exact ⟨fun q => q.elim, fun ⟨d', h', q⟩ => by rw [h] at h'; cases h'⟩
theorem wE_tup {es : IEs} : wE Γ G (.tup es) env st Q ↔ wEs Γ G es env st fun ds st' => sz ds.length = true ∧ Q (.tup ds) st' := by
  rw [wE_op, evE, wOp_bind, wEs_op]
  simp only [wOp_if, wOp_some]
theorem wE_lst {es : IEs} : wE Γ G (.lst es) env st Q ↔ wEs Γ G es env st fun ds st' => sz ds.length = true ∧ Q (.lst ds) st' := by
  rw [wE_op, evE, wOp_bind, wEs_op]
  simp only [wOp_if, wOp_some]
theorem wE_dct {es : IEs} : wE Γ G (.dct es) env st Q ↔ wEs Γ G es env st fun ds st' => wOp (dispK ds) fun d => Q d st' := by
  simp only [wE_op, evE, wOp_bind, wEs_op, wOp_some]
theorem wE_bin {op : BOp} {a b : IE} : wE Γ G (.bin op a b) env st Q ↔ wE Γ G a env st fun x s1 => wE Γ G b env s1 fun y s2 => wOp (view s2 x) fun u => wOp (view s2 y) fun v => wOp (binD op u v) fun d => Q d s2 := by
  simp only [wE_op, evE, wOp_bind, wOp_some]
theorem wE_cmp {op : COp} {a b : IE} : wE Γ G (.cmp op a b) env st Q ↔ wE Γ G a env st fun x s1 => wE Γ G b env s1 fun y s2 => wOp (view s2 x) fun u => wOp (view s2 y) fun v => wOp (cmpD op u v) fun d => Q (.bl d) s2 := by
  simp only [wE_op, evE, wOp_bind, wOp_some]
theorem wE_chn {op op' : COp} {a b c : IE} : wE Γ G (.chn op op' a b c) env st Q ↔ wE Γ G a env st fun x s1 => wE Γ G b env s1 fun y s2 => wOp (view s2 x) fun u => wOp (view s2 y) fun v => wOp (cmpD op u v) fun d =>
    if d = true then wE Γ G c env s2 fun z s3 => wOp (view s3 y) fun u => wOp (view s3 z) fun v => wOp (cmpD op' u v) fun d => Q (.bl d) s3 else Q (.bl false) s2 := by
  simp only [wE_op, evE, wOp_bind, wOp_some]
  constructor <;> intro h <;> refine h.imp fun x h => ⟨h.1, ?_⟩ <;> refine h.2.imp fun y h => ⟨h.1, ?_⟩ <;> refine h.2.imp fun u h => ⟨h.1, ?_⟩ <;> refine h.2.imp fun v h => ⟨h.1, ?_⟩ <;> refine h.2.imp fun d h => ⟨h.1, ?_⟩ <;> cases d <;>
    simpa only [wOp_bind, wOp_some, if_true, Bool.false_eq_true, if_false] using h.2
theorem wE_neg {a : IE} : wE Γ G (.neg a) env st Q ↔ wE Γ G a env st fun x s1 => wInt x fun i => Q (.int (-i)) s1 := by
  simp only [wE_op, evE, wOp_bind]
  constructor <;> rintro ⟨x, h1, h2⟩ <;> refine ⟨x, h1, ?_⟩
  · split at h2
    · rename_i i e
      exact ⟨i, e, by simpa [wOp] using h2⟩
    · obtain ⟨_, q, _⟩ := h2
      cases q
  · obtain ⟨i, e, q⟩ := h2
    rw [e]
    exact ⟨_, rfl, q⟩
theorem wE_not {a : IE} : wE Γ G (.not a) env st Q ↔ wE Γ G a env st fun x s1 => wB x fun b => Q (.bl (!b)) s1 := by
  simp only [wE_op, evE, wOp_bind]
  constructor <;> rintro ⟨x, h1, h2⟩ <;> refine ⟨x, h1, ?_⟩
  · split at h2
    · rename_i i e
      exact ⟨i, e, by simpa [wOp] using h2⟩
    · obtain ⟨_, q, _⟩ := h2
      cases q
  · obtain ⟨i, e, q⟩ := h2
    rw [e]
    exact ⟨_, rfl, q⟩
theorem wE_and {a b : IE} : wE Γ G (.and a b) env st Q ↔ wE Γ G a env st fun x s1 => wB x fun t => if t = true then wE Γ G b env s1 Q else Q (.bl false) s1 := by
  simp only [wE_op, evE, wOp_bind]
  constructor <;> rintro ⟨x, h1, h2⟩ <;> refine ⟨x, h1, ?_⟩
  · split at h2
    · rename_i e
      exact ⟨true, e, by simpa only [if_true] using h2⟩
    · rename_i e
      exact ⟨false, e, by simpa [wOp] using h2⟩
    · obtain ⟨_, q, _⟩ := h2
      cases q
  · obtain ⟨t, e, q⟩ := h2
    rw [e]
    cases t
    · exact ⟨_, rfl, q⟩
    · simpa only [if_true] using q
theorem wE_or {a b : IE} : wE Γ G (.or a b) env st Q ↔ wE Γ G a env st fun x s1 => wB x fun t => if t = true then Q (.bl true) s1 else wE Γ G b env s1 Q := by
  simp only [wE_op, evE, wOp_bind]
  constructor <;> rintro ⟨x, h1, h2⟩ <;> refine ⟨x, h1, ?_⟩
  · split at h2
    · rename_i e
      exact ⟨true, e, by simpa [wOp] using h2⟩
    · rename_i e
      exact ⟨false, e, by simpa using h2⟩
    · obtain ⟨_, q, _⟩ := h2
      cases q
  · obtain ⟨t, e, q⟩ := h2
    rw [e]
    cases t
    · simpa using q
    · exact ⟨_, rfl, by simpa using q⟩
theorem wE_ite {c a b : IE} : wE Γ G (.ite c a b) env st Q ↔ wE Γ G c env st fun x s1 => wB x fun t => if t = true then wE Γ G a env s1 Q else wE Γ G b env s1 Q := by
  simp only [wE_op, evE, wOp_bind]
  constructor <;> rintro ⟨x, h1, h2⟩ <;> refine ⟨x, h1, ?_⟩
  · split at h2
    · rename_i e
      exact ⟨true, e, by simpa using h2⟩
    · rename_i e
      exact ⟨false, e, by simpa using h2⟩
    · obtain ⟨_, q, _⟩ := h2
      cases q
  · obtain ⟨t, e, q⟩ := h2
    rw [e]
    cases t
    · simpa using q
    · simpa using q
theorem wE_ix {a b : IE} : wE Γ G (.ix a b) env st Q ↔ wE Γ G a env st fun x s1 => wE Γ G b env s1 fun y s2 => wOp (view s2 x) fun u => wOp (ixD u y) fun d => Q d s2 := by
  simp only [wE_op, evE, wOp_bind, wOp_some]
theorem wE_sl {a : IE} {lo hi : IEo} : wE Γ G (.sl a lo hi) env st Q ↔ wE Γ G a env st fun x s1 => wO Γ G lo env s1 fun l s2 => wO Γ G hi env s2 fun h s3 => wOp (view s3 x) fun u => wOp (slD u l h) fun d => Q d s3 := by
  simp only [wE_op, wO_op, evE, wOp_bind, wOp_some]
theorem wE_rev {a : IE} : wE Γ G (.rev a) env st Q ↔ wE Γ G a env st fun x s1 => wOp (view s1 x) fun u => wOp (revD u) fun d => Q d s1 := by
  simp only [wE_op, evE, wOp_bind, wOp_some]
theorem wE_call {L : List DFn} {f : Nat} {es : IEs} : wE (gam L) G (.call f es) env st Q ↔ ∃ e, L[f]? = some e ∧ wEs (gam L) G es env st fun ds s1 => wF e.F ds s1 Q := by
  rw [wE_op, evE, wOp_bind]
  unfold gam
  cases h : L[f]? with
  | none =>
    simp only [wOp_none]
    exact ⟨fun ⟨_, _, q⟩ => q.elim, fun ⟨_, q, _⟩ => by cases q⟩
  | some e =>
    simp only [wEs_op, wF_op]
    exact ⟨fun q => ⟨e, rfl, q⟩, fun ⟨e', h', q⟩ => by cases h'; exact q⟩
theorem wE_bi {b : Bi} {es : IEs} : wE Γ G (.bi b es) env st Q ↔ wEs Γ G es env st fun ds s1 => wOp (viewAll s1 ds) fun us => wOp (biD b us) fun d => Q d s1 := by
  simp only [wE_op, wEs_op, evE, wOp_bind, wOp_some]
theorem wE_isi {a : IE} {t : Ty} : wE Γ G (.isi a t) env st Q ↔ wE Γ G a env st fun x s1 => wOp (view s1 x) fun u => wOp (isiD u t) fun d => Q (.bl d) s1 := by
  simp only [wE_op, evE, wOp_bind, wOp_some]
theorem wE_mth {m : Mt} {o : IE} {es : IEs} : wE Γ G (.mth m o es) env st Q ↔ wE Γ G o env st fun x s1 => wOp (view s1 x) fun u => mtTy m u = true ∧ wEs Γ G es env s1 fun ds s2 => wOp (mthD m x ds s2) fun r => Q r.1 r.2 := by
  simp only [wE_op, wEs_op, evE, wOp_bind, wOp_some, wOp_if]
theorem wE_dis {ks : List (Sum Int (List Nat))} {vs : IEs} {k : IE} : wE Γ G (.dis ks vs k) env st Q ↔ wEs Γ G vs env st fun ds s1 => wE Γ G k env s1 fun y s2 => wOp (disD ks ds y) fun d => Q d s2 := by
  simp only [wE_op, wEs_op, evE, wOp_bind, wOp_some]
/-- a new object of the store -/
def alQ (d : D) (st : DSt) (Q : D → DSt → Prop) : Prop := match d with
  | .lst xs => Q (.ref st.length) (st ++ [.lst xs])
  | .dct kvs => Q (.ref st.length) (st ++ [.dct kvs])
  | _ => False
theorem alQ_lst {xs : List D} : alQ (.lst xs) st Q ↔ Q (.ref st.length) (st ++ [.lst xs]) := Iff.rfl
theorem wE_al {e : IE} : wE Γ G (.al e) env st Q ↔ wE Γ G e env st fun x s1 => alQ x s1 Q := by
  simp only [wE_op, evE, wOp_bind]
  constructor <;> rintro ⟨⟨x, s⟩, h1, h2⟩ <;> refine ⟨(x, s), h1, ?_⟩
  · cases x <;> simp [wOp, alQ] at h2 ⊢ <;> exact h2
  · cases x <;> simp [wOp, alQ] at h2 ⊢ <;> exact h2
theorem wEs_nil {Q : List D → DSt → Prop} : wEs Γ G .nil env st Q ↔ Q [] st := by rw [wEs_op, evEs, wOp_some]
theorem wEs_cons {e : IE} {es : IEs} {Q : List D → DSt → Prop} : wEs Γ G (.cons e es) env st Q ↔ wE Γ G e env st fun x s1 => wEs Γ G es env s1 fun r s2 => Q (x :: r) s2 := by
  simp only [wE_op, wEs_op, evEs, wOp_bind, wOp_some]
theorem wO_none {Q : Option Int → DSt → Prop} : wO Γ G .none env st Q ↔ Q none st := by rw [wO_op, evO, wOp_some]
theorem wO_some {e : IE} {Q : Option Int → DSt → Prop} : wO Γ G (.some e) env st Q ↔ wE Γ G e env st fun x s1 => wInt x fun i => Q (some i) s1 := by
  simp only [wE_op, wO_op, evO, wOp_bind]
  constructor <;> rintro ⟨x, h1, h2⟩ <;> refine ⟨x, h1, ?_⟩
  · split at h2
    · rename_i i e
      exact ⟨i, e, by simpa [wOp] using h2⟩
    · obtain ⟨_, q, _⟩ := h2
      cases q
  · obtain ⟨i, e, q⟩ := h2
    rw [e]
    exact ⟨_, rfl, q⟩
theorem wI_seq {e : IE} {Q : List D → DSt → Prop} : wI Γ G (.seq e) env st Q ↔ wE Γ G e env st fun x s1 => wOp (seqD x) fun xs => Q xs s1 := by
  simp only [wE_op, wI_op, evI, wOp_bind, wOp_some]
theorem wI_rng1 {e : IE} {Q : List D → DSt → Prop} : wI Γ G (.rng1 e) env st Q ↔ wE Γ G e env st fun x s1 => wInt x fun b => rngOk 0 b = true ∧ Q (rangeL 0 b) s1 := by
  simp only [wE_op, wI_op, evI, wOp_bind]
  constructor <;> rintro ⟨x, h1, h2⟩ <;> refine ⟨x, h1, ?_⟩
  · split at h2
    · rename_i i e
      rw [wOp_if, wOp_some] at h2
      exact ⟨i, e, h2⟩
    · obtain ⟨_, q, _⟩ := h2
      cases q
  · obtain ⟨i, e, q⟩ := h2
    rw [e]
    simp only [wOp_if, wOp_some]
    exact q
theorem wI_rng2 {a b : IE} {Q : List D → DSt → Prop} : wI Γ G (.rng2 a b) env st Q ↔ wE Γ G a env st fun x s1 => wE Γ G b env s1 fun y s2 => wInt x fun a => wInt y fun b => rngOk a b = true ∧ Q (rangeL a b) s2 := by
  simp only [wE_op, wI_op, evI, wOp_bind]
  constructor <;> rintro ⟨x, h1, y, h2, h3⟩ <;> refine ⟨x, h1, y, h2, ?_⟩
  · split at h3
    · rename_i i j e e'
      rw [wOp_if, wOp_some] at h3
      exact ⟨i, e, j, e', h3⟩
    · obtain ⟨_, q, _⟩ := h3
      cases q
  · obtain ⟨i, e, j, e', q⟩ := h3
    rw [e, e']
    simp only [wOp_if, wOp_some]
    exact q
/-- a list, told -/
def wLst (d : D) (Q : List D → Prop) : Prop := ∃ xs, d = .lst xs ∧ Q xs
theorem wLst_lst {xs : List D} {Q : List D → Prop} : wLst (.lst xs) Q ↔ Q xs := by simp [wLst]
theorem wI_enum {e : IE} {Q : List D → DSt → Prop} : wI Γ G (.enum e) env st Q ↔ wE Γ G e env st fun x s1 => wOp (enD x) fun xs => Q (enumL 0 xs) s1 := by
  simp only [wE_op, wI_op, evI, wOp_bind, wOp_some]
theorem wI_enumz {a b : IE} {Q : List D → DSt → Prop} : wI Γ G (.enumz a b) env st Q ↔ wE Γ G a env st fun x s1 => wE Γ G b env s1 fun y s2 => ∃ xs ys, x = .tup xs ∧ y = .tup ys ∧ Q (enumL 0 (zipL xs ys)) s2 := by
  simp only [wE_op, wI_op, evI, wOp_bind]
  constructor <;> rintro ⟨x, h1, y, h2, h3⟩ <;> refine ⟨x, h1, y, h2, ?_⟩
  · split at h3
    · rename_i i j e e'
      rw [wOp_some] at h3
      exact ⟨i, j, e, e', h3⟩
    · obtain ⟨_, q, _⟩ := h3
      cases q
  · obtain ⟨i, j, e, e', q⟩ := h3
    rw [e, e']
    simp only [wOp_some]
    exact q
theorem wI_zip {a b : IE} {Q : List D → DSt → Prop} : wI Γ G (.zip a b) env st Q ↔ wE Γ G a env st fun x s1 => wE Γ G b env s1 fun y s2 => ((∃ xs ys, x = .lst xs ∧ y = .lst ys ∧ Q (zipL xs ys) s2) ∨ ∃ xs ys, x = .tup xs ∧ y = .tup ys ∧ Q (zipL xs ys) s2) := by
  simp only [wE_op, wI_op, evI, wOp_bind]
  constructor <;> rintro ⟨x, h1, y, h2, h3⟩ <;> refine ⟨x, h1, y, h2, ?_⟩
  · split at h3
    · rename_i i j e e'
      rw [wOp_some] at h3
      exact .inl ⟨i, j, e, e', h3⟩
    · rename_i i j e e'
      rw [wOp_some] at h3
      exact .inr ⟨i, j, e, e', h3⟩
    · obtain ⟨_, q, _⟩ := h3
      cases q
  · rcases h3 with ⟨i, j, e, e', q⟩ | ⟨i, j, e, e', q⟩
    · rw [e, e']
      simp only [wOp_some]
      exact q
    · rw [e, e']
      simp only [wOp_some]
      exact q
theorem wI_rng3 {a b c : IE} {Q : List D → DSt → Prop} : wI Γ G (.rng3 a b c) env st Q ↔ wE Γ G a env st fun x s1 => wE Γ G b env s1 fun y s2 => wE Γ G c env s2 fun z s3 => wInt x fun a => wInt y fun b => wInt z fun c => (rngOk a b && decide (c = -1)) = true ∧ Q ((List.range (a - b).toNat).map fun (i : Nat) => .int (a + (i : Nat) * (-1))) s3 := by
  simp only [wE_op, wI_op, evI, wOp_bind]
  constructor <;> rintro ⟨x, h1, y, h2, z, h3, h4⟩ <;> refine ⟨x, h1, y, h2, z, h3, ?_⟩
  · split at h4
    · rename_i i j k e e' e''
      rw [wOp_if, wOp_some] at h4
      exact ⟨i, e, j, e', k, e'', h4⟩
    · obtain ⟨_, q, _⟩ := h4
      cases q
  · obtain ⟨i, e, j, e', k, e'', q⟩ := h4
    rw [e, e', e'']
    simp only [wOp_if, wOp_some]
    exact q
theorem wA_nm {i : Nat} {d : D} {Q : DEnv → DSt → Prop} : wA Γ G (.nm i) d env st Q ↔ Q (env.set i (some d)) st := by rw [wA_op, asgT, wOp_some]
theorem wA_sub {o i : IE} {d : D} {Q : DEnv → DSt → Prop} : wA Γ G (.sub o i) d env st Q ↔ wE Γ G o env st fun x s1 => wE Γ G i env s1 fun y s2 => wOp (subSet s2 x y d) fun s => Q env s := by
  simp only [wE_op, wA_op, asgT, wOp_bind, wOp_some]
theorem wA_tp {ts : Tgs} {d : D} {Q : DEnv → DSt → Prop} : wA Γ G (.tp ts) d env st Q ↔ wOp (tupIt d) fun xs => wAs Γ G ts xs env st Q := by
  simp only [wA_op, wAs_op, asgT, wOp_bind]
theorem wAs_nil {Q : DEnv → DSt → Prop} : wAs Γ G .nil [] env st Q ↔ Q env st := by
  rw [wAs_op, asgTs]
  simp [wOp]
theorem wAs_cons {t : Tg} {ts : Tgs} {x : D} {xs : List D} {Q : DEnv → DSt → Prop} : wAs Γ G (.cons t ts) (x :: xs) env st Q ↔ wA Γ G t x env st fun env' s1 => wAs Γ G ts xs env' s1 Q := by
  simp only [wA_op, wAs_op, asgTs, wOp_bind, unc, wOp_some]
/-! statements -/
def wNx (o : Out) (N : DEnv → DSt → Prop) (R : D → DSt → Prop) : Prop := match o with
  | .nx env st => N env st
  | .rt d st => R d st
variable {P : Out → Prop}
theorem wSs_nil : wSs Γ G .nil env st P ↔ P (.nx env st) := by rw [wSs_op, evSs, wOp_some]
theorem wSs_cons {s : IS} {ss : ISs} : wSs Γ G (.cons s ss) env st P ↔ wS Γ G s env st fun o => wNx o (fun env' st' => wSs Γ G ss env' st' P) fun d st' => P (.rt d st') := by
  simp only [wSs_op, wS_op, evSs, wOp_bind]
  constructor <;> rintro ⟨o, h1, h2⟩ <;> refine ⟨o, h1, ?_⟩ <;> cases o
  · exact h2
  · exact (wOp_some (Q := P)).mp h2
  · exact h2
  · exact (wOp_some (Q := P)).mpr h2
theorem wS_asg {t : Tg} {e : IE} : wS Γ G (.asg t e) env st P ↔ wE Γ G e env st fun d s1 => wA Γ G t d env s1 fun env' s2 => P (.nx env' s2) := by
  simp only [wS_op, wE_op, wA_op, evS, wOp_bind, wOp_some]
theorem wS_par {is : List Nat} {es : IEs} : wS Γ G (.par is es) env st P ↔ wEs Γ G es env st fun ds s1 => wOp (setAll env is ds) fun env' => P (.nx env' s1) := by
  simp only [wS_op, wEs_op, evS, wOp_bind, wOp_some]
theorem wS_ex {e : IE} : wS Γ G (.ex e) env st P ↔ wE Γ G e env st fun d s1 => P (.nx env s1) := by
  simp only [wS_op, wE_op, evS, wOp_bind, wOp_some]
theorem wS_ret {e : IE} : wS Γ G (.ret e) env st P ↔ wE Γ G e env st fun d s1 => P (.rt d s1) := by
  simp only [wS_op, wE_op, evS, wOp_bind, wOp_some]
theorem wS_retO {i : Nat} : wS Γ G (.retO i) env st P ↔ ∃ k, env[i]? = some (some (.ref k)) ∧ P (.rt (.ref k) st) := by
  rw [wS_op, evS]
  constructor
  · rintro ⟨o, h, q⟩
    split at h
    · rename_i k e
      cases h
      exact ⟨k, e, q⟩
    · cases h
  · rintro ⟨k, e, q⟩
    rw [e]
    exact ⟨_, rfl, q⟩
theorem wS_retN : wS Γ G .retN env st P ↔ P (.rt .non st) := by rw [wS_op, evS, wOp_some]
theorem wS_pass : wS Γ G .pass env st P ↔ P (.nx env st) := by rw [wS_op, evS, wOp_some]
theorem wS_frz {i : Nat} : wS Γ G (.frz i) env st P ↔ wOp (frzV env i st) fun r => P (.nx r.1 r.2) := by
  simp only [wS_op, evS, wOp_bind, wOp_some]
theorem wS_rse : wS Γ G .rse env st P ↔ False := by rw [wS_op, evS, wOp_none]
theorem wT_op {c : IE} {Q : Bool → DSt → Prop} : (wOp (evT Γ G c env st) fun x => Q x.1 x.2) ↔ wE Γ G c env st fun x s1 => wB x fun b => Q b s1 := by
  simp only [wE_op, evT, wOp_bind]
  constructor <;> rintro ⟨x, h1, h2⟩ <;> refine ⟨x, h1, ?_⟩
  · split at h2
    · rename_i i e
      exact ⟨i, e, (wOp_some (x := (i, x.2)) (Q := fun x => Q x.1 x.2)).mp h2⟩
    · obtain ⟨_, q, _⟩ := h2
      cases q
  · obtain ⟨i, e, q⟩ := h2
    rw [e]
    exact (wOp_some (x := (i, x.2)) (Q := fun x => Q x.1 x.2)).mpr q
theorem wS_ite {c : IE} {a b : ISs} : wS Γ G (.ite c a b) env st P ↔ wE Γ G c env st fun x s1 => wB x fun t => if t = true then wSs Γ G a env s1 P else wSs Γ G b env s1 P := by
  rw [← wT_op (Q := fun t s1 => if t = true then wSs Γ G a env s1 P else wSs Γ G b env s1 P)]
  simp only [wS_op, evS, wOp_bind, wSs_op]
  constructor <;> rintro ⟨⟨x, s⟩, h1, h2⟩ <;> refine ⟨(x, s), h1, ?_⟩ <;> cases x
  · simpa using h2
  · simpa using h2
  · simpa using h2
  · simpa using h2
/-- a loop over known items -/
def wG (f : D → DEnv → DSt → (Out → Prop) → Prop) : List D → DEnv → DSt → (Out → Prop) → Prop
  | [], env, st, P => P (.nx env st)
  | x :: xs, env, st, P => f x env st fun o => wNx o (fun env' st' => wG f xs env' st' P) fun d st' => P (.rt d st')
theorem wG_op {t : Tg} {b : ISs} {P : Out → Prop} : ∀ {xs : List D} {env : DEnv} {st : DSt}, wG (fun x env st P => wA Γ G t x env st fun env' s1 => wSs Γ G b env' s1 P) xs env st P ↔ wOp (forGo (fun x env s => (asgT Γ G t x env s).bind fun w => evSs Γ G b w.1 w.2) xs env st) P
  | [], env, st => by rw [wG, forGo, wOp_some]
  | x :: xs, env, st => by
    rw [wG, forGo, wOp_bind, wOp_bind]
    refine wA_op.trans ?_
    constructor
    · rintro ⟨w, h1, o, h2, h3⟩
      refine ⟨w, h1, o, h2, ?_⟩
      cases o
      · exact wG_op.mp h3
      · exact (wOp_some (Q := P)).mpr h3
    · rintro ⟨w, h1, o, h2, h3⟩
      refine ⟨w, h1, o, h2, ?_⟩
      cases o
      · exact wG_op.mpr h3
      · exact (wOp_some (Q := P)).mp h3
/-- a for: its items are known -/
def wFor (Γ : GA) (G : List D) (t : Tg) (b : ISs) (xs : List D) (env : DEnv) (st : DSt) (P : Out → Prop) : Prop := wG (fun x env st P => wA Γ G t x env st fun env' s1 => wSs Γ G b env' s1 P) xs env st P
theorem wS_for {t : Tg} {it : II} {b : ISs} : wS Γ G (.for_ t it b) env st P ↔ wI Γ G it env st fun xs s1 => wFor Γ G t b xs env s1 P := by
  unfold wFor
  simp only [wG_op, wI_op, wS_op, evS, wOp_bind]
/-- by an invariant -/
theorem wG_inv {f : D → DEnv → DSt → (Out → Prop) → Prop} (hf : ∀ x env st (P P' : Out → Prop), (∀ o, P o → P' o) → f x env st P → f x env st P') (I : Nat → DEnv → DSt → Prop) : ∀ (xs : List D) (n : Nat) (env : DEnv) (st : DSt), I n env st →
    (∀ (i : Nat) x env st, xs[i]? = some x → I (n + i) env st → f x env st fun o => wNx o (fun env' st' => I (n + i + 1) env' st') fun d st' => P (.rt d st')) → (∀ env st, I (n + xs.length) env st → P (.nx env st)) → wG f xs env st P
  | [], n, env, st, h0, hs, he => he env st h0
  | x :: xs, n, env, st, h0, hs, he => by
    refine hf x env st _ _ (fun o h => ?_) (hs 0 x env st rfl h0)
    cases o with
    | rt d st' => exact h
    | nx env' st' =>
      refine wG_inv hf I xs (n + 1) env' st' h (fun i y env st hy hI => ?_) fun env st hI => he env st ?_
      · have := hs (i + 1) y env st (by simpa using hy) (by rw [show n + (i + 1) = n + 1 + i by omega]; exact hI)
        rwa [show n + (i + 1) + 1 = n + 1 + i + 1 by omega] at this
      · rw [List.length_cons, show n + (xs.length + 1) = n + 1 + xs.length by omega]
        exact hI
theorem wOp_imp {α : Type} {o : Option α} {Q Q' : α → Prop} (h : ∀ x, Q x → Q' x) : wOp o Q → wOp o Q' := fun ⟨x, e, q⟩ => ⟨x, e, h x q⟩
theorem wGb_imp {t : Tg} {b : ISs} : ∀ x env st (P P' : Out → Prop), (∀ o, P o → P' o) → (fun x env st P => wA Γ G t x env st fun env' s1 => wSs Γ G b env' s1 P) x env st P → (fun x env st P => wA Γ G t x env st fun env' s1 => wSs Γ G b env' s1 P) x env st P' := by
  intro x env st P P' h
  rintro ⟨e, s, h1, o, h2, q⟩
  exact ⟨e, s, h1, o, h2, h o q⟩
/-- for: by an invariant -/
theorem for_inv {t : Tg} {b : ISs} {xs : List D} (I : Nat → DEnv → DSt → Prop) (h0 : I 0 env st) (hs : ∀ (i : Nat) x env st, xs[i]? = some x → I i env st → wA Γ G t x env st fun env' s1 => wSs Γ G b env' s1 fun o => wNx o (fun env' st' => I (i + 1) env' st') fun d st' => P (.rt d st'))
    (he : ∀ env st, I xs.length env st → P (.nx env st)) : wFor Γ G t b xs env st P :=
  wG_inv wGb_imp I xs 0 env st h0 (fun i x env st hx hI => by rw [Nat.zero_add] at hI ⊢; exact hs i x env st hx hI) (by simpa using he)
/-- while: by an invariant and a measure -/
theorem whl_inv {c : IE} {b : ISs} (I : Nat → DEnv → DSt → Prop) (m : Nat) (h0 : I m env st) (hs : ∀ (m : Nat) env st, I m env st → wE Γ G c env st fun x s1 => wB x fun t =>
    if t = true then wSs Γ G b env s1 fun o => wNx o (fun env' st' => ∃ m', m' < m ∧ I m' env' st') fun d st' => P (.rt d st') else P (.nx env s1)) : wS Γ G (.whl c b) env st P := by
  have key : ∀ (m : Nat) env st, I m env st → ∃ n o, whGo (fun env st => evT Γ G c env st) (fun env st => evSs Γ G b env st) n env st = some o ∧ P o := by
    intro m
    induction m using Nat.strongRecOn with
    | _ m ih =>
      intro env st hI
      have h := hs m env st hI
      rw [← wT_op (Q := fun t s1 => if t = true then wSs Γ G b env s1 (fun o => wNx o (fun env' st' => ∃ m', m' < m ∧ I m' env' st') fun d st' => P (.rt d st')) else P (.nx env s1))] at h
      obtain ⟨⟨t, s1⟩, h1, h2⟩ := h
      cases t with
      | false => exact ⟨1, .nx env s1, by simp [whGo, h1], by simpa using h2⟩
      | true =>
        simp only [if_true] at h2
        obtain ⟨o, h3, h4⟩ := h2
        cases o with
        | rt d s2 => exact ⟨1, .rt d s2, by simp [whGo, h1, h3], h4⟩
        | nx env' s2 =>
          obtain ⟨m', hm, hI'⟩ := h4
          obtain ⟨n, o, h5, h6⟩ := ih m' hm env' s2 hI'
          exact ⟨n + 1, o, by simp [whGo, h1, h3, h5], h6⟩
  have mono : ∀ (n : Nat) (k : Nat) env st o, whGo (fun env st => evT Γ G c env st) (fun env st => evSs Γ G b env st) n env st = some o → whGo (fun env st => evT Γ G c env st) (fun env st => evSs Γ G b env st) (n + k) env st = some o := by
    intro n
    induction n with
    | zero => intro k env st o h; cases h
    | succ n ih =>
      intro k env st o h
      rw [show n + 1 + k = n + k + 1 by omega]
      unfold whGo at h ⊢
      obtain ⟨⟨t, s1⟩, h1, h⟩ := bindS h
      rw [h1]
      cases t with
      | false => exact h
      | true =>
        simp only at h ⊢
        obtain ⟨o', h2, h⟩ := bindS h
        show ((evSs Γ G b env s1).bind _) = _
        rw [h2]
        cases o' with
        | rt d s2 => exact h
        | nx env' s2 => exact ih k env' s2 o h
  obtain ⟨n, o, h1, h2⟩ := key m env st h0
  rw [wS_op, evS]
  unfold wh
  have hex : ∃ n, (whGo (fun env st => evT Γ G c env st) (fun env st => evSs Γ G b env st) n env st).isSome = true := ⟨n, by rw [h1]; rfl⟩
  rw [dif_pos hex]
  obtain ⟨o', ho'⟩ := Option.isSome_iff_exists.mp hex.choose_spec
  have e1 := mono n hex.choose env st o h1
  have e2 := mono hex.choose n env st o' ho'
  rw [Nat.add_comm] at e2
  rw [e1] at e2
  cases e2
  exact ⟨o, ho', h2⟩
/-! comprehensions -/
def wL (f : D → DSt → (List D → DSt → Prop) → Prop) : List D → DSt → (List D → DSt → Prop) → Prop
  | [], st, R => R [] st
  | x :: xs, st, R => f x st fun ys s1 => wL f xs s1 fun zs s2 => R (ys ++ zs) s2
theorem wL_op {f : D → DSt → Option (List D × DSt)} : ∀ {xs : List D} {st : DSt} {R : List D → DSt → Prop}, wL (fun x st R => wOp (f x st) fun r => R r.1 r.2) xs st R ↔ wOp (lcGo f xs st) fun r => R r.1 r.2
  | [], st, R => by rw [wL, lcGo, wOp_some]
  | x :: xs, st, R => by
    rw [wL, lcGo, wOp_bind]
    simp only [wL_op, wOp_bind, wOp_some]
/-- one item of a comprehension -/
def itm (Γ : GA) (G : List D) (own : List Nat) (tg : Tg) (c e : IE) (env : DEnv) (x : D) (st : DSt) (R : List D → DSt → Prop) : Prop :=
  wA Γ G tg x (wipeD env own) st fun env' s1 => wE Γ G c env' s1 fun b s2 => wB b fun t => if t = true then wE Γ G e env' s2 fun d s3 => R [d] s3 else R [] s2
theorem itm_op {own : List Nat} {tg : Tg} {c e : IE} {x : D} {R : List D → DSt → Prop} : itm Γ G own tg c e env x st R ↔ wOp ((asgT Γ G tg x (wipeD env own) st).bind fun w => (evE Γ G c w.1 w.2).bind fun b => match b.1 with
      | .bl true => (evE Γ G e w.1 b.2).bind fun d => some ([d.1], d.2)
      | .bl false => some ([], b.2)
      | _ => none) fun r => R r.1 r.2 := by
  unfold itm
  simp only [wA_op, wE_op, wOp_bind]
  constructor <;> rintro ⟨w, h1, b, h2, h3⟩ <;> refine ⟨w, h1, b, h2, ?_⟩
  · obtain ⟨t, e1, h3⟩ := h3
    rw [e1]
    cases t
    · simpa [wOp] using h3
    · simp only [if_true] at h3
      simp only [wOp_bind, wOp_some]
      exact h3
  · split at h3
    · rename_i e1
      refine ⟨true, e1, ?_⟩
      simp only [if_true]
      simpa only [wOp_bind, wOp_some] using h3
    · rename_i e1
      refine ⟨false, e1, ?_⟩
      simpa [wOp] using h3
    · obtain ⟨_, q, _⟩ := h3
      cases q
theorem wL_congr {f g : D → DSt → (List D → DSt → Prop) → Prop} (h : ∀ x st R, f x st R ↔ g x st R) : ∀ {xs : List D} {st : DSt} {R : List D → DSt → Prop}, wL f xs st R ↔ wL g xs st R := by
  have : f = g := by
    funext x st R
    exact propext (h x st R)
  intro xs st R
  rw [this]
theorem wL_itm {own : List Nat} {tg : Tg} {c e : IE} {xs : List D} {R : List D → DSt → Prop} : wL (itm Γ G own tg c e env) xs st R ↔ wOp (lcGo (fun x s => (asgT Γ G tg x (wipeD env own) s).bind fun w => (evE Γ G c w.1 w.2).bind fun b => match b.1 with
      | .bl true => (evE Γ G e w.1 b.2).bind fun d => some ([d.1], d.2)
      | .bl false => some ([], b.2)
      | _ => none) xs st) fun r => R r.1 r.2 := (wL_congr (fun x st R => itm_op)).trans wL_op
theorem wE_lc {own : List Nat} {tg : Tg} {it : II} {c e : IE} : wE Γ G (.lc own tg it c e) env st Q ↔ wI Γ G it env st fun xs s1 => wL (itm Γ G own tg c e env) xs s1 fun ds s2 => sz ds.length = true ∧ Q (.lst ds) s2 := by
  rw [wE_op, evE, wOp_bind, wI_op]
  simp only [wOp_bind, wOp_if, wOp_some]
  constructor <;> rintro ⟨r, h1, h2⟩ <;> refine ⟨r, h1, ?_⟩
  · exact wL_itm.mpr h2
  · exact wL_itm.mp h2
theorem wOp_imp0 {α : Type} {o : Option α} {Q Q' : α → Prop} (h : ∀ x, Q x → Q' x) : wOp o Q → wOp o Q' := fun ⟨x, e, q⟩ => ⟨x, e, h x q⟩
/-- one item of two fors -/
def itm2 (Γ : GA) (G : List D) (own : List Nat) (tg : Tg) (it1 : II) (own1 : List Nat) (tg1 : Tg) (c e : IE) (env : DEnv) (x : D) (st : DSt) (R : List D → DSt → Prop) : Prop :=
  wA Γ G tg x (wipeD env own) st fun env1 s2 => wI Γ G it1 env1 s2 fun ys s3 => wL (itm Γ G own1 tg1 c e env1) ys s3 R
theorem itm2_op {own own1 : List Nat} {tg tg1 : Tg} {it1 : II} {c e : IE} {x : D} {R : List D → DSt → Prop} : itm2 Γ G own tg it1 own1 tg1 c e env x st R ↔ wOp ((asgT Γ G tg x (wipeD env own) st).bind fun w => (evI Γ G it1 w.1 w.2).bind fun r1 =>
      lcGo (fun x1 s1 => (asgT Γ G tg1 x1 (wipeD w.1 own1) s1).bind fun w1 => (evE Γ G c w1.1 w1.2).bind fun b => match b.1 with
        | .bl true => (evE Γ G e w1.1 b.2).bind fun d => some ([d.1], d.2)
        | .bl false => some ([], b.2)
        | _ => none) r1.1 r1.2) fun r => R r.1 r.2 := by
  unfold itm2
  simp only [wA_op, wI_op, wOp_bind]
  constructor <;> rintro ⟨w, h1, r, h2, h3⟩ <;> refine ⟨w, h1, r, h2, ?_⟩
  · exact wL_itm.mp h3
  · exact wL_itm.mpr h3
theorem wL_itm2 {own own1 : List Nat} {tg tg1 : Tg} {it1 : II} {c e : IE} {xs : List D} {R : List D → DSt → Prop} : wL (itm2 Γ G own tg it1 own1 tg1 c e env) xs st R ↔ wOp (lcGo (fun x s => (asgT Γ G tg x (wipeD env own) s).bind fun w => (evI Γ G it1 w.1 w.2).bind fun r1 =>
      lcGo (fun x1 s1 => (asgT Γ G tg1 x1 (wipeD w.1 own1) s1).bind fun w1 => (evE Γ G c w1.1 w1.2).bind fun b => match b.1 with
        | .bl true => (evE Γ G e w1.1 b.2).bind fun d => some ([d.1], d.2)
        | .bl false => some ([], b.2)
        | _ => none) r1.1 r1.2) xs st) fun r => R r.1 r.2 := (wL_congr (fun x st R => itm2_op)).trans wL_op
theorem wE_lc2 {own own1 : List Nat} {tg tg1 : Tg} {it it1 : II} {c e : IE} : wE Γ G (.lc2 own tg it own1 tg1 it1 c e) env st Q ↔ wI Γ G it env st fun xs s1 => wL (itm2 Γ G own tg it1 own1 tg1 c e env) xs s1 fun ds s2 => sz ds.length = true ∧ Q (.lst ds) s2 := by
  rw [wE_op, evE, wOp_bind, wI_op]
  simp only [wOp_bind, wOp_if, wOp_some]
  constructor <;> rintro ⟨r, h1, h2⟩ <;> refine ⟨r, h1, ?_⟩
  · exact wL_itm2.mpr h2
  · exact wL_itm2.mp h2
theorem itm2_imp {own own1 : List Nat} {tg tg1 : Tg} {it1 : II} {c e : IE} : ∀ x st (R R' : List D → DSt → Prop), (∀ ys s, R ys s → R' ys s) → itm2 Γ G own tg it1 own1 tg1 c e env x st R → itm2 Γ G own tg it1 own1 tg1 c e env x st R' := by
  intro x st R R' h
  rw [itm2_op, itm2_op]
  exact wOp_imp0 fun r => h r.1 r.2
/-- by an invariant -/
theorem wL_inv {f : D → DSt → (List D → DSt → Prop) → Prop} (hf : ∀ x st (R R' : List D → DSt → Prop), (∀ ys s, R ys s → R' ys s) → f x st R → f x st R') (I : Nat → List D → DSt → Prop) {R : List D → DSt → Prop} : ∀ (xs : List D) (n : Nat) (acc : List D) (st : DSt), I n acc st →
    (∀ (i : Nat) x acc st, xs[i]? = some x → I (n + i) acc st → f x st fun ys s1 => I (n + i + 1) (acc ++ ys) s1) → (∀ ds st, I (n + xs.length) ds st → R ds st) → wL f xs st fun ds s => R (acc ++ ds) s
  | [], n, acc, st, h0, hs, he => by
    rw [wL, List.append_nil]
    exact he acc st h0
  | x :: xs, n, acc, st, h0, hs, he => by
    rw [wL]
    refine hf x st _ _ (fun ys s h => ?_) (hs 0 x acc st rfl h0)
    have := wL_inv hf I (R := R) xs (n + 1) (acc ++ ys) s h (fun i y acc st hy hI => by
      have := hs (i + 1) y acc st (by simpa using hy) (by rw [show n + (i + 1) = n + 1 + i by omega]; exact hI)
      rwa [show n + (i + 1) + 1 = n + 1 + i + 1 by omega] at this) (fun ds st hI => he ds st (by rw [List.length_cons, show n + (xs.length + 1) = n + 1 + xs.length by omega]; exact hI))
    simpa only [List.append_assoc] using this
theorem itm_imp {own : List Nat} {tg : Tg} {c e : IE} : ∀ x st (R R' : List D → DSt → Prop), (∀ ys s, R ys s → R' ys s) → itm Γ G own tg c e env x st R → itm Γ G own tg c e env x st R' := by
  intro x st R R' h
  rw [itm_op, itm_op]
  exact wOp_imp fun r => h r.1 r.2
theorem wL_imp {f : D → DSt → (List D → DSt → Prop) → Prop} (hf : ∀ x st (R R' : List D → DSt → Prop), (∀ ys s, R ys s → R' ys s) → f x st R → f x st R') : ∀ {xs : List D} {st : DSt} {R R' : List D → DSt → Prop}, (∀ ys s, R ys s → R' ys s) → wL f xs st R → wL f xs st R'
  | [], st, R, R', h, q => h _ _ q
  | x :: xs, st, R, R', h, q => by
    rw [wL] at q ⊢
    exact hf x st _ _ (fun ys s q => wL_imp hf (fun zs s2 q => h _ _ q) q) q
/-- nothing stored: item by item -/
theorem wL_map {f : D → DSt → (List D → DSt → Prop) → Prop} (g : D → List D) {st : DSt} : ∀ {xs : List D} {R : List D → DSt → Prop}, (∀ x ∈ xs, ∀ R : List D → DSt → Prop, R (g x) st → f x st R) → R (xs.flatMap g) st → wL f xs st R
  | [], R, hs, h => h
  | x :: xs, R, hs, h => by
    rw [wL]
    refine hs x (by simp) _ ?_
    exact wL_map g (fun y hy => hs y (by simp [hy])) (by simpa using h)
theorem itm_inv {own : List Nat} {tg : Tg} {c e : IE} {xs : List D} (I : Nat → List D → DSt → Prop) {R : List D → DSt → Prop} (h0 : I 0 [] st) (hs : ∀ (i : Nat) x acc st, xs[i]? = some x → I i acc st → itm Γ G own tg c e env x st fun ys s1 => I (i + 1) (acc ++ ys) s1)
    (he : ∀ ds st, I xs.length ds st → R ds st) : wL (itm Γ G own tg c e env) xs st R := by
  have := wL_inv itm_imp I (R := R) xs 0 [] st h0 (fun i x acc st hx hI => by rw [Nat.zero_add] at hI ⊢; exact hs i x acc st hx hI) (by simpa using he)
  simpa using this
/-! calls -/
def wfin (fr : Bool) (st : DSt) (d : D) (st' : DSt) (Q : D → DSt → Prop) : Prop := wOp (fin fr st d st') fun x => Q x.1 x.2
theorem wfin_same {fr : Bool} {st st' : DSt} {d : D} (h : st'.length = st.length) : wfin fr st d st' Q ↔ Q d st' := by
  unfold wfin fin
  rw [if_pos h, wOp_some]
theorem wF_callD {fr : Bool} {n : Nat} {b : ISs} {ds : List D} : wF (callD Γ G fr n b) ds st Q ↔ wSs Γ G b (ds.map some ++ List.replicate (n - ds.length) none) st fun o => wNx o (fun _ st' => wfin fr st .non st' Q) fun d st' => wfin fr st d st' Q := by
  rw [wF_op]
  unfold callD
  rw [wOp_bind, wSs_op]
  constructor <;> rintro ⟨o, h1, h2⟩ <;> refine ⟨o, h1, ?_⟩ <;> cases o <;> exact h2
end
end Py

set_option Elab.async false
set_option linter.all false
set_option maxRecDepth 100000
set_option autoImplicit false
set_option maxHeartbeats 2000000
namespace Py
open PySem PySem.Spec L2
/-! ### steps by simp -/
section
variable {st : DSt}
theorem view_non : view st .non = some .non := rfl
theorem view_bl {b : Bool} : view st (.bl b) = some (.bl b) := rfl
theorem view_int {i : Int} : view st (.int i) = some (.int i) := rfl
theorem view_str {x : List Nat} : view st (.str x) = some (.str x) := rfl
theorem view_tup {x : List D} : view st (.tup x) = some (.tup x) := rfl
theorem view_lst {x : List D} : view st (.lst x) = some (.lst x) := rfl
theorem view_ref {k : Nat} : view st (.ref k) = match st[k]? with
    | some (.lst xs) => some (.lst xs)
    | some (.dct kvs) => some (.dct kvs)
    | _ => none := rfl
theorem viewAll_nil : viewAll st [] = some [] := rfl
theorem viewAll_cons {x : D} {xs : List D} : viewAll st (x :: xs) = (view st x).bind fun u => (viewAll st xs).bind fun us => some (u :: us) := rfl
theorem b_add {i j : Int} : binD .add (.int i) (.int j) = some (.int (i + j)) := rfl
theorem b_sub {i j : Int} : binD .sub (.int i) (.int j) = some (.int (i - j)) := rfl
theorem b_mul {i j : Int} : binD .mul (.int i) (.int j) = if (small i || small j) = true then some (.int (i * j)) else none := rfl
theorem b_fdiv {i j : Int} : binD .fdiv (.int i) (.int j) = if (decide (j ≠ 0) && decide (j.natAbs < 1073741824)) = true then some (.int (i.fdiv j)) else none := rfl
theorem b_mod {i j : Int} : binD .mod (.int i) (.int j) = if decide (j ≠ 0) = true then some (.int (i.fmod j)) else none := rfl
theorem b_adds {a b : List Nat} : binD .add (.str a) (.str b) = if sz (a.length + b.length) = true then some (.str (a ++ b)) else none := rfl
theorem b_addt {a b : List D} : binD .add (.tup a) (.tup b) = if sz (a.length + b.length) = true then some (.tup (a ++ b)) else none := rfl
theorem b_addl {a b : List D} : binD .add (.lst a) (.lst b) = if sz (a.length + b.length) = true then some (.lst (a ++ b)) else none := rfl
theorem c_lt {i j : Int} : cmpD .lt (.int i) (.int j) = some (decide (i < j)) := rfl
theorem c_le {i j : Int} : cmpD .le (.int i) (.int j) = some (decide (i ≤ j)) := rfl
theorem c_gt {i j : Int} : cmpD .gt (.int i) (.int j) = some (decide (j < i)) := rfl
theorem c_ge {i j : Int} : cmpD .ge (.int i) (.int j) = some (decide (j ≤ i)) := rfl
theorem c_eqi {i j : Int} : cmpD .eq (.int i) (.int j) = some (decide (i = j)) := by
  show some (i == j) = _
  rw [show (i == j) = decide (i = j) by rw [Bool.eq_iff_iff]; simp]
theorem c_nei {i j : Int} : cmpD .ne (.int i) (.int j) = some (decide (i ≠ j)) := by
  show some (!(i == j)) = _
  rw [show (!(i == j)) = decide (i ≠ j) by rw [Bool.eq_iff_iff]; simp]
theorem c_eq {x y : D} : cmpD .eq x y = if (D.ok 60 x && D.ok 60 y) = true then some (D.eqv x y) else none := rfl
theorem c_ne {x y : D} : cmpD .ne x y = if (D.ok 60 x && D.ok 60 y) = true then some (!D.eqv x y) else none := rfl
theorem c_in {x y : D} : cmpD .isin x y = inD x y := rfl
theorem c_nin {x y : D} : cmpD .nin x y = (inD x y).map (!·) := rfl
theorem c_is {x : D} : cmpD .is x .non = some (isNon x) := by cases x <;> rfl
theorem c_isn {x : D} : cmpD .isn x .non = some (!isNon x) := by cases x <;> rfl
theorem in_str {c : Nat} {z : List Nat} : inD (.str [c]) (.str z) = some (decide (c ∈ z)) := rfl
theorem ix_tup {xs : List D} {i : Int} : ixD (.tup xs) (.int i) = atI xs i := rfl
theorem ix_lst {xs : List D} {i : Int} : ixD (.lst xs) (.int i) = atI xs i := rfl
theorem ix_str {cs : List Nat} {i : Int} : ixD (.str cs) (.int i) = if sz cs.length = true then (atI cs i).map fun c => .str [c] else none := rfl
theorem sl_lst {xs : List D} {a b : Option Int} : slD (.lst xs) a b = some (.lst (cut xs a b)) := rfl
theorem sl_tup {xs : List D} {a b : Option Int} : slD (.tup xs) a b = some (.tup (cut xs a b)) := rfl
theorem sl_str {cs : List Nat} {a b : Option Int} : slD (.str cs) a b = if sz cs.length = true then some (.str (cut cs a b)) else none := rfl
theorem atI_nat' {α : Type} {xs : List α} {n : Nat} : atI xs (n : Int) = xs[n]? := by
  unfold atI ixN
  rw [if_pos (by omega)]
  by_cases h : (n : Int) < xs.length
  · rw [if_pos h]
    simp
  · rw [if_neg h]
    rw [List.getElem?_eq_none (by omega)]
    rfl
theorem atI_pos {α : Type} {xs : List α} {i : Int} (h : 0 ≤ i) : atI xs i = xs[i.toNat]? := by
  have e : ((i.toNat : Nat) : Int) = i := by omega
  rw [← atI_nat', e]
theorem is_int {i : Int} : isiD (.int i) .int = some true := rfl
theorem is_int_b {i : Int} : isiD (.int i) .bool = some false := rfl
theorem is_tup {x : List D} : isiD (.tup x) .tuple = some true := rfl
theorem is_str {x : List Nat} : isiD (.str x) .str = some true := rfl
theorem ebi_len {u : List D} : biD .len u = biLen u := rfl
theorem ebi_tuple {u : List D} : biD .tuple u = biTuple u := rfl
theorem ebi_list {u : List D} : biD .list u = biList u := rfl
theorem ebi_all {u : List D} : biD .all u = biAll u := rfl
theorem ebi_any {u : List D} : biD .any u = biAny u := rfl
theorem ebi_int {u : List D} : biD .int u = biInt u := rfl
theorem bi_lr1 {u : List D} : biD .lrange1 u = biLr1 u := rfl
theorem len_tup {xs : List D} : biLen [.tup xs] = some (.int xs.length) := rfl
theorem len_lst {xs : List D} : biLen [.lst xs] = some (.int xs.length) := rfl
theorem len_str {xs : List Nat} : biLen [.str xs] = if sz xs.length = true then some (.int xs.length) else none := by
  by_cases h : sz xs.length = true
  · have e : lenD (.str xs) = some xs.length := if_pos h
    unfold biLen
    simp only [e]
    rw [if_pos h]
    rfl
  · have e : lenD (.str xs) = none := if_neg h
    unfold biLen
    simp only [e]
    rw [if_neg h]
    rfl
theorem tuple_lst {xs : List D} : biTuple [.lst xs] = some (.tup xs) := rfl
theorem tuple_tup {xs : List D} : biTuple [.tup xs] = some (.tup xs) := rfl
theorem list_lst {xs : List D} : biList [.lst xs] = some (.lst xs) := rfl
theorem list_tup {xs : List D} : biList [.tup xs] = some (.lst xs) := rfl
theorem elist_str {cs : List Nat} : biList [.str cs] = if sz cs.length = true then some (.lst (cs.map fun c => .str [c])) else none := rfl
theorem int_int {i : Int} : biInt [.int i] = some (.int i) := rfl
theorem int_bl {b : Bool} : biInt [.bl b] = some (.int (if b = true then 1 else 0)) := rfl
theorem lr1 {b : Int} : biLr1 [.int b] = if rngOk 0 b = true then some (.lst (rangeL 0 b)) else none := rfl
theorem tupIt_tup {xs : List D} : tupIt (.tup xs) = some xs := rfl
theorem seq_tup {xs : List D} : seqD (.tup xs) = some xs := rfl
theorem seq_lst {xs : List D} : seqD (.lst xs) = some xs := rfl
theorem seq_str {cs : List Nat} : seqD (.str cs) = if sz cs.length = true then some (cs.map fun c => .str [c]) else none := rfl
theorem mt_append {k : Nat} {d : D} : mthD .append (.ref k) [d] st = match st[k]? with
    | some (.lst xs) => if sz (xs.length + 1) = true then some (.non, setO st k (.lst (xs ++ [d]))) else none
    | _ => none := rfl
theorem mt_pop {k : Nat} : mthD .pop (.ref k) [] st = match st[k]? with
    | some (.lst xs) => (xs[xs.length - 1]?).map fun y => (y, setO st k (.lst xs.dropLast))
    | _ => none := rfl
theorem mt_joinl {sep : List Nat} {xs : List D} : mthD .join (.str sep) [.lst xs] st = (strsL xs).bind fun ys => if (sz (joinS sep ys).length && sz (ys.length * (sep.length + 1))) = true then some (.str (joinS sep ys), st) else none := rfl
theorem ty_app {xs : List D} : mtTy .append (.lst xs) = true := rfl
theorem ty_pop {xs : List D} : mtTy .pop (.lst xs) = true := rfl
theorem ty_join {xs : List Nat} : mtTy .join (.str xs) = true := rfl
theorem sub_set {k : Nat} {i d : D} : subSet st (.ref k) i d = match st[k]? with
    | some (.lst xs) => (subLst xs d i).map fun ys => setO st k (.lst ys)
    | some (.dct kvs) => (setK kvs i d).map fun ks => setO st k (.dct ks)
    | _ => none := rfl
theorem sub_lst {xs : List D} {d : D} {j : Int} : subLst xs d (.int j) = (ixN xs.length j).map fun n => xs.set n d := rfl
theorem wNx_nx {env : DEnv} {N : DEnv → DSt → Prop} {R : D → DSt → Prop} : wNx (.nx env st) N R ↔ N env st := Iff.rfl
theorem wNx_rt {d : D} {N : DEnv → DSt → Prop} {R : D → DSt → Prop} : wNx (.rt d st) N R ↔ R d st := Iff.rfl
theorem wipe_nil {env : DEnv} : wipeD env [] = env := rfl
theorem wipe_cons {env : DEnv} {v : Nat} {vs : List Nat} : wipeD env (v :: vs) = (wipeD env vs).set v none := rfl
theorem setAll_nil {env : DEnv} : setAll env [] [] = some env := rfl
theorem setAll_cons {env : DEnv} {i : Nat} {is : List Nat} {d : D} {ds : List D} : setAll env (i :: is) (d :: ds) = setAll (env.set i (some d)) is ds := rfl
theorem wfin_st {fr : Bool} {d : D} {Q : D → DSt → Prop} : wfin fr st d st Q ↔ Q d st := wfin_same rfl
theorem sz_of {n : Nat} (h : n ≤ 100000) : sz n = true := decide_eq_true h
theorem wF_fn {a : Str} {n : Nat} {fr : Bool} {F : List D → DSt → Option (D × DSt)} {ds : List D} {Q : D → DSt → Prop} : wF (DFn.F ⟨a, n, fr, F⟩) ds st Q ↔ wF F ds st Q := Iff.rfl
end
theorem atI_l0 {α : Type} {xs : List α} : atI xs (0 : Int) = xs[0]? := atI_nat' (n := 0)
theorem atI_l1 {α : Type} {xs : List α} : atI xs (1 : Int) = xs[1]? := atI_nat' (n := 1)
theorem atI_l2 {α : Type} {xs : List α} : atI xs (2 : Int) = xs[2]? := atI_nat' (n := 2)
theorem atI_l3 {α : Type} {xs : List α} : atI xs (3 : Int) = xs[3]? := atI_nat' (n := 3)
theorem atI_l4 {α : Type} {xs : List α} : atI xs (4 : Int) = xs[4]? := atI_nat' (n := 4)
theorem atI_l5 {α : Type} {xs : List α} : atI xs (5 : Int) = xs[5]? := atI_nat' (n := 5)
theorem atI_l6 {α : Type} {xs : List α} : atI xs (6 : Int) = xs[6]? := atI_nat' (n := 6)
theorem setO_eq {st : DSt} {k : Nat} {o : O} : setO st k o = st.set k o := rfl
theorem b_pow {i j : Int} : binD .pow (.int i) (.int j) = if (decide (0 ≤ j) && decide (j ≤ 1000000) && decide (i.natAbs < 2 ^ 64)) = true then some (.int (i ^ j.toNat)) else none := rfl
theorem ixN_pos {n : Nat} {i : Int} (h : 0 ≤ i) (h2 : i < n) : ixN n i = some i.toNat := by
  unfold ixN
  rw [if_pos h, if_pos h2]
theorem ixN_0 {n : Nat} : ixN (n + 1) 0 = some 0 := ixN_pos (by omega) (by omega)
theorem alQ_dct {kvs : List (D × D)} {st : DSt} {Q : D → DSt → Prop} : alQ (.dct kvs) st Q ↔ Q (.ref st.length) (st ++ [.dct kvs]) := Iff.rfl
theorem en_lst {xs : List D} : enD (.lst xs) = some xs := rfl
theorem en_tup {xs : List D} : enD (.tup xs) = some xs := rfl
theorem ix_dct' {kvs : List (D × D)} {k : D} : ixD (.dct kvs) k = if fitK k kvs = true then findK k kvs else none := rfl
theorem len_dct {kvs : List (D × D)} : biLen [.dct kvs] = if sz kvs.length = true then some (.int kvs.length) else none := by
  by_cases h : sz kvs.length = true
  · have e : lenD (.dct kvs) = some kvs.length := if_pos h
    unfold biLen
    simp only [e]
    rw [if_pos h]
    rfl
  · have e : lenD (.dct kvs) = none := if_neg h
    unfold biLen
    simp only [e]
    rw [if_neg h]
    rfl
theorem seq_dct {kvs : List (D × D)} : seqD (.dct kvs) = if sz kvs.length = true then some (kvs.map (·.1)) else none := rfl
theorem mt_get_eq {o k : D} {st : DSt} : mthD .get o [k] st = match view st o with
    | some (.dct kvs) => if fitK k kvs = true then some ((findK k kvs).getD .non, st) else none
    | _ => none := rfl
theorem mt_get2_eq {o k d : D} {st : DSt} : mthD .get2 o [k, d] st = match view st o with
    | some (.dct kvs) => if fitK k kvs = true then some ((findK k kvs).getD d, st) else none
    | _ => none := rfl
theorem mt_index_eq {o x : D} {st : DSt} : mthD .index o [x] st = match view st o with
    | some (.lst ys) => if (D.ok 60 x && D.oks 60 ys) = true then (ys.findIdx? fun y => D.eqv y x).map fun n => (.int n, st) else none
    | _ => none := rfl
theorem mt_popAt_eq {k : Nat} {i : Int} {st : DSt} : mthD .popAt (.ref k) [.int i] st = match st[k]? with
    | some (.lst xs) => if (small i && sz xs.length) = true then (atI xs i).map fun y => (y, setO st k (.lst (eraseAt xs i))) else none
    | _ => none := rfl
theorem ebi_sorted {u : List D} : biD .sorted u = biSorted u := rfl
theorem ebi_min1 {u : List D} : biD .min u = biMin1 u := rfl
theorem ebi_max1 {u : List D} : biD .max u = biMax1 u := rfl
theorem ebi_sum {u : List D} : biD .sum u = biSum u := rfl
theorem ebi_abs {u : List D} : biD .abs u = biAbs u := rfl
theorem sorted_lst {xs : List D} : biSorted [.lst xs] = if sortOkL xs = true then some (.lst (sortL xs)) else none := rfl
theorem sorted_dct {kvs : List (D × D)} : biSorted [.dct kvs] = if sortOk (kvs.map (·.1)) = true then some (.lst (sortL (kvs.map (·.1)))) else none := rfl
theorem rev_str {cs : List Nat} : revD (.str cs) = if sz cs.length = true then some (.str cs.reverse) else none := rfl
theorem rev_lst {xs : List D} : revD (.lst xs) = some (.lst xs.reverse) := rfl
theorem ty_get {kvs : List (D × D)} : mtTy .get (.dct kvs) = true := rfl
theorem ty_get2 {kvs : List (D × D)} : mtTy .get2 (.dct kvs) = true := rfl
theorem ty_index {xs : List D} : mtTy .index (.lst xs) = true := rfl
theorem ty_popAt {xs : List D} : mtTy .popAt (.lst xs) = true := rfl
theorem view_dct {st : DSt} {x : List (D × D)} : view st (.dct x) = some (.dct x) := rfl
theorem view_r0d {kvs : List (D × D)} {r : DSt} : view (.dct kvs :: r) (.ref 0) = some (.dct kvs) := rfl
theorem view_r0 {xs : List D} {r : DSt} : view (.lst xs :: r) (.ref 0) = some (.lst xs) := rfl
theorem view_rs {o : O} {r : DSt} {k : Nat} : view (o :: r) (.ref (k + 1)) = view r (.ref k) := rfl
theorem sub_r0 {xs : List D} {r : DSt} {i d : D} : subSet (.lst xs :: r) (.ref 0) i d = (subLst xs d i).map fun ys => .lst ys :: r := rfl
theorem frz_at {env : DEnv} {i k : Nat} {st : DSt} {xs : List D} (h1 : env[i]? = some (some (.ref k))) (h2 : st[k]? = some (.lst xs)) : frzV env i st = some (env.set i (some (.lst xs)), st.set k .dead) := by
  unfold frzV
  rw [h1]
  simp only [h2]
theorem mt_count_eq {o x : D} {st : DSt} : mthD .count o [x] st = match view st o with
    | some (.lst ys) => if (D.ok 60 x && D.oks 60 ys) = true then some (.int (ys.countP fun y => D.eqv y x), st) else none
    | _ => none := rfl
theorem mt_extend_eq {k : Nat} {ys : List D} {st : DSt} : mthD .extend (.ref k) [.lst ys] st = match st[k]? with
    | some (.lst xs) => if sz (xs.length + ys.length) = true then some (.non, setO st k (.lst (xs ++ ys))) else none
    | _ => none := rfl
theorem ty_count {xs : List D} : mtTy .count (.lst xs) = true := rfl
theorem ty_extend {xs : List D} : mtTy .extend (.lst xs) = true := rfl
theorem sorted_str {cs : List Nat} : biSorted [.str cs] = if sortOk (cs.map fun c => D.str [c]) = true then some (.lst (sortL (cs.map fun c => D.str [c]))) else none := rfl
theorem ebi_sortset {u : List D} : biD .sortset u = biSortset u := rfl
theorem ebi_lenset {u : List D} : biD .lenset u = biLenset u := rfl
theorem sortset_lst {xs : List D} : biSortset [.lst xs] = if (setOk xs && sortOkL (dedupL xs)) = true then some (.lst (sortL (dedupL xs))) else none := rfl
theorem sortset_tup {xs : List D} : biSortset [.tup xs] = if (setOk xs && sortOkL (dedupL xs)) = true then some (.lst (sortL (dedupL xs))) else none := rfl
theorem lenset_lst {xs : List D} : biLenset [.lst xs] = if setOk xs = true then some (.int (dedupL xs).length) else none := rfl
def EVd := And.intro @wI_enumz (And.intro @wS_retO (And.intro @mt_count_eq (And.intro @mt_extend_eq (And.intro @ty_count (And.intro @ty_extend (And.intro @sorted_str (And.intro @ebi_sortset (And.intro @ebi_lenset (And.intro @sortset_lst (And.intro @sortset_tup (And.intro @lenset_lst (And.intro @wE_dct (And.intro @alQ_dct (And.intro @en_lst (And.intro @en_tup (And.intro @ix_dct' (And.intro @len_dct (And.intro @seq_dct (And.intro @mt_get_eq (And.intro @mt_get2_eq (And.intro @mt_index_eq (And.intro @mt_popAt_eq (And.intro @ebi_sorted (And.intro @ebi_min1 (And.intro @ebi_max1 (And.intro @ebi_sum (And.intro @ebi_abs (And.intro @sorted_lst (And.intro @sorted_dct (And.intro @rev_str (And.intro @rev_lst (And.intro @ty_get (And.intro @ty_get2 (And.intro @ty_index (And.intro @ty_popAt (And.intro @view_dct (And.intro @view_r0d (And.intro @wI_enum (And.intro @wI_zip (And.intro @wI_rng3 (And.intro @wLst_lst (And.intro @wS_frz (And.intro @view_r0 (And.intro @view_rs (And.intro @sub_r0 (And.intro @mt_joinl (And.intro @sub_lst (And.intro @setO_eq (And.intro @b_pow (And.intro @ixN_0 (And.intro (fun {α : Type} => @atI_l0 α) (And.intro (fun {α : Type} => @atI_l1 α) (And.intro (fun {α : Type} => @atI_l2 α) (And.intro (fun {α : Type} => @atI_l3 α) (And.intro (fun {α : Type} => @atI_l4 α) (And.intro (fun {α : Type} => @atI_l5 α) (And.intro (fun {α : Type} => @atI_l6 α) (And.intro @wE_cst (And.intro @wE_var (And.intro @wE_glb (And.intro @wE_tup (And.intro @wE_lst (And.intro @wE_bin (And.intro @wE_cmp (And.intro @wE_chn (And.intro @wE_neg (And.intro @wE_not (And.intro @wE_and (And.intro @wE_or (And.intro @wE_ite (And.intro @wE_ix (And.intro @wE_sl (And.intro @wE_rev (And.intro @wE_call (And.intro @wE_bi (And.intro @wE_isi (And.intro @wE_mth (And.intro @wE_dis (And.intro @wE_al (And.intro @alQ_lst (And.intro @wEs_nil (And.intro @wEs_cons (And.intro @wO_none (And.intro @wO_some (And.intro @wI_seq (And.intro @wI_rng1 (And.intro @wI_rng2 (And.intro @wA_nm (And.intro @wA_sub (And.intro @wA_tp (And.intro @wAs_nil (And.intro @wAs_cons (And.intro @wSs_nil (And.intro @wSs_cons (And.intro @wS_asg (And.intro @wS_par (And.intro @wS_ex (And.intro @wS_ret (And.intro @wS_retN (And.intro @wS_pass (And.intro @wS_rse (And.intro @wS_ite (And.intro @wS_for (And.intro @wE_lc (And.intro @wE_lc2 (And.intro @wF_callD (And.intro @wOp_some (And.intro @wOp_none (And.intro @wOp_if (And.intro @wOp_map (And.intro @wOp_bind (And.intro @wB_bl (And.intro @wInt_int (And.intro @wNx_nx (And.intro @wNx_rt (And.intro @wfin_st (And.intro @view_non (And.intro @view_bl (And.intro @view_int (And.intro @view_str (And.intro @view_tup (And.intro @view_lst (And.intro @viewAll_nil (And.intro @viewAll_cons (And.intro @b_add (And.intro @b_sub (And.intro @b_mul (And.intro @b_fdiv (And.intro @b_mod (And.intro @b_adds (And.intro @b_addt (And.intro @b_addl (And.intro @c_lt (And.intro @c_le (And.intro @c_gt (And.intro @c_ge (And.intro @c_eqi (And.intro @c_nei (And.intro @c_in (And.intro @c_nin (And.intro @c_is (And.intro @c_isn (And.intro @in_str (And.intro @ix_tup (And.intro @ix_lst (And.intro @ix_str (And.intro @sl_lst (And.intro @sl_tup (And.intro @sl_str (And.intro @is_int (And.intro @is_int_b (And.intro @is_tup (And.intro @is_str (And.intro @ebi_len (And.intro @ebi_tuple (And.intro @ebi_list (And.intro @ebi_all (And.intro @ebi_any (And.intro @ebi_int (And.intro @bi_lr1 (And.intro @len_tup (And.intro @len_lst (And.intro @len_str (And.intro @tuple_lst (And.intro @tuple_tup (And.intro @list_lst (And.intro @list_tup (And.intro @elist_str (And.intro @int_int (And.intro @int_bl (And.intro @lr1 (And.intro @tupIt_tup (And.intro @seq_tup (And.intro @seq_lst (And.intro @seq_str (And.intro @ty_app (And.intro @ty_pop (And.intro @ty_join (And.intro @wipe_nil (And.intro @wipe_cons (And.intro @setAll_nil (And.intro @setAll_cons (And.intro (fun {α : Type} => @List.set_cons_succ α) (And.intro (fun {α : Type} => @List.set_cons_zero α) (And.intro (fun {α : Type} => @List.set_nil α) (And.intro (fun {α : Type} => @List.getElem?_cons_succ α) (And.intro (fun {α : Type} => @List.getElem?_cons_zero α) (And.intro (fun {α : Type} => @List.getElem?_nil α) (And.intro (fun {α β : Type} => @List.map_cons α β) (And.intro (fun {α β : Type} => @List.map_nil α β) (And.intro (fun {α : Type} => @List.length_cons α) (And.intro (fun {α : Type} => @List.length_nil α) (And.intro (fun {α : Type} => @List.replicate_succ α) (And.intro (fun {α : Type} => @List.replicate_zero α) (And.intro (fun {α : Type} => @List.cons_append α) (And.intro (fun {α : Type} => @List.nil_append α) (And.intro (fun {α : Type} => @List.append_nil α) (And.intro @Nat.add_eq (And.intro @Nat.zero_add (And.intro @Nat.sub_self (And.intro @Nat.sub_zero (And.intro (fun {α : Type} => @Option.some.injEq α) (And.intro (fun {α : Type} => @exists_eq_left' α) (And.intro (fun {α : Type} => @exists_eq_left α) (And.intro (fun {α : Type} => @exists_and_left α) (And.intro @true_and (And.intro @and_true (And.intro @and_self (And.intro @Bool.false_eq_true (And.intro @Bool.not_true (And.intro @Bool.not_false (And.intro @Bool.true_eq_false (And.intro @false_and (And.intro (fun {α : Type} => @exists_false α) (And.intro @Bool.and_true (And.intro @Bool.true_and (And.intro (fun {α β : Type} => @Option.bind_some α β) (And.intro (fun {α β : Type} => @Option.map_some α β) (And.intro @not_true_eq_false (@not_false_eq_true))))))))))))))))))))))))))))))))))))))))))))))))))))))))))))))))))))))))))))))))))))))))))))))))))))))))))))))))))))))))))))))))))))))))))))))))))))))))))))))))))))))))))))))))))))))))))))))))))))))))))))))))))))))))))))
theorem EV : type_of% EVd := EVd
end Py

set_option Elab.async false
set_option linter.all false
set_option maxRecDepth 100000
set_option autoImplicit false
set_option maxHeartbeats 2000000
namespace Py
open PySem PySem.Spec L2
/-! ### typed walks -/
section
variable {Γ : GA} {G : List D} {env : DEnv} {st : DSt} {f : D → DSt → (List D → DSt → Prop) → Prop} {R : List D → DSt → Prop}
theorem wL_mapT {α : Type} {l : List α} (emb g : α → D) (hs : ∀ a ∈ l, ∀ R : List D → DSt → Prop, R [g a] st → f (emb a) st R) (h : R (l.map g) st) : wL f (l.map emb) st R := by
  induction l generalizing R with
  | nil => exact h
  | cons a l ih =>
    rw [List.map_cons, wL]
    refine hs a (by simp) _ (ih (fun b hb => hs b (by simp [hb])) ?_)
    simpa using h
theorem wL_filT {α : Type} {l : List α} (emb g : α → D) (p : α → Bool) (hs : ∀ a ∈ l, ∀ R : List D → DSt → Prop, R (if p a = true then [g a] else []) st → f (emb a) st R) (h : R ((l.filter p).map g) st) : wL f (l.map emb) st R := by
  induction l generalizing R with
  | nil => exact h
  | cons a l ih =>
    rw [List.map_cons, wL]
    refine hs a (by simp) _ (ih (fun b hb => hs b (by simp [hb])) ?_)
    rw [List.filter_cons] at h
    cases hp : p a with
    | true =>
      rw [hp] at h
      simpa using h
    | false =>
      rw [hp] at h
      simpa using h
theorem wL_flatT {α : Type} {l : List α} (emb : α → D) (g : α → List D) (hs : ∀ a ∈ l, ∀ R : List D → DSt → Prop, R (g a) st → f (emb a) st R) (h : R (l.flatMap g) st) : wL f (l.map emb) st R := by
  induction l generalizing R with
  | nil => exact h
  | cons a l ih =>
    rw [List.map_cons, wL]
    refine hs a (by simp) _ (ih (fun b hb => hs b (by simp [hb])) ?_)
    simpa using h
end
/-! ### embeddings -/
theorem rangeL_0 (n : Nat) : rangeL 0 (n : Int) = (List.range n).map fun (i : Nat) => D.int (i : Int) := by
  unfold rangeL
  simp
theorem rngOk_of {a b : Int} (h1 : -1000000 ≤ a) (h2 : a ≤ 1000000) (h3 : -1000000 ≤ b) (h4 : b ≤ 1000000) : rngOk a b = true := by
  unfold rngOk
  rw [decide_eq_true h1, decide_eq_true h2, decide_eq_true h3, decide_eq_true h4]
  rfl
theorem bools_map {α : Type} (f : α → Bool) : ∀ l : List α, bools (l.map fun a => D.bl (f a)) = some (l.map f)
  | [] => rfl
  | a :: l => by
    rw [List.map_cons, bools, bools_map f l]
    rfl
theorem all_map {α : Type} {l : List α} {f : α → Bool} : biAll [.lst (l.map fun a => D.bl (f a))] = some (.bl (l.all f)) := by
  unfold biAll
  simp only [bools_map, Option.map_some]
  rw [List.all_map]
  rfl
theorem any_map {α : Type} {l : List α} {f : α → Bool} : biAny [.lst (l.map fun a => D.bl (f a))] = some (.bl (l.any f)) := by
  unfold biAny
  simp only [bools_map, Option.map_some]
  rw [List.any_map]
  rfl
theorem strsL_map : ∀ l : List (List Nat), strsL (l.map .str) = some l
  | [] => rfl
  | a :: l => by
    rw [List.map_cons, strsL, strsL_map l]
    rfl
theorem joinS_nil : ∀ l : List (List Nat), joinS [] l = l.flatten
  | [] => rfl
  | [a] => by simp [joinS]
  | a :: b :: l => by
    rw [joinS, joinS_nil (b :: l)]
    rfl
theorem oks_map {α : Type} {n : Nat} {g : α → D} : ∀ {l : List α}, (∀ a ∈ l, D.ok n (g a) = true) → D.oks n (l.map g) = true
  | [], _ => rfl
  | a :: l, h => by
    rw [List.map_cons, D.oks, h a (by simp), oks_map fun b hb => h b (by simp [hb])]
    rfl
theorem ok_int {n : Nat} {i : Int} : D.ok n (.int i) = true := by cases n <;> rfl
theorem ok_bl {n : Nat} {i : Bool} : D.ok n (.bl i) = true := by cases n <;> rfl
theorem ok_non {n : Nat} : D.ok n .non = true := by cases n <;> rfl
theorem ok_str {n : Nat} {x : List Nat} (h : ∀ c ∈ x, c < 55296) : D.ok n (.str x) = true := by
  have : (x.all fun c => decide (c < 55296)) = true := by
    rw [List.all_eq_true]
    intro c hc
    exact decide_eq_true (h c hc)
  cases n <;> exact this
theorem ok_tup {n : Nat} {xs : List D} (h : D.oks n xs = true) : D.ok (n + 1) (.tup xs) = true := by
  rw [D.ok]
  simpa using h
theorem ok_lst {n : Nat} {xs : List D} (h : D.oks n xs = true) : D.ok (n + 1) (.lst xs) = true := by
  rw [D.ok]
  simpa using h
theorem oks_nil {n : Nat} : D.oks n [] = true := by cases n <;> rfl
theorem oks_cons {n : Nat} {x : D} {xs : List D} (h : D.ok n x = true) (h2 : D.oks n xs = true) : D.oks n (x :: xs) = true := by
  rw [D.oks, h, h2]
  rfl
theorem ok_ints {n : Nat} {ns : List Int} : D.ok (n + 1) (.lst (ns.map .int)) = true := ok_lst (oks_map fun _ _ => ok_int)
theorem eqv_int {i j : Int} : D.eqv (.int i) (.int j) = decide (i = j) := by
  show (i == j) = _
  rw [Bool.eq_iff_iff]
  simp
theorem eqvs_map {α : Type} [DecidableEq α] {g : α → D} (hg : ∀ a b : α, D.eqv (g a) (g b) = decide (a = b)) : ∀ {l m : List α}, D.eqvs (l.map g) (m.map g) = decide (l = m)
  | [], [] => by simp [D.eqvs]
  | [], _ :: _ => by simp [D.eqvs]
  | _ :: _, [] => by simp [D.eqvs]
  | a :: l, b :: m => by
    rw [List.map_cons, List.map_cons, D.eqvs, hg, eqvs_map hg]
    rw [Bool.eq_iff_iff]
    simp
theorem eqv_str {x y : List Nat} : D.eqv (.str x) (.str y) = decide (x = y) := by
  show (x == y) = _
  rw [Bool.eq_iff_iff]
  simp
theorem eqv_tup {xs ys : List D} : D.eqv (.tup xs) (.tup ys) = D.eqvs xs ys := by rw [D.eqv]
theorem eqv_lst {xs ys : List D} : D.eqv (.lst xs) (.lst ys) = D.eqvs xs ys := by rw [D.eqv]
theorem eqvs_nil : D.eqvs [] [] = true := by rw [D.eqvs]
theorem eqvs_cons {x y : D} {xs ys : List D} : D.eqvs (x :: xs) (y :: ys) = (D.eqv x y && D.eqvs xs ys) := by rw [D.eqvs]
theorem eqvs_cn {x : D} {xs : List D} : D.eqvs (x :: xs) [] = false := by simp [D.eqvs]
theorem eqvs_nc {x : D} {xs : List D} : D.eqvs [] (x :: xs) = false := by simp [D.eqvs]
theorem view_ref0 {xs : List D} {r : DSt} : view (.lst xs :: r) (.ref 0) = some (.lst xs) := rfl
/-! ### the town -/
/-- the town: room for B draws more; what else there is -/
def TW (B : Int) (n : Nat) (r st : DSt) : Prop := ∃ (c : Int) (t : List Int), st = .lst (.int c :: t.map .int) :: r ∧ t.length = n ∧ 0 ≤ c ∧ c + B ≤ 1000000000000
theorem TW.mono {B B' : Int} {n : Nat} {r st : DSt} (h : TW B n r st) (hb : B' ≤ B) : TW B' n r st := let ⟨c, t, h1, h2, h3, h4⟩ := h; ⟨c, t, h1, h2, h3, by omega⟩
theorem TW.len {B : Int} {n : Nat} {r st : DSt} (h : TW B n r st) : st.length = r.length + 1 := by
  obtain ⟨c, t, rfl, _⟩ := h
  rfl
theorem pures_ints : ∀ t : List Int, D.pures (t.map .int) = true
  | [] => by simp [D.pures]
  | a :: t => by rw [List.map_cons, D.pures, pures_ints t]; rfl
theorem pures_strs : ∀ t : List (List Nat), D.pures (t.map .str) = true
  | [] => by simp [D.pures]
  | a :: t => by rw [List.map_cons, D.pures, pures_strs t]; rfl
theorem TW.pure {B : Int} {n : Nat} {r st : DSt} (h : TW B n r st) (hr : r.all O.pure = true) : st.all O.pure = true := by
  obtain ⟨c, t, rfl, _⟩ := h
  rw [List.all_cons, hr, Bool.and_true]
  show D.pures (.int c :: t.map .int) = true
  rw [D.pures, pures_ints]
  rfl
theorem TW.add {B : Int} {n : Nat} {r st : DSt} {o : O} (h : TW B n r st) : TW B n (r ++ [o]) (st ++ [o]) := by
  obtain ⟨c, t, rfl, h1⟩ := h
  exact ⟨c, t, rfl, h1⟩
theorem TW.un {B : Int} {n : Nat} {r st : DSt} {o : O} (h : TW B n (r ++ [o]) st) : ∃ s, st = s ++ [o] ∧ TW B n r s := by
  obtain ⟨c, t, rfl, h1⟩ := h
  exact ⟨.lst (.int c :: t.map .int) :: r, rfl, c, t, rfl, h1⟩
theorem view_end {s : DSt} {n : Nat} {xs : List D} (h : s.length = n) : view (s ++ [.lst xs]) (.ref n) = some (.lst xs) := by
  subst h
  rw [view_ref, List.getElem?_concat_length]
theorem app_end {s : DSt} {n : Nat} {xs : List D} {d : D} (h : s.length = n) (hz : xs.length < 100000) : mthD .append (.ref n) [d] (s ++ [.lst xs]) = some (.non, s ++ [.lst (xs ++ [d])]) := by
  subst h
  rw [mt_append, List.getElem?_concat_length]
  simp only [sz_of (show xs.length + 1 ≤ 100000 by omega), if_true, setO_eq]
  rw [List.set_append_right _ _ (Nat.le_refl _)]
  simp
/-- behind a call: own objects are gone -/
theorem wfin_cut {st st1 ex : DSt} {d : D} {Q : D → DSt → Prop} (hp : D.pure d = true) (hl : st1.length = st.length) (hpure : st1.all O.pure = true) (q : Q d st1) : wfin false st d (st1 ++ ex) Q := by
  unfold wfin fin
  have ht : (st1 ++ ex).take st.length = st1 := by rw [← hl, List.take_left]
  split
  · rename_i h
    have : ex = [] := by
      rw [List.length_append] at h
      exact List.eq_nil_of_length_eq_zero (by omega)
    subst this
    rw [List.append_nil]
    exact wOp_some.mpr q
  · rw [if_neg (by simp), ht]
    have hf : frz st.length (st1 ++ ex) 6 d = some d := by
      cases d <;> (unfold frz; rw [if_pos hp])
    rw [hf, Option.bind_some]
    split
    · rename_i h
      subst h
      exact wOp_some.mpr q
    · exact wOp_some.mpr q
/-- behind a call that gives back its own list -/
theorem wfin_own {st st1 ex : DSt} {k : Nat} {xs : List D} {Q : D → DSt → Prop} (hx : ex ≠ []) (hl : st1.length = st.length) (hk : st.length ≤ k) (hg : (st1 ++ ex)[k]? = some (.lst xs)) (hp : D.pures xs = true)
    (hs : st1 = st ∨ (st1.all O.pure = true ∧ st1.map O.isDead = st.map O.isDead)) (q : Q (.lst xs) st1) : wfin true st (.ref k) (st1 ++ ex) Q := by
  unfold wfin fin
  have ht : (st1 ++ ex).take st.length = st1 := by rw [← hl, List.take_left]
  have ho : ownLst st.length (st1 ++ ex) (.ref k) = some (.lst xs) := by
    unfold ownLst
    simp only [if_neg (show ¬ k < st.length by omega), hg, hp, if_true]
  have hne : (st1 ++ ex).length ≠ st.length := by
    rw [List.length_append, hl]
    have := List.length_pos_iff.mpr hx
    omega
  rw [if_neg hne, if_pos rfl, ho, Option.bind_some, ht]
  rcases hs with rfl | ⟨h1, h2⟩
  · rw [if_pos rfl]
    exact wOp_some.mpr q
  · split
    · rename_i h
      subst h
      exact wOp_some.mpr q
    · rw [h1, h2]
      simp only [decide_true, Bool.and_self, if_true]
      exact wOp_some.mpr q
def scr (ns : List Int) : D := .lst (ns.map .int)
def twn : D := .ref 0
theorem small_of' {i : Int} (h1 : -1000000000000 ≤ i) (h2 : i ≤ 1000000000000) : small i = true := by
  unfold small
  rw [decide_eq_true (by omega), decide_eq_true (by omega)]
  rfl
end Py

set_option Elab.async false
set_option linter.all false
set_option maxRecDepth 100000
set_option autoImplicit false
set_option maxHeartbeats 8000000
namespace Py
open PySem PySem.Spec L2
def ib__law_town : ISs := (.cons (.ret (.bin .add (.lst (.cons (.cst (.int 0)) .nil)) (.bi .list (.cons (.var 0) .nil)))) .nil)
noncomputable def fn__law_town : DFn := ⟨"_law_town", 1, true, callD (gam []) [] true 1 ib__law_town⟩
def ib__law_draw : ISs := (.cons (.asg (.sub (.var 1) (.cst (.int 0))) (.bin .add (.ix (.var 1) (.cst (.int 0))) (.cst (.int 1)))) (.cons (.ite (.cmp .eq (.var 0) (.lst .nil)) (.cons (.ret (.bin .mod (.bin .fdiv (.bin .mul (.bin .mul (.ix (.var 1) (.cst (.int 0))) (.ix (.var 1) (.cst (.int 0)))) (.cst (.int 7))) (.cst (.int 3))) (.var 2))) .nil) .nil) (.cons (.asg (.nm 3) (.bin .mod (.ix (.var 1) (.cst (.int 0))) (.bi .len (.cons (.var 0) .nil)))) (.cons (.asg (.nm 4) (.ix (.var 1) (.bin .add (.cst (.int 1)) (.var 3)))) (.cons (.ite (.and (.cmp .ge (.ix (.var 0) (.var 3)) (.bin .pow (.cst (.int 10)) (.cst (.int 18)))) (.cmp .gt (.var 4) (.cst (.int 0)))) (.cons (.asg (.sub (.var 1) (.bin .add (.cst (.int 1)) (.var 3))) (.bin .fdiv (.var 4) (.var 2))) (.cons (.ret (.bin .mod (.var 4) (.var 2))) .nil)) .nil) (.cons (.asg (.nm 5) (.bin .mod (.bin .add (.ix (.var 0) (.var 3)) (.bin .mul (.cst (.int 104729)) (.ix (.var 1) (.cst (.int 0))))) (.cst (.int 4294967291)))) (.cons (.asg (.nm 5) (.bin .mod (.bin .pow (.var 5) (.cst (.int 5))) (.cst (.int 4294967279)))) (.cons (.ret (.bin .mod (.bin .fdiv (.bin .mod (.bin .add (.bin .mul (.bin .fdiv (.var 5) (.cst (.int 64))) (.cst (.int 69621))) (.var 5)) (.cst (.int 4294967231))) (.cst (.int 8))) (.var 2))) .nil))))))))
noncomputable def fn__law_draw : DFn := ⟨"_law_draw", 3, false, callD (gam []) [] false 6 ib__law_draw⟩
def ib__law_pick_67d : ISs := (.cons (.ret (.ix (.var 2) (.call 0 (.cons (.var 0) (.cons (.var 1) (.cons (.bi .len (.cons (.var 2) .nil)) .nil)))))) .nil)
noncomputable def fn__law_pick_67d : DFn := ⟨"_law_pick", 3, false, callD (gam [fn__law_draw]) [] false 3 ib__law_pick_67d⟩
def ib__law_sized_d77 : ISs := (.cons (.asg (.nm 5) (.al (.lst .nil))) (.cons (.for_ (.nm 6) (.rng1 (.var 2)) (.cons (.ex (.mth .append (.var 5) (.cons (.mth .join (.cst (.str [])) (.cons (.lc [7] (.nm 7) (.rng1 (.var 3)) (.cst (.bl true)) (.call 0 (.cons (.var 0) (.cons (.var 1) (.cons (.bi .list (.cons (.var 4) .nil)) .nil))))) .nil)) .nil))) .nil)) (.cons (.ret (.bi .tuple (.cons (.var 5) .nil))) .nil)))
noncomputable def fn__law_sized_d77 : DFn := ⟨"_law_sized", 5, false, callD (gam [fn__law_pick_67d]) [] false 8 ib__law_sized_d77⟩
def ib__law_box_ea4 : ISs := (.cons (.par [5, 6] (.cons (.bin .add (.cst (.int 1)) (.call 1 (.cons (.var 0) (.cons (.var 1) (.cons (.var 2) .nil))))) (.cons (.bin .add (.cst (.int 1)) (.call 1 (.cons (.var 0) (.cons (.var 1) (.cons (.var 3) .nil))))) .nil))) (.cons (.ret (.call 0 (.cons (.var 0) (.cons (.var 1) (.cons (.var 5) (.cons (.var 6) (.cons (.var 4) .nil))))))) .nil))
noncomputable def fn__law_box_ea4 : DFn := ⟨"_law_box", 5, false, callD (gam [fn__law_sized_d77, fn__law_draw]) [] false 7 ib__law_box_ea4⟩
def ib__law_doors_c01 : ISs := (.cons (.ret (.bi .lrange1 (.cons (.bin .mul (.cst (.int 2)) (.bin .add (.bi .len (.cons (.var 0) .nil)) (.bi .len (.cons (.ix (.var 0) (.cst (.int 0))) .nil)))) .nil))) .nil)
noncomputable def fn__law_doors_c01 : DFn := ⟨"_law_doors", 1, false, callD (gam []) [] false 1 ib__law_doors_c01⟩
def ib_is_box : ISs := (.cons (.ite (.or (.not (.isi (.var 0) .tuple)) (.not (.chn .le .le (.cst (.int 1)) (.bi .len (.cons (.var 0) .nil)) (.cst (.int 5))))) (.cons (.ret (.cst (.bl false))) .nil) .nil) (.cons (.ite (.or (.not (.bi .all (.cons (.lc [1] (.nm 1) (.seq (.var 0)) (.cst (.bl true)) (.isi (.var 1) .str)) .nil))) (.not (.chn .le .le (.cst (.int 1)) (.bi .len (.cons (.ix (.var 0) (.cst (.int 0))) .nil)) (.cst (.int 5))))) (.cons (.ret (.cst (.bl false))) .nil) .nil) (.cons (.ite (.not (.bi .all (.cons (.lc [1] (.nm 1) (.seq (.var 0)) (.cst (.bl true)) (.cmp .eq (.bi .len (.cons (.var 1) .nil)) (.bi .len (.cons (.ix (.var 0) (.cst (.int 0))) .nil)))) .nil))) (.cons (.ret (.cst (.bl false))) .nil) .nil) (.cons (.ret (.bi .all (.cons (.lc2 [1, 2] (.nm 1) (.seq (.var 0)) [2] (.nm 2) (.seq (.var 1)) (.cst (.bl true)) (.cmp .isin (.var 2) (.glb 0))) .nil))) .nil))))
noncomputable def fn_is_box : DFn := ⟨"is_box", 1, false, callD (gam []) [(.str [46, 114, 102, 35, 82, 70])] false 3 ib_is_box⟩
def ib_check_box : ISs := (.cons (.ite (.not (.call 0 (.cons (.var 0) .nil))) (.cons .rse .nil) .nil) .nil)
noncomputable def fn_check_box : DFn := ⟨"check_box", 1, false, callD (gam [fn_is_box]) [] false 1 ib_check_box⟩
def ib_doors_of : ISs := (.cons (.ret (.bin .mul (.cst (.int 2)) (.bin .add (.var 0) (.var 1)))) .nil)
noncomputable def fn_doors_of : DFn := ⟨"doors_of", 2, false, callD (gam []) [] false 2 ib_doors_of⟩
def ib_is_between : ISs := (.cons (.ret (.and (.isi (.var 0) .int) (.and (.not (.isi (.var 0) .bool)) (.chn .le .le (.var 1) (.var 0) (.var 2))))) .nil)
noncomputable def fn_is_between : DFn := ⟨"is_between", 3, false, callD (gam []) [] false 3 ib_is_between⟩
def ib_check_door : ISs := (.cons (.ite (.not (.call 0 (.cons (.var 1) (.cons (.cst (.int 0)) (.cons (.bin .sub (.call 1 (.cons (.bi .len (.cons (.var 0) .nil)) (.cons (.bi .len (.cons (.ix (.var 0) (.cst (.int 0))) .nil)) .nil))) (.cst (.int 1))) .nil))))) (.cons .rse .nil) .nil) .nil)
noncomputable def fn_check_door : DFn := ⟨"check_door", 2, false, callD (gam [fn_is_between, fn_doors_of]) [] false 2 ib_check_door⟩
def ib_begin : ISs := (.cons (.ite (.cmp .lt (.var 2) (.var 1)) (.cons (.ret (.tup (.cons (.cst (.int 0)) (.cons (.var 2) (.cons (.cst (.int 2)) .nil))))) .nil) .nil) (.cons (.ite (.cmp .lt (.var 2) (.bin .add (.var 1) (.var 0))) (.cons (.ret (.tup (.cons (.bin .sub (.var 2) (.var 1)) (.cons (.bin .sub (.var 1) (.cst (.int 1))) (.cons (.cst (.int 3)) .nil))))) .nil) .nil) (.cons (.ite (.cmp .lt (.var 2) (.bin .add (.bin .mul (.cst (.int 2)) (.var 1)) (.var 0))) (.cons (.ret (.tup (.cons (.bin .sub (.var 0) (.cst (.int 1))) (.cons (.bin .sub (.bin .sub (.bin .add (.bin .mul (.cst (.int 2)) (.var 1)) (.var 0)) (.cst (.int 1))) (.var 2)) (.cons (.cst (.int 0)) .nil))))) .nil) .nil) (.cons (.ret (.tup (.cons (.bin .sub (.bin .sub (.bin .add (.bin .mul (.cst (.int 2)) (.var 1)) (.bin .mul (.cst (.int 2)) (.var 0))) (.cst (.int 1))) (.var 2)) (.cons (.cst (.int 0)) (.cons (.cst (.int 1)) .nil))))) .nil))))
noncomputable def fn_begin : DFn := ⟨"begin", 3, false, callD (gam []) [] false 3 ib_begin⟩
def ib_beyond : ISs := (.cons (.ite (.and (.cmp .eq (.var 4) (.cst (.int 0))) (.cmp .eq (.var 2) (.cst (.int 0)))) (.cons (.ret (.var 3)) .nil) .nil) (.cons (.ite (.and (.cmp .eq (.var 4) (.cst (.int 1))) (.cmp .eq (.var 3) (.bin .sub (.var 1) (.cst (.int 1))))) (.cons (.ret (.bin .add (.var 1) (.var 2))) .nil) .nil) (.cons (.ite (.and (.cmp .eq (.var 4) (.cst (.int 2))) (.cmp .eq (.var 2) (.bin .sub (.var 0) (.cst (.int 1))))) (.cons (.ret (.bin .sub (.bin .sub (.bin .add (.bin .mul (.cst (.int 2)) (.var 1)) (.var 0)) (.cst (.int 1))) (.var 3))) .nil) .nil) (.cons (.ite (.and (.cmp .eq (.var 4) (.cst (.int 3))) (.cmp .eq (.var 3) (.cst (.int 0)))) (.cons (.ret (.bin .sub (.bin .sub (.bin .add (.bin .mul (.cst (.int 2)) (.var 1)) (.bin .mul (.cst (.int 2)) (.var 0))) (.cst (.int 1))) (.var 2))) .nil) .nil) (.cons (.ret (.cst .non)) .nil)))))
noncomputable def fn_beyond : DFn := ⟨"beyond", 5, false, callD (gam []) [] false 5 ib_beyond⟩
def ib_with_sign : ISs := (.cons (.asg (.nm 4) (.bin .add (.bin .add (.sl (.ix (.var 0) (.var 1)) .none (.some (.var 2))) (.var 3)) (.sl (.ix (.var 0) (.var 1)) (.some (.bin .add (.var 2) (.cst (.int 1)))) .none))) (.cons (.ret (.bin .add (.bin .add (.sl (.var 0) .none (.some (.var 1))) (.tup (.cons (.var 4) .nil))) (.sl (.var 0) (.some (.bin .add (.var 1) (.cst (.int 1)))) .none))) .nil))
noncomputable def fn_with_sign : DFn := ⟨"with_sign", 4, false, callD (gam []) [] false 5 ib_with_sign⟩
def ib__law_with_539 : ISs := (.cons (.asg (.nm 4) (.bin .add (.bin .add (.sl (.ix (.var 0) (.var 1)) .none (.some (.var 2))) (.var 3)) (.sl (.ix (.var 0) (.var 1)) (.some (.bin .add (.var 2) (.cst (.int 1)))) .none))) (.cons (.ret (.bin .add (.bin .add (.sl (.var 0) .none (.some (.var 1))) (.tup (.cons (.var 4) .nil))) (.sl (.var 0) (.some (.bin .add (.var 1) (.cst (.int 1)))) .none))) .nil))
noncomputable def fn__law_with_539 : DFn := ⟨"_law_with", 4, false, callD (gam []) [] false 5 ib__law_with_539⟩
end Py

set_option Elab.async false
set_option linter.all false
set_option maxRecDepth 100000
set_option autoImplicit false
set_option maxHeartbeats 2000000
namespace Py
open PySem PySem.Spec L2
theorem ok_is_between {v lo hi : Int} {st : DSt} {Q : D → DSt → Prop} (h : Q (.bl (decide (lo ≤ v ∧ v ≤ hi))) st) : wF fn_is_between.F [.int v, .int lo, .int hi] st Q := by
  unfold fn_is_between ib_is_between
  simp only [EV, reduceCtorEq, Nat.reduceAdd, Nat.reduceSub, if_true, if_false, ite_true, ite_false]
  split
  · rename_i h1
    rw [decide_eq_true_eq] at h1
    simpa [h1] using h
  · rename_i h1
    rw [decide_eq_true_eq] at h1
    simpa [h1] using h
theorem town_set {c : Int} {t : List Int} {i : Nat} {x : Int} : (D.int c :: t.map D.int).set (i + 1) (.int x) = .int c :: (t.set i x).map .int := by
  rw [List.set_cons_succ, List.map_set]
theorem eqvs_ints_nil {ns : List Int} : D.eqvs (ns.map D.int) [] = decide (ns = []) := by
  cases ns with
  | nil => simp [D.eqvs]
  | cons a r => simp [D.eqvs]
theorem cmp_nil {ns : List Int} : cmpD .eq (.lst (ns.map .int)) (.lst []) = some (decide (ns = [])) := by
  rw [c_eq, ok_ints, ok_lst oks_nil, Bool.and_true, if_pos rfl, eqv_lst, eqvs_ints_nil]
theorem fm {a m : Int} (h : 0 < m) : 0 ≤ a.fmod m ∧ a.fmod m < m := ⟨Int.fmod_nonneg_of_pos a h, Int.fmod_lt_of_pos a h⟩
theorem ok_draw {B : Int} {ns : List Int} {l : Int} {r st : DSt} {Q : D → DSt → Prop} (T : TW (B + 1) ns.length r st) (hn : ns.length ≤ 63) (hB : 0 ≤ B) (l1 : 1 ≤ l) (l2 : l ≤ 1000000) (h : ∀ x st', 0 ≤ x → x < l → TW B ns.length r st' → Q (.int x) st') :
    wF fn__law_draw.F [scr ns, twn, .int l] st Q := by
  obtain ⟨c, t, rfl, ht, hc, hcB⟩ := T
  have hs : small (c + 1) = true := small_of' (by omega) (by omega)
  have hl0 : decide (l ≠ 0) = true := decide_eq_true (by omega)
  have hl1 : decide (l.natAbs < 1073741824) = true := decide_eq_true (by omega)
  have h18 : (decide ((0 : Int) ≤ 18) && decide ((18 : Int) ≤ 1000000) && decide (Int.natAbs 10 < 2 ^ 64)) = true := by decide
  have fl : ∀ a : Int, 0 ≤ a.fmod l ∧ a.fmod l < l := fun a => fm (by omega)
  have hT : TW B ns.length r (.lst (.int (c + 1) :: t.map .int) :: r) := ⟨c + 1, t, rfl, ht, by omega, by omega⟩
  unfold fn__law_draw ib__law_draw scr twn
  simp only [EV, reduceCtorEq, Nat.reduceAdd, Nat.reduceSub, if_true, if_false, ite_true, ite_false]
  refine ⟨rfl, ?_⟩
  rw [cmp_nil, wOp_some]
  by_cases hnil : ns = []
  · rw [if_pos (decide_eq_true hnil)]
    refine ⟨by rw [hs]; rfl, by rw [show small 7 = true from rfl, Bool.or_true], by decide, hl0, ?_⟩
    exact (wfin_same (by rfl)).mpr (h _ _ (fl _).1 (fl _).2 hT)
  · rw [if_neg (by simpa using hnil)]
    have hpos : 0 < ns.length := by
      cases ns with
      | nil => exact absurd rfl hnil
      | cons _ _ => simp
    rw [List.length_map]
    refine ⟨decide_eq_true (by omega), ?_⟩
    obtain ⟨m1, m2⟩ := fm (a := c + 1) (m := (ns.length : Int)) (by omega)
    obtain ⟨k, hk⟩ : ∃ k : Nat, (c + 1).fmod (ns.length : Int) = k := ⟨_, (Int.toNat_of_nonneg m1).symm⟩
    rw [hk] at m2 ⊢
    have hkn : k < ns.length := by omega
    have hkt : k < t.length := by omega
    have e1 : atI (D.int (c + 1) :: t.map D.int) (1 + (k : Int)) = some (.int t[k]) := by
      rw [show (1 + (k : Int)) = ((k + 1 : Nat) : Int) by omega, atI_nat', List.getElem?_cons_succ, List.getElem?_map, List.getElem?_eq_getElem hkt]
      rfl
    have e2 : atI (ns.map D.int) (k : Int) = some (.int ns[k]) := by
      rw [atI_nat', List.getElem?_map, List.getElem?_eq_getElem hkn]
      rfl
    have e3 : ixN ((t.map D.int).length + 1) (1 + (k : Int)) = some (k + 1) := by
      rw [ixN_pos (by omega) (by rw [List.length_map]; omega)]
      congr 1
      omega
    simp only [e1, e2, e3, EV, reduceCtorEq, Nat.reduceAdd, Nat.reduceSub, if_true, if_false, ite_true, ite_false, h18, hl0, hl1, hs, Bool.or_true, Bool.true_or, Bool.and_self, town_set]
    have fin1 : ∀ x : Int, wfin false (O.lst (D.int c :: t.map D.int) :: r) (D.int (x.fmod l)) (O.lst (D.int (c + 1) :: t.map D.int) :: r) Q := fun x => (wfin_same (by rfl)).mpr (h _ _ (fl _).1 (fl _).2 hT)
    have pw : ∀ x : Int, (decide ((0 : Int) ≤ 5) && decide ((5 : Int) ≤ 1000000) && decide ((x.fmod 4294967291).natAbs < 2 ^ 64)) = true := fun x => by
      obtain ⟨q1, q2⟩ := fm (a := x) (m := 4294967291) (by omega)
      rw [Bool.and_eq_true]
      exact ⟨by decide, decide_eq_true (by omega)⟩
    have sm : ∀ x : Int, (small x || small 69621) = true := fun x => by
      rw [show small 69621 = true by decide, Bool.or_true]
    split
    · split
      · rw [← List.map_set]
        exact (wfin_same (by rfl)).mpr (h _ _ (fl _).1 (fl _).2 ⟨c + 1, _, rfl, by rw [List.length_set]; exact ht, by omega, by omega⟩)
      · exact ⟨by decide, pw _, by decide, by decide, sm _, by decide, by decide, fin1 _⟩
    · exact ⟨by decide, pw _, by decide, by decide, sm _, by decide, by decide, fin1 _⟩
theorem ok_pick_l {B : Int} {ns : List Int} {xs : List D} {r st : DSt} {Q : D → DSt → Prop} (T : TW (B + 1) ns.length r st) (hn : ns.length ≤ 63) (hB : 0 ≤ B) (l1 : 1 ≤ xs.length) (l2 : xs.length ≤ 1000000) (h : ∀ x ∈ xs, ∀ st', TW B ns.length r st' → Q x st') :
    wF fn__law_pick_67d.F [scr ns, twn, .lst xs] st Q := by
  unfold fn__law_pick_67d ib__law_pick_67d
  simp only [EV, reduceCtorEq, Nat.reduceAdd, Nat.reduceSub, if_true, if_false, ite_true, ite_false]
  refine ok_draw T hn hB (by omega) (by omega) fun i st' i0 i1 T' => ?_
  obtain ⟨k, rfl⟩ : ∃ k : Nat, i = k := ⟨_, (Int.toNat_of_nonneg i0).symm⟩
  have hk : k < xs.length := by omega
  simp only [EV, reduceCtorEq, Nat.reduceAdd, Nat.reduceSub, if_true, if_false, ite_true, ite_false]
  rw [atI_nat', List.getElem?_eq_getElem hk, wOp_some]
  exact (wfin_same (by rw [T'.len, T.len])).mpr (h _ (List.getElem_mem hk) _ T')
theorem ok_town {ns : List Int} {st : DSt} {Q : D → DSt → Prop} (hn : ns.length ≤ 63) (h : Q (.lst (.int 0 :: ns.map .int)) st) : wF fn__law_town.F [scr ns] st Q := by
  unfold fn__law_town ib__law_town scr
  simp only [EV, reduceCtorEq, Nat.reduceAdd, Nat.reduceSub, if_true, if_false, ite_true, ite_false]
  refine ⟨rfl, sz_of (by simp; omega), ?_⟩
  exact h
/-! ### boxes -/
abbrev Bx := List (List Nat)
def bx (b : Bx) : D := .tup (b.map .str)
def SGN : List Nat := [46, 114, 102, 35, 82, 70]
structure OkB (b : Bx) (h w : Nat) : Prop where
  hh : b.length = h
  hw : ∀ r ∈ b, r.length = w
  hs : ∀ r ∈ b, ∀ c ∈ r, c ∈ SGN
  h1 : 1 ≤ h
  h5 : h ≤ 5
  w1 : 1 ≤ w
  w5 : w ≤ 5
theorem pure_bx {b : Bx} : D.pure (bx b) = true := by
  unfold bx
  rw [D.pure, pures_strs]
theorem flat1 : ∀ l : List Nat, (l.map fun c => [c]).flatten = l
  | [] => rfl
  | a :: l => by
    rw [List.map_cons, List.flatten_cons, flat1 l]
    rfl
theorem ok_sized {B : Int} {ns : List Int} {h w : Nat} {sg : List Nat} {r st : DSt} {Q : D → DSt → Prop} (T : TW (B + h * w) ns.length r st) (hr : r.all O.pure = true) (hn : ns.length ≤ 63) (hB : 0 ≤ B) (h1 : h ≤ 1000) (w1 : w ≤ 1000) (s1 : 1 ≤ sg.length) (s2 : sg.length ≤ 1000)
    (q : ∀ (b : Bx) st', b.length = h → (∀ r ∈ b, r.length = w ∧ ∀ c ∈ r, c ∈ sg) → TW B ns.length r st' → Q (bx b) st') : wF fn__law_sized_d77.F [scr ns, twn, .int h, .int w, .str sg] st Q := by
  have hx : (h : Int) * w ≤ 1000000 := by
    have := Nat.mul_le_mul h1 w1
    omega
  unfold fn__law_sized_d77 ib__law_sized_d77
  simp only [EV, reduceCtorEq, Nat.reduceAdd, Nat.reduceSub, if_true, if_false, ite_true, ite_false]
  refine ⟨rfl, rngOk_of (by omega) (by omega) (by omega) (by omega), ?_⟩
  rw [rangeL_0]
  refine for_inv (fun i env s => ∃ (x6 : Option D) (b : Bx) (s0 : DSt), env = [some (scr ns), some twn, some (.int h), some (.int w), some (.str sg), some (.ref st.length), x6, none] ∧ s = s0 ++ [.lst (b.map .str)] ∧ b.length = i ∧ (∀ r ∈ b, r.length = w ∧ ∀ c ∈ r, c ∈ sg) ∧ TW (B + (h - i) * w) ns.length r s0)
    ⟨none, [], st, rfl, rfl, rfl, fun _ h => by simp at h, by simpa using T⟩ (fun i x env s hx hI => ?_) fun env s hI => ?_
  · obtain ⟨x6, b, s0, rfl, rfl, hb, hr', T'⟩ := hI
    have hl0 : s0.length = st.length := by rw [T'.len, T.len]
    have hi : i < h := by
      have := (List.getElem?_eq_some_iff.mp hx).1
      simpa using this
    have e0 : (h : Int) - i = ((h - i : Nat) : Int) := by omega
    simp only [EV, reduceCtorEq, Nat.reduceAdd, Nat.reduceSub, if_true, if_false, ite_true, ite_false]
    rw [view_end hl0, wOp_some]
    simp only [EV, reduceCtorEq, Nat.reduceAdd, Nat.reduceSub, if_true, if_false, ite_true, ite_false]
    refine ⟨rngOk_of (by omega) (by omega) (by omega) (by omega), ?_⟩
    rw [rangeL_0]
    refine itm_inv (fun j acc s => ∃ (row : List Nat) (s1 : DSt), acc = row.map (fun c => .str [c]) ∧ s = s1 ++ [.lst (b.map .str)] ∧ row.length = j ∧ (∀ c ∈ row, c ∈ sg) ∧ TW (B + (h - i - 1) * w + (w - j)) ns.length r s1)
      ⟨[], s0, rfl, rfl, rfl, fun _ h => by simp at h, T'.mono (by rw [Int.sub_mul _ 1, Int.one_mul]; omega)⟩ (fun j y acc s hy hJ => ?_) fun ds s hJ => ?_
    · obtain ⟨row, s1, rfl, rfl, hj, hr2, T2⟩ := hJ
      have hj' : j < w := by
        have := (List.getElem?_eq_some_iff.mp hy).1
        simpa using this
      have T3 := (T2.mono (B' := B + (h - i - 1) * w + (w - (j + 1 : Nat)) + 1) (by omega)).add (o := .lst (b.map .str))
      have hge : 0 ≤ ((h : Int) - i - 1) * w := Int.mul_nonneg (by omega) (by omega)
      unfold itm
      simp only [EV, reduceCtorEq, Nat.reduceAdd, Nat.reduceSub, if_true, if_false, ite_true, ite_false]
      refine ⟨sz_of (by omega), ok_pick_l T3 hn (by omega) (by rw [List.length_map]; omega) (by rw [List.length_map]; omega) fun d hd st' T4 => ?_⟩
      obtain ⟨s3, rfl, T5⟩ := T4.un
      obtain ⟨c, hc, rfl⟩ := List.mem_map.mp hd
      exact ⟨row ++ [c], by simp, s3, rfl, by simp [hj], fun c' hc' => by
        rcases List.mem_append.mp hc' with q | q
        · exact hr2 c' q
        · rw [List.mem_singleton.mp q]
          exact hc, T5⟩
    · obtain ⟨row, s1, rfl, rfl, hj, hr2, T2⟩ := hJ
      rw [List.length_map, List.length_range] at hj T2
      have hl1 : s1.length = st.length := by rw [T2.len, T.len]
      refine ⟨sz_of (by rw [List.length_map]; omega), ?_⟩
      rw [show (row.map fun c => D.str [c]) = (row.map fun c => [c]).map D.str by rw [List.map_map]; rfl, strsL_map]
      simp only [EV, reduceCtorEq, Nat.reduceAdd, Nat.reduceSub, if_true, if_false, ite_true, ite_false]
      rw [joinS_nil, flat1]
      refine ⟨by rw [sz_of (by omega), sz_of (by simp; omega)]; rfl, ?_⟩
      rw [app_end hl1 (by rw [List.length_map]; omega), wOp_some]
      refine ⟨some x, rfl, b ++ [row], s1, by simp, by simp [hb], fun r' hr3 => ?_, T2.mono (by rw [show ((h : Int) - (i + 1 : Nat)) = h - i - 1 by omega]; omega)⟩
      rcases List.mem_append.mp hr3 with q | q
      · exact hr' r' q
      · rw [List.mem_singleton.mp q]
        exact ⟨hj, hr2⟩
  · obtain ⟨x6, b, s0, rfl, rfl, hb, hr', T'⟩ := hI
    rw [List.length_map, List.length_range] at hb T'
    have hl0 : s0.length = st.length := by rw [T'.len, T.len]
    simp only [EV, reduceCtorEq, Nat.reduceAdd, Nat.reduceSub, if_true, if_false, ite_true, ite_false]
    rw [view_end hl0, wOp_some]
    simp only [EV, reduceCtorEq, Nat.reduceAdd, Nat.reduceSub, if_true, if_false, ite_true, ite_false]
    have T2 : TW B ns.length r s0 := T'.mono (by simp)
    exact wfin_cut pure_bx hl0 (T2.pure hr) (q b s0 hb hr' T2)
end Py

set_option Elab.async false
set_option linter.all false
set_option maxRecDepth 100000
set_option autoImplicit false
set_option maxHeartbeats 2000000
namespace Py
open PySem PySem.Spec L2
theorem OkB.ne {b : Bx} {h w : Nat} (k : OkB b h w) : b ≠ [] := fun e => by
  have := k.hh
  have := k.h1
  subst e
  simp at this
  omega
theorem OkB.row {b : Bx} {h w : Nat} (k : OkB b h w) {i : Nat} (hi : i < h) : ∃ r, b[i]? = some r ∧ r.length = w ∧ r ∈ b := by
  have hl : i < b.length := by rw [k.hh]; exact hi
  exact ⟨b[i], List.getElem?_eq_getElem hl, k.hw _ (List.getElem_mem hl), List.getElem_mem hl⟩
theorem get_str {b : Bx} {i : Nat} {r : List Nat} (h : b[i]? = some r) : (b.map D.str)[i]? = some (.str r) := by
  rw [List.getElem?_map, h]
  rfl
theorem ok_is_box {b : Bx} {h w : Nat} {st : DSt} {Q : D → DSt → Prop} (k : OkB b h w) (q : Q (.bl true) st) : wF fn_is_box.F [bx b] st Q := by
  obtain ⟨r0, h0, l0, m0⟩ := k.row (i := 0) (by have := k.h1; omega)
  have e0 := get_str h0
  have := k.hh; have := k.h1; have := k.h5; have := k.w1; have := k.w5
  unfold fn_is_box ib_is_box bx
  simp only [EV, reduceCtorEq, Nat.reduceAdd, Nat.reduceSub, if_true, if_false, ite_true, ite_false]
  rw [List.length_map]
  simp only [decide_eq_true (show (1 : Int) ≤ b.length by omega), decide_eq_true (show (b.length : Int) ≤ 5 by omega), EV, if_true, Bool.false_eq_true, if_false]
  refine wL_mapT _ (fun _ => .bl true) (fun r hr R hR => ?_) ?_
  · unfold itm
    simp only [EV, reduceCtorEq, Nat.reduceAdd, Nat.reduceSub, if_true, if_false, ite_true, ite_false]
    exact hR
  refine ⟨sz_of (by rw [List.length_map]; omega), ?_⟩
  rw [all_map, wOp_some]
  rw [show (b.all fun _ => true) = true by simp]
  simp only [e0, EV, if_true, Bool.false_eq_true, if_false, decide_eq_true (show (1 : Int) ≤ r0.length by omega), decide_eq_true (show (r0.length : Int) ≤ 5 by omega)]
  refine ⟨sz_of (by omega), wL_mapT _ (fun r => .bl (decide ((r.length : Int) = r0.length))) (fun r hr R hR => ?_) ?_⟩
  · have := k.hw r hr
    unfold itm
    simp only [e0, EV, if_true]
    exact ⟨sz_of (by omega), sz_of (by omega), hR⟩
  refine ⟨sz_of (by rw [List.length_map]; omega), ?_⟩
  rw [all_map, wOp_some, show (b.all fun r => decide ((r.length : Int) = r0.length)) = true by rw [List.all_eq_true]; intro r hr; rw [k.hw r hr, l0]; simp]
  simp only [EV, if_true, Bool.false_eq_true, if_false]
  refine wL_flatT _ (fun r => r.map fun c => .bl (decide (c ∈ [46, 114, 102, 35, 82, 70]))) (fun r hr R hR => ?_) ?_
  · have := k.hw r hr
    unfold itm2
    simp only [EV, reduceCtorEq, Nat.reduceAdd, Nat.reduceSub, if_true, if_false, ite_true, ite_false]
    refine ⟨sz_of (by omega), wL_mapT _ _ (fun c hc R hR => ?_) hR⟩
    unfold itm
    simp only [EV, reduceCtorEq, Nat.reduceAdd, Nat.reduceSub, if_true, if_false, ite_true, ite_false]
    exact hR
  have hfl : (b.flatMap fun r => r.map fun c => D.bl (decide (c ∈ [46, 114, 102, 35, 82, 70]))) = b.flatten.map fun c => D.bl (decide (c ∈ [46, 114, 102, 35, 82, 70])) := by
    rw [List.map_flatten, List.flatMap_def]
  rw [hfl]
  have hlen : b.flatten.length ≤ 25 := by
    have : ∀ l : Bx, (∀ r ∈ l, r.length = w) → l.flatten.length = l.length * w := fun l => by
      induction l with
      | nil => intro _; simp
      | cons a l ih =>
        intro hl
        rw [List.flatten_cons, List.length_append, ih fun r hr => hl r (by simp [hr]), hl a (by simp), List.length_cons, Nat.succ_mul]
        omega
    rw [this b k.hw, k.hh]
    exact Nat.mul_le_mul k.h5 k.w5
  refine ⟨sz_of (by rw [List.length_map]; omega), ?_⟩
  rw [all_map, wOp_some, show (b.flatten.all fun c => decide (c ∈ [46, 114, 102, 35, 82, 70])) = true by
    rw [List.all_eq_true]
    intro c hc
    obtain ⟨r, hr, hc⟩ := List.mem_flatten.mp hc
    exact decide_eq_true (k.hs r hr c hc)]
  simp only [EV, reduceCtorEq, Nat.reduceAdd, Nat.reduceSub, if_true, if_false, ite_true, ite_false]
  exact q
theorem ok_check_box {b : Bx} {h w : Nat} {st : DSt} {Q : D → DSt → Prop} (k : OkB b h w) (q : Q .non st) : wF fn_check_box.F [bx b] st Q := by
  unfold fn_check_box ib_check_box
  simp only [EV, reduceCtorEq, Nat.reduceAdd, Nat.reduceSub, if_true, if_false, ite_true, ite_false]
  refine ok_is_box k ?_
  simp only [EV, reduceCtorEq, Nat.reduceAdd, Nat.reduceSub, if_true, if_false, ite_true, ite_false]
  exact q
theorem ok_doors_of {h w : Int} {st : DSt} {Q : D → DSt → Prop} (q : Q (.int (2 * (h + w))) st) : wF fn_doors_of.F [.int h, .int w] st Q := by
  unfold fn_doors_of ib_doors_of
  simp only [EV, reduceCtorEq, Nat.reduceAdd, Nat.reduceSub, if_true, if_false, ite_true, ite_false]
  exact ⟨rfl, q⟩
theorem bx_len0 {b : Bx} {h w : Nat} (k : OkB b h w) : ∃ r0 : List Nat, (b.map D.str)[0]? = some (.str r0) ∧ r0.length = w := by
  obtain ⟨r0, h0, l0, m0⟩ := k.row (i := 0) (by have := k.h1; omega)
  exact ⟨r0, get_str h0, l0⟩
theorem ok_check_door {b : Bx} {h w : Nat} {d : Int} {st : DSt} {Q : D → DSt → Prop} (k : OkB b h w) (d0 : 0 ≤ d) (d1 : d < 2 * (h + w)) (q : Q .non st) : wF fn_check_door.F [bx b, .int d] st Q := by
  obtain ⟨r0, e0, l0⟩ := bx_len0 k
  have := k.hh; have := k.w5
  unfold fn_check_door ib_check_door bx
  simp only [EV, reduceCtorEq, Nat.reduceAdd, Nat.reduceSub, if_true, if_false, ite_true, ite_false]
  rw [List.length_map]
  simp only [e0, EV]
  refine ⟨sz_of (by omega), ok_doors_of ?_⟩
  simp only [EV, reduceCtorEq, Nat.reduceAdd, Nat.reduceSub, if_true, if_false, ite_true, ite_false]
  refine ok_is_between ?_
  rw [decide_eq_true (by omega)]
  simp only [EV, reduceCtorEq, Nat.reduceAdd, Nat.reduceSub, if_true, if_false, ite_true, ite_false]
  exact q
/-- where light from a door comes in -/
def beginI (h w d : Int) : Int × Int × Int := if d < w then (0, d, 2) else if d < w + h then (d - w, w - 1, 3) else if d < 2 * w + h then (h - 1, 2 * w + h - 1 - d, 0) else (2 * w + 2 * h - 1 - d, 0, 1)
def tri (p : Int × Int × Int) : D := .tup [.int p.1, .int p.2.1, .int p.2.2]
theorem ok_begin {h w d : Int} {st : DSt} {Q : D → DSt → Prop} (q : Q (tri (beginI h w d)) st) : wF fn_begin.F [.int h, .int w, .int d] st Q := by
  unfold fn_begin ib_begin
  simp only [EV, reduceCtorEq, Nat.reduceAdd, Nat.reduceSub, if_true, if_false, ite_true, ite_false]
  unfold beginI tri at q
  simp only [decide_eq_true_eq]
  split
  · rename_i c1
    simp only [c1, if_true] at q
    exact ⟨rfl, q⟩
  · rename_i c1
    simp only [c1, if_false] at q
    split
    · rename_i c2
      simp only [c2, if_true] at q
      exact ⟨rfl, q⟩
    · rename_i c2
      simp only [c2, if_false] at q
      split
      · rename_i c3
        simp only [c3, if_true] at q
        exact ⟨rfl, rfl, rfl, q⟩
      · rename_i c3
        simp only [c3, if_false] at q
        exact ⟨rfl, rfl, rfl, rfl, q⟩
def beyondI (h w r c d : Int) : Option Int := if d = 0 ∧ r = 0 then some c else if d = 1 ∧ c = w - 1 then some (w + r) else if d = 2 ∧ r = h - 1 then some (2 * w + h - 1 - c) else if d = 3 ∧ c = 0 then some (2 * w + 2 * h - 1 - r) else none
def oI : Option Int → D
  | some i => .int i
  | none => .non
theorem ok_beyond {h w r c d : Int} {st : DSt} {Q : D → DSt → Prop} (q : Q (oI (beyondI h w r c d)) st) : wF fn_beyond.F [.int h, .int w, .int r, .int c, .int d] st Q := by
  have s2 : ∀ x : Int, (small 2 || small x) = true := fun _ => rfl
  unfold fn_beyond ib_beyond
  simp only [EV, reduceCtorEq, Nat.reduceAdd, Nat.reduceSub, if_true, if_false, ite_true, ite_false]
  simp only [decide_eq_true_eq, s2, true_and]
  unfold beyondI at q
  by_cases a1 : d = 0
  · subst a1
    by_cases a2 : r = 0
    · simpa [a2, oI] using q
    · simpa [a2, oI] using q
  · by_cases b1 : d = 1
    · subst b1
      by_cases a2 : c = w - 1
      · simpa [a2, oI] using q
      · simpa [a2, oI] using q
    · by_cases c1 : d = 2
      · subst c1
        by_cases a2 : r = h - 1
        · simpa [a2, oI] using q
        · simpa [a2, oI] using q
      · by_cases d1 : d = 3
        · subst d1
          by_cases a2 : c = 0
          · simpa [a2, oI] using q
          · simpa [a2, oI] using q
        · simpa [a1, b1, c1, d1, oI] using q
end Py

set_option Elab.async false
set_option linter.all false
set_option maxRecDepth 100000
set_option autoImplicit false
set_option maxHeartbeats 2000000
namespace Py
open PySem PySem.Spec L2
theorem cut_to {α : Type} {xs : List α} {i : Nat} : cut xs none (some (i : Int)) = xs.take i := by
  unfold cut
  rw [HT.sIx_none, HT.sIx_nat, List.drop_zero, Nat.sub_zero]
  by_cases h : i ≤ xs.length
  · rw [Nat.min_eq_left h]
  · rw [Nat.min_eq_right (by omega), List.take_of_length_le (Nat.le_refl _), List.take_of_length_le (by omega)]
theorem cut_from {α : Type} {xs : List α} {i : Nat} : cut xs (some (i : Int)) none = xs.drop i := by
  unfold cut
  rw [HT.sIx_none, HT.sIx_nat]
  by_cases h : i ≤ xs.length
  · rw [Nat.min_eq_left h, List.take_of_length_le (by rw [List.length_drop]; omega)]
  · rw [Nat.min_eq_right (by omega), List.drop_of_length_le (Nat.le_refl _), List.drop_of_length_le (by omega)]
    simp
theorem cut_from1 {α : Type} {xs : List α} {i : Nat} : cut xs (some ((i : Int) + 1)) none = xs.drop (i + 1) := cut_from (i := i + 1)
/-- with one sign put in -/
def setB (b : Bx) (i j c : Nat) : Bx := b.set i ((b.getD i []).set j c)
theorem with_line {r : List Nat} {j c : Nat} (h : j < r.length) : (r.take j ++ [c]) ++ r.drop (j + 1) = r.set j c := by
  rw [List.append_assoc, List.set_eq_take_append_cons_drop, if_pos h]
  rfl
theorem with_rows {b : Bx} {i : Nat} {l : List Nat} (h : i < b.length) : ((b.map D.str).take i ++ [.str l]) ++ (b.map D.str).drop (i + 1) = (b.set i l).map D.str := by
  have e : (b.set i l).map D.str = (b.map D.str).set i (.str l) := by rw [List.map_set]
  rw [e, List.append_assoc, List.set_eq_take_append_cons_drop, if_pos (by rw [List.length_map]; exact h)]
  rfl
theorem OkB.set {b : Bx} {h w : Nat} (k : OkB b h w) {i j c : Nat} (hi : i < h) (hc : c ∈ SGN) : OkB (setB b i j c) h w := by
  obtain ⟨r, hr, lr, mr⟩ := k.row hi
  have e : b.getD i [] = r := by
    rw [List.getD_eq_getElem?_getD, hr]
    rfl
  unfold setB
  rw [e]
  refine ⟨by rw [List.length_set]; exact k.hh, fun x hx => ?_, fun x hx c' hc' => ?_, k.h1, k.h5, k.w1, k.w5⟩
  · rcases List.mem_or_eq_of_mem_set hx with q | rfl
    · exact k.hw x q
    · rw [List.length_set]
      exact lr
  · rcases List.mem_or_eq_of_mem_set hx with q | rfl
    · exact k.hs x q c' hc'
    · rcases List.mem_or_eq_of_mem_set hc' with q | rfl
      · exact k.hs r mr c' q
      · exact hc
theorem get_at {b : Bx} {h w : Nat} (k : OkB b h w) {i j : Nat} (hi : i < h) (hj : j < w) : ∃ r c, b[i]? = some r ∧ r.length = w ∧ r[j]? = some c ∧ c ∈ SGN ∧ b.getD i [] = r := by
  obtain ⟨r, hr, lr, mr⟩ := k.row hi
  have hl : j < r.length := by omega
  exact ⟨r, r[j], hr, lr, List.getElem?_eq_getElem hl, k.hs r mr _ (List.getElem_mem hl), by rw [List.getD_eq_getElem?_getD, hr]; rfl⟩
theorem with_body {b : Bx} {h w i j c : Nat} {st : DSt} {Q : D → DSt → Prop} (k : OkB b h w) (hi : i < h) (hj : j < w) (q : Q (bx (setB b i j c)) st) {F : DFn}
    (hF : F.F = callD (gam []) [] false 5 ib_with_sign) : wF F.F [bx b, .int i, .int j, .str [c]] st Q := by
  obtain ⟨r, c0, hr, lr, hc, hcs, hd⟩ := get_at k hi hj
  have e0 := get_str hr
  have := k.hh; have := k.h5; have := k.w5
  rw [hF]
  unfold ib_with_sign bx
  simp only [EV, reduceCtorEq, Nat.reduceAdd, Nat.reduceSub, if_true, if_false, ite_true, ite_false]
  rw [atI_nat', e0]
  simp only [EV, reduceCtorEq, Nat.reduceAdd, Nat.reduceSub, if_true, if_false, ite_true, ite_false]
  refine ⟨sz_of (by omega), ?_⟩
  simp only [cut_to, cut_from1, wOp_if, wOp_some, EV]
  refine ⟨sz_of (by rw [List.length_take]; omega), sz_of (by omega), sz_of (by rw [List.length_append, List.length_take, List.length_drop]; simp; omega), rfl, sz_of (by rw [List.length_take, List.length_map]; omega), sz_of (by simp; omega), ?_⟩
  rw [with_line (by omega), with_rows (by omega)]
  unfold setB bx at q
  rw [hd] at q
  exact q
theorem ok_with_sign {b : Bx} {h w i j c : Nat} {st : DSt} {Q : D → DSt → Prop} (k : OkB b h w) (hi : i < h) (hj : j < w) (q : Q (bx (setB b i j c)) st) : wF fn_with_sign.F [bx b, .int i, .int j, .str [c]] st Q := with_body k hi hj q rfl
theorem ok_law_doors {b : Bx} {h w : Nat} {st : DSt} {Q : D → DSt → Prop} (k : OkB b h w) (q : Q (.lst ((List.range (2 * (h + w))).map fun (i : Nat) => .int (i : Int))) st) : wF fn__law_doors_c01.F [bx b] st Q := by
  obtain ⟨r0, e0, l0⟩ := bx_len0 k
  have := k.hh; have := k.w5; have := k.h5
  unfold fn__law_doors_c01 ib__law_doors_c01 bx
  simp only [EV, reduceCtorEq, Nat.reduceAdd, Nat.reduceSub, if_true, if_false, ite_true, ite_false]
  simp only [e0, EV]
  rw [List.length_map, k.hh, l0]
  refine ⟨sz_of (by omega), rfl, rngOk_of (by omega) (by omega) (by omega) (by omega), ?_⟩
  rw [show (2 * ((h : Int) + w)) = ((2 * (h + w) : Nat) : Int) by omega, rangeL_0]
  exact q
end Py

set_option Elab.async false
set_option linter.all false
set_option maxRecDepth 100000
set_option autoImplicit false
set_option maxHeartbeats 2000000
namespace Py
open PySem PySem.Spec L2
theorem all_lt {n : Nat} {p : Nat → Bool} (h : (List.range n).all p = true) {i : Nat} (hi : i < n) : p i = true := List.all_eq_true.mp h i (List.mem_range.mpr hi)
def moveR (r d : Int) : Int := if d = 0 then r - 1 else if d = 2 then r + 1 else r
def moveC (c d : Int) : Int := if d = 1 then c + 1 else if d = 3 then c - 1 else c
theorem tri_ok {p : Int × Int × Int} {n : Nat} : D.ok (n + 1) (tri p) = true := ok_tup (oks_cons ok_int (oks_cons ok_int (oks_cons ok_int oks_nil)))
theorem tri_eqv {p q : Int × Int × Int} : D.eqv (tri p) (tri q) = decide (p = q) := by
  unfold tri
  rw [eqv_tup, eqvs_cons, eqvs_cons, eqvs_cons, eqvs_nil, eqv_int, eqv_int, eqv_int, Bool.eq_iff_iff]
  obtain ⟨a, b, c⟩ := p
  obtain ⟨d, e, f⟩ := q
  simp
theorem bx_ok {b : Bx} {h w : Nat} (k : OkB b h w) {n : Nat} : D.ok (n + 1) (bx b) = true := ok_tup (oks_map fun r hr => ok_str fun c hc => by
  have := k.hs r hr c hc
  simp [SGN] at this
  omega)
theorem bx_eqv {a b : Bx} : D.eqv (bx a) (bx b) = decide (a = b) := by
  unfold bx
  rw [eqv_tup]
  exact eqvs_map fun _ _ => eqv_str
theorem view_tri {s : DSt} {p : Int × Int × Int} : view s (tri p) = some (tri p) := rfl
theorem view_oI {s : DSt} {p : Option Int} : view s (oI p) = some (oI p) := by cases p <;> rfl
theorem view_bx {s : DSt} {b : Bx} : view s (bx b) = some (bx b) := rfl
theorem ne_tri {p q : Int × Int × Int} : cmpD .ne (tri p) (tri q) = some (decide (p ≠ q)) := by
  rw [c_ne, tri_ok, tri_ok, tri_eqv, Bool.and_true, if_pos rfl]
  simp
end Py

set_option Elab.async false
set_option linter.all false
set_option maxRecDepth 100000
set_option autoImplicit false
set_option maxHeartbeats 2000000
namespace Py
open PySem PySem.Spec L2
/-! ### light in a box, plainly -/
abbrev Tri := Int × Int × Int
section
variable {α : Type}
/-- p is the way from s by f, to its end -/
def IsPath (f : α → Option α) (s : α) (p : List α) : Prop := p[0]? = some s ∧ ∀ (i : Nat) t, p[i]? = some t → p[i + 1]? = f t
def runP (f : α → Option α) : Nat → α → List α
  | 0, t => [t]
  | n + 1, t => t :: match f t with
    | none => []
    | some u => runP f n u
def itr (f : α → Option α) : Nat → α → Option α
  | 0, t => some t
  | n + 1, t => (f t).bind (itr f n)
theorem runP_get {f : α → Option α} : ∀ (n : Nat) (t : α) (i : Nat), i ≤ n → (runP f n t)[i]? = itr f i t
  | 0, t, i, h => by
    have : i = 0 := by omega
    subst this
    rfl
  | n + 1, t, 0, h => rfl
  | n + 1, t, i + 1, h => by
    rw [runP, List.getElem?_cons_succ, itr]
    cases f t with
    | none => rfl
    | some u => exact runP_get n u i (by omega)
theorem runP_len {f : α → Option α} : ∀ (n : Nat) (t : α), (runP f n t).length ≤ n + 1
  | 0, t => Nat.le_refl _
  | n + 1, t => by
    rw [runP, List.length_cons]
    cases f t with
    | none => simp
    | some u => have := runP_len (f := f) n u; simp only; omega
theorem itr_s {f : α → Option α} : ∀ (i : Nat) (t : α), itr f (i + 1) t = (itr f i t).bind f
  | 0, t => by
    show (f t).bind (itr f 0) = f t
    cases f t <;> rfl
  | i + 1, t => by
    show (f t).bind (itr f (i + 1)) = ((f t).bind (itr f i)).bind f
    cases f t with
    | none => rfl
    | some u => exact itr_s i u
theorem path_run {f : α → Option α} {s : α} {n : Nat} (h : itr f n s = none) : IsPath f s (runP f n s) := by
  refine ⟨by rw [runP_get _ _ _ (Nat.zero_le _)]; rfl, fun i t hi => ?_⟩
  by_cases hn : i + 1 ≤ n
  · rw [runP_get _ _ _ hn, itr_s]
    rw [runP_get _ _ _ (by omega)] at hi
    rw [hi]
    rfl
  · have hl := (List.getElem?_eq_some_iff.mp hi).1
    have := runP_len (f := f) n s
    have e : i = n := by omega
    subst e
    rw [runP_get _ _ _ (Nat.le_refl _), h] at hi
    cases hi
theorem IsPath.uniq {f : α → Option α} {s : α} {p q : List α} (h : IsPath f s p) (k : IsPath f s q) : p = q := by
  apply List.ext_getElem?
  intro i
  induction i with
  | zero => rw [h.1, k.1]
  | succ i ih =>
    cases e : p[i]? with
    | none =>
      have e2 : q[i]? = none := by rw [← ih, e]
      rw [List.getElem?_eq_none (by have := List.getElem?_eq_none_iff.mp e; omega), List.getElem?_eq_none (by have := List.getElem?_eq_none_iff.mp e2; omega)]
    | some t => rw [h.2 i t e, k.2 i t (by rw [← ih, e])]
theorem nodup_le [DecidableEq α] : ∀ {l m : List α}, l.Nodup → (∀ x ∈ l, x ∈ m) → l.length ≤ m.length
  | [], m, _, _ => Nat.zero_le _
  | a :: l, m, hn, hs => by
    rw [List.nodup_cons] at hn
    have ha : a ∈ m := hs a (by simp)
    have := nodup_le (l := l) (m := m.erase a) hn.2 fun x hx => by
      have : x ≠ a := fun e => hn.1 (e ▸ hx)
      exact (List.mem_erase_of_ne this).mpr (hs x (by simp [hx]))
    rw [List.length_erase_of_mem ha] at this
    have : 0 < m.length := List.length_pos_of_mem ha
    rw [List.length_cons]
    omega
theorem itr_add {f : α → Option α} : ∀ (i j : Nat) (t : α), itr f (i + j) t = (itr f i t).bind (itr f j)
  | 0, j, t => by rw [Nat.zero_add]; rfl
  | i + 1, j, t => by
    rw [show i + 1 + j = i + j + 1 by omega]
    show (f t).bind (itr f (i + j)) = ((f t).bind (itr f i)).bind (itr f j)
    cases f t with
    | none => rfl
    | some u => exact itr_add i j u
theorem itr_inj {f : α → Option α} (hf : ∀ a b c, f a = some c → f b = some c → a = b) : ∀ (i : Nat) (a b c : α), itr f i a = some c → itr f i b = some c → a = b
  | 0, a, b, c, h1, h2 => by
    cases h1
    cases h2
    rfl
  | i + 1, a, b, c, h1, h2 => by
    rw [itr_s] at h1 h2
    cases e1 : itr f i a with
    | none => rw [e1] at h1; cases h1
    | some x =>
      cases e2 : itr f i b with
      | none => rw [e2] at h2; cases h2
      | some y =>
        rw [e1] at h1
        rw [e2] at h2
        have := hf x y c h1 h2
        subst this
        exact itr_inj hf i a b x e1 e2
/-- from a start without a forerunner nothing comes twice -/
theorem itr_new {f : α → Option α} (hf : ∀ a b c, f a = some c → f b = some c → a = b) {s : α} (hs : ∀ a, f a ≠ some s) : ∀ (i j : Nat) (c : α), itr f i s = some c → itr f j s = some c → i = j := by
  have key : ∀ (i k : Nat) (c : α), itr f i s = some c → itr f (i + (k + 1)) s = some c → False := fun i k c h1 h2 => by
    rw [Nat.add_comm, itr_add] at h2
    cases e : itr f (k + 1) s with
    | none => rw [e] at h2; cases h2
    | some x =>
      rw [e] at h2
      have := itr_inj hf i x s c h2 h1
      subst this
      rw [itr_s] at e
      cases e2 : itr f k x with
      | none => rw [e2] at e; cases e
      | some y =>
        rw [e2] at e
        exact hs y e
  intro i j c h1 h2
  rcases Nat.lt_trichotomy i j with h | h | h
  · exact (key i (j - i - 1) c h1 (by rw [show i + (j - i - 1 + 1) = j by omega]; exact h2)).elim
  · exact h
  · exact (key j (i - j - 1) c h2 (by rw [show j + (i - j - 1 + 1) = i by omega]; exact h1)).elim
theorem itr_none {f : α → Option α} {i : Nat} {s : α} (h : itr f i s = none) : ∀ k, itr f (i + k) s = none := fun k => by
  rw [itr_add, h]
  rfl
/-- it ends -/
theorem itr_end [DecidableEq α] {f : α → Option α} (hf : ∀ a b c, f a = some c → f b = some c → a = b) {s : α} (hs : ∀ a, f a ≠ some s) {m : List α} (hm : ∀ (i : Nat) c, itr f i s = some c → c ∈ m) : itr f m.length s = none := by
  cases e : itr f m.length s with
  | none => rfl
  | some z =>
    exfalso
    have all : ∀ i, i ≤ m.length → ∃ c, itr f i s = some c := fun i hi => by
      cases q : itr f i s with
      | some c => exact ⟨c, rfl⟩
      | none =>
        have := itr_none q (m.length - i)
        rw [show i + (m.length - i) = m.length by omega, e] at this
        cases this
    have nd : ((List.range (m.length + 1)).map fun i => (itr f i s).getD s).Nodup := by
      rw [List.Nodup, List.pairwise_map]
      refine List.Pairwise.imp_of_mem ?_ List.nodup_range
      intro i j hi hj hne h
      rw [List.mem_range] at hi hj
      obtain ⟨c, hc⟩ := all i (by omega)
      obtain ⟨d, hd⟩ := all j (by omega)
      rw [hc, hd] at h
      have h : c = d := h
      subst h
      exact hne (itr_new hf hs i j c hc hd)
    have := nodup_le nd fun x hx => by
      obtain ⟨i, hi, rfl⟩ := List.mem_map.mp hx
      rw [List.mem_range] at hi
      obtain ⟨c, hc⟩ := all i (by omega)
      rw [hc]
      exact hm i c hc
    rw [List.length_map, List.length_range] at this
    omega
end
end Py

set_option Elab.async false
set_option linter.all false
set_option maxRecDepth 100000
set_option autoImplicit false
set_option maxHeartbeats 4000000
namespace Py
open PySem PySem.Spec L2
def sgn (b : Bx) (t : Tri) : Nat := (b.getD t.1.toNat []).getD t.2.1.toNat 46
def turnI (s : Nat) (d : Int) : Int := if s = 114 then (if d = 0 then 1 else if d = 1 then 0 else if d = 2 then 3 else if d = 3 then 2 else d) else if s = 102 then (if d = 0 then 3 else if d = 1 then 2 else if d = 2 then 1 else if d = 3 then 0 else d) else d
def oppI (d : Int) : Int := if d = 0 then 2 else if d = 1 then 3 else if d = 2 then 0 else if d = 3 then 1 else d
def Ins (h w : Int) (t : Tri) : Prop := 0 ≤ t.1 ∧ t.1 < h ∧ 0 ≤ t.2.1 ∧ t.2.1 < w ∧ 0 ≤ t.2.2 ∧ t.2.2 ≤ 3
instance {h w : Int} {t : Tri} : Decidable (Ins h w t) := by unfold Ins; infer_instance
def dirT (b : Bx) (t : Tri) : Int := turnI (sgn b t) t.2.2
def goT (t : Tri) (d : Int) : Tri := (moveR t.1 d, moveC t.2.1 d, d)
def outT (b : Bx) (h w : Int) (t : Tri) : Option Int := if sgn b t = 35 then none else beyondI h w t.1 t.2.1 (dirT b t)
def stp (b : Bx) (h w : Int) (t : Tri) : Option Tri := if Ins h w t ∧ sgn b t ≠ 35 ∧ beyondI h w t.1 t.2.1 (dirT b t) = none then some (goT t (dirT b t)) else none
theorem dir_cases {d : Int} (h0 : 0 ≤ d) (h3 : d ≤ 3) : d = 0 ∨ d = 1 ∨ d = 2 ∨ d = 3 := by omega
theorem turn_rg {s : Nat} {d : Int} (h0 : 0 ≤ d) (h3 : d ≤ 3) : 0 ≤ turnI s d ∧ turnI s d ≤ 3 := by
  unfold turnI
  rcases dir_cases h0 h3 with rfl | rfl | rfl | rfl <;> (split <;> (try split) <;> simp)
theorem opp_rg {d : Int} (h0 : 0 ≤ d) (h3 : d ≤ 3) : 0 ≤ oppI d ∧ oppI d ≤ 3 := by
  unfold oppI
  rcases dir_cases h0 h3 with rfl | rfl | rfl | rfl <;> simp
theorem turn_turn {s : Nat} {d : Int} (h0 : 0 ≤ d) (h3 : d ≤ 3) : turnI s (turnI s d) = d := by
  unfold turnI
  by_cases a : s = 114
  · simp only [a, if_true]
    rcases dir_cases h0 h3 with rfl | rfl | rfl | rfl <;> simp
  · by_cases b : s = 102
    · simp only [b, if_true]
      rcases dir_cases h0 h3 with rfl | rfl | rfl | rfl <;> simp
    · simp [a, b]
theorem turn_opp {s : Nat} {d : Int} (h0 : 0 ≤ d) (h3 : d ≤ 3) : turnI s (oppI (turnI s d)) = oppI d := by
  unfold turnI oppI
  by_cases a : s = 114
  · simp only [a, if_true]
    rcases dir_cases h0 h3 with rfl | rfl | rfl | rfl <;> simp
  · by_cases b : s = 102
    · simp only [b, if_true]
      rcases dir_cases h0 h3 with rfl | rfl | rfl | rfl <;> simp
    · simp [a, b]
theorem opp_opp {d : Int} (h0 : 0 ≤ d) (h3 : d ≤ 3) : oppI (oppI d) = d := by
  unfold oppI
  rcases dir_cases h0 h3 with rfl | rfl | rfl | rfl <;> simp
theorem beyond_none {h w r c d : Int} (hr : 0 ≤ r ∧ r < h) (hc : 0 ≤ c ∧ c < w) (h0 : 0 ≤ d) (h3 : d ≤ 3) : beyondI h w r c d = none ↔ (0 ≤ moveR r d ∧ moveR r d < h ∧ 0 ≤ moveC c d ∧ moveC c d < w) := by
  unfold beyondI moveR moveC
  rcases dir_cases h0 h3 with rfl | rfl | rfl | rfl
  · by_cases e : r = 0
    · simp [e]
    · simp [e]
      omega
  · by_cases e : c = w - 1
    · simp [e]
    · simp [e]
      omega
  · by_cases e : r = h - 1
    · simp [e]
    · simp [e]
      omega
  · by_cases e : c = 0
    · simp [e]
    · simp [e]
      omega
section
variable {b : Bx} {h w : Int}
theorem stp_some {t u : Tri} (e : stp b h w t = some u) : Ins h w t ∧ sgn b t ≠ 35 ∧ beyondI h w t.1 t.2.1 (dirT b t) = none ∧ u = goT t (dirT b t) := by
  unfold stp at e
  split at e
  · rename_i c
    exact ⟨c.1, c.2.1, c.2.2, (Option.some.inj e).symm⟩
  · cases e
theorem stp_of {t : Tri} (h1 : Ins h w t) (h2 : sgn b t ≠ 35) (h3 : beyondI h w t.1 t.2.1 (dirT b t) = none) : stp b h w t = some (goT t (dirT b t)) := by
  unfold stp
  rw [if_pos ⟨h1, h2, h3⟩]
theorem dirT_rg {t : Tri} (i : Ins h w t) : 0 ≤ dirT b t ∧ dirT b t ≤ 3 := turn_rg i.2.2.2.2.1 i.2.2.2.2.2
theorem stp_ins {t u : Tri} (e : stp b h w t = some u) : Ins h w u := by
  obtain ⟨i, _, n, rfl⟩ := stp_some e
  obtain ⟨d0, d3⟩ := dirT_rg (b := b) i
  obtain ⟨q1, q2, q3, q4⟩ := (beyond_none ⟨i.1, i.2.1⟩ ⟨i.2.2.1, i.2.2.2.1⟩ d0 d3).mp n
  exact ⟨q1, q2, q3, q4, d0, d3⟩
theorem move_inj {r r' d : Int} (e : moveR r d = moveR r' d) : r = r' := by
  unfold moveR at e
  split at e
  · omega
  · split at e <;> omega
theorem moveC_inj {r r' d : Int} (e : moveC r d = moveC r' d) : r = r' := by
  unfold moveC at e
  split at e
  · omega
  · split at e <;> omega
theorem stp_inj (a a' c : Tri) (e : stp b h w a = some c) (e' : stp b h w a' = some c) : a = a' := by
  obtain ⟨i, _, _, q⟩ := stp_some e
  obtain ⟨i', _, _, q'⟩ := stp_some e'
  have z := q.symm.trans q'
  unfold goT at z
  injection z with z1 z2
  injection z2 with z2 z3
  rw [z3] at z1 z2
  have e1 := move_inj z1
  have e2 := moveC_inj z2
  obtain ⟨r, c, d⟩ := a
  obtain ⟨r', c', d'⟩ := a'
  simp only at e1 e2
  subst e1 e2
  have e3 : turnI (sgn b (r, c, d)) d = turnI (sgn b (r, c, d)) d' := z3
  have e4 := congrArg (turnI (sgn b (r, c, d))) e3
  rw [turn_turn i.2.2.2.2.1 i.2.2.2.2.2, turn_turn i'.2.2.2.2.1 i'.2.2.2.2.2] at e4
  have e4 : d = d' := e4
  rw [e4]
theorem begin_new {d : Int} (hd : 0 ≤ d) (a : Tri) : stp b h w a ≠ some (beginI h w d) := fun e => by
  have i2 := stp_ins e
  obtain ⟨i, _, _, q⟩ := stp_some e
  obtain ⟨q1, q2, q3, q4, q5, q6⟩ := i
  unfold goT beginI at q
  split at q
  · injection q with z1 z2
    injection z2 with z2 z3
    rw [← z3] at z1
    simp [moveR] at z1
    omega
  · split at q
    · injection q with z1 z2
      injection z2 with z2 z3
      rw [← z3] at z2
      simp [moveC] at z2
      omega
    · split at q
      · injection q with z1 z2
        injection z2 with z2 z3
        rw [← z3] at z1
        simp [moveR] at z1
        omega
      · injection q with z1 z2
        injection z2 with z2 z3
        rw [← z3] at z2
        simp [moveC] at z2
        omega
theorem begin_ins {d : Int} (h1 : 1 ≤ h) (w1 : 1 ≤ w) (d0 : 0 ≤ d) (d1 : d < 2 * (h + w)) : Ins h w (beginI h w d) := by
  unfold beginI Ins
  split
  · simp only; omega
  · split
    · simp only; omega
    · split
      · simp only; omega
      · simp only; omega
end
/-- all triples -/
def allT (h w : Nat) : List Tri := (List.range h).flatMap fun (r : Nat) => (List.range w).flatMap fun (c : Nat) => (List.range 4).map fun (d : Nat) => ((r : Int), (c : Int), (d : Int))
theorem allT_mem {h w : Nat} {t : Tri} (i : Ins h w t) : t ∈ allT h w := by
  obtain ⟨r, c, d⟩ := t
  obtain ⟨h1, h2, h3, h4, h5, h6⟩ := i
  simp only at h1 h2 h3 h4 h5 h6
  unfold allT
  rw [List.mem_flatMap]
  refine ⟨r.toNat, List.mem_range.mpr (by omega), ?_⟩
  rw [List.mem_flatMap]
  refine ⟨c.toNat, List.mem_range.mpr (by omega), ?_⟩
  rw [List.mem_map]
  exact ⟨d.toNat, List.mem_range.mpr (by omega), by rw [Int.toNat_of_nonneg h1, Int.toNat_of_nonneg h3, Int.toNat_of_nonneg h5]⟩
end Py

set_option Elab.async false
set_option linter.all false
set_option maxRecDepth 100000
set_option autoImplicit false
set_option maxHeartbeats 8000000
namespace Py
open PySem PySem.Spec L2
def ib_has_signs : ISs := (.cons (.ret (.bi .any (.cons (.lc2 [2, 3] (.nm 2) (.seq (.var 0)) [3] (.nm 3) (.seq (.var 2)) (.cst (.bl true)) (.cmp .isin (.var 3) (.var 1))) .nil))) .nil)
noncomputable def fn_has_signs : DFn := ⟨"has_signs", 2, false, callD (gam []) [] false 4 ib_has_signs⟩
def ib_check_plain : ISs := (.cons (.ex (.call 0 (.cons (.var 0) .nil))) (.cons (.ite (.call 1 (.cons (.var 0) (.cons (.cst (.str [82, 70])) .nil))) (.cons .rse .nil) .nil) .nil))
noncomputable def fn_check_plain : DFn := ⟨"check_plain", 1, false, callD (gam [fn_check_box, fn_has_signs]) [] false 1 ib_check_plain⟩
def ib_turn_at : ISs := (.cons (.ite (.cmp .eq (.var 0) (.cst (.str [114]))) (.cons (.ret (.ix (.tup (.cons (.cst (.int 1)) (.cons (.cst (.int 0)) (.cons (.cst (.int 3)) (.cons (.cst (.int 2)) .nil))))) (.var 1))) .nil) .nil) (.cons (.ret (.ite (.cmp .eq (.var 0) (.cst (.str [102]))) (.ix (.tup (.cons (.cst (.int 3)) (.cons (.cst (.int 2)) (.cons (.cst (.int 1)) (.cons (.cst (.int 0)) .nil))))) (.var 1)) (.var 1))) .nil))
noncomputable def fn_turn_at : DFn := ⟨"turn_at", 2, false, callD (gam []) [] false 2 ib_turn_at⟩
def ib_next_triple : ISs := (.cons (.asg (.tp (.cons (.nm 1) (.cons (.nm 2) .nil))) (.ix (.glb 0) (.ix (.var 0) (.cst (.int 2))))) (.cons (.ret (.tup (.cons (.bin .add (.ix (.var 0) (.cst (.int 0))) (.var 1)) (.cons (.bin .add (.ix (.var 0) (.cst (.int 1))) (.var 2)) (.cons (.ix (.var 0) (.cst (.int 2))) .nil))))) .nil))
noncomputable def fn_next_triple : DFn := ⟨"next_triple", 1, false, callD (gam []) [(.tup [(.tup [(.int (-1)), (.int 0)]), (.tup [(.int 0), (.int 1)]), (.tup [(.int 1), (.int 0)]), (.tup [(.int 0), (.int (-1))])])] false 3 ib_next_triple⟩
end Py

set_option Elab.async false
set_option linter.all false
set_option maxRecDepth 100000
set_option autoImplicit false
set_option maxHeartbeats 4000000
namespace Py
open PySem PySem.Spec L2
/-- no splitters -/
def PlainB (b : Bx) : Prop := ∀ r ∈ b, ∀ c ∈ r, c ≠ 82 ∧ c ≠ 70
theorem flat_le {b : Bx} {h w : Nat} (k : OkB b h w) : b.flatten.length ≤ 25 := by
  have : ∀ l : Bx, (∀ r ∈ l, r.length = w) → l.flatten.length = l.length * w := fun l => by
    induction l with
    | nil => intro _; simp
    | cons a l ih =>
      intro hl
      rw [List.flatten_cons, List.length_append, ih fun r hr => hl r (by simp [hr]), hl a (by simp), List.length_cons, Nat.succ_mul]
      omega
  rw [this b k.hw, k.hh]
  exact Nat.mul_le_mul k.h5 k.w5
theorem ok_has_signs {b : Bx} {h w : Nat} {z : List Nat} {st : DSt} {Q : D → DSt → Prop} (k : OkB b h w) (q : Q (.bl (b.flatten.any fun c => decide (c ∈ z))) st) : wF fn_has_signs.F [bx b, .str z] st Q := by
  have := k.hh; have := k.h5; have := k.w5
  unfold fn_has_signs ib_has_signs bx
  simp only [EV, reduceCtorEq, Nat.reduceAdd, Nat.reduceSub, if_true, if_false, ite_true, ite_false]
  refine wL_flatT _ (fun r => r.map fun c => .bl (decide (c ∈ z))) (fun r hr R hR => ?_) ?_
  · have := k.hw r hr
    unfold itm2
    simp only [EV, reduceCtorEq, Nat.reduceAdd, Nat.reduceSub, if_true, if_false, ite_true, ite_false]
    refine ⟨sz_of (by omega), wL_mapT _ _ (fun c hc R hR => ?_) hR⟩
    unfold itm
    simp only [EV, reduceCtorEq, Nat.reduceAdd, Nat.reduceSub, if_true, if_false, ite_true, ite_false]
    exact hR
  have hfl : (b.flatMap fun r => r.map fun c => D.bl (decide (c ∈ z))) = b.flatten.map fun c => D.bl (decide (c ∈ z)) := by
    rw [List.map_flatten, List.flatMap_def]
  rw [hfl]
  have := flat_le k
  refine ⟨sz_of (by rw [List.length_map]; omega), ?_⟩
  rw [any_map, wOp_some]
  simp only [EV, reduceCtorEq, Nat.reduceAdd, Nat.reduceSub, if_true, if_false, ite_true, ite_false]
  exact q
theorem ok_check_plain {b : Bx} {h w : Nat} {st : DSt} {Q : D → DSt → Prop} (k : OkB b h w) (p : PlainB b) (q : Q .non st) : wF fn_check_plain.F [bx b] st Q := by
  unfold fn_check_plain ib_check_plain
  simp only [EV, reduceCtorEq, Nat.reduceAdd, Nat.reduceSub, if_true, if_false, ite_true, ite_false]
  refine ok_check_box k ?_
  try simp only [EV, reduceCtorEq, Nat.reduceAdd, Nat.reduceSub, if_true, if_false, ite_true, ite_false]
  refine ok_has_signs k ?_
  have : (b.flatten.any fun c => decide (c ∈ [82, 70])) = false := by
    rw [List.any_eq_false]
    intro c hc
    obtain ⟨r, hr, hc⟩ := List.mem_flatten.mp hc
    have := p r hr c hc
    simp [this]
  rw [this]
  try simp only [EV, reduceCtorEq, Nat.reduceAdd, Nat.reduceSub, if_true, if_false, ite_true, ite_false]
  exact q
theorem eq_str1 {a b : Nat} (ha : a < 55296) (hb : b < 55296) : cmpD .eq (.str [a]) (.str [b]) = some (decide (a = b)) := by
  rw [c_eq, ok_str (by simpa using ha), ok_str (by simpa using hb), Bool.and_true, if_pos rfl, eqv_str]
  simp
theorem ok_turn_at {s : Nat} {d : Int} {st : DSt} {Q : D → DSt → Prop} (hs : s < 55296) (d0 : 0 ≤ d) (d3 : d ≤ 3) (q : Q (.int (turnI s d)) st) : wF fn_turn_at.F [.str [s], .int d] st Q := by
  unfold fn_turn_at ib_turn_at
  simp only [EV, reduceCtorEq, Nat.reduceAdd, Nat.reduceSub, if_true, if_false, ite_true, ite_false]
  rw [eq_str1 hs (by omega), eq_str1 hs (by omega)]
  simp only [EV, reduceCtorEq, Nat.reduceAdd, Nat.reduceSub, if_true, if_false, ite_true, ite_false]
  unfold turnI at q
  by_cases a : s = 114
  · simp only [a, decide_true, if_true] at q ⊢
    refine ⟨rfl, ?_⟩
    rcases dir_cases d0 d3 with rfl | rfl | rfl | rfl <;> exact wOp_some.mpr q
  · simp only [a, decide_false, if_false, Bool.false_eq_true] at q ⊢
    by_cases b : s = 102
    · simp only [b, decide_true, if_true] at q ⊢
      refine ⟨rfl, ?_⟩
      rcases dir_cases d0 d3 with rfl | rfl | rfl | rfl <;> exact wOp_some.mpr q
    · simp only [b, decide_false, if_false, Bool.false_eq_true] at q ⊢
      exact q
theorem ok_next {t : Tri} {st : DSt} {Q : D → DSt → Prop} (d0 : 0 ≤ t.2.2) (d3 : t.2.2 ≤ 3) (q : Q (tri (goT t t.2.2)) st) : wF fn_next_triple.F [tri t] st Q := by
  obtain ⟨r, c, d⟩ := t
  simp only at d0 d3 q
  unfold fn_next_triple ib_next_triple tri
  simp only [EV, reduceCtorEq, Nat.reduceAdd, Nat.reduceSub, if_true, if_false, ite_true, ite_false]
  unfold goT tri moveR moveC at q
  rcases dir_cases d0 d3 with rfl | rfl | rfl | rfl
  · rw [show (atI [D.tup [D.int (-1), D.int 0], D.tup [D.int 0, D.int 1], D.tup [D.int 1, D.int 0], D.tup [D.int 0, D.int (-1)]] 0) = some (D.tup [D.int (-1), D.int 0]) from rfl]
    simp only [EV, reduceCtorEq, Nat.reduceAdd, Nat.reduceSub, if_true, if_false, ite_true, ite_false]
    refine ⟨rfl, ?_⟩
    simpa [Int.sub_eq_add_neg] using q
  · rw [show (atI [D.tup [D.int (-1), D.int 0], D.tup [D.int 0, D.int 1], D.tup [D.int 1, D.int 0], D.tup [D.int 0, D.int (-1)]] 1) = some (D.tup [D.int 0, D.int 1]) from rfl]
    simp only [EV, reduceCtorEq, Nat.reduceAdd, Nat.reduceSub, if_true, if_false, ite_true, ite_false]
    refine ⟨rfl, ?_⟩
    simpa [Int.sub_eq_add_neg] using q
  · rw [show (atI [D.tup [D.int (-1), D.int 0], D.tup [D.int 0, D.int 1], D.tup [D.int 1, D.int 0], D.tup [D.int 0, D.int (-1)]] 2) = some (D.tup [D.int 1, D.int 0]) from rfl]
    simp only [EV, reduceCtorEq, Nat.reduceAdd, Nat.reduceSub, if_true, if_false, ite_true, ite_false]
    refine ⟨rfl, ?_⟩
    simpa [Int.sub_eq_add_neg] using q
  · rw [show (atI [D.tup [D.int (-1), D.int 0], D.tup [D.int 0, D.int 1], D.tup [D.int 1, D.int 0], D.tup [D.int 0, D.int (-1)]] 3) = some (D.tup [D.int 0, D.int (-1)]) from rfl]
    simp only [EV, reduceCtorEq, Nat.reduceAdd, Nat.reduceSub, if_true, if_false, ite_true, ite_false]
    refine ⟨rfl, ?_⟩
    simpa [Int.sub_eq_add_neg] using q
/-- the sign where a triple stands -/
theorem sgn_at {b : Bx} {h w : Nat} (k : OkB b h w) {t : Tri} (i : Ins h w t) : ∃ r : List Nat, atI (b.map D.str) t.1 = some (.str r) ∧ r.length = w ∧ atI r t.2.1 = some (sgn b t) ∧ sgn b t ∈ SGN := by
  obtain ⟨r, c, d⟩ := t
  obtain ⟨h1, h2, h3, h4, h5, h6⟩ := i
  simp only at h1 h2 h3 h4
  obtain ⟨row, s, hr, lr, hs, hm, hd⟩ := get_at k (i := r.toNat) (j := c.toNat) (by omega) (by omega)
  refine ⟨row, by rw [atI_pos h1]; exact get_str hr, lr, ?_, ?_⟩
  · rw [atI_pos h3]
    unfold sgn
    simp only
    rw [hd, List.getD_eq_getElem?_getD, hs]
    rfl
  · unfold sgn
    simp only
    rw [hd, List.getD_eq_getElem?_getD, hs]
    exact hm
theorem SGN_lt {c : Nat} (h : c ∈ SGN) : c < 55296 := by
  simp [SGN] at h
  omega
theorem wfin_ex {st ex : DSt} {d d' : D} {Q : D → DSt → Prop} (hx : ex ≠ []) (hf : frz st.length (st ++ ex) 6 d = some d') (q : Q d' st) : wfin false st d (st ++ ex) Q := by
  unfold wfin fin
  rw [if_neg (by rw [List.length_append]; have := List.length_pos_iff.mpr hx; omega), if_neg (by simp), hf, Option.bind_some, if_pos (by rw [List.take_left])]
  exact wOp_some.mpr q
theorem frz_p {n : Nat} {st : DSt} {f : Nat} {d : D} (h : D.pure d = true) : frz n st f d = some d := by
  cases f <;> cases d <;> (unfold frz; rw [if_pos h])
end Py

set_option Elab.async false
set_option linter.all false
set_option maxRecDepth 100000
set_option autoImplicit false
set_option maxHeartbeats 4000000
namespace Py
open PySem PySem.Spec L2
theorem beg_out {h w r c d o : Int} (hr : 0 ≤ r ∧ r < h) (hc : 0 ≤ c ∧ c < w) (d0 : 0 ≤ d) (d3 : d ≤ 3) (e : beyondI h w r c d = some o) : 0 ≤ o ∧ o < 2 * (h + w) ∧ beginI h w o = (r, c, oppI d) := by
  unfold beyondI at e
  unfold beginI oppI
  rcases dir_cases d0 d3 with rfl | rfl | rfl | rfl
  · simp at e
    obtain ⟨e1, e2⟩ := e
    subst e1 e2
    refine ⟨by omega, by omega, ?_⟩
    rw [if_pos (by omega)]
    simp
  · simp at e
    obtain ⟨e1, e2⟩ := e
    subst e1 e2
    refine ⟨by omega, by omega, ?_⟩
    rw [if_neg (by omega), if_pos (by omega)]
    simp
    omega
  · simp at e
    obtain ⟨e1, e2⟩ := e
    subst e1 e2
    refine ⟨by omega, by omega, ?_⟩
    rw [if_neg (by omega), if_neg (by omega), if_pos (by omega)]
    simp
    omega
  · simp at e
    obtain ⟨e1, e2⟩ := e
    subst e1 e2
    refine ⟨by omega, by omega, ?_⟩
    rw [if_neg (by omega), if_neg (by omega), if_neg (by omega)]
    simp
    omega
theorem begin_inj {h w a b : Int} (h1 : 1 ≤ h) (w1 : 1 ≤ w) (a0 : 0 ≤ a) (a1 : a < 2 * (h + w)) (b0 : 0 ≤ b) (b1 : b < 2 * (h + w)) (e : beginI h w a = beginI h w b) : a = b := by
  unfold beginI at e
  repeat' split at e
  all_goals (simp only [Prod.mk.injEq] at e; omega)
/-- where light is behind its way -/
structure OutOk (h w : Int) (o : Option Int) : Prop where
  rg : ∀ x, o = some x → 0 ≤ x ∧ x < 2 * (h + w)
theorem sgn_plain {b : Bx} {h w : Nat} (k : OkB b h w) (p : PlainB b) {t : Tri} (i : Ins h w t) : sgn b t ≠ 82 ∧ sgn b t ≠ 70 := by
  obtain ⟨r, c, d⟩ := t
  obtain ⟨h1, h2, h3, h4, h5, h6⟩ := i
  simp only at h1 h2 h3 h4
  obtain ⟨row, s, hr, lr, hs, hm, hd⟩ := get_at k (i := r.toNat) (j := c.toNat) (by omega) (by omega)
  have : sgn b (r, c, d) = s := by
    unfold sgn
    simp only
    rw [hd, List.getD_eq_getElem?_getD, hs]
    rfl
  rw [this]
  exact p row (List.mem_of_getElem? hr) s (List.mem_of_getElem? hs)
theorem move_back {r c d : Int} (d0 : 0 ≤ d) (d1 : d ≤ 3) : moveR (moveR r d) (oppI d) = r ∧ moveC (moveC c d) (oppI d) = c := by
  unfold moveR moveC oppI
  rcases dir_cases d0 d1 with rfl | rfl | rfl | rfl <;> simp
end Py

set_option Elab.async false
set_option linter.all false
set_option maxRecDepth 100000
set_option autoImplicit false
set_option maxHeartbeats 4000000
namespace Py
open PySem PySem.Spec L2
theorem sl2 {t : Tri} : cut [D.int t.1, D.int t.2.1, D.int t.2.2] none (some 2) = [.int t.1, .int t.2.1] := rfl
end Py

set_option Elab.async false
set_option linter.all false
set_option maxRecDepth 100000
set_option autoImplicit false
set_option maxHeartbeats 4000000
namespace Py
open PySem PySem.Spec L2
/-! ### light turned back -/
def revT (b : Bx) (t : Tri) : Tri := (t.1, t.2.1, oppI (dirT b t))
theorem sgn_cell {b : Bx} {t u : Tri} (h1 : t.1 = u.1) (h2 : t.2.1 = u.2.1) : sgn b t = sgn b u := by
  unfold sgn
  rw [h1, h2]
section
variable {b : Bx} {h w : Int}
theorem rev_ins {t : Tri} (i : Ins h w t) : Ins h w (revT b t) := by
  obtain ⟨o1, o2⟩ := opp_rg (dirT_rg (b := b) i).1 (dirT_rg (b := b) i).2
  exact ⟨i.1, i.2.1, i.2.2.1, i.2.2.2.1, o1, o2⟩
theorem dir_rev {t : Tri} (i : Ins h w t) : dirT b (revT b t) = oppI t.2.2 := by
  unfold dirT
  rw [sgn_cell (b := b) (t := revT b t) (u := t) rfl rfl]
  exact turn_opp i.2.2.2.2.1 i.2.2.2.2.2
end
end Py

set_option Elab.async false
set_option linter.all false
set_option maxRecDepth 100000
set_option autoImplicit false
set_option maxHeartbeats 4000000
namespace Py
open PySem PySem.Spec L2
mutual
theorem eqv_refl : ∀ (n : Nat) (d : D), D.ok n d = true → D.eqv d d = true
  | n, .non, h => by simp [D.eqv]
  | n, .bl b, h => by simp [D.eqv]
  | n, .int i, h => by simp [D.eqv]
  | n, .str x, h => by simp [D.eqv]
  | n, .tup xs, h => by
    rw [D.ok, Bool.and_eq_true] at h
    rw [D.eqv]
    exact eqvs_refl _ _ h.2
  | n, .lst xs, h => by
    rw [D.ok, Bool.and_eq_true] at h
    rw [D.eqv]
    exact eqvs_refl _ _ h.2
  | n, .dct _, h => by simp [D.ok] at h
  | n, .ref _, h => by simp [D.ok] at h
  | n, .fn _, h => by simp [D.ok] at h
theorem eqvs_refl : ∀ (n : Nat) (ds : List D), D.oks n ds = true → D.eqvs ds ds = true
  | n, [], h => by simp [D.eqvs]
  | n, x :: xs, h => by
    rw [D.oks, Bool.and_eq_true] at h
    rw [D.eqvs, eqv_refl n x h.1, eqvs_refl n xs h.2]
    rfl
end
theorem ne_self {x : D} (h : D.ok 60 x = true) : cmpD .ne x x = some false := by
  rw [c_ne, h, Bool.and_true, if_pos rfl, eqv_refl 60 x h]
  rfl
theorem oI_ok {n : Nat} {o : Option Int} : D.ok n (oI o) = true := by cases o <;> simp [oI, ok_int, ok_non]
end Py

set_option Elab.async false
set_option linter.all false
set_option maxRecDepth 100000
set_option autoImplicit false
set_option maxHeartbeats 8000000
namespace Py
open PySem PySem.Spec L2
def ib_check_turn : ISs := (.cons (.ite (.not (.call 0 (.cons (.var 0) (.cons (.cst (.int 0)) (.cons (.cst (.int 7)) .nil))))) (.cons .rse .nil) .nil) .nil)
noncomputable def fn_check_turn : DFn := ⟨"check_turn", 1, false, callD (gam [fn_is_between]) [] false 1 ib_check_turn⟩
def ib_exchanged : ISs := (.cons (.ret (.bi .tuple (.cons (.lc [1] (.nm 1) (.seq (.var 0)) (.cst (.bl true)) (.mth .join (.cst (.str [])) (.cons (.lc [2] (.nm 2) (.seq (.rev (.var 1))) (.cst (.bl true)) (.ix (.glb 0) (.var 2))) .nil))) .nil))) .nil)
noncomputable def fn_exchanged : DFn := ⟨"exchanged", 1, false, callD (gam []) [(.dct [((.str [46]), (.str [46])), ((.str [35]), (.str [35])), ((.str [114]), (.str [102])), ((.str [102]), (.str [114])), ((.str [82]), (.str [70])), ((.str [70]), (.str [82]))])] false 3 ib_exchanged⟩
def ib_quarter : ISs := (.cons (.asg (.nm 1) (.al (.lst .nil))) (.cons (.for_ (.nm 2) (.rng1 (.bi .len (.cons (.ix (.var 0) (.cst (.int 0))) .nil))) (.cons (.ex (.mth .append (.var 1) (.cons (.mth .join (.cst (.str [])) (.cons (.lc [3] (.nm 3) (.rng3 (.bin .sub (.bi .len (.cons (.var 0) .nil)) (.cst (.int 1))) (.neg (.cst (.int 1))) (.neg (.cst (.int 1)))) (.cst (.bl true)) (.ix (.glb 0) (.ix (.ix (.var 0) (.var 3)) (.var 2)))) .nil)) .nil))) .nil)) (.cons (.ret (.bi .tuple (.cons (.var 1) .nil))) .nil)))
noncomputable def fn_quarter : DFn := ⟨"quarter", 1, false, callD (gam []) [(.dct [((.str [46]), (.str [46])), ((.str [35]), (.str [35])), ((.str [114]), (.str [102])), ((.str [102]), (.str [114])), ((.str [82]), (.str [70])), ((.str [70]), (.str [82]))])] false 4 ib_quarter⟩
def ib_turned_box : ISs := (.cons (.asg (.nm 2) (.ite (.cmp .gt (.var 1) (.cst (.int 3))) (.call 0 (.cons (.var 0) .nil)) (.var 0))) (.cons (.for_ (.nm 3) (.rng1 (.bin .mod (.var 1) (.cst (.int 4)))) (.cons (.asg (.nm 2) (.call 1 (.cons (.var 2) .nil))) .nil)) (.cons (.ret (.var 2)) .nil)))
noncomputable def fn_turned_box : DFn := ⟨"turned_box", 2, false, callD (gam [fn_exchanged, fn_quarter]) [] false 4 ib_turned_box⟩
def ib_turned : ISs := (.cons (.ex (.call 0 (.cons (.var 0) .nil))) (.cons (.ex (.call 1 (.cons (.var 1) .nil))) (.cons (.ret (.call 2 (.cons (.var 0) (.cons (.var 1) .nil)))) .nil)))
noncomputable def fn_turned : DFn := ⟨"turned", 2, false, callD (gam [fn_check_box, fn_check_turn, fn_turned_box]) [] false 2 ib_turned⟩
def ib_door_after : ISs := (.cons (.ite (.cmp .gt (.var 2) (.cst (.int 3))) (.cons (.asg (.tp (.cons (.nm 4) (.cons (.nm 5) (.cons (.nm 6) .nil)))) (.call 0 (.cons (.var 0) (.cons (.var 1) (.cons (.var 3) .nil))))) (.cons (.asg (.nm 6) (.ix (.tup (.cons (.cst (.int 0)) (.cons (.cst (.int 3)) (.cons (.cst (.int 2)) (.cons (.cst (.int 1)) .nil))))) (.var 6))) (.cons (.asg (.nm 5) (.bin .sub (.bin .sub (.var 1) (.cst (.int 1))) (.var 5))) (.cons (.asg (.nm 3) (.cst (.int 0))) (.cons (.whl (.cmp .ne (.call 0 (.cons (.var 0) (.cons (.var 1) (.cons (.var 3) .nil)))) (.tup (.cons (.var 4) (.cons (.var 5) (.cons (.var 6) .nil))))) (.cons (.asg (.nm 3) (.bin .add (.var 3) (.cst (.int 1)))) .nil)) .nil))))) .nil) (.cons (.for_ (.nm 7) (.rng1 (.bin .mod (.var 2) (.cst (.int 4)))) (.cons (.asg (.nm 3) (.bin .mod (.bin .add (.var 3) (.var 0)) (.call 1 (.cons (.var 0) (.cons (.var 1) .nil))))) (.cons (.par [0, 1] (.cons (.var 1) (.cons (.var 0) .nil))) .nil))) (.cons (.ret (.var 3)) .nil)))
noncomputable def fn_door_after : DFn := ⟨"door_after", 4, false, callD (gam [fn_begin, fn_doors_of]) [] false 8 ib_door_after⟩
def ib_turned_door : ISs := (.cons (.ex (.call 0 (.cons (.var 0) .nil))) (.cons (.ex (.call 1 (.cons (.var 1) .nil))) (.cons (.ex (.call 2 (.cons (.var 0) (.cons (.var 2) .nil)))) (.cons (.ret (.call 3 (.cons (.bi .len (.cons (.var 0) .nil)) (.cons (.bi .len (.cons (.ix (.var 0) (.cst (.int 0))) .nil)) (.cons (.var 1) (.cons (.var 2) .nil)))))) .nil))))
noncomputable def fn_turned_door : DFn := ⟨"turned_door", 3, false, callD (gam [fn_check_box, fn_check_turn, fn_check_door, fn_door_after]) [] false 3 ib_turned_door⟩
end Py

set_option Elab.async false
set_option linter.all false
set_option maxRecDepth 100000
set_option autoImplicit false
set_option maxHeartbeats 4000000
namespace Py
open PySem PySem.Spec L2
/-! ### turned boxes, plainly -/
def OTH (c : Nat) : Nat := if c = 114 then 102 else if c = 102 then 114 else if c = 82 then 70 else if c = 70 then 82 else c
def OTHK : List (D × D) := [(.str [46], .str [46]), (.str [35], .str [35]), (.str [114], .str [102]), (.str [102], .str [114]), (.str [82], .str [70]), (.str [70], .str [82])]
theorem OTH_sgn {c : Nat} (h : c ∈ SGN) : OTH c ∈ SGN ∧ OTH (OTH c) = c := by
  simp [SGN] at h
  rcases h with rfl | rfl | rfl | rfl | rfl | rfl <;> decide
theorem oth_at {c : Nat} (h : c ∈ SGN) : fitK (.str [c]) OTHK = true ∧ findK (.str [c]) OTHK = some (.str [OTH c]) := by
  simp [SGN] at h
  rcases h with rfl | rfl | rfl | rfl | rfl | rfl <;> exact ⟨by decide, rfl⟩
theorem fmod_nat {a b : Nat} : (a : Int).fmod (b : Int) = ((a % b : Nat) : Int) := by
  rw [Int.fmod_eq_emod_of_nonneg _ (by omega)]
  rfl
def wid (b : Bx) : Nat := (b.getD 0 []).length
def cel (b : Bx) (i j : Nat) : Nat := (b.getD i []).getD j 0
def quB (b : Bx) : Bx := (List.range (wid b)).map fun j => (List.range b.length).map fun k => OTH (cel b (b.length - 1 - k) j)
def exB (b : Bx) : Bx := b.map fun r => r.reverse.map OTH
theorem OkB.wid {b : Bx} {h w : Nat} (k : OkB b h w) : Py.wid b = w := by
  obtain ⟨r, h1, h2, h3⟩ := k.row (i := 0) (by have := k.h1; omega)
  unfold Py.wid
  rw [List.getD_eq_getElem?_getD, h1]
  exact h2
theorem OkB.cel {b : Bx} {h w i j : Nat} (k : OkB b h w) (hi : i < h) (hj : j < w) : ∃ r, b[i]? = some r ∧ r.length = w ∧ r[j]? = some (Py.cel b i j) ∧ Py.cel b i j ∈ SGN := by
  obtain ⟨r, c, h1, h2, h3, h4, h5⟩ := get_at k hi hj
  have e : Py.cel b i j = c := by
    unfold Py.cel
    rw [h5, List.getD_eq_getElem?_getD, h3]
    rfl
  exact ⟨r, h1, h2, by rw [e]; exact h3, by rw [e]; exact h4⟩
theorem OkB.qu {b : Bx} {h w : Nat} (k : OkB b h w) : OkB (quB b) w h := by
  refine ⟨by unfold quB; rw [List.length_map, List.length_range, k.wid], fun r hr => ?_, fun r hr c hc => ?_, k.w1, k.w5, k.h1, k.h5⟩
  · obtain ⟨j, _, rfl⟩ := List.mem_map.mp hr
    rw [List.length_map, List.length_range, k.hh]
  · obtain ⟨j, hj, rfl⟩ := List.mem_map.mp hr
    obtain ⟨i, hi, rfl⟩ := List.mem_map.mp hc
    rw [List.mem_range] at hj hi
    rw [k.wid] at hj
    rw [k.hh] at hi ⊢
    obtain ⟨_, _, _, _, q⟩ := k.cel (i := h - 1 - i) (j := j) (by omega) hj
    exact (OTH_sgn q).1
theorem OkB.ex {b : Bx} {h w : Nat} (k : OkB b h w) : OkB (exB b) h w := by
  refine ⟨by unfold exB; rw [List.length_map]; exact k.hh, fun r hr => ?_, fun r hr c hc => ?_, k.h1, k.h5, k.w1, k.w5⟩
  · obtain ⟨r', hr', rfl⟩ := List.mem_map.mp hr
    rw [List.length_map, List.length_reverse]
    exact k.hw r' hr'
  · obtain ⟨r', hr', rfl⟩ := List.mem_map.mp hr
    obtain ⟨c', hc', rfl⟩ := List.mem_map.mp hc
    exact (OTH_sgn (k.hs r' hr' c' (by simpa using hc'))).1
theorem ok_quarter {b : Bx} {h w : Nat} {st : DSt} {Q : D → DSt → Prop} (k : OkB b h w) (q : Q (bx (quB b)) st) : wF fn_quarter.F [bx b] st Q := by
  obtain ⟨r0, e0, l0⟩ := bx_len0 k
  have hh := k.hh; have w5 := k.w5; have h5 := k.h5; have h1 := k.h1; have w1 := k.w1
  have eb : bx b = .tup (b.map .str) := rfl
  have lq : (quB b).length = w := k.qu.hh
  unfold fn_quarter ib_quarter
  simp only [EV, reduceCtorEq, Nat.reduceAdd, Nat.reduceSub, if_true, if_false, ite_true, ite_false]
  rw [eb]
  simp only [EV, reduceCtorEq, Nat.reduceAdd, Nat.reduceSub, if_true, if_false, ite_true, ite_false]
  simp only [e0, EV]
  rw [l0]
  refine ⟨rfl, sz_of (by omega), rngOk_of (by omega) (by omega) (by omega) (by omega), ?_⟩
  rw [rangeL_0]
  refine for_inv (fun i env s => ∃ x2, env = [some (bx b), some (.ref st.length), x2, none] ∧ s = st ++ [.lst (((quB b).take i).map .str)]) ⟨none, rfl, by simp⟩ (fun j x env s hx hI => ?_) fun env s hI => ?_
  · obtain ⟨x2, rfl, rfl⟩ := hI
    have hj : j < w := by
      have := (List.getElem?_eq_some_iff.mp hx).1
      simpa using this
    have ex : x = .int j := by
      rw [List.getElem?_map, List.getElem?_range hj] at hx
      exact (Option.some.inj hx).symm
    subst ex
    simp only [EV, reduceCtorEq, Nat.reduceAdd, Nat.reduceSub, if_true, if_false, ite_true, ite_false]
    rw [view_end rfl, wOp_some, eb]
    simp only [EV, reduceCtorEq, Nat.reduceAdd, Nat.reduceSub, if_true, if_false, ite_true, ite_false]
    rw [List.length_map, hh]
    refine ⟨by rw [rngOk_of (by omega) (by omega) (by omega) (by omega)]; rfl, ?_⟩
    rw [show ((h : Int) - 1 - (-1)).toNat = h by omega]
    refine wL_mapT _ (fun (i : Nat) => .str [OTH (cel b (h - 1 - i) j)]) (fun i hi R hR => ?_) ?_
    · rw [List.mem_range] at hi
      obtain ⟨r, q1, q2, q3, q4⟩ := k.cel (i := h - 1 - i) (j := j) (by omega) hj
      unfold itm
      simp only [EV, reduceCtorEq, Nat.reduceAdd, Nat.reduceSub, if_true, if_false, ite_true, ite_false]
      rw [show (h : Int) - 1 + (i : Int) * (-1) = ((h - 1 - i : Nat) : Int) by omega, atI_nat', get_str q1]
      simp only [EV, reduceCtorEq, Nat.reduceAdd, Nat.reduceSub, if_true, if_false, ite_true, ite_false]
      refine ⟨sz_of (by omega), ?_⟩
      rw [atI_nat', q3]
      simp only [EV, reduceCtorEq, Nat.reduceAdd, Nat.reduceSub, if_true, if_false, ite_true, ite_false]
      refine ⟨(oth_at q4).1, ?_⟩
      show wOp (findK _ OTHK) _
      rw [(oth_at q4).2, wOp_some]
      exact hR
    have er : (List.range h).map (fun i => D.str [OTH (cel b (h - 1 - i) j)]) = (((List.range h).map fun i => OTH (cel b (h - 1 - i) j)).map fun c => [c]).map D.str := by simp
    refine ⟨sz_of (by rw [List.length_map, List.length_range]; omega), ?_⟩
    rw [er, strsL_map]
    simp only [EV, reduceCtorEq, Nat.reduceAdd, Nat.reduceSub, if_true, if_false, ite_true, ite_false]
    rw [joinS_nil, flat1]
    refine ⟨by rw [sz_of (by rw [List.length_map, List.length_range]; omega), sz_of (by simp; omega)]; rfl, ?_⟩
    rw [app_end rfl (by rw [List.length_map, List.length_take]; omega), wOp_some]
    refine ⟨_, rfl, ?_⟩
    have e1 : (quB b)[j]? = some ((List.range h).map fun i => OTH (cel b (h - 1 - i) j)) := by
      unfold quB
      rw [List.getElem?_map, List.getElem?_range (by rw [k.wid]; exact hj), hh]
      rfl
    rw [List.take_add_one, e1, List.map_append]
    rfl
  · obtain ⟨x2, rfl, rfl⟩ := hI
    rw [List.length_map, List.length_range, List.take_of_length_le (by omega)]
    simp only [EV, reduceCtorEq, Nat.reduceAdd, Nat.reduceSub, if_true, if_false, ite_true, ite_false]
    rw [view_end rfl, wOp_some]
    simp only [EV, reduceCtorEq, Nat.reduceAdd, Nat.reduceSub, if_true, if_false, ite_true, ite_false]
    exact wfin_ex (by simp) (frz_p pure_bx) q
theorem ok_exchanged {b : Bx} {h w : Nat} {st : DSt} {Q : D → DSt → Prop} (k : OkB b h w) (q : Q (bx (exB b)) st) : wF fn_exchanged.F [bx b] st Q := by
  have hh := k.hh; have w5 := k.w5; have h5 := k.h5
  have eb : bx b = .tup (b.map .str) := rfl
  unfold fn_exchanged ib_exchanged
  simp only [EV, reduceCtorEq, Nat.reduceAdd, Nat.reduceSub, if_true, if_false, ite_true, ite_false]
  rw [eb]
  simp only [EV, reduceCtorEq, Nat.reduceAdd, Nat.reduceSub, if_true, if_false, ite_true, ite_false]
  refine wL_mapT D.str (fun r => .str (r.reverse.map OTH)) (fun r hr R hR => ?_) ?_
  · have lr := k.hw r hr
    unfold itm
    simp only [EV, reduceCtorEq, Nat.reduceAdd, Nat.reduceSub, if_true, if_false, ite_true, ite_false]
    refine ⟨sz_of (by omega), sz_of (by rw [List.length_reverse]; omega), ?_⟩
    refine wL_mapT _ (fun c => .str [OTH c]) (fun c hc R hR => ?_) ?_
    · unfold itm
      simp only [EV, reduceCtorEq, Nat.reduceAdd, Nat.reduceSub, if_true, if_false, ite_true, ite_false]
      have q4 := oth_at (k.hs r hr c (by simpa using hc))
      refine ⟨q4.1, ?_⟩
      show wOp (findK _ OTHK) _
      rw [q4.2, wOp_some]
      exact hR
    have er : r.reverse.map (fun c => D.str [OTH c]) = ((r.reverse.map OTH).map fun c => [c]).map D.str := by simp
    refine ⟨sz_of (by rw [List.length_map, List.length_reverse]; omega), ?_⟩
    rw [er, strsL_map]
    simp only [EV, reduceCtorEq, Nat.reduceAdd, Nat.reduceSub, if_true, if_false, ite_true, ite_false]
    rw [joinS_nil, flat1]
    refine ⟨by rw [sz_of (by rw [List.length_map, List.length_reverse]; omega), sz_of (by simp; omega)]; rfl, ?_⟩
    exact hR
  refine ⟨sz_of (by rw [List.length_map]; omega), ?_⟩
  have e : (b.map fun r => D.str (r.reverse.map OTH)) = (exB b).map .str := by
    unfold exB
    rw [List.map_map]
    rfl
  rw [e]
  exact (wfin_same rfl).mpr q
/-- so many quarter turns -/
def quN : Nat → Bx → Bx
  | 0, b => b
  | n + 1, b => quB (quN n b)
def turnB (b : Bx) (t : Nat) : Bx := quN (t % 4) (if t > 3 then exB b else b)
theorem OkB.quN {b : Bx} {h w : Nat} (k : OkB b h w) : ∀ n, OkB (Py.quN n b) (if n % 2 = 0 then h else w) (if n % 2 = 0 then w else h)
  | 0 => k
  | n + 1 => by
    have ih := OkB.quN k n
    have := ih.qu
    by_cases e : n % 2 = 0
    · rw [if_pos e, if_pos e] at this
      rw [if_neg (by omega), if_neg (by omega)]
      exact this
    · rw [if_neg e, if_neg e] at this
      rw [if_pos (by omega), if_pos (by omega)]
      exact this
theorem OkB.turn {b : Bx} {h w : Nat} (k : OkB b h w) (t : Nat) : OkB (turnB b t) (if t % 2 = 0 then h else w) (if t % 2 = 0 then w else h) := by
  unfold turnB
  have e : t % 4 % 2 = t % 2 := by omega
  split
  · have := k.ex.quN (t % 4)
    rw [e] at this
    exact this
  · have := k.quN (t % 4)
    rw [e] at this
    exact this
theorem ok_turned_box {b : Bx} {h w t : Nat} {st : DSt} {Q : D → DSt → Prop} (k : OkB b h w) (ht : t < 8) (q : Q (bx (turnB b t)) st) : wF fn_turned_box.F [bx b, .int t] st Q := by
  unfold fn_turned_box ib_turned_box
  simp only [EV, reduceCtorEq, Nat.reduceAdd, Nat.reduceSub, if_true, if_false, ite_true, ite_false]
  have e4 : (t : Int).fmod 4 = ((t % 4 : Nat) : Int) := fmod_nat (b := 4)
  have key : ∀ b' : Bx, (∃ h' w', OkB b' h' w') → b' = (if t > 3 then exB b else b) → decide ((4 : Int) ≠ 0) = true ∧ rngOk 0 ((t : Int).fmod 4) = true ∧ wFor (gam [fn_exchanged, fn_quarter]) [] (.nm 3) (.cons (.asg (.nm 2) (.call 1 (.cons (.var 2) .nil))) .nil) (rangeL 0 ((t : Int).fmod 4))
      [some (bx b), some (.int t), some (bx b'), none] st fun o => wNx o (fun env' st' => ∃ d, env'[2]? = some (some d) ∧ wfin false st d st' Q) fun d st' => wfin false st d st' Q := by
    intro b' ⟨h', w', k'⟩ eb'
    rw [e4]
    refine ⟨by decide, rngOk_of (by omega) (by omega) (by omega) (by omega), ?_⟩
    rw [rangeL_0]
    refine for_inv (fun i env s => ∃ x3, env = [some (bx b), some (.int t), some (bx (quN i b')), x3] ∧ s = st) ⟨none, rfl, rfl⟩ (fun i x env s hx hI => ?_) fun env s hI => ?_
    · obtain ⟨x3, rfl, rfl⟩ := hI
      simp only [EV, reduceCtorEq, Nat.reduceAdd, Nat.reduceSub, if_true, if_false, ite_true, ite_false]
      refine ok_quarter (k'.quN i) ?_
      exact ⟨_, rfl, rfl⟩
    · obtain ⟨x3, rfl, rfl⟩ := hI
      rw [List.length_map, List.length_range]
      unfold turnB at q
      rw [← eb'] at q
      exact ⟨_, rfl, (wfin_same rfl).mpr q⟩
  by_cases ht3 : t > 3
  · rw [decide_eq_true (by omega), if_pos rfl]
    refine ok_exchanged k ?_
    exact key (exB b) ⟨_, _, k.ex⟩ (by rw [if_pos ht3])
  · rw [decide_eq_false (by omega), if_neg (by simp)]
    exact key b ⟨_, _, k⟩ (by rw [if_neg ht3])
theorem ok_check_turn {t : Nat} {st : DSt} {Q : D → DSt → Prop} (ht : t < 8) (q : Q .non st) : wF fn_check_turn.F [.int t] st Q := by
  unfold fn_check_turn ib_check_turn
  simp only [EV, reduceCtorEq, Nat.reduceAdd, Nat.reduceSub, if_true, if_false, ite_true, ite_false]
  refine ok_is_between ?_
  rw [decide_eq_true (by omega)]
  simp only [EV, reduceCtorEq, Nat.reduceAdd, Nat.reduceSub, if_true, if_false, ite_true, ite_false]
  exact q
theorem ok_turned {b : Bx} {h w t : Nat} {st : DSt} {Q : D → DSt → Prop} (k : OkB b h w) (ht : t < 8) (q : Q (bx (turnB b t)) st) : wF fn_turned.F [bx b, .int t] st Q := by
  unfold fn_turned ib_turned
  simp only [EV, reduceCtorEq, Nat.reduceAdd, Nat.reduceSub, if_true, if_false, ite_true, ite_false]
  refine ok_check_box k ?_
  try simp only [EV, reduceCtorEq, Nat.reduceAdd, Nat.reduceSub, if_true, if_false, ite_true, ite_false]
  refine ok_check_turn ht ?_
  try simp only [EV, reduceCtorEq, Nat.reduceAdd, Nat.reduceSub, if_true, if_false, ite_true, ite_false]
  refine ok_turned_box k ht ?_
  try simp only [EV, reduceCtorEq, Nat.reduceAdd, Nat.reduceSub, if_true, if_false, ite_true, ite_false]
  exact q
end Py

set_option Elab.async false
set_option linter.all false
set_option maxRecDepth 100000
set_option autoImplicit false
set_option maxHeartbeats 4000000
namespace Py
open PySem PySem.Spec L2
/-! ### turns of boxes: which turn is which -/
theorem OTH2 (c : Nat) : OTH (OTH c) = c := by
  unfold OTH
  (repeat' split) <;> omega
theorem OkB.ext {a b : Bx} {h w : Nat} (ka : OkB a h w) (kb : OkB b h w) (e : ∀ i j, i < h → j < w → Py.cel a i j = Py.cel b i j) : a = b := by
  apply List.ext_getElem (by rw [ka.hh, kb.hh])
  intro i h1 h2
  have hi : i < h := by have := ka.hh; omega
  have la : a[i].length = w := ka.hw _ (List.getElem_mem h1)
  have lb : b[i].length = w := kb.hw _ (List.getElem_mem h2)
  apply List.ext_getElem (by rw [la, lb])
  intro j g1 g2
  have q := e i j hi (by omega)
  unfold Py.cel at q
  simpa [List.getD_eq_getElem?_getD, List.getElem?_eq_getElem h1, List.getElem?_eq_getElem h2, List.getElem?_eq_getElem g1, List.getElem?_eq_getElem g2] using q
theorem cel_qu {b : Bx} {h w i j : Nat} (k : OkB b h w) (hi : i < w) (hj : j < h) : cel (quB b) i j = OTH (cel b (h - 1 - j) i) := by
  conv => lhs; unfold cel quB
  rw [k.wid, k.hh]
  simp [List.getD_eq_getElem?_getD, List.getElem?_range hi, List.getElem?_range hj]
theorem cel_ex {b : Bx} {h w i j : Nat} (k : OkB b h w) (hi : i < h) (hj : j < w) : cel (exB b) i j = OTH (cel b i (w - 1 - j)) := by
  obtain ⟨r, e1, e2, e3, _⟩ := k.cel hi (j := w - 1 - j) (by omega)
  conv => lhs; unfold cel exB
  rw [List.getD_eq_getElem?_getD, List.getD_eq_getElem?_getD, List.getElem?_map, e1]
  simp only [Option.map_some, Option.getD_some]
  rw [List.getElem?_map, List.getElem?_reverse (by omega), show r.length - 1 - j = w - 1 - j by omega, e3]
  rfl
theorem qu4 {b : Bx} {h w : Nat} (k : OkB b h w) : quB (quB (quB (quB b))) = b := by
  refine k.qu.qu.qu.qu.ext k fun i j hi hj => ?_
  rw [cel_qu k.qu.qu.qu hi hj, cel_qu k.qu.qu (by omega) (by omega), cel_qu k.qu (by omega) (by omega), cel_qu k (by omega) (by omega), OTH2, OTH2, show h - 1 - (h - 1 - i) = i by omega, show w - 1 - (w - 1 - j) = j by omega]
theorem ex2 {b : Bx} {h w : Nat} (k : OkB b h w) : exB (exB b) = b := by
  refine k.ex.ex.ext k fun i j hi hj => ?_
  rw [cel_ex k.ex hi hj, cel_ex k (by omega) (by omega), OTH2, show w - 1 - (w - 1 - j) = j by omega]
theorem quN_add {b : Bx} : ∀ (n m : Nat), quN n (quN m b) = quN (n + m) b
  | 0, m => by rw [Nat.zero_add]; rfl
  | n + 1, m => by
    rw [Nat.add_right_comm]
    show quB (quN n (quN m b)) = quB (quN (n + m) b)
    rw [quN_add]
theorem quN_mod {b : Bx} {h w : Nat} (k : OkB b h w) : ∀ (q r : Nat), quN (4 * q + r) b = quN r b
  | 0, r => by rw [Nat.mul_zero, Nat.zero_add]
  | q + 1, r => by
    rw [show 4 * (q + 1) + r = (4 * q + r) + 4 by omega, ← quN_add, show quN 4 b = quB (quB (quB (quB b))) from rfl, qu4 k, quN_mod k q r]
/-- which turn two turns are, one behind the other -/
def two (f s : Nat) : Nat := if s > 3 then (s + 3 * f) % 4 + (if f > 3 then 0 else 4) else (s + f) % 4 + (if f > 3 then 4 else 0)
end Py

set_option Elab.async false
set_option linter.all false
set_option maxRecDepth 100000
set_option autoImplicit false
set_option maxHeartbeats 4000000
namespace Py
open PySem PySem.Spec L2
/-! ### light in turned boxes -/
/-- a place map that carries the light of a box to the light of another one -/
structure Sym (b : Bx) (h w : Nat) (b' : Bx) (h' w' : Nat) (T : Tri → Tri) (D : Int → Int) : Prop where
  ins : ∀ t, Ins h w t → Ins h' w' (T t)
  st : ∀ t, Ins h w t → stp b' h' w' (T t) = (stp b h w t).map T
  out : ∀ t, Ins h w t → outT b' h' w' (T t) = (outT b h w t).map D
  rg : ∀ d : Int, 0 ≤ d → d < 2 * (h + w) → 0 ≤ D d ∧ D d < 2 * (h' + w')
  beg : ∀ d : Int, 0 ≤ d → d < 2 * (h + w) → beginI h' w' (D d) = T (beginI h w d)
theorem Sym.id {b : Bx} {h w : Nat} : Sym b h w b h w id id := ⟨fun _ i => i, fun t _ => by simp, fun t _ => by simp, fun d a c => ⟨a, c⟩, fun d _ _ => rfl⟩
theorem Sym.comp {b b' b'' : Bx} {h w h' w' h'' w'' : Nat} {T T' : Tri → Tri} {D D' : Int → Int} (S : Sym b h w b' h' w' T D) (S' : Sym b' h' w' b'' h'' w'' T' D') : Sym b h w b'' h'' w'' (T' ∘ T) (D' ∘ D) :=
  ⟨fun t i => S'.ins _ (S.ins t i), fun t i => by rw [Function.comp, S'.st _ (S.ins t i), S.st t i, Option.map_map], fun t i => by rw [Function.comp, S'.out _ (S.ins t i), S.out t i, Option.map_map],
    fun d a c => S'.rg _ (S.rg d a c).1 (S.rg d a c).2, fun d a c => by rw [Function.comp, S'.beg _ (S.rg d a c).1 (S.rg d a c).2, S.beg d a c]; rfl⟩
def rotI (d : Int) : Int := if d = 0 then 1 else if d = 1 then 2 else if d = 2 then 3 else 0
def mirI (d : Int) : Int := if d = 1 then 3 else if d = 3 then 1 else d
def quT (h : Nat) (t : Tri) : Tri := (t.2.1, (h : Int) - 1 - t.1, rotI t.2.2)
def exT (w : Nat) (t : Tri) : Tri := (t.1, (w : Int) - 1 - t.2.1, mirI t.2.2)
def quD (h w : Nat) (d : Int) : Int := if d < 2 * w + h then d + h else d - 2 * w - h
def exD (h w : Nat) (d : Int) : Int := if d < w then w - 1 - d else 3 * w + 2 * h - 1 - d
theorem quD_fm {h w : Nat} {d : Int} (h1 : 1 ≤ h) (d0 : 0 ≤ d) (d1 : d < 2 * (h + w)) : (d + h).fmod (2 * (h + w)) = quD h w d := by
  rw [Int.fmod_eq_emod_of_nonneg _ (by omega)]
  unfold quD
  split
  · exact Int.emod_eq_of_lt (by omega) (by omega)
  · rw [show d + h = (d - 2 * w - h) + 2 * (h + w) by omega, Int.add_emod_right]
    exact Int.emod_eq_of_lt (by omega) (by omega)
theorem sgn_cel {b : Bx} {h w : Nat} (k : OkB b h w) {t : Tri} (i : Ins h w t) : sgn b t = cel b t.1.toNat t.2.1.toNat := by
  obtain ⟨r, e1, e2, e3, _⟩ := k.cel (i := t.1.toNat) (j := t.2.1.toNat) (by have := i.1; have := i.2.1; omega) (by have := i.2.2.1; have := i.2.2.2.1; omega)
  unfold sgn
  rw [List.getD_eq_getElem?_getD, List.getD_eq_getElem?_getD, e1]
  show (r[_]?).getD _ = _
  rw [e3]
  rfl
theorem rot_turn {s : Nat} {d : Int} (d0 : 0 ≤ d) (d3 : d ≤ 3) : turnI (OTH s) (rotI d) = rotI (turnI s d) := by
  have h : ∀ s' : Nat, OTH s = s' → turnI s' (rotI d) = rotI (turnI s d) := by
    intro s' e
    unfold OTH at e
    rcases dir_cases d0 d3 with rfl | rfl | rfl | rfl <;>
    · unfold turnI rotI
      (repeat' split at e) <;> (subst e; simp_all)
  exact h _ rfl
theorem mir_turn {s : Nat} {d : Int} (d0 : 0 ≤ d) (d3 : d ≤ 3) : turnI (OTH s) (mirI d) = mirI (turnI s d) := by
  have h : ∀ s' : Nat, OTH s = s' → turnI s' (mirI d) = mirI (turnI s d) := by
    intro s' e
    unfold OTH at e
    rcases dir_cases d0 d3 with rfl | rfl | rfl | rfl <;>
    · unfold turnI mirI
      (repeat' split at e) <;> (subst e; simp_all)
  exact h _ rfl
theorem oth_35 {s : Nat} : OTH s = 35 ↔ s = 35 := by
  unfold OTH
  (repeat' split) <;> omega
theorem mk_sym {b b' : Bx} {h w h' w' : Nat} {T : Tri → Tri} {D : Int → Int} {M : Int → Int} (hins : ∀ t, Ins h w t → Ins h' w' (T t)) (hs : ∀ t, Ins h w t → sgn b' (T t) = OTH (sgn b t)) (hM : ∀ d : Int, 0 ≤ d → d ≤ 3 → 0 ≤ M d ∧ M d ≤ 3)
    (hd : ∀ t, Ins h w t → (T t).2.2 = M t.2.2) (ht : ∀ (s : Nat) (d : Int), 0 ≤ d → d ≤ 3 → turnI (OTH s) (M d) = M (turnI s d))
    (hb : ∀ (t : Tri) (d : Int), Ins h w t → 0 ≤ d → d ≤ 3 → beyondI h' w' (T t).1 (T t).2.1 (M d) = (beyondI h w t.1 t.2.1 d).map D)
    (hg : ∀ (t : Tri) (d : Int), Ins h w t → 0 ≤ d → d ≤ 3 → goT (T t) (M d) = T (goT t d))
    (rg : ∀ d : Int, 0 ≤ d → d < 2 * (h + w) → 0 ≤ D d ∧ D d < 2 * (h' + w')) (beg : ∀ d : Int, 0 ≤ d → d < 2 * (h + w) → beginI h' w' (D d) = T (beginI h w d)) : Sym b h w b' h' w' T D := by
  have edir : ∀ t, Ins h w t → dirT b' (T t) = M (dirT b t) := fun t i => by
    unfold dirT
    rw [hs t i, hd t i, ht _ _ i.2.2.2.2.1 i.2.2.2.2.2]
  refine ⟨hins, fun t i => ?_, fun t i => ?_, rg, beg⟩
  · have r := dirT_rg (b := b) i
    have e1 := hb t _ i r.1 r.2
    by_cases c : sgn b t ≠ 35 ∧ beyondI h w t.1 t.2.1 (dirT b t) = none
    · rw [c.2] at e1
      rw [stp_of i c.1 c.2, stp_of (hins t i) (by rw [hs t i]; exact fun e => c.1 (oth_35.mp e)) (by rw [edir t i]; exact e1), edir t i, hg t _ i r.1 r.2]
      rfl
    · have e2 : stp b h w t = none := by
        unfold stp
        exact if_neg fun q => c ⟨q.2.1, q.2.2⟩
      have e3 : stp b' h' w' (T t) = none := by
        unfold stp
        refine if_neg fun q => c ⟨fun e => q.2.1 (by rw [hs t i, e]; rfl), ?_⟩
        have := q.2.2
        rw [edir t i, e1] at this
        simpa using this
      rw [e2, e3]
      rfl
  · have r := dirT_rg (b := b) i
    unfold outT
    rw [hs t i, edir t i]
    by_cases c : sgn b t = 35
    · rw [if_pos c, if_pos (by rw [c]; rfl)]
      rfl
    · rw [if_neg c, if_neg (fun e => c (oth_35.mp e)), hb t _ i r.1 r.2]
theorem rot_rg (d : Int) : 0 ≤ rotI d ∧ rotI d ≤ 3 := by
  unfold rotI
  (repeat' split) <;> omega
theorem mir_rg {d : Int} (d0 : 0 ≤ d) (d3 : d ≤ 3) : 0 ≤ mirI d ∧ mirI d ≤ 3 := by
  unfold mirI
  (repeat' split) <;> omega
theorem quT_ins {h w : Nat} {t : Tri} (i : Ins h w t) : Ins w h (quT h t) := by
  obtain ⟨a1, a2, a3, a4, a5, a6⟩ := i
  refine ⟨a3, a4, ?_, ?_, (rot_rg _).1, (rot_rg _).2⟩
  · show 0 ≤ (h : Int) - 1 - t.1; omega
  · show (h : Int) - 1 - t.1 < h; omega
theorem exT_ins {h w : Nat} {t : Tri} (i : Ins h w t) : Ins h w (exT w t) := by
  obtain ⟨a1, a2, a3, a4, a5, a6⟩ := i
  refine ⟨a1, a2, ?_, ?_, (mir_rg a5 a6).1, (mir_rg a5 a6).2⟩
  · show 0 ≤ (w : Int) - 1 - t.2.1; omega
  · show (w : Int) - 1 - t.2.1 < w; omega
theorem quSym {b : Bx} {h w : Nat} (k : OkB b h w) : Sym b h w (quB b) w h (quT h) (quD h w) := by
  have h1 := k.h1; have w1 := k.w1
  refine mk_sym (M := rotI) (fun t i => ?_) (fun t i => ?_) (fun d d0 d3 => ?_) (fun t _ => rfl) (fun s d => rot_turn) (fun t d i d0 d3 => ?_) (fun t d i d0 d3 => ?_) (fun d d0 d1 => ?_) fun d d0 d1 => ?_
  · exact quT_ins i
  · have i' : Ins w h (quT h t) := quT_ins i
    rw [sgn_cel k.qu i', sgn_cel k i]
    obtain ⟨a1, a2, a3, a4, a5, a6⟩ := i
    show cel (quB b) t.2.1.toNat ((h : Int) - 1 - t.1).toNat = _
    rw [cel_qu k (by omega) (by omega), show h - 1 - ((h : Int) - 1 - t.1).toNat = t.1.toNat by omega]
  · unfold rotI
    (repeat' split) <;> omega
  · obtain ⟨a1, a2, a3, a4, a5, a6⟩ := i
    show beyondI w h t.2.1 ((h : Int) - 1 - t.1) (rotI d) = _
    rcases dir_cases d0 d3 with rfl | rfl | rfl | rfl <;> simp [beyondI, rotI]
    all_goals
      split <;> simp [quD] <;> (repeat' split) <;> (try simp) <;> omega
  · rcases dir_cases d0 d3 with rfl | rfl | rfl | rfl <;> simp [goT, quT, moveR, moveC, rotI] <;> omega
  · unfold quD
    split <;> omega
  · unfold beginI quD quT rotI
    (repeat' split) <;> simp_all <;> omega
theorem exSym {b : Bx} {h w : Nat} (k : OkB b h w) : Sym b h w (exB b) h w (exT w) (exD h w) := by
  have h1 := k.h1; have w1 := k.w1
  refine mk_sym (M := mirI) (fun t i => ?_) (fun t i => ?_) (fun d d0 d3 => ?_) (fun t _ => rfl) (fun s d => mir_turn) (fun t d i d0 d3 => ?_) (fun t d i d0 d3 => ?_) (fun d d0 d1 => ?_) fun d d0 d1 => ?_
  · exact exT_ins i
  · have i' : Ins h w (exT w t) := exT_ins i
    rw [sgn_cel k.ex i', sgn_cel k i]
    obtain ⟨a1, a2, a3, a4, a5, a6⟩ := i
    show cel (exB b) t.1.toNat ((w : Int) - 1 - t.2.1).toNat = _
    rw [cel_ex k (by omega) (by omega), show w - 1 - ((w : Int) - 1 - t.2.1).toNat = t.2.1.toNat by omega]
  · unfold mirI
    (repeat' split) <;> omega
  · obtain ⟨a1, a2, a3, a4, a5, a6⟩ := i
    show beyondI h w t.1 ((w : Int) - 1 - t.2.1) (mirI d) = _
    rcases dir_cases d0 d3 with rfl | rfl | rfl | rfl <;> simp [beyondI, mirI]
    all_goals
      split <;> simp [exD] <;> (repeat' split) <;> (try simp) <;> omega
  · rcases dir_cases d0 d3 with rfl | rfl | rfl | rfl <;> simp [goT, exT, moveR, moveC, mirI] <;> omega
  · unfold exD
    split <;> omega
  · unfold beginI exD exT mirI
    (repeat' split) <;> simp_all <;> omega
end Py

set_option Elab.async false
set_option linter.all false
set_option maxRecDepth 100000
set_option autoImplicit false
set_option maxHeartbeats 4000000
namespace Py
open PySem PySem.Spec L2
/-! ### balls, plainly -/
theorem path_rev {α : Type} {f g : α → Option α} {ρ : α → α} {s e : α} {p : List α} (P : IsPath f s p) (he : p.getLast? = some e) (h : ∀ a b, a ∈ p → b ∈ p → f a = some b → g (ρ b) = some (ρ a)) (hs : g (ρ s) = none) : IsPath g (ρ e) (p.reverse.map ρ) := by
  have hn : p ≠ [] := fun q => by rw [q] at he; cases he
  have hl : 0 < p.length := List.length_pos_iff.mpr hn
  have ge : ∀ i, i < p.length → (p.reverse.map ρ)[i]? = (p[p.length - 1 - i]?).map ρ := fun i hi => by
    rw [List.getElem?_map, List.getElem?_reverse hi]
  refine ⟨?_, fun i t hi => ?_⟩
  · rw [ge 0 hl, Nat.sub_zero, ← List.getLast?_eq_getElem?, he]
    rfl
  · have il : i < p.length := by
      have := (List.getElem?_eq_some_iff.mp hi).1
      simpa using this
    rw [ge i il] at hi
    obtain ⟨u, hu, rfl⟩ := Option.map_eq_some_iff.mp hi
    by_cases c : i + 1 < p.length
    · rw [ge _ c]
      have e2 : p.length - 1 - (i + 1) < p.length := by omega
      have hx := List.getElem?_eq_getElem e2
      have q := P.2 _ _ hx
      rw [show p.length - 1 - (i + 1) + 1 = p.length - 1 - i by omega, hu] at q
      rw [h _ _ (List.getElem_mem e2) (List.mem_of_getElem? hu) q.symm, hx]
      rfl
    · rw [List.getElem?_eq_none (by simp; omega)]
      rw [show p.length - 1 - i = 0 by omega, P.1] at hu
      cases hu
      exact hs.symm
theorem path_inv {α : Type} {f : α → Option α} {s : α} {p : List α} (P : IsPath f s p) {I : α → Prop} (h0 : I s) (hs : ∀ a b, I a → f a = some b → I b) : ∀ t ∈ p, I t := by
  have key : ∀ (i : Nat) t, p[i]? = some t → I t := fun i => by
    induction i with
    | zero =>
      intro t ht
      rw [P.1] at ht
      cases ht
      exact h0
    | succ i ih =>
      intro t ht
      have il : i < p.length := by
        have := (List.getElem?_eq_some_iff.mp ht).1
        omega
      have hx := List.getElem?_eq_getElem il
      have q := P.2 _ _ hx
      rw [ht] at q
      exact hs _ _ (ih _ hx) q.symm
  intro t ht
  obtain ⟨i, hi⟩ := List.mem_iff_getElem?.mp ht
  exact key i t hi
theorem cel_set {b : Bx} {h w i j c i' j' : Nat} (k : OkB b h w) (hi : i < h) (hj : j < w) : cel (setB b i j c) i' j' = if i = i' ∧ j = j' then c else cel b i' j' := by
  obtain ⟨r, c0, g1, g2, g3, g4, g5⟩ := get_at k hi hj
  have hb : i < b.length := by rw [k.hh]; exact hi
  unfold cel setB
  rw [g5]
  simp only [List.getD_eq_getElem?_getD]
  by_cases e : i = i'
  · subst e
    rw [List.getElem?_set_self hb]
    by_cases e2 : j = j'
    · subst e2
      rw [if_pos ⟨rfl, rfl⟩]
      show ((r.set j c)[j]?).getD 0 = c
      rw [List.getElem?_set_self (by omega)]
      rfl
    · rw [if_neg fun q => e2 q.2]
      show ((r.set j c)[j']?).getD 0 = _
      rw [List.getElem?_set_ne e2, g1]
      rfl
  · rw [if_neg fun q => e q.1, List.getElem?_set_ne e]
def flipN (s : Nat) : Nat := if s = 114 then 102 else if s = 102 then 114 else s
theorem flip2 (s : Nat) : flipN (flipN s) = s := by
  unfold flipN
  (repeat' split) <;> omega
theorem flip_35 {s : Nat} : flipN s = 35 ↔ s = 35 := by
  unfold flipN
  (repeat' split) <;> omega
theorem flip_sgn {s : Nat} (h : s ∈ SGN) : flipN s ∈ SGN := by
  simp [SGN] at h
  rcases h with rfl | rfl | rfl | rfl | rfl | rfl <;> decide
def fl (b : Bx) (t : Tri) : Bx := setB b t.1.toNat t.2.1.toNat (flipN (sgn b t))
section
variable {b : Bx} {h w : Nat}
theorem ins_lt {t : Tri} (i : Ins h w t) : t.1.toNat < h ∧ t.2.1.toNat < w := by
  obtain ⟨a1, a2, a3, a4, _, _⟩ := i
  omega
theorem sgn_in (k : OkB b h w) {t : Tri} (i : Ins h w t) : sgn b t ∈ SGN := by
  obtain ⟨_, _, _, _, q⟩ := k.cel (ins_lt i).1 (ins_lt i).2
  rw [sgn_cel k i]
  exact q
theorem fl_ok (k : OkB b h w) {t : Tri} (i : Ins h w t) : OkB (fl b t) h w := k.set (ins_lt i).1 (flip_sgn (sgn_in k i))
theorem cel_fl (k : OkB b h w) {t : Tri} (i : Ins h w t) (i' j' : Nat) : cel (fl b t) i' j' = if t.1.toNat = i' ∧ t.2.1.toNat = j' then flipN (cel b i' j') else cel b i' j' := by
  unfold fl
  rw [cel_set k (ins_lt i).1 (ins_lt i).2, sgn_cel k i]
  split
  · rename_i q
    rw [q.1, q.2]
  · rfl
theorem fl_cell {t u : Tri} (h1 : t.1 = u.1) (h2 : t.2.1 = u.2.1) : fl b t = fl b u := by
  unfold fl
  rw [sgn_cell h1 h2, h1, h2]
theorem fl_fl (k : OkB b h w) {t u : Tri} (i : Ins h w t) (h1 : u.1 = t.1) (h2 : u.2.1 = t.2.1) : fl (fl b t) u = b := by
  rw [fl_cell h1 h2]
  refine (fl_ok (fl_ok k i) i).ext k fun i' j' _ _ => ?_
  rw [cel_fl (fl_ok k i) i, cel_fl k i]
  split
  · exact flip2 _
  · rfl
theorem sgn_fl (k : OkB b h w) {t : Tri} (i : Ins h w t) : sgn (fl b t) t = flipN (sgn b t) := by
  rw [sgn_cel (fl_ok k i) i, cel_fl k i, if_pos ⟨rfl, rfl⟩, sgn_cel k i]
/-- the box by whose mirror the ball turns -/
def cB (bk : Bool) (b : Bx) (t : Tri) : Bx := if bk = true then fl b t else b
theorem cB_35 {bk : Bool} (k : OkB b h w) {t : Tri} (i : Ins h w t) : sgn (cB bk b t) t = 35 ↔ sgn b t = 35 := by
  unfold cB
  split
  · rw [sgn_fl k i]
    exact flip_35
  · exact Iff.rfl
theorem cB_rev {bk : Bool} (k : OkB b h w) {t u : Tri} (i : Ins h w t) (h1 : u.1 = t.1) (h2 : u.2.1 = t.2.1) : cB (!bk) (fl b t) u = cB bk b t := by
  unfold cB
  cases bk
  · exact fl_fl k i h1 h2
  · rfl
open Classical in
/-- one step of a ball -/
noncomputable def bst (bk : Bool) (h w : Nat) (p : Bx × Tri) : Option (Bx × Tri) := if OkB p.1 h w then (stp (cB bk p.1 p.2) h w p.2).map fun u => (fl p.1 p.2, u) else none
theorem bst_some {bk : Bool} {p q : Bx × Tri} (e : bst bk h w p = some q) : OkB p.1 h w ∧ Ins h w p.2 ∧ stp (cB bk p.1 p.2) h w p.2 = some q.2 ∧ q.1 = fl p.1 p.2 := by
  unfold bst at e
  split at e
  · rename_i k
    obtain ⟨u, hu, rfl⟩ := Option.map_eq_some_iff.mp e
    exact ⟨k, (stp_some hu).1, hu, rfl⟩
  · cases e
theorem bst_of {bk : Bool} {b : Bx} {t u : Tri} (k : OkB b h w) (e : stp (cB bk b t) h w t = some u) : bst bk h w (b, t) = some (fl b t, u) := by
  unfold bst
  rw [if_pos k]
  show (stp (cB bk b t) h w t).map _ = _
  rw [e]
  rfl
theorem bst_no {bk : Bool} {b : Bx} {t : Tri} (e : stp (cB bk b t) h w t = none) : bst bk h w (b, t) = none := by
  unfold bst
  split
  · show (stp (cB bk b t) h w t).map _ = _
    rw [e]
    rfl
  · rfl
theorem no_stp {bk : Bool} {b : Bx} {t : Tri} (k : OkB b h w) (e : bst bk h w (b, t) = none) : stp (cB bk b t) h w t = none := by
  cases q : stp (cB bk b t) h w t with
  | none => rfl
  | some u => rw [bst_of k q] at e; cases e
theorem bst_ok {bk : Bool} {p q : Bx × Tri} (e : bst bk h w p = some q) : OkB q.1 h w ∧ Ins h w q.2 := by
  obtain ⟨k, i, e, e2⟩ := bst_some e
  rw [e2]
  exact ⟨fl_ok k i, stp_ins e⟩
def revS (bk : Bool) (p : Bx × Tri) : Bx × Tri := (fl p.1 p.2, revT (cB bk p.1 p.2) p.2)
theorem rev_stp2 {c C : Bx} {h w : Int} {t u : Tri} (e : stp c h w t = some u) (hu : sgn C u ≠ 35) : stp C h w (revT C u) = some (revT c t) := by
  have iu := stp_ins e
  obtain ⟨it, ht, n, q⟩ := stp_some e
  have hd := dirT_rg (b := c) it
  have d1 : dirT C (revT C u) = oppI (dirT c t) := by
    rw [dir_rev iu, q]
    rfl
  obtain ⟨m1, m2⟩ := move_back (r := t.1) (c := t.2.1) hd.1 hd.2
  obtain ⟨o1, o2⟩ := opp_rg hd.1 hd.2
  have c1 : (revT C u).1 = moveR t.1 (dirT c t) := by rw [q]; rfl
  have c2 : (revT C u).2.1 = moveC t.2.1 (dirT c t) := by rw [q]; rfl
  have ir := rev_ins (b := C) iu
  have nb : beyondI h w (revT C u).1 (revT C u).2.1 (dirT C (revT C u)) = none := by
    refine (beyond_none ⟨ir.1, ir.2.1⟩ ⟨ir.2.2.1, ir.2.2.2.1⟩ (by rw [d1]; exact o1) (by rw [d1]; exact o2)).mpr ?_
    rw [d1, c1, c2, m1, m2]
    exact ⟨it.1, it.2.1, it.2.2.1, it.2.2.2.1⟩
  rw [stp_of ir (by rw [sgn_cell (t := revT C u) (u := u) rfl rfl]; exact hu) nb, d1]
  unfold goT
  rw [c1, c2, m1, m2]
  rfl
theorem rev_bst {bk : Bool} {p q : Bx × Tri} (e : bst bk h w p = some q) (hq : sgn q.1 q.2 ≠ 35) : bst (!bk) h w (revS bk q) = some (revS bk p) := by
  obtain ⟨k1, i1⟩ := bst_ok e
  obtain ⟨k, i, e, e2⟩ := bst_some e
  have e3 := cB_rev (bk := bk) k1 i1 (u := revT (cB bk q.1 q.2) q.2) rfl rfl
  have e4 : stp (cB bk q.1 q.2) h w (revT (cB bk q.1 q.2) q.2) = some (revT (cB bk p.1 p.2) p.2) := rev_stp2 e fun z => hq ((cB_35 k1 i1).mp z)
  rw [← e3] at e4
  have e5 := bst_of (bk := !bk) (b := fl q.1 q.2) (fl_ok k1 i1) (t := revT (cB bk q.1 q.2) q.2) (u := revT (cB bk p.1 p.2) p.2) (by
    have := e3
    rw [e3]
    rw [e3] at e4
    exact e4)
  show bst (!bk) h w (fl q.1 q.2, revT (cB bk q.1 q.2) q.2) = _
  rw [e5, fl_fl k1 i1 (u := revT (cB bk q.1 q.2) q.2) rfl rfl, e2]
  rfl
theorem bst_inj {bk : Bool} (p p' q : Bx × Tri) (e : bst bk h w p = some q) (e' : bst bk h w p' = some q) : p = p' := by
  obtain ⟨k, i, e, e2⟩ := bst_some e
  obtain ⟨k', i', e', e2'⟩ := bst_some e'
  obtain ⟨_, _, _, z⟩ := stp_some e
  obtain ⟨_, _, _, z'⟩ := stp_some e'
  have zz := z.symm.trans z'
  unfold goT at zz
  injection zz with z1 z2
  injection z2 with z2 z3
  rw [z3] at z1 z2
  have c1 := move_inj z1
  have c2 := moveC_inj z2
  have eb : p.1 = p'.1 := by
    rw [← fl_fl k i (u := p'.2) c1.symm c2.symm, ← e2, e2', fl_fl k' i' rfl rfl]
  have ec : cB bk p.1 p.2 = cB bk p'.1 p'.2 := by
    unfold cB
    rw [eb, fl_cell c1 c2]
  rw [ec] at e
  exact Prod.ext eb (stp_inj _ _ _ e e')
def lists {α : Type} (A : List α) : Nat → List (List α)
  | 0 => [[]]
  | n + 1 => A.flatMap fun a => (lists A n).map (a :: ·)
theorem mem_lists {α : Type} {A : List α} : ∀ {l : List α}, (∀ x ∈ l, x ∈ A) → l ∈ lists A l.length
  | [], _ => List.mem_singleton.mpr rfl
  | a :: l, h => by
    show a :: l ∈ A.flatMap fun a => (lists A l.length).map (a :: ·)
    exact List.mem_flatMap.mpr ⟨a, h a List.mem_cons_self, List.mem_map.mpr ⟨l, mem_lists fun x hx => h x (List.mem_cons_of_mem _ hx), rfl⟩⟩
def allS (h w : Nat) : List (Bx × Tri) := (lists (lists SGN w) h).flatMap fun b => (allT h w).map fun t => (b, t)
theorem allS_mem (k : OkB b h w) {t : Tri} (i : Ins h w t) : (b, t) ∈ allS h w := by
  refine List.mem_flatMap.mpr ⟨b, ?_, List.mem_map.mpr ⟨t, allT_mem i, rfl⟩⟩
  have := mem_lists (A := lists SGN w) (l := b) fun r hr => by
    have := mem_lists (A := SGN) (l := r) (k.hs r hr)
    rw [k.hw r hr] at this
    exact this
  rw [k.hh] at this
  exact this
/-- the states of a ball -/
noncomputable def ballP (bk : Bool) (h w : Nat) (b : Bx) (d : Int) : List (Bx × Tri) := runP (bst bk h w) (allS h w).length (b, beginI h w d)
theorem ball_is {bk : Bool} {d : Int} (k : OkB b h w) (d0 : 0 ≤ d) (d1 : d < 2 * (h + w)) : IsPath (bst bk h w) (b, beginI h w d) (ballP bk h w b d) := by
  have h1 := k.h1; have w1 := k.w1
  refine path_run (itr_end (bst_inj) (fun p e => begin_new d0 _ (bst_some e).2.2.1) fun i c e => ?_)
  have key : ∀ (i : Nat) c, itr (bst bk h w) i (b, beginI h w d) = some c → OkB c.1 h w ∧ Ins h w c.2 := fun i => by
    induction i with
    | zero =>
      intro c e
      cases e
      exact ⟨k, begin_ins (by omega) (by omega) d0 d1⟩
    | succ i ih =>
      intro c e
      rw [itr_s] at e
      obtain ⟨x, _, hx⟩ := Option.bind_eq_some_iff.mp e
      exact bst_ok hx
  exact allS_mem (key i c e).1 (key i c e).2
noncomputable def ballO (bk : Bool) (h w : Nat) (b : Bx) (d : Int) : Option Int := (ballP bk h w b d).getLast?.bind fun p => outT (cB bk p.1 p.2) h w p.2
noncomputable def ballB (bk : Bool) (h w : Nat) (b : Bx) (d : Int) : Bx := ((ballP bk h w b d).getLast?.map fun p => fl p.1 p.2).getD b
theorem ball_all {bk : Bool} {d : Int} (k : OkB b h w) (d0 : 0 ≤ d) (d1 : d < 2 * (h + w)) : ∀ p ∈ ballP bk h w b d, OkB p.1 h w ∧ Ins h w p.2 := by
  have h1 := k.h1; have w1 := k.w1
  exact path_inv (ball_is k d0 d1) (I := fun p => OkB p.1 h w ∧ Ins h w p.2) ⟨k, begin_ins (by omega) (by omega) d0 d1⟩ fun _ _ _ e => bst_ok e
theorem ball_last {bk : Bool} {d : Int} (k : OkB b h w) (d0 : 0 ≤ d) (d1 : d < 2 * (h + w)) : ∃ b' t, (ballP bk h w b d).getLast? = some (b', t) ∧ OkB b' h w ∧ Ins h w t ∧ stp (cB bk b' t) h w t = none ∧ ballO bk h w b d = outT (cB bk b' t) h w t ∧ ballB bk h w b d = fl b' t := by
  have P := ball_is (bk := bk) k d0 d1
  have hl : 0 < (ballP bk h w b d).length := (List.getElem?_eq_some_iff.mp P.1).1
  obtain ⟨p, hp⟩ : ∃ p, (ballP bk h w b d).getLast? = some p := ⟨_, List.getLast?_eq_some_getLast (List.length_pos_iff.mp hl)⟩
  have ho := ball_all k d0 d1 p (List.mem_of_getLast? hp)
  refine ⟨p.1, p.2, hp, ho.1, ho.2, ?_, by unfold ballO; rw [hp]; rfl, by unfold ballB; rw [hp]; rfl⟩
  rw [List.getLast?_eq_getElem?] at hp
  have := P.2 _ _ hp
  rw [List.getElem?_eq_none (by omega)] at this
  exact no_stp ho.1 this.symm
theorem begin_back {h w : Nat} {d : Int} (h1 : 1 ≤ h) (w1 : 1 ≤ w) (d0 : 0 ≤ d) (d1 : d < 2 * (h + w)) : beyondI h w (beginI h w d).1 (beginI h w d).2.1 (oppI (beginI h w d).2.2) = some d := by
  unfold beginI
  (repeat' split) <;> simp [beyondI, oppI] <;> (repeat' split) <;> (try simp) <;> omega
/-- a ball the other way takes the box back -/
theorem ball_back {bk : Bool} {d o : Int} (k : OkB b h w) (d0 : 0 ≤ d) (d1 : d < 2 * (h + w)) (e : ballO bk h w b d = some o) : 0 ≤ o ∧ o < 2 * (h + w) ∧ OkB (ballB bk h w b d) h w ∧ ballO (!bk) h w (ballB bk h w b d) o = some d ∧ ballB (!bk) h w (ballB bk h w b d) o = b := by
  have h1 := k.h1; have w1 := k.w1
  obtain ⟨b', t, g1, k', i', g2, g3, g4⟩ := ball_last (bk := bk) k d0 d1
  have P := ball_is (bk := bk) k d0 d1
  rw [g3] at e
  rw [g4]
  have hs : sgn b' t ≠ 35 := fun z => by
    unfold outT at e
    rw [if_pos ((cB_35 k' i').mpr z)] at e
    cases e
  have e2 : beyondI h w t.1 t.2.1 (dirT (cB bk b' t) t) = some o := by
    unfold outT at e
    rw [if_neg fun z => hs ((cB_35 k' i').mp z)] at e
    exact e
  have hd := dirT_rg (b := cB bk b' t) i'
  obtain ⟨o0, o1, o2⟩ := beg_out ⟨i'.1, i'.2.1⟩ ⟨i'.2.2.1, i'.2.2.2.1⟩ hd.1 hd.2 e2
  have ib : Ins h w (beginI h w d) := begin_ins (by omega) (by omega) d0 d1
  have no35 : ∀ p ∈ ballP bk h w b d, sgn p.1 p.2 ≠ 35 := fun p hp z => by
    obtain ⟨i, hi⟩ := List.mem_iff_getElem?.mp hp
    have ho := ball_all k d0 d1 p hp
    have il := (List.getElem?_eq_some_iff.mp hi).1
    have nx := P.2 i p hi
    have : bst bk h w p = none := bst_no (b := p.1) (t := p.2) (by
      unfold stp
      rw [if_neg fun q => q.2.1 ((cB_35 ho.1 ho.2).mpr z)])
    rw [this] at nx
    have := List.getElem?_eq_none_iff.mp nx
    rw [List.getLast?_eq_getElem?, show (ballP bk h w b d).length - 1 = i by omega, hi] at g1
    cases g1
    exact hs z
  have sb := no35 _ (List.mem_of_getElem? P.1)
  have ke := cB_rev (bk := bk) k ib (u := revT (cB bk b (beginI h w d)) (beginI h w d)) rfl rfl
  have dr : dirT (cB (!bk) (fl b (beginI h w d)) (revT (cB bk b (beginI h w d)) (beginI h w d))) (revT (cB bk b (beginI h w d)) (beginI h w d)) = oppI (beginI h w d).2.2 := by
    rw [ke]
    exact dir_rev ib
  have bb := begin_back (h := h) (w := w) (d := d) (by omega) (by omega) d0 d1
  have R : IsPath (bst (!bk) h w) (revS bk (b', t)) ((ballP bk h w b d).reverse.map (revS bk)) := by
    refine path_rev P g1 (fun p q _ hq e => rev_bst e (no35 q hq)) ?_
    refine bst_no (b := fl b (beginI h w d)) (t := revT (cB bk b (beginI h w d)) (beginI h w d)) ?_
    unfold stp
    rw [if_neg]
    intro q
    have := q.2.2
    rw [dr] at this
    exact absurd (bb.symm.trans this) (by simp)
  have est : revS bk (b', t) = (fl b' t, beginI h w o) := by rw [o2]; rfl
  have kf := fl_ok k' i'
  rw [est] at R
  have eu := (ball_is (bk := !bk) kf o0 o1).uniq R
  have gl : (ballP (!bk) h w (fl b' t) o).getLast? = some (revS bk (b, beginI h w d)) := by
    rw [eu, List.getLast?_map, List.getLast?_reverse, List.head?_eq_getElem?, P.1]
    rfl
  refine ⟨o0, o1, kf, ?_, ?_⟩
  · unfold ballO
    rw [gl]
    show outT (cB (!bk) (fl b (beginI h w d)) (revT (cB bk b (beginI h w d)) (beginI h w d))) h w (revT (cB bk b (beginI h w d)) (beginI h w d)) = some d
    unfold outT
    rw [dr, if_neg]
    · exact bb
    · rw [ke]
      intro z
      exact sb ((cB_35 k ib).mp z)
  · unfold ballB
    rw [gl]
    exact fl_fl k ib rfl rfl
end
end Py

set_option Elab.async false
set_option linter.all false
set_option maxRecDepth 100000
set_option autoImplicit false
set_option maxHeartbeats 4000000
namespace Py
open PySem PySem.Spec L2
/-! ### what balls leave as it is -/
def kin (c : Nat) : Nat := if c = 102 then 114 else c
theorem kin_flip (s : Nat) : kin (flipN s) = kin s := by
  unfold kin flipN
  (repeat' split) <;> omega
/-- the same kinds of signs in all cells -/
def SameK (a b : Bx) (h w : Nat) : Prop := ∀ i j, i < h → j < w → kin (cel a i j) = kin (cel b i j)
def cellsN (b : Bx) (h w : Nat) (z : List Nat) : List (Nat × Nat) := (List.range h).flatMap fun i => ((List.range w).filter fun j => decide (cel b i j ∈ z)).map fun j => (i, j)
theorem cells_same {a b : Bx} {h w : Nat} {z : List Nat} (s : SameK a b h w) (hz : ∀ x y, kin x = kin y → (x ∈ z ↔ y ∈ z)) : cellsN a h w z = cellsN b h w z := by
  unfold cellsN
  rw [List.flatMap_def, List.flatMap_def]
  congr 1
  refine List.map_congr_left fun i hi => ?_
  congr 1
  refine List.filter_congr fun j hj => ?_
  rw [decide_eq_decide]
  exact hz _ _ (s i j (List.mem_range.mp hi) (List.mem_range.mp hj))
theorem kin_rf (x y : Nat) (h : kin x = kin y) : x ∈ [114, 102] ↔ y ∈ [114, 102] := by
  unfold kin at h
  simp
  (repeat' split at h) <;> omega
theorem plain_cel {b : Bx} {h w : Nat} (k : OkB b h w) : PlainB b ↔ ∀ i j, i < h → j < w → cel b i j ≠ 82 ∧ cel b i j ≠ 70 := by
  constructor
  · intro p i j hi hj
    obtain ⟨r, q1, q2, q3, q4⟩ := k.cel hi hj
    exact p r (List.mem_of_getElem? q1) _ (List.mem_of_getElem? q3)
  · intro p r hr c hc
    obtain ⟨i, hi⟩ := List.mem_iff_getElem?.mp hr
    obtain ⟨j, hj⟩ := List.mem_iff_getElem?.mp hc
    have il := (List.getElem?_eq_some_iff.mp hi).1
    have jl := (List.getElem?_eq_some_iff.mp hj).1
    rw [k.hh] at il
    rw [k.hw r hr] at jl
    obtain ⟨r', q1, q2, q3, q4⟩ := k.cel il jl
    rw [hi] at q1
    cases q1
    rw [hj] at q3
    cases q3
    exact p i j il jl
theorem plain_same {a b : Bx} {h w : Nat} (ka : OkB a h w) (kb : OkB b h w) (s : SameK a b h w) (p : PlainB b) : PlainB a := by
  rw [plain_cel ka]
  intro i j hi hj
  have := (plain_cel kb).mp p i j hi hj
  have e := s i j hi hj
  unfold kin at e
  (repeat' split at e) <;> omega
theorem same_fl {b : Bx} {h w : Nat} (k : OkB b h w) {t : Tri} (i : Ins h w t) : SameK (fl b t) b h w := fun i' j' _ _ => by
  rw [cel_fl k i]
  split
  · exact kin_flip _
  · rfl
theorem SameK.tr {a b c : Bx} {h w : Nat} (s : SameK a b h w) (s' : SameK b c h w) : SameK a c h w := fun i j hi hj => (s i j hi hj).trans (s' i j hi hj)
theorem ball_same {b : Bx} {h w : Nat} {bk : Bool} {d : Int} (k : OkB b h w) (d0 : 0 ≤ d) (d1 : d < 2 * (h + w)) : (∀ p ∈ ballP bk h w b d, SameK p.1 b h w) ∧ SameK (ballB bk h w b d) b h w ∧ OkB (ballB bk h w b d) h w := by
  have A : ∀ p ∈ ballP bk h w b d, SameK p.1 b h w := path_inv (ball_is k d0 d1) (fun _ _ _ _ => rfl) fun p q hp e => by
    obtain ⟨kp, ip, _, e2⟩ := bst_some e
    rw [e2]
    exact (same_fl kp ip).tr hp
  obtain ⟨b', t, g1, k', i', g2, g3, g4⟩ := ball_last (bk := bk) k d0 d1
  refine ⟨A, ?_, ?_⟩
  · rw [g4]
    exact (same_fl k' i').tr (A _ (List.mem_of_getLast? g1))
  · rw [g4]
    exact fl_ok k' i'
theorem cells_lt {b : Bx} {h w : Nat} {z : List Nat} {p : Nat × Nat} (hp : p ∈ cellsN b h w z) : p.1 < h ∧ p.2 < w := by
  obtain ⟨i, hi, hp⟩ := List.mem_flatMap.mp hp
  obtain ⟨j, hj, rfl⟩ := List.mem_map.mp hp
  exact ⟨List.mem_range.mp hi, List.mem_range.mp (List.mem_filter.mp hj).1⟩
theorem few_app (A B : List (Nat × Nat)) : ((A ++ B).filter fun p => decide (p ∉ B)).length ≤ A.length := by
  rw [List.filter_append, List.length_append]
  have e : (B.filter fun p => decide (p ∉ B)) = [] := by
    rw [List.filter_eq_nil_iff]
    intro p hp
    simp [hp]
  rw [e]
  exact List.length_filter_le _ _
theorem few_left (L : List (Nat × Nat)) (n : Nat) : (L.filter fun p => decide (p ∉ L.drop n)).length ≤ n := by
  have := few_app (L.take n) (L.drop n)
  rw [List.take_append_drop] at this
  exact Nat.le_trans this (by rw [List.length_take]; omega)
end Py

set_option Elab.async false
set_option linter.all false
set_option maxRecDepth 100000
set_option autoImplicit false
set_option maxHeartbeats 4000000
namespace Py
open PySem PySem.Spec L2
/-! ### a box within a box -/
structure Reg (W : Bx) (H V : Nat) (A : Bx) (h w r0 c0 : Nat) : Prop where
  kW : OkB W H V
  kA : OkB A h w
  rh : r0 + h ≤ H
  rw : c0 + w ≤ V
  eq : ∀ i j, i < h → j < w → cel W (r0 + i) (c0 + j) = cel A i j
def shT (r0 c0 : Nat) (t : Tri) : Tri := (t.1 + r0, t.2.1 + c0, t.2.2)
def Inr (h w r0 c0 : Nat) (t : Tri) : Prop := (r0 : Int) ≤ t.1 ∧ t.1 < r0 + h ∧ (c0 : Int) ≤ t.2.1 ∧ t.2.1 < c0 + w
section
variable {W A : Bx} {H V h w r0 c0 : Nat}
theorem Reg.ins (R : Reg W H V A h w r0 c0) {t : Tri} (i : Ins h w t) : Ins H V (shT r0 c0 t) := by
  obtain ⟨a1, a2, a3, a4, a5, a6⟩ := i
  have := R.rh
  have := R.rw
  refine ⟨?_, ?_, ?_, ?_, a5, a6⟩
  · show 0 ≤ t.1 + (r0 : Int); omega
  · show t.1 + (r0 : Int) < H; omega
  · show 0 ≤ t.2.1 + (c0 : Int); omega
  · show t.2.1 + (c0 : Int) < V; omega
theorem sh_inr {t : Tri} (i : Ins h w t) : Inr h w r0 c0 (shT r0 c0 t) := by
  obtain ⟨a1, a2, a3, a4, a5, a6⟩ := i
  refine ⟨?_, ?_, ?_, ?_⟩
  · show (r0 : Int) ≤ t.1 + r0; omega
  · show t.1 + (r0 : Int) < r0 + h; omega
  · show (c0 : Int) ≤ t.2.1 + c0; omega
  · show t.2.1 + (c0 : Int) < c0 + w; omega
theorem Reg.sg (R : Reg W H V A h w r0 c0) {t : Tri} (i : Ins h w t) : sgn W (shT r0 c0 t) = sgn A t := by
  rw [sgn_cel R.kW (R.ins i), sgn_cel R.kA i, ← R.eq _ _ (ins_lt i).1 (ins_lt i).2]
  obtain ⟨a1, a2, a3, a4, a5, a6⟩ := i
  show cel W (t.1 + (r0 : Int)).toNat (t.2.1 + (c0 : Int)).toNat = _
  rw [show (t.1 + (r0 : Int)).toNat = r0 + t.1.toNat by omega, show (t.2.1 + (c0 : Int)).toNat = c0 + t.2.1.toNat by omega]
theorem Reg.dir (R : Reg W H V A h w r0 c0) {t : Tri} (i : Ins h w t) : dirT W (shT r0 c0 t) = dirT A t := by
  unfold dirT
  rw [R.sg i]
  rfl
theorem sh_go {t : Tri} {d : Int} (d0 : 0 ≤ d) (d3 : d ≤ 3) : goT (shT r0 c0 t) d = shT r0 c0 (goT t d) := by
  rcases dir_cases d0 d3 with rfl | rfl | rfl | rfl <;> simp [goT, shT, moveR, moveC] <;> omega
theorem Reg.step (R : Reg W H V A h w r0 c0) {t u : Tri} (e : stp A h w t = some u) : stp W H V (shT r0 c0 t) = some (shT r0 c0 u) := by
  obtain ⟨i, hs, n, q⟩ := stp_some e
  have hd := dirT_rg (b := A) i
  have iu := stp_ins e
  rw [stp_of (R.ins i) (by rw [R.sg i]; exact hs), R.dir i, sh_go hd.1 hd.2, q]
  have j := R.ins iu
  rw [q] at j
  rw [R.dir i]
  refine (beyond_none ⟨(R.ins i).1, (R.ins i).2.1⟩ ⟨(R.ins i).2.2.1, (R.ins i).2.2.2.1⟩ hd.1 hd.2).mpr ?_
  rw [← sh_go hd.1 hd.2] at j
  exact ⟨j.1, j.2.1, j.2.2.1, j.2.2.2.1⟩
theorem Reg.itr (R : Reg W H V A h w r0 c0) : ∀ (n : Nat) {t u : Tri}, Py.itr (stp A h w) n t = some u → Py.itr (stp W H V) n (shT r0 c0 t) = some (shT r0 c0 u)
  | 0, t, u, e => by cases e; rfl
  | n + 1, t, u, e => by
    obtain ⟨v, e1, e2⟩ := Option.bind_eq_some_iff.mp e
    show (stp W H V (shT r0 c0 t)).bind _ = _
    rw [R.step e1]
    exact R.itr n e2
theorem exit_out {t : Tri} {d o : Int} (i : Ins h w t) (d0 : 0 ≤ d) (d3 : d ≤ 3) (e : beyondI h w t.1 t.2.1 d = some o) : ¬ Inr h w r0 c0 (goT (shT r0 c0 t) d) := by
  intro q
  have := (beyond_none ⟨i.1, i.2.1⟩ ⟨i.2.2.1, i.2.2.2.1⟩ d0 d3).mpr (by
    rw [sh_go d0 d3] at q
    obtain ⟨q1, q2, q3, q4⟩ := q
    have q1 : (r0 : Int) ≤ moveR t.1 d + r0 := q1
    have q2 : moveR t.1 d + (r0 : Int) < r0 + h := q2
    have q3 : (c0 : Int) ≤ moveC t.2.1 d + c0 := q3
    have q4 : moveC t.2.1 d + (c0 : Int) < c0 + w := q4
    omega)
  rw [this] at e
  cases e
end
def OutR (W : Bx) (H V : Int) (t : Tri) (o : Option Int) : Prop := ∃ n u, itr (stp W H V) n t = some u ∧ stp W H V u = none ∧ outT W H V u = o
theorem OutR.uniq {W : Bx} {H V : Int} {t : Tri} {o o' : Option Int} (a : OutR W H V t o) (b : OutR W H V t o') : o = o' := by
  obtain ⟨n, u, e1, e2, e3⟩ := a
  obtain ⟨m, v, f1, f2, f3⟩ := b
  have key : ∀ (n m : Nat) u v, itr (stp W H V) n t = some u → stp W H V u = none → itr (stp W H V) m t = some v → n < m → False := fun n m u v e1 e2 f1 hlt => by
    obtain ⟨k, rfl⟩ := Nat.exists_eq_add_of_lt hlt
    rw [show n + k + 1 = (n + 1) + k by omega, itr_add] at f1
    have : itr (stp W H V) (n + 1) t = none := by rw [itr_s, e1]; exact e2
    rw [this] at f1
    cases f1
  have : n = m := by
    rcases Nat.lt_trichotomy n m with q | q | q
    · exact (key n m u v e1 e2 f1 q).elim
    · exact q
    · exact (key m n v u f1 f2 e1 q).elim
  subst this
  rw [e1] at f1
  cases f1
  rw [← e3, f3]
theorem OutR.step {W : Bx} {H V : Int} {t u : Tri} {o : Option Int} (e : stp W H V t = some u) (a : OutR W H V u o) : OutR W H V t o := by
  obtain ⟨n, v, e1, e2, e3⟩ := a
  exact ⟨n + 1, v, by show (stp W H V t).bind _ = _; rw [e]; exact e1, e2, e3⟩
theorem OutR.many {W : Bx} {H V : Int} {o : Option Int} : ∀ (n : Nat) {t u : Tri}, itr (stp W H V) n t = some u → OutR W H V u o → OutR W H V t o
  | 0, t, u, e, a => by cases e; exact a
  | n + 1, t, u, e, a => by
    obtain ⟨v, e1, e2⟩ := Option.bind_eq_some_iff.mp e
    exact OutR.step e1 (OutR.many n e2 a)
end Py

set_option Elab.async false
set_option linter.all false
set_option maxRecDepth 100000
set_option autoImplicit false
set_option maxHeartbeats 4000000
namespace Py
open PySem PySem.Spec L2
/-! ### what is put in may be exchanged for what is the same from outside -/
theorem out_some {b : Bx} {h w : Int} {u : Tri} {o : Int} (e : outT b h w u = some o) : sgn b u ≠ 35 ∧ beyondI h w u.1 u.2.1 (dirT b u) = some o := by
  unfold outT at e
  split at e
  · cases e
  · rename_i c
    exact ⟨c, e⟩
section
variable {W1 W2 A1 A2 : Bx} {H V h w r0 c0 : Nat}
/-- from the last cell in the inner box: how light goes on depends on the door alone -/
theorem Reg.on (R : Reg W1 H V A1 h w r0 c0) {u : Tri} {o : Int} (i : Ins h w u) (e : outT A1 h w u = some o) :
    0 ≤ o ∧ o < 2 * (h + w) ∧ Inr h w r0 c0 (shT r0 c0 u) ∧
    (∃ D : Int, outT W1 H V (shT r0 c0 u) = some D ∧ stp W1 H V (shT r0 c0 u) = none ∧ beyondI H V ((beginI h w o).1 + r0) ((beginI h w o).2.1 + c0) (oppI (beginI h w o).2.2) = some D) ∨
    0 ≤ o ∧ o < 2 * (h + w) ∧ (beyondI H V ((beginI h w o).1 + r0) ((beginI h w o).2.1 + c0) (oppI (beginI h w o).2.2) = none ∧
      stp W1 H V (shT r0 c0 u) = some (goT (shT r0 c0 (beginI h w o)) (oppI (beginI h w o).2.2)) ∧ ¬ Inr h w r0 c0 (goT (shT r0 c0 (beginI h w o)) (oppI (beginI h w o).2.2))) := by
  obtain ⟨hs, hb⟩ := out_some e
  have hd := dirT_rg (b := A1) i
  obtain ⟨o0, o1, ob⟩ := beg_out ⟨i.1, i.2.1⟩ ⟨i.2.2.1, i.2.2.2.1⟩ hd.1 hd.2 hb
  have od : oppI (beginI h w o).2.2 = dirT A1 u := by rw [ob]; exact opp_opp hd.1 hd.2
  have b1 : (beginI h w o).1 = u.1 := by rw [ob]
  have b2 : (beginI h w o).2.1 = u.2.1 := by rw [ob]
  have eg : goT (shT r0 c0 (beginI h w o)) (oppI (beginI h w o).2.2) = goT (shT r0 c0 u) (dirT A1 u) := by
    rw [od]
    unfold goT shT
    rw [b1, b2]
  rw [eg, od, b1, b2]
  have hW : sgn W1 (shT r0 c0 u) ≠ 35 := by rw [R.sg i]; exact hs
  cases ho : beyondI H V (u.1 + r0) (u.2.1 + c0) (dirT A1 u) with
  | some D =>
    refine .inl ⟨o0, o1, sh_inr i, D, ?_, ?_, rfl⟩
    · unfold outT
      rw [if_neg hW, R.dir i]
      exact ho
    · unfold stp
      rw [if_neg]
      intro q
      have := q.2.2
      rw [R.dir i] at this
      exact absurd (ho.symm.trans this) (by simp)
  | none =>
    refine .inr ⟨o0, o1, rfl, ?_, exit_out i hd.1 hd.2 hb⟩
    rw [stp_of (R.ins i) hW (by rw [R.dir i]; exact ho), R.dir i]
end
end Py

set_option Elab.async false
set_option linter.all false
set_option maxRecDepth 100000
set_option autoImplicit false
set_option maxHeartbeats 8000000
namespace Py
open PySem PySem.Spec L2
def ib__law_cells_a10 : ISs := (.cons (.asg (.nm 2) (.lst .nil)) (.cons (.for_ (.nm 3) (.rng1 (.bi .len (.cons (.var 0) .nil))) (.cons (.asg (.nm 2) (.bin .add (.var 2) (.lc [4] (.nm 4) (.rng1 (.bi .len (.cons (.ix (.var 0) (.cst (.int 0))) .nil))) (.cmp .isin (.ix (.ix (.var 0) (.var 3)) (.var 4)) (.var 1)) (.tup (.cons (.var 3) (.cons (.var 4) .nil)))))) .nil)) (.cons (.ret (.var 2)) .nil)))
noncomputable def fn__law_cells_a10 : DFn := ⟨"_law_cells", 2, false, callD (gam []) [] false 5 ib__law_cells_a10⟩
def ib_size_of : ISs := (.cons (.ret (.tup (.cons (.bi .len (.cons (.var 0) .nil)) (.cons (.bi .len (.cons (.ix (.var 0) (.cst (.int 0))) .nil)) .nil)))) .nil)
noncomputable def fn_size_of : DFn := ⟨"size_of", 1, false, callD (gam []) [] false 1 ib_size_of⟩
def ib_cells_with : ISs := (.cons (.asg (.tp (.cons (.nm 2) (.cons (.nm 3) .nil))) (.call 0 (.cons (.var 0) .nil))) (.cons (.ret (.lc2 [4, 5] (.nm 4) (.rng1 (.var 2)) [5] (.nm 5) (.rng1 (.var 3)) (.cmp .isin (.ix (.ix (.var 0) (.var 4)) (.var 5)) (.var 1)) (.tup (.cons (.var 4) (.cons (.var 5) .nil))))) .nil))
noncomputable def fn_cells_with : DFn := ⟨"cells_with", 2, false, callD (gam [fn_size_of]) [] false 6 ib_cells_with⟩
def ib_check_mirrors : ISs := (.cons (.ex (.call 0 (.cons (.var 0) .nil))) (.cons (.ite (.cmp .gt (.bi .len (.cons (.call 1 (.cons (.var 0) (.cons (.cst (.str [114, 102])) .nil))) .nil)) (.cst (.int 9))) (.cons .rse .nil) .nil) .nil))
noncomputable def fn_check_mirrors : DFn := ⟨"check_mirrors", 1, false, callD (gam [fn_check_plain, fn_cells_with]) [] false 1 ib_check_mirrors⟩
def ib_rolled : ISs := (.cons (.asg (.tp (.cons (.nm 3) (.cons (.nm 4) .nil))) (.call 0 (.cons (.var 0) .nil))) (.cons (.asg (.tp (.cons (.nm 5) (.cons (.nm 6) (.cons (.nm 7) .nil)))) (.call 1 (.cons (.var 3) (.cons (.var 4) (.cons (.var 1) .nil))))) (.cons (.whl (.cst (.bl true)) (.cons (.asg (.nm 8) (.ix (.ix (.var 0) (.var 5)) (.var 6))) (.cons (.ite (.cmp .eq (.var 8) (.cst (.str [35]))) (.cons (.ret (.tup (.cons (.cst .non) (.cons (.var 0) .nil)))) .nil) .nil) (.cons (.ite (.cmp .isin (.var 8) (.glb 0)) (.cons (.asg (.nm 0) (.call 4 (.cons (.var 0) (.cons (.var 5) (.cons (.var 6) (.cons (.ix (.glb 0) (.var 8)) .nil)))))) (.cons (.asg (.nm 7) (.call 5 (.cons (.ite (.var 2) (.ix (.glb 0) (.var 8)) (.var 8)) (.cons (.var 7) .nil)))) .nil)) .nil) (.cons (.asg (.nm 9) (.call 2 (.cons (.var 3) (.cons (.var 4) (.cons (.var 5) (.cons (.var 6) (.cons (.var 7) .nil))))))) (.cons (.ite (.cmp .isn (.var 9) (.cst .non)) (.cons (.ret (.tup (.cons (.var 9) (.cons (.var 0) .nil)))) .nil) .nil) (.cons (.asg (.tp (.cons (.nm 5) (.cons (.nm 6) (.cons (.nm 7) .nil)))) (.call 3 (.cons (.tup (.cons (.var 5) (.cons (.var 6) (.cons (.var 7) .nil)))) .nil))) .nil))))))) .nil)))
noncomputable def fn_rolled : DFn := ⟨"rolled", 3, false, callD (gam [fn_size_of, fn_begin, fn_beyond, fn_next_triple, fn_with_sign, fn_turn_at]) [(.dct [((.str [114]), (.str [102])), ((.str [102]), (.str [114]))])] false 10 ib_rolled⟩
def ib_ball : ISs := (.cons (.ex (.call 0 (.cons (.var 0) .nil))) (.cons (.ex (.call 1 (.cons (.var 0) (.cons (.var 1) .nil)))) (.cons (.ret (.call 2 (.cons (.var 0) (.cons (.var 1) (.cons (.cst (.bl false)) .nil))))) .nil)))
noncomputable def fn_ball : DFn := ⟨"ball", 2, false, callD (gam [fn_check_mirrors, fn_check_door, fn_rolled]) [] false 2 ib_ball⟩
def ib_after_balls : ISs := (.cons (.ex (.call 0 (.cons (.var 0) .nil))) (.cons (.asg (.nm 2) (.bin .sub (.call 1 (.cons (.bi .len (.cons (.var 0) .nil)) (.cons (.bi .len (.cons (.ix (.var 0) (.cst (.int 0))) .nil)) .nil))) (.cst (.int 1)))) (.cons (.ite (.or (.not (.isi (.var 1) .tuple)) (.or (.cmp .gt (.bi .len (.cons (.var 1) .nil)) (.cst (.int 30))) (.not (.bi .all (.cons (.lc [6] (.nm 6) (.seq (.var 1)) (.cst (.bl true)) (.call 3 (.cons (.var 6) (.cons (.cst (.int 0)) (.cons (.var 2) .nil))))) .nil))))) (.cons .rse .nil) .nil) (.cons (.asg (.nm 3) (.al (.lst .nil))) (.cons (.for_ (.nm 4) (.seq (.var 1)) (.cons (.asg (.tp (.cons (.nm 5) (.cons (.nm 0) .nil))) (.call 2 (.cons (.var 0) (.cons (.var 4) (.cons (.cst (.bl false)) .nil))))) (.cons (.ex (.mth .append (.var 3) (.cons (.var 5) .nil))) .nil))) (.cons (.ret (.tup (.cons (.bi .tuple (.cons (.var 3) .nil)) (.cons (.var 0) .nil)))) .nil))))))
noncomputable def fn_after_balls : DFn := ⟨"after_balls", 2, false, callD (gam [fn_check_mirrors, fn_doors_of, fn_rolled, fn_is_between]) [] false 7 ib_after_balls⟩
end Py

set_option Elab.async false
set_option linter.all false
set_option maxRecDepth 100000
set_option autoImplicit false
set_option maxHeartbeats 4000000
namespace Py
open PySem PySem.Spec L2
/-! ### cells with signs -/
def cellsD (l : List (Nat × Nat)) : D := .lst (l.map fun p => .tup [.int p.1, .int p.2])
theorem ok_size_of {b : Bx} {h w : Nat} {st : DSt} {Q : D → DSt → Prop} (k : OkB b h w) (q : Q (.tup [.int h, .int w]) st) : wF fn_size_of.F [bx b] st Q := by
  obtain ⟨r0, e0, l0⟩ := bx_len0 k
  have hh := k.hh; have w5 := k.w5; have h5 := k.h5
  have eb : bx b = .tup (b.map .str) := rfl
  unfold fn_size_of ib_size_of
  simp only [EV, reduceCtorEq, Nat.reduceAdd, Nat.reduceSub, if_true, if_false, ite_true, ite_false]
  rw [eb]
  simp only [EV, reduceCtorEq, Nat.reduceAdd, Nat.reduceSub, if_true, if_false, ite_true, ite_false]
  rw [List.length_map, hh, e0]
  simp only [EV, reduceCtorEq, Nat.reduceAdd, Nat.reduceSub, if_true, if_false, ite_true, ite_false]
  rw [l0]
  exact ⟨sz_of (by omega), sz_of (by omega), q⟩
theorem cells_len {b : Bx} {h w : Nat} {z : List Nat} : (cellsN b h w z).length ≤ h * w := by
  unfold cellsN
  have : ∀ l : List Nat, (l.flatMap fun i => ((List.range w).filter fun j => decide (cel b i j ∈ z)).map fun j => (i, j)).length ≤ l.length * w := by
    intro l
    induction l with
    | nil => simp
    | cons a l ih =>
      rw [List.flatMap_cons, List.length_append, List.length_map, List.length_cons, Nat.succ_mul]
      have := List.length_filter_le (fun j => decide (cel b a j ∈ z)) (List.range w)
      rw [List.length_range] at this
      omega
  have := this (List.range h)
  rw [List.length_range] at this
  exact this
theorem ok_cells_with {b : Bx} {h w : Nat} {z : List Nat} {st : DSt} {Q : D → DSt → Prop} (k : OkB b h w) (q : Q (cellsD (cellsN b h w z)) st) : wF fn_cells_with.F [bx b, .str z] st Q := by
  have hh := k.hh; have w5 := k.w5; have h5 := k.h5
  have eb : bx b = .tup (b.map .str) := rfl
  unfold fn_cells_with ib_cells_with
  simp only [EV, reduceCtorEq, Nat.reduceAdd, Nat.reduceSub, if_true, if_false, ite_true, ite_false]
  refine ok_size_of k ?_
  simp only [EV, reduceCtorEq, Nat.reduceAdd, Nat.reduceSub, if_true, if_false, ite_true, ite_false]
  refine ⟨rngOk_of (by omega) (by omega) (by omega) (by omega), ?_⟩
  rw [rangeL_0]
  refine wL_flatT _ (fun i => ((List.range w).filter fun j => decide (cel b i j ∈ z)).map fun (j : Nat) => .tup [.int (i : Int), .int (j : Int)]) (fun i hi R hR => ?_) ?_
  · have hi' : i < h := List.mem_range.mp hi
    unfold itm2
    simp only [EV, reduceCtorEq, Nat.reduceAdd, Nat.reduceSub, if_true, if_false, ite_true, ite_false]
    refine ⟨rngOk_of (by omega) (by omega) (by omega) (by omega), ?_⟩
    rw [rangeL_0]
    refine wL_filT _ (fun (j : Nat) => .tup [.int (i : Int), .int (j : Int)]) (fun j => decide (cel b i j ∈ z)) (fun j hj R hR => ?_) hR
    have hj' : j < w := List.mem_range.mp hj
    obtain ⟨r, q1, q2, q3, q4⟩ := k.cel hi' hj'
    unfold itm
    rw [eb]
    simp only [EV, reduceCtorEq, Nat.reduceAdd, Nat.reduceSub, if_true, if_false, ite_true, ite_false]
    rw [atI_nat', get_str q1]
    simp only [EV, reduceCtorEq, Nat.reduceAdd, Nat.reduceSub, if_true, if_false, ite_true, ite_false]
    refine ⟨sz_of (by omega), ?_⟩
    rw [atI_nat', q3]
    simp only [EV, reduceCtorEq, Nat.reduceAdd, Nat.reduceSub, if_true, if_false, ite_true, ite_false]
    split
    · rename_i c
      rw [if_pos c] at hR
      exact ⟨rfl, hR⟩
    · rename_i c
      rw [if_neg c] at hR
      exact hR
  · have e : ((List.range h).flatMap fun i => ((List.range w).filter fun j => decide (cel b i j ∈ z)).map fun (j : Nat) => D.tup [.int (i : Int), .int (j : Int)]) = (cellsN b h w z).map fun p => .tup [.int p.1, .int p.2] := by
      unfold cellsN
      rw [List.map_flatMap]
      simp [List.map_map, Function.comp_def]
    have hl := cells_len (b := b) (h := h) (w := w) (z := z)
    have : h * w ≤ 5 * 5 := Nat.mul_le_mul h5 w5
    rw [e]
    exact ⟨sz_of (by rw [List.length_map]; omega), (wfin_same rfl).mpr q⟩
theorem ok_check_mirrors {b : Bx} {h w : Nat} {st : DSt} {Q : D → DSt → Prop} (k : OkB b h w) (pl : PlainB b) (h9 : (cellsN b h w [114, 102]).length ≤ 9) (q : Q .non st) : wF fn_check_mirrors.F [bx b] st Q := by
  unfold fn_check_mirrors ib_check_mirrors
  simp only [EV, reduceCtorEq, Nat.reduceAdd, Nat.reduceSub, if_true, if_false, ite_true, ite_false]
  refine ok_check_plain k pl ?_
  try simp only [EV, reduceCtorEq, Nat.reduceAdd, Nat.reduceSub, if_true, if_false, ite_true, ite_false]
  refine ok_cells_with k ?_
  unfold cellsD
  simp only [EV, reduceCtorEq, Nat.reduceAdd, Nat.reduceSub, if_true, if_false, ite_true, ite_false]
  rw [List.length_map, decide_eq_false (by omega)]
  try simp only [EV, reduceCtorEq, Nat.reduceAdd, Nat.reduceSub, if_true, if_false, ite_true, ite_false]
  exact q
theorem ok_law_cells {b : Bx} {h w : Nat} {z : List Nat} {st : DSt} {Q : D → DSt → Prop} (k : OkB b h w) (q : Q (cellsD (cellsN b h w z)) st) : wF fn__law_cells_a10.F [bx b, .str z] st Q := by
  have hh := k.hh; have w5 := k.w5; have h5 := k.h5
  obtain ⟨r0, e0, l0⟩ := bx_len0 k
  have eb : bx b = .tup (b.map .str) := rfl
  unfold fn__law_cells_a10 ib__law_cells_a10
  simp only [EV, reduceCtorEq, Nat.reduceAdd, Nat.reduceSub, if_true, if_false, ite_true, ite_false]
  rw [eb]
  simp only [EV, reduceCtorEq, Nat.reduceAdd, Nat.reduceSub, if_true, if_false, ite_true, ite_false]
  rw [List.length_map, hh]
  refine ⟨sz_of (by omega), rngOk_of (by omega) (by omega) (by omega) (by omega), ?_⟩
  rw [rangeL_0]
  have cl : ∀ i, (((List.range i).flatMap fun i => ((List.range w).filter fun j => decide (cel b i j ∈ z)).map fun j => (i, j))).length ≤ i * w := fun i => cells_len (b := b) (h := i) (w := w) (z := z)
  refine for_inv (fun i env s => ∃ x3, env = [some (.tup (b.map .str)), some (.str z), some (.lst (((List.range i).flatMap fun i => ((List.range w).filter fun j => decide (cel b i j ∈ z)).map fun j => (i, j)).map fun p => .tup [.int p.1, .int p.2])), x3, none] ∧ s = st) ⟨none, rfl, rfl⟩ (fun i x env s hx hI => ?_) fun env s hI => ?_
  · obtain ⟨x3, rfl, rfl⟩ := hI
    have hi : i < h := by
      have := (List.getElem?_eq_some_iff.mp hx).1
      simpa using this
    have ex : x = .int i := by
      rw [List.getElem?_map, List.getElem?_range hi] at hx
      exact (Option.some.inj hx).symm
    subst ex
    simp only [EV, reduceCtorEq, Nat.reduceAdd, Nat.reduceSub, if_true, if_false, ite_true, ite_false]
    rw [e0]
    simp only [EV, reduceCtorEq, Nat.reduceAdd, Nat.reduceSub, if_true, if_false, ite_true, ite_false]
    rw [l0]
    refine ⟨sz_of (by omega), rngOk_of (by omega) (by omega) (by omega) (by omega), ?_⟩
    rw [rangeL_0]
    refine wL_filT _ (fun (j : Nat) => .tup [.int (i : Int), .int (j : Int)]) (fun j => decide (cel b i j ∈ z)) (fun j hj R hR => ?_) ?_
    · have hj' : j < w := List.mem_range.mp hj
      obtain ⟨r, q1, q2, q3, q4⟩ := k.cel hi hj'
      unfold itm
      simp only [EV, reduceCtorEq, Nat.reduceAdd, Nat.reduceSub, if_true, if_false, ite_true, ite_false]
      rw [atI_nat', get_str q1]
      simp only [EV, reduceCtorEq, Nat.reduceAdd, Nat.reduceSub, if_true, if_false, ite_true, ite_false]
      refine ⟨sz_of (by omega), ?_⟩
      rw [atI_nat', q3]
      simp only [EV, reduceCtorEq, Nat.reduceAdd, Nat.reduceSub, if_true, if_false, ite_true, ite_false]
      split
      · rename_i c
        rw [if_pos c] at hR
        exact ⟨rfl, hR⟩
      · rename_i c
        rw [if_neg c] at hR
        exact hR
    have c1 := cl i
    have : i * w ≤ 5 * 5 := Nat.mul_le_mul (by omega) w5
    have fl := List.length_filter_le (fun j => decide (cel b i j ∈ z)) (List.range w)
    rw [List.length_range] at fl
    rw [List.length_map, List.length_map]
    refine ⟨sz_of (by omega), sz_of (by omega), some (.int i), ?_, rfl⟩
    rw [List.range_succ, List.flatMap_append, List.map_append]
    simp [List.map_map, Function.comp_def]
  · obtain ⟨x3, rfl, rfl⟩ := hI
    rw [List.length_map, List.length_range]
    simp only [EV, reduceCtorEq, Nat.reduceAdd, Nat.reduceSub, if_true, if_false, ite_true, ite_false]
    exact q
end Py

set_option Elab.async false
set_option linter.all false
set_option maxRecDepth 100000
set_option autoImplicit false
set_option maxHeartbeats 8000000
namespace Py
open PySem PySem.Spec L2
end Py

set_option Elab.async false
set_option linter.all false
set_option maxRecDepth 100000
set_option autoImplicit false
set_option maxHeartbeats 4000000
namespace Py
open PySem PySem.Spec L2
/-! ### boxes put together, plainly -/
section
variable {W A : Bx} {H V h w r0 c0 : Nat}
end
end Py

set_option Elab.async false
set_option linter.all false
set_option maxRecDepth 100000
set_option autoImplicit false
set_option maxHeartbeats 4000000
namespace Py
open PySem PySem.Spec L2
/-! ### boxes put together, walked -/
end Py

set_option Elab.async false
set_option linter.all false
set_option maxRecDepth 100000
set_option autoImplicit false
set_option maxHeartbeats 4000000
namespace Py
open PySem PySem.Spec L2
/-! ### the greatest needless rows: each of them keeps the table -/
abbrev Cell := Nat × Nat
theorem ok_law_with7 {b : Bx} {h w i j c : Nat} {st : DSt} {Q : D → DSt → Prop} (k : OkB b h w) (hi : i < h) (hj : j < w) (q : Q (bx (setB b i j c)) st) : wF fn__law_with_539.F [bx b, .int i, .int j, .str [c]] st Q := with_body k hi hj q rfl
def rowsN (cs : List Cell) : List (List Cell) := cs.foldl (fun R c => R ++ R.map (· ++ [c])) [[]]
theorem rows_snoc {cs : List Cell} {c : Cell} : rowsN (cs ++ [c]) = rowsN cs ++ (rowsN cs).map (· ++ [c]) := by
  unfold rowsN
  rw [List.foldl_append]
  rfl
theorem rows_facts (cs : List Cell) : (∀ r ∈ rowsN cs, (∀ p ∈ r, p ∈ cs) ∧ r.length ≤ cs.length) ∧ (rowsN cs).length = 2 ^ cs.length ∧ ∃ R, rowsN cs = [] :: R ∧ ∀ r ∈ R, r ≠ [] := by
  have key : ∀ n, n ≤ cs.length → (∀ r ∈ rowsN (cs.take n), (∀ p ∈ r, p ∈ cs) ∧ r.length ≤ n) ∧ (rowsN (cs.take n)).length = 2 ^ n ∧ ∃ R, rowsN (cs.take n) = [] :: R ∧ ∀ r ∈ R, r ≠ [] := by
    intro n
    induction n with
    | zero =>
      intro _
      refine ⟨fun r hr => ?_, rfl, [], rfl, fun r hr => (by cases hr)⟩
      have e : r = [] := List.mem_singleton.mp hr
      subst e
      exact ⟨fun p hp => (by cases hp), Nat.le_refl _⟩
    | succ n ih =>
      intro hn
      obtain ⟨h1, h2, R, h3, h4⟩ := ih (by omega)
      have hg : cs[n]? = some cs[n] := List.getElem?_eq_getElem (by omega)
      rw [List.take_add_one, hg, Option.toList_some, rows_snoc]
      refine ⟨fun r hr => ?_, by rw [List.length_append, List.length_map, h2, Nat.pow_succ]; omega, R ++ (rowsN (cs.take n)).map (· ++ [cs[n]]), by rw [h3]; rfl, fun r hr => ?_⟩
      · rcases List.mem_append.mp hr with q | q
        · exact ⟨(h1 r q).1, by have := (h1 r q).2; omega⟩
        · obtain ⟨s, hs, rfl⟩ := List.mem_map.mp q
          refine ⟨fun p hp => ?_, by rw [List.length_append]; have := (h1 s hs).2; simp; omega⟩
          rcases List.mem_append.mp hp with q | q
          · exact (h1 s hs).1 p q
          · cases List.mem_singleton.mp q
            exact List.getElem_mem _
      · rcases List.mem_append.mp hr with q | q
        · exact h4 r q
        · obtain ⟨s, hs, rfl⟩ := List.mem_map.mp q
          simp
  have := key cs.length (Nat.le_refl _)
  rw [List.take_length] at this
  exact this
end Py

set_option Elab.async false
set_option linter.all false
set_option maxRecDepth 100000
set_option autoImplicit false
set_option maxHeartbeats 4000000
namespace Py
open PySem PySem.Spec L2
/-! ### sorted numbers -/
def qdN (h w : Nat) : Nat → Int → Int
  | 0, d => d
  | n + 1, d => quD (if n % 2 = 0 then h else w) (if n % 2 = 0 then w else h) (qdN h w n d)
def doorT (h w t : Nat) (d : Int) : Int := qdN h w (t % 4) (if t > 3 then exD h w d else d)
theorem perm_doors : ((List.range 6).all fun h => (List.range 6).all fun w => (List.range 8).all fun t => (((List.range (2 * (h + w))).map fun (d : Nat) => doorT h w t d).isPerm ((List.range (2 * (h + w))).map fun (d : Nat) => (d : Int)))) = true := by decide +kernel
theorem doors_perm {h w t : Nat} (hh : h < 6) (hw : w < 6) (ht : t < 8) : ((List.range (2 * (h + w))).map fun (d : Nat) => doorT h w t d).Perm ((List.range (2 * (h + w))).map fun (d : Nat) => (d : Int)) :=
  List.isPerm_iff.mp (all_lt (all_lt (all_lt perm_doors hh) hw) ht)
theorem qdSym {b : Bx} {h w : Nat} (k : OkB b h w) : ∀ n, ∃ T, Sym b h w (quN n b) (if n % 2 = 0 then h else w) (if n % 2 = 0 then w else h) T (qdN h w n)
  | 0 => ⟨id, Sym.id⟩
  | n + 1 => by
    obtain ⟨T, S⟩ := qdSym k n
    have S2 := S.comp (quSym (k.quN n))
    refine ⟨quT (if n % 2 = 0 then h else w) ∘ T, ?_⟩
    by_cases e : n % 2 = 0
    · have : qdN h w (n + 1) = quD h w ∘ qdN h w n := by
        funext d
        show quD (if n % 2 = 0 then h else w) (if n % 2 = 0 then w else h) (qdN h w n d) = _
        rw [if_pos e, if_pos e]
        rfl
      rw [this, if_neg (by omega), if_neg (by omega)]
      simp only [if_pos e] at S2 ⊢
      exact S2
    · have : qdN h w (n + 1) = quD w h ∘ qdN h w n := by
        funext d
        show quD (if n % 2 = 0 then h else w) (if n % 2 = 0 then w else h) (qdN h w n d) = _
        rw [if_neg e, if_neg e]
        rfl
      rw [this, if_pos (by omega), if_pos (by omega)]
      simp only [if_neg e] at S2 ⊢
      exact S2
theorem turnSym {b : Bx} {h w : Nat} (k : OkB b h w) (t : Nat) : ∃ T, Sym b h w (turnB b t) (if t % 2 = 0 then h else w) (if t % 2 = 0 then w else h) T (doorT h w t) := by
  have e : t % 4 % 2 = t % 2 := by omega
  unfold turnB
  by_cases ht : t > 3
  · obtain ⟨T, S⟩ := qdSym k.ex (t % 4)
    have S2 := (exSym k).comp S
    rw [e] at S2
    rw [if_pos ht]
    have : doorT h w t = qdN h w (t % 4) ∘ exD h w := by
      funext d
      unfold doorT
      rw [if_pos ht]
      rfl
    rw [this]
    exact ⟨_, S2⟩
  · obtain ⟨T, S⟩ := qdSym k (t % 4)
    rw [e] at S
    rw [if_neg ht]
    have : doorT h w t = qdN h w (t % 4) := by
      funext d
      unfold doorT
      rw [if_neg ht]
    rw [this]
    exact ⟨_, S⟩
theorem mirI_at {d : Int} (d0 : 0 ≤ d) (d3 : d ≤ 3) : atI [D.int 0, D.int 3, D.int 2, D.int 1] d = some (.int (mirI d)) := by
  rcases dir_cases d0 d3 with rfl | rfl | rfl | rfl <;> rfl
theorem ok_door_after {h w t : Nat} {d : Int} {st : DSt} {Q : D → DSt → Prop} (h1 : 1 ≤ h) (h5 : h ≤ 5) (w1 : 1 ≤ w) (w5 : w ≤ 5) (ht : t < 8) (d0 : 0 ≤ d) (d1 : d < 2 * (h + w)) (q : Q (.int (doorT h w t d)) st) : wF fn_door_after.F [.int h, .int w, .int t, .int d] st Q := by
  unfold fn_door_after ib_door_after
  simp only [EV, reduceCtorEq, Nat.reduceAdd, Nat.reduceSub, if_true, if_false, ite_true, ite_false]
  have e4 : (t : Int).fmod 4 = ((t % 4 : Nat) : Int) := fmod_nat (b := 4)
  have rgx : 0 ≤ exD h w d ∧ exD h w d < 2 * (h + w) := by unfold exD; split <;> omega
  have key : ∀ d' : Int, 0 ≤ d' → d' < 2 * (h + w) → d' = (if t > 3 then exD h w d else d) → ∀ x4 x5 x6 x7, decide ((4 : Int) ≠ 0) = true ∧ rngOk 0 ((t : Int).fmod 4) = true ∧ wFor (gam [fn_begin, fn_doors_of]) [] (.nm 7) (.cons (.asg (.nm 3) (.bin .mod (.bin .add (.var 3) (.var 0)) (.call 1 (.cons (.var 0) (.cons (.var 1) .nil))))) (.cons (.par [0, 1] (.cons (.var 1) (.cons (.var 0) .nil))) .nil)) (rangeL 0 ((t : Int).fmod 4))
      [some (.int h), some (.int w), some (.int t), some (.int d'), x4, x5, x6, x7] st fun o => wNx o (fun env' st' => ∃ d, env'[3]? = some (some d) ∧ wfin false st d st' Q) fun d st' => wfin false st d st' Q := by
    intro d' d0' d1' ed' x4 x5 x6 x7
    rw [e4]
    refine ⟨by decide, rngOk_of (by omega) (by omega) (by omega) (by omega), ?_⟩
    rw [rangeL_0]
    refine for_inv (fun i env s => ∃ x7, env = [some (.int ((if i % 2 = 0 then h else w : Nat) : Int)), some (.int ((if i % 2 = 0 then w else h : Nat) : Int)), some (.int t), some (.int (qdN h w i d')), x4, x5, x6, x7] ∧ s = st ∧ 0 ≤ qdN h w i d' ∧ qdN h w i d' < 2 * (h + w)) ⟨x7, rfl, rfl, d0', d1'⟩ (fun i x env s hx hI => ?_) fun env s hI => ?_
    · obtain ⟨x7, rfl, rfl, r0, r1⟩ := hI
      simp only [EV, reduceCtorEq, Nat.reduceAdd, Nat.reduceSub, if_true, if_false, ite_true, ite_false]
      refine ok_doors_of ?_
      simp only [EV, reduceCtorEq, Nat.reduceAdd, Nat.reduceSub, if_true, if_false, ite_true, ite_false]
      have hm : qdN h w (i + 1) d' = quD (if i % 2 = 0 then h else w) (if i % 2 = 0 then w else h) (qdN h w i d') := rfl
      by_cases c : i % 2 = 0
      · rw [if_pos c, if_pos c] at hm ⊢
        rw [quD_fm h1 r0 r1]
        refine ⟨by simp; omega, _, by rw [if_neg (by omega), if_neg (by omega), hm], ?_⟩
        rw [hm]; unfold quD; split <;> omega
      · rw [if_neg c, if_neg c] at hm ⊢
        rw [quD_fm w1 r0 (by omega)]
        refine ⟨by simp; omega, _, by rw [if_pos (by omega), if_pos (by omega), hm], ?_⟩
        rw [hm]; unfold quD; split <;> omega
    · obtain ⟨x7, rfl, rfl, _, _⟩ := hI
      rw [List.length_map, List.length_range]
      unfold doorT at q
      rw [← ed'] at q
      exact ⟨_, rfl, (wfin_same rfl).mpr q⟩
  by_cases ht3 : t > 3
  · rw [decide_eq_true (by omega), if_pos rfl]
    refine ok_begin ?_
    unfold tri
    simp only [EV, reduceCtorEq, Nat.reduceAdd, Nat.reduceSub, if_true, if_false, ite_true, ite_false]
    have hin := begin_ins (h := h) (w := w) (d := d) (by omega) (by omega) d0 d1
    rw [mirI_at hin.2.2.2.2.1 hin.2.2.2.2.2]
    simp only [EV, reduceCtorEq, Nat.reduceAdd, Nat.reduceSub, if_true, if_false, ite_true, ite_false]
    have bx : beginI h w (exD h w d) = exT w (beginI h w d) := by
      unfold beginI exD exT mirI
      (repeat' split) <;> simp_all <;> omega
    refine ⟨rfl, whl_inv (fun m env s => ∃ i : Nat, (i : Int) ≤ exD h w d ∧ m = (exD h w d - i).toNat ∧ env = [some (.int h), some (.int w), some (.int t), some (.int i), some (.int (exT w (beginI h w d)).1), some (.int (exT w (beginI h w d)).2.1), some (.int (exT w (beginI h w d)).2.2), none] ∧ s = st) _ ⟨0, rgx.1, rfl, rfl, rfl⟩ fun m env s hI => ?_⟩
    obtain ⟨i, i1, rfl, rfl, rfl⟩ := hI
    simp only [EV, reduceCtorEq, Nat.reduceAdd, Nat.reduceSub, if_true, if_false, ite_true, ite_false]
    refine ok_begin ?_
    simp only [EV, reduceCtorEq, Nat.reduceAdd, Nat.reduceSub, if_true, if_false, ite_true, ite_false]
    rw [show D.tup [D.int (exT w (beginI h w d)).1, D.int (exT w (beginI h w d)).2.1, D.int (exT w (beginI h w d)).2.2] = tri (exT w (beginI h w d)) from rfl, view_tri, wOp_some]
    refine ⟨rfl, ?_⟩
    rw [ne_tri, wOp_some]
    by_cases c : (i : Int) = exD h w d
    · rw [decide_eq_false (by rw [c, bx]; simp), if_neg (by simp), c]
      exact key (exD h w d) rgx.1 rgx.2 (by rw [if_pos ht3]) _ _ _ _
    · rw [decide_eq_true (by rw [← bx]; exact fun e => c (begin_inj (by omega) (by omega) (by omega) (by omega) rgx.1 rgx.2 e)), if_pos rfl]
      exact ⟨_, by omega, i + 1, by omega, rfl, rfl⟩
  · rw [decide_eq_false (by omega), if_neg (by simp)]
    exact key d d0 d1 (by rw [if_neg ht3]) _ _ _ _
theorem ok_turned_door {b : Bx} {h w t : Nat} {d : Int} {st : DSt} {Q : D → DSt → Prop} (k : OkB b h w) (ht : t < 8) (d0 : 0 ≤ d) (d1 : d < 2 * (h + w)) (q : Q (.int (doorT h w t d)) st) : wF fn_turned_door.F [bx b, .int t, .int d] st Q := by
  obtain ⟨r0, e0, l0⟩ := bx_len0 k
  have hh := k.hh; have w5 := k.w5; have h5 := k.h5; have h1 := k.h1; have w1 := k.w1
  have eb : bx b = .tup (b.map .str) := rfl
  unfold fn_turned_door ib_turned_door
  simp only [EV, reduceCtorEq, Nat.reduceAdd, Nat.reduceSub, if_true, if_false, ite_true, ite_false]
  refine ok_check_box k ?_
  try simp only [EV, reduceCtorEq, Nat.reduceAdd, Nat.reduceSub, if_true, if_false, ite_true, ite_false]
  refine ok_check_turn ht ?_
  try simp only [EV, reduceCtorEq, Nat.reduceAdd, Nat.reduceSub, if_true, if_false, ite_true, ite_false]
  refine ok_check_door k d0 d1 ?_
  rw [eb]
  simp only [EV, reduceCtorEq, Nat.reduceAdd, Nat.reduceSub, if_true, if_false, ite_true, ite_false]
  rw [List.length_map, hh]
  rw [e0]
  simp only [EV, reduceCtorEq, Nat.reduceAdd, Nat.reduceSub, if_true, if_false, ite_true, ite_false]
  rw [l0]
  exact ⟨sz_of (by omega), ok_door_after h1 h5 w1 w5 ht d0 d1 ((wfin_same rfl).mpr q)⟩
end Py

set_option Elab.async false
set_option linter.all false
set_option maxRecDepth 100000
set_option autoImplicit false
set_option maxHeartbeats 8000000
namespace Py
open PySem PySem.Spec L2
end Py

set_option Elab.async false
set_option linter.all false
set_option maxRecDepth 100000
set_option autoImplicit false
set_option maxHeartbeats 8000000
namespace Py
open PySem PySem.Spec L2
theorem ne_nil {xs : List D} (h : D.oks 59 xs = true) : cmpD .ne (.lst xs) (.lst []) = some (decide (xs ≠ [])) := by
  rw [c_ne, ok_lst h, ok_lst oks_nil, Bool.and_true, if_pos rfl, eqv_lst]
  cases xs with
  | nil => simp [D.eqvs]
  | cons a r => simp [D.eqvs]
theorem sz_0 : sz 0 = true := rfl
theorem sz_1 : sz 1 = true := rfl
theorem sz_2 : sz 2 = true := rfl
theorem sz_3 : sz 3 = true := rfl
theorem sz_4 : sz 4 = true := rfl
theorem sz_5 : sz 5 = true := rfl
theorem cells_mem {b : Bx} {h w : Nat} {z : List Nat} {p : Nat × Nat} : p ∈ cellsN b h w z ↔ p.1 < h ∧ p.2 < w ∧ cel b p.1 p.2 ∈ z := by
  obtain ⟨i, j⟩ := p
  unfold cellsN
  simp only [List.mem_flatMap, List.mem_range, List.mem_map, List.mem_filter, decide_eq_true_eq, Prod.mk.injEq]
  constructor
  · rintro ⟨i', h1, j', ⟨h2, h3⟩, rfl, rfl⟩
    exact ⟨h1, h2, h3⟩
  · rintro ⟨h1, h2, h3⟩
    exact ⟨i, h1, j, ⟨h2, h3⟩, rfl, rfl⟩
end Py

set_option Elab.async false
set_option linter.all false
set_option maxRecDepth 100000
set_option autoImplicit false
set_option maxHeartbeats 4000000
namespace Py
open PySem PySem.Spec L2
/-! ### tables behind turns -/
section
variable {h w t : Nat}
theorem doorT_onto (hh : h < 6) (hw : w < 6) (ht : t < 8) {d : Nat} (hd : d < 2 * (h + w)) : ∃ a : Nat, a < 2 * (h + w) ∧ doorT h w t a = d := by
  have : (d : Int) ∈ (List.range (2 * (h + w))).map fun (d : Nat) => doorT h w t d := (doors_perm hh hw ht).mem_iff.mpr (List.mem_map.mpr ⟨d, List.mem_range.mpr hd, rfl⟩)
  obtain ⟨a, ha, e⟩ := List.mem_map.mp this
  exact ⟨a, List.mem_range.mp ha, e⟩
end
/-! ### two boxes, walked -/
def oN : Option Nat → D
  | some i => .int i
  | none => .non
theorem find_first {p : Nat → Bool} {n i : Nat} (hi : i < n) (hp : p i = true) (hb : ∀ j, j < i → p j = false) : (List.range n).find? p = some i := by
  rw [List.find?_range_eq_some]
  exact ⟨hp, List.mem_range.mpr hi, fun j hj => by rw [hb j hj]; rfl⟩
end Py

set_option Elab.async false
set_option linter.all false
set_option maxRecDepth 100000
set_option autoImplicit false
set_option maxHeartbeats 8000000
namespace Py
open PySem PySem.Spec L2
end Py

set_option Elab.async false
set_option linter.all false
set_option maxRecDepth 100000
set_option autoImplicit false
set_option maxHeartbeats 4000000
namespace Py
open PySem PySem.Spec L2
/-! ### pieces put in, plainly -/
/-! ### all cells, given back as a new list -/
end Py

set_option Elab.async false
set_option linter.all false
set_option maxRecDepth 100000
set_option autoImplicit false
set_option maxHeartbeats 4000000
namespace Py
open PySem PySem.Spec L2
theorem pures_map {α : Type} {g : α → D} (hg : ∀ a, D.pure (g a) = true) : ∀ l : List α, D.pures (l.map g) = true
  | [] => rfl
  | a :: l => by rw [List.map_cons, D.pures, hg, pures_map hg l]; rfl
end Py

set_option Elab.async false
set_option linter.all false
set_option maxRecDepth 100000
set_option autoImplicit false
set_option maxHeartbeats 8000000
namespace Py
open PySem PySem.Spec L2
end Py

set_option Elab.async false
set_option linter.all false
set_option maxRecDepth 100000
set_option autoImplicit false
set_option maxHeartbeats 8000000
namespace Py
open PySem PySem.Spec L2
end Py

set_option Elab.async false
set_option linter.all false
set_option maxRecDepth 100000
set_option autoImplicit false
set_option maxHeartbeats 4000000
namespace Py
open PySem PySem.Spec L2
/-! ### the law's own turning -/
end Py

set_option Elab.async false
set_option linter.all false
set_option maxRecDepth 100000
set_option autoImplicit false
set_option maxHeartbeats 4000000
namespace Py
open PySem PySem.Spec L2
theorem plain_oth {c : Nat} (h : c ≠ 82 ∧ c ≠ 70) : OTH c ≠ 82 ∧ OTH c ≠ 70 := by
  unfold OTH
  (repeat' split) <;> omega
theorem PlainB.qu {b : Bx} {h w : Nat} (k : OkB b h w) (p : PlainB b) : PlainB (quB b) := fun r hr c hc => by
  obtain ⟨j, hj, rfl⟩ := List.mem_map.mp hr
  obtain ⟨i, hi, rfl⟩ := List.mem_map.mp hc
  rw [List.mem_range] at hj hi
  rw [k.wid] at hj
  rw [k.hh] at hi ⊢
  obtain ⟨r, q1, q2, q3, q4⟩ := k.cel (i := h - 1 - i) (j := j) (by omega) hj
  exact plain_oth (p r (List.mem_of_getElem? q1) _ (List.mem_of_getElem? q3))
theorem PlainB.ex {b : Bx} (p : PlainB b) : PlainB (exB b) := fun r hr c hc => by
  obtain ⟨r', hr', rfl⟩ := List.mem_map.mp hr
  obtain ⟨c', hc', rfl⟩ := List.mem_map.mp hc
  exact plain_oth (p r' hr' c' (by simpa using hc'))
theorem PlainB.quN {b : Bx} {h w : Nat} (k : OkB b h w) (p : PlainB b) : ∀ n, PlainB (Py.quN n b)
  | 0 => p
  | n + 1 => PlainB.qu (k.quN n) (PlainB.quN k p n)
theorem PlainB.turn {b : Bx} {h w : Nat} (k : OkB b h w) (p : PlainB b) (t : Nat) : PlainB (turnB b t) := by
  unfold turnB
  split
  · exact PlainB.quN k.ex p.ex _
  · exact PlainB.quN k p _
end Py

set_option Elab.async false
set_option linter.all false
set_option maxRecDepth 100000
set_option autoImplicit false
set_option maxHeartbeats 8000000
namespace Py
open PySem PySem.Spec L2
end Py

set_option Elab.async false
set_option linter.all false
set_option maxRecDepth 100000
set_option autoImplicit false
set_option maxHeartbeats 4000000
namespace Py
open PySem PySem.Spec L2
/-! ### light goes back the way it came -/
end Py

set_option Elab.async false
set_option linter.all false
set_option maxRecDepth 100000
set_option autoImplicit false
set_option maxHeartbeats 8000000
namespace Py
open PySem PySem.Spec L2
/-! ### rays of joined boxes: places, plainly -/
end Py

set_option Elab.async false
set_option linter.all false
set_option maxRecDepth 100000
set_option autoImplicit false
set_option maxHeartbeats 8000000
namespace Py
open PySem PySem.Spec L2
end Py

set_option Elab.async false
set_option linter.all false
set_option maxRecDepth 100000
set_option autoImplicit false
set_option maxHeartbeats 8000000
namespace Py
open PySem PySem.Spec L2
/-! ### rays that boxes have are rays -/
end Py

set_option Elab.async false
set_option linter.all false
set_option maxRecDepth 100000
set_option autoImplicit false
set_option maxHeartbeats 8000000
namespace Py
open PySem PySem.Spec L2
/-! ### joined rays of boxes are the rays of the box put together -/
end Py

set_option Elab.async false
set_option linter.all false
set_option maxRecDepth 100000
set_option autoImplicit false
set_option maxHeartbeats 8000000
namespace Py
open PySem PySem.Spec L2
end Py

set_option Elab.async false
set_option linter.all false
set_option maxRecDepth 100000
set_option autoImplicit false
set_option maxHeartbeats 8000000
namespace Py
open PySem PySem.Spec L2
end Py

set_option Elab.async false
set_option linter.all false
set_option maxRecDepth 100000
set_option autoImplicit false
set_option maxHeartbeats 8000000
namespace Py
open PySem PySem.Spec L2
end Py

set_option Elab.async false
set_option linter.all false
set_option maxRecDepth 100000
set_option autoImplicit false
set_option maxHeartbeats 8000000
namespace Py
open PySem PySem.Spec L2
end Py

set_option Elab.async false
set_option linter.all false
set_option maxRecDepth 100000
set_option autoImplicit false
set_option maxHeartbeats 4000000
namespace Py
open PySem PySem.Spec L2
/-! ### all boxes of a size -/
/-- the signs of free and of plain boxes, as given and ascending -/
def Sg (sg sg' : List Nat) : Prop := sg = [46, 114, 102] ∧ sg' = [46, 102, 114] ∨ sg = [35, 46, 114, 102] ∧ sg' = [35, 46, 102, 114]
theorem Sg.sub {sg sg' : List Nat} (s : Sg sg sg') : (∀ c ∈ sg', c ∈ SGN) ∧ (∀ c ∈ sg', c ≠ 82 ∧ c ≠ 70) ∧ sg'.length ≤ 4 ∧ 3 ≤ sg'.length := by
  rcases s with ⟨rfl, rfl⟩ | ⟨rfl, rfl⟩ <;> decide
/-! ### shots -/
abbrev Shot := Nat × Option Nat
def shD (s : Shot) : D := .tup [.int s.1, oN s.2]
structure OkS (l : List Shot) (m : Nat) : Prop where
  len : l.length ≤ 20
  lt : ∀ s ∈ l, s.1 < m ∧ ∀ o, s.2 = some o → o < m
  asc : l.Pairwise fun a b => a.1 < b.1
/-! ### the first with the fewest mirrors -/
/-! ### the law's own -/
end Py

set_option Elab.async false
set_option linter.all false
set_option maxRecDepth 100000
set_option autoImplicit false
set_option maxHeartbeats 8000000
namespace Py
open PySem PySem.Spec L2
theorem lawE {s : DSt} : wfin false [] (.bl true) s fun d _ => d = .bl true := by
  have h := wfin_cut (st := []) (st1 := []) (ex := s) (d := .bl true) (Q := fun d _ => d = .bl true) rfl rfl rfl rfl
  rwa [List.nil_append] at h
/-- the shots so far, behind the town -/
def ShI (n m i : Nat) (s : DSt) : Prop := ∃ (l : List Shot) (s' : DSt), s = s' ++ [.lst (l.map shD)] ∧ TW (8800 - 3 * i) n [] s' ∧ l.length ≤ i ∧ (∀ s ∈ l, s.1 < i ∧ ∀ o, s.2 = some o → o < m) ∧ l.Pairwise fun a b => a.1 < b.1
theorem ShI.skip {n m i : Nat} {l : List Shot} {s' : DSt} (T : TW (8800 - 3 * (i + 1)) n [] s') (ll : l.length ≤ i) (lo : ∀ s ∈ l, s.1 < i ∧ ∀ o, s.2 = some o → o < m) (la : l.Pairwise fun a b => a.1 < b.1) : ShI n m (i + 1) (s' ++ [.lst (l.map shD)]) :=
  ⟨l, s', rfl, T.mono (by omega), by omega, fun s hs => ⟨by have := (lo s hs).1; omega, (lo s hs).2⟩, la⟩
theorem ShI.push {n m i : Nat} {l : List Shot} {s' : DSt} {o : Option Nat} (T : TW (8800 - 3 * (i + 1)) n [] s') (ll : l.length ≤ i) (lo : ∀ s ∈ l, s.1 < i ∧ ∀ o, s.2 = some o → o < m) (la : l.Pairwise fun a b => a.1 < b.1) (ho : ∀ x, o = some x → x < m) :
    ShI n m (i + 1) (s' ++ [.lst (l.map shD ++ [.tup [.int i, oN o]])]) :=
  ⟨l ++ [(i, o)], s', by rw [List.map_append]; rfl, T.mono (by omega), by rw [List.length_append]; simp; omega, fun s hs => by
    rcases List.mem_append.mp hs with q | q
    · exact ⟨by have := (lo s q).1; omega, (lo s q).2⟩
    · cases List.mem_singleton.mp q
      exact ⟨by omega, ho⟩, by
    rw [List.pairwise_append]
    refine ⟨la, List.pairwise_singleton _ _, fun a ha b hb => ?_⟩
    cases List.mem_singleton.mp hb
    exact (lo a ha).1⟩
end Py

set_option Elab.async false
set_option linter.all false
set_option maxRecDepth 100000
set_option autoImplicit false
set_option maxHeartbeats 8000000
namespace Py
open PySem PySem.Spec L2
end Py

set_option Elab.async false
set_option linter.all false
set_option maxRecDepth 100000
set_option autoImplicit false
set_option maxHeartbeats 4000000
namespace Py
open PySem PySem.Spec L2
/-! ### tuples of places, by size -/
def rI (s : List Nat) : D := .tup (s.map fun (i : Nat) => .int (i : Int))
/-! ### sorting the keys, of places or of doors -/
end Py

set_option Elab.async false
set_option linter.all false
set_option maxRecDepth 100000
set_option autoImplicit false
set_option maxHeartbeats 4000000
namespace Py
open PySem PySem.Spec L2
end Py

set_option Elab.async false
set_option linter.all false
set_option maxRecDepth 100000
set_option autoImplicit false
set_option maxHeartbeats 8000000
namespace Py
open PySem PySem.Spec L2
end Py

set_option Elab.async false
set_option linter.all false
set_option maxRecDepth 100000
set_option autoImplicit false
set_option maxHeartbeats 4000000
namespace Py
open PySem PySem.Spec L2
/-! ### the rows of cells: some greatest one there always is -/
theorem cells_nodup {b : Bx} {h w : Nat} {z : List Nat} : (cellsN b h w z).Nodup := by
  unfold cellsN
  rw [List.Nodup, List.pairwise_flatMap]
  refine ⟨fun i _ => ?_, ?_⟩
  · rw [List.pairwise_map]
    refine (List.Pairwise.filter _ (List.nodup_range (n := w))).imp fun ne e => ne ?_
    exact (Prod.mk.inj e).2
  · refine (List.nodup_range (n := h)).imp fun ne x hx y hy e => ne ?_
    obtain ⟨_, _, rfl⟩ := List.mem_map.mp hx
    obtain ⟨_, _, rfl⟩ := List.mem_map.mp hy
    exact (Prod.mk.inj e).1
/-! ### what is put together -/
end Py

set_option Elab.async false
set_option linter.all false
set_option maxRecDepth 100000
set_option autoImplicit false
set_option maxHeartbeats 8000000
namespace Py
open PySem PySem.Spec L2
end Py

set_option Elab.async false
set_option linter.all false
set_option maxRecDepth 100000
set_option autoImplicit false
set_option maxHeartbeats 8000000
namespace Py
open PySem PySem.Spec L2
end Py

set_option Elab.async false
set_option linter.all false
set_option maxRecDepth 100000
set_option autoImplicit false
set_option maxHeartbeats 4000000
namespace Py
open PySem PySem.Spec L2
/-! ### a ball, rolled -/
theorem fl_same {b : Bx} {h w : Nat} (k : OkB b h w) {t : Tri} (i : Ins h w t) (e : flipN (sgn b t) = sgn b t) : fl b t = b := by
  refine (fl_ok k i).ext k fun i' j' _ _ => ?_
  rw [cel_fl k i]
  split
  · rename_i c
    rw [← c.1, ← c.2, ← sgn_cel k i, e]
  · rfl
noncomputable def ballD (bk : Bool) (h w : Nat) (b : Bx) (d : Int) : D := .tup [oI (ballO bk h w b d), bx (ballB bk h w b d)]
theorem plain_sgn {b : Bx} {h w : Nat} (k : OkB b h w) (p : PlainB b) {t : Tri} (i : Ins h w t) : sgn b t = 46 ∨ sgn b t = 35 ∨ sgn b t = 114 ∨ sgn b t = 102 := by
  have h1 := sgn_in k i
  have h2 := sgn_plain k p i
  simp [SGN] at h1
  omega
theorem ok_flip {b : Bx} {h w c : Nat} {t : Tri} {st : DSt} {Q : D → DSt → Prop} (k : OkB b h w) (i : Ins h w t) (hc : c = flipN (sgn b t)) (q : Q (bx (fl b t)) st) : wF fn_with_sign.F [.tup (b.map .str), .int t.1, .int t.2.1, .str [c]] st Q := by
  subst hc
  have l := ins_lt i
  rw [show t.1 = ((t.1.toNat : Nat) : Int) by have := i.1; omega, show t.2.1 = ((t.2.1.toNat : Nat) : Int) by have := i.2.2.1; omega]
  exact ok_with_sign k l.1 l.2 q
theorem dir_c {bk : Bool} {b : Bx} {h w : Nat} {t : Tri} (k : OkB b h w) (i : Ins h w t) : dirT (cB bk b t) t = turnI (if bk = true then flipN (sgn b t) else sgn b t) t.2.2 := by
  unfold dirT cB
  cases bk
  · rfl
  · show turnI (sgn (fl b t) t) _ = _
    rw [sgn_fl k i]
    rfl
theorem ok_rolled {b : Bx} {h w : Nat} {bk : Bool} {d : Int} {st : DSt} {Q : D → DSt → Prop} (k : OkB b h w) (pl : PlainB b) (d0 : 0 ≤ d) (d1 : d < 2 * (h + w)) (q : Q (ballD bk h w b d) st) : wF fn_rolled.F [bx b, .int d, .bl bk] st Q := by
  have hh := k.hh; have w5 := k.w5; have h5 := k.h5; have h1 := k.h1; have w1 := k.w1
  have P := ball_is (bk := bk) k d0 d1
  unfold fn_rolled ib_rolled
  simp only [EV, reduceCtorEq, Nat.reduceAdd, Nat.reduceSub, if_true, if_false, ite_true, ite_false]
  refine ok_size_of k ?_
  simp only [EV, reduceCtorEq, Nat.reduceAdd, Nat.reduceSub, if_true, if_false, ite_true, ite_false]
  refine ok_begin ?_
  unfold tri
  simp only [EV, reduceCtorEq, Nat.reduceAdd, Nat.reduceSub, if_true, if_false, ite_true, ite_false]
  refine whl_inv (fun m env s => ∃ (i : Nat) (b' : Bx) (t : Tri), (ballP bk h w b d)[i]? = some (b', t) ∧ m = (ballP bk h w b d).length - i ∧ ∃ x8 x9, env = [some (bx b'), some (.int d), some (.bl bk), some (.int h), some (.int w), some (.int t.1), some (.int t.2.1), some (.int t.2.2), x8, x9] ∧ s = st)
    _ ⟨0, b, _, P.1, rfl, none, none, rfl, rfl⟩ fun m env s hI => ?_
  obtain ⟨i, b', t, hi, rfl, x8, x9, rfl, rfl⟩ := hI
  have hp := List.mem_of_getElem? hi
  have hil := (List.getElem?_eq_some_iff.mp hi).1
  obtain ⟨k', ti⟩ : OkB b' h w ∧ Ins h w t := ball_all k d0 d1 _ hp
  have pl' : PlainB b' := plain_same k' k ((ball_same (bk := bk) k d0 d1).1 _ hp) pl
  obtain ⟨row, r1, r2, r3, r4⟩ := sgn_at k' ti
  have eb : bx b' = .tup (b'.map .str) := rfl
  have nx := P.2 i (b', t) hi
  have fin : stp (cB bk b' t) h w t = none → ballO bk h w b d = outT (cB bk b' t) h w t ∧ ballB bk h w b d = fl b' t := fun e => by
    have e1 : bst bk h w (b', t) = none := bst_no e
    rw [e1] at nx
    have := List.getElem?_eq_none_iff.mp nx
    have gl : (ballP bk h w b d).getLast? = some (b', t) := by
      rw [List.getLast?_eq_getElem?, show (ballP bk h w b d).length - 1 = i by omega, hi]
    exact ⟨by unfold ballO; rw [gl]; rfl, by unfold ballB; rw [gl]; rfl⟩
  have hd := dirT_rg (b := cB bk b' t) ti
  rw [eb]
  simp only [EV, reduceCtorEq, Nat.reduceAdd, Nat.reduceSub, if_true, if_false, ite_true, ite_false]
  rw [r1]
  simp only [EV, reduceCtorEq, Nat.reduceAdd, Nat.reduceSub, if_true, if_false, ite_true, ite_false]
  refine ⟨sz_of (by omega), ?_⟩
  rw [r3]
  simp only [EV, reduceCtorEq, Nat.reduceAdd, Nat.reduceSub, if_true, if_false, ite_true, ite_false]
  rw [eq_str1 (SGN_lt r4) (by omega), wOp_some]
  rcases plain_sgn k' pl' ti with e | e | e | e
  · have s35 : sgn b' t ≠ 35 := by omega
    have s35c : sgn (cB bk b' t) t ≠ 35 := fun z => s35 ((cB_35 k' ti).mp z)
    rw [show decide (sgn b' t = 35) = false from decide_eq_false s35, if_neg (by simp), e]
    rw [show inD (D.str [46]) (D.dct [(D.str [114], D.str [102]), (D.str [102], D.str [114])]) = some false from rfl, wOp_some, if_neg (by simp)]
    have ed : t.2.2 = dirT (cB bk b' t) t := by
      rw [dir_c k' ti, e]
      cases bk <;> rfl
    have ef : fl b' t = b' := fl_same k' ti (by rw [e]; rfl)
    rw [show wF fn_beyond.F [D.int h, D.int w, D.int t.1, D.int t.2.1, D.int t.2.2] = wF fn_beyond.F [D.int h, D.int w, D.int t.1, D.int t.2.1, D.int (dirT (cB bk b' t) t)] by rw [← ed]]
    refine ok_beyond ?_
    rw [view_oI, wOp_some]
    cases ho : beyondI h w t.1 t.2.1 (dirT (cB bk b' t) t) with
    | some o =>
      have hs : stp (cB bk b' t) h w t = none := by
        unfold stp
        rw [if_neg fun z => by have := z.2.2; rw [ho] at this; cases this]
      obtain ⟨f1, f2⟩ := fin hs
      have eo : ballO bk h w b d = some o := by
        rw [f1]
        unfold outT
        rw [if_neg s35c, ho]
      unfold ballD at q
      rw [eo, f2, ef] at q
      show if (!isNon (.int o)) = true then _ else _
      rw [if_pos (show (!isNon (D.int o)) = true from rfl)]
      exact ⟨rfl, (wfin_same rfl).mpr q⟩
    | none =>
      have hs := stp_of ti s35c ho
      have nx2 := nx
      rw [bst_of k' hs, ef] at nx2
      show if (!isNon .non) = true then _ else _
      rw [if_neg (by simp [isNon])]
      rw [show wF fn_next_triple.F [D.tup [D.int t.1, D.int t.2.1, D.int t.2.2]] = wF fn_next_triple.F [tri (t.1, t.2.1, dirT (cB bk b' t) t)] by unfold tri; rw [← ed]]
      refine ⟨rfl, ok_next (t := (t.1, t.2.1, dirT (cB bk b' t) t)) hd.1 hd.2 ?_⟩
      unfold tri
      simp only [EV, reduceCtorEq, Nat.reduceAdd, Nat.reduceSub, if_true, if_false, ite_true, ite_false]
      exact ⟨_, by omega, i + 1, _, _, nx2, rfl, _, _, rfl⟩
  · rw [show decide (sgn b' t = 35) = true from decide_eq_true e, if_pos rfl]
    have s35 : stp (cB bk b' t) h w t = none := by
      unfold stp
      rw [if_neg fun z => z.2.1 ((cB_35 k' ti).mpr e)]
    obtain ⟨f1, f2⟩ := fin s35
    have eo : ballO bk h w b d = none := by
      rw [f1]
      unfold outT
      rw [if_pos ((cB_35 k' ti).mpr e)]
    unfold ballD at q
    rw [eo, f2, fl_same k' ti (by rw [e]; rfl)] at q
    exact ⟨rfl, q⟩
  · have s35 : sgn b' t ≠ 35 := by omega
    have s35c : sgn (cB bk b' t) t ≠ 35 := fun z => s35 ((cB_35 k' ti).mp z)
    rw [show decide (sgn b' t = 35) = false from decide_eq_false s35, if_neg (by simp), e]
    rw [show inD (D.str [114]) (D.dct [(D.str [114], D.str [102]), (D.str [102], D.str [114])]) = some true from rfl, wOp_some, if_pos rfl]
    refine ⟨rfl, ?_⟩
    rw [show findK (D.str [114]) [(D.str [114], D.str [102]), (D.str [102], D.str [114])] = some (.str [102]) from rfl, wOp_some]
    refine ok_flip k' ti (by rw [e]; rfl) ?_
    have ed : dirT (cB bk b' t) t = turnI (if bk = true then 102 else 114) t.2.2 := by
      rw [dir_c k' ti, e]
      rfl
    cases bk
    · rw [if_neg (by simp)] at ed ⊢
      refine ok_turn_at (by omega) ti.2.2.2.2.1 ti.2.2.2.2.2 ?_
      rw [← ed]
      refine ok_beyond ?_
      rw [view_oI, wOp_some]
      cases ho : beyondI h w t.1 t.2.1 (dirT (cB false b' t) t) with
      | some o =>
        have hs : stp (cB false b' t) h w t = none := by
          unfold stp
          rw [if_neg fun z => by have := z.2.2; rw [ho] at this; cases this]
        obtain ⟨f1, f2⟩ := fin hs
        have eo : ballO false h w b d = some o := by
          rw [f1]
          unfold outT
          rw [if_neg s35c, ho]
        unfold ballD at q
        rw [eo, f2] at q
        show if (!isNon (.int o)) = true then _ else _
        rw [if_pos (show (!isNon (D.int o)) = true from rfl)]
        exact ⟨rfl, (wfin_same rfl).mpr q⟩
      | none =>
        have hs := stp_of ti s35c ho
        have nx2 := nx
        rw [bst_of k' hs] at nx2
        show if (!isNon .non) = true then _ else _
        rw [if_neg (by simp [isNon])]
        refine ⟨rfl, ok_next (t := (t.1, t.2.1, dirT (cB false b' t) t)) hd.1 hd.2 ?_⟩
        unfold tri
        simp only [EV, reduceCtorEq, Nat.reduceAdd, Nat.reduceSub, if_true, if_false, ite_true, ite_false]
        exact ⟨_, by omega, i + 1, _, _, nx2, rfl, _, _, rfl⟩
    · rw [if_pos rfl] at ed ⊢
      refine ⟨rfl, ?_⟩
      rw [wOp_some]
      refine ok_turn_at (by omega) ti.2.2.2.2.1 ti.2.2.2.2.2 ?_
      rw [← ed]
      refine ok_beyond ?_
      rw [view_oI, wOp_some]
      cases ho : beyondI h w t.1 t.2.1 (dirT (cB true b' t) t) with
      | some o =>
        have hs : stp (cB true b' t) h w t = none := by
          unfold stp
          rw [if_neg fun z => by have := z.2.2; rw [ho] at this; cases this]
        obtain ⟨f1, f2⟩ := fin hs
        have eo : ballO true h w b d = some o := by
          rw [f1]
          unfold outT
          rw [if_neg s35c, ho]
        unfold ballD at q
        rw [eo, f2] at q
        show if (!isNon (.int o)) = true then _ else _
        rw [if_pos (show (!isNon (D.int o)) = true from rfl)]
        exact ⟨rfl, (wfin_same rfl).mpr q⟩
      | none =>
        have hs := stp_of ti s35c ho
        have nx2 := nx
        rw [bst_of k' hs] at nx2
        show if (!isNon .non) = true then _ else _
        rw [if_neg (by simp [isNon])]
        refine ⟨rfl, ok_next (t := (t.1, t.2.1, dirT (cB true b' t) t)) hd.1 hd.2 ?_⟩
        unfold tri
        simp only [EV, reduceCtorEq, Nat.reduceAdd, Nat.reduceSub, if_true, if_false, ite_true, ite_false]
        exact ⟨_, by omega, i + 1, _, _, nx2, rfl, _, _, rfl⟩
  · have s35 : sgn b' t ≠ 35 := by omega
    have s35c : sgn (cB bk b' t) t ≠ 35 := fun z => s35 ((cB_35 k' ti).mp z)
    rw [show decide (sgn b' t = 35) = false from decide_eq_false s35, if_neg (by simp), e]
    rw [show inD (D.str [102]) (D.dct [(D.str [114], D.str [102]), (D.str [102], D.str [114])]) = some true from rfl, wOp_some, if_pos rfl]
    refine ⟨rfl, ?_⟩
    rw [show findK (D.str [102]) [(D.str [114], D.str [102]), (D.str [102], D.str [114])] = some (.str [114]) from rfl, wOp_some]
    refine ok_flip k' ti (by rw [e]; rfl) ?_
    have ed : dirT (cB bk b' t) t = turnI (if bk = true then 114 else 102) t.2.2 := by
      rw [dir_c k' ti, e]
      rfl
    cases bk
    · rw [if_neg (by simp)] at ed ⊢
      refine ok_turn_at (by omega) ti.2.2.2.2.1 ti.2.2.2.2.2 ?_
      rw [← ed]
      refine ok_beyond ?_
      rw [view_oI, wOp_some]
      cases ho : beyondI h w t.1 t.2.1 (dirT (cB false b' t) t) with
      | some o =>
        have hs : stp (cB false b' t) h w t = none := by
          unfold stp
          rw [if_neg fun z => by have := z.2.2; rw [ho] at this; cases this]
        obtain ⟨f1, f2⟩ := fin hs
        have eo : ballO false h w b d = some o := by
          rw [f1]
          unfold outT
          rw [if_neg s35c, ho]
        unfold ballD at q
        rw [eo, f2] at q
        show if (!isNon (.int o)) = true then _ else _
        rw [if_pos (show (!isNon (D.int o)) = true from rfl)]
        exact ⟨rfl, (wfin_same rfl).mpr q⟩
      | none =>
        have hs := stp_of ti s35c ho
        have nx2 := nx
        rw [bst_of k' hs] at nx2
        show if (!isNon .non) = true then _ else _
        rw [if_neg (by simp [isNon])]
        refine ⟨rfl, ok_next (t := (t.1, t.2.1, dirT (cB false b' t) t)) hd.1 hd.2 ?_⟩
        unfold tri
        simp only [EV, reduceCtorEq, Nat.reduceAdd, Nat.reduceSub, if_true, if_false, ite_true, ite_false]
        exact ⟨_, by omega, i + 1, _, _, nx2, rfl, _, _, rfl⟩
    · rw [if_pos rfl] at ed ⊢
      refine ⟨rfl, ?_⟩
      rw [wOp_some]
      refine ok_turn_at (by omega) ti.2.2.2.2.1 ti.2.2.2.2.2 ?_
      rw [← ed]
      refine ok_beyond ?_
      rw [view_oI, wOp_some]
      cases ho : beyondI h w t.1 t.2.1 (dirT (cB true b' t) t) with
      | some o =>
        have hs : stp (cB true b' t) h w t = none := by
          unfold stp
          rw [if_neg fun z => by have := z.2.2; rw [ho] at this; cases this]
        obtain ⟨f1, f2⟩ := fin hs
        have eo : ballO true h w b d = some o := by
          rw [f1]
          unfold outT
          rw [if_neg s35c, ho]
        unfold ballD at q
        rw [eo, f2] at q
        show if (!isNon (.int o)) = true then _ else _
        rw [if_pos (show (!isNon (D.int o)) = true from rfl)]
        exact ⟨rfl, (wfin_same rfl).mpr q⟩
      | none =>
        have hs := stp_of ti s35c ho
        have nx2 := nx
        rw [bst_of k' hs] at nx2
        show if (!isNon .non) = true then _ else _
        rw [if_neg (by simp [isNon])]
        refine ⟨rfl, ok_next (t := (t.1, t.2.1, dirT (cB true b' t) t)) hd.1 hd.2 ?_⟩
        unfold tri
        simp only [EV, reduceCtorEq, Nat.reduceAdd, Nat.reduceSub, if_true, if_false, ite_true, ite_false]
        exact ⟨_, by omega, i + 1, _, _, nx2, rfl, _, _, rfl⟩
end Py

set_option Elab.async false
set_option linter.all false
set_option maxRecDepth 100000
set_option autoImplicit false
set_option maxHeartbeats 4000000
namespace Py
open PySem PySem.Spec L2
/-! ### a ball, rolled by the law -/
end Py

set_option Elab.async false
set_option linter.all false
set_option maxRecDepth 100000
set_option autoImplicit false
set_option maxHeartbeats 4000000
namespace Py
open PySem PySem.Spec L2
/-! ### balls, from outside -/
theorem ok_ball {b : Bx} {h w : Nat} {d : Int} {st : DSt} {Q : D → DSt → Prop} (k : OkB b h w) (pl : PlainB b) (h9 : (cellsN b h w [114, 102]).length ≤ 9) (d0 : 0 ≤ d) (d1 : d < 2 * (h + w)) (q : Q (ballD false h w b d) st) : wF fn_ball.F [bx b, .int d] st Q := by
  unfold fn_ball ib_ball
  simp only [EV, reduceCtorEq, Nat.reduceAdd, Nat.reduceSub, if_true, if_false, ite_true, ite_false]
  refine ok_check_mirrors k pl h9 ?_
  try simp only [EV, reduceCtorEq, Nat.reduceAdd, Nat.reduceSub, if_true, if_false, ite_true, ite_false]
  refine ok_check_door k d0 d1 ?_
  try simp only [EV, reduceCtorEq, Nat.reduceAdd, Nat.reduceSub, if_true, if_false, ite_true, ite_false]
  refine ok_rolled k pl d0 d1 ?_
  try simp only [EV, reduceCtorEq, Nat.reduceAdd, Nat.reduceSub, if_true, if_false, ite_true, ite_false]
  exact q
theorem ok_law_boxL {B : Int} {la lb : Int} {ns : List Int} {sg : List Nat} {st : DSt} {Q : D → DSt → Prop} (a1 : 1 ≤ la) (a5 : la ≤ 5) (b1 : 1 ≤ lb) (b5 : lb ≤ 5) (T : TW (B + 27) ns.length [] st) (hn : ns.length ≤ 63) (hB : 0 ≤ B) (s1 : 1 ≤ sg.length) (s2 : sg.length ≤ 1000) (hs : ∀ c ∈ sg, c ∈ SGN)
    (q : ∀ (b : Bx) (h w : Nat) st', OkB b h w → (∀ r ∈ b, ∀ c ∈ r, c ∈ sg) → (h : Int) ≤ la → (w : Int) ≤ lb → TW B ns.length [] st' → Q (bx b) st') : wF fn__law_box_ea4.F [scr ns, twn, .int la, .int lb, .str sg] st Q := by
  unfold fn__law_box_ea4 ib__law_box_ea4
  simp only [EV, reduceCtorEq, Nat.reduceAdd, Nat.reduceSub, if_true, if_false, ite_true, ite_false]
  refine ok_draw (T.mono (B' := B + 26 + 1) (by omega)) hn (by omega) (by omega) (by omega) fun x s1' x0 x1 T1 => ?_
  simp only [EV, reduceCtorEq, Nat.reduceAdd, Nat.reduceSub, if_true, if_false, ite_true, ite_false]
  refine ok_draw (T1.mono (B' := B + 25 + 1) (by omega)) hn (by omega) (by omega) (by omega) fun y s2' y0 y1 T2 => ?_
  simp only [EV, reduceCtorEq, Nat.reduceAdd, Nat.reduceSub, if_true, if_false, ite_true, ite_false]
  obtain ⟨h, hh⟩ : ∃ h : Nat, 1 + x = h := ⟨(1 + x).toNat, by omega⟩
  obtain ⟨w, hw⟩ : ∃ w : Nat, 1 + y = w := ⟨(1 + y).toNat, by omega⟩
  rw [hh, hw]
  have hm : (h : Int) * w ≤ 25 := by
    have : h * w ≤ 5 * 5 := Nat.mul_le_mul (by omega) (by omega)
    omega
  refine ok_sized (T2.mono (B' := B + h * w) (by omega)) rfl hn hB (by omega) (by omega) s1 s2 fun b st' lb hb T3 => ?_
  refine (wfin_same (by rw [T3.len, T.len])).mpr (q b h w st' ⟨lb, fun r hr => (hb r hr).1, fun r hr c hc => hs c ((hb r hr).2 c hc), by omega, by omega, by omega, by omega⟩ (fun r hr => (hb r hr).2) (by omega) (by omega) T3)
end Py

set_option Elab.async false
set_option linter.all false
set_option maxRecDepth 100000
set_option autoImplicit false
set_option maxHeartbeats 4000000
namespace Py
open PySem PySem.Spec L2
/-! ### the boxes that balls make, level by level -/
abbrev Ent := Bx × List Nat
def look (F : List Ent) (b : Bx) : Option (List Nat) := (F.find? fun p => decide (p.1 = b)).map (·.2)
noncomputable def ballR (h w : Nat) (b : Bx) (row : List Nat) : Bx := row.foldl (fun c d => ballB false h w c (d : Nat)) b
open Classical in
noncomputable def stD (h w : Nat) (b : Bx) (S : List Ent × List Bx) (d : Nat) : List Ent × List Bx :=
  if ballB false h w b (d : Nat) ∈ S.1.map (·.1) then S else (S.1 ++ [(ballB false h w b (d : Nat), (look S.1 b).getD [] ++ [d])], S.2 ++ [ballB false h w b (d : Nat)])
noncomputable def doL (h w : Nat) (S : List Ent × List Bx) (b : Bx) : List Ent × List Bx := (List.range (2 * (h + w))).foldl (stD h w b) S
noncomputable def lev (h w : Nat) (S : List Ent × List Bx) : List Ent × List Bx := S.2.foldl (doL h w) (S.1, [])
noncomputable def itL (h w : Nat) (b : Bx) : Nat → List Ent × List Bx
  | 0 => ([(b, [])], [b])
  | n + 1 => lev h w (itL h w b n)
/-- what holds of what is found -/
structure GF (b0 : Bx) (h w : Nat) (F : List Ent) : Prop where
  nd : (F.map (·.1)).Nodup
  ok : ∀ p ∈ F, OkB p.1 h w ∧ SameK p.1 b0 h w ∧ (∀ d ∈ p.2, d < 2 * (h + w)) ∧ ballR h w b0 p.2 = p.1
  hd : ∃ r, F = (b0, []) :: r
  sh : ∀ p ∈ F, p.2.length < F.length
theorem look_some {F : List Ent} {b : Bx} {r : List Nat} (e : look F b = some r) : (b, r) ∈ F := by
  unfold look at e
  obtain ⟨p, hp, rfl⟩ := Option.map_eq_some_iff.mp e
  have h1 := List.find?_some hp
  have h2 := List.mem_of_find?_eq_some hp
  rw [decide_eq_true_eq] at h1
  rw [← h1]
  exact h2
theorem look_mem {F : List Ent} {b : Bx} : b ∈ F.map (·.1) ↔ ∃ r, look F b = some r := by
  constructor
  · intro h
    cases e : look F b with
    | some r => exact ⟨r, rfl⟩
    | none =>
      unfold look at e
      rw [Option.map_eq_none_iff, List.find?_eq_none] at e
      obtain ⟨p, hp, rfl⟩ := List.mem_map.mp h
      exact absurd (decide_eq_true rfl) (e p hp)
  · rintro ⟨r, e⟩
    exact List.mem_map.mpr ⟨_, look_some e, rfl⟩
theorem look_app {F E : List Ent} {b : Bx} (h : b ∈ F.map (·.1)) : look (F ++ E) b = look F b := by
  obtain ⟨r, e⟩ := look_mem.mp h
  rw [e]
  unfold look at *
  rw [List.find?_append]
  obtain ⟨p, hp, rfl⟩ := Option.map_eq_some_iff.mp e
  rw [hp]
  rfl
theorem GF.len {b0 : Bx} {h w : Nat} {F : List Ent} (g : GF b0 h w F) : 1 ≤ F.length := by
  obtain ⟨r, rfl⟩ := g.hd
  simp
/-- one ball more -/
theorem st_good {b0 b : Bx} {h w d : Nat} {F : List Ent} {L : List Bx} (g : GF b0 h w F) (hL : ∀ c ∈ L, c ∈ F.map (·.1)) (hb : b ∈ F.map (·.1)) (hd : d < 2 * (h + w)) :
    GF b0 h w (stD h w b (F, L) d).1 ∧ (∀ c ∈ (stD h w b (F, L) d).2, c ∈ (stD h w b (F, L) d).1.map (·.1)) ∧ (∃ E, (stD h w b (F, L) d).1 = F ++ E ∧ (stD h w b (F, L) d).2.length = L.length + E.length) := by
  unfold stD
  split
  · exact ⟨g, hL, [], by simp, by simp⟩
  · rename_i c
    have c : ballB false h w b (d : Nat) ∉ F.map (·.1) := c
    obtain ⟨r, e⟩ := look_mem.mp hb
    obtain ⟨k, s, dr, br⟩ := g.ok _ (look_some e)
    have bs := ball_same (bk := false) k (d := (d : Nat)) (by omega) (by omega)
    refine ⟨⟨?_, fun p hp => ?_, ?_, fun p hp => ?_⟩, fun x hx => ?_, _, rfl, by simp⟩
    · rw [List.map_append, List.nodup_append]
      refine ⟨g.nd, by simp, fun x hx y hy => ?_⟩
      rw [List.map_cons, List.map_nil, List.mem_singleton] at hy
      subst hy
      intro e
      have e : x = ballB false h w b (d : Nat) := e
      exact c (e ▸ hx)
    · rcases List.mem_append.mp hp with q | q
      · exact g.ok p q
      · cases List.mem_singleton.mp q
        refine ⟨bs.2.2, bs.2.1.tr s, fun x hx => ?_, ?_⟩
        · rw [e, Option.getD_some] at hx
          rcases List.mem_append.mp hx with q | q
          · exact dr x q
          · cases List.mem_singleton.mp q
            exact hd
        · rw [e, Option.getD_some]
          unfold ballR at br ⊢
          rw [List.foldl_append, br]
          rfl
    · obtain ⟨r, e⟩ := g.hd
      exact ⟨r ++ [_], by rw [e]; rfl⟩
    · show p.2.length < (F ++ [_]).length
      rw [List.length_append, List.length_singleton]
      rcases List.mem_append.mp hp with q | q
      · have := g.sh p q
        omega
      · cases List.mem_singleton.mp q
        have := g.sh _ (look_some e)
        rw [e, Option.getD_some, List.length_append, List.length_singleton]
        have : r.length < F.length := this
        omega
    · rw [List.map_append, List.mem_append]
      rcases List.mem_append.mp hx with q | q
      · exact .inl (hL x q)
      · cases List.mem_singleton.mp q
        exact .inr (by simp)
def Grow (F : List Ent) (L : List Bx) (S : List Ent × List Bx) : Prop := ∃ E, S.1 = F ++ E ∧ S.2.length = L.length + E.length
theorem Grow.tr {F : List Ent} {L : List Bx} {S T : List Ent × List Bx} (a : Grow F L S) (b : Grow S.1 S.2 T) : Grow F L T := by
  obtain ⟨E, e1, e2⟩ := a
  obtain ⟨E', e3, e4⟩ := b
  exact ⟨E ++ E', by rw [e3, e1, List.append_assoc], by rw [e4, e2, List.length_append]; omega⟩
theorem Grow.mem {F : List Ent} {L : List Bx} {S : List Ent × List Bx} (a : Grow F L S) {c : Bx} (h : c ∈ F.map (·.1)) : c ∈ S.1.map (·.1) := by
  obtain ⟨E, e1, _⟩ := a
  rw [e1, List.map_append]
  exact List.mem_append_left _ h
theorem do_take {b0 b : Bx} {h w : Nat} {F : List Ent} {L : List Bx} (g : GF b0 h w F) (hL : ∀ c ∈ L, c ∈ F.map (·.1)) (hb : b ∈ F.map (·.1)) : ∀ n, n ≤ 2 * (h + w) →
    GF b0 h w ((List.range n).foldl (stD h w b) (F, L)).1 ∧ (∀ c ∈ ((List.range n).foldl (stD h w b) (F, L)).2, c ∈ ((List.range n).foldl (stD h w b) (F, L)).1.map (·.1)) ∧ Grow F L ((List.range n).foldl (stD h w b) (F, L)) := by
  intro n
  induction n with
  | zero => exact fun _ => ⟨g, hL, [], by simp, by simp⟩
  | succ n ih =>
    intro hn
    obtain ⟨g1, g2, g3⟩ := ih (by omega)
    rw [List.range_succ, List.foldl_append]
    show GF b0 h w (stD h w b _ n).1 ∧ (∀ c ∈ (stD h w b _ n).2, c ∈ (stD h w b _ n).1.map (·.1)) ∧ Grow F L (stD h w b _ n)
    obtain ⟨r1, r2, r3⟩ := st_good (d := n) g1 g2 (g3.mem hb) (by omega)
    exact ⟨r1, r2, g3.tr r3⟩
theorem lev_take {b0 : Bx} {h w : Nat} {F : List Ent} {V : List Bx} (g : GF b0 h w F) (hV : ∀ c ∈ V, c ∈ F.map (·.1)) : ∀ n,
    GF b0 h w ((V.take n).foldl (doL h w) (F, [])).1 ∧ (∀ c ∈ ((V.take n).foldl (doL h w) (F, [])).2, c ∈ ((V.take n).foldl (doL h w) (F, [])).1.map (·.1)) ∧ Grow F [] ((V.take n).foldl (doL h w) (F, [])) := by
  intro n
  induction n with
  | zero => exact ⟨g, fun c h => absurd h List.not_mem_nil, [], by simp, by simp⟩
  | succ n ih =>
    obtain ⟨g1, g2, g3⟩ := ih
    by_cases hn : n < V.length
    · rw [List.take_add_one, List.getElem?_eq_getElem hn, Option.toList_some, List.foldl_append]
      obtain ⟨r1, r2, r3⟩ := do_take (b := V[n]) g1 g2 (g3.mem (hV _ (List.getElem_mem hn))) _ (Nat.le_refl _)
      exact ⟨r1, r2, g3.tr r3⟩
    · rw [List.take_of_length_le (by omega)]
      rw [List.take_of_length_le (by omega)] at g1 g2 g3
      exact ⟨g1, g2, g3⟩
theorem it_good {b0 : Bx} {h w : Nat} (k : OkB b0 h w) : ∀ n, GF b0 h w (itL h w b0 n).1 ∧ (∀ c ∈ (itL h w b0 n).2, c ∈ (itL h w b0 n).1.map (·.1))
  | 0 => ⟨⟨by simp [itL], fun p hp => by
      cases List.mem_singleton.mp hp
      exact ⟨k, fun _ _ _ _ => rfl, fun d hd => absurd hd List.not_mem_nil, rfl⟩, ⟨[], rfl⟩, fun p hp => by
      cases List.mem_singleton.mp hp
      simp [itL]⟩, fun c hc => by simpa [itL] using hc⟩
  | n + 1 => by
    obtain ⟨g1, g2⟩ := it_good k n
    have := lev_take g1 g2 (itL h w b0 n).2.length
    rw [List.take_length] at this
    exact ⟨this.1, this.2.1⟩
theorem it_grow {b0 : Bx} {h w : Nat} (k : OkB b0 h w) (n : Nat) : ∃ E, (itL h w b0 (n + 1)).1 = (itL h w b0 n).1 ++ E ∧ (itL h w b0 (n + 1)).2.length = E.length := by
  obtain ⟨g1, g2⟩ := it_good k n
  have := lev_take g1 g2 (itL h w b0 n).2.length
  rw [List.take_length] at this
  obtain ⟨E, e1, e2⟩ := this.2.2
  exact ⟨E, e1, e2.trans (Nat.zero_add _)⟩
theorem it_pre {b0 : Bx} {h w : Nat} (k : OkB b0 h w) (n : Nat) : ∀ m, ∃ E, (itL h w b0 (n + m)).1 = (itL h w b0 n).1 ++ E
  | 0 => ⟨[], by simp⟩
  | m + 1 => by
    obtain ⟨E, e⟩ := it_pre k n m
    obtain ⟨E', e', _⟩ := it_grow k (n + m)
    exact ⟨E ++ E', by rw [← List.append_assoc, ← e]; exact e'⟩
theorem it_stop {b0 : Bx} {h w n : Nat} (e : (itL h w b0 n).2 = []) : ∀ m, itL h w b0 (n + m) = itL h w b0 n
  | 0 => rfl
  | m + 1 => by
    show lev h w (itL h w b0 (n + m)) = _
    rw [it_stop e m]
    unfold lev
    rw [e]
    exact Prod.ext rfl e.symm
/-! ### there are no more than two for each mirror -/
theorem sub_rows (cs : List Cell) : ∀ r, r.Sublist cs → r ∈ rowsN cs := by
  have key : ∀ n, ∀ r, r.Sublist (cs.take n) → r ∈ rowsN (cs.take n) := by
    intro n
    induction n with
    | zero =>
      intro r hr
      rw [List.take_zero] at hr ⊢
      cases List.sublist_nil.mp hr
      exact List.mem_singleton.mpr rfl
    | succ n ih =>
      intro r hr
      by_cases hn : n < cs.length
      · rw [List.take_add_one, List.getElem?_eq_getElem hn, Option.toList_some] at hr ⊢
        rw [rows_snoc, List.mem_append]
        obtain ⟨a, b, rfl, ha, hb⟩ := List.sublist_append_iff.mp hr
        cases hb with
        | cons _ hb =>
          cases List.sublist_nil.mp hb
          left
          rw [List.append_nil]
          exact ih a ha
        | cons_cons _ hb =>
          cases List.sublist_nil.mp hb
          right
          exact List.mem_map.mpr ⟨a, ih a ha, rfl⟩
      · rw [List.take_of_length_le (by omega)] at hr ⊢
        rw [List.take_of_length_le (by omega)] at ih
        exact ih r hr
  intro r hr
  have := key cs.length r (by rwa [List.take_length])
  rwa [List.take_length] at this
theorem keys_few {b0 : Bx} {h w : Nat} {F : List Ent} (k : OkB b0 h w) (pl : PlainB b0) (g : GF b0 h w F) : F.length ≤ 2 ^ (cellsN b0 h w [114, 102]).length := by
  have e := (rows_facts (cellsN b0 h w [114, 102])).2.1
  rw [← e]
  let f : Bx → List Cell := fun a => (cellsN b0 h w [114, 102]).filter fun p => decide (cel a p.1 p.2 = 114)
  have inj : ∀ p ∈ F, ∀ q ∈ F, f p.1 = f q.1 → p.1 = q.1 := by
    intro p hp q hq e
    obtain ⟨kp, sp, _⟩ := g.ok p hp
    obtain ⟨kq, sq, _⟩ := g.ok q hq
    refine kp.ext kq fun i j hi hj => ?_
    have a1 := sp i j hi hj
    have a2 := sq i j hi hj
    unfold kin at a1 a2
    by_cases m : cel b0 i j ∈ [114, 102]
    · have hm : (i, j) ∈ cellsN b0 h w [114, 102] := cells_mem.mpr ⟨hi, hj, m⟩
      have e1 : (i, j) ∈ f p.1 ↔ cel p.1 i j = 114 := by
        show (i, j) ∈ List.filter _ _ ↔ _
        rw [List.mem_filter, decide_eq_true_eq]
        exact ⟨fun q => q.2, fun q => ⟨hm, q⟩⟩
      have e2 : (i, j) ∈ f q.1 ↔ cel q.1 i j = 114 := by
        show (i, j) ∈ List.filter _ _ ↔ _
        rw [List.mem_filter, decide_eq_true_eq]
        exact ⟨fun q => q.2, fun q => ⟨hm, q⟩⟩
      rw [e, e2] at e1
      simp only [List.mem_cons, List.not_mem_nil, or_false] at m
      by_cases z : cel p.1 i j = 114
      · rw [z, e1.mpr z]
      · have z2 : cel q.1 i j ≠ 114 := fun y => z (e1.mp y)
        have get : ∀ x y : Nat, (y = 114 ∨ y = 102) → x ≠ 114 → (if x = 102 then 114 else x) = (if y = 102 then 114 else y) → x = 102 := by
          intro x y hy hx e
          by_cases c : x = 102
          · exact c
          · rw [if_neg c] at e
            rcases hy with rfl | rfl <;> simp at e <;> omega
        rw [get _ _ m z a1, get _ _ m z2 a2]
    · simp only [List.mem_cons, List.not_mem_nil, or_false, not_or] at m
      rw [if_neg m.2] at a1 a2
      split at a1 <;> split at a2 <;> omega
  have nd : (F.map fun p => f p.1).Nodup := by
    have n0 := g.nd
    rw [List.Nodup, List.pairwise_map] at n0 ⊢
    exact List.Pairwise.imp_of_mem (fun {a b} ha hb ne e => ne (inj a ha b hb e)) n0
  have := nodup_le nd (m := rowsN (cellsN b0 h w [114, 102])) fun x hx => by
    obtain ⟨p, _, rfl⟩ := List.mem_map.mp hx
    exact sub_rows _ _ List.filter_sublist
  rwa [List.length_map] at this
end Py

set_option Elab.async false
set_option linter.all false
set_option maxRecDepth 100000
set_option autoImplicit false
set_option maxHeartbeats 8000000
namespace Py
open PySem PySem.Spec L2
def ib_reached_from : ISs := (.cons (.par [2, 3] (.cons (.al (.dct (.cons (.var 0) (.cons (.tup .nil) .nil)))) (.cons (.lst (.cons (.var 0) .nil)) .nil))) (.cons (.whl (.and (.cmp .ne (.var 3) (.lst .nil)) (.cmp .nin (.var 1) (.var 2))) (.cons (.asg (.nm 4) (.al (.lst .nil))) (.cons (.for_ (.nm 5) (.seq (.var 3)) (.cons (.for_ (.nm 6) (.rng1 (.call 0 (.cons (.bi .len (.cons (.var 0) .nil)) (.cons (.bi .len (.cons (.ix (.var 0) (.cst (.int 0))) .nil)) .nil)))) (.cons (.asg (.nm 7) (.ix (.call 1 (.cons (.var 5) (.cons (.var 6) (.cons (.cst (.bl false)) .nil)))) (.cst (.int 1)))) (.cons (.ite (.cmp .nin (.var 7) (.var 2)) (.cons (.asg (.sub (.var 2) (.var 7)) (.bin .add (.ix (.var 2) (.var 5)) (.tup (.cons (.var 6) .nil)))) (.cons (.ex (.mth .append (.var 4) (.cons (.var 7) .nil))) .nil)) .nil) .nil))) .nil)) (.cons (.frz 4) (.cons (.asg (.nm 3) (.var 4)) .nil))))) (.cons (.ret (.var 2)) .nil)))
noncomputable def fn_reached_from : DFn := ⟨"reached_from", 2, false, callD (gam [fn_doors_of, fn_rolled]) [] false 8 ib_reached_from⟩
def ib_count_reached : ISs := (.cons (.ex (.call 0 (.cons (.var 0) .nil))) (.cons (.ret (.bi .len (.cons (.call 1 (.cons (.var 0) (.cons (.cst .non) .nil))) .nil))) .nil))
noncomputable def fn_count_reached : DFn := ⟨"count_reached", 1, false, callD (gam [fn_check_mirrors, fn_reached_from]) [] false 1 ib_count_reached⟩
def ib_fewest_balls : ISs := (.cons (.ex (.call 0 (.cons (.var 0) .nil))) (.cons (.ex (.call 1 (.cons (.var 1) .nil))) (.cons (.ite (.cmp .ne (.call 2 (.cons (.var 0) .nil)) (.call 2 (.cons (.var 1) .nil))) (.cons .rse .nil) .nil) (.cons (.ret (.mth .get (.call 3 (.cons (.var 0) (.cons (.var 1) .nil))) (.cons (.var 1) .nil))) .nil))))
noncomputable def fn_fewest_balls : DFn := ⟨"fewest_balls", 2, false, callD (gam [fn_check_mirrors, fn_check_plain, fn_size_of, fn_reached_from]) [] false 2 ib_fewest_balls⟩
end Py

set_option Elab.async false
set_option linter.all false
set_option maxRecDepth 100000
set_option autoImplicit false
set_option maxHeartbeats 4000000
namespace Py
open PySem PySem.Spec L2
/-! ### what is found, as a dict -/
def kvF (F : List Ent) : List (D × D) := F.map fun p => (bx p.1, rI p.2)
theorem nkeys_strs : ∀ l : List (List Nat), ∃ ks, nkeys (l.map D.str) = some ks
  | [] => ⟨[], rfl⟩
  | a :: l => by
    obtain ⟨ks, e⟩ := nkeys_strs l
    refine ⟨.text ⟨a.toArray⟩ :: ks, ?_⟩
    rw [List.map_cons, nkeys, e]
    rfl
theorem key_bx {b : Bx} {h w : Nat} (k : OkB b h w) : keyOk (bx b) = true := by
  unfold keyOk
  rw [bx_ok k, Bool.true_and]
  obtain ⟨ks, e⟩ := nkeys_strs b
  unfold bx
  rw [nkey, e]
  rfl
theorem fit_bx {b : Bx} {h w : Nat} {F : List Ent} (k : OkB b h w) : fitK (bx b) (kvF F) = true := by
  unfold fitK kvF
  rw [key_bx k, Bool.true_and, List.all_map, List.all_eq_true]
  intro x _
  rfl
theorem has_F {b : Bx} {F : List Ent} : hasK (bx b) (kvF F) = decide (b ∈ F.map (·.1)) := by
  unfold hasK kvF
  rw [List.any_map, Bool.eq_iff_iff, List.any_eq_true, decide_eq_true_eq, List.mem_map]
  constructor
  · rintro ⟨x, hx, e⟩
    have e : D.eqv (bx x.1) (bx b) = true := e
    rw [bx_eqv, decide_eq_true_eq] at e
    exact ⟨x, hx, e⟩
  · rintro ⟨x, hx, rfl⟩
    refine ⟨x, hx, ?_⟩
    show D.eqv (bx x.1) (bx x.1) = true
    rw [bx_eqv]
    simp
theorem find_F {b : Bx} {F : List Ent} : findK (bx b) (kvF F) = (look F b).map rI := by
  unfold findK kvF look
  rw [List.find?_map]
  have : ((fun p : D × D => D.eqv p.1 (bx b)) ∘ fun p : Ent => (bx p.1, rI p.2)) = fun p => decide (p.1 = b) := by
    funext p
    exact bx_eqv
  rw [this, Option.map_map, Option.map_map]
  rfl
theorem in_F {b : Bx} {h w : Nat} {F : List Ent} (k : OkB b h w) : inD (bx b) (.dct (kvF F)) = some (decide (b ∈ F.map (·.1))) := by
  show (if fitK (bx b) (kvF F) = true then some (hasK (bx b) (kvF F)) else _) = _
  rw [if_pos (fit_bx k), has_F]
theorem in_non {F : List Ent} : inD .non (.dct (kvF F)) = some false := by
  show (if fitK .non (kvF F) = true then some (hasK .non (kvF F)) else if (isNon .non && (kvF F).all fun p => isTupD p.1) = true then some false else none) = _
  split
  · congr 1
    unfold hasK kvF
    rw [List.any_map, Bool.eq_false_iff, ne_eq, List.any_eq_true]
    rintro ⟨x, _, e⟩
    cases e
  · rw [if_pos]
    unfold kvF
    rw [List.all_map]
    show (true && _) = true
    rw [Bool.true_and, List.all_eq_true]
    intro x _
    rfl
theorem ix_F {b : Bx} {h w : Nat} {F : List Ent} {r : List Nat} (k : OkB b h w) (e : look F b = some r) : ixD (.dct (kvF F)) (bx b) = some (rI r) := by
  show (if fitK (bx b) (kvF F) = true then findK (bx b) (kvF F) else none) = _
  rw [if_pos (fit_bx k), find_F, e]
  rfl
theorem put_mid {s r : DSt} {n h w : Nat} {F : List Ent} {b : Bx} {row : List Nat} (k : OkB b h w) (hn : s.length = n) (hb : b ∉ F.map (·.1)) (hz : F.length < 1000) :
    subSet (s ++ .dct (kvF F) :: r) (.ref n) (bx b) (rI row) = some (s ++ .dct (kvF (F ++ [(b, row)])) :: r) := by
  subst hn
  have put : putKD (kvF F) (bx b) (rI row) = kvF (F ++ [(b, row)]) := by
    unfold putKD
    rw [has_F, decide_eq_false hb, if_neg (by simp)]
    unfold kvF
    rw [List.map_append]
    rfl
  have len : (kvF F).length = F.length := List.length_map _
  simp only [subSet, List.getElem?_append_right (Nat.le_refl _), Nat.sub_self, List.getElem?_cons_zero, setK, fit_bx k, len, sz_of (show F.length + 1 ≤ 100000 by omega), Bool.and_self, if_true, put, Option.map_some, setO]
  rw [List.set_append_right _ _ (Nat.le_refl _)]
  simp
theorem view_mid {s r : DSt} {n : Nat} {kvs : List (D × D)} (hn : s.length = n) : view (s ++ .dct kvs :: r) (.ref n) = some (.dct kvs) := by
  subst hn
  simp [view]
theorem mid_app {s r : DSt} {o x : O} : (s ++ o :: r) ++ [x] = s ++ o :: (r ++ [x]) := by simp
theorem mid_len {s r : DSt} {o : O} : (s ++ o :: r).length = s.length + 1 + r.length := by simp; omega
theorem view_mlst {s r : DSt} {o : O} {m : Nat} {xs : List D} (hm : m = s.length + 1 + r.length) : view (s ++ o :: (r ++ [.lst xs])) (.ref m) = some (.lst xs) := by
  rw [← mid_app]
  exact view_end (by rw [mid_len]; exact hm.symm)
theorem app_mid {s r : DSt} {o : O} {m : Nat} {xs : List D} {d : D} (hm : m = s.length + 1 + r.length) (hz : xs.length < 100000) : mthD .append (.ref m) [d] (s ++ o :: (r ++ [.lst xs])) = some (.non, s ++ o :: (r ++ [.lst (xs ++ [d])])) := by
  rw [← mid_app, ← mid_app]
  exact app_end (by rw [mid_len]; exact hm.symm) hz
theorem frz_mid {env : DEnv} {i m : Nat} {s r : DSt} {o : O} {xs : List D} (hm : m = s.length + 1 + r.length) (he : env[i]? = some (some (.ref m))) : frzV env i (s ++ o :: (r ++ [.lst xs])) = some (env.set i (some (.lst xs)), s ++ o :: (r ++ [.dead])) := by
  rw [← mid_app, frz_at he (by rw [hm, ← mid_len, List.getElem?_concat_length])]
  congr 2
  rw [hm, ← mid_len, List.set_append_right _ _ (Nat.le_refl _)]
  simp
theorem ballR_ok {h w : Nat} : ∀ (row : List Nat) {b : Bx}, OkB b h w → (∀ d ∈ row, d < 2 * (h + w)) → OkB (ballR h w b row) h w ∧ SameK (ballR h w b row) b h w
  | [], b, k, _ => ⟨k, fun _ _ _ _ => rfl⟩
  | d :: row, b, k, hr => by
    have hd := hr d List.mem_cons_self
    have bs := ball_same (bk := false) k (d := (d : Nat)) (by omega) (by omega)
    obtain ⟨r1, r2⟩ := ballR_ok row bs.2.2 fun x hx => hr x (List.mem_cons_of_mem _ hx)
    exact ⟨r1, r2.tr bs.2.1⟩
theorem few_rest {b c : Bx} {h w n : Nat} (h1 : ∀ i j, i < h → j < w → (i, j) ∉ (cellsN b h w [114, 102]).drop n → cel c i j = cel b i j) (h2 : ∀ p ∈ (cellsN b h w [114, 102]).drop n, cel c p.1 p.2 ∉ [114, 102]) : (cellsN c h w [114, 102]).length ≤ n := by
  refine Nat.le_trans (nodup_le cells_nodup (m := (cellsN b h w [114, 102]).filter fun p => decide (p ∉ (cellsN b h w [114, 102]).drop n)) fun p hp => ?_) (few_left (cellsN b h w [114, 102]) n)
  obtain ⟨a1, a2, a3⟩ := cells_mem.mp hp
  have nd : p ∉ (cellsN b h w [114, 102]).drop n := fun q => h2 p q a3
  rw [h1 p.1 p.2 a1 a2 nd] at a3
  rw [List.mem_filter, decide_eq_true_eq]
  exact ⟨cells_mem.mpr ⟨a1, a2, a3⟩, nd⟩
end Py

set_option Elab.async false
set_option linter.all false
set_option maxRecDepth 100000
set_option autoImplicit false
set_option maxHeartbeats 8000000
namespace Py
open PySem PySem.Spec L2
theorem pure_F : ∀ F : List Ent, D.pureK (kvF F) = true
  | [] => rfl
  | p :: F => by
    show (D.pure (bx p.1) && D.pure (rI p.2) && D.pureK (kvF F)) = true
    rw [pure_bx, pure_F F, show D.pure (rI p.2) = true by unfold rI; rw [D.pure]; exact pures_map (fun _ => rfl) _]
    rfl
theorem frz_F {s r : DSt} {F : List Ent} : frz s.length (s ++ .dct (kvF F) :: r) 6 (.ref s.length) = some (.dct (kvF F)) := by
  simp [frz, D.pure, pure_F]
theorem ok_reached {b0 : Bx} {h w : Nat} {g : D} {gin : List Ent → Bool} {st : DSt} {Q : D → DSt → Prop} (k0 : OkB b0 h w) (pl0 : PlainB b0) (c6 : (cellsN b0 h w [114, 102]).length ≤ 6)
    (hg : ∀ F, inD g (.dct (kvF F)) = some (gin F)) (hv : ∀ st, view st g = some g)
    (q : ∀ i, ((itL h w b0 i).2 = [] ∨ gin (itL h w b0 i).1 = true) → Q (.dct (kvF (itL h w b0 i).1)) st) : wF fn_reached_from.F [bx b0, g] st Q := by
  have h1 := k0.h1; have w1 := k0.w1; have h5 := k0.h5; have w5 := k0.w5
  have few : ∀ F, GF b0 h w F → F.length ≤ 64 := fun F gf => Nat.le_trans (keys_few k0 pl0 gf) (Nat.pow_le_pow_right (n := 2) (by omega) c6)
  have okp : ∀ F, GF b0 h w F → ∀ b ∈ F.map (·.1), OkB b h w ∧ PlainB b := fun F gf b hb => by
    obtain ⟨p, hp, rfl⟩ := List.mem_map.mp hb
    obtain ⟨kp, sp, _⟩ := gf.ok p hp
    exact ⟨kp, plain_same kp k0 sp pl0⟩
  unfold fn_reached_from ib_reached_from
  simp only [EV, reduceCtorEq, Nat.reduceAdd, Nat.reduceSub, if_true, if_false, ite_true, ite_false]
  rw [show dispK [bx b0, .tup []] = some (.dct (kvF [(b0, [])])) by
    show (if ((fitK (bx b0) (kvF []) && !hasK (bx b0) (kvF []) && true) && decide ((1 : Nat) ≤ 15)) = true then some (D.dct [(bx b0, .tup [])]) else none) = _
    rw [fit_bx k0]
    rfl, wOp_some]
  refine ⟨rfl, ?_⟩
  show _ ∧ _
  refine ⟨rfl, ?_⟩
  refine whl_inv (fun m env s => ∃ x4 x5 x6 x7 i, env = [some (bx b0), some g, some (.ref st.length), some (.lst ((itL h w b0 i).2.map bx)), x4, x5, x6, x7] ∧ (∃ dd, s = st ++ .dct (kvF (itL h w b0 i).1) :: dd) ∧ m = 2 * (65 - (itL h w b0 i).1.length) + (if (itL h w b0 i).2 = [] then 0 else 1))
    _ ⟨none, none, none, none, 0, rfl, ⟨[], rfl⟩, rfl⟩ fun m env s hI => ?_
  obtain ⟨x4, x5, x6, x7, i, rfl, ⟨dd, rfl⟩, hm⟩ := hI
  obtain ⟨gf, gl⟩ := it_good k0 i
  obtain ⟨E, ge, gn⟩ := it_grow k0 i
  have f1 := few _ gf
  have f2 := few _ (it_good k0 (i + 1)).1
  have lv : itL h w b0 (i + 1) = (itL h w b0 i).2.foldl (doL h w) ((itL h w b0 i).1, []) := rfl
  have lk := fun b hb => okp _ gf b (gl b hb)
  have qi := q i
  generalize hS : itL h w b0 i = S at *
  obtain ⟨F, L⟩ := S
  dsimp only at *
  simp only [EV, reduceCtorEq, Nat.reduceAdd, Nat.reduceSub, if_true, if_false, ite_true, ite_false]
  have oks : D.oks 59 (L.map bx) = true := oks_map fun b hb => bx_ok (lk b hb).1
  rw [ne_nil oks, wOp_some]
  by_cases hL : L = []
  · rw [decide_eq_false (by rw [hL]; simp), if_neg (by simp)]
    exact ⟨rfl, wfin_ex (by simp) frz_F (qi (.inl hL))⟩
  rw [decide_eq_true (by rw [ne_eq, List.map_eq_nil_iff]; exact hL), if_pos rfl]
  rw [hv, wOp_some, view_mid rfl, wOp_some, hg, wOp_some]
  cases hgi : gin F with
  | true =>
    simp only [EV, reduceCtorEq, Nat.reduceAdd, Nat.reduceSub, if_true, if_false, ite_true, ite_false]
    exact ⟨rfl, wfin_ex (by simp) frz_F (qi (.inr hgi))⟩
  | false =>
    simp only [EV, reduceCtorEq, Nat.reduceAdd, Nat.reduceSub, if_true, if_false, ite_true, ite_false]
    rw [mid_app, mid_len]
    generalize hmr : st.length + 1 + dd.length = mr
    refine ⟨rfl, rfl, ?_⟩
    have lt := fun n => lev_take (b0 := b0) (h := h) (w := w) gf gl n
    refine for_inv (fun j env s => ∃ x5 x6 x7, env = [some (bx b0), some g, some (.ref st.length), some (.lst (L.map bx)), some (.ref mr), x5, x6, x7] ∧ s = st ++ .dct (kvF ((L.take j).foldl (doL h w) (F, [])).1) :: (dd ++ [.lst (((L.take j).foldl (doL h w) (F, [])).2.map bx)])) ⟨x5, x6, x7, rfl, rfl⟩ (fun j x env s hx hI => ?_) fun env s hI => ?_
    · obtain ⟨x5, x6, x7, rfl, rfl⟩ := hI
      rw [List.getElem?_map] at hx
      obtain ⟨b, hb, rfl⟩ := Option.map_eq_some_iff.mp hx
      have bm := List.mem_of_getElem? hb
      have hbF := gl b bm
      obtain ⟨kb, pb⟩ := lk b bm
      obtain ⟨t1, t2, t3⟩ := lt j
      have e1 : (L.take (j + 1)).foldl (doL h w) (F, []) = doL h w ((L.take j).foldl (doL h w) (F, [])) b := by
        rw [List.take_add_one, hb, Option.toList_some, List.foldl_append]
        rfl
      rw [e1]
      generalize (L.take j).foldl (doL h w) (F, []) = S at t1 t2 t3 ⊢
      obtain ⟨F1, L1⟩ := S
      have hb1 := t3.mem hbF
      have dt := fun n hn => do_take (n := n) t1 t2 hb1 hn
      obtain ⟨r0, e0, l0⟩ := bx_len0 k0
      have hh := k0.hh
      have bl : biLen [bx b0] = some (.int h) := by
        show biLen [.tup (b0.map .str)] = _
        simp [biLen, lenD, hh, sz_of (show h ≤ 100000 by omega)]
      have bi : ixD (bx b0) (.int 0) = some (.str r0) := by
        show atI (b0.map D.str) ((0 : Nat) : Int) = _
        rw [atI_nat', e0]
      simp only [EV, reduceCtorEq, Nat.reduceAdd, Nat.reduceSub, if_true, if_false, ite_true, ite_false]
      rw [view_bx, wOp_some, bl, wOp_some, wOp_some, bi, wOp_some]
      simp only [EV, reduceCtorEq, Nat.reduceAdd, Nat.reduceSub, if_true, if_false, ite_true, ite_false]
      rw [l0]
      refine ⟨sz_of (by omega), ok_doors_of ?_⟩
      simp only [EV, reduceCtorEq, Nat.reduceAdd, Nat.reduceSub, if_true, if_false, ite_true, ite_false]
      rw [show (2 : Int) * (h + w) = ((2 * (h + w) : Nat) : Int) by omega, rangeL_0]
      refine ⟨rngOk_of (by omega) (by omega) (by omega) (by omega), ?_⟩
      refine for_inv (fun n env s => ∃ x6 x7, env = [some (bx b0), some g, some (.ref st.length), some (.lst (L.map bx)), some (.ref mr), some (bx b), x6, x7] ∧ s = st ++ .dct (kvF ((List.range n).foldl (stD h w b) (F1, L1)).1) :: (dd ++ [.lst (((List.range n).foldl (stD h w b) (F1, L1)).2.map bx)])) ⟨x6, x7, rfl, rfl⟩ (fun n x env s hx hI => ?_) fun env s hI => ?_
      · obtain ⟨x6, x7, rfl, rfl⟩ := hI
        have hn : n < 2 * (h + w) := by
          have := (List.getElem?_eq_some_iff.mp hx).1
          simpa using this
        have ex : x = .int n := by
          rw [List.getElem?_map, List.getElem?_range hn] at hx
          exact (Option.some.inj hx).symm
        subst ex
        obtain ⟨g1, g2, g3⟩ := dt n (by omega)
        have e2 : (List.range (n + 1)).foldl (stD h w b) (F1, L1) = stD h w b ((List.range n).foldl (stD h w b) (F1, L1)) n := by
          rw [List.range_succ, List.foldl_append]
          rfl
        rw [e2]
        have hb2 := g3.mem hb1
        have g4 := t3.tr g3
        generalize (List.range n).foldl (stD h w b) (F1, L1) = S at g1 g2 hb2 g4 ⊢
        obtain ⟨F2, L2⟩ := S
        dsimp only at *
        have f3 := few _ g1
        have l3 : L2.length ≤ 64 := by
          obtain ⟨E', q1, q2⟩ := g4
          have q1 : F2 = F ++ E' := q1
          have q2 : L2.length = 0 + E'.length := q2
          rw [q1, List.length_append] at f3
          omega
        obtain ⟨r, er⟩ := look_mem.mp hb2
        have rl := g1.sh _ (look_some er)
        have rl : r.length < F2.length := rl
        have ba := (ball_same (bk := false) kb (d := (n : Nat)) (by omega) (by omega)).2.2
        simp only [EV, reduceCtorEq, Nat.reduceAdd, Nat.reduceSub, if_true, if_false, ite_true, ite_false]
        refine ok_rolled kb pb (by omega) (by omega) ?_
        unfold ballD
        simp only [EV, reduceCtorEq, Nat.reduceAdd, Nat.reduceSub, if_true, if_false, ite_true, ite_false]
        rw [view_bx, wOp_some, view_mid rfl, wOp_some, in_F ba, wOp_some]
        unfold stD
        dsimp only
        by_cases c : ballB false h w b (n : Nat) ∈ F2.map (·.1)
        · rw [decide_eq_true c, if_neg (by simp), if_pos c]
          exact ⟨_, _, rfl, rfl⟩
        · rw [decide_eq_false c, if_pos (by simp), if_neg c, er, Option.getD_some]
          rw [wOp_some, ix_F kb er, wOp_some]
          refine ⟨rfl, ?_⟩
          unfold rI
          simp only [EV, reduceCtorEq, Nat.reduceAdd, Nat.reduceSub, if_true, if_false, ite_true, ite_false]
          rw [List.length_map]
          refine ⟨sz_of (by omega), ?_⟩
          rw [show D.tup ((r.map fun (i : Nat) => D.int (i : Int)) ++ [.int n]) = rI (r ++ [n]) by unfold rI; rw [List.map_append]; rfl]
          rw [put_mid ba rfl c (by omega), wOp_some, view_mlst hmr.symm, wOp_some]
          refine ⟨rfl, ?_⟩
          rw [app_mid hmr.symm (by rw [List.length_map]; omega), wOp_some]
          refine ⟨_, _, rfl, ?_⟩
          rw [List.map_append]
          rfl
      · obtain ⟨x6, x7, rfl, rfl⟩ := hI
        rw [List.length_map, List.length_range]
        exact ⟨_, _, _, rfl, rfl⟩
    · obtain ⟨x5, x6, x7, rfl, rfl⟩ := hI
      rw [List.length_map, List.take_length, ← lv]
      simp only [EV, reduceCtorEq, Nat.reduceAdd, Nat.reduceSub, if_true, if_false, ite_true, ite_false]
      rw [frz_mid (m := mr) hmr.symm rfl, wOp_some]
      simp only [EV, reduceCtorEq, Nat.reduceAdd, Nat.reduceSub, if_true, if_false, ite_true, ite_false]
      refine ⟨_, ?_, _, _, _, _, i + 1, rfl, ⟨_, rfl⟩, rfl⟩
      rw [if_neg hL] at hm
      rw [ge, List.length_append] at f2 ⊢
      by_cases z : E = []
      · rw [z, List.length_nil] at gn
        rw [if_pos (List.length_eq_zero_iff.mp gn), z, List.length_nil]
        omega
      · have := List.length_pos_iff.mpr z
        split <;> omega
theorem it_fin {b : Bx} {h w i j : Nat} (ei : (itL h w b i).2 = []) (ej : (itL h w b j).2 = []) : itL h w b i = itL h w b j := by
  rcases Nat.le_total i j with q | q
  · obtain ⟨m, rfl⟩ := Nat.exists_eq_add_of_le q
    exact (it_stop ei m).symm
  · obtain ⟨m, rfl⟩ := Nat.exists_eq_add_of_le q
    exact it_stop ej m
theorem ok_count {b0 : Bx} {h w i : Nat} {st : DSt} {Q : D → DSt → Prop} (k0 : OkB b0 h w) (pl0 : PlainB b0) (c6 : (cellsN b0 h w [114, 102]).length ≤ 6) (ei : (itL h w b0 i).2 = [])
    (q : Q (.int (itL h w b0 i).1.length) st) : wF fn_count_reached.F [bx b0] st Q := by
  unfold fn_count_reached ib_count_reached
  simp only [EV, reduceCtorEq, Nat.reduceAdd, Nat.reduceSub, if_true, if_false, ite_true, ite_false]
  refine ok_check_mirrors k0 pl0 (by omega) ?_
  try simp only [EV, view_bx, view_tri, view_oI, sz_0, sz_1, sz_2, sz_3, sz_4, sz_5, true_and, reduceCtorEq, Nat.reduceAdd, Nat.reduceSub, if_true, if_false, ite_true, ite_false]
  refine ok_reached (gin := fun _ => false) k0 pl0 c6 (fun _ => in_non) (fun _ => rfl) fun j hj => ?_
  have ej : (itL h w b0 j).2 = [] := by
    rcases hj with h | h
    · exact h
    · cases h
  rw [it_fin ej ei]
  have := Nat.le_trans (keys_few k0 pl0 (it_good k0 i).1) (Nat.pow_le_pow_right (n := 2) (by omega) c6)
  rw [show ∀ st, view st (.dct (kvF (itL h w b0 i).1)) = some (.dct (kvF (itL h w b0 i).1)) from fun _ => rfl, wOp_some]
  simp only [EV, reduceCtorEq, Nat.reduceAdd, Nat.reduceSub, if_true, if_false, ite_true, ite_false]
  rw [show (kvF (itL h w b0 i).1).length = (itL h w b0 i).1.length from List.length_map _]
  exact ⟨sz_of (by omega), q⟩
def fewD (F : List Ent) (g : Bx) : D := ((look F g).map rI).getD .non
theorem ok_fewest {b0 g : Bx} {h w i : Nat} {st : DSt} {Q : D → DSt → Prop} (k0 : OkB b0 h w) (pl0 : PlainB b0) (c6 : (cellsN b0 h w [114, 102]).length ≤ 6) (kg : OkB g h w) (pg : PlainB g) (ei : (itL h w b0 i).2 = [])
    (q : Q (fewD (itL h w b0 i).1 g) st) : wF fn_fewest_balls.F [bx b0, bx g] st Q := by
  unfold fn_fewest_balls ib_fewest_balls
  simp only [EV, reduceCtorEq, Nat.reduceAdd, Nat.reduceSub, if_true, if_false, ite_true, ite_false]
  refine ok_check_mirrors k0 pl0 (by omega) ?_
  try simp only [EV, view_bx, view_tri, view_oI, sz_0, sz_1, sz_2, sz_3, sz_4, sz_5, true_and, reduceCtorEq, Nat.reduceAdd, Nat.reduceSub, if_true, if_false, ite_true, ite_false]
  refine ok_check_plain kg pg ?_
  try simp only [EV, view_bx, view_tri, view_oI, sz_0, sz_1, sz_2, sz_3, sz_4, sz_5, true_and, reduceCtorEq, Nat.reduceAdd, Nat.reduceSub, if_true, if_false, ite_true, ite_false]
  refine ok_size_of k0 ?_
  try simp only [EV, view_bx, view_tri, view_oI, sz_0, sz_1, sz_2, sz_3, sz_4, sz_5, true_and, reduceCtorEq, Nat.reduceAdd, Nat.reduceSub, if_true, if_false, ite_true, ite_false]
  refine ok_size_of kg ?_
  try simp only [EV, view_bx, view_tri, view_oI, sz_0, sz_1, sz_2, sz_3, sz_4, sz_5, true_and, reduceCtorEq, Nat.reduceAdd, Nat.reduceSub, if_true, if_false, ite_true, ite_false]
  rw [ne_self (ok_tup (oks_cons ok_int (oks_cons ok_int oks_nil))), wOp_some, if_neg (by simp)]
  refine ok_reached (gin := fun F => decide (g ∈ F.map (·.1))) k0 pl0 c6 (fun _ => in_F kg) (fun _ => view_bx) fun j hj => ?_
  have e : look (itL h w b0 j).1 g = look (itL h w b0 i).1 g := by
    rcases hj with h | h
    · rw [it_fin h ei]
    · have h := of_decide_eq_true h
      rcases Nat.le_total i j with q | q
      · obtain ⟨m, rfl⟩ := Nat.exists_eq_add_of_le q
        rw [it_stop ei m]
      · obtain ⟨m, rfl⟩ := Nat.exists_eq_add_of_le q
        obtain ⟨E, e⟩ := it_pre k0 j m
        rw [e, look_app h]
  unfold fewD at q
  rw [← e] at q
  have vd : ∀ st, view st (.dct (kvF (itL h w b0 j).1)) = some (.dct (kvF (itL h w b0 j).1)) := fun _ => rfl
  rw [vd, wOp_some]
  refine ⟨rfl, ?_⟩
  dsimp only
  rw [if_pos (fit_bx kg), wOp_some, find_F]
  exact (wfin_same rfl).mpr q
end Py

set_option Elab.async false
set_option linter.all false
set_option maxRecDepth 100000
set_option autoImplicit false
set_option maxHeartbeats 8000000
namespace Py
open PySem PySem.Spec L2
/-- some cells made empty or blocks -/
structure Dull (a c : Bx) (h w : Nat) (l : List Cell) : Prop where
  k : OkB c h w
  p : PlainB c
  out : ∀ i j, i < h → j < w → (i, j) ∉ l → cel c i j = cel a i j
  on : ∀ q ∈ l, cel c q.1 q.2 ∈ [46, 35]
theorem Dull.step {a c : Bx} {h w z : Nat} {l : List Cell} {q : Cell} (C : Dull a c h w l) (h1 : q.1 < h) (h2 : q.2 < w) (hz : z ∈ [46, 35]) : Dull a (setB c q.1 q.2 z) h w (l ++ [q]) := by
  have zs : z ∈ SGN ∧ z ≠ 82 ∧ z ≠ 70 := by
    simp only [List.mem_cons, List.not_mem_nil, or_false] at hz
    rcases hz with rfl | rfl <;> decide
  have k' := C.k.set (i := q.1) (j := q.2) h1 zs.1
  refine ⟨k', (plain_cel k').mpr fun i j hi hj => ?_, fun i j hi hj hn => ?_, fun p hp => ?_⟩
  · rw [cel_set C.k h1 h2]
    split
    · exact zs.2
    · exact (plain_cel C.k).mp C.p i j hi hj
  · rw [List.mem_append, List.mem_singleton, not_or] at hn
    rw [cel_set C.k h1 h2, if_neg (fun e => hn.2 (Prod.ext e.1.symm e.2.symm))]
    exact C.out i j hi hj hn.1
  · rw [cel_set C.k h1 h2]
    split
    · exact hz
    · rename_i c
      rcases List.mem_append.mp hp with g | g
      · exact C.on p g
      · cases List.mem_singleton.mp g
        exact absurd ⟨rfl, rfl⟩ c
theorem view_few {F : List Ent} {g : Bx} {st : DSt} : view st (fewD F g) = some (fewD F g) := by
  unfold fewD
  cases look F g <;> rfl
end Py

set_option Elab.async false
set_option linter.all false
set_option maxRecDepth 100000
set_option autoImplicit false
set_option maxHeartbeats 4000000
namespace Py
open PySem PySem.Spec L2
/-! ### balls in turned boxes -/
theorem oth_flip (s : Nat) : OTH (flipN s) = flipN (OTH s) := by
  unfold OTH flipN
  (repeat' split) <;> omega
theorem fl_qu {b : Bx} {h w : Nat} (k : OkB b h w) {t : Tri} (i : Ins h w t) : fl (quB b) (quT h t) = quB (fl b t) := by
  have iT := (quSym k).ins t i
  refine (fl_ok k.qu iT).ext (fl_ok k i).qu fun x y hx hy => ?_
  rw [cel_fl k.qu iT, cel_qu (fl_ok k i) hx hy, cel_fl k i, cel_qu k hx hy]
  obtain ⟨a1, a2, a3, a4, _, _⟩ := i
  have c : ((quT h t).1.toNat = x ∧ (quT h t).2.1.toNat = y) ↔ (t.1.toNat = h - 1 - y ∧ t.2.1.toNat = x) := by
    unfold quT
    dsimp only
    omega
  by_cases e : t.1.toNat = h - 1 - y ∧ t.2.1.toNat = x
  · rw [if_pos (c.mpr e), if_pos e, oth_flip]
  · rw [if_neg (fun q => e (c.mp q)), if_neg e]
theorem fl_ex {b : Bx} {h w : Nat} (k : OkB b h w) {t : Tri} (i : Ins h w t) : fl (exB b) (exT w t) = exB (fl b t) := by
  have iT := (exSym k).ins t i
  refine (fl_ok k.ex iT).ext (fl_ok k i).ex fun x y hx hy => ?_
  rw [cel_fl k.ex iT, cel_ex (fl_ok k i) hx hy, cel_fl k i, cel_ex k hx hy]
  obtain ⟨a1, a2, a3, a4, _, _⟩ := i
  have c : ((exT w t).1.toNat = x ∧ (exT w t).2.1.toNat = y) ↔ (t.1.toNat = x ∧ t.2.1.toNat = w - 1 - y) := by
    unfold exT
    dsimp only
    omega
  by_cases e : t.1.toNat = x ∧ t.2.1.toNat = w - 1 - y
  · rw [if_pos (c.mpr e), if_pos e, oth_flip]
  · rw [if_neg (fun q => e (c.mp q)), if_neg e]
theorem ball_sym {φ : Bx → Bx} {T : Tri → Tri} {D : Int → Int} {h w h' w' : Nat} (S : ∀ b, OkB b h w → Sym b h w (φ b) h' w' T D ∧ OkB (φ b) h' w') (hf : ∀ b t, OkB b h w → Ins h w t → fl (φ b) (T t) = φ (fl b t)) {b : Bx} (k : OkB b h w) {d : Int} (d0 : 0 ≤ d) (d1 : d < 2 * (h + w)) :
    ballO false h' w' (φ b) (D d) = (ballO false h w b d).map D ∧ ballB false h' w' (φ b) (D d) = φ (ballB false h w b d) := by
  obtain ⟨Sb, k'⟩ := S b k
  have rg := Sb.rg d d0 d1
  have P := ball_is (bk := false) k d0 d1
  have al := ball_all (bk := false) k d0 d1
  have step : ∀ p : Bx × Tri, OkB p.1 h w → Ins h w p.2 → bst false h' w' (φ p.1, T p.2) = (bst false h w p).map fun q => (φ q.1, T q.2) := by
    rintro ⟨c, t⟩ kc it
    obtain ⟨Sc, kc'⟩ := S c kc
    unfold bst
    dsimp only
    rw [if_pos kc', if_pos kc]
    show (stp (φ c) h' w' (T t)).map _ = ((stp c h w t).map _).map _
    rw [Sc.st t it, Option.map_map, Option.map_map]
    congr 1
    funext u
    show (fl (φ c) (T t), T u) = (φ (fl c t), T u)
    rw [hf c t kc it]
  have e : ballP false h' w' (φ b) (D d) = (ballP false h w b d).map fun q => (φ q.1, T q.2) := by
    refine (ball_is (bk := false) k' rg.1 rg.2).uniq ⟨?_, fun i t hi => ?_⟩
    · rw [List.getElem?_map, P.1, Sb.beg d d0 d1]
      rfl
    · rw [List.getElem?_map] at hi ⊢
      obtain ⟨u, hu, rfl⟩ := Option.map_eq_some_iff.mp hi
      obtain ⟨ku, iu⟩ := al u (List.mem_of_getElem? hu)
      rw [P.2 i u hu, step u ku iu]
  obtain ⟨c, t, l1, kc, it, _⟩ := ball_last (bk := false) k d0 d1
  obtain ⟨Sc, _⟩ := S c kc
  unfold ballO ballB
  rw [e, List.getLast?_map, l1]
  exact ⟨Sc.out t it, hf c t kc it⟩
theorem ball_qu {b : Bx} {h w : Nat} (k : OkB b h w) {d : Int} (d0 : 0 ≤ d) (d1 : d < 2 * (h + w)) : ballO false w h (quB b) (quD h w d) = (ballO false h w b d).map (quD h w) ∧ ballB false w h (quB b) (quD h w d) = quB (ballB false h w b d) :=
  ball_sym (T := quT h) (fun b k => ⟨quSym k, k.qu⟩) (fun b t k i => fl_qu k i) k d0 d1
theorem ball_ex {b : Bx} {h w : Nat} (k : OkB b h w) {d : Int} (d0 : 0 ≤ d) (d1 : d < 2 * (h + w)) : ballO false h w (exB b) (exD h w d) = (ballO false h w b d).map (exD h w) ∧ ballB false h w (exB b) (exD h w d) = exB (ballB false h w b d) :=
  ball_sym (T := exT w) (fun b k => ⟨exSym k, k.ex⟩) (fun b t k i => fl_ex k i) k d0 d1
theorem qd_rg {b : Bx} {h w : Nat} (k : OkB b h w) (n : Nat) {d : Int} (d0 : 0 ≤ d) (d1 : d < 2 * (h + w)) : 0 ≤ qdN h w n d ∧ qdN h w n d < 2 * (h + w) := by
  obtain ⟨T, S⟩ := qdSym k n
  have := S.rg d d0 d1
  split at this <;> omega
theorem ball_quN {b : Bx} {h w : Nat} (k : OkB b h w) {d : Int} (d0 : 0 ≤ d) (d1 : d < 2 * (h + w)) : ∀ n, ballO false (if n % 2 = 0 then h else w) (if n % 2 = 0 then w else h) (quN n b) (qdN h w n d) = (ballO false h w b d).map (qdN h w n) ∧
    ballB false (if n % 2 = 0 then h else w) (if n % 2 = 0 then w else h) (quN n b) (qdN h w n d) = quN n (ballB false h w b d)
  | 0 => ⟨by show ballO false h w b d = _; cases ballO false h w b d <;> rfl, rfl⟩
  | n + 1 => by
    obtain ⟨i1, i2⟩ := ball_quN k d0 d1 n
    have kn := k.quN n
    have rg := qd_rg k n d0 d1
    have q := ball_qu kn (d := qdN h w n d) rg.1 (by split <;> omega)
    rw [i1, i2] at q
    have e1 : (if (n + 1) % 2 = 0 then h else w) = (if n % 2 = 0 then w else h) := by split <;> split <;> omega
    have e2 : (if (n + 1) % 2 = 0 then w else h) = (if n % 2 = 0 then h else w) := by split <;> split <;> omega
    rw [e1, e2]
    refine ⟨q.1.trans ?_, q.2⟩
    rw [Option.map_map]
    rfl
theorem ball_turn {b : Bx} {h w t : Nat} (k : OkB b h w) {d : Int} (d0 : 0 ≤ d) (d1 : d < 2 * (h + w)) : ballO false (if t % 2 = 0 then h else w) (if t % 2 = 0 then w else h) (turnB b t) (doorT h w t d) = (ballO false h w b d).map (doorT h w t) ∧
    ballB false (if t % 2 = 0 then h else w) (if t % 2 = 0 then w else h) (turnB b t) (doorT h w t d) = turnB (ballB false h w b d) t := by
  have e : t % 4 % 2 = t % 2 := by omega
  unfold turnB doorT
  by_cases ht : t > 3
  · simp only [if_pos ht]
    have xr := (exSym k).rg d d0 d1
    have x := ball_ex k d0 d1
    have q := ball_quN k.ex xr.1 xr.2 (t % 4)
    rw [x.1, x.2, e] at q
    refine ⟨q.1.trans ?_, q.2⟩
    rw [Option.map_map]
    rfl
  · simp only [if_neg ht]
    have q := ball_quN k d0 d1 (t % 4)
    rw [e] at q
    exact q
end Py

set_option Elab.async false
set_option linter.all false
set_option maxRecDepth 100000
set_option autoImplicit false
set_option maxHeartbeats 4000000
namespace Py
open PySem PySem.Spec L2
/-! ### the levels tell all boxes that rows of balls make, by shortest rows -/
def Gw (F : List Ent) (L : List Bx) (S : List Ent × List Bx) : Prop := ∃ E : List Ent, S.1 = F ++ E ∧ S.2 = L ++ E.map (·.1)
theorem Gw.rf {S : List Ent × List Bx} : Gw S.1 S.2 S := ⟨[], by simp, by simp⟩
theorem Gw.tr {F : List Ent} {L : List Bx} {S T : List Ent × List Bx} (a : Gw F L S) (b : Gw S.1 S.2 T) : Gw F L T := by
  obtain ⟨E, e1, e2⟩ := a
  obtain ⟨E', e3, e4⟩ := b
  exact ⟨E ++ E', by rw [e3, e1, List.append_assoc], by rw [e4, e2, List.map_append, List.append_assoc]⟩
theorem Gw.sub {F : List Ent} {L : List Bx} {S : List Ent × List Bx} (a : Gw F L S) {c : Bx} (h : c ∈ F.map (·.1)) : c ∈ S.1.map (·.1) := by
  obtain ⟨E, e1, _⟩ := a
  rw [e1, List.map_append]
  exact List.mem_append_left _ h
theorem gw_fold {α : Type} {f : List Ent × List Bx → α → List Ent × List Bx} (hf : ∀ S x, Gw S.1 S.2 (f S x)) : ∀ (l : List α) (S : List Ent × List Bx), Gw S.1 S.2 (l.foldl f S)
  | [], S => Gw.rf
  | x :: l, S => (hf S x).tr (gw_fold hf l (f S x))
theorem gw_st {h w : Nat} {b : Bx} (S : List Ent × List Bx) (d : Nat) : Gw S.1 S.2 (stD h w b S d) := by
  unfold stD
  split
  · exact Gw.rf
  · exact ⟨_, rfl, rfl⟩
theorem gw_do {h w : Nat} (S : List Ent × List Bx) (b : Bx) : Gw S.1 S.2 (doL h w S b) := gw_fold (fun S d => gw_st S d) _ S
theorem st_in {h w : Nat} {b : Bx} {S : List Ent × List Bx} {d : Nat} : ballB false h w b (d : Nat) ∈ (stD h w b S d).1.map (·.1) := by
  unfold stD
  split
  · assumption
  · rw [List.map_append]
    exact List.mem_append_right _ (List.mem_singleton.mpr rfl)
theorem do_in {h w : Nat} {b : Bx} {S : List Ent × List Bx} : ∀ n d, d < n → ballB false h w b (d : Nat) ∈ ((List.range n).foldl (stD h w b) S).1.map (·.1)
  | 0, d, hd => by omega
  | n + 1, d, hd => by
    rw [List.range_succ, List.foldl_append]
    by_cases e : d = n
    · subst e
      exact st_in
    · exact (gw_st _ n).sub (do_in n d (by omega))
theorem lev_in {h w : Nat} {d : Nat} (hd : d < 2 * (h + w)) : ∀ (V : List Bx) (S : List Ent × List Bx), ∀ b ∈ V, ballB false h w b (d : Nat) ∈ (V.foldl (doL h w) S).1.map (·.1)
  | v :: V, S, b, hb => by
    rw [List.foldl_cons]
    rcases List.mem_cons.mp hb with rfl | hb
    · exact (gw_fold gw_do V _).sub (do_in _ d hd)
    · exact lev_in hd V _ b hb
theorem it_gw {b0 : Bx} {h w : Nat} (n : Nat) : Gw (itL h w b0 n).1 [] (itL h w b0 (n + 1)) := gw_fold gw_do _ ((itL h w b0 n).1, [])
theorem it_cl {b0 : Bx} {h w : Nat} : ∀ n, ∀ c ∈ (itL h w b0 n).1.map (·.1), c ∈ (itL h w b0 n).2 ∨ ∀ d : Nat, d < 2 * (h + w) → ballB false h w c (d : Nat) ∈ (itL h w b0 n).1.map (·.1)
  | 0, c, hc => .inl hc
  | n + 1, c, hc => by
    obtain ⟨E, e1, e2⟩ := it_gw (b0 := b0) (h := h) (w := w) n
    have hc' := hc
    rw [e1, List.map_append, List.mem_append] at hc'
    rcases hc' with q | q
    · right
      intro d hd
      rcases it_cl n c q with g | g
      · exact lev_in hd _ _ c g
      · exact (it_gw n).sub (g d hd)
    · left
      rw [e2]
      exact q
theorem it_next {b0 : Bx} {h w n : Nat} {c : Bx} (hc : c ∈ (itL h w b0 n).1.map (·.1)) {d : Nat} (hd : d < 2 * (h + w)) : ballB false h w c (d : Nat) ∈ (itL h w b0 (n + 1)).1.map (·.1) := by
  rcases it_cl n c hc with g | g
  · exact lev_in hd _ _ c g
  · exact (it_gw n).sub (g d hd)
theorem it_all {b0 : Bx} {h w : Nat} : ∀ n (row : List Nat), row.length = n → (∀ d ∈ row, d < 2 * (h + w)) → ballR h w b0 row ∈ (itL h w b0 n).1.map (·.1)
  | 0, row, hl, _ => by
    cases List.length_eq_zero_iff.mp hl
    exact List.mem_singleton.mpr rfl
  | n + 1, row, hl, hr => by
    have ne : row ≠ [] := fun e => by rw [e] at hl; cases hl
    have e := List.dropLast_concat_getLast ne
    have ih := it_all (b0 := b0) n row.dropLast (by rw [List.length_dropLast]; omega) fun d hd => hr d (List.dropLast_subset _ hd)
    have := it_next ih (hr _ (List.getLast_mem ne))
    rw [← e]
    unfold ballR at this ⊢
    rw [List.foldl_append]
    exact this
theorem it_len {b0 : Bx} {h w : Nat} (k : OkB b0 h w) : ∀ n, ∀ p ∈ (itL h w b0 n).1, p.2.length ≤ n
  | 0, p, hp => by
    cases List.mem_singleton.mp hp
    exact Nat.le_refl _
  | n + 1, p, hp => by
    obtain ⟨gf, gl⟩ := it_good k n
    have ih := it_len k n
    have key : ∀ (V : List Bx), (∀ b ∈ V, b ∈ (itL h w b0 n).1.map (·.1)) → ∀ S : List Ent × List Bx, Gw (itL h w b0 n).1 [] S → (∀ p ∈ S.1, p.2.length ≤ n + 1) → ∀ p ∈ (V.foldl (doL h w) S).1, p.2.length ≤ n + 1 := by
      intro V
      induction V with
      | nil => exact fun _ S _ hS => hS
      | cons v V ihV =>
        intro hV S gS hS
        rw [List.foldl_cons]
        refine ihV (fun b hb => hV b (List.mem_cons_of_mem _ hb)) _ (gS.tr (gw_do S v)) ?_
        have hv := hV v List.mem_cons_self
        have inner : ∀ m, ∀ p ∈ ((List.range m).foldl (stD h w v) S).1, p.2.length ≤ n + 1 := by
          intro m
          induction m with
          | zero => exact hS
          | succ m ihm =>
            intro p hp
            rw [List.range_succ, List.foldl_append] at hp
            have gm : Gw (itL h w b0 n).1 [] ((List.range m).foldl (stD h w v) S) := gS.tr (gw_fold (fun S d => gw_st S d) _ S)
            generalize (List.range m).foldl (stD h w v) S = R at ihm gm hp
            have hp : p ∈ (stD h w v R m).1 := hp
            unfold stD at hp
            split at hp
            · exact ihm p hp
            · rcases List.mem_append.mp hp with q | q
              · exact ihm p q
              · cases List.mem_singleton.mp q
                obtain ⟨E, e1, _⟩ := gm
                rw [e1, look_app hv]
                obtain ⟨r, er⟩ := look_mem.mp hv
                have := ih _ (look_some er)
                have : r.length ≤ n := this
                rw [er, Option.getD_some, List.length_append, List.length_singleton]
                omega
        exact inner _
    exact key _ gl ((itL h w b0 n).1, []) Gw.rf (fun p hp => by have := ih p hp; omega) p hp
/-- what is found at the end: all boxes that rows of balls make, each by a shortest row -/
theorem it_end {b0 : Bx} {h w i : Nat} (k : OkB b0 h w) (ei : (itL h w b0 i).2 = []) (row : List Nat) (hr : ∀ d ∈ row, d < 2 * (h + w)) : ∃ r, look (itL h w b0 i).1 (ballR h w b0 row) = some r ∧ r.length ≤ row.length := by
  have m := it_all (b0 := b0) row.length row rfl hr
  obtain ⟨r, er⟩ := look_mem.mp m
  have rl : r.length ≤ row.length := it_len k _ _ (look_some er)
  refine ⟨r, ?_, rl⟩
  rcases Nat.le_total i row.length with q | q
  · obtain ⟨j, e⟩ := Nat.exists_eq_add_of_le q
    rw [e, it_stop ei j] at er
    exact er
  · obtain ⟨j, rfl⟩ := Nat.exists_eq_add_of_le q
    obtain ⟨E, e⟩ := it_pre k row.length j
    rw [e, look_app m]
    exact er
theorem it_stops {b0 : Bx} {h w : Nat} (k : OkB b0 h w) (pl : PlainB b0) : ∃ i, (itL h w b0 i).2 = [] := by
  refine Classical.byContradiction fun n => ?_
  have grow : ∀ i, i + 1 ≤ (itL h w b0 i).1.length := by
    intro i
    induction i with
    | zero => exact Nat.le_refl _
    | succ i ih =>
      obtain ⟨E, e1, e2⟩ := it_grow k i
      have ne : (itL h w b0 (i + 1)).2 ≠ [] := fun e => n ⟨_, e⟩
      have := List.length_pos_iff.mpr ne
      rw [e1, List.length_append]
      omega
  have := grow (2 ^ (cellsN b0 h w [114, 102]).length)
  have := keys_few k pl (it_good k (2 ^ (cellsN b0 h w [114, 102]).length)).1
  omega
end Py

set_option Elab.async false
set_option linter.all false
set_option maxRecDepth 100000
set_option autoImplicit false
set_option maxHeartbeats 4000000
namespace Py
open PySem PySem.Spec L2
theorem quN_inj {a b : Bx} {h w : Nat} (ka : OkB a h w) (kb : OkB b h w) {n : Nat} (e : quN n a = quN n b) : a = b := by
  have key : ∀ c : Bx, OkB c h w → quN (3 * n) (quN n c) = c := fun c k => by
    rw [quN_add, show 3 * n + n = 4 * n + 0 by omega, quN_mod k]
    rfl
  rw [← key a ka, e, key b kb]
theorem turn_inj {a b : Bx} {h w t : Nat} (ka : OkB a h w) (kb : OkB b h w) (e : turnB a t = turnB b t) : a = b := by
  unfold turnB at e
  by_cases ht : t > 3
  · rw [if_pos ht, if_pos ht] at e
    have := quN_inj ka.ex kb.ex e
    rw [← ex2 ka, this, ex2 kb]
  · rw [if_neg ht, if_neg ht] at e
    exact quN_inj ka kb e
/-- doors of the turned box, as natural numbers -/
def drT (h w t d : Nat) : Nat := (doorT h w t (d : Nat)).toNat
theorem drT_is {b : Bx} {h w t d : Nat} (k : OkB b h w) (hd : d < 2 * (h + w)) : ((drT h w t d : Nat) : Int) = doorT h w t (d : Nat) ∧ drT h w t d < 2 * (h + w) := by
  obtain ⟨T, S⟩ := turnSym k t
  have rg := S.rg (d : Nat) (by omega) (by omega)
  have e : ((drT h w t d : Nat) : Int) = doorT h w t (d : Nat) := Int.toNat_of_nonneg rg.1
  refine ⟨e, ?_⟩
  have r2 := rg.2
  split at r2 <;> omega
abbrev hT (h w t : Nat) : Nat := if t % 2 = 0 then h else w
abbrev wT (h w t : Nat) : Nat := if t % 2 = 0 then w else h
theorem hw_T {h w t : Nat} : hT h w t + wT h w t = h + w := by
  unfold hT wT
  split <;> omega
theorem row_turn {h w t : Nat} : ∀ (row : List Nat) {b : Bx}, OkB b h w → (∀ d ∈ row, d < 2 * (h + w)) → ballR (hT h w t) (wT h w t) (turnB b t) (row.map (drT h w t)) = turnB (ballR h w b row) t
  | [], b, _, _ => rfl
  | d :: row, b, k, hr => by
    have hd := hr d List.mem_cons_self
    have bs := (ball_same (bk := false) k (d := (d : Nat)) (by omega) (by omega)).2.2
    have ih := row_turn (t := t) row bs fun x hx => hr x (List.mem_cons_of_mem _ hx)
    have bt := (ball_turn (t := t) k (d := (d : Nat)) (by omega) (by omega)).2
    rw [← (drT_is k hd).1] at bt
    show ballR _ _ (ballB false (hT h w t) (wT h w t) (turnB b t) ((drT h w t d : Nat) : Int)) (row.map (drT h w t)) = _
    rw [bt]
    exact ih
/-- every row of doors of the turned box is a turned row -/
theorem row_onto {h w t : Nat} (h5 : h ≤ 5) (w5 : w ≤ 5) (ht : t < 8) : ∀ (row' : List Nat), (∀ d ∈ row', d < 2 * (h + w)) → ∃ row : List Nat, row.map (drT h w t) = row' ∧ ∀ d ∈ row, d < 2 * (h + w)
  | [], _ => ⟨[], rfl, fun d hd => absurd hd List.not_mem_nil⟩
  | d :: r, hr => by
    obtain ⟨row, e, q⟩ := row_onto h5 w5 ht r fun x hx => hr x (List.mem_cons_of_mem _ hx)
    obtain ⟨a, a1, a2⟩ := doorT_onto (h := h) (w := w) (t := t) (by omega) (by omega) ht (hr d List.mem_cons_self)
    refine ⟨a :: row, ?_, fun x hx => ?_⟩
    · rw [List.map_cons, e]
      congr 1
      unfold drT
      rw [a2]
      exact Int.toNat_natCast d
    · rcases List.mem_cons.mp hx with rfl | hx
      · exact a1
      · exact q x hx
theorem keys_iff {b0 c : Bx} {h w i : Nat} (k : OkB b0 h w) (ei : (itL h w b0 i).2 = []) : c ∈ (itL h w b0 i).1.map (·.1) ↔ ∃ row : List Nat, (∀ d ∈ row, d < 2 * (h + w)) ∧ ballR h w b0 row = c := by
  constructor
  · intro hc
    obtain ⟨p, hp, rfl⟩ := List.mem_map.mp hc
    obtain ⟨_, _, r1, r2⟩ := (it_good k i).1.ok p hp
    exact ⟨p.2, r1, r2⟩
  · rintro ⟨row, hr, rfl⟩
    obtain ⟨r, er, _⟩ := it_end k ei row hr
    exact look_mem.mpr ⟨r, er⟩
theorem count_le {b0 c0 : Bx} {h w i j : Nat} (kb : OkB b0 h w) (kc : OkB c0 h w) (ei : (itL h w b0 i).2 = []) (ej : (itL h w c0 j).2 = []) (hc : c0 ∈ (itL h w b0 i).1.map (·.1)) : (itL h w c0 j).1.length ≤ (itL h w b0 i).1.length := by
  have := nodup_le (it_good kc j).1.nd (m := (itL h w b0 i).1.map (·.1)) fun x hx => by
    obtain ⟨r, hr, rfl⟩ := (keys_iff kb ei).mp hc
    obtain ⟨s, hs, rfl⟩ := (keys_iff kc ej).mp hx
    refine (keys_iff kb ei).mpr ⟨r ++ s, fun d hd => ?_, by unfold ballR; rw [List.foldl_append]⟩
    rcases List.mem_append.mp hd with q | q
    · exact hr d q
    · exact hs d q
  rwa [List.length_map, List.length_map] at this
theorem count_turn {b0 : Bx} {h w t i j : Nat} (k : OkB b0 h w) (ht : t < 8) (ei : (itL h w b0 i).2 = []) (ej : (itL (hT h w t) (wT h w t) (turnB b0 t) j).2 = []) : (itL (hT h w t) (wT h w t) (turnB b0 t) j).1.length = (itL h w b0 i).1.length := by
  have kt := k.turn t
  have h5 := k.h5
  have w5 := k.w5
  have ks : (2 : Nat) * (hT h w t + wT h w t) = 2 * (h + w) := by rw [hw_T]
  have ks2 : (2 : Nat) * ((if t % 2 = 0 then h else w) + (if t % 2 = 0 then w else h)) = 2 * (h + w) := ks
  refine Nat.le_antisymm ?_ ?_
  · have := nodup_le (it_good kt j).1.nd (m := ((itL h w b0 i).1.map (·.1)).map fun c => turnB c t) fun x hx => by
      obtain ⟨s, hs, rfl⟩ := (keys_iff kt ej).mp hx
      obtain ⟨row, rfl, hr⟩ := row_onto h5 w5 ht s fun d hd => by have := hs d hd; omega
      rw [row_turn row k hr]
      exact List.mem_map.mpr ⟨_, (keys_iff k ei).mpr ⟨row, hr, rfl⟩, rfl⟩
    simpa using this
  · have nd : (((itL h w b0 i).1.map (·.1)).map fun c => turnB c t).Nodup := by
      have n0 := (it_good k i).1.nd
      rw [List.Nodup, List.pairwise_map]
      refine List.Pairwise.imp_of_mem (fun {a c} ha hc ne e => ne ?_) n0
      obtain ⟨p, hp, rfl⟩ := List.mem_map.mp ha
      obtain ⟨q, hq, rfl⟩ := List.mem_map.mp hc
      exact turn_inj ((it_good k i).1.ok p hp).1 ((it_good k i).1.ok q hq).1 e
    have := nodup_le nd (m := (itL (hT h w t) (wT h w t) (turnB b0 t) j).1.map (·.1)) fun x hx => by
      obtain ⟨c, hc, rfl⟩ := List.mem_map.mp hx
      obtain ⟨row, hr, rfl⟩ := (keys_iff k ei).mp hc
      refine (keys_iff kt ej).mpr ⟨row.map (drT h w t), fun d hd => ?_, row_turn row k hr⟩
      obtain ⟨e, he, rfl⟩ := List.mem_map.mp hd
      have := (drT_is (t := t) k (hr e he)).2
      omega
    simpa using this
/-- shortest rows of the turned box are as long -/
theorem few_turn {b0 g : Bx} {h w t i j : Nat} {r r' : List Nat} (k : OkB b0 h w) (ht : t < 8) (ei : (itL h w b0 i).2 = []) (ej : (itL (hT h w t) (wT h w t) (turnB b0 t) j).2 = [])
    (kg : OkB g h w) (e : look (itL h w b0 i).1 g = some r) (e' : look (itL (hT h w t) (wT h w t) (turnB b0 t) j).1 (turnB g t) = some r') : r'.length = r.length := by
  have kt := k.turn t
  have h5 := k.h5
  have w5 := k.w5
  have ks : (2 : Nat) * (hT h w t + wT h w t) = 2 * (h + w) := by rw [hw_T]
  have ks2 : (2 : Nat) * ((if t % 2 = 0 then h else w) + (if t % 2 = 0 then w else h)) = 2 * (h + w) := ks
  obtain ⟨_, _, r1, r2⟩ := (it_good k i).1.ok _ (look_some e)
  obtain ⟨_, _, s1, s2⟩ := (it_good kt j).1.ok _ (look_some e')
  refine Nat.le_antisymm ?_ ?_
  · obtain ⟨x, ex, lx⟩ := it_end kt ej (r.map (drT h w t)) fun d hd => by
      obtain ⟨y, hy, rfl⟩ := List.mem_map.mp hd
      have := (drT_is (t := t) k (r1 y hy)).2
      omega
    have r2 : ballR h w b0 r = g := r2
    rw [row_turn r k r1, r2, e'] at ex
    cases ex
    rwa [List.length_map] at lx
  · obtain ⟨row, rfl, hr⟩ := row_onto h5 w5 ht r' fun d hd => by have := s1 d hd; omega
    have s2 : ballR (hT h w t) (wT h w t) (turnB b0 t) (row.map (drT h w t)) = turnB g t := s2
    rw [row_turn row k hr] at s2
    have := turn_inj (ballR_ok row k hr).1 kg s2
    obtain ⟨x, ex, lx⟩ := it_end k ei row hr
    rw [this, e] at ex
    cases ex
    rwa [List.length_map]
end Py

set_option Elab.async false
set_option linter.all false
set_option maxRecDepth 100000
set_option autoImplicit false
set_option maxHeartbeats 8000000
namespace Py
open PySem PySem.Spec L2
def ib_recurrence : ISs := (.cons (.ex (.call 0 (.cons (.var 0) .nil))) (.cons (.ex (.call 1 (.cons (.var 0) (.cons (.var 1) .nil)))) (.cons (.par [2, 3] (.cons (.al (.dct .nil)) (.cons (.cst (.int 0)) .nil))) (.cons (.whl (.cmp .nin (.var 0) (.var 2)) (.cons (.asg (.sub (.var 2) (.var 0)) (.var 3)) (.cons (.asg (.nm 0) (.ix (.call 2 (.cons (.var 0) (.cons (.var 1) (.cons (.cst (.bl false)) .nil)))) (.cst (.int 1)))) (.cons (.asg (.nm 3) (.bin .add (.var 3) (.cst (.int 1)))) .nil)))) (.cons (.ret (.tup (.cons (.ix (.var 2) (.var 0)) (.cons (.bin .sub (.var 3) (.ix (.var 2) (.var 0))) .nil)))) .nil)))))
noncomputable def fn_recurrence : DFn := ⟨"recurrence", 2, false, callD (gam [fn_check_mirrors, fn_check_door, fn_rolled]) [] false 4 ib_recurrence⟩
def ib_law_k75 : ISs := (.cons (.asg (.nm 1) (.al (.call 0 (.cons (.var 0) .nil)))) (.cons (.asg (.nm 2) (.call 1 (.cons (.var 0) (.cons (.var 1) (.cons (.cst (.int 3)) (.cons (.cst (.int 3)) (.cons (.call 7 (.cons (.var 0) (.cons (.var 1) (.cons (.lst (.cons (.cst (.str [46, 114, 102])) (.cons (.cst (.str [114, 102])) (.cons (.cst (.str [114, 102, 35])) .nil)))) .nil)))) .nil))))))) (.cons (.for_ (.tp (.cons (.nm 3) (.cons (.nm 4) .nil))) (.seq (.sl (.call 8 (.cons (.var 2) (.cons (.cst (.str [114, 102])) .nil))) (.some (.cst (.int 6))) .none)) (.cons (.asg (.nm 2) (.call 9 (.cons (.var 2) (.cons (.var 3) (.cons (.var 4) (.cons (.cst (.str [46])) .nil)))))) .nil)) (.cons (.asg (.nm 5) (.call 2 (.cons (.var 0) (.cons (.var 1) (.cons (.cst (.int 8)) .nil))))) (.cons (.asg (.nm 6) (.call 3 (.cons (.var 2) (.cons (.var 5) .nil)))) (.cons (.asg (.nm 7) (.lc [8] (.nm 8) (.seq (.call 4 (.cons (.var 2) .nil))) (.cst (.bl true)) (.call 10 (.cons (.var 2) (.cons (.var 5) (.cons (.var 8) .nil)))))) (.cons (.for_ (.nm 8) (.seq (.call 4 (.cons (.var 2) .nil))) (.cons (.asg (.tp (.cons (.nm 9) (.cons (.nm 10) .nil))) (.call 11 (.cons (.var 2) (.cons (.var 8) .nil)))) (.cons (.ite (.cmp .ne (.call 11 (.cons (.var 6) (.cons (.ix (.var 7) (.var 8)) .nil))) (.tup (.cons (.ite (.cmp .is (.var 9) (.cst .non)) (.cst .non) (.ix (.var 7) (.var 9))) (.cons (.call 3 (.cons (.var 10) (.cons (.var 5) .nil))) .nil)))) (.cons (.ret (.cst (.bl false))) .nil) .nil) (.cons (.ite (.cmp .ne (.call 13 (.cons (.var 6) (.cons (.ix (.var 7) (.var 8)) .nil))) (.call 13 (.cons (.var 2) (.cons (.var 8) .nil)))) (.cons (.ret (.cst (.bl false))) .nil) .nil) .nil)))) (.cons (.ite (.cmp .ne (.call 12 (.cons (.var 6) .nil)) (.call 12 (.cons (.var 2) .nil))) (.cons (.ret (.cst (.bl false))) .nil) .nil) (.cons (.asg (.nm 11) (.bi .tuple (.cons (.lc [16] (.nm 16) (.rng1 (.call 2 (.cons (.var 0) (.cons (.var 1) (.cons (.cst (.int 6)) .nil))))) (.cst (.bl true)) (.call 7 (.cons (.var 0) (.cons (.var 1) (.cons (.call 4 (.cons (.var 2) .nil)) .nil))))) .nil))) (.cons (.asg (.tp (.cons (.nm 12) (.cons (.nm 13) .nil))) (.call 5 (.cons (.var 2) (.cons (.var 11) .nil)))) (.cons (.asg (.nm 14) (.call 5 (.cons (.var 6) (.cons (.bi .tuple (.cons (.lc [8] (.nm 8) (.seq (.var 11)) (.cst (.bl true)) (.ix (.var 7) (.var 8))) .nil)) .nil)))) (.cons (.ite (.cmp .ne (.var 14) (.tup (.cons (.bi .tuple (.cons (.lc [9] (.nm 9) (.seq (.var 12)) (.cst (.bl true)) (.ite (.cmp .is (.var 9) (.cst .non)) (.cst .non) (.ix (.var 7) (.var 9)))) .nil)) (.cons (.call 3 (.cons (.var 13) (.cons (.var 5) .nil))) .nil)))) (.cons (.ret (.cst (.bl false))) .nil) .nil) (.cons (.asg (.nm 3) (.call 6 (.cons (.var 2) (.cons (.var 13) .nil)))) (.cons (.ite (.or (.cmp .is (.var 3) (.cst .non)) (.or (.cmp .gt (.bi .len (.cons (.var 3) .nil)) (.bi .len (.cons (.var 11) .nil))) (.cmp .ne (.bi .len (.cons (.call 6 (.cons (.var 6) (.cons (.call 3 (.cons (.var 13) (.cons (.var 5) .nil))) .nil))) .nil)) (.bi .len (.cons (.var 3) .nil))))) (.cons (.ret (.cst (.bl false))) .nil) .nil) (.cons (.ite (.cmp .gt (.call 12 (.cons (.var 13) .nil)) (.call 12 (.cons (.var 2) .nil))) (.cons (.ret (.cst (.bl false))) .nil) .nil) (.cons (.asg (.nm 15) (.call 6 (.cons (.var 13) (.cons (.var 2) .nil)))) (.cons (.ret (.or (.cmp .is (.var 15) (.cst .non)) (.cmp .eq (.call 12 (.cons (.var 13) .nil)) (.call 12 (.cons (.var 2) .nil))))) .nil)))))))))))))))))
noncomputable def fn_law_k75 : DFn := ⟨"law", 1, false, callD (gam [fn__law_town, fn__law_box_ea4, fn__law_draw, fn_turned, fn__law_doors_c01, fn_after_balls, fn_fewest_balls, fn__law_pick_67d, fn__law_cells_a10, fn__law_with_539, fn_turned_door, fn_ball, fn_count_reached, fn_recurrence]) [] false 17 ib_law_k75⟩
end Py

set_option Elab.async false
set_option linter.all false
set_option maxRecDepth 100000
set_option autoImplicit false
set_option maxHeartbeats 4000000
namespace Py
open PySem PySem.Spec L2
/-! ### rows of balls, with the doors by which they come out -/
noncomputable def outR (h w : Nat) : Bx → List Nat → List (Option Int)
  | _, [] => []
  | b, d :: r => ballO false h w b (d : Nat) :: outR h w (ballB false h w b (d : Nat)) r
theorem outR_snoc {h w d : Nat} : ∀ (r : List Nat) (b : Bx), outR h w b (r ++ [d]) = outR h w b r ++ [ballO false h w (ballR h w b r) (d : Nat)]
  | [], _ => rfl
  | x :: r, b => by
    show _ :: outR h w _ (r ++ [d]) = _
    rw [outR_snoc r]
    rfl
theorem outR_len {h w : Nat} : ∀ (r : List Nat) (b : Bx), (outR h w b r).length = r.length
  | [], _ => rfl
  | x :: r, b => by
    show (_ :: outR h w _ r).length = _
    rw [List.length_cons, outR_len r, List.length_cons]
theorem outR_turn {h w t : Nat} : ∀ (row : List Nat) {b : Bx}, OkB b h w → (∀ d ∈ row, d < 2 * (h + w)) → outR (hT h w t) (wT h w t) (turnB b t) (row.map (drT h w t)) = (outR h w b row).map fun o => o.map (doorT h w t)
  | [], b, _, _ => rfl
  | d :: row, b, k, hr => by
    have hd := hr d List.mem_cons_self
    have bs := (ball_same (bk := false) k (d := (d : Nat)) (by omega) (by omega)).2.2
    have ih := outR_turn (t := t) row bs fun x hx => hr x (List.mem_cons_of_mem _ hx)
    have bt := ball_turn (t := t) k (d := (d : Nat)) (by omega) (by omega)
    rw [← (drT_is k hd).1] at bt
    show ballO false (hT h w t) (wT h w t) (turnB b t) ((drT h w t d : Nat) : Int) :: outR _ _ (ballB false (hT h w t) (wT h w t) (turnB b t) ((drT h w t d : Nat) : Int)) (row.map (drT h w t)) = _
    rw [bt.1, bt.2, ih]
    rfl
theorem ok_afterO {b : Bx} {h w : Nat} {row : List Nat} {st : DSt} {Q : D → DSt → Prop} (k : OkB b h w) (pl : PlainB b) (h9 : (cellsN b h w [114, 102]).length ≤ 9) (hr : ∀ d ∈ row, d < 2 * (h + w)) (hl : row.length ≤ 30)
    (q : Q (.tup [.tup ((outR h w b row).map oI), bx (ballR h w b row)]) st) : wF fn_after_balls.F [bx b, rI row] st Q := by
  obtain ⟨r0, e0, l0⟩ := bx_len0 k
  have hh := k.hh; have w5 := k.w5; have h5 := k.h5
  have eb : bx b = .tup (b.map .str) := rfl
  unfold fn_after_balls ib_after_balls rI
  simp only [EV, reduceCtorEq, Nat.reduceAdd, Nat.reduceSub, if_true, if_false, ite_true, ite_false]
  refine ok_check_mirrors k pl h9 ?_
  rw [eb]
  simp only [EV, reduceCtorEq, Nat.reduceAdd, Nat.reduceSub, if_true, if_false, ite_true, ite_false]
  rw [List.length_map, hh, e0]
  simp only [EV, reduceCtorEq, Nat.reduceAdd, Nat.reduceSub, if_true, if_false, ite_true, ite_false]
  rw [l0]
  refine ⟨sz_of (by omega), ok_doors_of ?_⟩
  simp only [EV, reduceCtorEq, Nat.reduceAdd, Nat.reduceSub, if_true, if_false, ite_true, ite_false]
  rw [List.length_map, decide_eq_false (by omega), if_neg (by simp)]
  refine wL_mapT (fun (d : Nat) => D.int (d : Int)) (fun _ => .bl true) (fun d hd R hR => ?_) ?_
  · have := hr d hd
    unfold itm
    simp only [EV, reduceCtorEq, Nat.reduceAdd, Nat.reduceSub, if_true, if_false, ite_true, ite_false]
    refine ok_is_between ?_
    rw [decide_eq_true (by omega)]
    exact hR
  rw [List.length_map, all_map, wOp_some]
  simp only [EV, reduceCtorEq, Nat.reduceAdd, Nat.reduceSub, if_true, if_false, ite_true, ite_false]
  refine ⟨sz_of (by omega), ?_⟩
  rw [if_neg (by simp)]
  refine ⟨rfl, ?_⟩
  rw [← eb]
  refine for_inv (fun i env s => ∃ x4 x5, env = [some (bx (ballR h w b (row.take i))), some (.tup (row.map fun (i : Nat) => .int (i : Int))), some (.int (2 * ((h : Int) + w) - 1)), some (.ref st.length), x4, x5, none] ∧ s = st ++ [.lst ((outR h w b (row.take i)).map oI)]) ⟨none, none, rfl, rfl⟩ (fun i x env s hx hI => ?_) fun env s hI => ?_
  · obtain ⟨x4, x5, rfl, rfl⟩ := hI
    rw [List.getElem?_map] at hx
    obtain ⟨d, hd, rfl⟩ := Option.map_eq_some_iff.mp hx
    have hdr := hr d (List.mem_of_getElem? hd)
    have hi := (List.getElem?_eq_some_iff.mp hd).1
    obtain ⟨kc, sc⟩ := ballR_ok (row.take i) k fun x hx => hr x (List.mem_of_mem_take hx)
    have pc := plain_same kc k sc pl
    have e : ballR h w b (row.take (i + 1)) = ballB false h w (ballR h w b (row.take i)) (d : Nat) := by
      rw [List.take_add_one, hd, Option.toList_some]
      unfold ballR
      rw [List.foldl_append]
      rfl
    have eo : outR h w b (row.take (i + 1)) = outR h w b (row.take i) ++ [ballO false h w (ballR h w b (row.take i)) (d : Nat)] := by
      rw [List.take_add_one, hd, Option.toList_some, outR_snoc]
    have ol := outR_len (h := h) (w := w) (row.take i) b
    rw [List.length_take] at ol
    simp only [EV, reduceCtorEq, Nat.reduceAdd, Nat.reduceSub, if_true, if_false, ite_true, ite_false]
    refine ok_rolled kc pc (by omega) (by omega) ?_
    unfold ballD
    simp only [EV, reduceCtorEq, Nat.reduceAdd, Nat.reduceSub, if_true, if_false, ite_true, ite_false]
    rw [view_end rfl, wOp_some]
    refine ⟨rfl, ?_⟩
    rw [app_end rfl (by rw [List.length_map]; omega), wOp_some]
    refine ⟨_, _, by rw [e], ?_⟩
    rw [eo, List.map_append]
    rfl
  obtain ⟨x4, x5, rfl, rfl⟩ := hI
  rw [List.length_map, List.take_length]
  simp only [EV, reduceCtorEq, Nat.reduceAdd, Nat.reduceSub, if_true, if_false, ite_true, ite_false]
  rw [view_end rfl, wOp_some]
  simp only [EV, reduceCtorEq, Nat.reduceAdd, Nat.reduceSub, if_true, if_false, ite_true, ite_false]
  refine ⟨rfl, wfin_ex (by simp) (frz_p ?_) q⟩
  simp [D.pure, D.pures, pure_bx, pures_map (g := oI) (fun o => by cases o <;> rfl) (outR h w b row)]
/-! ### when a box comes again -/
noncomputable def cyc (h w : Nat) (b : Bx) (d n : Nat) : Bx := ballR h w b (List.replicate n d)
theorem cyc_succ {h w d n : Nat} {b : Bx} : cyc h w b d (n + 1) = ballB false h w (cyc h w b d n) (d : Nat) := by
  unfold cyc ballR
  rw [List.replicate_succ', List.foldl_append]
  rfl
structure RecP (h w : Nat) (b : Bx) (d k n : Nat) : Prop where
  lt : k < n
  eq : cyc h w b d k = cyc h w b d n
  un : ∀ i j, i < j → j < n → cyc h w b d i ≠ cyc h w b d j
theorem RecP.uniq {h w d k n k' n' : Nat} {b : Bx} (a : RecP h w b d k n) (c : RecP h w b d k' n') : k = k' ∧ n = n' := by
  have e : n = n' := by
    rcases Nat.lt_trichotomy n n' with q | q | q
    · exact absurd a.eq (c.un _ _ a.lt q)
    · exact q
    · exact absurd c.eq (a.un _ _ c.lt q)
  subst e
  refine ⟨?_, rfl⟩
  have ee : cyc h w b d k = cyc h w b d k' := a.eq.trans c.eq.symm
  rcases Nat.lt_trichotomy k k' with q | q | q
  · exact absurd ee (a.un _ _ q c.lt)
  · exact q
  · exact absurd ee.symm (a.un _ _ q a.lt)
theorem cyc_ok {h w d : Nat} {b : Bx} (k : OkB b h w) (hd : d < 2 * (h + w)) (n : Nat) : OkB (cyc h w b d n) h w ∧ SameK (cyc h w b d n) b h w :=
  ballR_ok _ k fun x hx => by rw [(List.mem_replicate.mp hx).2]; exact hd
theorem RecP.turn {h w d k n t : Nat} {b : Bx} (kb : OkB b h w) (hd : d < 2 * (h + w)) (a : RecP h w b d k n) : RecP (hT h w t) (wT h w t) (turnB b t) (drT h w t d) k n := by
  have e : ∀ m, cyc (hT h w t) (wT h w t) (turnB b t) (drT h w t d) m = turnB (cyc h w b d m) t := fun m => by
    unfold cyc
    rw [← List.map_replicate]
    exact row_turn _ kb fun x hx => by rw [(List.mem_replicate.mp hx).2]; exact hd
  refine ⟨a.lt, by rw [e, e, a.eq], fun i j ij jn q => ?_⟩
  rw [e, e] at q
  exact a.un i j ij jn (turn_inj (cyc_ok kb hd i).1 (cyc_ok kb hd j).1 q)
end Py

set_option Elab.async false
set_option linter.all false
set_option maxRecDepth 100000
set_option autoImplicit false
set_option maxHeartbeats 4000000
namespace Py
open PySem PySem.Spec L2
/-! ### the boxes met, as a dict -/
noncomputable def kvC (c : Nat → Bx) (n : Nat) : List (D × D) := (List.range n).map fun k => (bx (c k), .int k)
theorem fit_C {b : Bx} {h w : Nat} {c : Nat → Bx} {n : Nat} (k : OkB b h w) : fitK (bx b) (kvC c n) = true := by
  unfold fitK kvC
  rw [key_bx k, Bool.true_and, List.all_map, List.all_eq_true]
  intro x _
  rfl
theorem has_C {b : Bx} {c : Nat → Bx} {n : Nat} : hasK (bx b) (kvC c n) = (List.range n).any fun k => decide (c k = b) := by
  unfold hasK kvC
  rw [List.any_map]
  congr 1
  funext k
  exact bx_eqv
theorem put_C {s : DSt} {h w : Nat} {c : Nat → Bx} {n : Nat} (k : OkB (c n) h w) (hb : ∀ i, i < n → c i ≠ c n) (hz : n < 1000) :
    subSet (s ++ [.dct (kvC c n)]) (.ref s.length) (bx (c n)) (.int n) = some (s ++ [.dct (kvC c (n + 1))]) := by
  have hs : hasK (bx (c n)) (kvC c n) = false := by
    rw [has_C, Bool.eq_false_iff, ne_eq, List.any_eq_true]
    rintro ⟨i, hi, e⟩
    exact hb i (List.mem_range.mp hi) (of_decide_eq_true e)
  have put : putKD (kvC c n) (bx (c n)) (.int n) = kvC c (n + 1) := by
    unfold putKD
    rw [hs, if_neg (by simp)]
    unfold kvC
    rw [List.range_succ, List.map_append]
    rfl
  have len : (kvC c n).length = n := by unfold kvC; rw [List.length_map, List.length_range]
  simp only [subSet, List.getElem?_concat_length, setK, fit_C k, len, sz_of (show n + 1 ≤ 100000 by omega), Bool.and_self, if_true, put, Option.map_some, setO]
  rw [List.set_append_right _ _ (Nat.le_refl _)]
  simp
theorem find_C {c : Nat → Bx} {n k : Nat} (hk : k < n) (un : ∀ i j, i < j → j < n → c i ≠ c j) : findK (bx (c k)) (kvC c n) = some (.int k) := by
  unfold findK kvC
  rw [List.find?_map]
  have : ((fun p : D × D => D.eqv p.1 (bx (c k))) ∘ fun i : Nat => (bx (c i), D.int (i : Int))) = fun i => decide (c i = c k) := by
    funext i
    exact bx_eqv
  rw [this, find_first hk (by simp) fun j hj => decide_eq_false (un j k hj hk)]
  rfl
theorem ok_recur {b : Bx} {h w d : Nat} {st : DSt} {Q : D → DSt → Prop} (k0 : OkB b h w) (pl0 : PlainB b) (c6 : (cellsN b h w [114, 102]).length ≤ 6) (hd : d < 2 * (h + w))
    (q : ∀ k n, RecP h w b d k n → Q (.tup [.int k, .int ((n : Int) - k)]) st) : wF fn_recurrence.F [bx b, .int d] st Q := by
  unfold fn_recurrence ib_recurrence
  simp only [EV, reduceCtorEq, Nat.reduceAdd, Nat.reduceSub, if_true, if_false, ite_true, ite_false]
  refine ok_check_mirrors k0 pl0 (by omega) ?_
  try simp only [EV, view_bx, view_tri, view_oI, sz_0, sz_1, sz_2, sz_3, sz_4, sz_5, true_and, reduceCtorEq, Nat.reduceAdd, Nat.reduceSub, if_true, if_false, ite_true, ite_false]
  refine ok_check_door k0 (by omega) (by omega) ?_
  try simp only [EV, view_bx, view_tri, view_oI, sz_0, sz_1, sz_2, sz_3, sz_4, sz_5, true_and, reduceCtorEq, Nat.reduceAdd, Nat.reduceSub, if_true, if_false, ite_true, ite_false]
  rw [show dispK [] = some (.dct []) from rfl, wOp_some]
  have ck := fun n => cyc_ok (n := n) k0 hd
  have bd : ∀ n, (∀ i j, i < j → j < n → cyc h w b d i ≠ cyc h w b d j) → n ≤ 64 := fun n un => by
    obtain ⟨i, ei⟩ := it_stops k0 pl0
    have nd : ((List.range n).map (cyc h w b d)).Nodup := by
      rw [List.Nodup, List.pairwise_map]
      refine List.Pairwise.imp_of_mem (fun {x y} hx hy (lt : x < y) => un x y lt (List.mem_range.mp hy)) List.pairwise_lt_range
    have := nodup_le nd (m := (itL h w b i).1.map (·.1)) fun x hx => by
      obtain ⟨m, _, rfl⟩ := List.mem_map.mp hx
      exact (keys_iff k0 ei).mpr ⟨List.replicate m d, fun y hy => by rw [(List.mem_replicate.mp hy).2]; exact hd, rfl⟩
    have f := Nat.le_trans (keys_few k0 pl0 (it_good k0 i).1) (Nat.pow_le_pow_right (n := 2) (by omega) c6)
    simp at this
    omega
  show wS _ _ _ _ (st ++ [.dct (kvC (cyc h w b d) 0)]) _
  refine whl_inv (fun m env s => ∃ n, env = [some (bx (cyc h w b d n)), some (.int d), some (.ref st.length), some (.int n)] ∧ s = st ++ [.dct (kvC (cyc h w b d) n)] ∧ m = 65 - n ∧ ∀ i j, i < j → j < n → cyc h w b d i ≠ cyc h w b d j)
    _ ⟨0, rfl, rfl, rfl, fun i j _ h => by omega⟩ fun m env s hI => ?_
  obtain ⟨n, rfl, rfl, hm, un⟩ := hI
  have n64 := bd n un
  have inC : inD (bx (cyc h w b d n)) (.dct (kvC (cyc h w b d) n)) = some ((List.range n).any fun k => decide (cyc h w b d k = cyc h w b d n)) := by
    show (if fitK (bx (cyc h w b d n)) (kvC (cyc h w b d) n) = true then some (hasK (bx (cyc h w b d n)) (kvC (cyc h w b d) n)) else _) = _
    rw [if_pos (fit_C (ck n).1), has_C]
  simp only [EV, reduceCtorEq, Nat.reduceAdd, Nat.reduceSub, if_true, if_false, ite_true, ite_false]
  rw [view_bx, wOp_some, view_mid rfl, wOp_some, inC, wOp_some]
  by_cases c : ∃ k, k < n ∧ cyc h w b d k = cyc h w b d n
  · obtain ⟨k, hk, e⟩ := c
    rw [show ((List.range n).any fun k => decide (cyc h w b d k = cyc h w b d n)) = true from List.any_eq_true.mpr ⟨k, List.mem_range.mpr hk, decide_eq_true e⟩, if_neg (by simp)]
    have ix : ixD (.dct (kvC (cyc h w b d) n)) (bx (cyc h w b d n)) = some (.int k) := by
      show (if fitK (bx (cyc h w b d n)) (kvC (cyc h w b d) n) = true then findK (bx (cyc h w b d n)) (kvC (cyc h w b d) n) else none) = _
      rw [if_pos (fit_C (ck n).1), ← e, find_C hk un]
    rw [wOp_some, ix, wOp_some, wOp_some, ix, wOp_some]
    simp only [EV, reduceCtorEq, Nat.reduceAdd, Nat.reduceSub, if_true, if_false, ite_true, ite_false]
    exact wfin_ex (by simp) (frz_p (by simp [D.pure, D.pures])) (q k n ⟨hk, e, un⟩)
  · have no : ∀ i, i < n → cyc h w b d i ≠ cyc h w b d n := fun i hi e => c ⟨i, hi, e⟩
    rw [show ((List.range n).any fun k => decide (cyc h w b d k = cyc h w b d n)) = false by
      rw [Bool.eq_false_iff, ne_eq, List.any_eq_true]
      rintro ⟨i, hi, e⟩
      exact no i (List.mem_range.mp hi) (of_decide_eq_true e), if_pos (by simp)]
    rw [put_C (ck n).1 no (by omega), wOp_some]
    refine ok_rolled (ck n).1 (plain_same (ck n).1 k0 (ck n).2 pl0) (by omega) (by omega) ?_
    unfold ballD
    simp only [EV, reduceCtorEq, Nat.reduceAdd, Nat.reduceSub, if_true, if_false, ite_true, ite_false]
    refine ⟨_, ?_, n + 1, by rw [cyc_succ]; rfl, rfl, rfl, fun i j ij jn => ?_⟩
    · omega
    · by_cases e : j = n
      · subst e
        exact no i ij
      · exact un i j ij (by omega)
end Py

set_option Elab.async false
set_option linter.all false
set_option maxRecDepth 100000
set_option autoImplicit false
set_option maxHeartbeats 8000000
namespace Py
open PySem PySem.Spec L2
theorem oth_rf {s : Nat} : OTH s ∈ [114, 102] ↔ s ∈ [114, 102] := by
  unfold OTH
  simp only [List.mem_cons, List.not_mem_nil, or_false]
  (repeat' split) <;> omega
theorem few_qu {b : Bx} {h w : Nat} (k : OkB b h w) : (cellsN (quB b) w h [114, 102]).length ≤ (cellsN b h w [114, 102]).length := by
  have nd : ((cellsN (quB b) w h [114, 102]).map fun p => (h - 1 - p.2, p.1)).Nodup := by
    rw [List.Nodup, List.pairwise_map]
    refine List.Pairwise.imp_of_mem (fun {p q} hp hq ne e => ne ?_) cells_nodup
    have a := cells_lt hp
    have b := cells_lt hq
    have e1 := (Prod.mk.inj e).1
    have e2 := (Prod.mk.inj e).2
    exact Prod.ext e2 (by omega)
  have := nodup_le nd (m := cellsN b h w [114, 102]) fun x hx => by
    obtain ⟨p, hp, rfl⟩ := List.mem_map.mp hx
    obtain ⟨a1, a2, a3⟩ := cells_mem.mp hp
    rw [cel_qu k a1 a2, oth_rf] at a3
    exact cells_mem.mpr ⟨by show h - 1 - p.2 < h; omega, a1, a3⟩
  rwa [List.length_map] at this
theorem few_ex {b : Bx} {h w : Nat} (k : OkB b h w) : (cellsN (exB b) h w [114, 102]).length ≤ (cellsN b h w [114, 102]).length := by
  have nd : ((cellsN (exB b) h w [114, 102]).map fun p => (p.1, w - 1 - p.2)).Nodup := by
    rw [List.Nodup, List.pairwise_map]
    refine List.Pairwise.imp_of_mem (fun {p q} hp hq ne e => ne ?_) cells_nodup
    have a := cells_lt hp
    have b := cells_lt hq
    have e1 := (Prod.mk.inj e).1
    have e2 := (Prod.mk.inj e).2
    exact Prod.ext e1 (by omega)
  have := nodup_le nd (m := cellsN b h w [114, 102]) fun x hx => by
    obtain ⟨p, hp, rfl⟩ := List.mem_map.mp hx
    obtain ⟨a1, a2, a3⟩ := cells_mem.mp hp
    rw [cel_ex k a1 a2, oth_rf] at a3
    exact cells_mem.mpr ⟨a1, by show w - 1 - p.2 < w; omega, a3⟩
  rwa [List.length_map] at this
theorem few_quN {b : Bx} {h w : Nat} (k : OkB b h w) : ∀ n, (cellsN (quN n b) (if n % 2 = 0 then h else w) (if n % 2 = 0 then w else h) [114, 102]).length ≤ (cellsN b h w [114, 102]).length
  | 0 => Nat.le_refl _
  | n + 1 => by
    have ih := few_quN k n
    have q := few_qu (k.quN n)
    have e1 : (if (n + 1) % 2 = 0 then h else w) = (if n % 2 = 0 then w else h) := by split <;> split <;> omega
    have e2 : (if (n + 1) % 2 = 0 then w else h) = (if n % 2 = 0 then h else w) := by split <;> split <;> omega
    rw [e1, e2]
    exact Nat.le_trans q ih
theorem few_turnB {b : Bx} {h w : Nat} (k : OkB b h w) (t : Nat) : (cellsN (turnB b t) (hT h w t) (wT h w t) [114, 102]).length ≤ (cellsN b h w [114, 102]).length := by
  have e : t % 4 % 2 = t % 2 := by omega
  unfold turnB hT wT
  by_cases ht : t > 3
  · rw [if_pos ht]
    have := few_quN k.ex (t % 4)
    rw [e] at this
    exact Nat.le_trans this (few_ex k)
  · rw [if_neg ht]
    have := few_quN k (t % 4)
    rwa [e] at this
theorem outR_rg {h w : Nat} : ∀ (row : List Nat) {b : Bx}, OkB b h w → (∀ d ∈ row, d < 2 * (h + w)) → ∀ o ∈ outR h w b row, ∀ v, o = some v → 0 ≤ v ∧ v < 2 * (h + w)
  | [], b, _, _, o, ho, _, _ => absurd ho List.not_mem_nil
  | d :: row, b, k, hr, o, ho, v, e => by
    have hd := hr d List.mem_cons_self
    have bs := (ball_same (bk := false) k (d := (d : Nat)) (by omega) (by omega)).2.2
    rcases List.mem_cons.mp ho with q | q
    · subst e
      obtain ⟨v0, v1, _⟩ := ball_back k (by omega) (by omega) q.symm
      exact ⟨v0, v1⟩
    · exact outR_rg row bs (fun x hx => hr x (List.mem_cons_of_mem _ hx)) o q v e
theorem few_is {F : List Ent} {g : Bx} {r : List Nat} (e : look F g = some r) : fewD F g = rI r := by
  unfold fewD
  rw [e]
  rfl
theorem len_rI {r : List Nat} (hl : r.length ≤ 100) : biLen [rI r] = some (.int r.length) := by
  unfold rI
  simp [biLen, lenD, sz_of (show r.length ≤ 100000 by omega)]
theorem holds_k75 (ns : List Int) (hn : ns.length ≤ 63) : wF fn_law_k75.F [scr ns] [] fun d _ => d = .bl true := by
  unfold fn_law_k75 ib_law_k75
  simp only [EV, reduceCtorEq, Nat.reduceAdd, Nat.reduceSub, if_true, if_false, ite_true, ite_false]
  refine ok_town hn ?_
  try simp only [EV, view_bx, view_tri, view_oI, sz_0, sz_1, sz_2, sz_3, sz_4, sz_5, true_and, reduceCtorEq, Nat.reduceAdd, Nat.reduceSub, if_true, if_false, ite_true, ite_false]
  have T0 : TW 1000000000000 ns.length [] [.lst (.int 0 :: ns.map .int)] := ⟨0, ns, rfl, rfl, by omega, by omega⟩
  refine ok_pick_l (B := 9000) (T0.mono (by omega)) hn (by omega) (by decide) (by decide) fun y hy st1 T1 => ?_
  obtain ⟨sg, rfl, hsg, s1, s2⟩ : ∃ sg : List Nat, y = .str sg ∧ (∀ c ∈ sg, c ∈ SGN ∧ c ≠ 82 ∧ c ≠ 70) ∧ 1 ≤ sg.length ∧ sg.length ≤ 1000 := by
    simp only [List.mem_cons, List.not_mem_nil, or_false] at hy
    rcases hy with rfl | rfl | rfl <;> exact ⟨_, rfl, by decide, by decide, by decide⟩
  try simp only [EV, view_bx, view_tri, view_oI, sz_0, sz_1, sz_2, sz_3, sz_4, sz_5, true_and, reduceCtorEq, Nat.reduceAdd, Nat.reduceSub, if_true, if_false, ite_true, ite_false]
  refine ok_law_boxL (B := 8000) (by omega) (by omega) (by omega) (by omega) (T1.mono (by omega)) hn (by omega) s1 s2 (fun c hc => (hsg c hc).1) fun a h w st ka ha hh hw T => ?_
  have pa : PlainB a := fun r hr c hc => (hsg c (ha r hr c hc)).2
  try simp only [EV, view_bx, view_tri, view_oI, sz_0, sz_1, sz_2, sz_3, sz_4, sz_5, true_and, reduceCtorEq, Nat.reduceAdd, Nat.reduceSub, if_true, if_false, ite_true, ite_false]
  refine ok_law_cells ka ?_
  unfold cellsD
  try simp only [EV, view_bx, view_tri, view_oI, sz_0, sz_1, sz_2, sz_3, sz_4, sz_5, true_and, reduceCtorEq, Nat.reduceAdd, Nat.reduceSub, if_true, if_false, ite_true, ite_false]
  rw [show cut (List.map (fun p : Nat × Nat => D.tup [D.int p.1, D.int p.2]) (cellsN a h w [114, 102])) (some 6) none = ((cellsN a h w [114, 102]).drop 6).map (fun p => D.tup [D.int p.1, D.int p.2]) by rw [List.map_drop]; exact cut_from (i := 6)]
  refine for_inv (fun i env s => ∃ (x3 x4 : Option D) (c : Bx), env = [some (scr ns), some (.ref 0), some (bx c), x3, x4, none, none, none, none, none, none, none, none, none, none, none, none] ∧ Dull a c h w (((cellsN a h w [114, 102]).drop 6).take i) ∧ s = st) ⟨none, none, a, rfl, ⟨ka, pa, fun _ _ _ _ _ => rfl, fun q hq => by simp at hq⟩, rfl⟩ (fun i x env s hx hI => ?_) fun env s hI => ?_
  · obtain ⟨x3, x4, c, rfl, C, rfl⟩ := hI
    rw [List.getElem?_map] at hx
    obtain ⟨p, hp, rfl⟩ := Option.map_eq_some_iff.mp hx
    have pl := cells_lt (List.mem_of_mem_drop (List.mem_of_getElem? hp))
    simp only [EV, reduceCtorEq, Nat.reduceAdd, Nat.reduceSub, if_true, if_false, ite_true, ite_false]
    refine ok_law_with7 C.k pl.1 pl.2 ?_
    refine ⟨_, _, _, rfl, ?_, rfl⟩
    rw [List.take_add_one, hp, Option.toList_some]
    exact C.step pl.1 pl.2 (by decide)
  obtain ⟨x3, x4, b0, rfl, C, rfl⟩ := hI
  rw [List.length_map, List.take_length] at C
  have c6 : (cellsN b0 h w [114, 102]).length ≤ 6 := few_rest C.out fun p hp => by
    have := C.on p hp
    simp only [List.mem_cons, List.not_mem_nil, or_false] at this ⊢
    omega
  have k0 := C.k
  have pl0 := C.p
  clear C
  simp only [EV, reduceCtorEq, Nat.reduceAdd, Nat.reduceSub, if_true, if_false, ite_true, ite_false]
  refine ok_draw (B := 7900) (T.mono (by omega)) hn (by omega) (by omega) (by omega) fun t s3 t0 t1 T3 => ?_
  obtain ⟨t, rfl⟩ := Int.eq_ofNat_of_zero_le t0
  have ht : t < 8 := by omega
  try simp only [EV, view_bx, view_tri, view_oI, sz_0, sz_1, sz_2, sz_3, sz_4, sz_5, true_and, reduceCtorEq, Nat.reduceAdd, Nat.reduceSub, if_true, if_false, ite_true, ite_false]
  refine ok_turned k0 ht ?_
  have kt := k0.turn t
  have pt := pl0.turn k0 t
  have ct := Nat.le_trans (few_turnB k0 t) c6
  have h5 := k0.h5; have w5 := k0.w5
  try simp only [EV, view_bx, view_tri, view_oI, sz_0, sz_1, sz_2, sz_3, sz_4, sz_5, true_and, reduceCtorEq, Nat.reduceAdd, Nat.reduceSub, if_true, if_false, ite_true, ite_false]
  refine ok_law_doors k0 ?_
  try simp only [EV, view_bx, view_tri, view_oI, sz_0, sz_1, sz_2, sz_3, sz_4, sz_5, true_and, reduceCtorEq, Nat.reduceAdd, Nat.reduceSub, if_true, if_false, ite_true, ite_false]
  refine wL_mapT (fun (i : Nat) => D.int (i : Int)) (fun i => .int (drT h w t i)) (fun d hd R hR => ?_) ?_
  · have hd := List.mem_range.mp hd
    unfold itm
    simp only [EV, reduceCtorEq, Nat.reduceAdd, Nat.reduceSub, if_true, if_false, ite_true, ite_false]
    refine ok_turned_door k0 ht (by omega) (by omega) ?_
    rw [(drT_is k0 hd).1] at hR
    exact hR
  refine ⟨sz_of (by rw [List.length_map, List.length_range]; omega), ok_law_doors k0 ?_⟩
  try simp only [EV, view_bx, view_tri, view_oI, sz_0, sz_1, sz_2, sz_3, sz_4, sz_5, true_and, reduceCtorEq, Nat.reduceAdd, Nat.reduceSub, if_true, if_false, ite_true, ite_false]
  have dl : ∀ d, d < 2 * (h + w) → atI ((List.range (2 * (h + w))).map fun i => D.int (drT h w t i)) ((d : Nat) : Int) = some (.int (drT h w t d)) := fun d hd => by
    rw [atI_nat', List.getElem?_map, List.getElem?_range hd]
    rfl
  have ks : (2 : Nat) * (hT h w t + wT h w t) = 2 * (h + w) := by rw [hw_T]
  have ks2 : (2 : Nat) * ((if t % 2 = 0 then h else w) + (if t % 2 = 0 then w else h)) = 2 * (h + w) := ks
  refine for_inv (fun i env s' => ∃ x8 x9 x10, env = [some (scr ns), some (.ref 0), some (bx b0), x3, x4, some (.int t), some (bx (turnB b0 t)), some (.lst ((List.range (2 * (h + w))).map fun i => .int (drT h w t i))), x8, x9, x10, none, none, none, none, none, none] ∧ s' = s3) ⟨none, none, none, rfl, rfl⟩ (fun d x env s' hx hI => ?_) fun env s' hI => ?_
  · obtain ⟨x8, x9, x10, rfl, rfl⟩ := hI
    have hd : d < 2 * (h + w) := by
      have := (List.getElem?_eq_some_iff.mp hx).1
      simpa using this
    have ex : x = .int d := by
      rw [List.getElem?_map, List.getElem?_range hd] at hx
      exact (Option.some.inj hx).symm
    subst ex
    have dT := drT_is (t := t) k0 hd
    have bT := ball_turn (t := t) k0 (d := (d : Nat)) (by omega) (by omega)
    rw [← dT.1] at bT
    have bs := ball_same (bk := false) k0 (d := (d : Nat)) (by omega) (by omega)
    simp only [EV, reduceCtorEq, Nat.reduceAdd, Nat.reduceSub, if_true, if_false, ite_true, ite_false]
    refine ok_ball k0 pl0 (by omega) (by omega) (by omega) ?_
    unfold ballD
    simp only [EV, reduceCtorEq, Nat.reduceAdd, Nat.reduceSub, if_true, if_false, ite_true, ite_false]
    rw [dl d hd, wOp_some]
    have dT2 := dT.2
    refine ok_ball kt pt (Nat.le_trans ct (by omega)) (by omega) (by omega) ?_
    unfold ballD
    rw [bT.1, bT.2]
    have rest : ∀ K : DSt → Prop, K s' → wF fn_recurrence.F [bx (turnB b0 t), .int (drT h w t d)] s' fun x s1 => wF fn_recurrence.F [bx b0, .int d] s1 fun y s2 => wOp (view s2 x) fun u => wOp (view s2 y) fun v => wOp (cmpD .ne u v) fun t2 => if t2 = true then wfin false [] (.bl false) s2 fun d x => d = .bl true else K s2 := by
      intro K hK
      refine ok_recur kt pt ct (by omega) fun i n R => ?_
      refine ok_recur k0 pl0 c6 hd fun i' n' R' => ?_
      obtain ⟨e1, e2⟩ := (R'.turn (t := t) k0 hd).uniq R
      subst e1
      subst e2
      try simp only [EV, view_bx, view_tri, view_oI, sz_0, sz_1, sz_2, sz_3, sz_4, sz_5, true_and, reduceCtorEq, Nat.reduceAdd, Nat.reduceSub, if_true, if_false, ite_true, ite_false]
      rw [ne_self (ok_tup (oks_cons ok_int (oks_cons ok_int oks_nil))), wOp_some, if_neg (by simp)]
      exact hK
    have kB := bs.2.2
    have ktB := kB.turn t
    cases ho : ballO false h w b0 (d : Nat) with
    | none =>
      rw [view_oI, wOp_some, show isNon (oI none) = true from rfl, if_pos rfl]
      refine ok_turned kB ht ?_
      try simp only [EV, view_bx, view_tri, view_oI, sz_0, sz_1, sz_2, sz_3, sz_4, sz_5, true_and, reduceCtorEq, Nat.reduceAdd, Nat.reduceSub, if_true, if_false, ite_true, ite_false]
      rw [show D.tup [oI (Option.map (doorT h w t) none), bx (turnB (ballB false h w b0 (d : Nat)) t)] = .tup [.non, bx (turnB (ballB false h w b0 (d : Nat)) t)] from rfl, ne_self (ok_tup (oks_cons ok_non (oks_cons (bx_ok ktB) oks_nil))), wOp_some, if_neg (by simp)]
      exact rest _ ⟨_, _, _, rfl, rfl⟩
    | some o =>
      obtain ⟨o0, o1, _⟩ := ball_back k0 (by omega) (by omega) ho
      obtain ⟨n, rfl⟩ := Int.eq_ofNat_of_zero_le o0
      rw [view_oI, wOp_some, show isNon (oI (some (n : Int))) = false from rfl, if_neg (by simp)]
      rw [show ixD (.lst ((List.range (2 * (h + w))).map fun i => D.int (drT h w t i))) (oI (some (n : Int))) = some (.int (drT h w t n)) from dl n (by omega), wOp_some]
      refine ok_turned kB ht ?_
      try simp only [EV, view_bx, view_tri, view_oI, sz_0, sz_1, sz_2, sz_3, sz_4, sz_5, true_and, reduceCtorEq, Nat.reduceAdd, Nat.reduceSub, if_true, if_false, ite_true, ite_false]
      rw [show D.tup [oI (some (doorT h w t (n : Int))), bx (turnB (ballB false h w b0 (d : Nat)) t)] = .tup [.int (drT h w t n), bx (turnB (ballB false h w b0 (d : Nat)) t)] by rw [(drT_is k0 (by omega)).1]; rfl, ne_self (ok_tup (oks_cons ok_int (oks_cons (bx_ok ktB) oks_nil))), wOp_some, if_neg (by simp)]
      exact rest _ ⟨_, _, _, rfl, rfl⟩
  obtain ⟨x8, x9, x10, rfl, rfl⟩ := hI
  simp only [EV, reduceCtorEq, Nat.reduceAdd, Nat.reduceSub, if_true, if_false, ite_true, ite_false]
  obtain ⟨i0, ei⟩ := it_stops k0 pl0
  obtain ⟨j0, ej⟩ := it_stops kt pt
  have cnt := count_turn k0 ht ei ej
  refine ok_count kt pt ct ej (ok_count k0 pl0 c6 ei ?_)
  try simp only [EV, view_bx, view_tri, view_oI, sz_0, sz_1, sz_2, sz_3, sz_4, sz_5, true_and, reduceCtorEq, Nat.reduceAdd, Nat.reduceSub, if_true, if_false, ite_true, ite_false]
  rw [cnt, show decide (((itL h w b0 i0).1.length : Int) ≠ (itL h w b0 i0).1.length) = false by simp, if_neg (by simp)]
  refine ok_draw (B := 7899) (T3.mono (by omega)) hn (by omega) (by omega) (by omega) fun m s4 m0 m1 T4 => ?_
  try simp only [EV, view_bx, view_tri, view_oI, sz_0, sz_1, sz_2, sz_3, sz_4, sz_5, true_and, reduceCtorEq, Nat.reduceAdd, Nat.reduceSub, if_true, if_false, ite_true, ite_false]
  obtain ⟨m, rfl⟩ := Int.eq_ofNat_of_zero_le m0
  rw [rangeL_0]
  refine ⟨rngOk_of (by omega) (by omega) (by omega) (by omega), ?_⟩
  refine itm_inv (fun i ds s => ∃ row : List Nat, ds = row.map (fun (d : Nat) => D.int (d : Int)) ∧ row.length = i ∧ (∀ d ∈ row, d < 2 * (h + w)) ∧ TW (7899 - i) ns.length [] s) ⟨[], rfl, rfl, fun d hd => absurd hd List.not_mem_nil, T4.mono (by omega)⟩ (fun i x acc s hx hI => ?_) fun ds s5 hI => ?_
  · obtain ⟨row, rfl, rl, rr, T5⟩ := hI
    have hi : i < m := by
      have := (List.getElem?_eq_some_iff.mp hx).1
      simpa using this
    unfold itm
    simp only [EV, reduceCtorEq, Nat.reduceAdd, Nat.reduceSub, if_true, if_false, ite_true, ite_false]
    refine ok_law_doors k0 ?_
    try simp only [EV, view_bx, view_tri, view_oI, sz_0, sz_1, sz_2, sz_3, sz_4, sz_5, true_and, reduceCtorEq, Nat.reduceAdd, Nat.reduceSub, if_true, if_false, ite_true, ite_false]
    refine ok_pick_l (B := 7899 - (i + 1)) (T5.mono (by omega)) hn (by omega) (by rw [List.length_map, List.length_range]; have := k0.h1; omega) (by rw [List.length_map, List.length_range]; omega) fun y hy s6 T6 => ?_
    obtain ⟨d, hd, rfl⟩ := List.mem_map.mp hy
    refine ⟨row ++ [d], by rw [List.map_append]; rfl, by rw [List.length_append, rl]; rfl, fun z hz => ?_, T6.mono (by omega)⟩
    rcases List.mem_append.mp hz with q | q
    · exact rr z q
    · cases List.mem_singleton.mp q
      exact List.mem_range.mp hd
  obtain ⟨row, rfl, rl, rr, T5⟩ := hI
  rw [List.length_map, List.length_range] at rl T5
  have r5 : row.length ≤ 5 := by omega
  refine ⟨sz_of (by rw [List.length_map]; omega), ?_⟩
  rw [show D.tup (row.map fun (d : Nat) => D.int (d : Int)) = rI row from rfl]
  refine ok_afterO k0 pl0 (by omega) rr (by omega) ?_
  try simp only [EV, view_bx, view_tri, view_oI, sz_0, sz_1, sz_2, sz_3, sz_4, sz_5, true_and, reduceCtorEq, Nat.reduceAdd, Nat.reduceSub, if_true, if_false, ite_true, ite_false]
  rw [show seqD (rI row) = some (row.map fun (d : Nat) => D.int (d : Int)) from rfl, wOp_some]
  refine wL_mapT (fun (d : Nat) => D.int (d : Int)) (fun d => .int (drT h w t d)) (fun d hd R hR => ?_) ?_
  · unfold itm
    simp only [EV, reduceCtorEq, Nat.reduceAdd, Nat.reduceSub, if_true, if_false, ite_true, ite_false]
    rw [dl d (rr d hd), wOp_some]
    exact hR
  refine ⟨sz_of (by rw [List.length_map]; omega), ?_⟩
  rw [show D.tup (row.map fun d => D.int (drT h w t d)) = rI (row.map (drT h w t)) by unfold rI; rw [List.map_map]; rfl]
  have rrT : ∀ d ∈ row.map (drT h w t), d < 2 * ((if t % 2 = 0 then h else w) + (if t % 2 = 0 then w else h)) := fun d hd => by
    obtain ⟨e, he, rfl⟩ := List.mem_map.mp hd
    have := (drT_is (t := t) k0 (rr e he)).2
    omega
  have oT := outR_turn (t := t) row k0 rr
  have bT := row_turn (t := t) row k0 rr
  refine ok_afterO kt pt (Nat.le_trans ct (by omega)) rrT (by rw [List.length_map]; omega) ?_
  rw [oT, bT]
  have oL := outR_len (h := h) (w := w) row b0
  have kG := (ballR_ok row k0 rr).1
  have sG := (ballR_ok row k0 rr).2
  have pG := plain_same kG k0 sG pl0
  have cG : (cellsN (ballR h w b0 row) h w [114, 102]).length ≤ 6 := by rw [cells_same sG kin_rf]; exact c6
  have kGt := kG.turn t
  have pGt := pG.turn kG t
  refine wL_mapT oI (fun o => oI (o.map (doorT h w t))) (fun o ho R hR => ?_) ?_
  · have rg := outR_rg row k0 rr o ho
    unfold itm
    simp only [EV, reduceCtorEq, Nat.reduceAdd, Nat.reduceSub, if_true, if_false, ite_true, ite_false]
    cases o with
    | none =>
      rw [view_oI, wOp_some, show isNon (oI none) = true from rfl, if_pos rfl]
      exact hR
    | some v =>
      obtain ⟨v0, v1⟩ := rg v rfl
      obtain ⟨n, rfl⟩ := Int.eq_ofNat_of_zero_le v0
      rw [view_oI, wOp_some, show isNon (oI (some (n : Int))) = false from rfl, if_neg (by simp)]
      rw [show ixD (.lst ((List.range (2 * (h + w))).map fun i => D.int (drT h w t i))) (oI (some (n : Int))) = some (.int (drT h w t n)) from dl n (by omega), wOp_some, (drT_is k0 (by omega)).1]
      exact hR
  refine ⟨sz_of (by rw [List.length_map]; omega), ok_turned kG ht ?_⟩
  try simp only [EV, view_bx, view_tri, view_oI, sz_0, sz_1, sz_2, sz_3, sz_4, sz_5, true_and, reduceCtorEq, Nat.reduceAdd, Nat.reduceSub, if_true, if_false, ite_true, ite_false]
  rw [List.map_map, show (oI ∘ fun o : Option Int => o.map (doorT h w t)) = fun o => oI (o.map (doorT h w t)) from rfl]
  rw [ne_self (ok_tup (oks_cons (ok_tup (oks_map fun _ _ => oI_ok)) (oks_cons (bx_ok kGt) oks_nil))), wOp_some, if_neg (by simp)]
  obtain ⟨r, er, rle⟩ := it_end k0 ei row rr
  obtain ⟨r', er', rle'⟩ := it_end kt ej (row.map (drT h w t)) rrT
  rw [bT] at er'
  have rl2 := few_turn k0 ht ei ej kG er er'
  have hG : ballR h w b0 row ∈ (itL h w b0 i0).1.map (·.1) := look_mem.mpr ⟨r, er⟩
  generalize ballR h w b0 row = G at kG pG cG kGt pGt er er' hG ⊢
  obtain ⟨g0, eg⟩ := it_stops kG pG
  have gle := count_le k0 kG ei eg hG
  have vr : ∀ st r, view st (rI r) = some (rI r) := fun _ _ => rfl
  refine ok_fewest k0 pl0 c6 kG pG ei ?_
  rw [few_is er, vr, wOp_some, show isNon (rI r) = false from rfl, if_neg (by simp)]
  rw [wOp_some, len_rI (by omega), wOp_some, vr, wOp_some, len_rI (by omega), wOp_some]
  try simp only [EV, view_bx, view_tri, view_oI, sz_0, sz_1, sz_2, sz_3, sz_4, sz_5, true_and, reduceCtorEq, Nat.reduceAdd, Nat.reduceSub, if_true, if_false, ite_true, ite_false]
  rw [decide_eq_false (by omega), if_neg (by simp)]
  refine ok_turned kG ht (ok_fewest kt pt ct kGt pGt ej ?_)
  rw [few_is er', vr, wOp_some, len_rI (by omega), wOp_some]
  try simp only [EV, view_bx, view_tri, view_oI, sz_0, sz_1, sz_2, sz_3, sz_4, sz_5, true_and, reduceCtorEq, Nat.reduceAdd, Nat.reduceSub, if_true, if_false, ite_true, ite_false]
  rw [vr, wOp_some, len_rI (by omega), wOp_some]
  try simp only [EV, view_bx, view_tri, view_oI, sz_0, sz_1, sz_2, sz_3, sz_4, sz_5, true_and, reduceCtorEq, Nat.reduceAdd, Nat.reduceSub, if_true, if_false, ite_true, ite_false]
  rw [rl2, show decide ((r.length : Int) ≠ r.length) = false by simp, if_neg (by simp)]
  refine ok_count kG pG cG eg (ok_count k0 pl0 c6 ei ?_)
  try simp only [EV, view_bx, view_tri, view_oI, sz_0, sz_1, sz_2, sz_3, sz_4, sz_5, true_and, reduceCtorEq, Nat.reduceAdd, Nat.reduceSub, if_true, if_false, ite_true, ite_false]
  rw [decide_eq_false (by omega), if_neg (by simp)]
  refine ok_fewest kG pG cG k0 pl0 eg ?_
  rw [view_few, wOp_some]
  cases lb : look (itL h w G g0).1 b0 with
  | none =>
    rw [show fewD (itL h w G g0).1 b0 = .non by unfold fewD; rw [lb]; rfl, show isNon .non = true from rfl, if_pos rfl]
    exact lawE
  | some x =>
    have hb : b0 ∈ (itL h w G g0).1.map (·.1) := look_mem.mpr ⟨x, lb⟩
    have gge := count_le kG k0 eg ei hb
    rw [few_is lb, show isNon (rI x) = false from rfl, if_neg (by simp)]
    refine ok_count kG pG cG eg (ok_count k0 pl0 c6 ei ?_)
    try simp only [EV, view_bx, view_tri, view_oI, sz_0, sz_1, sz_2, sz_3, sz_4, sz_5, true_and, reduceCtorEq, Nat.reduceAdd, Nat.reduceSub, if_true, if_false, ite_true, ite_false]
    rw [decide_eq_true (by omega)]
    exact lawE
end Py

set_option Elab.async false
set_option linter.all false
set_option maxRecDepth 100000
set_option autoImplicit false
set_option maxHeartbeats 8000000
namespace Py
open PySem PySem.Spec L2
theorem law_k75 (ns : List Int) (hn : ns.length ≤ 63) : ∃ st', callD (gam [fn__law_town, fn__law_box_ea4, fn__law_draw, fn_turned, fn__law_doors_c01, fn_after_balls, fn_fewest_balls, fn__law_pick_67d, fn__law_cells_a10, fn__law_with_539, fn_turned_door, fn_ball, fn_count_reached, fn_recurrence]) [] false 17 ib_law_k75 [.lst (ns.map .int)] [] = some (.bl true, st') := by
  obtain ⟨d, st', h, q⟩ := holds_k75 ns hn
  subst q
  exact ⟨st', h⟩
def topS (i : Nat) : Stmt := PySem.Challenge.pw_mirrorsure_k75_balls_turned.main.body.getD i (.Pass ⟨0, 0, 0, 0⟩)
theorem sc__law_town : FnScope ["_law_script"] ["_law_script"] (defScope (topS 45)) := ⟨rfl, rfl, rfl, by decide +kernel, rfl, by decide +kernel, by decide +kernel⟩
theorem ck__law_town : chkSs [] [] ["_law_script"] true 40 (defScope (topS 45)) ib__law_town (defBody (topS 45)) = true := by decide +kernel
theorem sc__law_draw : FnScope ["_law_script", "_law_town_here", "_law_limit", "_law_at", "_law_left", "_law_number"] ["_law_script", "_law_town_here", "_law_limit"] (defScope (topS 46)) := ⟨rfl, rfl, rfl, by decide +kernel, rfl, by decide +kernel, by decide +kernel⟩
theorem ck__law_draw : chkSs [] [] ["_law_script", "_law_town_here", "_law_limit", "_law_at", "_law_left", "_law_number"] false 40 (defScope (topS 46)) ib__law_draw (defBody (topS 46)) = true := by decide +kernel
theorem sc__law_pick_67d : FnScope ["_law_script", "_law_town_here", "_law_choices"] ["_law_script", "_law_town_here", "_law_choices"] (defScope (topS 47)) := ⟨rfl, rfl, rfl, by decide +kernel, rfl, by decide +kernel, by decide +kernel⟩
theorem ck__law_pick_67d : chkSs [("_law_draw", 3, false)] [] ["_law_script", "_law_town_here", "_law_choices"] false 40 (defScope (topS 47)) ib__law_pick_67d (defBody (topS 47)) = true := by decide +kernel
theorem sc__law_sized_d77 : FnScope ["_law_script", "_law_town_here", "_law_height", "_law_width", "_law_signs", "_law_found", "_law_row", "_law_column"] ["_law_script", "_law_town_here", "_law_height", "_law_width", "_law_signs"] (defScope (topS 49)) := ⟨rfl, rfl, rfl, by decide +kernel, rfl, by decide +kernel, by decide +kernel⟩
theorem ck__law_sized_d77 : chkSs [("_law_pick", 3, false)] [] ["_law_script", "_law_town_here", "_law_height", "_law_width", "_law_signs", "_law_found", "_law_row", "_law_column"] false 40 (defScope (topS 49)) ib__law_sized_d77 (defBody (topS 49)) = true := by decide +kernel
theorem sc__law_box_ea4 : FnScope ["_law_script", "_law_town_here", "_law_tall", "_law_wide", "_law_signs", "_law_height", "_law_width"] ["_law_script", "_law_town_here", "_law_tall", "_law_wide", "_law_signs"] (defScope (topS 48)) := ⟨rfl, rfl, rfl, by decide +kernel, rfl, by decide +kernel, by decide +kernel⟩
theorem ck__law_box_ea4 : chkSs [("_law_sized", 5, false), ("_law_draw", 3, false)] [] ["_law_script", "_law_town_here", "_law_tall", "_law_wide", "_law_signs", "_law_height", "_law_width"] false 40 (defScope (topS 48)) ib__law_box_ea4 (defBody (topS 48)) = true := by decide +kernel
theorem sc_is_box : FnScope ["value", "row", "sign"] ["value"] (defScope (topS 12)) := ⟨rfl, rfl, rfl, by decide +kernel, rfl, by decide +kernel, by decide +kernel⟩
theorem ck_is_box : chkSs [] ["SIGNS"] ["value", "row", "sign"] false 40 (defScope (topS 12)) ib_is_box (defBody (topS 12)) = true := by decide +kernel
theorem sc_check_box : FnScope ["box"] ["box"] (defScope (topS 14)) := ⟨rfl, rfl, rfl, by decide +kernel, rfl, by decide +kernel, by decide +kernel⟩
theorem ck_check_box : chkSs [("is_box", 1, false)] [] ["box"] false 40 (defScope (topS 14)) ib_check_box (defBody (topS 14)) = true := by decide +kernel
theorem sc_is_between : FnScope ["value", "low", "high"] ["value", "low", "high"] (defScope (topS 11)) := ⟨rfl, rfl, rfl, by decide +kernel, rfl, by decide +kernel, by decide +kernel⟩
theorem ck_is_between : chkSs [] [] ["value", "low", "high"] false 40 (defScope (topS 11)) ib_is_between (defBody (topS 11)) = true := by decide +kernel
theorem sc_check_turn : FnScope ["turn"] ["turn"] (defScope (topS 37)) := ⟨rfl, rfl, rfl, by decide +kernel, rfl, by decide +kernel, by decide +kernel⟩
theorem ck_check_turn : chkSs [("is_between", 3, false)] [] ["turn"] false 40 (defScope (topS 37)) ib_check_turn (defBody (topS 37)) = true := by decide +kernel
theorem sc_exchanged : FnScope ["box", "row", "sign"] ["box"] (defScope (topS 39)) := ⟨rfl, rfl, rfl, by decide +kernel, rfl, by decide +kernel, by decide +kernel⟩
theorem ck_exchanged : chkSs [] ["OTHER"] ["box", "row", "sign"] false 40 (defScope (topS 39)) ib_exchanged (defBody (topS 39)) = true := by decide +kernel
theorem sc_quarter : FnScope ["box", "found", "column", "row"] ["box"] (defScope (topS 38)) := ⟨rfl, rfl, rfl, by decide +kernel, rfl, by decide +kernel, by decide +kernel⟩
theorem ck_quarter : chkSs [] ["OTHER"] ["box", "found", "column", "row"] false 40 (defScope (topS 38)) ib_quarter (defBody (topS 38)) = true := by decide +kernel
theorem sc_turned_box : FnScope ["box", "turn", "found", "time"] ["box", "turn"] (defScope (topS 40)) := ⟨rfl, rfl, rfl, by decide +kernel, rfl, by decide +kernel, by decide +kernel⟩
theorem ck_turned_box : chkSs [("exchanged", 1, false), ("quarter", 1, false)] [] ["box", "turn", "found", "time"] false 40 (defScope (topS 40)) ib_turned_box (defBody (topS 40)) = true := by decide +kernel
theorem sc_turned : FnScope ["box", "turn"] ["box", "turn"] (defScope (topS 41)) := ⟨rfl, rfl, rfl, by decide +kernel, rfl, by decide +kernel, by decide +kernel⟩
theorem ck_turned : chkSs [("check_box", 1, false), ("check_turn", 1, false), ("turned_box", 2, false)] [] ["box", "turn"] false 40 (defScope (topS 41)) ib_turned (defBody (topS 41)) = true := by decide +kernel
theorem sc__law_doors_c01 : FnScope ["_law_box_here"] ["_law_box_here"] (defScope (topS 50)) := ⟨rfl, rfl, rfl, by decide +kernel, rfl, by decide +kernel, by decide +kernel⟩
theorem ck__law_doors_c01 : chkSs [] [] ["_law_box_here"] false 40 (defScope (topS 50)) ib__law_doors_c01 (defBody (topS 50)) = true := by decide +kernel
theorem sc_has_signs : FnScope ["box", "signs", "row", "sign"] ["box", "signs"] (defScope (topS 13)) := ⟨rfl, rfl, rfl, by decide +kernel, rfl, by decide +kernel, by decide +kernel⟩
theorem ck_has_signs : chkSs [] [] ["box", "signs", "row", "sign"] false 40 (defScope (topS 13)) ib_has_signs (defBody (topS 13)) = true := by decide +kernel
theorem sc_check_plain : FnScope ["box"] ["box"] (defScope (topS 15)) := ⟨rfl, rfl, rfl, by decide +kernel, rfl, by decide +kernel, by decide +kernel⟩
theorem ck_check_plain : chkSs [("check_box", 1, false), ("has_signs", 2, false)] [] ["box"] false 40 (defScope (topS 15)) ib_check_plain (defBody (topS 15)) = true := by decide +kernel
theorem sc_size_of : FnScope ["box"] ["box"] (defScope (topS 16)) := ⟨rfl, rfl, rfl, by decide +kernel, rfl, by decide +kernel, by decide +kernel⟩
theorem ck_size_of : chkSs [] [] ["box"] false 40 (defScope (topS 16)) ib_size_of (defBody (topS 16)) = true := by decide +kernel
theorem sc_cells_with : FnScope ["box", "signs", "height", "width", "row", "column"] ["box", "signs"] (defScope (topS 22)) := ⟨rfl, rfl, rfl, by decide +kernel, rfl, by decide +kernel, by decide +kernel⟩
theorem ck_cells_with : chkSs [("size_of", 1, false)] [] ["box", "signs", "height", "width", "row", "column"] false 40 (defScope (topS 22)) ib_cells_with (defBody (topS 22)) = true := by decide +kernel
theorem sc_check_mirrors : FnScope ["box"] ["box"] (defScope (topS 27)) := ⟨rfl, rfl, rfl, by decide +kernel, rfl, by decide +kernel, by decide +kernel⟩
theorem ck_check_mirrors : chkSs [("check_plain", 1, false), ("cells_with", 2, false)] [] ["box"] false 40 (defScope (topS 27)) ib_check_mirrors (defBody (topS 27)) = true := by decide +kernel
theorem sc_doors_of : FnScope ["height", "width"] ["height", "width"] (defScope (topS 17)) := ⟨rfl, rfl, rfl, by decide +kernel, rfl, by decide +kernel, by decide +kernel⟩
theorem ck_doors_of : chkSs [] [] ["height", "width"] false 40 (defScope (topS 17)) ib_doors_of (defBody (topS 17)) = true := by decide +kernel
theorem sc_begin : FnScope ["height", "width", "door"] ["height", "width", "door"] (defScope (topS 19)) := ⟨rfl, rfl, rfl, by decide +kernel, rfl, by decide +kernel, by decide +kernel⟩
theorem ck_begin : chkSs [] [] ["height", "width", "door"] false 40 (defScope (topS 19)) ib_begin (defBody (topS 19)) = true := by decide +kernel
theorem sc_beyond : FnScope ["height", "width", "row", "column", "direction"] ["height", "width", "row", "column", "direction"] (defScope (topS 20)) := ⟨rfl, rfl, rfl, by decide +kernel, rfl, by decide +kernel, by decide +kernel⟩
theorem ck_beyond : chkSs [] [] ["height", "width", "row", "column", "direction"] false 40 (defScope (topS 20)) ib_beyond (defBody (topS 20)) = true := by decide +kernel
theorem sc_next_triple : FnScope ["triple", "down", "along"] ["triple"] (defScope (topS 23)) := ⟨rfl, rfl, rfl, by decide +kernel, rfl, by decide +kernel, by decide +kernel⟩
theorem ck_next_triple : chkSs [] ["STEPS"] ["triple", "down", "along"] false 40 (defScope (topS 23)) ib_next_triple (defBody (topS 23)) = true := by decide +kernel
theorem sc_with_sign : FnScope ["box", "row", "column", "sign", "line"] ["box", "row", "column", "sign"] (defScope (topS 21)) := ⟨rfl, rfl, rfl, by decide +kernel, rfl, by decide +kernel, by decide +kernel⟩
theorem ck_with_sign : chkSs [] [] ["box", "row", "column", "sign", "line"] false 40 (defScope (topS 21)) ib_with_sign (defBody (topS 21)) = true := by decide +kernel
theorem sc_turn_at : FnScope ["sign", "direction"] ["sign", "direction"] (defScope (topS 24)) := ⟨rfl, rfl, rfl, by decide +kernel, rfl, by decide +kernel, by decide +kernel⟩
theorem ck_turn_at : chkSs [] [] ["sign", "direction"] false 40 (defScope (topS 24)) ib_turn_at (defBody (topS 24)) = true := by decide +kernel
theorem sc_rolled : FnScope ["box", "door", "is_backward", "height", "width", "row", "column", "direction", "sign", "out"] ["box", "door", "is_backward"] (defScope (topS 28)) := ⟨rfl, rfl, rfl, by decide +kernel, rfl, by decide +kernel, by decide +kernel⟩
theorem ck_rolled : chkSs [("size_of", 1, false), ("begin", 3, false), ("beyond", 5, false), ("next_triple", 1, false), ("with_sign", 4, false), ("turn_at", 2, false)] ["SLANTS"] ["box", "door", "is_backward", "height", "width", "row", "column", "direction", "sign", "out"] false 40 (defScope (topS 28)) ib_rolled (defBody (topS 28)) = true := by decide +kernel
theorem sc_after_balls : FnScope ["box", "doors", "most", "outs", "door", "out", "one"] ["box", "doors"] (defScope (topS 30)) := ⟨rfl, rfl, rfl, by decide +kernel, rfl, by decide +kernel, by decide +kernel⟩
theorem ck_after_balls : chkSs [("check_mirrors", 1, false), ("doors_of", 2, false), ("rolled", 3, false), ("is_between", 3, false)] [] ["box", "doors", "most", "outs", "door", "out", "one"] false 40 (defScope (topS 30)) ib_after_balls (defBody (topS 30)) = true := by decide +kernel
theorem sc_reached_from : FnScope ["box", "goal", "found", "level", "later", "one", "door", "after"] ["box", "goal"] (defScope (topS 32)) := ⟨rfl, rfl, rfl, by decide +kernel, rfl, by decide +kernel, by decide +kernel⟩
theorem ck_reached_from : chkSs [("doors_of", 2, false), ("rolled", 3, false)] [] ["box", "goal", "found", "level", "later", "one", "door", "after"] false 40 (defScope (topS 32)) ib_reached_from (defBody (topS 32)) = true := by decide +kernel
theorem sc_fewest_balls : FnScope ["box", "goal"] ["box", "goal"] (defScope (topS 33)) := ⟨rfl, rfl, rfl, by decide +kernel, rfl, by decide +kernel, by decide +kernel⟩
theorem ck_fewest_balls : chkSs [("check_mirrors", 1, false), ("check_plain", 1, false), ("size_of", 1, false), ("reached_from", 2, false)] [] ["box", "goal"] false 40 (defScope (topS 33)) ib_fewest_balls (defBody (topS 33)) = true := by decide +kernel
theorem sc__law_cells_a10 : FnScope ["_law_box_here", "_law_signs", "_law_found", "_law_row", "_law_column"] ["_law_box_here", "_law_signs"] (defScope (topS 52)) := ⟨rfl, rfl, rfl, by decide +kernel, rfl, by decide +kernel, by decide +kernel⟩
theorem ck__law_cells_a10 : chkSs [] [] ["_law_box_here", "_law_signs", "_law_found", "_law_row", "_law_column"] false 40 (defScope (topS 52)) ib__law_cells_a10 (defBody (topS 52)) = true := by decide +kernel
theorem sc__law_with_539 : FnScope ["_law_box_here", "_law_row", "_law_column", "_law_sign", "_law_line"] ["_law_box_here", "_law_row", "_law_column", "_law_sign"] (defScope (topS 51)) := ⟨rfl, rfl, rfl, by decide +kernel, rfl, by decide +kernel, by decide +kernel⟩
theorem ck__law_with_539 : chkSs [] [] ["_law_box_here", "_law_row", "_law_column", "_law_sign", "_law_line"] false 40 (defScope (topS 51)) ib__law_with_539 (defBody (topS 51)) = true := by decide +kernel
theorem sc_check_door : FnScope ["box", "door"] ["box", "door"] (defScope (topS 18)) := ⟨rfl, rfl, rfl, by decide +kernel, rfl, by decide +kernel, by decide +kernel⟩
theorem ck_check_door : chkSs [("is_between", 3, false), ("doors_of", 2, false)] [] ["box", "door"] false 40 (defScope (topS 18)) ib_check_door (defBody (topS 18)) = true := by decide +kernel
theorem sc_door_after : FnScope ["height", "width", "turn", "door", "row", "column", "direction", "time"] ["height", "width", "turn", "door"] (defScope (topS 42)) := ⟨rfl, rfl, rfl, by decide +kernel, rfl, by decide +kernel, by decide +kernel⟩
theorem ck_door_after : chkSs [("begin", 3, false), ("doors_of", 2, false)] [] ["height", "width", "turn", "door", "row", "column", "direction", "time"] false 40 (defScope (topS 42)) ib_door_after (defBody (topS 42)) = true := by decide +kernel
theorem sc_turned_door : FnScope ["box", "turn", "door"] ["box", "turn", "door"] (defScope (topS 43)) := ⟨rfl, rfl, rfl, by decide +kernel, rfl, by decide +kernel, by decide +kernel⟩
theorem ck_turned_door : chkSs [("check_box", 1, false), ("check_turn", 1, false), ("check_door", 2, false), ("door_after", 4, false)] [] ["box", "turn", "door"] false 40 (defScope (topS 43)) ib_turned_door (defBody (topS 43)) = true := by decide +kernel
theorem sc_ball : FnScope ["box", "door"] ["box", "door"] (defScope (topS 29)) := ⟨rfl, rfl, rfl, by decide +kernel, rfl, by decide +kernel, by decide +kernel⟩
theorem ck_ball : chkSs [("check_mirrors", 1, false), ("check_door", 2, false), ("rolled", 3, false)] [] ["box", "door"] false 40 (defScope (topS 29)) ib_ball (defBody (topS 29)) = true := by decide +kernel
theorem sc_count_reached : FnScope ["box"] ["box"] (defScope (topS 34)) := ⟨rfl, rfl, rfl, by decide +kernel, rfl, by decide +kernel, by decide +kernel⟩
theorem ck_count_reached : chkSs [("check_mirrors", 1, false), ("reached_from", 2, false)] [] ["box"] false 40 (defScope (topS 34)) ib_count_reached (defBody (topS 34)) = true := by decide +kernel
theorem sc_recurrence : FnScope ["box", "door", "met", "number"] ["box", "door"] (defScope (topS 31)) := ⟨rfl, rfl, rfl, by decide +kernel, rfl, by decide +kernel, by decide +kernel⟩
theorem ck_recurrence : chkSs [("check_mirrors", 1, false), ("check_door", 2, false), ("rolled", 3, false)] [] ["box", "door", "met", "number"] false 40 (defScope (topS 31)) ib_recurrence (defBody (topS 31)) = true := by decide +kernel
theorem sc_law_k75 : FnScope ["_law_script", "_law_town_here", "_law_box_here", "_law_row", "_law_column", "_law_turn", "_law_other", "_law_doors_here", "_law_door", "_law_out", "_law_after", "_law_some", "_law_outs", "_law_goal", "_law_later", "_law_back", "_law_k"] ["_law_script"] (defScope (topS 53)) := ⟨rfl, rfl, rfl, by decide +kernel, rfl, by decide +kernel, by decide +kernel⟩
theorem ck_law_k75 : chkSs [("_law_town", 1, true), ("_law_box", 5, false), ("_law_draw", 3, false), ("turned", 2, false), ("_law_doors", 1, false), ("after_balls", 2, false), ("fewest_balls", 2, false), ("_law_pick", 3, false), ("_law_cells", 2, false), ("_law_with", 4, false), ("turned_door", 3, false), ("ball", 2, false), ("count_reached", 1, false), ("recurrence", 2, false)] [] ["_law_script", "_law_town_here", "_law_box_here", "_law_row", "_law_column", "_law_turn", "_law_other", "_law_doors_here", "_law_door", "_law_out", "_law_after", "_law_some", "_law_outs", "_law_goal", "_law_later", "_law_back", "_law_k"] false 40 (defScope (topS 53)) ib_law_k75 (defBody (topS 53)) = true := by decide +kernel
theorem all_mk {l : PySem.W.OpenLaw} {w : World} {K : PySem.W.Frag} {h : Heap} {mg : Str → Option Value} {fa : Addr} (X : K.In h) (G : h.Ns mainGlobals mg) (hfa : mg "law" = some (.ref fa))
    {f0 : Addr} {od0 an0 : Option Addr} {sl0 : Array (Option Value)} {oc0 kV0 dc0 pm0 cd0 ct0 : Value}
    {f1 : Addr} {od1 an1 : Option Addr} {sl1 : Array (Option Value)} {oc1 kV1 dc1 pm1 cd1 ct1 : Value}
    {f2 : Addr} {od2 an2 : Option Addr} {sl2 : Array (Option Value)} {oc2 kV2 dc2 pm2 cd2 ct2 : Value}
    {f3 : Addr} {od3 an3 : Option Addr} {sl3 : Array (Option Value)} {oc3 kV3 dc3 pm3 cd3 ct3 : Value}
    {f4 : Addr} {od4 an4 : Option Addr} {sl4 : Array (Option Value)} {oc4 kV4 dc4 pm4 cd4 ct4 : Value}
    {f5 : Addr} {od5 an5 : Option Addr} {sl5 : Array (Option Value)} {oc5 kV5 dc5 pm5 cd5 ct5 : Value}
    {f6 : Addr} {od6 an6 : Option Addr} {sl6 : Array (Option Value)} {oc6 kV6 dc6 pm6 cd6 ct6 : Value}
    {f7 : Addr} {od7 an7 : Option Addr} {sl7 : Array (Option Value)} {oc7 kV7 dc7 pm7 cd7 ct7 : Value}
    {f8 : Addr} {od8 an8 : Option Addr} {sl8 : Array (Option Value)} {oc8 kV8 dc8 pm8 cd8 ct8 : Value}
    {f9 : Addr} {od9 an9 : Option Addr} {sl9 : Array (Option Value)} {oc9 kV9 dc9 pm9 cd9 ct9 : Value}
    {f10 : Addr} {od10 an10 : Option Addr} {sl10 : Array (Option Value)} {oc10 kV10 dc10 pm10 cd10 ct10 : Value}
    {f11 : Addr} {od11 an11 : Option Addr} {sl11 : Array (Option Value)} {oc11 kV11 dc11 pm11 cd11 ct11 : Value}
    {f12 : Addr} {od12 an12 : Option Addr} {sl12 : Array (Option Value)} {oc12 kV12 dc12 pm12 cd12 ct12 : Value}
    {f13 : Addr} {od13 an13 : Option Addr} {sl13 : Array (Option Value)} {oc13 kV13 dc13 pm13 cd13 ct13 : Value}
    {f14 : Addr} {od14 an14 : Option Addr} {sl14 : Array (Option Value)} {oc14 kV14 dc14 pm14 cd14 ct14 : Value}
    {f15 : Addr} {od15 an15 : Option Addr} {sl15 : Array (Option Value)} {oc15 kV15 dc15 pm15 cd15 ct15 : Value}
    {f16 : Addr} {od16 an16 : Option Addr} {sl16 : Array (Option Value)} {oc16 kV16 dc16 pm16 cd16 ct16 : Value}
    {f17 : Addr} {od17 an17 : Option Addr} {sl17 : Array (Option Value)} {oc17 kV17 dc17 pm17 cd17 ct17 : Value}
    {f18 : Addr} {od18 an18 : Option Addr} {sl18 : Array (Option Value)} {oc18 kV18 dc18 pm18 cd18 ct18 : Value}
    {f19 : Addr} {od19 an19 : Option Addr} {sl19 : Array (Option Value)} {oc19 kV19 dc19 pm19 cd19 ct19 : Value}
    {f20 : Addr} {od20 an20 : Option Addr} {sl20 : Array (Option Value)} {oc20 kV20 dc20 pm20 cd20 ct20 : Value}
    {f21 : Addr} {od21 an21 : Option Addr} {sl21 : Array (Option Value)} {oc21 kV21 dc21 pm21 cd21 ct21 : Value}
    {f22 : Addr} {od22 an22 : Option Addr} {sl22 : Array (Option Value)} {oc22 kV22 dc22 pm22 cd22 ct22 : Value}
    {f23 : Addr} {od23 an23 : Option Addr} {sl23 : Array (Option Value)} {oc23 kV23 dc23 pm23 cd23 ct23 : Value}
    {f24 : Addr} {od24 an24 : Option Addr} {sl24 : Array (Option Value)} {oc24 kV24 dc24 pm24 cd24 ct24 : Value}
    {f25 : Addr} {od25 an25 : Option Addr} {sl25 : Array (Option Value)} {oc25 kV25 dc25 pm25 cd25 ct25 : Value}
    {f26 : Addr} {od26 an26 : Option Addr} {sl26 : Array (Option Value)} {oc26 kV26 dc26 pm26 cd26 ct26 : Value}
    {f27 : Addr} {od27 an27 : Option Addr} {sl27 : Array (Option Value)} {oc27 kV27 dc27 pm27 cd27 ct27 : Value}
    {f28 : Addr} {od28 an28 : Option Addr} {sl28 : Array (Option Value)} {oc28 kV28 dc28 pm28 cd28 ct28 : Value}
    {f29 : Addr} {od29 an29 : Option Addr} {sl29 : Array (Option Value)} {oc29 kV29 dc29 pm29 cd29 ct29 : Value}
    {f30 : Addr} {od30 an30 : Option Addr} {sl30 : Array (Option Value)} {oc30 kV30 dc30 pm30 cd30 ct30 : Value}
    {f31 : Addr} {od31 an31 : Option Addr} {sl31 : Array (Option Value)} {oc31 kV31 dc31 pm31 cd31 ct31 : Value}
    {f32 : Addr} {od32 an32 : Option Addr} {sl32 : Array (Option Value)} {oc32 kV32 dc32 pm32 cd32 ct32 : Value}
    {f33 : Addr} {od33 an33 : Option Addr} {sl33 : Array (Option Value)} {oc33 kV33 dc33 pm33 cd33 ct33 : Value}
    {f34 : Addr} {od34 an34 : Option Addr} {sl34 : Array (Option Value)} {oc34 kV34 dc34 pm34 cd34 ct34 : Value}
    {f35 : Addr} {od35 an35 : Option Addr} {sl35 : Array (Option Value)} {oc35 kV35 dc35 pm35 cd35 ct35 : Value}
    {f36 : Addr} {od36 an36 : Option Addr} {sl36 : Array (Option Value)} {oc36 kV36 dc36 pm36 cd36 ct36 : Value}
    {f37 : Addr} {od37 an37 : Option Addr} {sl37 : Array (Option Value)} {oc37 kV37 dc37 pm37 cd37 ct37 : Value}
    (a0 : PySem.W.nsIn K mainGlobals "_law_town" = some (some (.ref f0))) (l0 : K.lookup f0 = some ⟨oc0, od0, .func (PySem.W.fnOf "_law_town" "_law_town" (defArgs (topS 45)) (defBody (topS 45)) (defScope (topS 45)) .none kV0 dc0 pm0 an0 cd0 ct0), sl0⟩) (c0 : PySem.W.codeIn K cd0 "_law_town" = true) (k0 : PySem.W.keepIn K (.ref f0) = true)
    (a1 : PySem.W.nsIn K mainGlobals "_law_draw" = some (some (.ref f1))) (l1 : K.lookup f1 = some ⟨oc1, od1, .func (PySem.W.fnOf "_law_draw" "_law_draw" (defArgs (topS 46)) (defBody (topS 46)) (defScope (topS 46)) .none kV1 dc1 pm1 an1 cd1 ct1), sl1⟩) (c1 : PySem.W.codeIn K cd1 "_law_draw" = true) (k1 : PySem.W.keepIn K (.ref f1) = true)
    (a2 : PySem.W.nsIn K mainGlobals "_law_pick" = some (some (.ref f2))) (l2 : K.lookup f2 = some ⟨oc2, od2, .func (PySem.W.fnOf "_law_pick" "_law_pick" (defArgs (topS 47)) (defBody (topS 47)) (defScope (topS 47)) .none kV2 dc2 pm2 an2 cd2 ct2), sl2⟩) (c2 : PySem.W.codeIn K cd2 "_law_pick" = true) (k2 : PySem.W.keepIn K (.ref f2) = true)
    (a3 : PySem.W.nsIn K mainGlobals "_law_sized" = some (some (.ref f3))) (l3 : K.lookup f3 = some ⟨oc3, od3, .func (PySem.W.fnOf "_law_sized" "_law_sized" (defArgs (topS 49)) (defBody (topS 49)) (defScope (topS 49)) .none kV3 dc3 pm3 an3 cd3 ct3), sl3⟩) (c3 : PySem.W.codeIn K cd3 "_law_sized" = true) (k3 : PySem.W.keepIn K (.ref f3) = true)
    (a4 : PySem.W.nsIn K mainGlobals "_law_box" = some (some (.ref f4))) (l4 : K.lookup f4 = some ⟨oc4, od4, .func (PySem.W.fnOf "_law_box" "_law_box" (defArgs (topS 48)) (defBody (topS 48)) (defScope (topS 48)) .none kV4 dc4 pm4 an4 cd4 ct4), sl4⟩) (c4 : PySem.W.codeIn K cd4 "_law_box" = true) (k4 : PySem.W.keepIn K (.ref f4) = true)
    (a5 : PySem.W.nsIn K mainGlobals "is_box" = some (some (.ref f5))) (l5 : K.lookup f5 = some ⟨oc5, od5, .func (PySem.W.fnOf "is_box" "is_box" (defArgs (topS 12)) (defBody (topS 12)) (defScope (topS 12)) .none kV5 dc5 pm5 an5 cd5 ct5), sl5⟩) (c5 : PySem.W.codeIn K cd5 "is_box" = true) (k5 : PySem.W.keepIn K (.ref f5) = true)
    (a6 : PySem.W.nsIn K mainGlobals "check_box" = some (some (.ref f6))) (l6 : K.lookup f6 = some ⟨oc6, od6, .func (PySem.W.fnOf "check_box" "check_box" (defArgs (topS 14)) (defBody (topS 14)) (defScope (topS 14)) .none kV6 dc6 pm6 an6 cd6 ct6), sl6⟩) (c6 : PySem.W.codeIn K cd6 "check_box" = true) (k6 : PySem.W.keepIn K (.ref f6) = true)
    (a7 : PySem.W.nsIn K mainGlobals "is_between" = some (some (.ref f7))) (l7 : K.lookup f7 = some ⟨oc7, od7, .func (PySem.W.fnOf "is_between" "is_between" (defArgs (topS 11)) (defBody (topS 11)) (defScope (topS 11)) .none kV7 dc7 pm7 an7 cd7 ct7), sl7⟩) (c7 : PySem.W.codeIn K cd7 "is_between" = true) (k7 : PySem.W.keepIn K (.ref f7) = true)
    (a8 : PySem.W.nsIn K mainGlobals "check_turn" = some (some (.ref f8))) (l8 : K.lookup f8 = some ⟨oc8, od8, .func (PySem.W.fnOf "check_turn" "check_turn" (defArgs (topS 37)) (defBody (topS 37)) (defScope (topS 37)) .none kV8 dc8 pm8 an8 cd8 ct8), sl8⟩) (c8 : PySem.W.codeIn K cd8 "check_turn" = true) (k8 : PySem.W.keepIn K (.ref f8) = true)
    (a9 : PySem.W.nsIn K mainGlobals "exchanged" = some (some (.ref f9))) (l9 : K.lookup f9 = some ⟨oc9, od9, .func (PySem.W.fnOf "exchanged" "exchanged" (defArgs (topS 39)) (defBody (topS 39)) (defScope (topS 39)) .none kV9 dc9 pm9 an9 cd9 ct9), sl9⟩) (c9 : PySem.W.codeIn K cd9 "exchanged" = true) (k9 : PySem.W.keepIn K (.ref f9) = true)
    (a10 : PySem.W.nsIn K mainGlobals "quarter" = some (some (.ref f10))) (l10 : K.lookup f10 = some ⟨oc10, od10, .func (PySem.W.fnOf "quarter" "quarter" (defArgs (topS 38)) (defBody (topS 38)) (defScope (topS 38)) .none kV10 dc10 pm10 an10 cd10 ct10), sl10⟩) (c10 : PySem.W.codeIn K cd10 "quarter" = true) (k10 : PySem.W.keepIn K (.ref f10) = true)
    (a11 : PySem.W.nsIn K mainGlobals "turned_box" = some (some (.ref f11))) (l11 : K.lookup f11 = some ⟨oc11, od11, .func (PySem.W.fnOf "turned_box" "turned_box" (defArgs (topS 40)) (defBody (topS 40)) (defScope (topS 40)) .none kV11 dc11 pm11 an11 cd11 ct11), sl11⟩) (c11 : PySem.W.codeIn K cd11 "turned_box" = true) (k11 : PySem.W.keepIn K (.ref f11) = true)
    (a12 : PySem.W.nsIn K mainGlobals "turned" = some (some (.ref f12))) (l12 : K.lookup f12 = some ⟨oc12, od12, .func (PySem.W.fnOf "turned" "turned" (defArgs (topS 41)) (defBody (topS 41)) (defScope (topS 41)) .none kV12 dc12 pm12 an12 cd12 ct12), sl12⟩) (c12 : PySem.W.codeIn K cd12 "turned" = true) (k12 : PySem.W.keepIn K (.ref f12) = true)
    (a13 : PySem.W.nsIn K mainGlobals "_law_doors" = some (some (.ref f13))) (l13 : K.lookup f13 = some ⟨oc13, od13, .func (PySem.W.fnOf "_law_doors" "_law_doors" (defArgs (topS 50)) (defBody (topS 50)) (defScope (topS 50)) .none kV13 dc13 pm13 an13 cd13 ct13), sl13⟩) (c13 : PySem.W.codeIn K cd13 "_law_doors" = true) (k13 : PySem.W.keepIn K (.ref f13) = true)
    (a14 : PySem.W.nsIn K mainGlobals "has_signs" = some (some (.ref f14))) (l14 : K.lookup f14 = some ⟨oc14, od14, .func (PySem.W.fnOf "has_signs" "has_signs" (defArgs (topS 13)) (defBody (topS 13)) (defScope (topS 13)) .none kV14 dc14 pm14 an14 cd14 ct14), sl14⟩) (c14 : PySem.W.codeIn K cd14 "has_signs" = true) (k14 : PySem.W.keepIn K (.ref f14) = true)
    (a15 : PySem.W.nsIn K mainGlobals "check_plain" = some (some (.ref f15))) (l15 : K.lookup f15 = some ⟨oc15, od15, .func (PySem.W.fnOf "check_plain" "check_plain" (defArgs (topS 15)) (defBody (topS 15)) (defScope (topS 15)) .none kV15 dc15 pm15 an15 cd15 ct15), sl15⟩) (c15 : PySem.W.codeIn K cd15 "check_plain" = true) (k15 : PySem.W.keepIn K (.ref f15) = true)
    (a16 : PySem.W.nsIn K mainGlobals "size_of" = some (some (.ref f16))) (l16 : K.lookup f16 = some ⟨oc16, od16, .func (PySem.W.fnOf "size_of" "size_of" (defArgs (topS 16)) (defBody (topS 16)) (defScope (topS 16)) .none kV16 dc16 pm16 an16 cd16 ct16), sl16⟩) (c16 : PySem.W.codeIn K cd16 "size_of" = true) (k16 : PySem.W.keepIn K (.ref f16) = true)
    (a17 : PySem.W.nsIn K mainGlobals "cells_with" = some (some (.ref f17))) (l17 : K.lookup f17 = some ⟨oc17, od17, .func (PySem.W.fnOf "cells_with" "cells_with" (defArgs (topS 22)) (defBody (topS 22)) (defScope (topS 22)) .none kV17 dc17 pm17 an17 cd17 ct17), sl17⟩) (c17 : PySem.W.codeIn K cd17 "cells_with" = true) (k17 : PySem.W.keepIn K (.ref f17) = true)
    (a18 : PySem.W.nsIn K mainGlobals "check_mirrors" = some (some (.ref f18))) (l18 : K.lookup f18 = some ⟨oc18, od18, .func (PySem.W.fnOf "check_mirrors" "check_mirrors" (defArgs (topS 27)) (defBody (topS 27)) (defScope (topS 27)) .none kV18 dc18 pm18 an18 cd18 ct18), sl18⟩) (c18 : PySem.W.codeIn K cd18 "check_mirrors" = true) (k18 : PySem.W.keepIn K (.ref f18) = true)
    (a19 : PySem.W.nsIn K mainGlobals "doors_of" = some (some (.ref f19))) (l19 : K.lookup f19 = some ⟨oc19, od19, .func (PySem.W.fnOf "doors_of" "doors_of" (defArgs (topS 17)) (defBody (topS 17)) (defScope (topS 17)) .none kV19 dc19 pm19 an19 cd19 ct19), sl19⟩) (c19 : PySem.W.codeIn K cd19 "doors_of" = true) (k19 : PySem.W.keepIn K (.ref f19) = true)
    (a20 : PySem.W.nsIn K mainGlobals "begin" = some (some (.ref f20))) (l20 : K.lookup f20 = some ⟨oc20, od20, .func (PySem.W.fnOf "begin" "begin" (defArgs (topS 19)) (defBody (topS 19)) (defScope (topS 19)) .none kV20 dc20 pm20 an20 cd20 ct20), sl20⟩) (c20 : PySem.W.codeIn K cd20 "begin" = true) (k20 : PySem.W.keepIn K (.ref f20) = true)
    (a21 : PySem.W.nsIn K mainGlobals "beyond" = some (some (.ref f21))) (l21 : K.lookup f21 = some ⟨oc21, od21, .func (PySem.W.fnOf "beyond" "beyond" (defArgs (topS 20)) (defBody (topS 20)) (defScope (topS 20)) .none kV21 dc21 pm21 an21 cd21 ct21), sl21⟩) (c21 : PySem.W.codeIn K cd21 "beyond" = true) (k21 : PySem.W.keepIn K (.ref f21) = true)
    (a22 : PySem.W.nsIn K mainGlobals "next_triple" = some (some (.ref f22))) (l22 : K.lookup f22 = some ⟨oc22, od22, .func (PySem.W.fnOf "next_triple" "next_triple" (defArgs (topS 23)) (defBody (topS 23)) (defScope (topS 23)) .none kV22 dc22 pm22 an22 cd22 ct22), sl22⟩) (c22 : PySem.W.codeIn K cd22 "next_triple" = true) (k22 : PySem.W.keepIn K (.ref f22) = true)
    (a23 : PySem.W.nsIn K mainGlobals "with_sign" = some (some (.ref f23))) (l23 : K.lookup f23 = some ⟨oc23, od23, .func (PySem.W.fnOf "with_sign" "with_sign" (defArgs (topS 21)) (defBody (topS 21)) (defScope (topS 21)) .none kV23 dc23 pm23 an23 cd23 ct23), sl23⟩) (c23 : PySem.W.codeIn K cd23 "with_sign" = true) (k23 : PySem.W.keepIn K (.ref f23) = true)
    (a24 : PySem.W.nsIn K mainGlobals "turn_at" = some (some (.ref f24))) (l24 : K.lookup f24 = some ⟨oc24, od24, .func (PySem.W.fnOf "turn_at" "turn_at" (defArgs (topS 24)) (defBody (topS 24)) (defScope (topS 24)) .none kV24 dc24 pm24 an24 cd24 ct24), sl24⟩) (c24 : PySem.W.codeIn K cd24 "turn_at" = true) (k24 : PySem.W.keepIn K (.ref f24) = true)
    (a25 : PySem.W.nsIn K mainGlobals "rolled" = some (some (.ref f25))) (l25 : K.lookup f25 = some ⟨oc25, od25, .func (PySem.W.fnOf "rolled" "rolled" (defArgs (topS 28)) (defBody (topS 28)) (defScope (topS 28)) .none kV25 dc25 pm25 an25 cd25 ct25), sl25⟩) (c25 : PySem.W.codeIn K cd25 "rolled" = true) (k25 : PySem.W.keepIn K (.ref f25) = true)
    (a26 : PySem.W.nsIn K mainGlobals "after_balls" = some (some (.ref f26))) (l26 : K.lookup f26 = some ⟨oc26, od26, .func (PySem.W.fnOf "after_balls" "after_balls" (defArgs (topS 30)) (defBody (topS 30)) (defScope (topS 30)) .none kV26 dc26 pm26 an26 cd26 ct26), sl26⟩) (c26 : PySem.W.codeIn K cd26 "after_balls" = true) (k26 : PySem.W.keepIn K (.ref f26) = true)
    (a27 : PySem.W.nsIn K mainGlobals "reached_from" = some (some (.ref f27))) (l27 : K.lookup f27 = some ⟨oc27, od27, .func (PySem.W.fnOf "reached_from" "reached_from" (defArgs (topS 32)) (defBody (topS 32)) (defScope (topS 32)) .none kV27 dc27 pm27 an27 cd27 ct27), sl27⟩) (c27 : PySem.W.codeIn K cd27 "reached_from" = true) (k27 : PySem.W.keepIn K (.ref f27) = true)
    (a28 : PySem.W.nsIn K mainGlobals "fewest_balls" = some (some (.ref f28))) (l28 : K.lookup f28 = some ⟨oc28, od28, .func (PySem.W.fnOf "fewest_balls" "fewest_balls" (defArgs (topS 33)) (defBody (topS 33)) (defScope (topS 33)) .none kV28 dc28 pm28 an28 cd28 ct28), sl28⟩) (c28 : PySem.W.codeIn K cd28 "fewest_balls" = true) (k28 : PySem.W.keepIn K (.ref f28) = true)
    (a29 : PySem.W.nsIn K mainGlobals "_law_cells" = some (some (.ref f29))) (l29 : K.lookup f29 = some ⟨oc29, od29, .func (PySem.W.fnOf "_law_cells" "_law_cells" (defArgs (topS 52)) (defBody (topS 52)) (defScope (topS 52)) .none kV29 dc29 pm29 an29 cd29 ct29), sl29⟩) (c29 : PySem.W.codeIn K cd29 "_law_cells" = true) (k29 : PySem.W.keepIn K (.ref f29) = true)
    (a30 : PySem.W.nsIn K mainGlobals "_law_with" = some (some (.ref f30))) (l30 : K.lookup f30 = some ⟨oc30, od30, .func (PySem.W.fnOf "_law_with" "_law_with" (defArgs (topS 51)) (defBody (topS 51)) (defScope (topS 51)) .none kV30 dc30 pm30 an30 cd30 ct30), sl30⟩) (c30 : PySem.W.codeIn K cd30 "_law_with" = true) (k30 : PySem.W.keepIn K (.ref f30) = true)
    (a31 : PySem.W.nsIn K mainGlobals "check_door" = some (some (.ref f31))) (l31 : K.lookup f31 = some ⟨oc31, od31, .func (PySem.W.fnOf "check_door" "check_door" (defArgs (topS 18)) (defBody (topS 18)) (defScope (topS 18)) .none kV31 dc31 pm31 an31 cd31 ct31), sl31⟩) (c31 : PySem.W.codeIn K cd31 "check_door" = true) (k31 : PySem.W.keepIn K (.ref f31) = true)
    (a32 : PySem.W.nsIn K mainGlobals "door_after" = some (some (.ref f32))) (l32 : K.lookup f32 = some ⟨oc32, od32, .func (PySem.W.fnOf "door_after" "door_after" (defArgs (topS 42)) (defBody (topS 42)) (defScope (topS 42)) .none kV32 dc32 pm32 an32 cd32 ct32), sl32⟩) (c32 : PySem.W.codeIn K cd32 "door_after" = true) (k32 : PySem.W.keepIn K (.ref f32) = true)
    (a33 : PySem.W.nsIn K mainGlobals "turned_door" = some (some (.ref f33))) (l33 : K.lookup f33 = some ⟨oc33, od33, .func (PySem.W.fnOf "turned_door" "turned_door" (defArgs (topS 43)) (defBody (topS 43)) (defScope (topS 43)) .none kV33 dc33 pm33 an33 cd33 ct33), sl33⟩) (c33 : PySem.W.codeIn K cd33 "turned_door" = true) (k33 : PySem.W.keepIn K (.ref f33) = true)
    (a34 : PySem.W.nsIn K mainGlobals "ball" = some (some (.ref f34))) (l34 : K.lookup f34 = some ⟨oc34, od34, .func (PySem.W.fnOf "ball" "ball" (defArgs (topS 29)) (defBody (topS 29)) (defScope (topS 29)) .none kV34 dc34 pm34 an34 cd34 ct34), sl34⟩) (c34 : PySem.W.codeIn K cd34 "ball" = true) (k34 : PySem.W.keepIn K (.ref f34) = true)
    (a35 : PySem.W.nsIn K mainGlobals "count_reached" = some (some (.ref f35))) (l35 : K.lookup f35 = some ⟨oc35, od35, .func (PySem.W.fnOf "count_reached" "count_reached" (defArgs (topS 34)) (defBody (topS 34)) (defScope (topS 34)) .none kV35 dc35 pm35 an35 cd35 ct35), sl35⟩) (c35 : PySem.W.codeIn K cd35 "count_reached" = true) (k35 : PySem.W.keepIn K (.ref f35) = true)
    (a36 : PySem.W.nsIn K mainGlobals "recurrence" = some (some (.ref f36))) (l36 : K.lookup f36 = some ⟨oc36, od36, .func (PySem.W.fnOf "recurrence" "recurrence" (defArgs (topS 31)) (defBody (topS 31)) (defScope (topS 31)) .none kV36 dc36 pm36 an36 cd36 ct36), sl36⟩) (c36 : PySem.W.codeIn K cd36 "recurrence" = true) (k36 : PySem.W.keepIn K (.ref f36) = true)
    (a37 : PySem.W.nsIn K mainGlobals "law" = some (some (.ref f37))) (l37 : K.lookup f37 = some ⟨oc37, od37, .func (PySem.W.fnOf "law" "law" (defArgs (topS 53)) (defBody (topS 53)) (defScope (topS 53)) .none kV37 dc37 pm37 an37 cd37 ct37), sl37⟩) (c37 : PySem.W.codeIn K cd37 "law" = true) (k37 : PySem.W.keepIn K (.ref f37) = true)
    {i2_0 i2_1 i3_0 i3_1 i4_0 i4_1 i5_0 i5_1 : Int}
    {u0 : Addr} {un0 : Nat} {h0_0 h0_1 h0_2 h0_3 h0_4 h0_5 : Int} {x0_0 y0_0 x0_1 y0_1 x0_2 y0_2 x0_3 y0_3 x0_4 y0_4 x0_5 y0_5 : Str} {t0_0 s0_0 t0_1 s0_1 t0_2 s0_2 t0_3 s0_3 t0_4 s0_4 t0_5 s0_5 : Tok} (uu0 : K.lookup u0 = some ⟨.type "dict", none, .dict #[⟨h0_0, .str x0_0 t0_0, .str y0_0 s0_0⟩, ⟨h0_1, .str x0_1 t0_1, .str y0_1 s0_1⟩, ⟨h0_2, .str x0_2 t0_2, .str y0_2 s0_2⟩, ⟨h0_3, .str x0_3 t0_3, .str y0_3 s0_3⟩, ⟨h0_4, .str x0_4 t0_4, .str y0_4 s0_4⟩, ⟨h0_5, .str x0_5 t0_5, .str y0_5 s0_5⟩] un0, #[]⟩) (um0 : (u0 == sysModules) = false)
    {u2 : Addr} {uo2 : Option Addr} {un2 : Nat} {us2 : Array (Option Value)} {t2_0 t2_1 : Tok} (uu2 : K.lookup u2 = some ⟨.type "tuple", uo2, .seq #[.int i2_0 t2_0, .int i2_1 t2_1] un2, us2⟩)
    {u3 : Addr} {uo3 : Option Addr} {un3 : Nat} {us3 : Array (Option Value)} {t3_0 t3_1 : Tok} (uu3 : K.lookup u3 = some ⟨.type "tuple", uo3, .seq #[.int i3_0 t3_0, .int i3_1 t3_1] un3, us3⟩)
    {u4 : Addr} {uo4 : Option Addr} {un4 : Nat} {us4 : Array (Option Value)} {t4_0 t4_1 : Tok} (uu4 : K.lookup u4 = some ⟨.type "tuple", uo4, .seq #[.int i4_0 t4_0, .int i4_1 t4_1] un4, us4⟩)
    {u5 : Addr} {uo5 : Option Addr} {un5 : Nat} {us5 : Array (Option Value)} {t5_0 t5_1 : Tok} (uu5 : K.lookup u5 = some ⟨.type "tuple", uo5, .seq #[.int i5_0 t5_0, .int i5_1 t5_1] un5, us5⟩)
    {u1 : Addr} {uo1 : Option Addr} {un1 : Nat} {us1 : Array (Option Value)} (uu1 : K.lookup u1 = some ⟨.type "tuple", uo1, .seq #[.ref u2, .ref u3, .ref u4, .ref u5] un1, us1⟩)
    {u6 : Addr} {un6 : Nat} {h6_0 h6_1 : Int} {x6_0 y6_0 x6_1 y6_1 : Str} {t6_0 s6_0 t6_1 s6_1 : Tok} (uu6 : K.lookup u6 = some ⟨.type "dict", none, .dict #[⟨h6_0, .str x6_0 t6_0, .str y6_0 s6_0⟩, ⟨h6_1, .str x6_1 t6_1, .str y6_1 s6_1⟩] un6, #[]⟩) (um6 : (u6 == sysModules) = false)
    (ei2_0 : i2_0 = (-1))    (ei2_1 : i2_1 = 0)    (ei3_0 : i3_0 = 0)    (ei3_1 : i3_1 = 1)    (ei4_0 : i4_0 = 1)    (ei4_1 : i4_1 = 0)    (ei5_0 : i5_0 = 0)    (ei5_1 : i5_1 = (-1))    (ex0_0 : x0_0 = ".")    (ey0_0 : y0_0 = ".")    (ex0_1 : x0_1 = "#")    (ey0_1 : y0_1 = "#")    (ex0_2 : x0_2 = "r")    (ey0_2 : y0_2 = "f")    (ex0_3 : x0_3 = "f")    (ey0_3 : y0_3 = "r")    (ex0_4 : x0_4 = "R")    (ey0_4 : y0_4 = "F")    (ex0_5 : x0_5 = "F")    (ey0_5 : y0_5 = "R")    (ex6_0 : x6_0 = "r")    (ey6_0 : y6_0 = "f")    (ex6_1 : x6_1 = "f")    (ey6_1 : y6_1 = "r")    (eh0_0 : h0_0 = (NestedKey.text ".").hash w)    (eh0_1 : h0_1 = (NestedKey.text "#").hash w)    (eh0_2 : h0_2 = (NestedKey.text "r").hash w)    (eh0_3 : h0_3 = (NestedKey.text "f").hash w)    (eh0_4 : h0_4 = (NestedKey.text "R").hash w)    (eh0_5 : h0_5 = (NestedKey.text "F").hash w)    (eh6_0 : h6_0 = (NestedKey.text "r").hash w)    (eh6_1 : h6_1 = (NestedKey.text "f").hash w)    {tg0 : Tok} (g0 : PySem.W.nsIn K mainGlobals "SIGNS" = some (some (.str ".rf#RF" tg0)))
    (g1 : PySem.W.nsIn K mainGlobals "OTHER" = some (some (.ref u0)))
    (g2 : PySem.W.nsIn K mainGlobals "STEPS" = some (some (.ref u1)))
    (g3 : PySem.W.nsIn K mainGlobals "SLANTS" = some (some (.ref u6)))
    (z0 : PySem.W.nsIn K mainGlobals "len" = some none)    (z1 : PySem.W.nsIn K mainGlobals "tuple" = some none)    (z2 : PySem.W.nsIn K mainGlobals "list" = some none)    (z3 : PySem.W.nsIn K mainGlobals "all" = some none)    (z4 : PySem.W.nsIn K mainGlobals "any" = some none)    (z5 : PySem.W.nsIn K mainGlobals "sorted" = some none)    (z6 : PySem.W.nsIn K mainGlobals "min" = some none)    (z7 : PySem.W.nsIn K mainGlobals "max" = some none)    (z8 : PySem.W.nsIn K mainGlobals "abs" = some none)    (z9 : PySem.W.nsIn K mainGlobals "int" = some none)    (z10 : PySem.W.nsIn K mainGlobals "str" = some none)    (z11 : PySem.W.nsIn K mainGlobals "sum" = some none)    (z12 : PySem.W.nsIn K mainGlobals "dict" = some none)    (z13 : PySem.W.nsIn K mainGlobals "range" = some none)    (z14 : PySem.W.nsIn K mainGlobals "enumerate" = some none)    (z15 : PySem.W.nsIn K mainGlobals "zip" = some none)    (z16 : PySem.W.nsIn K mainGlobals "isinstance" = some none)    (z17 : PySem.W.nsIn K mainGlobals "bool" = some none)    (z18 : PySem.W.nsIn K mainGlobals "set" = some none)    (z19 : PySem.W.nsIn K mainGlobals "reversed" = some none) :
    ∃ fd : FuncData, (∀ (s : Shared) (v : Value), BindsTo s fd ⟨[v], []⟩ [("_law_script", v)]) ∧ ∀ base : Heap, K.In base → base.Ns mainGlobals mg → FnOk l.prog w K mg base CX0 6 fa fd ["_law_script"] (spLaw K) := by
  have e := hfa.symm.trans (PySem.W.mg_of X G a37)
  cases e
  have bs : ∀ x ∈ bnames, mg x = none := bn_all (PySem.W.mg_none_of X G z0) (PySem.W.mg_none_of X G z1) (PySem.W.mg_none_of X G z2) (PySem.W.mg_none_of X G z3) (PySem.W.mg_none_of X G z4) (PySem.W.mg_none_of X G z5) (PySem.W.mg_none_of X G z6) (PySem.W.mg_none_of X G z7) (PySem.W.mg_none_of X G z8) (PySem.W.mg_none_of X G z9) (PySem.W.mg_none_of X G z10) (PySem.W.mg_none_of X G z11) (PySem.W.mg_none_of X G z12) (PySem.W.mg_none_of X G z13) (PySem.W.mg_none_of X G z14) (PySem.W.mg_none_of X G z15) (PySem.W.mg_none_of X G z16) (PySem.W.mg_none_of X G z17) (PySem.W.mg_none_of X G z18) (PySem.W.mg_none_of X G z19)
  have G0 := PySem.W.mg_of X G g0
  have G1 := PySem.W.mg_of X G g1
  have G2 := PySem.W.mg_of X G g2
  have G3 := PySem.W.mg_of X G g3
  subst ei2_0
  subst ei2_1
  subst ei3_0
  subst ei3_1
  subst ei4_0
  subst ei4_1
  subst ei5_0
  subst ei5_1
  subst ex0_0
  subst ey0_0
  subst ex0_1
  subst ey0_1
  subst ex0_2
  subst ey0_2
  subst ex0_3
  subst ey0_3
  subst ex0_4
  subst ey0_4
  subst ex0_5
  subst ey0_5
  subst ex6_0
  subst ey6_0
  subst ex6_1
  subst ey6_1
  subst eh0_0
  subst eh0_1
  subst eh0_2
  subst eh0_3
  subst eh0_4
  subst eh0_5
  subst eh6_0
  subst eh6_1
  have R0 : ∀ (g : Gh) (H : Hp), RelD K w g H (.dct [((.str [46]), (.str [46])), ((.str [35]), (.str [35])), ((.str [114]), (.str [102])), ((.str [102]), (.str [114])), ((.str [82]), (.str [70])), ((.str [70]), (.str [82]))]) (.ref u0) := rel_kdct uu0 um0 (by decide +kernel) fun g H => (relKs_cons (relP_str rfl rfl) (relKs_cons (relP_str rfl rfl) (relKs_cons (relP_str rfl rfl) (relKs_cons (relP_str rfl rfl) (relKs_cons (relP_str rfl rfl) (relKs_cons (relP_str rfl rfl) relKs_nil))))))
  have R2 : ∀ (g : Gh) (H : Hp), RelD K w g H (.tup [(.int (-1)), (.int 0)]) (.ref u2) := rel_ktup uu2 (by rw [sizeLine_eq]; simp) (vals_int (vals_int .nil)) fun g H => (RelDs.cons relD_int (RelDs.cons relD_int RelDs.nil))
  have R3 : ∀ (g : Gh) (H : Hp), RelD K w g H (.tup [(.int 0), (.int 1)]) (.ref u3) := rel_ktup uu3 (by rw [sizeLine_eq]; simp) (vals_int (vals_int .nil)) fun g H => (RelDs.cons relD_int (RelDs.cons relD_int RelDs.nil))
  have R4 : ∀ (g : Gh) (H : Hp), RelD K w g H (.tup [(.int 1), (.int 0)]) (.ref u4) := rel_ktup uu4 (by rw [sizeLine_eq]; simp) (vals_int (vals_int .nil)) fun g H => (RelDs.cons relD_int (RelDs.cons relD_int RelDs.nil))
  have R5 : ∀ (g : Gh) (H : Hp), RelD K w g H (.tup [(.int 0), (.int (-1))]) (.ref u5) := rel_ktup uu5 (by rw [sizeLine_eq]; simp) (vals_int (vals_int .nil)) fun g H => (RelDs.cons relD_int (RelDs.cons relD_int RelDs.nil))
  have R1 : ∀ (g : Gh) (H : Hp), RelD K w g H (.tup [(.tup [(.int (-1)), (.int 0)]), (.tup [(.int 0), (.int 1)]), (.tup [(.int 1), (.int 0)]), (.tup [(.int 0), (.int (-1))])]) (.ref u1) := rel_ktup uu1 (by rw [sizeLine_eq]; simp) (vals_ref (vals_ref (vals_ref (vals_ref .nil)))) fun g H => (RelDs.cons (R2 g H) (RelDs.cons (R3 g H) (RelDs.cons (R4 g H) (RelDs.cons (R5 g H) RelDs.nil))))
  have R6 : ∀ (g : Gh) (H : Hp), RelD K w g H (.dct [((.str [114]), (.str [102])), ((.str [102]), (.str [114]))]) (.ref u6) := rel_kdct uu6 um6 (by decide +kernel) fun g H => (relKs_cons (relP_str rfl rfl) (relKs_cons (relP_str rfl rfl) relKs_nil))
  refine ⟨PySem.W.fnOf "law" "law" (defArgs (topS 53)) (defBody (topS 53)) (defScope (topS 53)) .none kV37 dc37 pm37 an37 cd37 ct37, fun s v => .of_eq rfl, fun base _ _ => ?_⟩
  have S0 : FnS l.prog w K mg base 1 fn__law_town := fn_ok (k := 0) (fun_mk (st := topS 45) l0 c0 k0) sc__law_town ((fun_mk (st := topS 45) l0 c0 k0).binds fun _ _ _ _ _ _ us hl => match us, hl with | [_], _ => rfl) (PySem.W.mg_of X G a0) (wd_nil bs) (fns_nil) ck__law_town
  have S1 : FnS l.prog w K mg base 1 fn__law_draw := fn_ok (k := 0) (fun_mk (st := topS 46) l1 c1 k1) sc__law_draw ((fun_mk (st := topS 46) l1 c1 k1).binds fun _ _ _ _ _ _ us hl => match us, hl with | [_, _, _], _ => rfl) (PySem.W.mg_of X G a1) (wd_nil bs) (fns_nil) ck__law_draw
  have S2 : FnS l.prog w K mg base 2 fn__law_pick_67d := fn_ok (k := 1) (fun_mk (st := topS 47) l2 c2 k2) sc__law_pick_67d ((fun_mk (st := topS 47) l2 c2 k2).binds fun _ _ _ _ _ _ us hl => match us, hl with | [_, _, _], _ => rfl) (PySem.W.mg_of X G a2) (wd_nil bs) (fns_cons S1 (by decide) (fns_nil)) ck__law_pick_67d
  have S3 : FnS l.prog w K mg base 3 fn__law_sized_d77 := fn_ok (k := 2) (fun_mk (st := topS 49) l3 c3 k3) sc__law_sized_d77 ((fun_mk (st := topS 49) l3 c3 k3).binds fun _ _ _ _ _ _ us hl => match us, hl with | [_, _, _, _, _], _ => rfl) (PySem.W.mg_of X G a3) (wd_nil bs) (fns_cons S2 (by decide) (fns_nil)) ck__law_sized_d77
  have S4 : FnS l.prog w K mg base 4 fn__law_box_ea4 := fn_ok (k := 3) (fun_mk (st := topS 48) l4 c4 k4) sc__law_box_ea4 ((fun_mk (st := topS 48) l4 c4 k4).binds fun _ _ _ _ _ _ us hl => match us, hl with | [_, _, _, _, _], _ => rfl) (PySem.W.mg_of X G a4) (wd_nil bs) (fns_cons S3 (by decide) (fns_cons S1 (by decide) (fns_nil))) ck__law_box_ea4
  have S5 : FnS l.prog w K mg base 1 fn_is_box := fn_ok (k := 0) (fun_mk (st := topS 12) l5 c5 k5) sc_is_box ((fun_mk (st := topS 12) l5 c5 k5).binds fun _ _ _ _ _ _ us hl => match us, hl with | [_], _ => rfl) (PySem.W.mg_of X G a5) (wd_str (wd_nil bs) G0 (by decide +kernel)) (fns_nil) ck_is_box
  have S6 : FnS l.prog w K mg base 2 fn_check_box := fn_ok (k := 1) (fun_mk (st := topS 14) l6 c6 k6) sc_check_box ((fun_mk (st := topS 14) l6 c6 k6).binds fun _ _ _ _ _ _ us hl => match us, hl with | [_], _ => rfl) (PySem.W.mg_of X G a6) (wd_nil bs) (fns_cons S5 (by decide) (fns_nil)) ck_check_box
  have S7 : FnS l.prog w K mg base 1 fn_is_between := fn_ok (k := 0) (fun_mk (st := topS 11) l7 c7 k7) sc_is_between ((fun_mk (st := topS 11) l7 c7 k7).binds fun _ _ _ _ _ _ us hl => match us, hl with | [_, _, _], _ => rfl) (PySem.W.mg_of X G a7) (wd_nil bs) (fns_nil) ck_is_between
  have S8 : FnS l.prog w K mg base 2 fn_check_turn := fn_ok (k := 1) (fun_mk (st := topS 37) l8 c8 k8) sc_check_turn ((fun_mk (st := topS 37) l8 c8 k8).binds fun _ _ _ _ _ _ us hl => match us, hl with | [_], _ => rfl) (PySem.W.mg_of X G a8) (wd_nil bs) (fns_cons S7 (by decide) (fns_nil)) ck_check_turn
  have S9 : FnS l.prog w K mg base 1 fn_exchanged := fn_ok (k := 0) (fun_mk (st := topS 39) l9 c9 k9) sc_exchanged ((fun_mk (st := topS 39) l9 c9 k9).binds fun _ _ _ _ _ _ us hl => match us, hl with | [_], _ => rfl) (PySem.W.mg_of X G a9) (wd_ref (wd_nil bs) G1 R0) (fns_nil) ck_exchanged
  have S10 : FnS l.prog w K mg base 1 fn_quarter := fn_ok (k := 0) (fun_mk (st := topS 38) l10 c10 k10) sc_quarter ((fun_mk (st := topS 38) l10 c10 k10).binds fun _ _ _ _ _ _ us hl => match us, hl with | [_], _ => rfl) (PySem.W.mg_of X G a10) (wd_ref (wd_nil bs) G1 R0) (fns_nil) ck_quarter
  have S11 : FnS l.prog w K mg base 2 fn_turned_box := fn_ok (k := 1) (fun_mk (st := topS 40) l11 c11 k11) sc_turned_box ((fun_mk (st := topS 40) l11 c11 k11).binds fun _ _ _ _ _ _ us hl => match us, hl with | [_, _], _ => rfl) (PySem.W.mg_of X G a11) (wd_nil bs) (fns_cons S9 (by decide) (fns_cons S10 (by decide) (fns_nil))) ck_turned_box
  have S12 : FnS l.prog w K mg base 3 fn_turned := fn_ok (k := 2) (fun_mk (st := topS 41) l12 c12 k12) sc_turned ((fun_mk (st := topS 41) l12 c12 k12).binds fun _ _ _ _ _ _ us hl => match us, hl with | [_, _], _ => rfl) (PySem.W.mg_of X G a12) (wd_nil bs) (fns_cons S6 (by decide) (fns_cons S8 (by decide) (fns_cons S11 (by decide) (fns_nil)))) ck_turned
  have S13 : FnS l.prog w K mg base 1 fn__law_doors_c01 := fn_ok (k := 0) (fun_mk (st := topS 50) l13 c13 k13) sc__law_doors_c01 ((fun_mk (st := topS 50) l13 c13 k13).binds fun _ _ _ _ _ _ us hl => match us, hl with | [_], _ => rfl) (PySem.W.mg_of X G a13) (wd_nil bs) (fns_nil) ck__law_doors_c01
  have S14 : FnS l.prog w K mg base 1 fn_has_signs := fn_ok (k := 0) (fun_mk (st := topS 13) l14 c14 k14) sc_has_signs ((fun_mk (st := topS 13) l14 c14 k14).binds fun _ _ _ _ _ _ us hl => match us, hl with | [_, _], _ => rfl) (PySem.W.mg_of X G a14) (wd_nil bs) (fns_nil) ck_has_signs
  have S15 : FnS l.prog w K mg base 3 fn_check_plain := fn_ok (k := 2) (fun_mk (st := topS 15) l15 c15 k15) sc_check_plain ((fun_mk (st := topS 15) l15 c15 k15).binds fun _ _ _ _ _ _ us hl => match us, hl with | [_], _ => rfl) (PySem.W.mg_of X G a15) (wd_nil bs) (fns_cons S6 (by decide) (fns_cons S14 (by decide) (fns_nil))) ck_check_plain
  have S16 : FnS l.prog w K mg base 1 fn_size_of := fn_ok (k := 0) (fun_mk (st := topS 16) l16 c16 k16) sc_size_of ((fun_mk (st := topS 16) l16 c16 k16).binds fun _ _ _ _ _ _ us hl => match us, hl with | [_], _ => rfl) (PySem.W.mg_of X G a16) (wd_nil bs) (fns_nil) ck_size_of
  have S17 : FnS l.prog w K mg base 2 fn_cells_with := fn_ok (k := 1) (fun_mk (st := topS 22) l17 c17 k17) sc_cells_with ((fun_mk (st := topS 22) l17 c17 k17).binds fun _ _ _ _ _ _ us hl => match us, hl with | [_, _], _ => rfl) (PySem.W.mg_of X G a17) (wd_nil bs) (fns_cons S16 (by decide) (fns_nil)) ck_cells_with
  have S18 : FnS l.prog w K mg base 4 fn_check_mirrors := fn_ok (k := 3) (fun_mk (st := topS 27) l18 c18 k18) sc_check_mirrors ((fun_mk (st := topS 27) l18 c18 k18).binds fun _ _ _ _ _ _ us hl => match us, hl with | [_], _ => rfl) (PySem.W.mg_of X G a18) (wd_nil bs) (fns_cons S15 (by decide) (fns_cons S17 (by decide) (fns_nil))) ck_check_mirrors
  have S19 : FnS l.prog w K mg base 1 fn_doors_of := fn_ok (k := 0) (fun_mk (st := topS 17) l19 c19 k19) sc_doors_of ((fun_mk (st := topS 17) l19 c19 k19).binds fun _ _ _ _ _ _ us hl => match us, hl with | [_, _], _ => rfl) (PySem.W.mg_of X G a19) (wd_nil bs) (fns_nil) ck_doors_of
  have S20 : FnS l.prog w K mg base 1 fn_begin := fn_ok (k := 0) (fun_mk (st := topS 19) l20 c20 k20) sc_begin ((fun_mk (st := topS 19) l20 c20 k20).binds fun _ _ _ _ _ _ us hl => match us, hl with | [_, _, _], _ => rfl) (PySem.W.mg_of X G a20) (wd_nil bs) (fns_nil) ck_begin
  have S21 : FnS l.prog w K mg base 1 fn_beyond := fn_ok (k := 0) (fun_mk (st := topS 20) l21 c21 k21) sc_beyond ((fun_mk (st := topS 20) l21 c21 k21).binds fun _ _ _ _ _ _ us hl => match us, hl with | [_, _, _, _, _], _ => rfl) (PySem.W.mg_of X G a21) (wd_nil bs) (fns_nil) ck_beyond
  have S22 : FnS l.prog w K mg base 1 fn_next_triple := fn_ok (k := 0) (fun_mk (st := topS 23) l22 c22 k22) sc_next_triple ((fun_mk (st := topS 23) l22 c22 k22).binds fun _ _ _ _ _ _ us hl => match us, hl with | [_], _ => rfl) (PySem.W.mg_of X G a22) (wd_ref (wd_nil bs) G2 R1) (fns_nil) ck_next_triple
  have S23 : FnS l.prog w K mg base 1 fn_with_sign := fn_ok (k := 0) (fun_mk (st := topS 21) l23 c23 k23) sc_with_sign ((fun_mk (st := topS 21) l23 c23 k23).binds fun _ _ _ _ _ _ us hl => match us, hl with | [_, _, _, _], _ => rfl) (PySem.W.mg_of X G a23) (wd_nil bs) (fns_nil) ck_with_sign
  have S24 : FnS l.prog w K mg base 1 fn_turn_at := fn_ok (k := 0) (fun_mk (st := topS 24) l24 c24 k24) sc_turn_at ((fun_mk (st := topS 24) l24 c24 k24).binds fun _ _ _ _ _ _ us hl => match us, hl with | [_, _], _ => rfl) (PySem.W.mg_of X G a24) (wd_nil bs) (fns_nil) ck_turn_at
  have S25 : FnS l.prog w K mg base 2 fn_rolled := fn_ok (k := 1) (fun_mk (st := topS 28) l25 c25 k25) sc_rolled ((fun_mk (st := topS 28) l25 c25 k25).binds fun _ _ _ _ _ _ us hl => match us, hl with | [_, _, _], _ => rfl) (PySem.W.mg_of X G a25) (wd_ref (wd_nil bs) G3 R6) (fns_cons S16 (by decide) (fns_cons S20 (by decide) (fns_cons S21 (by decide) (fns_cons S22 (by decide) (fns_cons S23 (by decide) (fns_cons S24 (by decide) (fns_nil))))))) ck_rolled
  have S26 : FnS l.prog w K mg base 5 fn_after_balls := fn_ok (k := 4) (fun_mk (st := topS 30) l26 c26 k26) sc_after_balls ((fun_mk (st := topS 30) l26 c26 k26).binds fun _ _ _ _ _ _ us hl => match us, hl with | [_, _], _ => rfl) (PySem.W.mg_of X G a26) (wd_nil bs) (fns_cons S18 (by decide) (fns_cons S19 (by decide) (fns_cons S25 (by decide) (fns_cons S7 (by decide) (fns_nil))))) ck_after_balls
  have S27 : FnS l.prog w K mg base 3 fn_reached_from := fn_ok (k := 2) (fun_mk (st := topS 32) l27 c27 k27) sc_reached_from ((fun_mk (st := topS 32) l27 c27 k27).binds fun _ _ _ _ _ _ us hl => match us, hl with | [_, _], _ => rfl) (PySem.W.mg_of X G a27) (wd_nil bs) (fns_cons S19 (by decide) (fns_cons S25 (by decide) (fns_nil))) ck_reached_from
  have S28 : FnS l.prog w K mg base 5 fn_fewest_balls := fn_ok (k := 4) (fun_mk (st := topS 33) l28 c28 k28) sc_fewest_balls ((fun_mk (st := topS 33) l28 c28 k28).binds fun _ _ _ _ _ _ us hl => match us, hl with | [_, _], _ => rfl) (PySem.W.mg_of X G a28) (wd_nil bs) (fns_cons S18 (by decide) (fns_cons S15 (by decide) (fns_cons S16 (by decide) (fns_cons S27 (by decide) (fns_nil))))) ck_fewest_balls
  have S29 : FnS l.prog w K mg base 1 fn__law_cells_a10 := fn_ok (k := 0) (fun_mk (st := topS 52) l29 c29 k29) sc__law_cells_a10 ((fun_mk (st := topS 52) l29 c29 k29).binds fun _ _ _ _ _ _ us hl => match us, hl with | [_, _], _ => rfl) (PySem.W.mg_of X G a29) (wd_nil bs) (fns_nil) ck__law_cells_a10
  have S30 : FnS l.prog w K mg base 1 fn__law_with_539 := fn_ok (k := 0) (fun_mk (st := topS 51) l30 c30 k30) sc__law_with_539 ((fun_mk (st := topS 51) l30 c30 k30).binds fun _ _ _ _ _ _ us hl => match us, hl with | [_, _, _, _], _ => rfl) (PySem.W.mg_of X G a30) (wd_nil bs) (fns_nil) ck__law_with_539
  have S31 : FnS l.prog w K mg base 2 fn_check_door := fn_ok (k := 1) (fun_mk (st := topS 18) l31 c31 k31) sc_check_door ((fun_mk (st := topS 18) l31 c31 k31).binds fun _ _ _ _ _ _ us hl => match us, hl with | [_, _], _ => rfl) (PySem.W.mg_of X G a31) (wd_nil bs) (fns_cons S7 (by decide) (fns_cons S19 (by decide) (fns_nil))) ck_check_door
  have S32 : FnS l.prog w K mg base 2 fn_door_after := fn_ok (k := 1) (fun_mk (st := topS 42) l32 c32 k32) sc_door_after ((fun_mk (st := topS 42) l32 c32 k32).binds fun _ _ _ _ _ _ us hl => match us, hl with | [_, _, _, _], _ => rfl) (PySem.W.mg_of X G a32) (wd_nil bs) (fns_cons S20 (by decide) (fns_cons S19 (by decide) (fns_nil))) ck_door_after
  have S33 : FnS l.prog w K mg base 3 fn_turned_door := fn_ok (k := 2) (fun_mk (st := topS 43) l33 c33 k33) sc_turned_door ((fun_mk (st := topS 43) l33 c33 k33).binds fun _ _ _ _ _ _ us hl => match us, hl with | [_, _, _], _ => rfl) (PySem.W.mg_of X G a33) (wd_nil bs) (fns_cons S6 (by decide) (fns_cons S8 (by decide) (fns_cons S31 (by decide) (fns_cons S32 (by decide) (fns_nil))))) ck_turned_door
  have S34 : FnS l.prog w K mg base 5 fn_ball := fn_ok (k := 4) (fun_mk (st := topS 29) l34 c34 k34) sc_ball ((fun_mk (st := topS 29) l34 c34 k34).binds fun _ _ _ _ _ _ us hl => match us, hl with | [_, _], _ => rfl) (PySem.W.mg_of X G a34) (wd_nil bs) (fns_cons S18 (by decide) (fns_cons S31 (by decide) (fns_cons S25 (by decide) (fns_nil)))) ck_ball
  have S35 : FnS l.prog w K mg base 5 fn_count_reached := fn_ok (k := 4) (fun_mk (st := topS 34) l35 c35 k35) sc_count_reached ((fun_mk (st := topS 34) l35 c35 k35).binds fun _ _ _ _ _ _ us hl => match us, hl with | [_], _ => rfl) (PySem.W.mg_of X G a35) (wd_nil bs) (fns_cons S18 (by decide) (fns_cons S27 (by decide) (fns_nil))) ck_count_reached
  have S36 : FnS l.prog w K mg base 5 fn_recurrence := fn_ok (k := 4) (fun_mk (st := topS 31) l36 c36 k36) sc_recurrence ((fun_mk (st := topS 31) l36 c36 k36).binds fun _ _ _ _ _ _ us hl => match us, hl with | [_, _], _ => rfl) (PySem.W.mg_of X G a36) (wd_nil bs) (fns_cons S18 (by decide) (fns_cons S31 (by decide) (fns_cons S25 (by decide) (fns_nil)))) ck_recurrence
  exact law_end (fn_run (k := 5) (fun_mk (st := topS 53) l37 c37 k37) sc_law_k75 (wd_nil bs) (fns_cons S0 (by decide) (fns_cons S4 (by decide) (fns_cons S1 (by decide) (fns_cons S12 (by decide) (fns_cons S13 (by decide) (fns_cons S26 (by decide) (fns_cons S28 (by decide) (fns_cons S2 (by decide) (fns_cons S29 (by decide) (fns_cons S30 (by decide) (fns_cons S33 (by decide) (fns_cons S34 (by decide) (fns_cons S35 (by decide) (fns_cons S36 (by decide) (fns_nil))))))))))))))) ck_law_k75) law_k75
end Py
open PySem PySem.W PyProof.Rows
set_option maxHeartbeats 0 in
theorem PySem.Challenge.cw_mirrorsure_k75_balls_turned_holds : PySem.Challenge.rw_mirrorsure_k75_balls_turned.Holds := by
  w_on; o_law; k_head; (case hw => w_witness2)
  k_fill
  refine L2.walk_of (l := PySem.Challenge.rw_mirrorsure_k75_balls_turned) (n := 63) (k := 6) (x := "_law_script") (CX := fun _ => L2.CX0) (sp := fun w => Py.spLaw _) rfl (by decide) rfl ⟨rfl, by decide, by decide⟩ (fun w h Y => PySem.W.kIn_of Y) ?F (fun _ _ a ns hl _ hS => ⟨a, ns, rfl, hS, hl, fun _ => rfl⟩) (fun _ _ _ _ _ h => h)
  case F =>
    intro w mg fa h KX G hmg
    replace hmg : mg "law" = some (.ref fa) := hmg
    refine' Py.all_mk KX G hmg ?qa0 ?ql0 ?qc0 ?qk0 ?qa1 ?ql1 ?qc1 ?qk1 ?qa2 ?ql2 ?qc2 ?qk2 ?qa3 ?ql3 ?qc3 ?qk3 ?qa4 ?ql4 ?qc4 ?qk4 ?qa5 ?ql5 ?qc5 ?qk5 ?qa6 ?ql6 ?qc6 ?qk6 ?qa7 ?ql7 ?qc7 ?qk7 ?qa8 ?ql8 ?qc8 ?qk8 ?qa9 ?ql9 ?qc9 ?qk9 ?qa10 ?ql10 ?qc10 ?qk10 ?qa11 ?ql11 ?qc11 ?qk11 ?qa12 ?ql12 ?qc12 ?qk12 ?qa13 ?ql13 ?qc13 ?qk13 ?qa14 ?ql14 ?qc14 ?qk14 ?qa15 ?ql15 ?qc15 ?qk15 ?qa16 ?ql16 ?qc16 ?qk16 ?qa17 ?ql17 ?qc17 ?qk17 ?qa18 ?ql18 ?qc18 ?qk18 ?qa19 ?ql19 ?qc19 ?qk19 ?qa20 ?ql20 ?qc20 ?qk20 ?qa21 ?ql21 ?qc21 ?qk21 ?qa22 ?ql22 ?qc22 ?qk22 ?qa23 ?ql23 ?qc23 ?qk23 ?qa24 ?ql24 ?qc24 ?qk24 ?qa25 ?ql25 ?qc25 ?qk25 ?qa26 ?ql26 ?qc26 ?qk26 ?qa27 ?ql27 ?qc27 ?qk27 ?qa28 ?ql28 ?qc28 ?qk28 ?qa29 ?ql29 ?qc29 ?qk29 ?qa30 ?ql30 ?qc30 ?qk30 ?qa31 ?ql31 ?qc31 ?qk31 ?qa32 ?ql32 ?qc32 ?qk32 ?qa33 ?ql33 ?qc33 ?qk33 ?qa34 ?ql34 ?qc34 ?qk34 ?qa35 ?ql35 ?qc35 ?qk35 ?qa36 ?ql36 ?qc36 ?qk36 ?qa37 ?ql37 ?qc37 ?qk37 ?quu0 ?qum0 ?quu2 ?quu3 ?quu4 ?quu5 ?quu1 ?quu6 ?qum6 ?qei2_0 ?qei2_1 ?qei3_0 ?qei3_1 ?qei4_0 ?qei4_1 ?qei5_0 ?qei5_1 ?qex0_0 ?qey0_0 ?qex0_1 ?qey0_1 ?qex0_2 ?qey0_2 ?qex0_3 ?qey0_3 ?qex0_4 ?qey0_4 ?qex0_5 ?qey0_5 ?qex6_0 ?qey6_0 ?qex6_1 ?qey6_1 ?qeh0_0 ?qeh0_1 ?qeh0_2 ?qeh0_3 ?qeh0_4 ?qeh0_5 ?qeh6_0 ?qeh6_1 ?qg0 ?qg1 ?qg2 ?qg3 ?qz0 ?qz1 ?qz2 ?qz3 ?qz4 ?qz5 ?qz6 ?qz7 ?qz8 ?qz9 ?qz10 ?qz11 ?qz12 ?qz13 ?qz14 ?qz15 ?qz16 ?qz17 ?qz18 ?qz19
    (case qa0 => k_is); (case ql0 => k_is); (case qc0 => k_is); (case qk0 => k_is); (case qa1 => k_is); (case ql1 => k_is); (case qc1 => k_is); (case qk1 => k_is); (case qa2 => k_is); (case ql2 => k_is); (case qc2 => k_is); (case qk2 => k_is); (case qa3 => k_is); (case ql3 => k_is); (case qc3 => k_is); (case qk3 => k_is); (case qa4 => k_is); (case ql4 => k_is); (case qc4 => k_is); (case qk4 => k_is); (case qa5 => k_is); (case ql5 => k_is); (case qc5 => k_is); (case qk5 => k_is); (case qa6 => k_is); (case ql6 => k_is); (case qc6 => k_is); (case qk6 => k_is); (case qa7 => k_is); (case ql7 => k_is); (case qc7 => k_is); (case qk7 => k_is); (case qa8 => k_is); (case ql8 => k_is); (case qc8 => k_is); (case qk8 => k_is); (case qa9 => k_is); (case ql9 => k_is); (case qc9 => k_is); (case qk9 => k_is); (case qa10 => k_is); (case ql10 => k_is); (case qc10 => k_is); (case qk10 => k_is); (case qa11 => k_is); (case ql11 => k_is); (case qc11 => k_is); (case qk11 => k_is); (case qa12 => k_is); (case ql12 => k_is); (case qc12 => k_is); (case qk12 => k_is); (case qa13 => k_is); (case ql13 => k_is); (case qc13 => k_is); (case qk13 => k_is); (case qa14 => k_is); (case ql14 => k_is); (case qc14 => k_is); (case qk14 => k_is); (case qa15 => k_is); (case ql15 => k_is); (case qc15 => k_is); (case qk15 => k_is); (case qa16 => k_is); (case ql16 => k_is); (case qc16 => k_is); (case qk16 => k_is); (case qa17 => k_is); (case ql17 => k_is); (case qc17 => k_is); (case qk17 => k_is); (case qa18 => k_is); (case ql18 => k_is); (case qc18 => k_is); (case qk18 => k_is); (case qa19 => k_is); (case ql19 => k_is); (case qc19 => k_is); (case qk19 => k_is); (case qa20 => k_is); (case ql20 => k_is); (case qc20 => k_is); (case qk20 => k_is); (case qa21 => k_is); (case ql21 => k_is); (case qc21 => k_is); (case qk21 => k_is); (case qa22 => k_is); (case ql22 => k_is); (case qc22 => k_is); (case qk22 => k_is); (case qa23 => k_is); (case ql23 => k_is); (case qc23 => k_is); (case qk23 => k_is); (case qa24 => k_is); (case ql24 => k_is); (case qc24 => k_is); (case qk24 => k_is); (case qa25 => k_is); (case ql25 => k_is); (case qc25 => k_is); (case qk25 => k_is); (case qa26 => k_is); (case ql26 => k_is); (case qc26 => k_is); (case qk26 => k_is); (case qa27 => k_is); (case ql27 => k_is); (case qc27 => k_is); (case qk27 => k_is); (case qa28 => k_is); (case ql28 => k_is); (case qc28 => k_is); (case qk28 => k_is); (case qa29 => k_is); (case ql29 => k_is); (case qc29 => k_is); (case qk29 => k_is); (case qa30 => k_is); (case ql30 => k_is); (case qc30 => k_is); (case qk30 => k_is); (case qa31 => k_is); (case ql31 => k_is); (case qc31 => k_is); (case qk31 => k_is); (case qa32 => k_is); (case ql32 => k_is); (case qc32 => k_is); (case qk32 => k_is); (case qa33 => k_is); (case ql33 => k_is); (case qc33 => k_is); (case qk33 => k_is); (case qa34 => k_is); (case ql34 => k_is); (case qc34 => k_is); (case qk34 => k_is); (case qa35 => k_is); (case ql35 => k_is); (case qc35 => k_is); (case qk35 => k_is); (case qa36 => k_is); (case ql36 => k_is); (case qc36 => k_is); (case qk36 => k_is); (case qa37 => k_is); (case ql37 => k_is); (case qc37 => k_is); (case qk37 => k_is); (case qg0 => k_is); (case qg1 => k_is); (case qg2 => k_is); (case qg3 => k_is); (case quu0 => k_is); (case quu1 => k_is); (case quu2 => k_is); (case quu3 => k_is); (case quu4 => k_is); (case quu5 => k_is); (case quu6 => k_is); (case qum0 => decide); (case qum6 => decide); (case qei2_0 => rfl); (case qei2_1 => rfl); (case qei3_0 => rfl); (case qei3_1 => rfl); (case qei4_0 => rfl); (case qei4_1 => rfl); (case qei5_0 => rfl); (case qei5_1 => rfl); (case qex0_0 => rfl); (case qey0_0 => rfl); (case qex0_1 => rfl); (case qey0_1 => rfl); (case qex0_2 => rfl); (case qey0_2 => rfl); (case qex0_3 => rfl); (case qey0_3 => rfl); (case qex0_4 => rfl); (case qey0_4 => rfl); (case qex0_5 => rfl); (case qey0_5 => rfl); (case qex6_0 => rfl); (case qey6_0 => rfl); (case qex6_1 => rfl); (case qey6_1 => rfl); (case qeh0_0 => rfl); (case qeh0_1 => rfl); (case qeh0_2 => rfl); (case qeh0_3 => rfl); (case qeh0_4 => rfl); (case qeh0_5 => rfl); (case qeh6_0 => rfl); (case qeh6_1 => rfl); (case qz0 => k_is); (case qz1 => k_is); (case qz2 => k_is); (case qz3 => k_is); (case qz4 => k_is); (case qz5 => k_is); (case qz6 => k_is); (case qz7 => k_is); (case qz8 => k_is); (case qz9 => k_is); (case qz10 => k_is); (case qz11 => k_is); (case qz12 => k_is); (case qz13 => k_is); (case qz14 => k_is); (case qz15 => k_is); (case qz16 => k_is); (case qz17 => k_is); (case qz18 => k_is); (case qz19 => k_is)

