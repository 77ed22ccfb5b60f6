import PyProof.Rows.All
import Wide.All
import OpenK.AllK
import Wide.FinOn
import PySem.Str
import HandS.HeadEnd
import HandS.HeadHook1
import HandS.HeadHook2
import HandS.Defaults
import KE.KStateDown
import HandS.Base
import HandS.Call
import HandS.Ends
import HandS.More
import HandS.Words
import HandS.WordsExc
import HandS.Head0
import HandS.Head1
import HandS.Head2
import PySem.Syntax
import PySem.Eval
import HandS.ForMost
import HandS.ForExc
import HandS.Walk
import HandS.CallSlots
import HandS.Flow
import HandS.TryOnly
import HandS.Comp
import HandS.List
import HandS.Style
import KE.DataEq
import KE.SortData
import KE.SortLaws
import HandS.TupAny
import HandS.Text
import HandS.Conv
import HandS.TupMul
import HandS.IsInst
import KE.DataFind
import KE.DataCmp
import KE.DataMinMax
import PyProof.SeqIndex
import KE.KTupSum
import PyProof.Claim2Refuses
import HandS.TupSets
import HandS.SetFor
import HandS.Zip
import KE.GoesMore
import KE.GoesEnum
import HandS.Iter
import HandS.Strs
import HandS.Zip0
import KE.KStar
import PyProof.FactsAll.object_0
import HandS.Star
import PySem.Challenge.RW_ascentrows_k31_main_stretches_of_orders
section
set_option linter.all false
namespace Ev
open PySem (Str)

inductive D where
  | non | bl (b : Bool) | int (i : Int) | str (x : Str)
  | tup (ds : List D) | lst (ds : List D)
  | ro (ns : List Int)
  | fn (k : Nat)
  | dic (kvs : List (List Int × D))
  deriving Inhabited

mutual
def eqD : D → D → Bool
  | .non, .non => true
  | .bl a, .bl b => a == b
  | .bl a, .int j => (if a then 1 else 0) == j
  | .int i, .bl b => i == (if b then 1 else 0)
  | .int i, .int j => i == j
  | .str x, .str y => decide (x = y)
  | .tup xs, .tup ys => eqDs xs ys
  | .lst xs, .lst ys => eqDs xs ys
  | _, _ => false
def eqDs : List D → List D → Bool
  | [], [] => true
  | x :: xs, y :: ys => eqD x y && eqDs xs ys
  | _, _ => false
end
mutual
def isData : Nat → D → Bool
  | _, .non => true
  | _, .bl _ => true
  | _, .int _ => true
  | _, .str _ => true
  | n + 1, .tup ds => isDatas n ds
  | n + 1, .lst ds => isDatas n ds
  | _, _ => false
def isDatas : Nat → List D → Bool
  | _, [] => true
  | n, d :: ds => isData n d && isDatas n ds
end
abbrev depthLine : Nat := 20
def scalar : D → Bool
  | .non => true
  | .bl _ => true
  | .int _ => true
  | .str _ => true
  | _ => false
def intsOf : List D → Option (List Int)
  | [] => some []
  | .int i :: r => (intsOf r).map fun l => i :: l
  | _ => none
def blsOf : List D → Option (List Bool)
  | [] => some []
  | .bl b :: r => (blsOf r).map fun l => b :: l
  | _ => none
def strsOf : List D → Option (List Str)
  | [] => some []
  | .str b :: r => (strsOf r).map fun l => b :: l
  | _ => none
def tupsOf : List D → Option (List (List D))
  | [] => some []
  | .tup b :: r => (tupsOf r).map fun l => b :: l
  | _ => none
def lexI : List Int → List Int → Bool
  | [], [] => false
  | [], _ :: _ => true
  | _ :: _, [] => false
  | x :: xs, y :: ys => if x = y then lexI xs ys else decide (x < y)

mutual
def ltD : D → D → Bool
  | .int i, .int j => decide (i < j)
  | .str x, .str y => decide (x.cps.toList < y.cps.toList)
  | .tup xs, .tup ys => ltDs xs ys
  | _, _ => false
def ltDs : List D → List D → Bool
  | [], [] => false
  | [], _ :: _ => true
  | _ :: _, [] => false
  | x :: xs, y :: ys => if eqD x y then ltDs xs ys else ltD x y
end
mutual
def alikeD : D → D → Bool
  | .int _, .int _ => true
  | .str _, .str _ => true
  | .tup xs, .tup ys => alikeDs xs ys
  | _, _ => false
def alikeDs : List D → List D → Bool
  | [], _ => true
  | _, [] => true
  | x :: xs, y :: ys => alikeD x y && alikeDs xs ys
end
def insD (x : D) : List D → List D
  | [] => [x]
  | y :: ys => if ltD y x then y :: insD x ys else x :: y :: ys
def sortD : List D → List D
  | [] => []
  | x :: xs => insD x (sortD xs)
def allAlike : List D → Bool
  | [] => true
  | x :: xs => alikeD x x && xs.all (alikeD x) && allAlike xs
def isNonD : D → Bool
  | .non => true
  | _ => false
def isTup1 : D → Bool
  | .tup _ => true
  | _ => false
def noTup : D → Bool
  | .bl _ => true
  | .int _ => true
  | .str _ => true
  | .lst _ => true
  | _ => false
def srtOk (ds : List D) : Bool := ds.all isTup1 || ds.all noTup
def itupOf : List D → Option (List (List Int))
  | [] => some []
  | .tup b :: r => match intsOf b, itupOf r with
    | some l, some m => some (l :: m)
    | _, _ => none
  | _ => none
def setOk (ds : List D) : Bool := ((intsOf ds).isSome && Nat.ble ds.length 4000) || ((itupOf ds).isSome && Nat.ble ds.length 63)
def dedup : List D → List D → List D
  | [], acc => acc.reverse
  | x :: xs, acc => if acc.any (eqD x) then dedup xs acc else dedup xs (x :: acc)

abbrev cap : Nat := 16777216
def capd (n : Nat) (d : D) : Option D := if n ≤ cap then some d else none

def atN (n : Nat) (i : Int) : Option Nat := if 0 ≤ i then (if i < n then some i.toNat else none) else if -(n : Int) ≤ i then some (i + n).toNat else none
def cutN (n d : Nat) : Option Int → Nat
  | none => d
  | some v => if v < 0 then (v + n).toNat else min v.toNat n
def cutL {α : Type} (xs : List α) (lo hi : Option Int) : List α := (xs.drop (cutN xs.length 0 lo)).take (cutN xs.length xs.length hi - cutN xs.length 0 lo)
def cutD (x : D) (lo hi : Option Int) : Option D := match x with
  | .lst ds => some (.lst (cutL ds lo hi))
  | .tup ds => some (.tup (cutL ds lo hi))
  | .ro ds => some (.lst ((cutL ds lo hi).map D.int))
  | .str x => if x.cps.size ≤ 16777216 then some (.str ⟨(cutL x.cps.toList lo hi).toArray⟩) else none
  | _ => none
def upto (lo : Int) : Nat → List Int
  | 0 => []
  | n + 1 => lo :: upto (lo + 1) n
def steps (lo c : Int) : Nat → List Int
  | 0 => []
  | n + 1 => lo :: steps (lo + c) c n
def keyOf : D → Option (List Int)
  | .tup ds => intsOf ds
  | _ => none
def dget (k : List Int) : List (List Int × D) → Option D
  | [] => none
  | (k', v) :: r => if k = k' then some v else dget k r
def dput (k : List Int) (v : D) : List (List Int × D) → List (List Int × D)
  | [] => [(k, v)]
  | (k', v') :: r => if k = k' then (k', v) :: r else (k', v') :: dput k v r

inductive Op where
  | add | sub | mul | fdiv | mod | pow | neg
  | eq | ne | lt | le | gt | ge | isn | isnn | inn | nin
  | ix | cut (lo hi : Bool) | rev
  | len | abs | int1 | str1 | sum | max1 | min1 | max2 | min2 | sorted | list | tuple | all | any
  | lrg1 | lrg2 | trg1 | trg2
  | isi (ts : List Nat)
  | count | index | split | join | repl | get | zipS | sset | nset
  deriving DecidableEq, Inhabited

def intP (p : Int → Int → Bool) : List D → Option D
  | [.int i, .int j] => some (.bl (p i j))
  | _ => none
def leN (i : Int) (b : Nat) : Bool := i.toNat.ble b
theorem leN_iff {i : Int} {b : Nat} : leN i b = true ↔ i ≤ b := by
  unfold leN
  rw [Nat.ble_eq]
  omega
def rngOk (n : Int) : Bool := leN (-n) 1152921504606846976 && leN n 1152921504606846976
theorem rngOk_iff {n : Int} : rngOk n = true ↔ -(2 ^ 60) ≤ n ∧ n ≤ 2 ^ 60 := by
  unfold rngOk
  rw [Bool.and_eq_true, leN_iff, leN_iff]
  omega
def tyIs : D → Nat → Bool
  | .int _, 0 => true
  | .bl _, 0 => true
  | .bl _, 1 => true
  | .str _, 2 => true
  | .lst _, 3 => true
  | .tup _, 4 => true
  | _, _ => false
def tyKnown : D → Bool
  | .ro _ => false
  | .fn _ => false
  | .dic _ => false
  | _ => true
def splitOn (c : Nat) : List Nat → List Nat → List (List Nat)
  | [], acc => [acc.reverse]
  | x :: xs, acc => if x = c then acc.reverse :: splitOn c xs [] else splitOn c xs (x :: acc)
def joinS (sep : List Nat) : List (List Nat) → List Nat
  | [] => []
  | [x] => x
  | x :: y :: r => x ++ sep ++ joinS sep (y :: r)
def zipAll : Nat → List (List D) → List D
  | 0, _ => []
  | n + 1, ls => if ls.any List.isEmpty then [] else .tup (ls.map fun l => l.headD .non) :: zipAll n (ls.map List.tail)
def bestD (f : D → D → Bool) (x : D) (xs : List D) : D := xs.foldl (fun a y => if f a y = true then y else a) x
def bestOk (f : D → D → Bool) : List D → Option D
  | [] => none
  | x :: xs => if allAlike (x :: xs) && isDatas depthLine (x :: xs) then some (bestD f x xs) else none
def seqOf : D → Option (List D)
  | .lst ds => some ds
  | .tup ds => some ds
  | _ => none
def idx (x : D) : List D → Nat → Option Nat
  | [], _ => none
  | y :: r, n => if eqD y x then some n else idx x r (n + 1)
def b64 (i : Int) : Bool := i.natAbs.ble 18446744073709551615
theorem b64_iff {i : Int} : b64 i = true ↔ -(2 ^ 64) < i ∧ i < 2 ^ 64 := by
  unfold b64
  rw [Nat.ble_eq]
  omega

def op1 : Op → D → Option D
  | .neg, .int i => some (.int (-i))
  | .isn, x => some (.bl (isNonD x))
  | .isnn, x => some (.bl (!isNonD x))
  | .cut false false, x => cutD x none none
  | .rev, .lst ds => some (.lst ds.reverse)
  | .len, .lst ds => some (.int ds.length)
  | .len, .tup ds => some (.int ds.length)
  | .len, .ro ds => some (.int ds.length)
  | .len, .str x => capd x.cps.size (.int x.cps.size)
  | .abs, .int i => some (.int (if i < 0 then -i else i))
  | .int1, .int i => some (.int i)
  | .int1, .bl b => some (.int (if b then 1 else 0))
  | .str1, .int i => if decide (i.natAbs < 10 ^ 30) then some (.str (Str.ofString (toString i))) else none
  | .sum, x => (seqOf x).bind fun ds => (intsOf ds).map fun l => .int l.sum
  | .max1, x => (seqOf x).bind fun ds => bestOk (fun a y => ltD a y) ds
  | .min1, x => (seqOf x).bind fun ds => bestOk (fun a y => ltD y a) ds
  | .sorted, x => (seqOf x).bind fun ds => if allAlike ds && srtOk ds && isDatas depthLine ds then some (.lst (sortD ds)) else none
  | .sset, x => (seqOf x).bind fun ds => if setOk ds then some (.lst (sortD (dedup ds []))) else none
  | .nset, x => (seqOf x).bind fun ds => if setOk ds then some (.int ((dedup ds []).length : Nat)) else none
  | .list, .ro ns => some (.lst (ns.map D.int))
  | .list, .lst xs => some (.lst xs)
  | .list, .tup xs => some (.lst xs)
  | .tuple, .lst xs => some (.tup xs)
  | .tuple, .tup xs => some (.tup xs)
  | .all, .lst ds => (blsOf ds).map fun l => .bl (l.all id)
  | .any, .lst ds => (blsOf ds).map fun l => .bl (l.any id)
  | .lrg1, .int n => if leN n 10000000 && rngOk n then some (.lst ((upto 0 n.toNat).map D.int)) else none
  | .trg1, .int n => if leN n 10000000 && rngOk n then some (.tup ((upto 0 n.toNat).map D.int)) else none
  | .isi ts, x => if tyKnown x = true then some (.bl (ts.any (tyIs x))) else none
  | .zipS, x => (seqOf x).bind fun ds => (tupsOf ds).bind fun ls => match ls with
    | [] => some (.lst [])
    | l :: _ => some (.lst (zipAll l.length ls))
  | _, _ => none
def op2 : Op → D → D → Option D
  | .add, .int i, .int j => some (.int (i + j))
  | .add, .str x, .str y => capd (x.cps.size + y.cps.size) (.str ⟨x.cps ++ y.cps⟩)
  | .add, .tup xs, .tup ys => capd (xs.length + ys.length) (.tup (xs ++ ys))
  | .add, .lst xs, .lst ys => capd (xs.length + ys.length) (.lst (xs ++ ys))
  | .sub, .int i, .int j => some (.int (i - j))
  | .mul, .int i, .int j => if b64 i || b64 j then some (.int (i * j)) else none
  | .mul, .lst xs, .int k => if leN (-k) 1152921504606846976 && leN k 10000 && decide (xs.length ≤ 1000) then some (.lst (List.replicate k.toNat xs).flatten) else none
  | .mul, .tup xs, .int k => if leN (-k) 1152921504606846976 && leN k 1000 && decide (xs.length ≤ 1000) then some (.tup (List.replicate k.toNat xs).flatten) else none
  | .fdiv, .int i, .int j => if decide (0 < j) && leN j 1073741823 then some (.int (i / j)) else none
  | .mod, .int i, .int j => if decide (0 < j) then some (.int (i % j)) else none
  | .pow, .int i, .int j => if decide (0 ≤ j) && decide (j ≤ 1000) && decide (i.natAbs < 2 ^ 64) then some (.int (i ^ j.toNat)) else none
  | .eq, x, y => if isData depthLine x && isData depthLine y then some (.bl (eqD x y)) else none
  | .ne, x, y => if isData depthLine x && isData depthLine y then some (.bl (!eqD x y)) else none
  | .lt, .int i, .int j => some (.bl (decide (i < j)))
  | .le, .int i, .int j => some (.bl (decide (i ≤ j)))
  | .gt, .int i, .int j => some (.bl (decide (j < i)))
  | .ge, .int i, .int j => some (.bl (decide (j ≤ i)))
  | .lt, .tup xs, .tup ys => if alikeDs xs ys && isDatas 19 xs && isDatas 19 ys then some (.bl (ltDs xs ys)) else none
  | .le, .tup xs, .tup ys => if alikeDs xs ys && isDatas 19 xs && isDatas 19 ys then some (.bl (!ltDs ys xs)) else none
  | .gt, .tup xs, .tup ys => if alikeDs xs ys && isDatas 19 xs && isDatas 19 ys then some (.bl (ltDs ys xs)) else none
  | .ge, .tup xs, .tup ys => if alikeDs xs ys && isDatas 19 xs && isDatas 19 ys then some (.bl (!ltDs xs ys)) else none
  | .inn, .str x, .str y => match x.cps.toList with
    | [c] => some (.bl (decide (c ∈ y.cps.toList)))
    | _ => none
  | .inn, x, y => match seqOf y with
    | some ds => if isData depthLine x && isDatas depthLine ds then some (.bl (ds.any fun d => eqD d x)) else none
    | none => none
  | .nin, .str x, .str y => match x.cps.toList with
    | [c] => some (.bl (!decide (c ∈ y.cps.toList)))
    | _ => none
  | .nin, x, y => match seqOf y with
    | some ds => if isData depthLine x && isDatas depthLine ds then some (.bl (!ds.any fun d => eqD d x)) else none
    | none => none
  | .ix, .lst ds, .int i => (atN ds.length i).bind fun k => ds[k]?
  | .ix, .tup ds, .int i => (atN ds.length i).bind fun k => ds[k]?
  | .ix, .ro ns, .int i => (atN ns.length i).bind fun k => ns[k]?.map D.int
  | .ix, .str x, .int i => if x.cps.size ≤ cap then (atN x.cps.size i).bind fun k => x.cps[k]?.map fun c => D.str ⟨#[c]⟩ else none
  | .cut true false, x, .int i => cutD x (some i) none
  | .cut false true, x, .int j => cutD x none (some j)
  | .max2, .int i, .int j => some (.int (if j > i then j else i))
  | .min2, .int i, .int j => some (.int (if j < i then j else i))
  | .lrg2, .int a, .int b => if leN (b - a) 10000000 && rngOk a && rngOk b then some (.lst ((upto a (b - a).toNat).map D.int)) else none
  | .trg2, .int a, .int b => if leN (b - a) 10000000 && rngOk a && rngOk b then some (.tup ((upto a (b - a).toNat).map D.int)) else none
  | .count, x, y => (seqOf x).bind fun ds => if isDatas depthLine ds && isData depthLine y then some (.int ((ds.countP fun d => eqD d y : Nat) : Int)) else none
  | .index, x, y => (seqOf x).bind fun ds => if isDatas depthLine ds && isData depthLine y then (idx y ds 0).map fun n => D.int n else none
  | .split, .str x, .str y => match y.cps.toList with
    | [c] => capd (x.cps.size + 2) (.lst ((splitOn c x.cps.toList []).map fun l => .str ⟨l.toArray⟩))
    | _ => none
  | .join, .str x, y => (seqOf y).bind fun ds => (strsOf ds).bind fun l =>
      let r := joinS x.cps.toList (l.map fun z => z.cps.toList)
      capd r.length (.str ⟨r.toArray⟩)
  | _, _, _ => none
def op3 (_ : Op) (_ _ _ : D) : Option D := none
def opSem (o : Op) (ds : List D) : Option D := match ds with
  | [x] => op1 o x
  | [x, y] => op2 o x y
  | [x, y, z] => op3 o x y z
  | _ => none
def cmpI : Op → Int → Int → Bool
  | .lt, i, j => decide (i < j)
  | .le, i, j => decide (i ≤ j)
  | .gt, i, j => decide (j < i)
  | .ge, i, j => decide (j ≤ i)
  | _, _, _ => false
def newOp : Op → Bool
  | .ix => false
  | .get => false
  | _ => true

inductive T where
  | nm (i : Nat) | tu (is : List Nat)
  deriving DecidableEq, Inhabited
inductive IK where
  | seq | rg1 | rg2 | rg3 | enum | zip2 | zip3 | zipS
  deriving DecidableEq, Inhabited
def pairK : IK → Bool
  | .enum => true
  | .zip2 => true
  | .zip3 => true
  | _ => false
def isTu : T → Bool
  | .tu _ => true
  | _ => false
def pairOk (k : IK) (t : T) : Bool := (!pairK k || isTu t) && (k != .zipS || !isTu t)
def zcols : List (List D) → Option (List D)
  | [] => some []
  | l :: r => if Nat.ble r.length 999 && r.all (fun q => q.length == l.length) then some ((List.range l.length).map fun i => D.tup ((l :: r).map fun q => q.getD i .non)) else none
def signs (x : Str) : List D := x.cps.toList.map fun c => .str ⟨#[c]⟩
def anyOf : D → Option (List D)
  | .lst ds => some ds
  | .tup ds => some ds
  | .ro ns => some (ns.map D.int)
  | .str x => some (signs x)
  | _ => none
def enumD : Nat → List D → List D
  | _, [] => []
  | n, d :: r => .tup [.int n, d] :: enumD (n + 1) r
def zipD : List D → List D → List D
  | x :: xs, y :: ys => .tup [x, y] :: zipD xs ys
  | _, _ => []
def zipD3 : List D → List D → List D → List D
  | x :: xs, y :: ys, z :: zs => .tup [x, y, z] :: zipD3 xs ys zs
  | _, _, _ => []
def rg3N (a b c : Int) : Nat := if 0 < c then ((b - a + c - 1) / c).toNat else if c < 0 then ((a - b + (-c) - 1) / (-c)).toNat else 0
def it1 : IK → D → Option (List D)
  | .seq, x => anyOf x
  | .rg1, .int n => if rngOk n then some ((upto 0 n.toNat).map D.int) else none
  | .enum, .lst ds => some (enumD 0 ds)
  | .enum, .tup ds => some (enumD 0 ds)
  | .zipS, x => (seqOf x).bind fun ds => (tupsOf ds).bind zcols
  | _, _ => none
def it2 : IK → D → D → Option (List D)
  | .rg2, .int a, .int b => if rngOk a && rngOk b then some ((upto a (b - a).toNat).map D.int) else none
  | .zip2, .lst a, .lst b => some (zipD a b)
  | .zip2, .tup a, .tup b => some (zipD a b)
  | _, _, _ => none
def itSem (k : IK) (ds : List D) : Option (List D) := match ds with
  | [x] => it1 k x
  | [x, y] => it2 k x y
  | _ => none

inductive E where
  | var (i : Nat) | cst (d : D)
  | op (o : Op) (a : E)
  | nil | cons (a r : E)
  | tup (a : E) | lst (a : E)
  | and (a b : E) | or (a b : E) | not (a : E)
  | ite (c a b : E)
  | chain (o1 o2 : Op) (a b c : E)
  | call (f : Nat) (a : E)
  | io (f : Nat) (i : Nat) (a : E)
  | orL (a b : E)
  | meth (o : Op) (x a : E)
  | pop (i : Nat) (a : E)
  | cut2 (x a b : E)
  | comp (own : List Nat) (t : T) (k : IK) (src tst elt : E)
  | comp2 (own vs : List Nat) (t : T) (k : IK) (src tst : E) (t1 : T) (k1 : IK) (src1 tst1 elt : E)
  deriving Inhabited
inductive S where
  | nop
  | nev
  | seq (a b : S)
  | expr (e : E)
  | asg (i : Nat) (e : E)
  | par (is : List Nat) (e : E)
  | unp (t : T) (e : E)
  | append (i : Nat) (e : E)
  | extend (i : Nat) (e : E)
  | seti (i : Nat) (k e : E)
  | ret (e : E)
  | ite (c : E) (a b : S)
  | for (t : T) (k : IK) (src : E) (body : S)
  | while (c : E) (body : S)
  | brk | cnt
  deriving Inhabited

inductive Sl where
  | no | fz (d : D) | ow (ds : List D) | od (kvs : List (List Int × D))
  deriving Inhabited
abbrev Env := List Sl
def Env.at (env : Env) (i : Nat) : Sl := env.getD i .no
inductive O where
  | fz (d : D) | fr (d : D) | sl (i : Nat)
  deriving Inhabited
inductive R (α : Type) where
  | ok (a : α) (env : Env)
  | exc (k : Nat) (a : List D) (env : Env)
  | stuck
def R.bind {α β : Type} (r : R α) (f : α → Env → R β) : R β := match r with
  | .ok a env => f a env
  | .exc k a env => .exc k a env
  | .stuck => .stuck
def Sl.d : Sl → D
  | .no => .non
  | .fz d => d
  | .ow ds => .lst ds
  | .od kvs => .dic kvs
def Sl.own : Sl → Bool
  | .ow _ => true
  | .od _ => true
  | _ => false
def O.view (env : Env) : O → D
  | .fz d => d
  | .fr d => d
  | .sl i => (env.at i).d
def Env.freeze (env : Env) (i : Nat) : Env := match env.at i with
  | .ow ds => env.set i (.fz (.lst ds))
  | .od kvs => env.set i (.fz (.dic kvs))
  | _ => env
def freezeO (env : Env) : List O → Env
  | [] => env
  | .sl i :: r => freezeO (env.freeze i) r
  | _ :: r => freezeO env r
def freezeL (env : Env) : List Nat → Env
  | [] => env
  | i :: r => freezeL (env.freeze i) r
def wipeE (env : Env) : List Nat → Env
  | [] => env
  | i :: r => (wipeE env r).set i .no
def backE (old env : Env) : List Nat → Env
  | [] => env
  | i :: r => (backE old env r).set i (old.at i)
def O.still (env : Env) : O → O
  | .sl i => .fz (env.at i).d
  | o => o
def ownD : D → Sl
  | .lst ds => .ow ds
  | .dic kvs => .od kvs
  | d => .fz d
def store (env : Env) (i : Nat) : O → Env
  | .fz d => env.set i (.fz d)
  | .fr d => env.set i (ownD d)
  | .sl j => (env.freeze j).set i (.fz (env.at j).d)
def bind1 (t : T) (d : D) (env : Env) : Option Env := match t with
  | .nm i => some (env.set i (.fz d))
  | .tu is => match seqOf d with
    | some ds => if ds.length = is.length then some ((is.zip ds).foldl (fun e p => e.set p.1 (.fz p.2)) env) else none
    | none => none
inductive CR where
  | ok (d : D) (fr : Bool) (io : List D)
  | exc (k : Nat) (a : List D) (io : List D)
  | stuck
structure EC where
  call : Nat → List D → CR
  io : Nat → Bool
  wf : Nat

def afterCall (os : List O) (env : Env) : CR → R (List O)
  | .ok d fr _ => if scalar d then .ok [.fz d] env else .ok [if fr then .fr d else .fz d] (freezeO env os)
  | .exc k a _ => .exc k a (freezeO env os)
  | .stuck => .stuck
def resO (o : Op) (d : D) : O := match d with
  | .lst _ => if newOp o then .fr d else .fz d
  | _ => .fz d

def R.one {β : Type} (r : R (List O)) (f : O → Env → R β) : R β := match r with
  | .ok [o] e => f o e
  | .exc k a e => .exc k a e
  | _ => .stuck
def R.all {β : Type} (r : R (List O)) (f : List O → Env → R β) : R β := match r with
  | .ok os e => f os e
  | .exc k a e => .exc k a e
  | .stuck => .stuck
def R.tst {β : Type} (r : R (List O)) (f : Bool → Env → R β) : R β := r.one fun o e => match o.view e with
  | .bl b => f b e
  | _ => .stuck
def ifI {β : Type} (d : D) (f : Int → R β) : R β := match d with
  | .int i => f i
  | _ => .stuck
def ifL {β : Type} (s : Sl) (f : List D → R β) : R β := match s with
  | .ow ds => f ds
  | _ => .stuck
def ifS {α β : Type} (s : Option α) (f : α → R β) : R β := match s with
  | some ds => f ds
  | none => .stuck
def O.isSl (i : Nat) : O → Bool
  | .sl j => j == i
  | _ => false
def O.anySl : O → Bool
  | .sl j => true
  | _ => false
def afterIo (os : List O) (i : Nat) (env : Env) : CR → R (List O)
  | .ok d fr io => .ok [if fr then .fr d else .fz d] ((freezeO env os).set i (.ow io))
  | .exc k a io => .exc k a ((freezeO env os).set i (.ow io))
  | .stuck => .stuck

def compLoop (vs : List Nat) (t : T) (tst elt : Env → R (List O)) : List D → Env → List D → R (List D)
  | [], env, acc => .ok acc.reverse env
  | d :: r, env, acc => ifS (bind1 t d env) fun e1 => (tst e1).tst fun c e2 => if c = true then (elt e2).one fun o e3 =>
      if acc.length < cap then compLoop vs t tst elt r (wipeE (freezeO e3 [o]) vs) (o.view e3 :: acc) else .stuck
    else compLoop vs t tst elt r (wipeE e2 vs) acc
def compLoop2 (vs : List Nat) (t : T) (tst : Env → R (List O)) (inner : Env → List D → R (List D)) : List D → Env → List D → R (List D)
  | [], env, acc => .ok acc env
  | d :: r, env, acc => ifS (bind1 t d env) fun e1 => (tst e1).tst fun c e2 => if c = true then (inner e2 acc).bind fun acc' e3 => compLoop2 vs t tst inner r (wipeE e3 vs) acc'
    else compLoop2 vs t tst inner r (wipeE e2 vs) acc
def compEnd (e0 : Env) (own : List Nat) : R (List D) → R (List O)
  | .ok ds e3 => if e3.length = e0.length then .ok [.fr (.lst ds)] (backE e0 e3 own) else .stuck
  | _ => .stuck
def kindD : D → Nat
  | .str _ => 2
  | .lst _ => 3
  | .tup _ => 4
  | .dic _ => 5
  | _ => 9
def mtOk (o : Op) (d : D) : Bool := match o, kindD d with
  | .index, 3 => true | .index, 4 => true | .count, 3 => true | .count, 4 => true | .split, 2 => true | .join, 2 => true
  | _, _ => false
def evE (C : EC) : E → Env → R (List O)
  | .var i, env => match env.at i with
    | .no => .stuck
    | .fz d => .ok [.fz d] env
    | _ => .ok [.sl i] env
  | .cst d, env => .ok [.fz d] env
  | .nil, env => .ok [] env
  | .cons a r, env => match evE C a env with
    | .ok [o] e1 => match evE C r e1 with
      | .ok os e2 => .ok (o :: os) e2
      | .exc k a e => .exc k a e
      | .stuck => .stuck
    | .exc k a e => .exc k a e
    | _ => .stuck
  | .op o a, env => match evE C a env with
    | .ok os e1 => match opSem o (os.map (O.view e1)) with
      | some d => .ok [resO o d] e1
      | none => .stuck
    | .exc k a e => .exc k a e
    | .stuck => .stuck
  | .tup a, env => match evE C a env with
    | .ok os e1 => if os.length ≤ cap then .ok [.fz (.tup (os.map (O.view e1)))] (freezeO e1 os) else .stuck
    | .exc k a e => .exc k a e
    | .stuck => .stuck
  | .lst a, env => match evE C a env with
    | .ok os e1 => if os.length ≤ cap then .ok [.fr (.lst (os.map (O.view e1)))] (freezeO e1 os) else .stuck
    | .exc k a e => .exc k a e
    | .stuck => .stuck
  | .and a b, env => (evE C a env).tst fun c e1 => if c = true then evE C b e1 else .ok [.fz (.bl false)] e1
  | .or a b, env => (evE C a env).tst fun c e1 => if c = true then .ok [.fz (.bl true)] e1 else evE C b e1
  | .not a, env => (evE C a env).tst fun c e1 => .ok [.fz (.bl (!c))] e1
  | .ite c a b, env => (evE C c env).tst fun c e1 => if c = true then evE C a e1 else evE C b e1
  | .chain o1 o2 a b c, env => (evE C a env).one fun oa e1 => ifI (oa.view e1) fun i => (evE C b e1).one fun ob e2 => ifI (ob.view e2) fun j =>
      if cmpI o1 i j = true then (evE C c e2).one fun oc e3 => ifI (oc.view e3) fun l => .ok [.fz (.bl (cmpI o2 j l))] e3 else .ok [.fz (.bl false)] e2
  | .call f a, env => (evE C a env).all fun os e1 => if C.io f = true then .stuck else afterCall os e1 (C.call f (os.map (O.view e1)))
  | .io f i a, env => ifL (env.at i) fun _ => (evE C a env).all fun os e1 => if C.io f = true then ifL (e1.at i) fun ds =>
      if os.any (O.isSl i) = true then .stuck else afterIo os i e1 (C.call f (.lst ds :: os.map (O.view e1))) else .stuck
  | .orL a b, env => (evE C a env).one fun o e1 => match o.view e1 with
      | .lst (_ :: _) => .ok [o] e1
      | .lst [] => evE C b e1
      | _ => .stuck
  | .meth o x a, env => (evE C x env).one fun ox e1 => if mtOk o (ox.view e1) = true then (evE C a e1).all fun os e2 =>
      if kindD (ox.view e2) = kindD (ox.view e1) then ifS (opSem o (ox.view e2 :: os.map (O.view e2))) fun d => .ok [resO o d] e2 else .stuck else .stuck
  | .pop i a, env => ifL (env.at i) fun _ => (evE C a env).one fun oa e1 => ifI (oa.view e1) fun j => ifL (e1.at i) fun ds => ifS (atN ds.length j) fun k => ifS ds[k]? fun d =>
      if (leN (-j) 1152921504606846976 && leN j 1152921504606846976) = true then .ok [.fz d] (e1.set i (.ow (ds.eraseIdx k))) else .stuck
  | .cut2 x a b, env => (evE C x env).one fun ox e1 => (evE C a e1).one fun oa e2 => ifI (oa.view e2) fun i => (evE C b e2).one fun ob e3 => ifI (ob.view e3) fun j =>
      ifS (cutD (ox.view e3) (some i) (some j)) fun d => .ok [resO .len d] e3
  | .comp own t k src tst elt, env => (evE C src env).all fun os e1 => ifS (itSem k (os.map (O.view e1))) fun items =>
      compEnd (freezeL (freezeO e1 os) own) own (compLoop own t (evE C tst) (evE C elt) items (wipeE (freezeL (freezeO e1 os) own) own) [])
  | .comp2 own vs t k src tst t1 k1 src1 tst1 elt, env => (evE C src env).all fun os e1 => ifS (itSem k (os.map (O.view e1))) fun items =>
      compEnd (freezeL (freezeO e1 os) own) own (compLoop2 own t (evE C tst) (fun env acc => (evE C src1 env).all fun os1 e1 => ifS (itSem k1 (os1.map (O.view e1))) fun items1 =>
        compLoop vs t1 (evE C tst1) (evE C elt) items1 (wipeE (freezeO e1 os1) vs) acc.reverse) items (wipeE (freezeL (freezeO e1 os) own) own) [])

inductive Fl where
  | nx | rt (d : D) (fr : Bool) | bk | ct
def turnF (next : Env → R Fl) : R Fl → R Fl
  | .ok .nx e2 => next e2
  | .ok .ct e2 => next e2
  | .ok .bk e2 => .ok .nx e2
  | .ok (.rt d fr) e2 => .ok (.rt d fr) e2
  | .exc k a e => .exc k a e
  | .stuck => .stuck
def forLoop (t : T) (body : Env → R Fl) : List D → Env → R Fl
  | [], env => .ok .nx env
  | d :: r, env => ifS (bind1 t d env) fun e1 => turnF (forLoop t body r) (body e1)
def whileLoop (c : Env → R (List O)) (body : Env → R Fl) : Nat → Env → R Fl
  | 0, _ => .stuck
  | n + 1, env => (c env).tst fun b e1 => if b = true then turnF (whileLoop c body n) (body e1) else .ok .nx e1
def parStore : List Nat → List O → Env → Env
  | i :: is, o :: os, env => store (parStore is os env) i o
  | _, _, env => env
def thenF (next : Env → R Fl) : R Fl → R Fl
  | .ok .nx e2 => next e2
  | r => r
def setAt (ds : List D) (x : D) (j : Int) : Option (List D) := (atN ds.length j).map fun n => ds.set n x
def evS (C : EC) : S → Env → R Fl
  | .nop, env => .ok .nx env
  | .nev, _ => .stuck
  | .seq a b, env => thenF (evS C b) (evS C a env)
  | .expr e, env => (evE C e env).one fun _ e1 => .ok .nx e1
  | .asg i e, env => (evE C e env).one fun o e1 => .ok .nx (store e1 i o)
  | .par is e, env => (evE C e env).all fun os e1 => if os.length = is.length then .ok .nx (parStore is (os.map (O.still e1)) (freezeO e1 os)) else .stuck
  | .unp t e, env => (evE C e env).one fun o e1 => ifS (bind1 t (o.view e1) (freezeO e1 [o])) fun e2 => .ok .nx e2
  | .append i e, env => ifL (env.at i) fun _ => (evE C e env).one fun o e1 => ifL ((freezeO e1 [o]).at i) fun ds =>
      if ds.length < cap then .ok .nx ((freezeO e1 [o]).set i (.ow (ds ++ [o.view e1]))) else .stuck
  | .extend i e, env => ifL (env.at i) fun _ => (evE C e env).one fun o e1 => if o.isSl i = true then .stuck else ifL ((freezeO e1 [o]).at i) fun ds =>
      match o.view e1 with
      | .lst xs => if ds.length + xs.length ≤ cap then .ok .nx ((freezeO e1 [o]).set i (.ow (ds ++ xs))) else .stuck
      | _ => .stuck
  | .seti i k e, env => (evE C e env).one fun o e1 => ifL ((freezeO e1 [o]).at i) fun _ => (evE C k (freezeO e1 [o])).one fun ok e2 => ifL (e2.at i) fun ds => ifI (ok.view e2) fun j =>
      ifS (setAt ds (o.view e1) j) fun ds' => .ok .nx (e2.set i (.ow ds'))
  | .ret e, env => (evE C e env).one fun o e1 => match o with
      | .fz d => .ok (.rt d false) e1
      | .fr d => .ok (.rt d true) e1
      | .sl j => .ok (.rt (e1.at j).d (e1.at j).own) (if (e1.at j).own = true then e1.set j .no else e1)
  | .ite c a b, env => (evE C c env).tst fun c e1 => if c = true then evS C a e1 else evS C b e1
  | .for t k src body, env => (evE C src env).all fun os e1 => ifS (itSem k (os.map (O.view e1))) fun items => forLoop t (evS C body) items (freezeO e1 os)
  | .while c body, env => whileLoop (evE C c) (evS C body) C.wf env
  | .brk, env => .ok .bk env
  | .cnt, env => .ok .ct env

structure Fn where
  ar : Nat
  sl : Nat
  io : Bool
  body : S
  deriving Inhabited
def startE (F : Fn) (ds : List D) : Env :=
  (match F.io, ds with
    | true, .lst xs :: r => .ow xs :: r.map Sl.fz
    | _, _ => ds.map Sl.fz) ++ List.replicate (F.sl - F.ar) .no
def endIo (io : Bool) (s : Sl) : Option (List D) := match io, s with
  | true, .ow ds => some ds
  | true, _ => none
  | false, _ => some []
def endFl : Fl → Option (List D) → CR
  | .rt d fr, some io => .ok d fr io
  | .nx, some io => .ok .non false io
  | _, _ => .stuck
def endEx (k : Nat) (a : List D) : Option (List D) → CR
  | some io => .exc k a io
  | none => .stuck
def endS (F : Fn) : R Fl → CR
  | .ok fl env => endFl fl (endIo F.io (env.at 0))
  | .exc k a env => endEx k a (endIo F.io (env.at 0))
  | .stuck => .stuck
inductive FnD where
  | ir (F : Fn)
  | nat (io : Bool) (g : List D → CR)
abbrev Tab := Nat → Option FnD
def Tab.io (T : Tab) (f : Nat) : Bool := match T f with
  | some (.ir F) => F.io
  | some (.nat io _) => io
  | none => false
def evFn (T : Tab) (wf : Nat) : Nat → Nat → List D → CR
  | 0, _, _ => .stuck
  | n + 1, f, ds => match T f with
    | some (.ir F) => if ds.length = F.ar then endS F (evS ⟨evFn T wf n, T.io, wf⟩ F.body (startE F ds)) else .stuck
    | some (.nat _ g) => g ds
    | none => .stuck
end Ev
end
section
set_option linter.all false
set_option maxRecDepth 100000
namespace Ev
open PySem PySem.Spec PyProof.Rows L2
def relD : D → Value → Bool
  | .int i, .int j _ => decide (i = j)
  | .str x, .str y _ => decide (x = y)
  | .bl a, .bool b => decide (a = b)
  | _, _ => false
def relDs : List D → List Value → Bool
  | [], [] => true
  | d :: ds, v :: vs => relD d v && relDs ds vs
  | _, _ => false
def tupK (K : PySem.W.Frag) (p : Str × List D) : Bool := match K.lookup (He.ga K p.1) with
  | some ⟨.type c, none, .seq its _, _⟩ => decide (c = "tuple") && (decide (its.size ≤ sizeLine) && relDs p.2 its.toList)
  | _ => false
def obsE (n : Nat) (fa : List He.Fa) (fn : List He.DefD) (tc : List (Str × List D)) (g : Addr → Option Obj) : He.AlD × Bool := (He.obsDG n fa fn g, tc.all (tupK (He.frG g (He.asD g n))))
def hookE (n : Nat) (fa : List He.Fa) (fn : List He.DefD) (tc : List (Str × List D)) : PySem.W.Hook where
  α := He.AlD × Bool
  obs := fun s => obsE n fa fn tc s.heap.get?
  val := fun _ => (He.valD fn, true)
  says := fun _ h => ∃ K : PySem.W.Frag, K.In h ∧ He.SaysD fa fn K ∧ tc.all (tupK K) = true
  of := fun _ _ e => ⟨_, He.frG_in, congrArg (fun z : He.AlD × Bool => z.1) e, congrArg (fun z : He.AlD × Bool => z.2) e⟩
  keeps := fun _ _ _ ⟨K, hK, c⟩ k => ⟨K, PySem.W.Frag.In.keeps hK k, c⟩
theorem obsE_eq {n : Nat} {fa : List He.Fa} {fn : List He.DefD} {tc : List (Str × List D)} {g : Addr → Option Obj} {s : Shared} (h : ∀ a, g a = s.heap.get? a) : obsE n fa fn tc g = (hookE n fa fn tc).obs s := by
  have e : g = s.heap.get? := funext h
  rw [e] <;> rfl
end Ev
end
section
set_option Elab.async false
set_option linter.all false
set_option maxRecDepth 100000
set_option maxHeartbeats 0
namespace Hd
open PySem PySem.Spec PyProof.Rows L2 Ev
def top (i : Nat) : Stmt := PySem.Challenge.pw_ascentrows_k31_main_stretches_of_orders.main.body.getD i (.Pass ⟨0, 0, 0, 0⟩)
def fn : List He.DefD := ([⟨((Str.ofString "is_number"), none), (Str.ofString "is_number"), (Str.ofString "is_number"), defArgs (top 5), defBody (top 5), defScope (top 5), [], []⟩, ⟨((Str.ofString "is_within"), none), (Str.ofString "is_within"), (Str.ofString "is_within"), defArgs (top 6), defBody (top 6), defScope (top 6), [], []⟩, ⟨((Str.ofString "is_long"), none), (Str.ofString "is_long"), (Str.ofString "is_long"), defArgs (top 7), defBody (top 7), defScope (top 7), [], []⟩, ⟨((Str.ofString "are_within"), none), (Str.ofString "are_within"), (Str.ofString "are_within"), defArgs (top 8), defBody (top 8), defScope (top 8), [], []⟩, ⟨((Str.ofString "ascends"), none), (Str.ofString "ascends"), (Str.ofString "ascends"), defArgs (top 9), defBody (top 9), defScope (top 9), [], []⟩, ⟨((Str.ofString "tupled"), none), (Str.ofString "tupled"), (Str.ofString "tupled"), defArgs (top 10), defBody (top 10), defScope (top 10), [], []⟩, ⟨((Str.ofString "are_pairs"), none), (Str.ofString "are_pairs"), (Str.ofString "are_pairs"), defArgs (top 15), defBody (top 15), defScope (top 15), [], []⟩, ⟨((Str.ofString "is_order_in"), none), (Str.ofString "is_order_in"), (Str.ofString "is_order_in"), defArgs (top 16), defBody (top 16), defScope (top 16), [], []⟩, ⟨((Str.ofString "above_in"), none), (Str.ofString "above_in"), (Str.ofString "above_in"), defArgs (top 17), defBody (top 17), defScope (top 17), [], []⟩, ⟨((Str.ofString "under_in"), none), (Str.ofString "under_in"), (Str.ofString "under_in"), defArgs (top 18), defBody (top 18), defScope (top 18), [], []⟩, ⟨((Str.ofString "sure_order"), none), (Str.ofString "sure_order"), (Str.ofString "sure_order"), defArgs (top 19), defBody (top 19), defScope (top 19), [], []⟩, ⟨((Str.ofString "apart_in"), none), (Str.ofString "apart_in"), (Str.ofString "apart_in"), defArgs (top 20), defBody (top 20), defScope (top 20), [], []⟩, ⟨((Str.ofString "ranked"), none), (Str.ofString "ranked"), (Str.ofString "ranked"), defArgs (top 21), defBody (top 21), defScope (top 21), [], []⟩, ⟨((Str.ofString "stretches_in"), none), (Str.ofString "stretches_in"), (Str.ofString "stretches_in"), defArgs (top 22), defBody (top 22), defScope (top 22), [], []⟩, ⟨((Str.ofString "are_stretches_in"), none), (Str.ofString "are_stretches_in"), (Str.ofString "are_stretches_in"), defArgs (top 23), defBody (top 23), defScope (top 23), [], []⟩, ⟨((Str.ofString "sure_stretches"), none), (Str.ofString "sure_stretches"), (Str.ofString "sure_stretches"), defArgs (top 24), defBody (top 24), defScope (top 24), [], []⟩, ⟨((Str.ofString "order_in"), none), (Str.ofString "order_in"), (Str.ofString "order_in"), defArgs (top 25), defBody (top 25), defScope (top 25), [], []⟩, ⟨((Str.ofString "is_tight_in"), none), (Str.ofString "is_tight_in"), (Str.ofString "is_tight_in"), defArgs (top 26), defBody (top 26), defScope (top 26), [], []⟩, ⟨((Str.ofString "sure_fitting"), none), (Str.ofString "sure_fitting"), (Str.ofString "sure_fitting"), defArgs (top 27), defBody (top 27), defScope (top 27), [], []⟩, ⟨((Str.ofString "fits"), none), (Str.ofString "fits"), (Str.ofString "fits"), defArgs (top 28), defBody (top 28), defScope (top 28), [], []⟩] : List (He.DefD)) ++ ([⟨((Str.ofString "stretches_of"), none), (Str.ofString "stretches_of"), (Str.ofString "stretches_of"), defArgs (top 29), defBody (top 29), defScope (top 29), [], []⟩, ⟨((Str.ofString "order_of"), none), (Str.ofString "order_of"), (Str.ofString "order_of"), defArgs (top 30), defBody (top 30), defScope (top 30), [], []⟩, ⟨((Str.ofString "are_tight"), none), (Str.ofString "are_tight"), (Str.ofString "are_tight"), defArgs (top 31), defBody (top 31), defScope (top 31), [], []⟩, ⟨((Str.ofString "tightened"), none), (Str.ofString "tightened"), (Str.ofString "tightened"), defArgs (top 32), defBody (top 32), defScope (top 32), [], []⟩, ⟨((Str.ofString "_law_box"), none), (Str.ofString "_law_box"), (Str.ofString "_law_box"), defArgs (top 34), defBody (top 34), defScope (top 34), [], []⟩, ⟨((Str.ofString "_law_take"), none), (Str.ofString "_law_take"), (Str.ofString "_law_take"), defArgs (top 35), defBody (top 35), defScope (top 35), [], []⟩, ⟨((Str.ofString "_law_cells"), none), (Str.ofString "_law_cells"), (Str.ofString "_law_cells"), defArgs (top 36), defBody (top 36), defScope (top 36), [], []⟩, ⟨((Str.ofString "_law_of"), none), (Str.ofString "_law_of"), (Str.ofString "_law_of"), defArgs (top 37), defBody (top 37), defScope (top 37), [], []⟩, ⟨((Str.ofString "_law_same"), none), (Str.ofString "_law_same"), (Str.ofString "_law_same"), defArgs (top 38), defBody (top 38), defScope (top 38), [], []⟩, ⟨((Str.ofString "_law_flat"), none), (Str.ofString "_law_flat"), (Str.ofString "_law_flat"), defArgs (top 39), defBody (top 39), defScope (top 39), [], []⟩, ⟨((Str.ofString "_law_below"), none), (Str.ofString "_law_below"), (Str.ofString "_law_below"), defArgs (top 40), defBody (top 40), defScope (top 40), [], []⟩, ⟨((Str.ofString "_law_lots"), none), (Str.ofString "_law_lots"), (Str.ofString "_law_lots"), defArgs (top 41), defBody (top 41), defScope (top 41), [], []⟩, ⟨((Str.ofString "_law_places"), none), (Str.ofString "_law_places"), (Str.ofString "_law_places"), defArgs (top 42), defBody (top 42), defScope (top 42), [], []⟩, ⟨((Str.ofString "_law_lap_one"), none), (Str.ofString "_law_lap_one"), (Str.ofString "_law_lap_one"), defArgs (top 43), defBody (top 43), defScope (top 43), [], []⟩, ⟨((Str.ofString "law"), none), (Str.ofString "law"), (Str.ofString "law"), defArgs (top 44), defBody (top 44), defScope (top 44), [], []⟩] : List (He.DefD))
def fa : List He.Fa := ([.glo (Str.ofString "is_number"), .glo (Str.ofString "is_within"), .glo (Str.ofString "is_long"), .glo (Str.ofString "are_within"), .glo (Str.ofString "ascends"), .glo (Str.ofString "tupled"), .glo (Str.ofString "are_pairs"), .glo (Str.ofString "is_order_in"), .glo (Str.ofString "above_in"), .glo (Str.ofString "under_in"), .glo (Str.ofString "sure_order"), .glo (Str.ofString "apart_in"), .glo (Str.ofString "ranked"), .glo (Str.ofString "stretches_in"), .glo (Str.ofString "are_stretches_in"), .glo (Str.ofString "sure_stretches"), .glo (Str.ofString "order_in"), .glo (Str.ofString "is_tight_in"), .glo (Str.ofString "sure_fitting"), .glo (Str.ofString "fits")] : List (He.Fa)) ++ ([.glo (Str.ofString "stretches_of"), .glo (Str.ofString "order_of"), .glo (Str.ofString "are_tight"), .glo (Str.ofString "tightened"), .glo (Str.ofString "_law_box"), .glo (Str.ofString "_law_take"), .glo (Str.ofString "_law_cells"), .glo (Str.ofString "_law_of"), .glo (Str.ofString "_law_same"), .glo (Str.ofString "_law_flat"), .glo (Str.ofString "_law_below"), .glo (Str.ofString "_law_lots"), .glo (Str.ofString "_law_places"), .glo (Str.ofString "_law_lap_one"), .glo (Str.ofString "law"), .free (Str.ofString "len"), .free (Str.ofString "abs"), .free (Str.ofString "int"), .free (Str.ofString "str"), .free (Str.ofString "sum")] : List (He.Fa)) ++ ([.free (Str.ofString "max"), .free (Str.ofString "min"), .free (Str.ofString "sorted"), .free (Str.ofString "list"), .free (Str.ofString "tuple"), .free (Str.ofString "all"), .free (Str.ofString "any"), .free (Str.ofString "range"), .free (Str.ofString "enumerate"), .free (Str.ofString "zip"), .free (Str.ofString "set"), .free (Str.ofString "isinstance"), .free (Str.ofString "bool"), .int (Str.ofString "MOST_THINGS") 20, .int (Str.ofString "MOST_STRETCHES") 60, .int (Str.ofString "MOST_LINE") 60] : List (He.Fa))
def tc : List (Str × List D) := []
def names : List PySem.Str := ([(Str.ofString "CanNot"), (Str.ofString "TooMany"), (Str.ofString "Unfit"), (Str.ofString "is_number"), (Str.ofString "is_within"), (Str.ofString "is_long"), (Str.ofString "are_within"), (Str.ofString "ascends"), (Str.ofString "tupled"), (Str.ofString "MOST_THINGS"), (Str.ofString "MOST_STRETCHES"), (Str.ofString "MOST_LINE"), (Str.ofString "are_pairs"), (Str.ofString "is_order_in"), (Str.ofString "above_in"), (Str.ofString "under_in"), (Str.ofString "sure_order"), (Str.ofString "apart_in"), (Str.ofString "ranked"), (Str.ofString "stretches_in")] : List (PySem.Str)) ++ ([(Str.ofString "are_stretches_in"), (Str.ofString "sure_stretches"), (Str.ofString "order_in"), (Str.ofString "is_tight_in"), (Str.ofString "sure_fitting"), (Str.ofString "fits"), (Str.ofString "stretches_of"), (Str.ofString "order_of"), (Str.ofString "are_tight"), (Str.ofString "tightened"), (Str.ofString "_law_box"), (Str.ofString "_law_take"), (Str.ofString "_law_cells"), (Str.ofString "_law_of"), (Str.ofString "_law_same"), (Str.ofString "_law_flat"), (Str.ofString "_law_below"), (Str.ofString "_law_lots"), (Str.ofString "_law_places"), (Str.ofString "_law_lap_one")] : List (PySem.Str))
abbrev R : PySem.W.OpenRow := PySem.W.OpenLaw.row PySem.Challenge.rw_ascentrows_k31_main_stretches_of_orders
abbrev hk : PySem.W.Hook := hookE 4 fa fn tc
def ob (s : PySem.W.SharedT) : He.AlD × Bool := obsE 4 fa fn tc (HandSHeadRun.getT s)
theorem ob_eq (s : PySem.W.SharedT) : ob s = hk.obs s.abs := obsE_eq (HandSHeadRun.getT_eq s)
theorem run (w : World) : HandSHeadRun.RunEq R (PySem.W.view R.prog [44]) hk ob 4000 names w := by
  intro os
  kernel_rfl
end Hd
end
section
set_option linter.all false
namespace Ev
open PySem (Str Scope NameKind Const Comprehension Keyword Stmt)
abbrev Ex := PySem.Expr

inductive GV where
  | fn (k : Nat) | cst (d : D) | bi (b : Nat) | exc (k : Nat)
  deriving Inhabited
def biNames : List String := ["len", "abs", "int", "str", "sum", "max", "min", "sorted", "list", "tuple", "all", "any", "range", "enumerate", "zip", "set", "isinstance", "bool"]

structure CC where
  N : List Str
  sc : Scope
  gl : List (Str × GV)
  ioF : Nat → Bool
  io : Bool
  fnc : Str → Bool

def idxS (x : Str) : List Str → Nat → Option Nat
  | [], _ => none
  | y :: r, n => if x == y then some n else idxS x r (n + 1)
def plainN (x : Str) : Bool := !(x == ("__debug__" : Str)) && !(x == ("__classdict__" : Str)) && !(x == ("__name__" : Str))
def CC.slot (cc : CC) (x : Str) : Option Nat := if plainN x = true then (match cc.sc.names.lookup x with
  | some .local => idxS x cc.N 0
  | some .cell => idxS x cc.N 0
  | some .free => idxS x cc.N 0
  | _ => none) else none
def CC.dest (cc : CC) (x : Str) : Option Nat := match cc.sc.names.lookup x with
  | some .local => (idxS x cc.N 0).bind fun i => if cc.io && i == 0 then none else some i
  | some .cell => if cc.fnc x = true then (idxS x cc.N 0).bind fun i => if cc.io && i == 0 then none else some i else none
  | _ => none
def CC.glob (cc : CC) (x : Str) : Option GV := if plainN x = true then (match cc.sc.names.lookup x with
  | some .globalImplicit => cc.gl.lookup x
  | _ => none) else none
def relScope (scope sc : Scope) : Scope :=
  { scope with names := scope.names.map fun (n, k) => if (k == .free && sc.kind == .function && sc.names.lookup n == some .cell) then (n, .cell) else (n, k) }
def CC.blk (cc : CC) (scope : Scope) : CC := { cc with sc := relScope scope cc.sc, fnc := fun x => scope.names.lookup x == some .cell }
def ownOf (N : List Str) (scope : Scope) : List (Str × Nat) := scope.names.filterMap fun (n, k) => match k with
  | .local => (idxS n N 0).map fun i => (n, i)
  | .cell => (idxS n N 0).map fun i => (n, i)
  | _ => none
def blkOkB (cc : CC) (scope : Scope) : Bool :=
  scope.kind == .function && scope.names.all (fun (n, k) => scope.names.lookup n == some k && (match k with
    | .free => cc.sc.names.lookup n == some .cell || cc.sc.names.lookup n == some .free
    | _ => true)) && !(cc.io && ((ownOf cc.N scope).any fun p => p.2 == 0))
def binO : PySem.Operator → Option Op
  | .Add => some .add | .Sub => some .sub | .Mult => some .mul | .FloorDiv => some .fdiv | .Mod => some .mod | .Pow => some .pow
  | _ => none
def cmpO : PySem.CmpOp → Option Op
  | .Eq => some .eq | .NotEq => some .ne | .Lt => some .lt | .LtE => some .le | .Gt => some .gt | .GtE => some .ge | .In => some .inn | .NotIn => some .nin
  | _ => none
def constD : Const → Option D
  | .none => some .non
  | .bool b => some (.bl b)
  | .int i => some (.int i)
  | .str x => some (.str x)
  | _ => none
def cNames (g : Str → Option Nat) : List Ex → Option (List Nat)
  | [] => some []
  | .Name x _ :: r => match g x, cNames g r with
    | some i, some l => some (i :: l)
    | _, _ => none
  | _ => none
def cTarget (cc : CC) : Ex → Option T
  | .Name x _ => (cc.dest x).map T.nm
  | .Tuple es _ _ => (cNames cc.dest es).map T.tu
  | _ => none
def tyNo (x : Str) : Option Nat := if x == "int" then some 0 else if x == "bool" then some 1 else if x == "str" then some 2 else if x == "list" then some 3 else if x == "tuple" then some 4 else none
def tyOf (cc : CC) (x : Str) : Option Nat := match cc.glob x with
  | some (.bi _) => tyNo x
  | _ => none
def cTypes (cc : CC) : Ex → Option (List Nat)
  | .Name x _ => (tyOf cc x).map fun n => [n]
  | .Tuple es _ _ => if es.length ≤ 10 then cNames (tyOf cc) es else none
  | _ => none
def biOp (b n : Nat) : Option Op := match b, n with
  | 0, 1 => some .len | 1, 1 => some .abs | 2, 1 => some .int1 | 4, 1 => some .sum
  | 5, 2 => some .max2 | 6, 2 => some .min2 | 7, 1 => some .sorted
  | 8, 1 => some .list | 9, 1 => some .tuple | 10, 1 => some .all | 11, 1 => some .any
  | 5, 1 => some .max1 | 6, 1 => some .min1
  | _, _ => none
def mtOp (m : Str) (n : Nat) : Option Op :=
  if (m == ("count" : Str)) = true ∧ n = 1 then some .count else if (m == ("index" : Str)) = true ∧ n = 1 then some .index else none
def isLst : Ex → Bool
  | .List _ _ => true
  | _ => false
def tstOk : Ex → Bool
  | .IfExp _ _ _ _ => false
  | .UnaryOp .Not a _ => tstOk a
  | .BoolOp _ es _ => tstAll es && !es.any isLst
  | _ => true
where tstAll : List Ex → Bool
  | [] => true
  | e :: es => tstOk e && tstAll es
def noSet : Ex → Bool
  | .Set _ _ _ => false
  | _ => true
def noSup : Ex → Bool
  | .Call (.Name _ _) [] [] _ => false
  | _ => true
def noStar : Ex → Bool
  | .Starred .. => false
  | _ => true
section
variable (F : CC → Ex → Option E) (cc : CC)
def cT (e : Ex) : Option E := if tstOk e = true then F cc e else none
def cEs : List Ex → Option E
  | [] => some .nil
  | .Starred _ _ :: _ => none
  | e :: es => match F cc e, cEs es with
    | some x, some a => some (.cons x a)
    | _, _ => none
def bMk (o : PySem.BoolOp) (l : Bool) (x a : E) : E := match o with
  | .And => .and x a
  | .Or => if l = true then .orL x a else .or x a
def cBool (o : PySem.BoolOp) : List Ex → Option E
  | [] => none
  | [e] => F cc e
  | e :: e2 :: es => match F cc e, cBool o (e2 :: es) with
    | some x, some a => some (bMk o ((e2 :: es).any isLst) x a)
    | _, _ => none
def cOpt : Option Ex → Option E
  | none => some (.cst .non)
  | some e => F cc e
def cIfs : List Ex → Option E
  | [] => some (.cst (.bl true))
  | [e] => cT F cc e
  | _ => none
def cUn (o : Op) (a : Ex) : Option E := (F cc a).map fun x => .op o (.cons x .nil)
def cBin (o : Op) (a b : Ex) : Option E := match F cc a, F cc b with
  | some x, some y => some (.op o (.cons x (.cons y .nil)))
  | _, _ => none
def isRange : Ex → Option (List Ex)
  | .Call (.Name s _) xs [] _ => match cc.glob s with
    | some (.bi 12) => some xs
    | _ => none
  | _ => none
def cBi0 (b : Nat) (a : Ex) : Option E := match b, isRange cc a with
  | 8, some [x] => cUn F cc .lrg1 x
  | 8, some [x, y] => cBin F cc .lrg2 x y
  | 8, some _ => none
  | 9, some _ => none
  | _, _ => match biOp b 1 with
    | some o => cUn F cc o a
    | none => none
def isSetC : Ex → Option Ex
  | .Call (.Name s _) [x] [] _ => match cc.glob s with
    | some (.bi 15) => some x
    | _ => none
  | _ => none
def cBi1 (b : Nat) (a : Ex) : Option E := match isSetC cc a with
  | some x => if b = 7 then cUn F cc .sset x else if b = 0 then cUn F cc .nset x else none
  | none => cBi0 F cc b a
def cCallB (b : Nat) : List Ex → Option E
  | [a] => cBi1 F cc b a
  | [a, t] => if b = 16 then (match F cc a, cTypes cc t with
      | some x, some ts => some (.op (.isi ts) (.cons x .nil))
      | _, _ => none) else match biOp b 2 with
    | some o => cBin F cc o a t
    | none => none
  | _ => none
def cIo (k : Nat) : List Ex → Option E
  | .Name x _ :: rest => match cc.slot x, cEs F cc rest with
    | some i, some a => some (.io k i a)
    | _, _ => none
  | _ => none
def cCallN (f : Str) (args : List Ex) : Option E := match cc.glob f with
    | some (.fn k) => if cc.ioF k = true then cIo F cc k args else (cEs F cc args).map fun a => .call k a
    | some (.bi b) => cCallB F cc b args
    | _ => none
def cPop (o : Ex) (args : List Ex) : Option E := match o, args with
  | .Name x _, [a] => match cc.slot x, F cc a with
    | some i, some y => if noStar a = true then some (.pop i y) else none
    | _, _ => none
  | _, _ => none
def cMeth (o : Ex) (m : Str) (args : List Ex) (ok : Bool) : Option E := if (m == ("pop" : Str)) = true then (if ok = true then cPop F cc o args else none) else if ok = true ∧ noSup o = true ∧ args.length < 20 then (
  match mtOp m args.length, F cc o, cEs F cc args with
  | some op, some x, some a => some (.meth op x a)
  | _, _, _ => none) else none
def cStar (x : Ex) : Option (IK × E) := match x with
  | .Starred y _ => (F cc y).map fun a => (.zipS, .cons a .nil)
  | _ => none
def cIb (b : Nat) (args : List Ex) : Option (IK × E) := match args with
  | [x] => if b = 12 then (cEs F cc [x]).map fun a => (.rg1, a) else if b = 13 then (cEs F cc [x]).map fun a => (.enum, a) else if b = 14 then cStar F cc x else none
  | [x, y] => if b = 12 then (cEs F cc [x, y]).map fun a => (.rg2, a) else if b = 14 then (cEs F cc [x, y]).map fun a => (.zip2, a) else none
  | _ => none
def isIb (b : Nat) : Bool := b == 12 || b == 13 || b == 14
def cIName (f : Str) (args : List Ex) (e : Ex) : Option (IK × E) := match cc.glob f with
  | some (.bi b) => if isIb b = true then cIb F cc b args else (F cc e).map fun x => (.seq, .cons x .nil)
  | _ => (F cc e).map fun x => (.seq, .cons x .nil)
def cI (e : Ex) : Option (IK × E) := match e with
  | .Call (.Name f _) args [] _ => cIName F cc f args e
  | _ => (F cc e).map fun x => (.seq, .cons x .nil)
def tIn (t : T) (own : List Nat) : Bool := match t with
  | .nm i => own.contains i
  | .tu is => is.all own.contains
def tSlots : T → List Nat
  | .nm i => [i]
  | .tu is => is
def cComp1 (scope : Scope) (elt tg it : Ex) (ifs : List Ex) : Option E :=
  match blkOkB cc scope, cI F cc it, cTarget (cc.blk scope) tg, cIfs F (cc.blk scope) ifs, F (cc.blk scope) elt with
  | true, some (k, src), some t, some tst, some e => if tIn t ((ownOf cc.N scope).map (·.2)) = true ∧ pairOk k t = true then some (.comp ((ownOf cc.N scope).map (·.2)) t k src tst e) else none
  | _, _, _, _, _ => none
def cComp2 (scope : Scope) (elt tg it : Ex) (ifs : List Ex) (tg1 it1 : Ex) (ifs1 : List Ex) : Option E :=
  match blkOkB cc scope, cI F cc it, cTarget (cc.blk scope) tg, cIfs F (cc.blk scope) ifs, cI F (cc.blk scope) it1 with
  | true, some (k, src), some t, some tst, some (k1, src1) => match cTarget (cc.blk scope) tg1, cIfs F (cc.blk scope) ifs1, F (cc.blk scope) elt with
    | some t1, some tst1, some e => if tIn t ((ownOf cc.N scope).map (·.2)) = true ∧ tIn t1 ((ownOf cc.N scope).map (·.2)) = true ∧ pairOk k t = true ∧ pairOk k1 t1 = true then some (.comp2 ((ownOf cc.N scope).map (·.2)) (tSlots t1) t k src tst t1 k1 src1 tst1 e) else none
    | _, _, _ => none
  | _, _, _, _, _ => none
def cComp (scope : Scope) (elt : Ex) : List Comprehension → Option E
  | [⟨tg, it, ifs, 0⟩] => cComp1 F cc scope elt tg it ifs
  | [⟨tg, it, ifs, 0⟩, ⟨tg1, it1, ifs1, 0⟩] => cComp2 F cc scope elt tg it ifs tg1 it1 ifs1
  | _ => none
def isNone : Ex → Bool
  | .Constant .none _ _ => true
  | _ => false
def cCmp1 (a : Ex) (o : PySem.CmpOp) (b : Ex) : Option E := match o with
  | .Is => if isNone b then cUn F cc .isn a else none
  | .IsNot => if isNone b then cUn F cc .isnn a else none
  | _ => match cmpO o with
    | some o => if noSet b = true then cBin F cc o a b else none
    | none => none
def cmpL : PySem.CmpOp → Option Op
  | .Lt => some .lt | .LtE => some .le | .Gt => some .gt | .GtE => some .ge
  | _ => none
def cCmp2 (a : Ex) (o1 o2 : PySem.CmpOp) (b c : Ex) : Option E := match cmpL o1, cmpL o2, F cc a, F cc b, F cc c with
  | some o1, some o2, some x, some y, some z => some (.chain o1 o2 x y z)
  | _, _, _, _, _ => none
def cCmp (a : Ex) : List PySem.CmpOp → List Ex → Option E
  | [o], [b] => cCmp1 F cc a o b
  | [o1, o2], [b, c] => cCmp2 F cc a o1 o2 b c
  | _, _ => none
def isM1 : Ex → Bool
  | .UnaryOp .USub (.Constant (.int 1) _ _) _ => true
  | _ => false
def cSlice (v : Ex) (lo hi st : Option Ex) : Option E := match st with
  | none => match lo, hi with
    | some l, some h => match F cc v, F cc l, F cc h with
      | some x, some a, some b => some (.cut2 x a b)
      | _, _, _ => none
    | some l, none => cBin F cc (.cut true false) v l
    | none, some h => cBin F cc (.cut false true) v h
    | none, none => cUn F cc (.cut false false) v
  | some s => if isM1 s && lo.isNone && hi.isNone then cUn F cc .rev v else none
def cSub (v i : Ex) : Option E := match i with
  | .Slice lo hi st _ => cSlice F cc v lo hi st
  | _ => cBin F cc .ix v i
def cName (x : Str) : Option E := match cc.slot x with
  | some i => some (.var i)
  | none => match cc.glob x with
    | some (.cst d) => some (.cst d)
    | some (.fn k) => some (.cst (.fn k))
    | _ => none
def cE1 : Ex → Option E
  | .Name x _ => cName cc x
  | .Constant c _ _ => (constD c).map E.cst
  | .BinOp a o b _ => match binO o with
    | some o => cBin F cc o a b
    | none => none
  | .UnaryOp o a _ => match o with
    | .USub => cUn F cc .neg a
    | .Not => (F cc a).map E.not
    | _ => none
  | .BoolOp o es _ => cBool F cc o es
  | .IfExp c a b _ => match cT F cc c, F cc a, F cc b with
    | some x, some y, some z => some (.ite x y z)
    | _, _, _ => none
  | .Compare a os bs _ => cCmp F cc a os bs
  | .Tuple es _ _ => (cEs F cc es).map E.tup
  | .List es _ => (cEs F cc es).map E.lst
  | .Subscript v i _ => cSub F cc v i
  | .Call (.Name f _) args [] _ => cCallN F cc f args
  | .Call (.Attribute o m ap) args [] cp => cMeth F cc o m args (ap.endLine == cp.line)
  | .ListComp elt gens scope _ => cComp F cc scope elt gens
  | _ => none
end
def cE : Nat → CC → Ex → Option E
  | 0, _, _ => none
  | n + 1, cc, e => cE1 (cE n) cc e

section
variable (F : CC → Ex → Option E) (G : CC → Stmt → S) (cc : CC)
def cSs : List Stmt → S
  | [] => .nop
  | [s] => G cc s
  | s :: r => .seq (G cc s) (cSs r)
def cExprS (e : Ex) : Option S := match e with
  | .Call (.Attribute (.Name x _) m ap) [a] [] cp => match cc.slot x with
    | some i => if (ap.endLine == cp.line) = true then (if (m == ("append" : Str)) = true then (F cc a).map (S.append i) else if (m == ("extend" : Str)) = true then (F cc a).map (S.extend i) else none) else none
    | none => none
  | .Constant (.str _) _ _ => some .nop
  | .Call _ _ _ _ => (F cc e).map S.expr
  | _ => none
def nodupN : List Nat → Bool
  | [] => true
  | x :: r => !(r.any fun y => x == y) && nodupN r
def parNames (sc : Scope) (l : Nat) : List Ex → Option (List Str)
  | [] => some []
  | .Name x p :: r => if sc.names.lookup x == some .local && p.line == l then (parNames sc l r).map fun y => x :: y else none
  | _ => none
def lineOf (ts : List Ex) : Nat := (ts.head?.map fun (e : Ex) => e.pos.line).getD 0
def parHow (sc : Scope) (ts vs : List Ex) : Nat :=
  if !(ts.length == 2 || ts.length == 3) || vs.length != ts.length then 0 else match parNames sc (lineOf ts) ts with
  | none => 0
  | some ns => if ns.eraseDups.length != ns.length then 0 else if vs.all (PySem.foldedForSure 8) then 0 else if vs.all (PySem.constantsAlone 8) then 2 else 1
def noSlc : Ex → Bool
  | .Slice _ _ _ _ => false
  | _ => true
def swOk : Ex → Bool
  | .SetComp .. => false
  | .DictComp .. => false
  | _ => true
def cTup (es : List Ex) (is : List Nat) (v : Ex) : Option S := match v with
  | .Tuple vs _ _ => if (vs.all noStar) = true then (match parHow cc.sc es vs with
    | 0 => (F cc v).map (S.unp (.tu is))
    | 1 => if nodupN is = true then (cEs F cc vs).map (S.par is) else none
    | _ => none) else none
  | _ => (F cc v).map (S.unp (.tu is))
def cAssign (tg v : Ex) : Option S := match tg with
  | .Name x _ => match cc.dest x, (if swOk v = true then F cc v else none) with
    | some i, some e => some (.asg i e)
    | _, _ => none
  | .Tuple es _ _ => match cNames cc.dest es with
    | some is => cTup F cc es is v
    | none => none
  | .Subscript (.Name x _) k _ => if noSlc k = true then (match cc.slot x, F cc k, F cc v with
    | some i, some k, some e => some (.seti i k e)
    | _, _, _ => none) else none
  | _ => none
def cS1 : Stmt → Option S
  | .Expr e _ => cExprS F cc e
  | .Assign [tg] v _ => cAssign F cc tg v
  | .Return (some e) _ => (F cc e).map S.ret
  | .Return none _ => some (.ret (.cst .non))
  | .If c a b _ => (cT F cc c).map fun x => .ite x (cSs G cc a) (cSs G cc b)
  | .For tg it body [] _ => match cTarget cc tg, cI F cc it with
    | some t, some (k, src) => if pairOk k t = true then some (.for t k src (cSs G cc body)) else none
    | _, _ => none
  | .While c body [] _ => (cT F cc c).map fun x => .while x (cSs G cc body)
  | .Break _ => some .brk
  | .Continue _ => some .cnt
  | .Pass _ => some .nop
  | _ => none
end
def cS (m : Nat) : Nat → CC → Stmt → S
  | 0, _, _ => .nev
  | n + 1, cc, s => (cS1 (cE m) (cS m n) cc s).getD .nev
end Ev
end
section
set_option linter.all false
set_option maxRecDepth 100000
namespace Ev
open PySem PySem.Spec PyProof.Rows L2

def SqD (K : PySem.W.Frag) (H : Hp) (a : Addr) (xs : List V) : Prop :=
  (∃ o, H a = some (.frz o (.tup xs)) ∧ o.dict = none) ∨
    ∃ (o : Obj) (its : Array Value) (n : Nat), K.lookup a = some o ∧ o.cls = .type "tuple" ∧ o.dict = none ∧ o.data = .seq its n ∧ its.size ≤ sizeLine ∧ Vals xs its.toList
theorem SqD.seqT {K : PySem.W.Frag} {H : Hp} {a : Addr} {xs : List V} (h : SqD K H a xs) : SqT K H a xs :=
  h.imp (fun ⟨o, e, _⟩ => .inr ⟨o, e⟩) fun ⟨o, its, n, h1, h2, _, h3⟩ => ⟨o, its, n, h1, h2, h3⟩
def exact : HO → Bool
  | .lst _ => true
  | .frz _ (.tup _) => true
  | _ => false
mutual
inductive Dg (fa : Nat → Addr) (K : PySem.W.Frag) (G : Hp) : V → D → Prop
  | non : Dg fa K G .non .non
  | bl (b : Bool) : Dg fa K G (.bl b) (.bl b)
  | int (i : Int) : Dg fa K G (.int i) (.int i)
  | str (x : Str) : Dg fa K G (.str x) (.str x)
  | tup {a : Addr} {vs : List V} {ds : List D} : SqD K G a vs → DgAll fa K G vs ds → Dg fa K G (.ref a) (.tup ds)
  | lst {a : Addr} {vs : List V} {ds : List D} : G a = some (.lst vs) → DgAll fa K G vs ds → Dg fa K G (.ref a) (.lst ds)
  | ro {a : Addr} {ns : List Int} : SqL K G a (ns.map V.int) → Dg fa K G (.ref a) (.ro ns)
  | fn (k : Nat) : Dg fa K G (.ref (fa k)) (.fn k)
  | dic {a : Addr} {ws : List (List Key × V)} {kvs : List (List Int × D)} : Rd G a (.dT ws) → DgKV fa K G ws kvs → Dg fa K G (.ref a) (.dic kvs)
inductive DgAll (fa : Nat → Addr) (K : PySem.W.Frag) (G : Hp) : List V → List D → Prop
  | nil : DgAll fa K G [] []
  | cons {v : V} {vs : List V} {d : D} {ds : List D} : Dg fa K G v d → DgAll fa K G vs ds → DgAll fa K G (v :: vs) (d :: ds)
inductive DgKV (fa : Nat → Addr) (K : PySem.W.Frag) (G : Hp) : List (List Key × V) → List (List Int × D) → Prop
  | nil : DgKV fa K G [] []
  | cons {k : List Int} {v : V} {vs : List (List Key × V)} {d : D} {ds : List (List Int × D)} : Dg fa K G v d → DgKV fa K G vs ds → DgKV fa K G ((k.map Sum.inl, v) :: vs) ((k, d) :: ds)
end

structure Sup (G H : Hp) : Prop where
  ex : ∀ a u, exact u = true → G a = some u → H a = some u
  rd : ∀ a u, Rd G a u → Rd H a u
theorem Sup.lst {G H : Hp} (s : Sup G H) (a : Addr) (xs : List V) (h : G a = some (.lst xs)) : H a = some (.lst xs) := s.ex a _ rfl h
theorem Sup.refl (G : Hp) : Sup G G := ⟨fun _ _ _ h => h, fun _ _ h => h⟩
theorem Sup.trans {G H J : Hp} (a : Sup G H) (b : Sup H J) : Sup G J := ⟨fun c u e h => b.ex c u e (a.ex c u e h), fun c u h => b.rd c u (a.rd c u h)⟩
theorem Sup.of {G H : Hp} (s : Same G H) : Sup G H := ⟨fun c u _ h => s c _ h, fun c u h => h.imp (s c _) fun ⟨o, q⟩ => ⟨o, s c _ q⟩⟩
theorem Sup.seqD {K : PySem.W.Frag} {G H : Hp} {a : Addr} {xs : List V} (s : Sup G H) (h : SqD K G a xs) : SqD K H a xs := h.imp (fun ⟨o, e, d⟩ => ⟨o, s.ex a _ rfl e, d⟩) id
theorem Sup.seqT {K : PySem.W.Frag} {G H : Hp} {a : Addr} {xs : List V} (s : Sup G H) (h : SqT K G a xs) : SqT K H a xs := h.imp (s.rd a _) id
theorem Sup.seqL {K : PySem.W.Frag} {G H : Hp} {a : Addr} {xs : List V} (s : Sup G H) (h : SqL K G a xs) : SqL K H a xs := h.imp (s.rd a _) id
section
variable {fa : Nat → Addr} {K : PySem.W.Frag} {G H : Hp}
mutual
theorem Dg.mono (s : Sup G H) : ∀ {v : V} {d : D}, Dg fa K G v d → Dg fa K H v d
  | _, _, .non => .non
  | _, _, .bl b => .bl b
  | _, _, .int b => .int b
  | _, _, .str b => .str b
  | _, _, .tup h r => .tup (s.seqD h) (DgAll.mono s r)
  | _, _, .lst h r => .lst (s.lst _ _ h) (DgAll.mono s r)
  | _, _, .ro h => .ro (s.seqL h)
  | _, _, .fn k => .fn k
  | _, _, .dic h r => .dic (s.rd _ _ h) (DgKV.mono s r)
theorem DgAll.mono (s : Sup G H) : ∀ {vs : List V} {ds : List D}, DgAll fa K G vs ds → DgAll fa K H vs ds
  | _, _, .nil => .nil
  | _, _, .cons h r => .cons (Dg.mono s h) (DgAll.mono s r)
theorem DgKV.mono (s : Sup G H) : ∀ {vs : List (List Key × V)} {ds : List (List Int × D)}, DgKV fa K G vs ds → DgKV fa K H vs ds
  | _, _, .nil => .nil
  | _, _, .cons h r => .cons (Dg.mono s h) (DgKV.mono s r)
end
theorem DgAll.length : ∀ {vs : List V} {ds : List D}, DgAll fa K G vs ds → vs.length = ds.length
  | _, _, .nil => rfl
  | _, _, .cons _ r => congrArg Nat.succ (DgAll.length r)
theorem DgAll.get : ∀ {vs : List V} {ds : List D} {i : Nat} {d : D}, DgAll fa K G vs ds → ds[i]? = some d → ∃ v, vs[i]? = some v ∧ Dg fa K G v d
  | _, _, _, _, .nil, e => by simp at e
  | _, _, 0, _, .cons h _, e => by simp at e; subst e; exact ⟨_, rfl, h⟩
  | _, _, i + 1, d, .cons _ r, e => by
    obtain ⟨v, h1, h2⟩ := DgAll.get (i := i) (d := d) r (by simpa using e)
    exact ⟨v, by simpa using h1, h2⟩
theorem DgAll.getV : ∀ {vs : List V} {ds : List D} {i : Nat} {v : V}, DgAll fa K G vs ds → vs[i]? = some v → ∃ d, ds[i]? = some d ∧ Dg fa K G v d
  | _, _, _, _, .nil, e => by simp at e
  | _, _, 0, _, .cons h _, e => by simp at e; subst e; exact ⟨_, rfl, h⟩
  | _, _, i + 1, d, .cons _ r, e => by
    obtain ⟨v, h1, h2⟩ := DgAll.getV (i := i) (v := d) r (by simpa using e)
    exact ⟨v, by simpa using h1, h2⟩
theorem DgAll.append : ∀ {vs ws : List V} {ds es : List D}, DgAll fa K G vs ds → DgAll fa K G ws es → DgAll fa K G (vs ++ ws) (ds ++ es)
  | _, _, _, _, .nil, s => s
  | _, _, _, _, .cons r t, s => .cons r (DgAll.append t s)
theorem DgAll.take : ∀ {vs : List V} {ds : List D} (n : Nat), DgAll fa K G vs ds → DgAll fa K G (vs.take n) (ds.take n)
  | _, _, 0, _ => .nil
  | _, _, _ + 1, .nil => .nil
  | _, _, n + 1, .cons r t => .cons r (DgAll.take n t)
theorem DgAll.drop : ∀ {vs : List V} {ds : List D} (n : Nat), DgAll fa K G vs ds → DgAll fa K G (vs.drop n) (ds.drop n)
  | _, _, 0, r => r
  | _, _, _ + 1, .nil => .nil
  | _, _, n + 1, .cons _ t => DgAll.drop n t
theorem DgAll.set {v : V} {d : D} (h : Dg fa K G v d) : ∀ {vs : List V} {ds : List D} (n : Nat), DgAll fa K G vs ds → DgAll fa K G (vs.set n v) (ds.set n d)
  | _, _, _, .nil => .nil
  | _, _, 0, .cons _ t => .cons h t
  | _, _, n + 1, .cons r t => .cons r (DgAll.set h n t)
theorem DgAll.eraseIdx : ∀ {vs : List V} {ds : List D} (n : Nat), DgAll fa K G vs ds → DgAll fa K G (vs.eraseIdx n) (ds.eraseIdx n)
  | _, _, _, .nil => .nil
  | _, _, 0, .cons _ t => t
  | _, _, n + 1, .cons r t => .cons r (DgAll.eraseIdx n t)
theorem DgAll.reverse : ∀ {vs : List V} {ds : List D}, DgAll fa K G vs ds → DgAll fa K G vs.reverse ds.reverse
  | _, _, .nil => .nil
  | _, _, .cons r t => by rw [List.reverse_cons, List.reverse_cons]; exact (DgAll.reverse t).append (.cons r .nil)
theorem DgAll.rep {vs : List V} {ds : List D} (h : DgAll fa K G vs ds) : ∀ n : Nat, DgAll fa K G (List.replicate n vs).flatten (List.replicate n ds).flatten
  | 0 => .nil
  | n + 1 => by rw [List.replicate_succ, List.replicate_succ, List.flatten_cons, List.flatten_cons]; exact h.append (DgAll.rep h n)
theorem DgAll.ints : ∀ {vs : List V} {ds : List D} {l : List Int}, DgAll fa K G vs ds → intsOf ds = some l → vs = l.map V.int
  | _, _, _, .nil, e => by cases e; rfl
  | _, _, _, .cons (d := d) (ds := ds) h r, e => by
    cases h with
    | int i =>
      cases q : intsOf ds with
      | none => rw [intsOf, q] at e; cases e
      | some l' => rw [intsOf, q] at e; cases e; rw [DgAll.ints r q]; rfl
    | _ => cases e
theorem DgAll.bls : ∀ {vs : List V} {ds : List D} {l : List Bool}, DgAll fa K G vs ds → blsOf ds = some l → vs = l.map V.bl
  | _, _, _, .nil, e => by cases e; rfl
  | _, _, _, .cons (d := d) (ds := ds) h r, e => by
    cases h with
    | bl i =>
      cases q : blsOf ds with
      | none => rw [blsOf, q] at e; cases e
      | some l' => rw [blsOf, q] at e; cases e; rw [DgAll.bls r q]; rfl
    | _ => cases e
theorem DgAll.strs : ∀ {vs : List V} {ds : List D} {l : List Str}, DgAll fa K G vs ds → strsOf ds = some l → vs = l.map V.str
  | _, _, _, .nil, e => by cases e; rfl
  | _, _, _, .cons (d := d) (ds := ds) h r, e => by
    cases h with
    | str i =>
      cases q : strsOf ds with
      | none => rw [strsOf, q] at e; cases e
      | some l' => rw [strsOf, q] at e; cases e; rw [DgAll.strs r q]; rfl
    | _ => cases e
theorem DgAll.ofInts : ∀ l : List Int, DgAll fa K G (l.map V.int) (l.map D.int)
  | [] => .nil
  | i :: r => .cons (.int i) (DgAll.ofInts r)
theorem Dg.scalar {v : V} {d : D} (h : Dg fa K G v d) (s : scalar d = true) {G' : Hp} : Dg fa K G' v d := by
  cases h with
  | non => exact .non
  | bl b => exact .bl b
  | int b => exact .int b
  | str b => exact .str b
  | _ => cases s
end
end Ev
end
section
set_option linter.all false
set_option maxRecDepth 100000
namespace Ev
open PySem PySem.Spec PyProof.Rows L2

structure Ext (F G G' : Hp) : Prop where
  sup : Sup G G'
  new : ∀ b, F b ≠ none → G b = none → G' b = none
theorem Ext.refl (F G : Hp) : Ext F G G := ⟨.refl G, fun _ _ h => h⟩
theorem Ext.trans {F G G1 G2 : Hp} (a : Ext F G G1) (b : Ext F G1 G2) : Ext F G G2 :=
  ⟨a.sup.trans b.sup, fun c h q => b.new c h (a.new c h q)⟩
structure Grow (G H G' H' : Hp) : Prop where
  same : Same H H'
  sup : Sup G G'
  gh : Sup G' H'
  new : ∀ b, H b ≠ none → G b = none → G' b = none
theorem Grow.refl {G H : Hp} (g : Sup G H) : Grow G H G H := ⟨.refl H, .refl G, g, fun _ _ h => h⟩
theorem Grow.ext {F G H G' H' : Hp} (x : Grow G H G' H') (f : Same F H) : Ext F G G' := ⟨x.sup, fun b h q => x.new b (fun z => by
  cases e : F b with
  | none => exact h e
  | some u => rw [f b u e] at z; cases z) q⟩

def Is (fa : Nat → Addr) (K : PySem.W.Frag) (G H : Hp) (a : Addr) : D → Prop
  | .lst ds => ∃ vs, H a = some (.lst vs) ∧ DgAll fa K G vs ds
  | .dic kvs => ∃ ws, H a = some (.dT ws) ∧ DgKV fa K G ws kvs
  | _ => False
def Free (F G : Hp) (a : Addr) : Prop := F a = none ∧ G a = none
theorem Is.mono {fa : Nat → Addr} {K : PySem.W.Frag} {G G' H H' : Hp} {a : Addr} {d : D} (h : Is fa K G H a d) (s : Sup G G') (e : ∀ o, H a = some o → H' a = some o) : Is fa K G' H' a d := by
  cases d with
  | lst ds => obtain ⟨vs, h1, h2⟩ := h; exact ⟨vs, e _ h1, h2.mono s⟩
  | dic kvs => obtain ⟨vs, h1, h2⟩ := h; exact ⟨vs, e _ h1, h2.mono s⟩
  | _ => exact h.elim
theorem Is.there {fa : Nat → Addr} {K : PySem.W.Frag} {G H : Hp} {a : Addr} {d : D} (h : Is fa K G H a d) : H a ≠ none := by
  cases d with
  | lst ds => obtain ⟨vs, h1, h2⟩ := h; rw [h1]; simp
  | dic kvs => obtain ⟨vs, h1, h2⟩ := h; rw [h1]; simp
  | _ => exact h.elim
theorem Is.dg {fa : Nat → Addr} {K : PySem.W.Frag} {G H : Hp} {a : Addr} {d : D} (h : Is fa K G H a d) (e : ∀ o, H a = some o → G a = some o) : Dg fa K G (.ref a) d := by
  cases d with
  | lst ds => obtain ⟨vs, h1, h2⟩ := h; exact .lst (e _ h1) h2
  | dic kvs => obtain ⟨vs, h1, h2⟩ := h; exact .dic (.inl (e _ h1)) h2
  | _ => exact h.elim

structure Rel (fa : Nat → Addr) (K : PySem.W.Frag) (F G : Hp) (io : Option Addr) (env : Env) (σ : L2.St) (H : Hp) : Prop where
  len : env.length ≤ σ.length
  gh : Sup G H
  fh : Same F H
  fz : ∀ i d, env.at i = .fz d → ∃ v, σ[i]? = some (some v) ∧ Dg fa K G v d
  own : ∀ i, (env.at i).own = true → ∃ a, σ[i]? = some (some (.ref a)) ∧ Is fa K G H a (env.at i).d ∧ Free F G a
  sep : ∀ i j a, (env.at i).own = true → (env.at j).own = true → σ[i]? = some (some (.ref a)) → σ[j]? = some (some (.ref a)) → i = j
  io : ∀ a, io = some a → (env.at 0).own = true → σ[0]? = some (some (.ref a))

def Vw (fa : Nat → Addr) (K : PySem.W.Frag) (G H : Hp) (v : V) (d : D) : Prop := Dg fa K G v d ∨ ∃ a, v = .ref a ∧ Is fa K G H a d
def NoOwn (env : Env) (σ : L2.St) (a : Addr) : Prop := ∀ j, (env.at j).own = true → σ[j]? ≠ some (some (.ref a))
def OR (fa : Nat → Addr) (K : PySem.W.Frag) (F G : Hp) (env : Env) (σ : L2.St) (H : Hp) : O → V → Prop
  | .fz d, v => Dg fa K G v d
  | .fr d, v => ∃ a, v = .ref a ∧ Is fa K G H a d ∧ Free F G a ∧ NoOwn env σ a
  | .sl i, v => σ[i]? = some (some v)
def plus (F H : Hp) : O → V → Hp
  | .fr _, .ref a => fun b => if b = a then H b else F b
  | _, _ => F
def ORs (fa : Nat → Addr) (K : PySem.W.Frag) (G : Hp) (env : Env) (σ : L2.St) (H : Hp) : Hp → List O → List V → Prop
  | _, [], [] => True
  | F, o :: os, v :: vs => OR fa K F G env σ H o v ∧ ORs fa K G env σ H (plus F H o v) os vs
  | _, _, _ => False
section
variable {fa : Nat → Addr} {K : PySem.W.Frag} {F F' G G' H H' : Hp} {io : Option Addr} {env env' : Env} {σ : L2.St}

theorem Env.at_set (env : Env) (i j : Nat) (s : Sl) : (Env.at (env.set i s) j) = if i = j then (if i < env.length then s else .no) else env.at j := by
  unfold Env.at
  rw [List.getD_eq_getElem?_getD, List.getD_eq_getElem?_getD, List.getElem?_set]
  by_cases h : i = j
  · subst h
    by_cases h2 : i < env.length
    · simp [h2]
    · simp [h2]
  · simp [h]
theorem Env.at_lt {env : Env} {i : Nat} (h : env.at i ≠ .no) : i < env.length := by
  unfold Env.at at h
  by_cases h2 : i < env.length
  · exact h2
  · rw [List.getD_eq_getElem?_getD, List.getElem?_eq_none (by omega)] at h
    exact absurd rfl h

theorem Rel.frame (r : Rel fa K F G io env σ H) {o : O} {v : V} (h : OR fa K F G env σ H o v) : Rel fa K (plus F H o v) G io env σ H := by
  cases o with
  | fr d =>
    obtain ⟨a, rfl, h1, h2, h3⟩ := h
    refine ⟨r.len, r.gh, fun b u e => ?_, r.fz, fun i hi => ?_, r.sep, r.io⟩
    · have e' : (if b = a then H b else F b) = some u := e
      by_cases hb : b = a
      · rw [if_pos hb] at e'; exact e'
      · rw [if_neg hb] at e'; exact r.fh b u e'
    · obtain ⟨c, q1, q2, q3⟩ := r.own i hi
      refine ⟨c, q1, q2, ?_, q3.2⟩
      show (if c = a then H c else F c) = none
      rw [if_neg fun z => h3 i hi (by rw [q1, z])]
      exact q3.1
  | fz d => exact r
  | sl i => exact r
theorem Rel.unframe {o : O} {v : V} (r : Rel fa K (plus F H o v) G io env σ H') (h : OR fa K F G' env' σ H o v) : Rel fa K F G io env σ H' := by
  cases o with
  | fr d =>
    obtain ⟨a, rfl, h1, h2, h3⟩ := h
    refine ⟨r.len, r.gh, fun b u e => r.fh b u ?_, r.fz, fun i hi => ?_, r.sep, r.io⟩
    · show (if b = a then H b else F b) = some u
      rw [if_neg fun z => by rw [z, h2.1] at e; cases e]
      exact e
    · obtain ⟨c, q1, q2, q3⟩ := r.own i hi
      refine ⟨c, q1, q2, ?_, q3.2⟩
      have q4 : (if c = a then H c else F c) = none := q3.1
      by_cases hc : c = a
      · rw [hc]; exact h2.1
      · rw [if_neg hc] at q4; exact q4
  | fz d => exact r
  | sl i => exact r
theorem OR.keep {o : O} {v : V} (h : OR fa K F G env σ H o v) (r : Rel fa K (plus F H o v) G' io env' σ H') (x : Ext (plus F H o v) G G') : OR fa K F G' env' σ H' o v := by
  cases o with
  | fr d =>
    obtain ⟨a, rfl, h1, h2, h3⟩ := h
    have k : ∀ u, H a = some u → H' a = some u := fun u e => r.fh a u (by show (if a = a then H a else F a) = some u; rw [if_pos rfl]; exact e)
    refine ⟨a, rfl, h1.mono x.sup k, ⟨h2.1, x.new a (by show (if a = a then H a else F a) ≠ none; rw [if_pos rfl]; exact h1.there) h2.2⟩, fun j hj e => ?_⟩
    obtain ⟨c, q1, q2, q3⟩ := r.own j hj
    rw [e] at q1
    cases q1
    have q4 : (if a = a then H a else F a) = none := q3.1
    rw [if_pos rfl] at q4
    exact h1.there q4
  | fz d => exact Dg.mono x.sup h
  | sl i => exact h
theorem ORs.imp : ∀ {os : List O} {vs : List V} {F F' : Hp}, (∀ a, F' a = none → F a = none) → ORs fa K G env σ H F' os vs → ORs fa K G env σ H F os vs
  | [], [], _, _, _, _ => trivial
  | [], _ :: _, _, _, _, h => h.elim
  | _ :: _, [], _, _, _, h => h.elim
  | o :: os, v :: vs, F, F', k, ⟨h1, h2⟩ => by
    refine ⟨?_, ORs.imp (fun a e => ?_) h2⟩
    · cases o with
      | fr d => obtain ⟨a, e, q1, q2, q3⟩ := h1; exact ⟨a, e, q1, ⟨k a q2.1, q2.2⟩, q3⟩
      | fz d => exact h1
      | sl i => exact h1
    · cases o with
      | fr d =>
        obtain ⟨c, rfl, q1, q2, q3⟩ := h1
        have e' : (if a = c then H a else F' a) = none := e
        show (if a = c then H a else F a) = none
        by_cases hc : a = c
        · rw [if_pos hc] at e' ⊢; exact e'
        · rw [if_neg hc] at e' ⊢; exact k a e'
      | fz d => exact k a e
      | sl i => exact k a e
theorem ORs.length : ∀ {os : List O} {vs : List V} {F : Hp}, ORs fa K G env σ H F os vs → os.length = vs.length
  | [], [], _, _ => rfl
  | [], _ :: _, _, h => h.elim
  | _ :: _, [], _, h => h.elim
  | _ :: os, _ :: vs, _, h => congrArg Nat.succ (ORs.length h.2)
theorem ORs.append : ∀ {os os' : List O} {vs vs' : List V} {F : Hp} {o : O} {v : V}, OR fa K F G env σ H o v → ORs fa K G env σ H (plus F H o v) os vs → ORs fa K G env σ H F (o :: os) (v :: vs) := fun h1 h2 => ⟨h1, h2⟩

theorem Rel.view (r : Rel fa K F G io env σ H) {o : O} {v : V} (h : OR fa K F G env σ H o v) (hs : ∀ i, o = .sl i → env.at i ≠ .no) : Vw fa K G H v (o.view env) := by
  cases o with
  | fz d => exact .inl h
  | fr d => obtain ⟨a, rfl, h1, _⟩ := h; exact .inr ⟨a, rfl, h1⟩
  | sl i =>
    show Vw fa K G H v (env.at i).d
    cases q : (env.at i).own with
    | true =>
      obtain ⟨a, q1, q2, q3⟩ := r.own i q
      have e : σ[i]? = some (some v) := h
      rw [q1] at e
      cases e
      exact .inr ⟨a, rfl, q2⟩
    | false =>
      cases q2 : env.at i with
      | no => exact absurd q2 (hs i rfl)
      | fz d =>
        obtain ⟨u, q3, q4⟩ := r.fz i d q2
        have e : σ[i]? = some (some v) := h
        rw [q3] at e
        cases e
        exact .inl q4
      | ow ds => rw [q2] at q; cases q
      | od ds => rw [q2] at q; cases q

theorem Rel.ext (r : Rel fa K F G io env σ H) (x : Grow G H G' H') : Rel fa K F G' io env σ H' := by
  have s := x.same
  refine ⟨r.len, x.gh, fun a u e => s a u (r.fh a u e), fun i d e => ?_, fun i e => ?_, r.sep, r.io⟩
  · obtain ⟨v, h1, h2⟩ := r.fz i d e
    exact ⟨v, h1, h2.mono x.sup⟩
  · obtain ⟨a, h1, h2, h3⟩ := r.own i e
    exact ⟨a, h1, h2.mono x.sup (fun u q => s a u q), h3.1, x.new a h2.there h3.2⟩
theorem OR.ext {o : O} {v : V} (h : OR fa K F G env σ H o v) (x : Grow G H G' H') : OR fa K F G' env σ H' o v := by
  have s := x.same
  cases o with
  | fr d =>
    obtain ⟨a, rfl, h1, h2, h3⟩ := h
    exact ⟨a, rfl, h1.mono x.sup (fun u q => s a u q), ⟨h2.1, x.new a h1.there h2.2⟩, h3⟩
  | fz d => exact Dg.mono x.sup h
  | sl i => exact h

def giv (G H : Hp) (a : Addr) : Hp := fun b => if b = a then H b else G b
theorem Sup.giv (g : Sup G H) {a : Addr} (h : G a = none) : Sup G (giv G H a) ∧ Sup (giv G H a) H := by
  refine ⟨.of fun b u e => ?_, ⟨fun b xs hx e => ?_, fun b u e => ?_⟩⟩
  · show (if b = a then H b else G b) = some u
    rw [if_neg fun z => by rw [z, h] at e; cases e]
    exact e
  · have e' : (if b = a then H b else G b) = some xs := e
    by_cases hb : b = a
    · rw [if_pos hb] at e'; exact e'
    · rw [if_neg hb] at e'; exact g.ex b xs hx e'
  · by_cases hb : b = a
    · refine e.imp (fun q => ?_) fun ⟨o, q⟩ => ⟨o, ?_⟩
      · have q' : (if b = a then H b else G b) = some u := q
        rw [if_pos hb] at q'; exact q'
      · have q' : (if b = a then H b else G b) = some (.frz o u) := q
        rw [if_pos hb] at q'; exact q'
    · refine g.rd b u (e.imp (fun q => ?_) fun ⟨o, q⟩ => ⟨o, ?_⟩)
      · have q' : (if b = a then H b else G b) = some u := q
        rw [if_neg hb] at q'; exact q'
      · have q' : (if b = a then H b else G b) = some (.frz o u) := q
        rw [if_neg hb] at q'; exact q'
end
end Ev
end
section
set_option linter.all false
set_option maxRecDepth 100000
namespace Ev
open PySem PySem.Spec PyProof.Rows L2
section
variable {fa : Nat → Addr} {K : PySem.W.Frag} {F F' G G' H H' : Hp} {io : Option Addr} {env env' : Env} {σ : L2.St}

theorem Env.freeze_len (env : Env) (i : Nat) : (env.freeze i).length = env.length := by
  unfold Env.freeze; split <;> simp
theorem Env.freeze_at (env : Env) (i j : Nat) : (env.freeze i).at j = if i = j ∧ (env.at j).own = true then .fz (env.at j).d else env.at j := by
  unfold Env.freeze
  cases q : env.at i with
  | no => by_cases h : i = j
          · subst h; simp [q, Sl.own]
          · simp [h]
  | fz d => by_cases h : i = j
            · subst h; simp [q, Sl.own]
            · simp [h]
  | ow ds =>
    have hl : i < env.length := Env.at_lt (by rw [q]; simp)
    show Env.at (env.set i _) j = _
    rw [Env.at_set]
    by_cases h : i = j
    · subst h; simp [q, Sl.own, hl, Sl.d]
    · simp [h]
  | od ds =>
    have hl : i < env.length := Env.at_lt (by rw [q]; simp)
    show Env.at (env.set i _) j = _
    rw [Env.at_set]
    by_cases h : i = j
    · subst h; simp [q, Sl.own, hl, Sl.d]
    · simp [h]
theorem Env.freeze_d (env : Env) (i j : Nat) : ((env.freeze i).at j).d = (env.at j).d := by
  rw [Env.freeze_at]; split <;> rfl
theorem Env.freeze_no {env : Env} {i j : Nat} (h : env.at j ≠ .no) : (env.freeze i).at j ≠ .no := by
  rw [Env.freeze_at]; split
  · simp
  · exact h
theorem Env.freeze_own {env : Env} {i j : Nat} (h : ((env.freeze i).at j).own = true) : (env.at j).own = true := by
  rw [Env.freeze_at] at h
  split at h
  · cases h
  · exact h

theorem Rel.give (r : Rel fa K F G io env σ H) {a : Addr} (ha : Free F G a) (hn : NoOwn env σ a) : Rel fa K F (giv G H a) io env σ H ∧ Ext F G (giv G H a) := by
  obtain ⟨g1, g2⟩ := r.gh.giv ha.2
  refine ⟨⟨r.len, g2, r.fh, fun i d e => ?_, fun i hi => ?_, r.sep, r.io⟩, ⟨g1, fun b h q => ?_⟩⟩
  · obtain ⟨v, h1, h2⟩ := r.fz i d e
    exact ⟨v, h1, h2.mono g1⟩
  · obtain ⟨c, h1, h2, h3⟩ := r.own i hi
    refine ⟨c, h1, h2.mono g1 fun _ q => q, h3.1, ?_⟩
    show (if c = a then H c else G c) = none
    rw [if_neg fun z => hn i hi (by rw [h1, z])]
    exact h3.2
  · show (if b = a then H b else G b) = none
    rw [if_neg fun z => h (by rw [z]; exact ha.1)]
    exact q
theorem Rel.freeze (r : Rel fa K F G io env σ H) (i : Nat) : ∃ G', Rel fa K F G' io (env.freeze i) σ H ∧ Ext F G G' ∧
    (∀ b, G b = none → (∀ i, (env.at i).own = true → σ[i]? ≠ some (some (.ref b))) → G' b = none) := by
  cases q : (env.at i).own with
  | false =>
    refine ⟨G, ?_, .refl F G, fun b h _ => h⟩
    have e : env.freeze i = env := by
      unfold Env.freeze
      cases q2 : env.at i with
      | ow ds => rw [q2] at q; cases q
      | od ds => rw [q2] at q; cases q
      | _ => rfl
    rw [e]; exact r
  | true =>
    obtain ⟨a, h1, h2, h3⟩ := r.own i q
    obtain ⟨g1, g2⟩ := r.gh.giv h3.2
    refine ⟨giv G H a, ⟨by rw [Env.freeze_len]; exact r.len, g2, r.fh, fun j d e => ?_, fun j hj => ?_, fun j k c hj hk => r.sep j k c (Env.freeze_own hj) (Env.freeze_own hk), fun a e h => r.io a e (Env.freeze_own h)⟩, ⟨g1, fun b h q => ?_⟩, fun b h hb => ?_⟩
    · rw [Env.freeze_at] at e
      by_cases hc : i = j ∧ (env.at j).own = true
      · rw [if_pos hc] at e
        cases e
        obtain ⟨rfl, _⟩ := hc
        exact ⟨_, h1, (h2.mono g1 fun _ q => q).dg fun o q => by show (if a = a then H a else G a) = some o; rw [if_pos rfl]; exact q⟩
      · rw [if_neg hc] at e
        obtain ⟨v, q1, q2⟩ := r.fz j d e
        exact ⟨v, q1, q2.mono g1⟩
    · have hj' := Env.freeze_own hj
      obtain ⟨c, q1, q2, q3⟩ := r.own j hj'
      rw [Env.freeze_d]
      refine ⟨c, q1, q2.mono g1 fun _ q => q, q3.1, ?_⟩
      show (if c = a then H c else G c) = none
      rw [if_neg fun z => ?_]
      · exact q3.2
      · have : i = j := r.sep i j a q hj' h1 (by rw [q1, z])
        subst this
        rw [Env.freeze_at, if_pos ⟨rfl, q⟩] at hj
        cases hj
    · show (if b = a then H b else G b) = none
      rw [if_neg fun z => h (by rw [z]; exact h3.1)]
      exact q
    · show (if b = a then H b else G b) = none
      rw [if_neg fun z => hb i q (by rw [z]; exact h1)]
      exact h
theorem Rel.at (r : Rel fa K F G io env σ H) {i : Nat} {d : D} (h : env.at i = .fz d) {v : V} (e : σ[i]? = some (some v)) : Dg fa K G v d := by
  obtain ⟨u, h1, h2⟩ := r.fz i d h
  rw [e] at h1; cases h1; exact h2

theorem O.view_freeze (env : Env) (i : Nat) (o : O) : o.view (env.freeze i) = o.view env := by
  cases o with
  | sl j => exact Env.freeze_d env i j
  | _ => rfl
theorem freezeO_at : ∀ (os : List O) (env : Env) (j : Nat), ((freezeO env os).at j).d = (env.at j).d
  | [], _, _ => rfl
  | .sl i :: r, env, j => by rw [freezeO, freezeO_at r, Env.freeze_d]
  | .fz _ :: r, env, j => freezeO_at r env j
  | .fr _ :: r, env, j => freezeO_at r env j
theorem O.view_freezeO (os : List O) (env : Env) (o : O) : o.view (freezeO env os) = o.view env := by
  cases o with
  | sl j => exact freezeO_at os env j
  | _ => rfl
theorem freezeO_len : ∀ (os : List O) (env : Env), (freezeO env os).length = env.length
  | [], _ => rfl
  | .sl i :: r, env => by rw [freezeO, freezeO_len r, Env.freeze_len]
  | .fz _ :: r, env => freezeO_len r env
  | .fr _ :: r, env => freezeO_len r env
theorem freezeO_no : ∀ (os : List O) {env : Env} {j : Nat}, env.at j ≠ .no → (freezeO env os).at j ≠ .no
  | [], _, _, h => h
  | .sl i :: r, env, j, h => freezeO_no r (Env.freeze_no h)
  | .fz _ :: r, env, j, h => freezeO_no r h
  | .fr _ :: r, env, j, h => freezeO_no r h
def Full (env : Env) (os : List O) : Prop := ∀ i, O.sl i ∈ os → env.at i ≠ .no

theorem OR.know {o : O} {v : V} (h : OR fa K F G env σ H o v) (s : Sup G G') (k : ∀ b, G b = none → F b = none → H b ≠ none → (∀ i, (env.at i).own = true → σ[i]? ≠ some (some (.ref b))) → G' b = none)
    (ko : ∀ i, (env'.at i).own = true → (env.at i).own = true) : OR fa K F G' env' σ H o v := by
  cases o with
  | fz d => exact Dg.mono s h
  | fr d =>
    obtain ⟨a, e, h1, h2, h3⟩ := h
    exact ⟨a, e, h1.mono s fun _ q => q, ⟨h2.1, k a h2.2 h2.1 h1.there h3⟩, fun j hj => h3 j (ko j hj)⟩
  | sl i => exact h
theorem plus_none {o : O} {v : V} (h : OR fa K F G env σ H o v) {b : Addr} (e : plus F H o v b = none) : F b = none := by
  cases o with
  | fr d =>
    obtain ⟨a, rfl, h1, h2, h3⟩ := h
    have e' : (if b = a then H b else F b) = none := e
    by_cases hb : b = a
    · rw [if_pos hb, hb] at e'
      exact absurd e' h1.there
    · rw [if_neg hb] at e'
      exact e'
  | fz d => exact e
  | sl i => exact e
theorem plus_have {v : V} {d : D} {a : Addr} (h : OR fa K F G env σ H (.fr d) (.ref a)) : plus F H (.fr d) (.ref a) a ≠ none := by
  obtain ⟨c, e, h1, h2, h3⟩ := h
  cases e
  show (if a = a then H a else F a) ≠ none
  rw [if_pos rfl]
  exact h1.there
theorem ORs.know : ∀ {os : List O} {vs : List V} {F : Hp}, ORs fa K G env σ H F os vs → Sup G G' → (∀ b, G b = none → F b = none → H b ≠ none → (∀ i, (env.at i).own = true → σ[i]? ≠ some (some (.ref b))) → G' b = none) →
    (∀ i, (env'.at i).own = true → (env.at i).own = true) → ORs fa K G' env' σ H F os vs
  | [], [], _, _, _, _, _ => trivial
  | [], _ :: _, _, h, _, _, _ => h.elim
  | _ :: _, [], _, h, _, _, _ => h.elim
  | o :: os, v :: vs, F, ⟨h1, h2⟩, s, k, ko => ⟨h1.know s k ko, ORs.know h2 s (fun b q1 q2 => k b q1 (plus_none h1 q2)) ko⟩
theorem Rel.settle : ∀ {os : List O} {vs : List V} {F : Hp} {G : Hp} {env : Env}, Rel fa K F G io env σ H → ORs fa K G env σ H F os vs → Full env os →
    ∃ G', Rel fa K F G' io (freezeO env os) σ H ∧ Ext F G G' ∧ DgAll fa K G' vs (os.map (O.view env))
  | [], [], F, G, env, r, _, _ => ⟨G, r, .refl F G, .nil⟩
  | [], _ :: _, _, _, _, _, h, _ => h.elim
  | _ :: _, [], _, _, _, _, h, _ => h.elim
  | .fz d :: os, v :: vs, F, G, env, r, ⟨h1, h2⟩, fu => by
    obtain ⟨G', r', x, dd⟩ := Rel.settle r h2 fun i hi => fu i (List.mem_cons_of_mem _ hi)
    exact ⟨G', r', x, .cons (Dg.mono x.sup h1) dd⟩
  | .fr d :: os, v :: vs, F, G, env, r, ⟨h1, h2⟩, fu => by
    obtain ⟨a, rfl, q1, q2, q3⟩ := id h1
    obtain ⟨r1, x1⟩ := r.give q2 q3
    have h2' : ORs fa K (giv G H a) env σ H (plus F H (.fr d) (.ref a)) os vs := ORs.know h2 x1.sup (fun b e1 e2 e3 e4 => by
      show (if b = a then H b else G b) = none
      rw [if_neg fun (z : b = a) => plus_have (v := .ref a) h1 (z ▸ e2)]
      exact e1) fun _ h => h
    have h2'' : ORs fa K (giv G H a) env σ H F os vs := ORs.imp (fun b e => plus_none h1 e) h2'
    obtain ⟨G', r', x, dd⟩ := Rel.settle r1 h2'' fun i hi => fu i (List.mem_cons_of_mem _ hi)
    refine ⟨G', r', x1.trans x, .cons (Dg.mono x.sup ?_) dd⟩
    exact (q1.mono x1.sup fun _ q => q).dg fun o q => by show (if a = a then H a else G a) = some o; rw [if_pos rfl]; exact q
  | .sl i :: os, v :: vs, F, G, env, r, ⟨h1, h2⟩, fu => by
    obtain ⟨G1, r1, x1, k1⟩ := r.freeze i
    have h2' : ORs fa K G1 (env.freeze i) σ H F os vs := ORs.know h2 x1.sup (fun b e1 e2 e3 e4 => k1 b e1 e4) fun j h => Env.freeze_own h
    obtain ⟨G', r', x, dd⟩ := Rel.settle r1 h2' fun j hj => Env.freeze_no (fu j (List.mem_cons_of_mem _ hj))
    refine ⟨G', r', x1.trans x, .cons (Dg.mono x.sup ?_) ?_⟩
    · show Dg fa K G1 v (env.at i).d
      have hn := fu i List.mem_cons_self
      have e : (env.freeze i).at i = .fz (env.at i).d := by
        rw [Env.freeze_at]
        cases q : env.at i with
        | no => exact absurd q hn
        | fz d => simp [Sl.own, Sl.d]
        | ow d => simp [Sl.own, Sl.d]
        | od d => simp [Sl.own, Sl.d]
      exact r1.at e h1
    · have e : os.map (O.view (env.freeze i)) = os.map (O.view env) := List.map_congr_left fun o _ => O.view_freeze env i o
      rw [e] at dd
      exact dd
theorem Rel.settle1 {o : O} {v : V} (r : Rel fa K F G io env σ H) (h : OR fa K F G env σ H o v) (fu : Full env [o]) :
    ∃ G', Rel fa K F G' io (freezeO env [o]) σ H ∧ Ext F G G' ∧ Dg fa K G' v (o.view env) := by
  obtain ⟨G', r', x, dd⟩ := r.settle (os := [o]) (vs := [v]) ⟨h, trivial⟩ fu
  cases dd with
  | cons q _ => exact ⟨G', r', x, q⟩

theorem Rel.setFz (r : Rel fa K F G io env σ H) {i : Nat} {d : D} {v : V} (h : Dg fa K G v d) : Rel fa K F G io (env.set i (.fz d)) (σ.set i (some v)) H := by
  have ow : ∀ j, (Env.at (env.set i (.fz d)) j).own = true → i ≠ j ∧ (env.at j).own = true := fun j hj => by
    rw [Env.at_set] at hj
    by_cases e : i = j
    · rw [if_pos e] at hj
      split at hj <;> cases hj
    · rw [if_neg e] at hj
      exact ⟨e, hj⟩
  refine ⟨by rw [List.length_set, List.length_set]; exact r.len, r.gh, r.fh, fun j d' e => ?_, fun j hj => ?_, fun j k a hj hk e1 e2 => ?_, fun a e h0 => ?_⟩
  · rw [Env.at_set] at e
    by_cases q : i = j
    · rw [if_pos q] at e
      by_cases hl : i < env.length
      · rw [if_pos hl] at e
        cases e
        subst q
        exact ⟨v, by rw [List.getElem?_set_self (Nat.lt_of_lt_of_le hl r.len)], h⟩
      · rw [if_neg hl] at e; cases e
    · rw [if_neg q] at e
      rw [List.getElem?_set_ne q]
      exact r.fz j d' e
  · obtain ⟨q, hj'⟩ := ow j hj
    rw [Env.at_set, if_neg q, List.getElem?_set_ne q]
    exact r.own j hj'
  · obtain ⟨q, hj'⟩ := ow j hj
    obtain ⟨q2, hk'⟩ := ow k hk
    rw [List.getElem?_set_ne q] at e1
    rw [List.getElem?_set_ne q2] at e2
    exact r.sep j k a hj' hk' e1 e2
  · obtain ⟨q, hj'⟩ := ow 0 h0
    rw [List.getElem?_set_ne q]
    exact r.io a e hj'
theorem Rel.setOwn (r : Rel fa K F G io env σ H) {i : Nat} {d : D} {v : V} (h : OR fa K F G env σ H (.fr d) v) (hi : io ≠ none → i ≠ 0) : Rel fa K F G io (env.set i (ownD d)) (σ.set i (some v)) H := by
  obtain ⟨a, rfl, h1, h2, h3⟩ := h
  have od : (ownD d).own = true ∧ (ownD d).d = d := by
    cases d with
    | lst ds => exact ⟨rfl, rfl⟩
    | dic ds => exact ⟨rfl, rfl⟩
    | _ => exact h1.elim
  have ow : ∀ j, (Env.at (env.set i (ownD d)) j).own = true → (i = j ∧ i < env.length) ∨ (i ≠ j ∧ (env.at j).own = true) := fun j hj => by
    rw [Env.at_set] at hj
    by_cases e : i = j
    · rw [if_pos e] at hj
      by_cases hl : i < env.length
      · exact .inl ⟨e, hl⟩
      · rw [if_neg hl] at hj; cases hj
    · rw [if_neg e] at hj
      exact .inr ⟨e, hj⟩
  refine ⟨by rw [List.length_set, List.length_set]; exact r.len, r.gh, r.fh, fun j d' e => ?_, fun j hj => ?_, fun j k b hj hk e1 e2 => ?_, fun b e h0 => ?_⟩
  · rw [Env.at_set] at e
    by_cases q : i = j
    · rw [if_pos q] at e
      by_cases hl : i < env.length
      · rw [if_pos hl] at e
        rw [e] at od; cases od.1
      · rw [if_neg hl] at e; cases e
    · rw [if_neg q] at e
      rw [List.getElem?_set_ne q]
      exact r.fz j d' e
  · rcases ow j hj with ⟨rfl, hl⟩ | ⟨q, hj'⟩
    · rw [Env.at_set, if_pos rfl, if_pos hl, od.2, List.getElem?_set_self (Nat.lt_of_lt_of_le hl r.len)]
      exact ⟨a, rfl, h1, h2⟩
    · rw [Env.at_set, if_neg q, List.getElem?_set_ne q]
      exact r.own j hj'
  · rcases ow j hj with ⟨rfl, hl⟩ | ⟨q, hj'⟩ <;> rcases ow k hk with ⟨rfl, hl2⟩ | ⟨q2, hk'⟩
    · rfl
    · rw [List.getElem?_set_self (Nat.lt_of_lt_of_le hl r.len)] at e1
      rw [List.getElem?_set_ne q2] at e2
      cases e1
      exact absurd e2 (h3 k hk')
    · rw [List.getElem?_set_self (Nat.lt_of_lt_of_le hl2 r.len)] at e2
      rw [List.getElem?_set_ne q] at e1
      cases e2
      exact absurd e1 (h3 j hj')
    · rw [List.getElem?_set_ne q] at e1
      rw [List.getElem?_set_ne q2] at e2
      exact r.sep j k b hj' hk' e1 e2
  · rcases ow 0 h0 with ⟨q, _⟩ | ⟨q, hj'⟩
    · exact absurd q (hi (by rw [e]; simp))
    · rw [List.getElem?_set_ne q]
      exact r.io b e hj'
theorem Rel.store (r : Rel fa K F G io env σ H) {i : Nat} {o : O} {v : V} (h : OR fa K F G env σ H o v) (fu : Full env [o]) (hi : io ≠ none → i ≠ 0) :
    ∃ G', Rel fa K F G' io (store env i o) (σ.set i (some v)) H ∧ Ext F G G' := by
  cases o with
  | fz d => exact ⟨G, r.setFz h, .refl F G⟩
  | fr d => exact ⟨G, r.setOwn h hi, .refl F G⟩
  | sl j =>
    obtain ⟨G', r', x, q⟩ := r.settle1 h fu
    exact ⟨G', r'.setFz q, x⟩
end
end Ev
end
section
set_option linter.all false
set_option maxRecDepth 100000
namespace Ev
open PySem PySem.Spec PyProof.Rows L2

structure Gh where
  fa : Nat → Addr
  K : PySem.W.Frag
  C : EC
  W : WX
  ex : Nat → List D → Value → Option Addr → Hp → Prop
structure Go (F G : Hp) (env : Env) (G' : Hp) (env' : Env) : Prop where
  x : Ext F G G'
  keep : ∀ i, env.at i ≠ .no → env'.at i ≠ .no
theorem Go.refl (F G : Hp) (env : Env) : Go F G env G env := ⟨.refl F G, fun _ h => h⟩
theorem Go.trans {F G G1 G2 : Hp} {e e1 e2 : Env} (a : Go F G e G1 e1) (b : Go F G1 e1 G2 e2) : Go F G e G2 e2 := ⟨a.x.trans b.x, fun i h => b.keep i (a.keep i h)⟩
def XP (g : Gh) (F G : Hp) (io : Option Addr) (σ : L2.St) (k : Nat) (a : List D) (env' : Env) : Prop :=
  ∀ H' G', Rel g.fa g.K F G' io env' σ H' → Ext F G G' → ∀ cls dd, g.ex k a cls dd H' → g.W cls dd σ H'
def PostA (g : Gh) (F G : Hp) (io : Option Addr) (env : Env) (σ : L2.St) (r : R (List O)) (Q : List V → Hp → Prop) : Prop := match r with
  | .ok os env' => ∀ vs H' G', Rel g.fa g.K F G' io env' σ H' → Go F G env G' env' → ORs g.fa g.K G' env' σ H' F os vs → Full env' os → Q vs H'
  | .exc k a env' => XP g F G io σ k a env'
  | .stuck => False
def PostE (g : Gh) (F G : Hp) (io : Option Addr) (env : Env) (σ : L2.St) (r : R (List O)) (Q : VK) : Prop := match r with
  | .ok [o] env' => ∀ v H' G', Rel g.fa g.K F G' io env' σ H' → Go F G env G' env' → OR g.fa g.K F G' env' σ H' o v → Full env' [o] → Q v H'
  | .ok _ _ => False
  | .exc k a env' => XP g F G io σ k a env'
  | .stuck => False
def PostT (g : Gh) (F G : Hp) (io : Option Addr) (env : Env) (σ : L2.St) (r : R (List O)) (Q : Bool → Hp → Prop) : Prop := match r with
  | .ok [o] env' => match o.view env' with
    | .bl b => ∀ H' G', Rel g.fa g.K F G' io env' σ H' → Go F G env G' env' → Q b H'
    | _ => False
  | .ok _ _ => False
  | .exc k a env' => XP g F G io σ k a env'
  | .stuck => False
def RE (g : Gh) (m : E) : TE := fun σ H Q => ∃ F G io env, Rel g.fa g.K F G io env σ H ∧ PostE g F G io env σ (evE g.C m env) Q
def RT (g : Gh) (m : E) : TT := fun σ H Q => ∃ F G io env, Rel g.fa g.K F G io env σ H ∧ PostT g F G io env σ (evE g.C m env) Q
def RA (g : Gh) (m : E) : TA := fun σ H Q => ∃ F G io env, Rel g.fa g.K F G io env σ H ∧ PostA g F G io env σ (evE g.C m env) Q

def Vws (fa : Nat → Addr) (K : PySem.W.Frag) (G H : Hp) : List V → List D → Prop
  | [], [] => True
  | v :: vs, d :: ds => Vw fa K G H v d ∧ Vws fa K G H vs ds
  | _, _ => False
def RV (fa : Nat → Addr) (K : PySem.W.Frag) (H G' H' : Hp) : O → V → Prop
  | .fz d, v => Dg fa K G' v d
  | .fr d, v => ∃ p, v = .ref p ∧ H p = none ∧ G' p = none ∧ Is fa K G' H' p d
  | .sl _, _ => False
def KO (g : Gh) (o : Op) : List V → Hp → VK → Prop := fun vs H Q => ∃ G ds d, Sup G H ∧ Vws g.fa g.K G H vs ds ∧ opSem o ds = some d ∧
  ∀ v H' G', Grow G H G' H' → RV g.fa g.K H G' H' (resO o d) v → Q v H'
section
variable {g : Gh} {F F' G G' H H' : Hp} {io : Option Addr} {env env' : Env} {σ : L2.St}

theorem XP.frame {o : O} {v : V} {k : Nat} {a : List D} {G1 : Hp} {e0 : Env} {H0 : Hp} (h : XP g F G io σ k a env') (x : Ext F G G1) (q : OR g.fa g.K F G1 e0 σ H0 o v) : XP g (plus F H0 o v) G1 io σ k a env' := fun H' G' r y cls dd z => by
  have e : OR g.fa g.K F G1 e0 σ H0 o v := q
  refine h H' G' (r.unframe (env' := e0) (G' := G1) q) (x.trans ⟨y.sup, fun b hb hg => y.new b (fun z => hb (plus_none q z)) hg⟩) cls dd z
theorem XP.later {k : Nat} {a : List D} {G1 : Hp} (h : XP g F G io σ k a env') (x : Ext F G G1) : XP g F G1 io σ k a env' := fun H' G' r y cls dd z => h H' G' r (x.trans y) cls dd z
theorem Ext.unplus {o : O} {v : V} {G1 : Hp} {e0 : Env} {H0 : Hp} (x : Ext (plus F H0 o v) G G') (q : OR g.fa g.K F G1 e0 σ H0 o v) : Ext F G G' :=
  ⟨x.sup, fun b hb hg => x.new b (fun z => hb (plus_none q z)) hg⟩

theorem RA.cons {a r : E} {Q : List V → Hp → Prop} (h : RA g (.cons a r) σ H Q) : RE g a σ H fun v H1 => RA g r σ H1 fun vs H2 => Q (v :: vs) H2 := by
  obtain ⟨F, G, io, env, r0, p⟩ := h
  refine ⟨F, G, io, env, r0, ?_⟩
  unfold evE at p
  cases q : evE g.C a env with
  | stuck => rw [q] at p; exact p
  | exc k x e => rw [q] at p; exact p
  | ok os e1 =>
    rw [q] at p
    match os, p with
    | [], p => exact p
    | _ :: _ :: _, p => exact p
    | [o], p =>
      intro v H1 G1 r1 x1 o1 f1
      refine ⟨plus F H1 o v, G1, io, e1, r1.frame o1, ?_⟩
      cases q2 : evE g.C r e1 with
      | stuck => simp only [q2] at p; exact p
      | exc k x e => simp only [q2] at p; exact XP.frame p x1.x o1
      | ok os e2 =>
        simp only [q2] at p
        intro vs H2 G2 r2 x2 o2 f2
        refine p (v :: vs) H2 G2 (r2.unframe (G' := G1) (env' := e1) o1) (x1.trans ⟨x2.x.unplus o1, x2.keep⟩) ⟨o1.keep r2 x2.x, ORs.imp (fun b e => ?_) o2⟩ ?_
        · cases o with
          | fr d =>
            obtain ⟨c, rfl, h1, h2, h3⟩ := id o1
            have e' : (if b = c then H1 b else F b) = none := e
            show (if b = c then H2 b else F b) = none
            by_cases hb : b = c
            · rw [if_pos hb, hb] at e'
              exact absurd e' h1.there
            · rw [if_neg hb] at e' ⊢; exact e'
          | fz d => exact e
          | sl i => exact e
        · intro i hi
          rcases List.mem_cons.mp hi with e | hi
          · exact x2.keep i (f1 i (by rw [e]; exact List.mem_singleton.mpr rfl))
          · exact f2 i hi
theorem RA.nil {Q : List V → Hp → Prop} (h : RA g .nil σ H Q) : Q [] H := by
  obtain ⟨F, G, io, env, r0, p⟩ := h
  exact p [] H G r0 (.refl F G env) trivial (fun _ h => absurd h List.not_mem_nil)
theorem RE.mono {m : E} {Q Q' : VK} (h : RE g m σ H Q) (k : ∀ v H', Q v H' → Q' v H') : RE g m σ H Q' := by
  obtain ⟨F, G, io, env, r0, p⟩ := h
  refine ⟨F, G, io, env, r0, ?_⟩
  cases q : evE g.C m env with
  | stuck => rw [q] at p; exact p
  | exc _ _ _ => rw [q] at p; exact p
  | ok os e1 =>
    rw [q] at p
    match os, p with
    | [], p => exact p
    | _ :: _ :: _, p => exact p
    | [o], p => exact fun v H' G' a b c d => k _ _ (p v H' G' a b c d)
theorem RA.mono {m : E} {Q Q' : List V → Hp → Prop} (h : RA g m σ H Q) (k : ∀ v H', Q v H' → Q' v H') : RA g m σ H Q' := by
  obtain ⟨F, G, io, env, r0, p⟩ := h
  refine ⟨F, G, io, env, r0, ?_⟩
  cases q : evE g.C m env with
  | stuck => rw [q] at p; exact p
  | exc _ _ _ => rw [q] at p; exact p
  | ok os e1 => rw [q] at p; exact fun v H' G' a b c d => k _ _ (p v H' G' a b c d)
theorem RA.cons' {a r : E} {Q : List V → Hp → Prop} (h : RA g (.cons a r) σ H Q) {t : TA} (k : ∀ σ H Q, RA g r σ H Q → t σ H Q) : tCons (RE g a) t σ H Q :=
  (RA.cons h).mono fun v H1 q => k _ _ _ q

theorem vws_of (r : Rel g.fa g.K F G io env σ H) : ∀ {os : List O} {vs : List V} {F' : Hp}, ORs g.fa g.K G env σ H F' os vs → Full env os → (∀ b, F' b = none → F b = none) → Vws g.fa g.K G H vs (os.map (O.view env))
  | [], [], _, _, _, _ => trivial
  | [], _ :: _, _, h, _, _ => h.elim
  | _ :: _, [], _, h, _, _ => h.elim
  | o :: os, v :: vs, F', ⟨h1, h2⟩, fu, k => by
    refine ⟨r.view (o := o) (v := v) ?_ fun i e => fu i (by rw [← e]; exact List.mem_cons_self), vws_of r h2 (fun i hi => fu i (List.mem_cons_of_mem _ hi)) fun b e => k b (plus_none h1 e)⟩
    cases o with
    | fr d => obtain ⟨a, e, q1, q2, q3⟩ := h1; exact ⟨a, e, q1, ⟨k a q2.1, q2.2⟩, q3⟩
    | fz d => exact h1
    | sl i => exact h1
theorem RV.or (r : Rel g.fa g.K F G io env σ H) (x : Grow G H G' H') {o : O} {v : V} (h : RV g.fa g.K H G' H' o v) : OR g.fa g.K F G' env σ H' o v ∧ Full env [o] := by
  cases o with
  | fz d => exact ⟨h, fun i hi => by simp at hi⟩
  | fr d =>
    obtain ⟨p, rfl, h1, h2, h3⟩ := h
    refine ⟨⟨p, rfl, h3, ⟨?_, h2⟩, fun j hj e => ?_⟩, fun i hi => by simp at hi⟩
    · cases q : F p with
      | none => rfl
      | some u => rw [r.fh p u q] at h1; cases h1
    · obtain ⟨a, q1, q2, q3⟩ := r.own j hj
      rw [e] at q1
      cases q1
      exact q2.there h1
  | sl i => exact h.elim
theorem RE.opN {o : Op} {a : E} {Q : VK} (h : RE g (.op o a) σ H Q) : RA g a σ H fun vs H1 => KO g o vs H1 Q := by
  obtain ⟨F, G, io, env, r0, p⟩ := h
  refine ⟨F, G, io, env, r0, ?_⟩
  unfold evE at p
  cases q : evE g.C a env with
  | stuck => rw [q] at p; exact p
  | exc k x e => rw [q] at p; exact p
  | ok os e1 =>
    rw [q] at p
    intro vs H1 G1 r1 x1 o1 f1
    cases q2 : opSem o (os.map (O.view e1)) with
    | none => simp only [q2] at p; exact p.elim
    | some d =>
      simp only [q2] at p
      refine ⟨G1, _, d, r1.gh, vws_of r1 o1 f1 fun _ e => e, q2, fun v H' G' gr rv => ?_⟩
      obtain ⟨oo, ff⟩ := RV.or r1 gr rv
      exact p v H' G' (r1.ext gr) (x1.trans ⟨gr.ext r1.fh, fun _ h => h⟩) oo ff
theorem RE.op1 {o : Op} {x : E} {Q : VK} (h : RE g (.op o (.cons x .nil)) σ H Q) : RE g x σ H fun v H1 => KO g o [v] H1 Q :=
  (RA.cons h.opN).mono fun _ _ q => q.nil
theorem RE.op2 {o : Op} {x y : E} {Q : VK} (h : RE g (.op o (.cons x (.cons y .nil))) σ H Q) : RE g x σ H fun v H1 => RE g y σ H1 fun u H2 => KO g o [v, u] H2 Q :=
  (RA.cons h.opN).mono fun _ _ q => (RA.cons q).mono fun _ _ q => q.nil
theorem RE.op3 {o : Op} {x y z : E} {Q : VK} (h : RE g (.op o (.cons x (.cons y (.cons z .nil)))) σ H Q) : RE g x σ H fun v H1 => RE g y σ H1 fun u H2 => RE g z σ H2 fun w H3 => KO g o [v, u, w] H3 Q :=
  (RA.cons h.opN).mono fun _ _ q => (RA.cons q).mono fun _ _ q => (RA.cons q).mono fun _ _ q => q.nil

theorem RE.var {i : Nat} {Q : VK} (h : RE g (.var i) σ H Q) : ∃ v, σ[i]? = some (some v) ∧ Q v H := by
  obtain ⟨F, G, io, env, r0, p⟩ := h
  unfold evE at p
  cases q : env.at i with
  | no => rw [q] at p; exact p.elim
  | fz d =>
    rw [q] at p
    obtain ⟨v, h1, h2⟩ := r0.fz i d q
    exact ⟨v, h1, p v H G r0 (.refl F G env) h2 fun j hj => by simp at hj⟩
  | ow ds =>
    rw [q] at p
    obtain ⟨a, h1, h2, h3⟩ := r0.own i (by rw [q]; rfl)
    exact ⟨_, h1, p _ H G r0 (.refl F G env) h1 fun j hj => by simp at hj; subst hj; rw [q]; simp⟩
  | od ds =>
    rw [q] at p
    obtain ⟨a, h1, h2, h3⟩ := r0.own i (by rw [q]; rfl)
    exact ⟨_, h1, p _ H G r0 (.refl F G env) h1 fun j hj => by simp at hj; subst hj; rw [q]; simp⟩
theorem RE.cst {d : D} {Q : VK} (h : RE g (.cst d) σ H Q) {v : V} (c : ∀ G, Dg g.fa g.K G v d) : Q v H := by
  obtain ⟨F, G, io, env, r0, p⟩ := h
  exact p v H G r0 (.refl F G env) (c G) fun j hj => by simp at hj

theorem Sup.none {G H : Hp} (g : Sup G H) {b : Addr} (hb : H b = none) : G b = none := by
  cases e : G b with
  | none => rfl
  | some u => 
    rcases g.rd b _ (.inl e) with z | ⟨o, z⟩ <;> rw [z] at hb <;> cases hb
theorem Grow.known {b : Addr} {u : HO} (gh : Sup G H) (hb : H b = none) : Grow G H (upd G b u) (upd H b u) := by
  have gb := gh.none hb
  refine ⟨fun c u e => by rw [upd_ne (ne_of_none e hb)]; exact e, .of fun c u e => by rw [upd_ne (ne_of_none e gb)]; exact e, ⟨fun c xs hx e => ?_, fun c u e => ?_⟩, fun c h1 h2 => by rw [upd_ne fun z => h1 (by rw [z]; exact hb)]; exact h2⟩
  · by_cases hc : c = b
    · subst hc; rw [upd_same] at e ⊢; exact e
    · rw [upd_ne hc] at e ⊢; exact gh.ex c xs hx e
  · by_cases hc : c = b
    · subst hc
      refine e.imp (fun z => ?_) fun ⟨o, z⟩ => ⟨o, ?_⟩ <;> rw [upd_same] at z ⊢ <;> exact z
    · have e2 : Rd G c u := e.imp (fun z => by rw [upd_ne hc] at z; exact z) fun ⟨o, z⟩ => ⟨o, by rw [upd_ne hc] at z; exact z⟩
      exact (gh.rd c u e2).imp (fun z => by rw [upd_ne hc]; exact z) fun ⟨o, z⟩ => ⟨o, by rw [upd_ne hc]; exact z⟩
theorem Grow.hand {b : Addr} {u : HO} (gh : Sup G H) (hb : H b = none) : Grow G H G (upd H b u) := by
  have s : Same H (upd H b u) := fun c u e => by rw [upd_ne (ne_of_none e hb)]; exact e
  exact ⟨s, .refl G, gh.trans (.of s), fun c h1 h2 => h2⟩
theorem RE.tup {a : E} {Q : VK} (h : RE g (.tup a) σ H Q) : RA g a σ H fun xs H1 => xs.length ≤ sizeLine ∧ ∀ p o, H1 p = none → o.dict = none → Q (.ref p) (upd H1 p (.frz o (.tup xs))) := by
  obtain ⟨F, G, io, env, r0, p⟩ := h
  refine ⟨F, G, io, env, r0, ?_⟩
  unfold evE at p
  cases q : evE g.C a env with
  | stuck => rw [q] at p; exact p
  | exc k x e => rw [q] at p; exact p
  | ok os e1 =>
    rw [q] at p
    intro vs H1 G1 r1 x1 o1 f1
    by_cases hl : os.length ≤ cap
    · simp only [if_pos hl] at p
      refine ⟨by rw [← o1.length, sizeLine_eq]; exact hl, fun b o hb ho => ?_⟩
      obtain ⟨G2, r2, x2, dd⟩ := r1.settle o1 f1
      have gr : Grow G2 H1 (upd G2 b (.frz o (.tup vs))) (upd H1 b (.frz o (.tup vs))) := .known r2.gh hb
      exact p _ _ _ (r2.ext gr) (x1.trans ⟨x2.trans (gr.ext r2.fh), fun i h => freezeO_no os h⟩) (.tup (.inl ⟨o, upd_same, ho⟩) (dd.mono gr.sup)) fun j hj => by simp at hj
    · simp only [if_neg hl] at p; exact p.elim
theorem RE.lst {a : E} {Q : VK} (h : RE g (.lst a) σ H Q) : RA g a σ H fun xs H1 => xs.length ≤ sizeLine ∧ ∀ p, H1 p = none → Q (.ref p) (upd H1 p (.lst xs)) := by
  obtain ⟨F, G, io, env, r0, p⟩ := h
  refine ⟨F, G, io, env, r0, ?_⟩
  unfold evE at p
  cases q : evE g.C a env with
  | stuck => rw [q] at p; exact p
  | exc k x e => rw [q] at p; exact p
  | ok os e1 =>
    rw [q] at p
    intro vs H1 G1 r1 x1 o1 f1
    by_cases hl : os.length ≤ cap
    · simp only [if_pos hl] at p
      refine ⟨by rw [← o1.length, sizeLine_eq]; exact hl, fun b hb => ?_⟩
      obtain ⟨G2, r2, x2, dd⟩ := r1.settle o1 f1
      have gr : Grow G2 H1 G2 (upd H1 b (.lst vs)) := .hand r2.gh hb
      obtain ⟨oo, ff⟩ := RV.or (g := g) r2 gr (o := .fr (.lst (os.map (O.view e1)))) (v := .ref b) ⟨b, rfl, hb, r2.gh.none hb, vs, upd_same, dd⟩
      exact p _ _ _ (r2.ext gr) (x1.trans ⟨x2.trans (gr.ext r2.fh), fun i h => freezeO_no os h⟩) oo ff
    · simp only [if_neg hl] at p; exact p.elim
end
end Ev
end
section
set_option linter.all false
set_option maxRecDepth 100000
namespace Ev
open PySem PySem.Spec PyProof.Rows L2

def spN (fa : Nat → Addr) (K : PySem.W.Frag) (ex : Nat → List D → Value → Option Addr → Hp → Prop) (ev : List D → CR) : Sp := fun vs H Q E =>
  ∃ G ds, Sup G H ∧ DgAll fa K G vs ds ∧ match ev ds with
    | .ok d fr _ => ∀ v H' G', Grow G H G' H' → RV fa K H G' H' (if fr then .fr d else .fz d) v → Q v H'
    | .exc k a _ => ∀ cls dd H' G', Grow G H G' H' → ex k a cls dd H' → E cls dd H'
    | .stuck => False
structure GrowI (a : Addr) (G H G' H' : Hp) : Prop where
  same : ∀ b u, b ≠ a → H b = some u → H' b = some u
  sup : Sup G G'
  gh : Sup G' H'
  new : ∀ b, H b ≠ none → G b = none → G' b = none
def spI (fa : Nat → Addr) (K : PySem.W.Frag) (ex : Nat → List D → Value → Option Addr → Hp → Prop) (ev : List D → CR) : Sp := fun vs H Q E =>
  ∃ G a ws us xs ds, vs = .ref a :: us ∧ Sup G H ∧ H a = some (.lst ws) ∧ DgAll fa K G ws xs ∧ G a = none ∧ DgAll fa K G us ds ∧ match ev (.lst xs :: ds) with
    | .ok d fr io => ∀ v H' G' ws', GrowI a G H G' H' → H' a = some (.lst ws') → DgAll fa K G' ws' io → RV fa K H G' H' (if fr then .fr d else .fz d) v → Q v H'
    | .exc k x io => ∀ cls dd H' G' ws', GrowI a G H G' H' → H' a = some (.lst ws') → DgAll fa K G' ws' io → ex k x cls dd H' → E cls dd H'
    | .stuck => False
section
variable {g : Gh} {F F' G G' H H' : Hp} {io : Option Addr} {env env' : Env} {σ : L2.St}

theorem Vw.bl {v : V} {b : Bool} (h : Vw g.fa g.K G H v (.bl b)) : v = .bl b := by
  rcases h with h | ⟨a, _, h⟩
  · cases h; rfl
  · exact h.elim
theorem Vw.int {v : V} {b : Int} (h : Vw g.fa g.K G H v (.int b)) : v = .int b := by
  rcases h with h | ⟨a, _, h⟩
  · cases h; rfl
  · exact h.elim
theorem Vw.str {v : V} {b : Str} (h : Vw g.fa g.K G H v (.str b)) : v = .str b := by
  rcases h with h | ⟨a, _, h⟩
  · cases h; rfl
  · exact h.elim
theorem Vw.lst {v : V} {ds : List D} (h : Vw g.fa g.K G H v (.lst ds)) (s : Sup G H) : ∃ a vs, v = .ref a ∧ H a = some (.lst vs) ∧ DgAll g.fa g.K G vs ds := by
  rcases h with h | ⟨a, rfl, vs, h1, h2⟩
  · cases h with
    | lst h1 h2 => exact ⟨_, _, rfl, s.lst _ _ h1, h2⟩
  · exact ⟨a, vs, rfl, h1, h2⟩
theorem Vw.tup {v : V} {ds : List D} (h : Vw g.fa g.K G H v (.tup ds)) (s : Sup G H) : ∃ a vs, v = .ref a ∧ SqD g.K H a vs ∧ DgAll g.fa g.K G vs ds := by
  rcases h with h | ⟨a, _, h⟩
  · cases h with
    | tup h1 h2 => exact ⟨_, _, rfl, s.seqD h1, h2⟩
  · exact h.elim

theorem view1 (r : Rel g.fa g.K F G io env σ H) {o : O} {v : V} (h : OR g.fa g.K F G env σ H o v) (f : Full env [o]) : Vw g.fa g.K G H v (o.view env) :=
  r.view h fun i e => f i (by rw [e]; exact List.mem_singleton.mpr rfl)
theorem RT.re {m : E} {Q : Bool → Hp → Prop} (h : RT g m σ H Q) : RE g m σ H fun v H' => ∃ c, v = .bl c ∧ Q c H' := by
  obtain ⟨F, G, io, env, r0, p⟩ := h
  refine ⟨F, G, io, env, r0, ?_⟩
  cases q : evE g.C m env with
  | stuck => rw [q] at p; exact p
  | exc _ _ _ => rw [q] at p; exact p
  | ok os e1 =>
    rw [q] at p
    match os, p with
    | [], p => exact p
    | _ :: _ :: _, p => exact p
    | [o], p =>
      intro v H' G' a b c d
      have w := view1 a c d
      have p : (match o.view e1 with
        | .bl b => ∀ H' G', Rel g.fa g.K F G' io e1 σ H' → Go F G env G' e1 → Q b H'
        | _ => False) := p
      cases qv : o.view e1 with
      | bl t =>
        rw [qv] at p w
        exact ⟨t, w.bl, p H' G' a b⟩
      | _ => rw [qv] at p; exact p.elim
theorem RT.mono {m : E} {Q Q' : Bool → Hp → Prop} (h : RT g m σ H Q) (k : ∀ v H', Q v H' → Q' v H') : RT g m σ H Q' := by
  obtain ⟨F, G, io, env, r0, p⟩ := h
  refine ⟨F, G, io, env, r0, ?_⟩
  cases q : evE g.C m env with
  | stuck => rw [q] at p; exact p
  | exc _ _ _ => rw [q] at p; exact p
  | ok os e1 =>
    rw [q] at p
    match os, p with
    | [], p => exact p
    | _ :: _ :: _, p => exact p
    | [o], p =>
      have p : (match o.view e1 with
        | .bl b => ∀ H' G', Rel g.fa g.K F G' io e1 σ H' → Go F G env G' e1 → Q b H'
        | _ => False) := p
      show (match o.view e1 with
        | .bl b => ∀ H' G', Rel g.fa g.K F G' io e1 σ H' → Go F G env G' e1 → Q' b H'
        | _ => False)
      cases qv : o.view e1 with
      | bl t => rw [qv] at p; exact fun H' G' a b => k _ _ (p H' G' a b)
      | _ => rw [qv] at p; exact p.elim
theorem PostE.later {F G G1 : Hp} {e0 e1 : Env} {r : R (List O)} {Q : VK} (p : PostE g F G io e0 σ r Q) (x : Go F G e0 G1 e1) : PostE g F G1 io e1 σ r Q := by
  cases r with
  | stuck => exact p
  | exc _ _ _ => exact XP.later p x.x
  | ok os e2 =>
    match os, p with
    | [], p => exact p
    | _ :: _ :: _, p => exact p
    | [o], p => exact fun v H' G' a b c d => p v H' G' a (x.trans b) c d
theorem PostT.later {F G G1 : Hp} {e0 e1 : Env} {r : R (List O)} {Q : Bool → Hp → Prop} (p : PostT g F G io e0 σ r Q) (x : Go F G e0 G1 e1) : PostT g F G1 io e1 σ r Q := by
  cases r with
  | stuck => exact p
  | exc _ _ _ => exact XP.later p x.x
  | ok os e2 =>
    match os, p with
    | [], p => exact p
    | _ :: _ :: _, p => exact p
    | [o], p =>
      have p : (match o.view e2 with
        | .bl b => ∀ H' G', Rel g.fa g.K F G' io e2 σ H' → Go F G e0 G' e2 → Q b H'
        | _ => False) := p
      show (match o.view e2 with
        | .bl b => ∀ H' G', Rel g.fa g.K F G' io e2 σ H' → Go F G1 e1 G' e2 → Q b H'
        | _ => False)
      cases qv : o.view e2 with
      | bl t => rw [qv] at p; exact fun H' G' a b => p H' G' a (x.trans b)
      | _ => rw [qv] at p; exact p.elim
theorem RE.one {β : Type} {a : E} {f : O → Env → R β} {P : R β → Prop} (r0 : Rel g.fa g.K F G io env σ H) (hs : ¬ P .stuck)
    (hx : ∀ k x e, P (.exc k x e) → XP g F G io σ k x e) (p : P ((evE g.C a env).one f)) :
    RE g a σ H fun v H1 => ∃ G1 o e1, Rel g.fa g.K F G1 io e1 σ H1 ∧ Go F G env G1 e1 ∧ OR g.fa g.K F G1 e1 σ H1 o v ∧ Full e1 [o] ∧ P (f o e1) := by
  refine ⟨F, G, io, env, r0, ?_⟩
  cases q : evE g.C a env with
  | stuck => rw [q] at p; exact hs p
  | exc k x e => rw [q] at p; exact hx k x e p
  | ok os e1 =>
    rw [q] at p
    match os, p with
    | [], p => exact hs p
    | _ :: _ :: _, p => exact hs p
    | [o], p => exact fun v H' G' a b c d => ⟨G', o, e1, a, b, c, d, p⟩
theorem RA.all {β : Type} {a : E} {f : List O → Env → R β} {P : R β → Prop} (r0 : Rel g.fa g.K F G io env σ H) (hs : ¬ P .stuck)
    (hx : ∀ k x e, P (.exc k x e) → XP g F G io σ k x e) (p : P ((evE g.C a env).all f)) :
    RA g a σ H fun vs H1 => ∃ G1 os e1, Rel g.fa g.K F G1 io e1 σ H1 ∧ Go F G env G1 e1 ∧ ORs g.fa g.K G1 e1 σ H1 F os vs ∧ Full e1 os ∧ P (f os e1) := by
  refine ⟨F, G, io, env, r0, ?_⟩
  cases q : evE g.C a env with
  | stuck => rw [q] at p; exact hs p
  | exc k x e => rw [q] at p; exact hx k x e p
  | ok os e1 =>
    rw [q] at p
    exact fun v H' G' a b c d => ⟨G', os, e1, a, b, c, d, p⟩
theorem RT.tst {β : Type} {a : E} {f : Bool → Env → R β} {P : R β → Prop} (r0 : Rel g.fa g.K F G io env σ H) (hs : ¬ P .stuck)
    (hx : ∀ k x e, P (.exc k x e) → XP g F G io σ k x e) (p : P ((evE g.C a env).tst f)) :
    RT g a σ H fun b H1 => ∃ G1 e1, Rel g.fa g.K F G1 io e1 σ H1 ∧ Go F G env G1 e1 ∧ P (f b e1) := by
  refine ⟨F, G, io, env, r0, ?_⟩
  unfold R.tst at p
  cases q : evE g.C a env with
  | stuck => rw [q] at p; exact hs p
  | exc k x e => rw [q] at p; exact hx k x e p
  | ok os e1 =>
    rw [q] at p
    match os, p with
    | [], p => exact hs p
    | _ :: _ :: _, p => exact hs p
    | [o], p =>
      have p : P (match o.view e1 with | .bl b => f b e1 | _ => .stuck) := p
      show (match o.view e1 with
        | .bl b => ∀ H' G', Rel g.fa g.K F G' io e1 σ H' → Go F G env G' e1 → _
        | _ => False)
      cases qv : o.view e1 with
      | bl t => rw [qv] at p; exact fun H' G' a b => ⟨G', e1, a, b, p⟩
      | _ => rw [qv] at p; exact hs p
theorem RE.tst {β : Type} {a : E} {f : Bool → Env → R β} {P : R β → Prop} (r0 : Rel g.fa g.K F G io env σ H) (hs : ¬ P .stuck)
    (hx : ∀ k x e, P (.exc k x e) → XP g F G io σ k x e) (p : P ((evE g.C a env).tst f)) :
    RE g a σ H fun v H1 => ∃ b G1 e1, v = .bl b ∧ Rel g.fa g.K F G1 io e1 σ H1 ∧ Go F G env G1 e1 ∧ P (f b e1) :=
  (RT.tst r0 hs hx p).re.mono fun v H1 ⟨b, e, G1, e1, x⟩ => ⟨b, G1, e1, e, x⟩
theorem PostE.run {m : E} {Q : VK} {G1 : Hp} {e1 : Env} (r1 : Rel g.fa g.K F G1 io e1 σ H) (x : Go F G env G1 e1) (p : PostE g F G io env σ (evE g.C m e1) Q) : RE g m σ H Q := ⟨F, G1, io, e1, r1, p.later x⟩
theorem PostT.run {m : E} {Q : Bool → Hp → Prop} {G1 : Hp} {e1 : Env} (r1 : Rel g.fa g.K F G1 io e1 σ H) (x : Go F G env G1 e1) (p : PostT g F G io env σ (evE g.C m e1) Q) : RT g m σ H Q := ⟨F, G1, io, e1, r1, PostT.later p x⟩
theorem full0 {e1 : Env} {d : D} : Full e1 [.fz d] := fun i hi => by simp at hi
theorem full1 {e1 : Env} {d : D} : Full e1 [.fr d] := fun i hi => by simp at hi

theorem RE.ite {c a b : E} {Q : VK} (h : RE g (.ite c a b) σ H Q) : RT g c σ H fun t H1 => if t = true then RE g a σ H1 Q else RE g b σ H1 Q := by
  obtain ⟨F, G, io, env, r0, p⟩ := h
  refine (RT.tst (P := fun r => PostE g F G io env σ r Q) r0 id (fun _ _ _ h => h) p).mono fun t H1 ⟨G1, e1, r1, x1, p⟩ => ?_
  cases t with
  | true => exact PostE.run r1 x1 p
  | false => exact PostE.run r1 x1 p
theorem RT.ite {c a b : E} {Q : Bool → Hp → Prop} (h : RT g (.ite c a b) σ H Q) : RT g c σ H fun t H1 => if t = true then RT g a σ H1 Q else RT g b σ H1 Q := by
  obtain ⟨F, G, io, env, r0, p⟩ := h
  refine (RT.tst (P := fun r => PostT g F G io env σ r Q) r0 id (fun _ _ _ h => h) p).mono fun t H1 ⟨G1, e1, r1, x1, p⟩ => ?_
  cases t with
  | true => exact PostT.run r1 x1 p
  | false => exact PostT.run r1 x1 p
theorem RE.and {a b : E} {Q : VK} (h : RE g (.and a b) σ H Q) : RE g a σ H fun x H1 => ∃ c, x = .bl c ∧ if c = true then RE g b σ H1 Q else Q (.bl false) H1 := by
  obtain ⟨F, G, io, env, r0, p⟩ := h
  refine (RE.tst (P := fun r => PostE g F G io env σ r Q) r0 id (fun _ _ _ h => h) p).mono fun v H1 ⟨t, G1, e1, e, r1, x1, p⟩ => ⟨t, e, ?_⟩
  cases t with
  | true => exact PostE.run r1 x1 p
  | false => exact p _ H1 G1 r1 x1 (.bl false) full0
theorem RT.and {a b : E} {Q : Bool → Hp → Prop} (h : RT g (.and a b) σ H Q) : RT g a σ H fun c H1 => if c = true then RT g b σ H1 Q else Q false H1 := by
  obtain ⟨F, G, io, env, r0, p⟩ := h
  refine (RT.tst (P := fun r => PostT g F G io env σ r Q) r0 id (fun _ _ _ h => h) p).mono fun t H1 ⟨G1, e1, r1, x1, p⟩ => ?_
  cases t with
  | true => exact PostT.run r1 x1 p
  | false => exact p H1 G1 r1 x1
theorem RE.or {a b : E} {Q : VK} (h : RE g (.or a b) σ H Q) : RE g a σ H fun x H1 => ∃ c, x = .bl c ∧ if c = true then Q (.bl true) H1 else RE g b σ H1 Q := by
  obtain ⟨F, G, io, env, r0, p⟩ := h
  refine (RE.tst (P := fun r => PostE g F G io env σ r Q) r0 id (fun _ _ _ h => h) p).mono fun v H1 ⟨t, G1, e1, e, r1, x1, p⟩ => ⟨t, e, ?_⟩
  cases t with
  | false => exact PostE.run r1 x1 p
  | true => exact p _ H1 G1 r1 x1 (.bl true) full0
theorem RT.or {a b : E} {Q : Bool → Hp → Prop} (h : RT g (.or a b) σ H Q) : RT g a σ H fun c H1 => if c = true then Q true H1 else RT g b σ H1 Q := by
  obtain ⟨F, G, io, env, r0, p⟩ := h
  refine (RT.tst (P := fun r => PostT g F G io env σ r Q) r0 id (fun _ _ _ h => h) p).mono fun t H1 ⟨G1, e1, r1, x1, p⟩ => ?_
  cases t with
  | false => exact PostT.run r1 x1 p
  | true => exact p H1 G1 r1 x1
theorem RE.not {a : E} {Q : VK} (h : RE g (.not a) σ H Q) : RE g a σ H fun x H1 => ∃ c, x = .bl c ∧ Q (.bl (!c)) H1 := by
  obtain ⟨F, G, io, env, r0, p⟩ := h
  refine (RE.tst (P := fun r => PostE g F G io env σ r Q) r0 id (fun _ _ _ h => h) p).mono fun v H1 ⟨t, G1, e1, e, r1, x1, p⟩ => ⟨t, e, ?_⟩
  exact p _ H1 G1 r1 x1 (.bl _) full0
theorem RT.not {a : E} {Q : Bool → Hp → Prop} (h : RT g (.not a) σ H Q) : RT g a σ H fun c H1 => Q (!c) H1 := by
  obtain ⟨F, G, io, env, r0, p⟩ := h
  refine (RT.tst (P := fun r => PostT g F G io env σ r Q) r0 id (fun _ _ _ h => h) p).mono fun t H1 ⟨G1, e1, r1, x1, p⟩ => ?_
  exact p H1 G1 r1 x1
theorem ifI_int {β : Type} {P : R β → Prop} {d : D} {f : Int → R β} (hs : ¬ P .stuck) (p : P (ifI d f)) : ∃ i, d = .int i ∧ P (f i) := by
  cases d with
  | int i => exact ⟨i, rfl, p⟩
  | _ => exact absurd p hs
theorem ifL_ow {β : Type} {P : R β → Prop} {d : Sl} {f : List D → R β} (hs : ¬ P .stuck) (p : P (ifL d f)) : ∃ i, d = .ow i ∧ P (f i) := by
  cases d with
  | ow i => exact ⟨i, rfl, p⟩
  | _ => exact absurd p hs
theorem ifS_some {α β : Type} {P : R β → Prop} {d : Option α} {f : α → R β} (hs : ¬ P .stuck) (p : P (ifS d f)) : ∃ i, d = some i ∧ P (f i) := by
  cases d with
  | some i => exact ⟨i, rfl, p⟩
  | _ => exact absurd p hs
theorem OR.int {o : O} {v : V} {i : Int} (r : Rel g.fa g.K F G io env σ H) (h : OR g.fa g.K F G env σ H o v) (f : Full env [o]) (e : o.view env = .int i) : v = .int i := by
  have w := view1 r h f
  rw [e] at w
  exact w.int
theorem RE.chain {o1 o2 : Op} {a b c : E} {Q : VK} (h : RE g (.chain o1 o2 a b c) σ H Q) : RE g a σ H fun x H1 => RE g b σ H1 fun y H2 => ∃ i j, x = .int i ∧ y = .int j ∧
    if cmpI o1 i j = true then RE g c σ H2 fun z H3 => ∃ l, z = .int l ∧ Q (.bl (cmpI o2 j l)) H3 else Q (.bl false) H2 := by
  obtain ⟨F, G, io, env, r0, p⟩ := h
  refine (RE.one (P := fun r => PostE g F G io env σ r Q) r0 id (fun _ _ _ h => h) p).mono fun v H1 ⟨G1, oa, e1, r1, x1, q1, f1, p⟩ => ?_
  obtain ⟨i, ei, p⟩ := ifI_int (P := fun r => PostE g F G io env σ r Q) id p
  have vi := OR.int r1 q1 f1 ei
  refine (RE.one (P := fun r => PostE g F G io env σ r Q) r1 id (fun _ _ _ h => XP.later h x1.x) p).mono fun u H2 ⟨G2, ob, e2, r2, x2, q2, f2, p⟩ => ?_
  obtain ⟨j, ej, p⟩ := ifI_int (P := fun r => PostE g F G io env σ r Q) id p
  refine ⟨i, j, vi, OR.int r2 q2 f2 ej, ?_⟩
  by_cases hc : cmpI o1 i j = true
  · rw [if_pos hc] at p ⊢
    refine (RE.one (P := fun r => PostE g F G io env σ r Q) r2 id (fun _ _ _ h => XP.later h (x1.trans x2).x) p).mono fun w H3 ⟨G3, oc, e3, r3, x3, q3, f3, p⟩ => ?_
    obtain ⟨l, el, p⟩ := ifI_int (P := fun r => PostE g F G io env σ r Q) id p
    exact ⟨l, OR.int r3 q3 f3 el, p _ H3 G3 r3 ((x1.trans x2).trans x3) (.bl _) full0⟩
  · rw [if_neg hc] at p ⊢
    exact p _ H2 G2 r2 (x1.trans x2) (.bl _) full0

theorem RE.call {f : Nat} {a : E} {Q : VK} (h : RE g (.call f a) σ H Q) : RA g a σ H fun vs H1 => g.C.io f = false ∧ spN g.fa g.K g.ex (g.C.call f) vs H1 Q fun cls dd H' => g.W cls dd σ H' := by
  obtain ⟨F, G, io, env, r0, p⟩ := h
  refine (RA.all (P := fun r => PostE g F G io env σ r Q) r0 id (fun _ _ _ h => h) p).mono fun vs H1 ⟨G1, os, e1, r1, x1, q1, f1, p⟩ => ?_
  by_cases hi : g.C.io f = true
  · rw [if_pos hi] at p; exact p.elim
  rw [if_neg hi] at p
  refine ⟨by simpa using hi, ?_⟩
  obtain ⟨G2, r2, x2, dd⟩ := r1.settle q1 f1
  refine ⟨G2, _, r2.gh, dd, ?_⟩
  cases qc : g.C.call f (os.map (O.view e1)) with
  | stuck => rw [qc] at p; exact p
  | exc k x i =>
    rw [qc] at p
    intro cls d H' G' gr ex
    exact p H' G' (r2.ext gr) (x1.x.trans (x2.trans (gr.ext r2.fh))) cls d ex
  | ok d fr i =>
    rw [qc] at p
    intro v H' G' gr rv
    have p : PostE g F G io env σ (if scalar d then .ok [.fz d] e1 else .ok [if fr then .fr d else .fz d] (freezeO e1 os)) Q := p
    by_cases hs : scalar d = true
    · rw [if_pos hs] at p
      have dv : ∀ G, Dg g.fa g.K G v d := fun G => by
        cases fr with
        | false => exact Dg.scalar (G := G') rv hs
        | true => 
          obtain ⟨p, rfl, h1, h2, h3⟩ := rv
          cases d with
          | lst _ => cases hs
          | dic _ => cases hs
          | _ => exact h3.elim
      have gr1 : Grow G1 H1 G1 H' := ⟨gr.same, .refl _, r1.gh.trans (.of gr.same), fun _ _ h => h⟩
      exact p v H' G1 (r1.ext gr1) x1 (dv _) full0
    · rw [if_neg hs] at p
      have hg : Go F G env G' (freezeO e1 os) := ⟨x1.x.trans (x2.trans (gr.ext r2.fh)), fun i h => freezeO_no os (x1.keep i h)⟩
      obtain ⟨oo, ff⟩ := RV.or (g := g) r2 gr (o := if fr then .fr d else .fz d) (v := v) rv
      exact p v H' G' (r2.ext gr) hg oo ff
theorem RE.orL {a b : E} {Q : VK} (h : RE g (.orL a b) σ H Q) : RE g a σ H fun x H1 => ∃ k, TruV g.K x H1 k ∧ if k = true then Q x H1 else RE g b σ H1 Q := by
  obtain ⟨F, G, io, env, r0, p⟩ := h
  refine (RE.one (P := fun r => PostE g F G io env σ r Q) r0 id (fun _ _ _ h => h) p).mono fun v H1 ⟨G1, o, e1, r1, x1, q1, f1, p⟩ => ?_
  have w := view1 r1 q1 f1
  cases qv : o.view e1 with
  | lst ds =>
    rw [qv] at w
    obtain ⟨a, vs, rfl, h1, h2⟩ := w.lst r1.gh
    refine ⟨!vs.isEmpty, .inl ⟨vs, .inl (.inl h1), rfl⟩, ?_⟩
    cases h2 with
    | nil => rw [qv] at p; exact PostE.run r1 x1 p
    | cons _ _ => rw [qv] at p; exact p _ H1 G1 r1 x1 q1 f1
  | _ => rw [qv] at p; exact p.elim

theorem freezeO_keep {i : Nat} : ∀ (os : List O) {env : Env}, os.any (O.isSl i) = false → (freezeO env os).at i = env.at i
  | [], _, _ => rfl
  | .sl j :: r, env, h => by
    rw [List.any_cons, Bool.or_eq_false_iff] at h
    have hj : ¬ j = i := by simpa [O.isSl] using h.1
    rw [freezeO, freezeO_keep r h.2, Env.freeze_at, if_neg fun z => hj z.1]
  | .fz _ :: r, env, h => by
    rw [List.any_cons, Bool.or_eq_false_iff] at h
    exact freezeO_keep r h.2
  | .fr _ :: r, env, h => by
    rw [List.any_cons, Bool.or_eq_false_iff] at h
    exact freezeO_keep r h.2
theorem Rel.extI {fa : Nat → Addr} {K : PySem.W.Frag} {i : Nat} {a : Addr} {ws' : List V} {io' : List D} (r : Rel fa K F G io env σ H) (hi : (env.at i).own = true) (hs : σ[i]? = some (some (.ref a))) (x : GrowI a G H G' H')
    (h : H' a = some (.lst ws')) (dd : DgAll fa K G' ws' io') : Rel fa K F G' io (env.set i (.ow io')) σ H' ∧ Ext F G G' := by
  obtain ⟨a0, q1, q2, q3⟩ := r.own i hi
  rw [hs] at q1
  cases q1
  have fh : ∀ b u, F b = some u → H' b = some u := fun b u e => x.same b u (fun z => by rw [z, q3.1] at e; cases e) (r.fh b u e)
  have hl : i < env.length := Env.at_lt fun z => by rw [z] at hi; cases hi
  have ow : ∀ j, (Env.at (env.set i (.ow io')) j).own = true → (env.at j).own = true := fun j hj => by
    rw [Env.at_set] at hj
    by_cases e : i = j
    · subst e; exact hi
    · rw [if_neg e] at hj; exact hj
  refine ⟨⟨by rw [List.length_set]; exact r.len, x.gh, fh, fun j d e => ?_, fun j hj => ?_, fun j k c hj hk => r.sep j k c (ow j hj) (ow k hk), fun a e h => r.io a e (ow 0 h)⟩, ⟨x.sup, fun b h1 h2 => x.new b (fun z => ?_) h2⟩⟩
  · rw [Env.at_set] at e
    by_cases q : i = j
    · rw [if_pos q, if_pos hl] at e; cases e
    · rw [if_neg q] at e
      obtain ⟨v, z1, z2⟩ := r.fz j d e
      exact ⟨v, z1, z2.mono x.sup⟩
  · by_cases q : i = j
    · subst q
      rw [Env.at_set, if_pos rfl, if_pos hl]
      exact ⟨a, hs, ⟨ws', h, dd⟩, q3.1, x.new a q2.there q3.2⟩
    · have hj' := ow j hj
      obtain ⟨c, z1, z2, z3⟩ := r.own j hj'
      have hc : c ≠ a := fun z => q (r.sep i j a hi hj' hs (by rw [z1, z]))
      rw [Env.at_set, if_neg q]
      exact ⟨c, z1, z2.mono x.sup fun u e => x.same c u hc e, z3.1, x.new c z2.there z3.2⟩
  · cases e : F b with
    | none => exact h1 e
    | some u => rw [r.fh b u e] at z; cases z
theorem RE.ioc {f i : Nat} {a : E} {Q : VK} (h : RE g (.io f i a) σ H Q) : ∃ v, σ[i]? = some (some v) ∧ RA g a σ H fun vs H1 => g.C.io f = true ∧ spI g.fa g.K g.ex (g.C.call f) (v :: vs) H1 Q fun cls dd H' => g.W cls dd σ H' := by
  obtain ⟨F, G, io, env, r0, p⟩ := h
  obtain ⟨xs0, ei, p⟩ := ifL_ow (P := fun r => PostE g F G io env σ r Q) id p
  obtain ⟨a0, s0, i0, f0⟩ := r0.own i (by rw [ei]; rfl)
  refine ⟨_, s0, (RA.all (P := fun r => PostE g F G io env σ r Q) r0 id (fun _ _ _ h => h) p).mono fun vs H1 ⟨G1, os, e1, r1, x1, q1, f1, p⟩ => ?_⟩
  by_cases hi : g.C.io f = true
  · rw [if_pos hi] at p
    refine ⟨hi, ?_⟩
    obtain ⟨xs, ei, p⟩ := ifL_ow (P := fun r => PostE g F G io env σ r Q) id p
    by_cases hn : os.any (O.isSl i) = true
    · rw [if_pos hn] at p; exact p.elim
    rw [if_neg hn] at p
    obtain ⟨G2, r2, x2, dd⟩ := r1.settle q1 f1
    have ei2 : (freezeO e1 os).at i = .ow xs := by rw [freezeO_keep os (by simpa using hn), ei]
    have hown : ((freezeO e1 os).at i).own = true := by rw [ei2]; rfl
    obtain ⟨a1, s1, i1, f1'⟩ := r2.own i hown
    rw [s0] at s1
    cases s1
    rw [ei2] at i1
    obtain ⟨ws, i1, i2⟩ := i1
    refine ⟨G2, a0, ws, vs, xs, _, rfl, r2.gh, i1, i2, f1'.2, dd, ?_⟩
    have keep : ∀ io' j, e1.at j ≠ .no → Env.at ((freezeO e1 os).set i (.ow io')) j ≠ .no := fun io' j h => by
      rw [Env.at_set]
      by_cases q : i = j
      · rw [if_pos q, if_pos (Env.at_lt (by rw [ei2]; simp))]; simp
      · rw [if_neg q]; exact freezeO_no os h
    cases qc : g.C.call f (.lst xs :: os.map (O.view e1)) with
    | stuck => rw [qc] at p; exact p
    | exc k x io' =>
      rw [qc] at p
      intro cls d H' G' ws' gr h1 h2 ex
      obtain ⟨r3, x3⟩ := r2.extI hown s0 gr h1 h2
      exact p H' G' r3 (x1.x.trans (x2.trans x3)) cls d ex
    | ok d fr io' =>
      rw [qc] at p
      intro v H' G' ws' gr h1 h2 rv
      obtain ⟨r3, x3⟩ := r2.extI hown s0 gr h1 h2
      have hg : Go F G env G' ((freezeO e1 os).set i (.ow io')) := ⟨x1.x.trans (x2.trans x3), fun j h => keep io' j (x1.keep j h)⟩
      cases fr with
      | false => exact p v H' G' r3 hg rv full0
      | true =>
        refine p v H' G' r3 hg ?_ full1
        obtain ⟨b, rfl, z1, z2, z3⟩ := rv
        refine ⟨b, rfl, z3, ⟨?_, z2⟩, fun j hj e => ?_⟩
        · cases q : F b with
          | none => rfl
          | some u => rw [r2.fh b u q] at z1; cases z1
        · rw [Env.at_set] at hj
          by_cases q : i = j
          · subst q
            rw [s0] at e
            cases e
            rw [i1] at z1; cases z1
          · rw [if_neg q] at hj
            obtain ⟨c, y1, y2, y3⟩ := r2.own j hj
            rw [e] at y1
            cases y1
            exact y2.there z1
  · rw [if_neg hi] at p; exact p.elim
end
end Ev
end
section
set_option linter.all false
set_option maxRecDepth 100000
namespace Ev
open PySem PySem.Spec PyProof.Rows L2

def putS : List Nat → List V → L2.St → L2.St
  | i :: is, v :: vs, σ => putS is vs (σ.set i (some v))
  | _, _, σ => σ
def putE (is : List Nat) (ds : List D) (env : Env) : Env := (is.zip ds).foldl (fun e p => e.set p.1 (.fz p.2)) env
def Yd (fa : Nat → Addr) (K : PySem.W.Frag) (k : IK) (G : Hp) (v : V) (d : D) : Prop := Dg fa K G v d ∨ (pairK k = true ∧ ∃ a vs ds, v = .ref a ∧ d = .tup ds ∧ SqT K G a vs ∧ DgAll fa K G vs ds)
def RG (g : Gh) (t : T) : TG := fun v σ H Q => ∃ G d, Sup G H ∧ (Dg g.fa g.K G v d ∨ ∃ a vs ds, v = .ref a ∧ d = .tup ds ∧ SqT g.K G a vs ∧ DgAll g.fa g.K G vs ds) ∧ match t with
  | .nm i => Q (σ.set i (some v)) H
  | .tu is => ∃ ds, seqOf d = some ds ∧ ds.length = is.length ∧ ∀ vs, DgAll g.fa g.K G vs ds → Q (putS is vs σ) H
def gNames : List Nat → TGs
  | [] => gNil
  | i :: r => gCons (gName i) (gNames r)
structure Yields (fa : Nat → Addr) (K : PySem.W.Frag) (k : IK) (G0 : Hp) (J : It) (items : List D) : Prop where
  stop : ∀ G H, Sup G0 G → Sup G H → J.stop items.length H
  go : ∀ G H i d, Sup G0 G → Sup G H → items[i]? = some d → J.go i H
  yld : ∀ G H i d x H', Sup G0 G → Sup G H → items[i]? = some d → J.yld i H x H' → ∃ G', Grow G H G' H' ∧ Yd fa K k G' x d
def PostI (g : Gh) (F G : Hp) (io : Option Addr) (env : Env) (σ : L2.St) (k : IK) (r : R (List O)) (Q : It → Hp → Prop) : Prop := match r with
  | .ok os e1 => ∃ items, itSem k (os.map (O.view e1)) = some items ∧ ∀ J H' G', Rel g.fa g.K F G' io (freezeO e1 os) σ H' → Go F G env G' (freezeO e1 os) → Yields g.fa g.K k G' J items → Q J H'
  | .exc k a e => XP g F G io σ k a e
  | .stuck => False
def RI (g : Gh) (k : IK) (m : E) : TI := fun σ H Q => ∃ F G io env, Rel g.fa g.K F G io env σ H ∧ PostI g F G io env σ k (evE g.C m env) Q
def PostS (g : Gh) (F G : Hp) (io : Option Addr) (r : R Fl) (D : Ends) : Prop := match r with
  | .ok .nx e => ∀ σ' H' G', Rel g.fa g.K F G' io e σ' H' → Ext F G G' → D.nx σ' H'
  | .ok .bk e => ∀ σ' H' G', Rel g.fa g.K F G' io e σ' H' → Ext F G G' → D.bk σ' H'
  | .ok .ct e => ∀ σ' H' G', Rel g.fa g.K F G' io e σ' H' → Ext F G G' → D.ct σ' H'
  | .ok (.rt d fr) e => ∀ v σ' H' G', Rel g.fa g.K F G' io e σ' H' → Ext F G G' → OR g.fa g.K F G' e σ' H' (if fr then .fr d else .fz d) v → D.rt v H'
  | .exc k a e => ∀ σ' H' G', Rel g.fa g.K F G' io e σ' H' → Ext F G G' → ∀ cls dd, g.ex k a cls dd H' → g.W cls dd σ' H'
  | .stuck => False
def RS (g : Gh) (b : Bool) (s : S) : TS := fun D σ H => ∃ F G io env, (io ≠ none → b = true) ∧ Rel g.fa g.K F G io env σ H ∧ PostS g F G io (evS g.C s env) D
section
variable {g : Gh} {F F' G G' H H' : Hp} {io : Option Addr} {env env' : Env} {σ : L2.St} {b : Bool}

theorem PostS.later {r : R Fl} {D : Ends} {G1 : Hp} (p : PostS g F G io r D) (x : Ext F G G1) : PostS g F G1 io r D := by
  cases r with
  | stuck => exact p
  | exc k a e => exact fun σ' H' G' r y => p σ' H' G' r (x.trans y)
  | ok f e =>
    cases f with
    | rt d fr => exact fun v σ' H' G' r y => p v σ' H' G' r (x.trans y)
    | nx => exact fun σ' H' G' r y => p σ' H' G' r (x.trans y)
    | bk => exact fun σ' H' G' r y => p σ' H' G' r (x.trans y)
    | ct => exact fun σ' H' G' r y => p σ' H' G' r (x.trans y)
theorem PostS.exc {D : Ends} : ∀ k x e, PostS g F G io (.exc k x e) D → XP g F G io σ k x e := fun _ _ _ p H' G' r y => p σ H' G' r y
theorem PostS.run {s : S} {D : Ends} {G1 : Hp} {e1 : Env} (hb : io ≠ none → b = true) (r1 : Rel g.fa g.K F G1 io e1 σ H) (x : Ext F G G1) (p : PostS g F G io (evS g.C s e1) D) : RS g b s D σ H := ⟨F, G1, io, e1, hb, r1, p.later x⟩

theorem PostS.mono {r : R Fl} {D D' : Ends} (p : PostS g F G io r D) (h1 : ∀ σ H, D.nx σ H → D'.nx σ H) (h2 : ∀ v H, D.rt v H → D'.rt v H) (h3 : ∀ σ H, D.bk σ H → D'.bk σ H) (h4 : ∀ σ H, D.ct σ H → D'.ct σ H) : PostS g F G io r D' := by
  cases r with
  | stuck => exact p
  | exc k a e => exact p
  | ok f e =>
    cases f with
    | rt d fr => exact fun v σ' H' G' r y q => h2 _ _ (p v σ' H' G' r y q)
    | nx => exact fun σ' H' G' r y => h1 _ _ (p σ' H' G' r y)
    | bk => exact fun σ' H' G' r y => h3 _ _ (p σ' H' G' r y)
    | ct => exact fun σ' H' G' r y => h4 _ _ (p σ' H' G' r y)
theorem RI.mono' {k : IK} {m : E} {Q Q' : It → Hp → Prop} (h : RI g k m σ H Q) (hq : ∀ J H', Q J H' → Q' J H') : RI g k m σ H Q' := by
  obtain ⟨F, G, io, env, r0, p⟩ := h
  refine ⟨F, G, io, env, r0, ?_⟩
  cases q : evE g.C m env with
  | stuck => rw [q] at p; exact p
  | exc k x e => rw [q] at p; exact p
  | ok os e1 =>
    rw [q] at p
    obtain ⟨items, ei, p⟩ := p
    exact ⟨items, ei, fun J H' G' a b c => hq _ _ (p J H' G' a b c)⟩
theorem RS.nop {D : Ends} (h : RS g b .nop D σ H) : D.nx σ H := by
  obtain ⟨F, G, io, env, hb, r0, p⟩ := h
  exact p σ H G r0 (.refl F G)
theorem RS.nev {D : Ends} (h : RS g b .nev D σ H) : False := by
  obtain ⟨F, G, io, env, hb, r0, p⟩ := h
  exact p
theorem RS.brk {D : Ends} (h : RS g b .brk D σ H) : D.bk σ H := by
  obtain ⟨F, G, io, env, hb, r0, p⟩ := h
  exact p σ H G r0 (.refl F G)
theorem RS.cnt {D : Ends} (h : RS g b .cnt D σ H) : D.ct σ H := by
  obtain ⟨F, G, io, env, hb, r0, p⟩ := h
  exact p σ H G r0 (.refl F G)
theorem RS.seq {s t : S} {D : Ends} (h : RS g b (.seq s t) D σ H) : tSeq (RS g b s) (RS g b t) D σ H := by
  obtain ⟨F, G, io, env, hb, r0, p⟩ := h
  refine ⟨F, G, io, env, hb, r0, ?_⟩
  have p : PostS g F G io (thenF (evS g.C t) (evS g.C s env)) D := p
  revert p
  cases evS g.C s env with
  | stuck => exact id
  | exc k a e => exact id
  | ok f e =>
    cases f with
    | rt d fr => exact id
    | bk => exact id
    | ct => exact id
    | nx => exact fun p σ' H' G' r1 x1 => PostS.run hb r1 x1 p
theorem RS.expr {m : E} {D : Ends} (h : RS g b (.expr m) D σ H) : RE g m σ H fun _ H1 => D.nx σ H1 := by
  obtain ⟨F, G, io, env, hb, r0, p⟩ := h
  exact (RE.one (P := fun r => PostS g F G io r D) r0 id PostS.exc p).mono fun v H1 ⟨G1, o, e1, r1, x1, q1, f1, p⟩ => p σ H1 G1 r1 x1.x
theorem RS.asg {m : E} {i : Nat} {D : Ends} (hi : b = true → i ≠ 0) (h : RS g b (.asg i m) D σ H) : RE g m σ H fun v H1 => D.nx (σ.set i (some v)) H1 := by
  obtain ⟨F, G, io, env, hb, r0, p⟩ := h
  refine (RE.one (P := fun r => PostS g F G io r D) r0 id PostS.exc p).mono fun v H1 ⟨G1, o, e1, r1, x1, q1, f1, p⟩ => ?_
  obtain ⟨G2, r2, x2⟩ := r1.store q1 f1 fun h => hi (hb h)
  exact p _ H1 G2 r2 (x1.x.trans x2)
theorem RS.ite {c : E} {s t : S} {D : Ends} (h : RS g b (.ite c s t) D σ H) : RT g c σ H fun k H1 => if k = true then RS g b s D σ H1 else RS g b t D σ H1 := by
  obtain ⟨F, G, io, env, hb, r0, p⟩ := h
  refine (RT.tst (P := fun r => PostS g F G io r D) r0 id PostS.exc p).mono fun k H1 ⟨G1, e1, r1, x1, p⟩ => ?_
  cases k with
  | true => exact PostS.run hb r1 x1.x p
  | false => exact PostS.run hb r1 x1.x p
theorem RS.ret {m : E} {D : Ends} (h : RS g b (.ret m) D σ H) : RE g m σ H D.rt := by
  obtain ⟨F, G, io, env, hb, r0, p⟩ := h
  refine (RE.one (P := fun r => PostS g F G io r D) r0 id PostS.exc p).mono fun v H1 ⟨G1, o, e1, r1, x1, q1, f1, p⟩ => ?_
  cases o with
  | fz d => exact p v σ H1 G1 r1 x1.x q1
  | fr d => exact p v σ H1 G1 r1 x1.x q1
  | sl j =>
    have q : σ[j]? = some (some v) := q1
    cases ho : (e1.at j).own with
    | false =>
      have p : PostS g F G io (.ok (.rt (e1.at j).d (e1.at j).own) (if (e1.at j).own = true then e1.set j .no else e1)) D := p
      rw [ho] at p
      have w := view1 r1 q1 f1
      refine p v σ H1 G1 r1 x1.x ?_
      cases e : e1.at j with
      | no => exact absurd e (f1 j (List.mem_singleton.mpr rfl))
      | fz d => exact r1.at e q
      | ow _ => rw [e] at ho; cases ho
      | od _ => rw [e] at ho; cases ho
    | true =>
      have p : PostS g F G io (.ok (.rt (e1.at j).d (e1.at j).own) (if (e1.at j).own = true then e1.set j .no else e1)) D := p
      rw [ho] at p
      obtain ⟨a, z1, z2, z3⟩ := r1.own j ho
      rw [q] at z1
      cases z1
      have ow : ∀ k, (Env.at (e1.set j .no) k).own = true → j ≠ k ∧ (e1.at k).own = true := fun k hk => by
        rw [Env.at_set] at hk
        by_cases e : j = k
        · rw [if_pos e] at hk; split at hk <;> cases hk
        · rw [if_neg e] at hk; exact ⟨e, hk⟩
      have r2 : Rel g.fa g.K F G1 io (e1.set j .no) σ H1 := by
        refine ⟨by rw [List.length_set]; exact r1.len, r1.gh, r1.fh, fun k d e => ?_, fun k hk => ?_, fun k l c hk hl => r1.sep k l c (ow k hk).2 (ow l hl).2, fun c e h => r1.io c e (ow 0 h).2⟩
        · rw [Env.at_set] at e
          by_cases z : j = k
          · rw [if_pos z] at e; split at e <;> cases e
          · rw [if_neg z] at e; exact r1.fz k d e
        · obtain ⟨z, hk'⟩ := ow k hk
          rw [Env.at_set, if_neg z]
          exact r1.own k hk'
      refine p _ σ H1 G1 r2 x1.x ⟨a, rfl, z2, z3, fun k hk e => ?_⟩
      obtain ⟨z, hk'⟩ := ow k hk
      exact z (r1.sep j k a ho hk' q e)

theorem gNames_ok : ∀ {is : List Nat} {vs : List V} {σ : L2.St} {Q : L2.St → Hp → Prop}, vs.length = is.length → Q (putS is vs σ) H → gNames is vs σ H Q
  | [], [], _, _, _, q => ⟨rfl, q⟩
  | [], _ :: _, _, _, h, _ => nomatch h
  | _ :: _, [], _, _, h, _ => nomatch h
  | i :: is, v :: vs, σ, Q, h, q => ⟨v, vs, rfl, gNames_ok (Nat.succ.inj h) q⟩
theorem Rel.puts : ∀ {is : List Nat} {vs : List V} {ds : List D} {env : Env} {σ : L2.St}, Rel g.fa g.K F G io env σ H → DgAll g.fa g.K G vs ds → Rel g.fa g.K F G io (putE is ds env) (putS is vs σ) H
  | [], _, _, _, _, r, _ => r
  | _ :: _, _, _, _, _, r, .nil => r
  | i :: is, _, _, env, σ, r, .cons h t => Rel.puts (is := is) (r.setFz h) t
theorem Yd.nm {k : IK} {i : Nat} {v : V} {d : D} (h : Yd g.fa g.K k G v d) (hk : pairOk k (.nm i) = true) : Dg g.fa g.K G v d := by
  rcases h with h | ⟨h, _⟩
  · exact h
  · simp [pairOk, h, isTu] at hk
theorem bind_ok {t : T} {k : IK} {v : V} {d : D} {e1 : Env} {Q : L2.St → Hp → Prop} (hk : pairOk k t = true) (h : Yd g.fa g.K k G v d) (r : Rel g.fa g.K F G io env σ H) (e : bind1 t d env = some e1) (q : ∀ σ2, Rel g.fa g.K F G io e1 σ2 H → Q σ2 H) : RG g t v σ H Q := by
  refine ⟨G, d, r.gh, h.imp id (·.2), ?_⟩
  cases t with
  | nm i => cases e; exact q _ (r.setFz (h.nm hk))
  | tu is =>
    have e : (match seqOf d with
      | some ds => if ds.length = is.length then some (putE is ds env) else none
      | none => none) = some e1 := e
    cases qs : seqOf d with
    | none => rw [qs] at e; cases e
    | some ds =>
      rw [qs] at e
      by_cases hl : ds.length = is.length
      · simp only [if_pos hl] at e
        cases e
        exact ⟨ds, rfl, hl, fun vs hv => q _ (r.puts hv)⟩
      · simp only [if_neg hl] at e; cases e
theorem wipe_set {σ : L2.St} {v : Option V} : ∀ {vs : List Nat} {i : Nat}, i ∈ vs → wipe (σ.set i v) vs = wipe σ vs
  | [], _, h => absurd h (by simp)
  | j :: vs, i, h => by
    unfold wipe
    by_cases hi : i ∈ vs
    · rw [wipe_set hi]
    · have e : i = j := by
        rcases List.mem_cons.mp h with e | e
        · exact e
        · exact absurd e hi
      subst e
      have : ∀ {vs : List Nat}, i ∉ vs → wipe (σ.set i v) vs = (wipe σ vs).set i v := fun {vs} => by
        induction vs with
        | nil => intro _; rfl
        | cons k vs ih =>
          intro h
          unfold wipe
          have h1 : ¬ k = i := fun e => h (by rw [e]; exact List.mem_cons_self)
          rw [ih fun z => h (List.mem_cons_of_mem _ z), List.set_comm _ _ (fun e => h1 e.symm)]
      rw [this hi, List.set_set]
theorem wipe_puts {own : List Nat} : ∀ {is : List Nat} {vs : List V} {σ : L2.St}, (∀ i ∈ is, i ∈ own) → wipe (putS is vs σ) own = wipe σ own
  | [], _, _, _ => by unfold putS; rfl
  | _ :: _, [], _, _ => by unfold putS; rfl
  | i :: is, v :: vs, σ, h => by
    show wipe (putS is vs (σ.set i (some v))) own = _
    rw [wipe_puts fun j hj => h j (List.mem_cons_of_mem _ hj), wipe_set (h i List.mem_cons_self)]
def tSl : T → List Nat
  | .nm i => [i]
  | .tu is => is
theorem bind_ok2 {t : T} {k : IK} {v : V} {d : D} {e1 : Env} {own : List Nat} {Q : L2.St → Hp → Prop} (hk : pairOk k t = true) (h : Yd g.fa g.K k G v d) (r : Rel g.fa g.K F G io env σ H) (e : bind1 t d env = some e1) (ht : ∀ i ∈ tSl t, i ∈ own)
    (q : ∀ σ2, Rel g.fa g.K F G io e1 σ2 H → wipe σ2 own = wipe σ own → Q σ2 H) : RG g t v σ H Q := by
  refine ⟨G, d, r.gh, h.imp id (·.2), ?_⟩
  cases t with
  | nm i => cases e; exact q _ (r.setFz (h.nm hk)) (wipe_set (ht i (by simp [tSl])))
  | tu is =>
    have e : (match seqOf d with
      | some ds => if ds.length = is.length then some (putE is ds env) else none
      | none => none) = some e1 := e
    cases qs : seqOf d with
    | none => rw [qs] at e; cases e
    | some ds =>
      rw [qs] at e
      by_cases hl : ds.length = is.length
      · simp only [if_pos hl] at e
        cases e
        exact ⟨ds, rfl, hl, fun vs hv => q _ (r.puts hv) (wipe_puts ht)⟩
      · simp only [if_neg hl] at e; cases e

theorem RS.unp {m : E} {t : T} {D : Ends} (h : RS g b (.unp t m) D σ H) : RE g m σ H fun v H1 => RG g t v σ H1 D.nx := by
  obtain ⟨F, G, io, env, hb, r0, p⟩ := h
  refine (RE.one (P := fun r => PostS g F G io r D) r0 id PostS.exc p).mono fun v H1 ⟨G1, o, e1, r1, x1, q1, f1, p⟩ => ?_
  obtain ⟨e2, eb, p⟩ := ifS_some (P := fun r => PostS g F G io r D) id p
  obtain ⟨G2, r2, x2, dg⟩ := r1.settle1 q1 f1
  exact bind_ok (k := .seq) rfl (.inl dg) r2 eb fun σ2 r3 => p σ2 H1 G2 r3 (x1.x.trans x2)

theorem RI.of {k : IK} {m : E} {f : List D → List O → Env → R Fl} {D : Ends} {F G : Hp} {io : Option Addr} {env : Env} (r0 : Rel g.fa g.K F G io env σ H)
    (p : PostS g F G io ((evE g.C m env).all fun os e1 => ifS (itSem k (os.map (O.view e1))) fun items => f items os e1) D) :
    RI g k m σ H fun J H1 => ∃ G1 os e1 items, Rel g.fa g.K F G1 io (freezeO e1 os) σ H1 ∧ Ext F G G1 ∧ Yields g.fa g.K k G1 J items ∧ PostS g F G io (f items os e1) D := by
  refine ⟨F, G, io, env, r0, ?_⟩
  cases q : evE g.C m env with
  | stuck => rw [q] at p; exact p
  | exc k x e => rw [q] at p; exact fun H' G' r y => p σ H' G' r y
  | ok os e1 =>
    rw [q] at p
    obtain ⟨items, ei, p⟩ := ifS_some (P := fun r => PostS g F G io r D) id p
    exact ⟨items, ei, fun J H' G' a b c => ⟨G', os, e1, items, a, b.x, c, p⟩⟩
theorem PostS.turn {next : Env → R Fl} {r : R Fl} {D : Ends} {G1 : Hp} (p : PostS g F G io (turnF next r) D) (x : Ext F G G1) :
    PostS g F G1 io r { D with
      nx := fun σ' H' => ∃ G2 e2, Rel g.fa g.K F G2 io e2 σ' H' ∧ Ext F G1 G2 ∧ PostS g F G io (next e2) D
      ct := fun σ' H' => ∃ G2 e2, Rel g.fa g.K F G2 io e2 σ' H' ∧ Ext F G1 G2 ∧ PostS g F G io (next e2) D
      bk := D.nx } := by
  cases r with
  | stuck => exact p
  | exc k a e => exact fun σ' H' G' r y => p σ' H' G' r (x.trans y)
  | ok f e =>
    cases f with
    | rt d fr => exact fun v σ' H' G' r y => p v σ' H' G' r (x.trans y)
    | nx => exact fun σ' H' G' r y => ⟨G', e, r, y, p⟩
    | ct => exact fun σ' H' G' r y => ⟨G', e, r, y, p⟩
    | bk => exact fun σ' H' G' r y => p σ' H' G' r (x.trans y)
theorem drop_get {α : Type} {l : List α} {i : Nat} {x : α} (h : l[i]? = some x) : l.drop i = x :: l.drop (i + 1) := by
  obtain ⟨h1, h2⟩ := List.getElem?_eq_some_iff.mp h
  rw [List.drop_eq_getElem_cons h1, h2]
theorem RS.for {k : IK} {m : E} {t : T} {s : S} {D : Ends} (hk : pairOk k t = true) (h : RS g b (.for t k m s) D σ H) : tFor (RI g k m) (RG g t) (RS g b s) D σ H := by
  obtain ⟨F, G, io, env, hb, r0, p⟩ := h
  refine RI.mono' (RI.of r0 p) fun J H1 ⟨G1, os, e1, items, r1, x1, y, p⟩ => ?_
  refine ⟨fun i m σ H => m = items.length - i ∧ i ≤ items.length ∧ ∃ G2 e2, Rel g.fa g.K F G2 io e2 σ H ∧ Ext F G G2 ∧ Sup G1 G2 ∧ PostS g F G io (forLoop t (evS g.C s) (items.drop i) e2) D,
    ⟨items.length, by simp, Nat.zero_le _, G1, _, r1, x1, .refl _, p⟩, ?_⟩
  rintro i m σ2 H2 ⟨rfl, hi, G2, e2, r2, x2, s2, p⟩
  by_cases hlt : i < items.length
  · have hg : items[i]? = some items[i] := List.getElem?_eq_getElem hlt
    rw [drop_get hg] at p
    obtain ⟨e3, eb, p⟩ := ifS_some (P := fun r => PostS g F G io r D) id p
    refine .inr ⟨y.go G2 H2 i _ s2 r2.gh hg, fun σ' H' => ∃ G3 e4, Rel g.fa g.K F G3 io e4 σ' H' ∧ Ext F G G3 ∧ Sup G1 G3 ∧ PostS g F G io (forLoop t (evS g.C s) (items.drop (i + 1)) e4) D, ?_, fun x H3 hy => ?_⟩
    · rintro σ' H' ⟨G3, e4, r4, x4, s4, p⟩
      exact ⟨items.length - (i + 1), by omega, rfl, hlt, G3, e4, r4, x4, s4, p⟩
    · obtain ⟨G3, gr, dg⟩ := y.yld G2 H2 i _ x H3 s2 r2.gh hg hy
      have r3 := r2.ext gr
      have x3 := x2.trans (gr.ext r2.fh)
      refine bind_ok hk dg r3 eb fun σ4 r4 => ⟨F, G3, io, e3, hb, r4, ?_⟩
      have pt := PostS.turn p x3
      have imp : ∀ σ' H', (∃ G2 e2, Rel g.fa g.K F G2 io e2 σ' H' ∧ Ext F G3 G2 ∧ PostS g F G io (forLoop t (evS g.C s) (items.drop (i + 1)) e2) D) → ∃ G3 e4, Rel g.fa g.K F G3 io e4 σ' H' ∧ Ext F G G3 ∧ Sup G1 G3 ∧ PostS g F G io (forLoop t (evS g.C s) (items.drop (i + 1)) e4) D :=
        fun σ' H' ⟨G5, e5, r5, x5, p5⟩ => ⟨G5, e5, r5, x3.trans x5, (s2.trans gr.sup).trans x5.sup, p5⟩
      exact PostS.mono pt imp (fun _ _ h => h) (fun _ _ h => h) imp
  · have e : i = items.length := by omega
    subst e
    rw [List.drop_length] at p
    exact .inl ⟨y.stop G2 H2 s2 r2.gh, p σ2 H2 G2 r2 x2⟩
theorem RS.while {c : E} {s : S} {D : Ends} (h : RS g b (.while c s) D σ H) : tWhile (RT g c) (RS g b s) D σ H := by
  obtain ⟨F, G, io, env, hb, r0, p⟩ := h
  refine ⟨fun m σ H => ∃ G2 e2, Rel g.fa g.K F G2 io e2 σ H ∧ Ext F G G2 ∧ PostS g F G io (whileLoop (evE g.C c) (evS g.C s) m e2) D, ⟨_, G, env, r0, .refl F G, p⟩, ?_⟩
  rintro m σ2 H2 ⟨G2, e2, r2, x2, p⟩
  cases m with
  | zero => exact p.elim
  | succ m =>
    refine (RT.tst (P := fun r => PostS g F G io r D) r2 id (fun k x e q => (PostS.exc k x e q).later x2) p).mono fun k H3 ⟨G3, e3, r3, x3, p⟩ => ?_
    cases k with
    | false => exact p σ2 H3 G3 r3 (x2.trans x3.x)
    | true =>
      rw [if_pos rfl] at p ⊢
      have y3 := x2.trans x3.x
      refine ⟨fun σ' H' => ∃ G5 e5, Rel g.fa g.K F G5 io e5 σ' H' ∧ Ext F G G5 ∧ PostS g F G io (whileLoop (evE g.C c) (evS g.C s) m e5) D, fun σ' H' ⟨G5, e5, r5, x5, p5⟩ => ⟨m, Nat.lt_succ_self m, G5, e5, r5, x5, p5⟩, F, G3, io, e3, hb, r3, ?_⟩
      have pt := PostS.turn p y3
      have imp : ∀ σ' H', (∃ G2 e2, Rel g.fa g.K F G2 io e2 σ' H' ∧ Ext F G3 G2 ∧ PostS g F G io (whileLoop (evE g.C c) (evS g.C s) m e2) D) → ∃ G5 e5, Rel g.fa g.K F G5 io e5 σ' H' ∧ Ext F G G5 ∧ PostS g F G io (whileLoop (evE g.C c) (evS g.C s) m e5) D :=
        fun σ' H' ⟨G5, e5, r5, x5, p5⟩ => ⟨G5, e5, r5, y3.trans x5, p5⟩
      exact PostS.mono pt imp (fun _ _ h => h) (fun _ _ h => h) imp
end
end Ev
end
section
set_option linter.all false
set_option maxRecDepth 100000
namespace Ev
open PySem PySem.Spec PyProof.Rows L2
section
variable {g : Gh} {F F' G G' H H' : Hp} {io : Option Addr} {env env' : Env} {σ : L2.St} {b : Bool}

theorem wipe_wipe {σ : L2.St} {vs : List Nat} : ∀ {us : List Nat}, (∀ i ∈ us, i ∈ vs) → wipe (wipe σ us) vs = wipe σ vs
  | [], _ => rfl
  | u :: us, h => by
    show wipe ((wipe σ us).set u none) vs = _
    rw [wipe_set (h u List.mem_cons_self), wipe_wipe fun i hi => h i (List.mem_cons_of_mem _ hi)]
theorem wipeE_at (env : Env) (j : Nat) : ∀ vs : List Nat, (wipeE env vs).at j = if j ∈ vs then .no else env.at j
  | [] => by simp [wipeE]
  | v :: vs => by
    rw [wipeE, Env.at_set, wipeE_at env j vs]
    by_cases h : v = j
    · subst h
      rw [if_pos rfl, if_pos List.mem_cons_self]
      split <;> rfl
    · rw [if_neg h]
      by_cases h2 : j ∈ vs
      · rw [if_pos h2, if_pos (List.mem_cons_of_mem _ h2)]
      · rw [if_neg h2, if_neg fun z => ?_]
        rcases List.mem_cons.mp z with z | z
        · exact h z.symm
        · exact h2 z
theorem wipeE_len (env : Env) : ∀ vs : List Nat, (wipeE env vs).length = env.length
  | [] => rfl
  | v :: vs => by rw [wipeE, List.length_set, wipeE_len env vs]
theorem backE_len (old env : Env) : ∀ vs : List Nat, (backE old env vs).length = env.length
  | [] => rfl
  | v :: vs => by rw [backE, List.length_set, backE_len old env vs]
theorem backE_at (old env : Env) (j : Nat) (hl : env.length = old.length) : ∀ vs : List Nat, (backE old env vs).at j = if j ∈ vs then old.at j else env.at j
  | [] => by simp [backE]
  | v :: vs => by
    rw [backE, Env.at_set, backE_at old env j hl vs]
    by_cases h : v = j
    · subst h
      rw [if_pos rfl, if_pos List.mem_cons_self, backE_len, hl]
      by_cases q : v < old.length
      · rw [if_pos q]
      · rw [if_neg q]
        cases e : Env.at old v with
        | no => rfl
        | _ => exact absurd (Env.at_lt (by rw [e]; simp)) q
    · rw [if_neg h]
      by_cases h2 : j ∈ vs
      · rw [if_pos h2, if_pos (List.mem_cons_of_mem _ h2)]
      · rw [if_neg h2, if_neg fun z => ?_]
        rcases List.mem_cons.mp z with z | z
        · exact h z.symm
        · exact h2 z
theorem freezeL_len : ∀ (vs : List Nat) (env : Env), (freezeL env vs).length = env.length
  | [], _ => rfl
  | v :: vs, env => by rw [freezeL, freezeL_len vs, Env.freeze_len]
theorem freezeL_no : ∀ (vs : List Nat) {env : Env} {j : Nat}, env.at j ≠ .no → (freezeL env vs).at j ≠ .no
  | [], _, _, h => h
  | v :: vs, env, j, h => freezeL_no vs (Env.freeze_no h)
theorem freezeL_own : ∀ (vs : List Nat) {env : Env} {j : Nat}, ((freezeL env vs).at j).own = true → (env.at j).own = true ∧ j ∉ vs
  | [], _, _, h => ⟨h, List.not_mem_nil⟩
  | v :: vs, env, j, h => by
    obtain ⟨h1, h2⟩ := freezeL_own vs (env := env.freeze v) h
    rw [Env.freeze_at] at h1
    split at h1
    · cases h1
    · rename_i q
      exact ⟨h1, fun z => by
        rcases List.mem_cons.mp z with z | z
        · exact q ⟨z.symm, h1⟩
        · exact h2 z⟩
theorem Rel.freezeL : ∀ (vs : List Nat) {G : Hp} {env : Env}, Rel g.fa g.K F G io env σ H → ∃ G', Rel g.fa g.K F G' io (freezeL env vs) σ H ∧ Ext F G G'
  | [], G, env, r => ⟨G, r, .refl F G⟩
  | v :: vs, G, env, r => by
    obtain ⟨G1, r1, x1, _⟩ := r.freeze v
    obtain ⟨G2, r2, x2⟩ := Rel.freezeL vs r1
    exact ⟨G2, r2, x1.trans x2⟩
theorem Rel.wipe (r : Rel g.fa g.K F G io env σ H) (vs : List Nat) : Rel g.fa g.K F G io (wipeE env vs) (wipe σ vs) H := by
  have at' : ∀ j, (wipeE env vs).at j ≠ .no → j ∉ vs ∧ (wipeE env vs).at j = env.at j := fun j h => by
    rw [wipeE_at] at h ⊢
    by_cases q : j ∈ vs
    · rw [if_pos q] at h; exact absurd rfl h
    · rw [if_neg q]; exact ⟨q, rfl⟩
  have own : ∀ j, ((wipeE env vs).at j).own = true → j ∉ vs ∧ (wipeE env vs).at j = env.at j := fun j h => at' j fun z => by rw [z] at h; cases h
  refine ⟨by rw [wipeE_len, wipe_length]; exact r.len, r.gh, r.fh, fun j d e => ?_, fun j hj => ?_, fun j k a hj hk e1 e2 => ?_, fun a e h => ?_⟩
  · obtain ⟨q, z⟩ := at' j (by rw [e]; simp)
    rw [z] at e
    rw [wipe_out q]
    exact r.fz j d e
  · obtain ⟨q, z⟩ := own j hj
    rw [z] at hj ⊢
    rw [wipe_out q]
    exact r.own j hj
  · obtain ⟨q, z⟩ := own j hj
    obtain ⟨q', z'⟩ := own k hk
    rw [z] at hj
    rw [z'] at hk
    rw [wipe_out q] at e1
    rw [wipe_out q'] at e2
    exact r.sep j k a hj hk e1 e2
  · obtain ⟨q, z⟩ := own 0 h
    rw [z] at h
    rw [wipe_out q]
    exact r.io a e h
theorem Rel.born (r : Rel g.fa g.K F G io env σ H) {p : Addr} {u : HO} (hp : H p = none) : Rel g.fa g.K (upd F p u) G io env σ (upd H p u) := by
  have s : Same H (upd H p u) := fun c o e => by rw [upd_ne (ne_of_none e hp)]; exact e
  refine ⟨r.len, r.gh.trans (.of s), fun c o e => ?_, r.fz, fun j hj => ?_, r.sep, r.io⟩
  · by_cases h : c = p
    · subst h; rw [upd_same] at e ⊢; exact e
    · rw [upd_ne h] at e ⊢; exact r.fh c o e
  · obtain ⟨a, h1, h2, h3⟩ := r.own j hj
    have ha : a ≠ p := fun z => h2.there (by rw [z]; exact hp)
    exact ⟨a, h1, h2.mono (.refl G) fun o e => s a o e, by rw [upd_ne ha]; exact h3.1, h3.2⟩
theorem Rel.poke {p : Addr} {u u' : HO} (r : Rel g.fa g.K (upd F p u) G io env σ H) (hp : G p = none) : Rel g.fa g.K (upd F p u') G io env σ (upd H p u') := by
  refine ⟨r.len, ⟨fun c xs hx e => ?_, fun c o e => ?_⟩, fun c o e => ?_, r.fz, fun j hj => ?_, r.sep, r.io⟩
  · rw [upd_ne (ne_of_none e hp)]; exact r.gh.ex c xs hx e
  · have hc : c ≠ p := fun z => by
      rcases e with e | ⟨o, e⟩ <;> rw [z, hp] at e <;> cases e
    rcases r.gh.rd c o e with q | ⟨z, q⟩
    · exact .inl (by rw [upd_ne hc]; exact q)
    · exact .inr ⟨z, by rw [upd_ne hc]; exact q⟩
  · by_cases h : c = p
    · subst h; rw [upd_same] at e ⊢; exact e
    · rw [upd_ne h] at e ⊢; exact r.fh c o (by rw [upd_ne h]; exact e)
  · obtain ⟨a, h1, h2, h3⟩ := r.own j hj
    have ha : a ≠ p := fun z => by have := h3.1; rw [z, upd_same] at this; cases this
    refine ⟨a, h1, h2.mono (.refl G) fun o e => by rw [upd_ne ha]; exact e, ?_, h3.2⟩
    have := h3.1
    rw [upd_ne ha] at this ⊢; exact this
theorem Ext.un {p : Addr} {u : HO} (x : Ext (upd F p u) G G') : Ext F G G' := ⟨x.sup, fun c h1 h2 => x.new c (fun z => by
  by_cases h : c = p
  · subst h; rw [upd_same] at z; cases z
  · rw [upd_ne h] at z; exact h1 z) h2⟩
theorem Ext.at_none {p : Addr} {u : HO} (x : Ext (upd F p u) G G') (h : G p = none) : G' p = none := x.new p (by rw [upd_same]; simp) h
theorem putE_no : ∀ {is : List Nat} {ds : List D} {env : Env} {j : Nat}, env.at j ≠ .no → (putE is ds env).at j ≠ .no
  | [], _, _, _, h => h
  | _ :: _, [], _, _, h => h
  | i :: is, d :: ds, env, j, h => putE_no (is := is) (ds := ds) (env := env.set i (.fz d)) (by
    rw [Env.at_set]
    by_cases q : i = j
    · subst q; rw [if_pos rfl, if_pos (Env.at_lt h)]; simp
    · rw [if_neg q]; exact h)
theorem bind1_no {t : T} {d : D} {e1 : Env} (e : bind1 t d env = some e1) {j : Nat} (h : env.at j ≠ .no) : e1.at j ≠ .no := by
  cases t with
  | nm i =>
    cases e
    rw [Env.at_set]
    by_cases q : i = j
    · subst q; rw [if_pos rfl, if_pos (Env.at_lt h)]; simp
    · rw [if_neg q]; exact h
  | tu is =>
    have e : (match seqOf d with
      | some ds => if ds.length = is.length then some (putE is ds env) else none
      | none => none) = some e1 := e
    cases qs : seqOf d with
    | none => rw [qs] at e; cases e
    | some ds =>
      rw [qs] at e
      by_cases hl : ds.length = is.length
      · simp only [if_pos hl] at e
        cases e
        exact putE_no h
      · simp only [if_neg hl] at e; cases e
theorem RI.ofP {β : Type} {P : R β → Prop} {k : IK} {m : E} {f : List D → List O → Env → R β} {F G : Hp} {io : Option Addr} {env : Env} (r0 : Rel g.fa g.K F G io env σ H) (hs : ¬ P .stuck)
    (hx : ∀ k x e, P (.exc k x e) → XP g F G io σ k x e) (p : P ((evE g.C m env).all fun os e1 => ifS (itSem k (os.map (O.view e1))) fun items => f items os e1)) :
    RI g k m σ H fun J H1 => ∃ G1 os e1 items, Rel g.fa g.K F G1 io (freezeO e1 os) σ H1 ∧ Go F G env G1 (freezeO e1 os) ∧ Yields g.fa g.K k G1 J items ∧ P (f items os e1) := by
  refine ⟨F, G, io, env, r0, ?_⟩
  cases q : evE g.C m env with
  | stuck => rw [q] at p; exact hs p
  | exc k x e => rw [q] at p; exact hx k x e p
  | ok os e1 =>
    rw [q] at p
    obtain ⟨items, ei, p⟩ := ifS_some (P := P) hs p
    exact ⟨items, ei, fun J H' G' a b c => ⟨G', os, e1, items, a, b, c, p⟩⟩

theorem comp_loop {vs : List Nat} {t : T} {k : IK} {tst elt : E} {D0 : Addr} {G1 : Hp} {J : It} {items dsF : List D} {eF : Env} {Z : Hp → Prop} {racc : List D} {acc : List V} (hk : pairOk k t = true) (ht : ∀ i ∈ tSl t, i ∈ vs)
    (r : Rel g.fa g.K (upd F D0 (.lst acc)) G io env (wipe σ vs) H) (hD : G D0 = none) (y : Yields g.fa g.K k G1 J items) (s1 : Sup G1 G) (dd : DgAll g.fa g.K G acc racc.reverse)
    (p : compLoop vs t (evE g.C tst) (evE g.C elt) items env racc = .ok dsF eF)
    (z : ∀ H' G' acc', Rel g.fa g.K (upd F D0 (.lst acc')) G' io eF (wipe σ vs) H' → Ext F G G' → G' D0 = none → DgAll g.fa g.K G' acc' dsF → (∀ j, j ∉ vs → env.at j ≠ .no → eF.at j ≠ .no) → Z H') :
    ∃ W : Nat → Nat → Hp → Prop, (∃ m, W 0 m H) ∧ ∀ i m H, W i m H →
      (J.stop i H ∧ Z H) ∨ (J.go i H ∧ ∃ Nx : Hp → Prop, (∀ H', Nx H' → ∃ m', m' < m ∧ W (i + 1) m' H') ∧ ∀ x H', J.yld i H x H' → RG g t x (wipe σ vs) H' fun σ2 H2 => wipe σ2 vs = wipe σ vs ∧ RT g tst σ2 H2 fun b H3 =>
        if b = true then RE g elt σ2 H3 fun y H4 => ∃ acc, H4 D0 = some (.lst acc) ∧ acc.length < sizeLine ∧ Nx (upd H4 D0 (.lst (acc ++ [y]))) else Nx H3) := by
  refine ⟨fun i m H => m = items.length - i ∧ i ≤ items.length ∧ ∃ G2 e2 acc2 racc2, Rel g.fa g.K (upd F D0 (.lst acc2)) G2 io e2 (wipe σ vs) H ∧ Ext F G G2 ∧ G2 D0 = none ∧ DgAll g.fa g.K G2 acc2 racc2.reverse ∧ (∀ j, j ∉ vs → env.at j ≠ .no → e2.at j ≠ .no) ∧
      compLoop vs t (evE g.C tst) (evE g.C elt) (items.drop i) e2 racc2 = .ok dsF eF, ⟨items.length, by simp, Nat.zero_le _, G, env, acc, racc, r, .refl F G, hD, dd, fun _ _ h => h, p⟩, ?_⟩
  rintro i m H2 ⟨rfl, hi, G2, e2, acc2, racc2, r2, x2, hD2, dd2, k2, p⟩
  have s2 : Sup G1 G2 := s1.trans x2.sup
  by_cases hlt : i < items.length
  · have hg : items[i]? = some items[i] := List.getElem?_eq_getElem hlt
    rw [drop_get hg] at p
    obtain ⟨e3, eb, p⟩ := ifS_some (P := fun r => r = .ok dsF eF) (fun h => nomatch h) p
    refine .inr ⟨y.go G2 H2 i _ s2 r2.gh hg, fun H' => ∃ G2 e2 acc2 racc2, Rel g.fa g.K (upd F D0 (.lst acc2)) G2 io e2 (wipe σ vs) H' ∧ Ext F G G2 ∧ G2 D0 = none ∧ DgAll g.fa g.K G2 acc2 racc2.reverse ∧ (∀ j, j ∉ vs → env.at j ≠ .no → e2.at j ≠ .no) ∧
      compLoop vs t (evE g.C tst) (evE g.C elt) (items.drop (i + 1)) e2 racc2 = .ok dsF eF, fun H' h => ⟨items.length - (i + 1), by omega, rfl, hlt, h⟩, fun x H3 hy => ?_⟩
    obtain ⟨G3, gr, dg⟩ := y.yld G2 H2 i _ x H3 s2 r2.gh hg hy
    have r3 := r2.ext gr
    have x3 := gr.ext r2.fh
    refine bind_ok2 hk dg r3 eb ht fun σ4 r4 w4 => ?_
    have w4 : wipe σ4 vs = wipe σ vs := by rw [w4, wipe_wipe fun _ h => h]
    refine ⟨w4, ?_⟩
    refine (RT.tst (P := fun r => r = .ok dsF eF) r4 (fun h => nomatch h) (fun _ _ _ h => nomatch h) p).mono fun k H5 ⟨G5, e5, r5, x5, p⟩ => ?_
    cases k with
    | false =>
      have p : compLoop vs t (evE g.C tst) (evE g.C elt) (items.drop (i + 1)) (wipeE e5 vs) racc2 = .ok dsF eF := p
      have x35 := x3.trans x5.x
      have r6 := r5.wipe vs
      rw [w4] at r6
      exact ⟨G5, _, acc2, racc2, r6, x2.trans x35.un, x35.at_none hD2, dd2.mono x35.sup, fun j hj h => by rw [wipeE_at, if_neg hj]; exact x5.keep j (bind1_no eb (k2 j hj h)), p⟩
    | true =>
      refine (RE.one (P := fun r => r = .ok dsF eF) r5 (fun h => nomatch h) (fun _ _ _ h => nomatch h) p).mono fun v H6 ⟨G6, o6, e6, r6, x6, q6, f6, p⟩ => ?_
      obtain ⟨G7, r7, x7, dg7⟩ := r6.settle1 q6 f6
      have x37 := x3.trans (x5.x.trans (x6.x.trans x7))
      by_cases hc : racc2.length < cap
      · have p : (if racc2.length < cap then compLoop vs t (evE g.C tst) (evE g.C elt) (items.drop (i + 1)) (wipeE (freezeO e6 [o6]) vs) (o6.view e6 :: racc2) else .stuck) = R.ok dsF eF := p
        rw [if_pos hc] at p
        refine ⟨acc2, r7.fh D0 _ upd_same, ?_, ?_⟩
        · rw [dd2.length, List.length_reverse, sizeLine_eq]; exact hc
        · have hD7 := x37.at_none hD2
          have r8 := (r7.poke (u' := .lst (acc2 ++ [v])) hD7).wipe vs
          rw [w4] at r8
          refine ⟨G7, _, _, _, r8, x2.trans x37.un, hD7, ?_, fun j hj h => ?_, p⟩
          · rw [List.reverse_cons]
            exact (dd2.mono x37.sup).append (.cons dg7 .nil)
          · rw [wipeE_at, if_neg hj]
            exact freezeO_no _ (x6.keep j (x5.keep j (bind1_no eb (k2 j hj h))))
      · have p : (if racc2.length < cap then compLoop vs t (evE g.C tst) (evE g.C elt) (items.drop (i + 1)) (wipeE (freezeO e6 [o6]) vs) (o6.view e6 :: racc2) else .stuck) = R.ok dsF eF := p
        rw [if_neg hc] at p
        cases p
  · have e : i = items.length := by omega
    subst e
    rw [List.drop_length] at p
    have p : R.ok racc2.reverse e2 = R.ok dsF eF := p
    cases p
    exact .inl ⟨y.stop G2 H2 s2 r2.gh, z H2 G2 acc2 r2 x2 hD2 dd2 k2⟩
theorem comp_back {Q : VK} {own : List Nat} {e0 eF : Env} {G0 G2 : Hp} {H0 : Hp} {ds : List D} {acc : List V} {D0 : Addr} (r0 : Rel g.fa g.K F G0 io (freezeL e0 own) σ H0) (hF : F D0 = none) (x0 : Go F G env G0 (freezeL e0 own))
    (p : PostE g F G io env σ (compEnd (freezeL e0 own) own (.ok ds eF)) Q) (r2 : Rel g.fa g.K (upd F D0 (.lst acc)) G2 io eF (wipe σ own) H) (x2 : Ext F G0 G2) (hD : G2 D0 = none) (dd : DgAll g.fa g.K G2 acc ds)
    (k : ∀ j, j ∉ own → (freezeL e0 own).at j ≠ .no → eF.at j ≠ .no) : Q (.ref D0) H := by
  have p : PostE g F G io env σ (if eF.length = (freezeL e0 own).length then .ok [.fr (.lst ds)] (backE (freezeL e0 own) eF own) else .stuck) Q := p
  by_cases hl : eF.length = (freezeL e0 own).length
  · rw [if_pos hl] at p
    have at' := backE_at (freezeL e0 own) eF (hl := hl) (vs := own)
    have ow : ∀ j, ((backE (freezeL e0 own) eF own).at j).own = true → j ∉ own ∧ (eF.at j).own = true := fun j h => by
      rw [at'] at h
      by_cases q : j ∈ own
      · rw [if_pos q] at h
        exact absurd q (freezeL_own own h).2
      · rw [if_neg q] at h
        exact ⟨q, h⟩
    have fF : ∀ a, (upd F D0 (.lst acc)) a = none → F a = none ∧ a ≠ D0 := fun a h => by
      have ha : a ≠ D0 := fun z => by rw [z, upd_same] at h; cases h
      rw [upd_ne ha] at h
      exact ⟨h, ha⟩
    have r3 : Rel g.fa g.K F G2 io (backE (freezeL e0 own) eF own) σ H := by
      refine ⟨by rw [backE_len, hl]; exact r0.len, r2.gh, fun b u e => r2.fh b u ?_, fun j d e => ?_, fun j hj => ?_, fun j k a hj hk h1 h2 => ?_, fun a e h => ?_⟩
      · rw [upd_ne (ne_of_none e hF)]; exact e
      · rw [at'] at e
        by_cases q : j ∈ own
        · rw [if_pos q] at e
          obtain ⟨v, h1, h2⟩ := r0.fz j d e
          exact ⟨v, h1, h2.mono x2.sup⟩
        · rw [if_neg q] at e
          obtain ⟨v, h1, h2⟩ := r2.fz j d e
          rw [wipe_out q] at h1
          exact ⟨v, h1, h2⟩
      · obtain ⟨q, h⟩ := ow j hj
        rw [at', if_neg q]
        obtain ⟨a, h1, h2, h3⟩ := r2.own j h
        rw [wipe_out q] at h1
        exact ⟨a, h1, h2, (fF a h3.1).1, h3.2⟩
      · obtain ⟨q, h⟩ := ow j hj
        obtain ⟨q', h'⟩ := ow k hk
        exact r2.sep j k a h h' (by rw [wipe_out q]; exact h1) (by rw [wipe_out q']; exact h2)
      · obtain ⟨q, h'⟩ := ow 0 h
        rw [← wipe_out q]
        exact r2.io a e h'
    refine p _ H G2 r3 (x0.trans ⟨x2, fun j h => ?_⟩) ⟨D0, rfl, ⟨acc, r2.fh D0 _ upd_same, dd⟩, ⟨hF, hD⟩, fun j hj e => ?_⟩ full1
    · rw [at']
      by_cases q : j ∈ own
      · rw [if_pos q]; exact h
      · rw [if_neg q]; exact k j q h
    · obtain ⟨q, h⟩ := ow j hj
      obtain ⟨a, h1, h2, h3⟩ := r2.own j h
      rw [wipe_out q, e] at h1
      cases h1
      exact (fF _ h3.1).2 rfl
  · rw [if_neg hl] at p; exact p.elim
theorem RE.comp {own : List Nat} {t : T} {k : IK} {src tst elt : E} {Q : VK} (hk : pairOk k t = true) (ht : ∀ i ∈ tSl t, i ∈ own) (h : RE g (.comp own t k src tst elt) σ H Q) : tLc (RI g k src) (RG g t) (RT g tst) (RE g elt) own σ H Q := by
  obtain ⟨F, G, io, env, r0, p⟩ := h
  refine (RI.ofP (P := fun r => PostE g F G io env σ r Q) r0 id (fun _ _ _ h => h) p).mono' fun J H1 ⟨G1, os, e1, items, r1, x1, y, p⟩ => ?_
  intro D0 hD0
  obtain ⟨G2, r2, x2⟩ := r1.freezeL own
  have g2 : Go F G env G2 (freezeL (freezeO e1 os) own) := x1.trans ⟨x2, fun j h => freezeL_no own h⟩
  cases q : compLoop own t (evE g.C tst) (evE g.C elt) items (wipeE (freezeL (freezeO e1 os) own) own) [] with
  | stuck => simp only [q] at p; exact p.elim
  | exc k a e => simp only [q] at p; exact p.elim
  | ok dsF eF =>
    simp only [q] at p
    have hF : F D0 = none := by
      cases e : F D0 with
      | none => rfl
      | some u => rw [r2.fh D0 u e] at hD0; cases hD0
    refine comp_loop (F := F) (G := G2) (io := io) (racc := []) (acc := []) (D0 := D0) hk ht ((r2.wipe own).born hD0) (r2.gh.none hD0) y x2.sup .nil q fun H' G' acc' r3 x3 hD3 dd3 k3 => ?_
    exact comp_back r2 hF g2 p r3 x3 hD3 dd3 fun j hj h => k3 j hj (by rw [wipeE_at, if_neg hj]; exact h)
theorem RE.comp2 {own : List Nat} {t t1 : T} {k k1 : IK} {src tst src1 tst1 elt : E} {Q : VK} (hk : pairOk k t = true) (hk1 : pairOk k1 t1 = true) (ht : ∀ i ∈ tSl t, i ∈ own) (ht1 : ∀ i ∈ tSl t1, i ∈ own) (h : RE g (.comp2 own (tSlots t1) t k src tst t1 k1 src1 tst1 elt) σ H Q) :
    tLc2 (RI g k src) (RG g t) (RT g tst) (RI g k1 src1) (RG g t1) (RT g tst1) (RE g elt) own (tSlots t1) σ H Q := by
  obtain ⟨F, G, io, env, r0, p⟩ := h
  refine (RI.ofP (P := fun r => PostE g F G io env σ r Q) r0 id (fun _ _ _ h => h) p).mono' fun J H1 ⟨G1, os, e1, items, r1, x1, y, p⟩ => ?_
  intro D0 hD0
  have ts : tSlots t1 = tSl t1 := by cases t1 <;> rfl
  obtain ⟨G2, r2, x2⟩ := r1.freezeL own
  have g2 : Go F G env G2 (freezeL (freezeO e1 os) own) := x1.trans ⟨x2, fun j h => freezeL_no own h⟩
  generalize hin : (fun (env : Env) (acc : List D) => (evE g.C src1 env).all fun os1 e1 => ifS (itSem k1 (os1.map (O.view e1))) fun items1 =>
        compLoop (tSlots t1) t1 (evE g.C tst1) (evE g.C elt) items1 (wipeE (freezeO e1 os1) (tSlots t1)) acc.reverse) = inner at p
  cases q : compLoop2 own t (evE g.C tst) inner items (wipeE (freezeL (freezeO e1 os) own) own) [] with
  | stuck => simp only [q] at p; exact p.elim
  | exc k a e => simp only [q] at p; exact p.elim
  | ok dsF eF =>
    simp only [q] at p
    have hF : F D0 = none := by
      cases e : F D0 with
      | none => rfl
      | some u => rw [r2.fh D0 u e] at hD0; cases hD0
    generalize hE0 : wipeE (freezeL (freezeO e1 os) own) own = E0 at q
    have r2' := (r2.wipe own).born (u := .lst []) hD0
    rw [hE0] at r2'
    refine ⟨fun i m H => m = items.length - i ∧ i ≤ items.length ∧ ∃ G3 e3 acc3 dacc3, Rel g.fa g.K (upd F D0 (.lst acc3)) G3 io e3 (wipe σ own) H ∧ Ext F G2 G3 ∧ G3 D0 = none ∧ DgAll g.fa g.K G3 acc3 dacc3 ∧ (∀ j, j ∉ own → E0.at j ≠ .no → e3.at j ≠ .no) ∧
      compLoop2 own t (evE g.C tst) inner (items.drop i) e3 dacc3 = .ok dsF eF, ⟨items.length, by simp, Nat.zero_le _, G2, E0, [], [], r2', .refl F G2, r2.gh.none hD0, .nil, fun _ _ h => h, q⟩, ?_⟩
    rintro i m H3 ⟨rfl, hi, G3, e3, acc3, dacc3, r3, x3, hD3, dd3, k3, q⟩
    have s3 : Sup G1 G3 := x2.sup.trans x3.sup
    by_cases hlt : i < items.length
    · have hg : items[i]? = some items[i] := List.getElem?_eq_getElem hlt
      rw [drop_get hg] at q
      obtain ⟨e4, eb, q⟩ := ifS_some (P := fun r => r = .ok dsF eF) (fun h => nomatch h) q
      refine .inr ⟨y.go G3 H3 i _ s3 r3.gh hg, fun H' => ∃ G3 e3 acc3 dacc3, Rel g.fa g.K (upd F D0 (.lst acc3)) G3 io e3 (wipe σ own) H' ∧ Ext F G2 G3 ∧ G3 D0 = none ∧ DgAll g.fa g.K G3 acc3 dacc3 ∧ (∀ j, j ∉ own → E0.at j ≠ .no → e3.at j ≠ .no) ∧
        compLoop2 own t (evE g.C tst) inner (items.drop (i + 1)) e3 dacc3 = .ok dsF eF, fun H' h => ⟨items.length - (i + 1), by omega, rfl, hlt, h⟩, fun x H4 hy => ?_⟩
      obtain ⟨G4, gr, dg⟩ := y.yld G3 H3 i _ x H4 s3 r3.gh hg hy
      have r4 := r3.ext gr
      have x4 := gr.ext r3.fh
      refine bind_ok2 hk dg r4 eb ht fun σ4 r5 w4 => ?_
      have w4 : wipe σ4 own = wipe σ own := by rw [w4, wipe_wipe fun _ h => h]
      refine ⟨w4, ?_⟩
      refine (RT.tst (P := fun r => r = .ok dsF eF) r5 (fun h => nomatch h) (fun _ _ _ h => nomatch h) q).mono fun k H5 ⟨G5, e5, r5, x5, q⟩ => ?_
      have x35 := x4.trans x5.x
      cases k with
      | false =>
        have q : compLoop2 own t (evE g.C tst) inner (items.drop (i + 1)) (wipeE e5 own) dacc3 = .ok dsF eF := q
        have r6 := r5.wipe own
        rw [w4] at r6
        exact ⟨G5, _, acc3, dacc3, r6, x3.trans x35.un, x35.at_none hD3, dd3.mono x35.sup, fun j hj h => by rw [wipeE_at, if_neg hj]; exact x5.keep j (bind1_no eb (k3 j hj h)), q⟩
      | true =>
        have q : (inner e5 dacc3).bind (fun acc' e6 => compLoop2 own t (evE g.C tst) inner (items.drop (i + 1)) (wipeE e6 own) acc') = .ok dsF eF := q
        subst hin
        refine (RI.ofP (P := fun r => R.bind r (fun acc' e6 => compLoop2 own t (evE g.C tst) _ (items.drop (i + 1)) (wipeE e6 own) acc') = .ok dsF eF) r5 (fun h => nomatch h) (fun _ _ _ h => nomatch h) q).mono' fun J1 H6 ⟨G6, os6, e6, items1, r6, x6, y1, q⟩ => ?_
        cases q2 : compLoop (tSlots t1) t1 (evE g.C tst1) (evE g.C elt) items1 (wipeE (freezeO e6 os6) (tSlots t1)) dacc3.reverse with
        | stuck => rw [q2] at q; exact nomatch q
        | exc k a e => rw [q2] at q; exact nomatch q
        | ok ds7 e7 =>
          rw [q2] at q
          have x36 := x35.trans x6.x
          refine ⟨_, (comp_loop (F := F) (G := G6) (io := io) (racc := dacc3.reverse) (acc := acc3) (D0 := D0) (vs := tSlots t1) (σ := σ4) hk1 (by rw [ts]; exact fun _ h => h) (r6.wipe _) (x36.at_none hD3) y1 (.refl _) (by rw [List.reverse_reverse]; exact dd3.mono x36.sup) q2 fun H' G' acc' r8 x8 hD8 dd8 k8 => ?_).choose_spec⟩
          have r9 := r8.wipe own
          rw [wipe_wipe (by rw [ts]; exact ht1), w4] at r9
          refine ⟨G', _, acc', ds7, r9, x3.trans (x36.un.trans x8), hD8, dd8, fun j hj h => ?_, q⟩
          rw [wipeE_at, if_neg hj]
          have hj1 : j ∉ tSlots t1 := fun z => hj (ht1 j (by rw [← ts]; exact z))
          refine k8 j hj1 ?_
          rw [wipeE_at, if_neg hj1]
          exact x6.keep j (x5.keep j (bind1_no eb (k3 j hj h)))
    · have e : i = items.length := by omega
      subst e
      rw [List.drop_length] at q
      have q : R.ok dacc3 e3 = R.ok dsF eF := q
      cases q
      refine .inl ⟨y.stop G3 H3 s3 r3.gh, comp_back r2 hF g2 p r3 x3 hD3 dd3 fun j hj h => k3 j hj ?_⟩
      rw [← hE0, wipeE_at, if_neg hj]
      exact h
end
end Ev
end
section
set_option linter.all false
set_option maxRecDepth 100000
namespace Ev
open PySem PySem.Spec PyProof.Rows L2
section
variable {g : Gh} {F F' G G' H H' : Hp} {io : Option Addr} {env env' : Env} {σ : L2.St} {b : Bool}

theorem Rel.rewrite {i : Nat} {a : Addr} {ws : List V} {ds : List D} (r : Rel g.fa g.K F G io env σ H) (hi : (env.at i).own = true) (hs : σ[i]? = some (some (.ref a))) (dd : DgAll g.fa g.K G ws ds) :
    Rel g.fa g.K F G io (env.set i (.ow ds)) σ (upd H a (.lst ws)) ∧ Ext F G G := by
  obtain ⟨a0, q1, q2, q3⟩ := r.own i hi
  rw [hs] at q1
  cases q1
  refine r.extI hi hs ⟨fun c u hc e => by rw [upd_ne hc]; exact e, .refl G, ⟨fun c xs hx e => ?_, fun c u e => ?_⟩, fun _ _ h => h⟩ upd_same dd
  · rw [upd_ne (ne_of_none e q3.2)]; exact r.gh.ex c xs hx e
  · have hc : c ≠ a := fun z => by
      rcases e with e | ⟨o, e⟩ <;> rw [z, q3.2] at e <;> cases e
    rcases r.gh.rd c u e with q | ⟨o, q⟩
    · exact .inl (by rw [upd_ne hc]; exact q)
    · exact .inr ⟨o, by rw [upd_ne hc]; exact q⟩
theorem own_ow {i : Nat} {ds : List D} (r : Rel g.fa g.K F G io env σ H) (e : env.at i = .ow ds) : ∃ a ws, σ[i]? = some (some (.ref a)) ∧ H a = some (.lst ws) ∧ DgAll g.fa g.K G ws ds := by
  obtain ⟨a, h1, h2, h3⟩ := r.own i (by rw [e]; rfl)
  rw [e] at h2
  obtain ⟨ws, h4, h5⟩ := h2
  exact ⟨a, ws, h1, h4, h5⟩
theorem ow_own {i : Nat} {ds : List D} {env : Env} (e : env.at i = .ow ds) : (env.at i).own = true := by rw [e]; rfl
theorem frO_own : ∀ (os : List O) {env : Env} {j : Nat}, ((freezeO env os).at j).own = true → (env.at j).own = true
  | [], _, _, h => h
  | .sl i :: r, env, j, h => Env.freeze_own (frO_own r h)
  | .fz _ :: r, env, j, h => frO_own r h
  | .fr _ :: r, env, j, h => frO_own r h

theorem RS.append {i : Nat} {m : E} {D : Ends} (h : RS g b (.append i m) D σ H) : ∃ v, σ[i]? = some (some v) ∧ tyV g.K "list" v H ∧ RE g m σ H fun y H2 => rAppend v [y] H2 fun _ H3 => D.nx σ H3 := by
  obtain ⟨F, G, io, env, hb, r0, p⟩ := h
  obtain ⟨xs0, ei, p⟩ := ifL_ow (P := fun r => PostS g F G io r D) id p
  obtain ⟨a, ws0, hs, ha, _⟩ := own_ow r0 ei
  refine ⟨_, hs, .inl ⟨rfl, ws0, .inl (.inl ha)⟩, (RE.one (P := fun r => PostS g F G io r D) r0 id PostS.exc p).mono fun v H1 ⟨G1, o, e1, r1, x1, q1, f1, p⟩ => ?_⟩
  obtain ⟨G2, r2, x2, dg⟩ := r1.settle1 q1 f1
  obtain ⟨xs, ei2, p⟩ := ifL_ow (P := fun r => PostS g F G io r D) id p
  obtain ⟨a2, ws, hs2, ha2, dd⟩ := own_ow r2 ei2
  rw [hs] at hs2
  cases hs2
  by_cases hc : xs.length < cap
  · rw [if_pos hc] at p
    refine ⟨a, ws, v, rfl, rfl, ha2, by rw [dd.length, sizeLine_eq]; exact hc, ?_⟩
    obtain ⟨r3, x3⟩ := r2.rewrite (ow_own ei2) hs (dd.append (.cons dg .nil))
    exact p σ _ G2 r3 (x1.x.trans x2)
  · rw [if_neg hc] at p; exact p.elim
theorem RS.extend {i : Nat} {m : E} {D : Ends} (h : RS g b (.extend i m) D σ H) : ∃ v, σ[i]? = some (some v) ∧ tyV g.K "list" v H ∧ RE g m σ H fun y H2 => rExtend v [y] H2 fun _ H3 => D.nx σ H3 := by
  obtain ⟨F, G, io, env, hb, r0, p⟩ := h
  obtain ⟨xs0, ei, p⟩ := ifL_ow (P := fun r => PostS g F G io r D) id p
  obtain ⟨a, ws0, hs, ha, _⟩ := own_ow r0 ei
  refine ⟨_, hs, .inl ⟨rfl, ws0, .inl (.inl ha)⟩, (RE.one (P := fun r => PostS g F G io r D) r0 id PostS.exc p).mono fun v H1 ⟨G1, o, e1, r1, x1, q1, f1, p⟩ => ?_⟩
  by_cases hsl : o.isSl i = true
  · rw [if_pos hsl] at p; exact p.elim
  rw [if_neg hsl] at p
  obtain ⟨G2, r2, x2, dg⟩ := r1.settle1 q1 f1
  obtain ⟨xs, ei2, p⟩ := ifL_ow (P := fun r => PostS g F G io r D) id p
  obtain ⟨a2, ws, hs2, ha2, dd⟩ := own_ow r2 ei2
  rw [hs] at hs2
  cases hs2
  cases qv : o.view e1 with
  | lst zs =>
    rw [qv] at p dg
    have p : PostS g F G io (if xs.length + zs.length ≤ cap then .ok .nx ((freezeO e1 [o]).set i (.ow (xs ++ zs))) else .stuck) D := p
    cases dg with
    | @lst c vz _ hz dz =>
      by_cases hc : xs.length + zs.length ≤ cap
      · rw [if_pos hc] at p
        refine ⟨a, c, ws, vz, rfl, rfl, ha2, r2.gh.lst _ _ hz, by rw [dd.length, dz.length, sizeLine_eq]; exact hc, ?_⟩
        obtain ⟨r3, x3⟩ := r2.rewrite (ow_own ei2) hs (dd.append dz)
        exact p σ _ G2 r3 (x1.x.trans x2)
      · rw [if_neg hc] at p; exact p.elim
  | _ => rw [qv] at p; exact p.elim
theorem atN_ixN : ∀ (n : Nat) (i : Int), atN n i = ixN n i := fun _ _ => rfl
theorem RS.seti {i : Nat} {k m : E} {D : Ends} (h : RS g b (.seti i k m) D σ H) : RE g m σ H fun v H1 => ∃ o, σ[i]? = some (some o) ∧ RE g k σ H1 fun j H2 => rSetL o j v H2 fun H3 => D.nx σ H3 := by
  obtain ⟨F, G, io, env, hb, r0, p⟩ := h
  refine (RE.one (P := fun r => PostS g F G io r D) r0 id PostS.exc p).mono fun v H1 ⟨G1, o, e1, r1, x1, q1, f1, p⟩ => ?_
  obtain ⟨G2, r2, x2, dg⟩ := r1.settle1 q1 f1
  obtain ⟨xs0, ei, p⟩ := ifL_ow (P := fun r => PostS g F G io r D) id p
  obtain ⟨a, ws0, hs, ha, _⟩ := own_ow r2 ei
  refine ⟨_, hs, (RE.one (P := fun r => PostS g F G io r D) r2 id (fun k x e q => (PostS.exc k x e q).later (x1.x.trans x2)) p).mono fun u H3 ⟨G3, ok, e3, r3, x3, q3, f3, p⟩ => ?_⟩
  obtain ⟨xs, ei2, p⟩ := ifL_ow (P := fun r => PostS g F G io r D) id p
  obtain ⟨j, ej, p⟩ := ifI_int (P := fun r => PostS g F G io r D) id p
  obtain ⟨xs', es, p⟩ := ifS_some (P := fun r => PostS g F G io r D) id p
  obtain ⟨a2, ws, hs2, ha2, dd⟩ := own_ow r3 ei2
  rw [hs] at hs2
  cases hs2
  unfold setAt at es
  cases en : atN xs.length j with
  | none => rw [en] at es; cases es
  | some n =>
    rw [en] at es
    cases es
    refine ⟨a, ws, j, n, rfl, OR.int r3 q3 f3 ej, ha2, by rw [dd.length, ← atN_ixN]; exact en, ?_⟩
    obtain ⟨r4, x4⟩ := r3.rewrite (ow_own ei2) hs (DgAll.set (dg.mono x3.x.sup) n dd)
    exact p σ _ G3 r4 (x1.x.trans (x2.trans x3.x))

def putR : List Nat → List V → L2.St → L2.St
  | i :: is, v :: vs, σ => (putR is vs σ).set i (some v)
  | _, _, σ => σ
def NoSl : List O → Prop
  | [] => True
  | .sl _ :: _ => False
  | _ :: r => NoSl r
theorem NoOwn.set {env : Env} {σ : L2.St} {a : Addr} {i : Nat} {s : Sl} {v : V} (h : NoOwn env σ a) (hv : s.own = true → v ≠ .ref a) (hl : env.length ≤ σ.length) : NoOwn (env.set i s) (σ.set i (some v)) a := fun j hj e => by
  rw [Env.at_set] at hj
  by_cases q : i = j
  · subst q
    rw [if_pos rfl] at hj
    by_cases hi : i < env.length
    · rw [if_pos hi] at hj
      rw [List.getElem?_set_self (Nat.lt_of_lt_of_le hi hl)] at e
      cases e
      exact hv hj rfl
    · rw [if_neg hi] at hj; cases hj
  · rw [if_neg q] at hj
    rw [List.getElem?_set_ne q] at e
    exact h j hj e
theorem par_ok : ∀ {is : List Nat} {os : List O} {vs : List V} {F' : Hp}, (∀ a, F' a = none → F a = none) → (io ≠ none → ∀ i ∈ is, i ≠ 0) → NoSl os → Rel g.fa g.K F G io env σ H → ORs g.fa g.K G env σ H F' os vs →
    Rel g.fa g.K F G io (parStore is os env) (putR is vs σ) H ∧ ∀ a, NoOwn env σ a → F' a ≠ none → NoOwn (parStore is os env) (putR is vs σ) a
  | [], os, vs, _, _, _, _, r, _ => ⟨by unfold parStore putR; exact r, fun a h _ => by unfold parStore putR; exact h⟩
  | _ :: _, [], [], _, _, _, _, r, _ => ⟨r, fun a h _ => h⟩
  | _ :: _, [], _ :: _, _, _, _, _, _, h => h.elim
  | _ :: _, _ :: _, [], _, _, _, _, _, h => h.elim
  | i :: is, o :: os, v :: vs, F', hF, hi, ns, r, ⟨h1, h2⟩ => by
    have h1' : OR g.fa g.K F G env σ H o v := by
      cases o with
      | fr d => obtain ⟨a, e, q1, q2, q3⟩ := h1; exact ⟨a, e, q1, ⟨hF a q2.1, q2.2⟩, q3⟩
      | fz d => exact h1
      | sl i => exact h1
    have ns' : NoSl os := by cases o <;> first | exact ns | exact ns.elim
    obtain ⟨r1, n1⟩ := par_ok (is := is) (os := os) (vs := vs) (F' := plus F' H o v) (fun a e => hF a (plus_none h1 e)) (fun z j hj => hi z j (List.mem_cons_of_mem _ hj)) ns' r h2
    have pl : ∀ a, F' a ≠ none → plus F' H o v a ≠ none := fun a q z => q (plus_none h1 z)
    cases o with
    | sl j => exact ns.elim
    | fz d => exact ⟨r1.setFz h1, fun a q z => (n1 a q (pl a z)).set (fun z => by cases z) r1.len⟩
    | fr d =>
      obtain ⟨c, rfl, q1, q2, q3⟩ := id h1
      have hc := n1 c q3 (plus_have (v := .ref c) h1)
      refine ⟨r1.setOwn ⟨c, rfl, q1, ⟨hF c q2.1, q2.2⟩, hc⟩ fun z => hi z i List.mem_cons_self, fun a q z => (n1 a q (pl a z)).set (fun _ e => ?_) r1.len⟩
      cases e
      exact z q2.1
theorem still_ok : ∀ {os : List O} {vs : List V} {F' : Hp} {G : Hp} {env : Env}, (∀ a, F' a = none → F a = none) → Rel g.fa g.K F G io env σ H → ORs g.fa g.K G env σ H F' os vs → Full env os →
    ∃ G', Rel g.fa g.K F G' io (freezeO env os) σ H ∧ Ext F G G' ∧ ORs g.fa g.K G' (freezeO env os) σ H F' (os.map (O.still env)) vs ∧ (∀ b, G b = none → (∀ i, (env.at i).own = true → σ[i]? ≠ some (some (.ref b))) → G' b = none)
  | [], [], F', G, env, _, r, _, _ => ⟨G, r, .refl F G, trivial, fun b h _ => h⟩
  | [], _ :: _, _, _, _, _, _, h, _ => h.elim
  | _ :: _, [], _, _, _, _, _, h, _ => h.elim
  | .fz d :: os, v :: vs, F', G, env, hF, r, ⟨h1, h2⟩, fu => by
    obtain ⟨G', r', x, oo, k⟩ := still_ok (F' := F') hF r h2 fun i hi => fu i (List.mem_cons_of_mem _ hi)
    exact ⟨G', r', x, ⟨Dg.mono x.sup h1, oo⟩, k⟩
  | .fr d :: os, v :: vs, F', G, env, hF, r, ⟨h1, h2⟩, fu => by
    obtain ⟨G', r', x, oo, k⟩ := still_ok (F' := plus F' H (.fr d) v) (fun a e => hF a (plus_none h1 e)) r h2 fun i hi => fu i (List.mem_cons_of_mem _ hi)
    obtain ⟨a, rfl, q1, q2, q3⟩ := h1
    refine ⟨G', r', x, ⟨⟨a, rfl, q1.mono x.sup fun _ q => q, ⟨q2.1, k a q2.2 q3⟩, fun j hj => q3 j (frO_own os hj)⟩, oo⟩, k⟩
  | .sl i :: os, v :: vs, F', G, env, hF, r, ⟨h1, h2⟩, fu => by
    obtain ⟨G1, r1, x1, k1⟩ := r.freeze i
    have h2' : ORs g.fa g.K G1 (env.freeze i) σ H F' os vs := ORs.know h2 x1.sup (fun b e1 e2 e3 e4 => k1 b e1 e4) fun j h => Env.freeze_own h
    obtain ⟨G', r', x, oo, k⟩ := still_ok (F' := F') hF r1 h2' fun j hj => Env.freeze_no (fu j (List.mem_cons_of_mem _ hj))
    have e0 : os.map (O.still (env.freeze i)) = os.map (O.still env) := List.map_congr_left fun o _ => by
      cases o with
      | sl j => exact congrArg O.fz (Env.freeze_d env i j)
      | _ => rfl
    rw [e0] at oo
    refine ⟨G', r', x1.trans x, ⟨Dg.mono x.sup ?_, oo⟩, fun b h q => k b (k1 b h q) fun j hj => q j (Env.freeze_own hj)⟩
    show Dg g.fa g.K G1 v (env.at i).d
    have hn := fu i List.mem_cons_self
    have e : (env.freeze i).at i = .fz (env.at i).d := by
      rw [Env.freeze_at]
      cases q : env.at i with
      | no => exact absurd q hn
      | fz d => simp [Sl.own, Sl.d]
      | ow d => simp [Sl.own, Sl.d]
      | od d => simp [Sl.own, Sl.d]
    exact r1.at e h1
theorem still_nosl (env : Env) : ∀ os : List O, NoSl (os.map (O.still env))
  | [] => trivial
  | .fz d :: r => still_nosl env r
  | .fr d :: r => still_nosl env r
  | .sl d :: r => still_nosl env r
theorem RS.par {is : List Nat} {m : E} {D : Ends} (hi : b = true → ∀ i ∈ is, i ≠ 0) (h : RS g b (.par is m) D σ H) : RA g m σ H fun vs H1 => vs.length = is.length ∧ D.nx (putR is vs σ) H1 := by
  obtain ⟨F, G, io, env, hb, r0, p⟩ := h
  refine (RA.all (P := fun r => PostS g F G io r D) r0 id PostS.exc p).mono fun vs H1 ⟨G1, os, e1, r1, x1, q1, f1, p⟩ => ?_
  by_cases hl : os.length = is.length
  · rw [if_pos hl] at p
    obtain ⟨G2, r2, x2, q2, _⟩ := still_ok (F := F) (fun _ e => e) r1 q1 f1
    refine ⟨q1.length ▸ hl, p _ H1 G2 ?_ (x1.x.trans x2)⟩
    exact (par_ok (fun _ e => e) (fun z => hi (hb z)) (still_nosl e1 os) r2 q2).1
  · rw [if_neg hl] at p; exact p.elim
end
end Ev
end
section
set_option linter.all false
set_option maxRecDepth 100000
namespace Ev
open PySem PySem.Spec PyProof.Rows L2
section
variable {g : Gh} {F F' G G' H H' : Hp} {io : Option Addr} {env env' : Env} {σ : L2.St} {b : Bool}
theorem RE.pop {i : Nat} {a : E} {Q : VK} (h : RE g (.pop i a) σ H Q) : ∃ v, σ[i]? = some (some v) ∧ tyV g.K "list" v H ∧ RE g a σ H fun y H2 => rPopAt v [y] H2 Q := by
  obtain ⟨F, G, io, env, r0, p⟩ := h
  obtain ⟨xs0, ei, p⟩ := ifL_ow (P := fun r => PostE g F G io env σ r Q) id p
  obtain ⟨l, ws0, hs, ha, _⟩ := own_ow r0 ei
  refine ⟨_, hs, .inl ⟨rfl, ws0, .inl (.inl ha)⟩, (RE.one (P := fun r => PostE g F G io env σ r Q) r0 id (fun _ _ _ h => h) p).mono fun v H1 ⟨G1, o, e1, r1, x1, q1, f1, p⟩ => ?_⟩
  obtain ⟨j, ej, p⟩ := ifI_int (P := fun r => PostE g F G io env σ r Q) id p
  obtain ⟨xs, ei2, p⟩ := ifL_ow (P := fun r => PostE g F G io env σ r Q) id p
  obtain ⟨k, ek, p⟩ := ifS_some (P := fun r => PostE g F G io env σ r Q) id p
  obtain ⟨d, ed, p⟩ := ifS_some (P := fun r => PostE g F G io env σ r Q) id p
  by_cases hc : (leN (-j) 1152921504606846976 && leN j 1152921504606846976) = true
  · rw [if_pos hc] at p
    rw [Bool.and_eq_true, leN_iff, leN_iff] at hc
    obtain ⟨l2, ws, hs2, ha2, dd⟩ := own_ow r1 ei2
    rw [hs] at hs2
    cases hs2
    obtain ⟨y, ey, dy⟩ := dd.get ed
    have hi : (e1.at i).own = true := ow_own ei2
    obtain ⟨r3, x3⟩ := r1.rewrite hi hs (dd.eraseIdx k)
    have hk := (ixN_seq (n := ws.length) (i := j) (j := k) (by rw [dd.length, ← atN_ixN]; exact ek)).1
    refine ⟨l, ws, j, k, y, rfl, by rw [OR.int r1 q1 f1 ej], ha2, by omega, by omega, hk, ey, ?_⟩
    refine p y _ G1 r3 ⟨x1.x, fun q hq => ?_⟩ dy full0
    rw [Env.at_set]
    by_cases e : i = q
    · rw [if_pos e, if_pos (Env.at_lt (by rw [ei2]; simp))]; simp
    · rw [if_neg e]; exact x1.keep q hq
  · rw [if_neg hc] at p; exact p.elim
end
end Ev
end
section
set_option linter.all false
set_option maxRecDepth 100000
namespace Ev
open PySem PySem.Spec PyProof.Rows L2 PySem.SeqAt
open PySem.W (alike alikeAll dataLt keyToksAll keyToks toks_all_cons dataLt_cons dataLt_int dataLt_str dataLt_tuple)

mutual
def toP : D → PyData
  | .non => .none
  | .bl b => .bool b
  | .int i => .int i
  | .str x => .str x
  | .tup ds => .tuple (toPs ds)
  | .lst ds => .list (toPs ds)
  | _ => .none
def toPs : List D → List PyData
  | [] => []
  | d :: ds => toP d :: toPs ds
end
theorem toPs_map : ∀ ds : List D, toPs ds = ds.map toP
  | [] => rfl
  | d :: ds => by rw [toPs, toPs_map ds, List.map_cons]
theorem toPs_length (ds : List D) : (toPs ds).length = ds.length := by rw [toPs_map, List.length_map]
mutual
theorem toP_plain : ∀ (n : Nat) (d : D), isData n d = true → (toP d).plain = true ∧ (toP d).depth ≤ n
  | n, .non, _ => ⟨rfl, by rw [toP]; exact Nat.zero_le _⟩
  | n, .bl b, _ => ⟨rfl, by rw [toP]; exact Nat.zero_le _⟩
  | n, .int b, _ => ⟨rfl, by rw [toP]; exact Nat.zero_le _⟩
  | n, .str b, _ => ⟨rfl, by rw [toP]; exact Nat.zero_le _⟩
  | 0, .tup ds, h => by simp [isData] at h
  | 0, .lst ds, h => by simp [isData] at h
  | n + 1, .tup ds, h => by
    obtain ⟨h1, h2⟩ := toPs_plain n ds (by simpa [isData] using h)
    exact ⟨by rw [toP, PyData.plain]; exact h1, by rw [toP, PyData.depth]; omega⟩
  | n + 1, .lst ds, h => by
    obtain ⟨h1, h2⟩ := toPs_plain n ds (by simpa [isData] using h)
    exact ⟨by rw [toP, PyData.plain]; exact h1, by rw [toP, PyData.depth]; omega⟩
  | n, .ro _, h => by simp [isData] at h
  | n, .fn _, h => by simp [isData] at h
  | n, .dic _, h => by simp [isData] at h
theorem toPs_plain : ∀ (n : Nat) (ds : List D), isDatas n ds = true → PyData.plainAll (toPs ds) = true ∧ PyData.depthAll (toPs ds) ≤ n
  | n, [], _ => ⟨rfl, by rw [toPs, PyData.depthAll]; exact Nat.zero_le _⟩
  | n, d :: ds, h => by
    rw [isDatas, Bool.and_eq_true] at h
    obtain ⟨h1, h2⟩ := toP_plain n d h.1
    obtain ⟨h3, h4⟩ := toPs_plain n ds h.2
    exact ⟨by rw [toPs, PyData.plainAll, h1, h3]; rfl, by rw [toPs, PyData.depthAll]; omega⟩
end
theorem beq_str (x y : Str) : (x == y) = decide (x = y) := rfl
mutual
theorem eqv_eq : ∀ (n m : Nat) (d e : D), isData n d = true → isData m e = true → PyData.eqv (toP d) (toP e) = eqD d e
  | n, m, .ro _, _, h, _ => by simp [isData] at h
  | n, m, .fn _, _, h, _ => by simp [isData] at h
  | n, m, .dic _, _, h, _ => by simp [isData] at h
  | n, m, .non, e, _, h => by cases e <;> first | (simp [isData] at h; done) | (simp [toP, PyData.eqv, eqD]; done)
  | n, m, .bl b, e, _, h => by cases e <;> first | (simp [isData] at h; done) | (simp [toP, PyData.eqv, eqD]; done)
  | n, m, .int i, e, _, h => by cases e <;> first | (simp [isData] at h; done) | (simp [toP, PyData.eqv, eqD]; done)
  | n, m, .str x, e, _, h => by
    cases e with
    | str y => rw [toP, toP, PyData.eqv, eqD]; rfl
    | _ => first | (simp [isData] at h; done) | (simp [toP, PyData.eqv, eqD]; done)
  | 0, m, .tup ds, e, h, _ => by simp [isData] at h
  | 0, m, .lst ds, e, h, _ => by simp [isData] at h
  | n + 1, 0, .tup ds, e, _, h => by cases e <;> first | (simp [isData] at h; done) | (simp [toP, PyData.eqv, eqD]; done)
  | n + 1, 0, .lst ds, e, _, h => by cases e <;> first | (simp [isData] at h; done) | (simp [toP, PyData.eqv, eqD]; done)
  | n + 1, m + 1, .tup ds, e, h1, h => by
    cases e with
    | tup es => rw [toP, toP, PyData.eqv, eqD]; exact eqvs_eq n m ds es (by simpa [isData] using h1) (by simpa [isData] using h)
    | _ => first | (simp [isData] at h; done) | (simp [toP, PyData.eqv, eqD]; done)
  | n + 1, m + 1, .lst ds, e, h1, h => by
    cases e with
    | lst es => rw [toP, toP, PyData.eqv, eqD]; exact eqvs_eq n m ds es (by simpa [isData] using h1) (by simpa [isData] using h)
    | _ => first | (simp [isData] at h; done) | (simp [toP, PyData.eqv, eqD]; done)
theorem eqvs_eq : ∀ (n m : Nat) (ds es : List D), isDatas n ds = true → isDatas m es = true → PyData.eqvAll (toPs ds) (toPs es) = eqDs ds es
  | n, m, [], [], _, _ => rfl
  | n, m, [], e :: es, _, _ => rfl
  | n, m, d :: ds, [], _, _ => rfl
  | n, m, d :: ds, e :: es, h, h' => by
    rw [isDatas, Bool.and_eq_true] at h h'
    rw [toPs, toPs, PyData.eqvAll, eqDs, eqv_eq n m d e h.1 h'.1, eqvs_eq n m ds es h.2 h'.2]
end
section
variable {fa : Nat → Addr} {K : PySem.W.Frag} {G H : Hp}
mutual
theorem Dg.dp (s : Sup G H) : ∀ {v : V} {d : D} (n : Nat), Dg fa K G v d → isData n d = true → Dp K H v (toP d)
  | _, _, _, .non, _ => .non
  | _, _, _, .bl b, _ => .bl b
  | _, _, _, .int i, _ => .int i
  | _, _, _, .str i, _ => .str i
  | _, _, 0, .tup _ _, h => by simp [isData] at h
  | _, _, 0, .lst _ _, h => by simp [isData] at h
  | _, _, n + 1, .tup h1 h2, h => by rw [toP]; exact .tup (s.seqD h1).seqT (DgAll.dp s n h2 (by simpa [isData] using h))
  | _, _, n + 1, .lst h1 h2, h => by rw [toP]; exact .lst (.inl (.inl (s.lst _ _ h1))) (DgAll.dp s n h2 (by simpa [isData] using h))
  | _, _, _, .ro _, h => by simp [isData] at h
  | _, _, _, .fn _, h => by simp [isData] at h
  | _, _, _, .dic _ _, h => by simp [isData] at h
theorem DgAll.dp (s : Sup G H) : ∀ {vs : List V} {ds : List D} (n : Nat), DgAll fa K G vs ds → isDatas n ds = true → DpAll K H vs (toPs ds)
  | _, _, _, .nil, _ => .nil
  | _, _, n, .cons h1 h2, h => by
    rw [isDatas, Bool.and_eq_true] at h
    rw [toPs]
    exact .cons (Dg.dp s n h1 h.1) (DgAll.dp s n h2 h.2)
end
theorem Vw.dp (s : Sup G H) {v : V} {d : D} {n : Nat} (w : Vw fa K G H v d) (h : isData n d = true) : Dp K H v (toP d) := by
  rcases w with w | ⟨a, rfl, w⟩
  · exact w.dp s n h
  · cases d with
    | lst ds =>
      obtain ⟨vs, h1, h2⟩ := w
      cases n with
      | zero => simp [isData] at h
      | succ n => rw [toP]; exact .lst (.inl (.inl h1)) (h2.dp s n (by simpa [isData] using h))
    | dic ds => simp [isData] at h
    | _ => exact w.elim
end

mutual
theorem alike_eq : ∀ (d e : D), alikeD d e = true → alike (toP d) (toP e) = true
  | .int _, e, h => by cases e <;> first | (simp [alikeD] at h; done) | rfl
  | .str _, e, h => by cases e <;> first | (simp [alikeD] at h; done) | rfl
  | .tup xs, e, h => by
    cases e with
    | tup ys => rw [toP, toP, alike]; exact alikes_eq xs ys (by simpa [alikeD] using h)
    | _ => simp [alikeD] at h
  | .non, e, h => by simp [alikeD] at h
  | .bl _, e, h => by simp [alikeD] at h
  | .lst _, e, h => by simp [alikeD] at h
  | .ro _, e, h => by simp [alikeD] at h
  | .fn _, e, h => by simp [alikeD] at h
  | .dic _, e, h => by simp [alikeD] at h
theorem alikes_eq : ∀ (ds es : List D), alikeDs ds es = true → alikeAll (toPs ds) (toPs es) = true
  | [], es, _ => by rw [toPs]; cases es <;> rfl
  | d :: ds, [], _ => rfl
  | d :: ds, e :: es, h => by
    rw [alikeDs, Bool.and_eq_true] at h
    rw [toPs, toPs, alikeAll, alike_eq d e h.1, alikes_eq ds es h.2]
    rfl
end
mutual
theorem alike_data : ∀ (d e : D), alikeD d e = true → PyData.eqv (toP d) (toP e) = eqD d e
  | .int _, e, h => by cases e <;> first | (simp [alikeD] at h; done) | (simp [toP, PyData.eqv, eqD]; done)
  | .str _, e, h => by
    cases e with
    | str y => rw [toP, toP, PyData.eqv, eqD]; rfl
    | _ => simp [alikeD] at h
  | .tup xs, e, h => by
    cases e with
    | tup ys => rw [toP, toP, PyData.eqv, eqD]; exact alikes_data xs ys (by simpa [alikeD] using h)
    | _ => simp [alikeD] at h
  | .non, e, h => by simp [alikeD] at h
  | .bl _, e, h => by simp [alikeD] at h
  | .lst _, e, h => by simp [alikeD] at h
  | .ro _, e, h => by simp [alikeD] at h
  | .fn _, e, h => by simp [alikeD] at h
  | .dic _, e, h => by simp [alikeD] at h
theorem alikes_data : ∀ (ds es : List D), alikeDs ds es = true → PyData.eqvAll (toPs ds) (toPs es) = eqDs ds es
  | [], [], _ => rfl
  | [], e :: es, _ => rfl
  | d :: ds, [], _ => rfl
  | d :: ds, e :: es, h => by
    rw [alikeDs, Bool.and_eq_true] at h
    rw [toPs, toPs, PyData.eqvAll, eqDs, alike_data d e h.1, alikes_data ds es h.2]
end
theorem lex_nil_more (d : PyData) (ds : List PyData) : PyProof.Rows.lexLt itemOrd (keyToksAll []) (keyToksAll (d :: ds)) = true := by
  rw [toks_all_cons]
  simp only [keyToksAll]
  rw [lex_diff (O := itemOrd) (by simp)]
  rfl
theorem lex_more_nil (d : PyData) (ds : List PyData) : PyProof.Rows.lexLt itemOrd (keyToksAll (d :: ds)) (keyToksAll []) = false := by
  rw [toks_all_cons]
  simp only [keyToksAll]
  rw [lex_diff (O := itemOrd) (by simp)]
  rfl
mutual
theorem lt_eq : ∀ (d e : D), alikeD d e = true → dataLt (toP d) (toP e) = ltD d e
  | .int i, e, h => by
    cases e with
    | int j => rw [toP, toP, ltD]; exact dataLt_int i j
    | _ => simp [alikeD] at h
  | .str x, e, h => by
    cases e with
    | str y => rw [toP, toP, ltD]; exact dataLt_str x y
    | _ => simp [alikeD] at h
  | .tup xs, e, h => by
    cases e with
    | tup ys => rw [toP, toP, ltD, dataLt_tuple]; exact lts_eq xs ys (by simpa [alikeD] using h)
    | _ => simp [alikeD] at h
  | .non, e, h => by simp [alikeD] at h
  | .bl _, e, h => by simp [alikeD] at h
  | .lst _, e, h => by simp [alikeD] at h
  | .ro _, e, h => by simp [alikeD] at h
  | .fn _, e, h => by simp [alikeD] at h
  | .dic _, e, h => by simp [alikeD] at h
theorem lts_eq : ∀ (ds es : List D), alikeDs ds es = true → PyProof.Rows.lexLt itemOrd (keyToksAll (toPs ds)) (keyToksAll (toPs es)) = ltDs ds es
  | [], [], _ => by rw [toPs, ltDs]; exact lex_irrefl _
  | [], e :: es, _ => by rw [toPs, toPs, ltDs]; exact (lex_nil_more (toP e) (toPs es))
  | d :: ds, [], _ => by rw [toPs, toPs, ltDs]; exact (lex_more_nil (toP d) (toPs ds))
  | d :: ds, e :: es, h => by
    rw [alikeDs, Bool.and_eq_true] at h
    rw [toPs, toPs, dataLt_cons (alike_eq d e h.1), ltDs, alike_data d e h.1, lt_eq d e h.1, lts_eq ds es h.2]
end
mutual
theorem alike_symm : ∀ (d e : D), alikeD d e = alikeD e d
  | .int _, e => by cases e <;> rfl
  | .str _, e => by cases e <;> rfl
  | .tup xs, e => by
    cases e with
    | tup ys => rw [alikeD, alikeD]; exact alikes_symm xs ys
    | _ => rfl
  | .non, e => by cases e <;> rfl
  | .bl _, e => by cases e <;> rfl
  | .lst _, e => by cases e <;> rfl
  | .ro _, e => by cases e <;> rfl
  | .fn _, e => by cases e <;> rfl
  | .dic _, e => by cases e <;> rfl
theorem alikes_symm : ∀ (ds es : List D), alikeDs ds es = alikeDs es ds
  | [], [] => rfl
  | [], e :: es => rfl
  | d :: ds, [] => rfl
  | d :: ds, e :: es => by rw [alikeDs, alikeDs, alike_symm d e, alikes_symm ds es]
end
theorem alikes_sym (ds es : List D) : alikeDs ds es = alikeDs es ds := alikes_symm ds es
end Ev
end
section
set_option linter.all false
set_option maxRecDepth 100000
namespace Ev
open PySem PySem.Spec PyProof.Rows L2
section
variable {X : Cx} {pins : List (Addr × Obj)} {σ : L2.St} {H : Hp} {s : Shared}
theorem laidT {h' : Heap} {a : Addr} {t' : Nat} {its : List Value} {xs : List V} {o : Obj} (I : Inv X pins σ H s) (k : ∀ b u, s.heap.get? b = some u → h'.get? b = some u) (hp : s.heap.objs.size ≤ a)
    (he : h'.get? a = some o) (hc : o.cls = .type "tuple") (hd : ∃ n, o.data = .seq its.toArray n) (rv : Vals xs its) (hz : xs.length ≤ sizeLine) :
    Inv X pins σ (upd H a (.frz o (.tup xs))) { s with heap := h', toks := t' } :=
  I.laid (o := .frz o (.tup xs)) k hp ⟨he, hz, its, rv, o, he, hc, hd⟩
def tTupF (t : TA) : TE := fun σ H Q => t σ H fun xs H1 => xs.length ≤ sizeLine ∧ ∀ p o, H1 p = none → o.dict = none → Q (.ref p) (upd H1 p (.frz o (.tup xs)))
theorem pe_tupF {es : List Expr} {t : TA} {k : Nat} {pos : Pos} (h : PA X es t) : PE X (.Tuple es k pos) (tTupF t) := by
  refine ⟨fun pins s σ H Q I hq => ?_⟩
  refine wpAny_Tuple_spliced (thn (h.run pos pins s σ H _ I hq) fun us s1 ⟨xs, H1, I1, r, z, q⟩ => ⟨by rw [← r.length]; exact z, ?_⟩)
  exact ⟨.ref s1.heap.objs.size, _, laidT (t' := s1.toks) I1 (fun b u e => Heap.get?_push_of_some _ e) (Nat.le_refl _) (Heap.get?_push_size _ rfl) rfl ⟨_, rfl⟩ r z, rfl, q _ _ (I1.hok.fresh (Nat.le_refl _)) rfl⟩
def rCatF (K : PySem.W.Frag) : R2 := fun x y H Q => ∃ a b xs ys, x = .ref a ∧ y = .ref b ∧ SqT K H a xs ∧ SqT K H b ys ∧ xs.length + ys.length ≤ sizeLine ∧
  (xs = [] → Q (.ref b) H) ∧ (xs ≠ [] → ys = [] → Q (.ref a) H) ∧ (xs ≠ [] → ys ≠ [] → ∀ p o, H p = none → o.dict = none → Q (.ref p) (upd H p (.frz o (.tup (xs ++ ys)))))
theorem op_catF : OpR X (binaryOp .Add) (rCatF X.K) := by
  intro pins s σ H x y v u Q I rx ry ⟨a, b, xs, ys, ex, ey, ha, hb, hz, q0, q1, q2⟩
  by_cases hx : xs = []
  · exact op_catA pins s σ H x y v u Q I rx ry ⟨a, b, xs, ys, ex, ey, ha, hb, hz, q0, q1, fun z => absurd hx z⟩
  by_cases hy : ys = []
  · exact op_catA pins s σ H x y v u Q I rx ry ⟨a, b, xs, ys, ex, ey, ha, hb, hz, q0, q1, fun _ z => absurd hy z⟩
  subst ex
  subst ey
  cases rx
  cases ry
  obtain ⟨its, r1, p1, _⟩ := I.tuple ha
  obtain ⟨its2, r2, p2, _⟩ := I.tuple hb
  refine HT.cat_tup p1 p2 (fun z => hx (r1.nil_iff.mp z)) (fun z => absurd (r2.nil_iff.mp z) hy) (fun z => ?_) (by rw [← r1.length, ← r2.length]; exact hz)
  exact ⟨.ref s.heap.objs.size, _, laidT (t' := s.toks) I (fun b ob q => Heap.get?_push_of_some _ q) (Nat.le_refl _) (Heap.get?_push_size _ rfl) rfl ⟨_, rfl⟩ (r1.append r2) (by rw [List.length_append]; exact hz), rfl, q2 hx hy _ _ (I.hok.fresh (Nat.le_refl _)) rfl⟩
def rSlF (K : PySem.W.Frag) : V → Option Int → Option Int → Hp → VK → Prop := fun x lo hi H Q => ∃ a xs, x = .ref a ∧ SqT K H a xs ∧
  (HT.sIx xs.length 0 lo = 0 ∧ HT.sIx xs.length xs.length hi = xs.length → Q (.ref a) H) ∧ (¬ (HT.sIx xs.length 0 lo = 0 ∧ HT.sIx xs.length xs.length hi = xs.length) → ∀ p o, H p = none → o.dict = none → Q (.ref p) (upd H p (.frz o (.tup (cutV xs lo hi)))))
theorem sl_tupF : SlR X (rSlF X.K) := by
  intro pins s σ H x v vl vu lo hi sl Q I rx hs pl pu ⟨a, xs, ex, hx, q1, q2⟩
  by_cases hw : HT.sIx xs.length 0 lo = 0 ∧ HT.sIx xs.length xs.length hi = xs.length
  · exact sl_tupA pins s σ H x v vl vu lo hi sl Q I rx hs pl pu ⟨a, xs, ex, hx, q1, fun z => absurd hw z⟩
  subst ex
  cases rx
  obtain ⟨its, r, ht, hz⟩ := I.tuple hx
  have hlen : its.toArray.size = xs.length := by rw [List.size_toArray]; exact r.length.symm
  refine ⟨"tuple", _, PyProof.Rows.slot_tuple_getitem.lookup, ht.typeIs, ?_⟩
  refine HT.getItem_tuple_cut ht hs pl pu (by rw [hlen]; exact hw) ?_ (by rw [hlen]; exact hz)
  rw [hlen]
  exact ⟨.ref s.heap.objs.size, _, laidT (t' := s.toks) (xs := cutV xs lo hi) I (fun b ob q => Heap.get?_push_of_some _ q) (Nat.le_refl _) (Heap.get?_push_size _ rfl) rfl ⟨_, rfl⟩ ((r.drop (HT.sIx xs.length 0 lo)).take (HT.sIx xs.length xs.length hi - HT.sIx xs.length 0 lo)) (Nat.le_trans (cutV_length xs lo hi) hz), rfl,
    q2 hw _ _ (I.hok.fresh (Nat.le_refl _)) rfl⟩
theorem call_tupleF : CallR X (.type "tuple") (fun xs H Q => ∃ p ys, xs = [.ref p] ∧ ((SqL X.K H p ys ∧ ∀ l o, H l = none → o.dict = none → Q (.ref l) (upd H l (.frz o (.tup ys)))) ∨ (SqT X.K H p ys ∧ Q (.ref p) H))) := by
  intro pins s σ H xs us Q I r ⟨p, ys, ex, h⟩
  rcases h with ⟨hq, q⟩ | ⟨hq, q⟩
  · subst ex
    obtain ⟨its, r', pl, hz⟩ := I.list hq
    have hlen := r'.length
    rw [Vals.ref1 r]
    refine call_tuple_list pl.isList (fun h' kp => ?_) (by simp only [List.size_toArray] <;> omega)
    have I1 : Inv X pins σ H { s with heap := h' } := I.kept (t' := s.toks) kp
    have I2 := laidT (t' := s.toks) (h' := h'.push { cls := .type "tuple", data := .seq its.toArray }) (a := h'.objs.size) (o := { cls := .type "tuple", data := .seq its.toArray }) I1 (fun b o e => Heap.get?_push_of_some _ e) (Nat.le_refl _) (Heap.get?_push_size _ rfl) rfl ⟨_, rfl⟩ r' hz
    exact ⟨.ref h'.objs.size, _, I2, rfl, q _ _ (I1.hok.fresh (Nat.le_refl _)) rfl⟩
  · exact call_tuple_of pins s σ H xs us Q I r ⟨p, ys, ex, .inr ⟨hq, q⟩⟩
theorem tup_obj {a : Addr} {xs : List V} (I : Inv X pins σ H s) (h : SqD X.K H a xs) : ∃ o its n, s.heap.get? a = some o ∧ o.cls = .type "tuple" ∧ o.dict = none ∧ o.data = .seq its n ∧ Vals xs its.toList ∧ xs.length ≤ sizeLine := by
  rcases h with ⟨o, h1, h2⟩ | ⟨o, its, n, h1, h2, h3, h4, h5, h6⟩
  · obtain ⟨e1, hz, its, rv, o', e2, c, n, d⟩ := (show ObjOk X.prog X.w H s.heap a (.frz o (.tup xs)) from I.hok a _ h1)
    rw [e1] at e2
    cases e2
    exact ⟨o, its.toArray, n, e1, c, h2, d, by simpa using rv, hz⟩
  · exact ⟨o, its, n, I.kIn a o h1, h2, h3, h4, h6, by rw [h6.length, Array.length_toList]; exact h5⟩
end
end Ev
end
section
set_option linter.all false
set_option maxRecDepth 100000
set_option maxHeartbeats 4000000
namespace Ev
open PySem PySem.Spec PyProof.Rows L2
theorem tuple_mul1 (l : Addr) (items : Array Value) (n : Nat) (dd : Option Addr) (sl : Array (Option Value)) (x : Int) (u : Tok) (c0 : (decide (x < -(2 ^ 63)) || decide (x ≥ 2 ^ 63)) = false) (c1 : (items.isEmpty || x == 1) = true) :
    Meets (Builtin.«tuple.__mul__» ⟨[.ref l, .int x u], []⟩) (fun _ R s => s.heap.get? l = some { cls := .type "tuple", dict := dd, data := .seq items n, slots := sl } ∧ R (.ok (.ret (Value.ref l))) s) :=
  .of_wp fun prog w A R s h => by
    obtain ⟨hp, g, d, tk, os⟩ := s
    obtain ⟨hl, h⟩ := h
    have f1 := AutoSeq1.idx_int
    wp_walk using wpAny_loadPart' hl
    repeat (first
      | (refine wpAny_ite_false (decide_eq_false (by rw [c0]; exact Bool.false_ne_true)) ?_; wp_walk using wpAny_loadPart' hl)
      | (refine wpAny_ite_true (decide_eq_true c1) ?_; wp_walk using wpAny_loadPart' hl))
    exact ⟨_, rfl, h⟩
theorem tuple_mul0 (l : Addr) (items : Array Value) (n : Nat) (dd : Option Addr) (sl : Array (Option Value)) (x : Int) (u : Tok) (c0 : (decide (x < -(2 ^ 63)) || decide (x ≥ 2 ^ 63)) = false) (c1 : (items.isEmpty || x == 1) = false) (c2 : (decide (x ≤ 0) || items.isEmpty) = true) :
    Meets (Builtin.«tuple.__mul__» ⟨[.ref l, .int x u], []⟩) (fun _ R s => s.heap.get? l = some { cls := .type "tuple", dict := dd, data := .seq items n, slots := sl } ∧
      R (.ok (.ret (Value.ref s.heap.objs.size))) { s with heap := s.heap.push { cls := Value.type "tuple", data := Data.seq #[] }, toks := s.toks }) :=
  .of_wp fun prog w A R s h => by
    obtain ⟨hp, g, d, tk, os⟩ := s
    obtain ⟨hl, h⟩ := h
    have f1 := AutoSeq1.idx_int
    wp_walk using wpAny_loadPart' hl
    repeat (first
      | (refine wpAny_ite_false (decide_eq_false (by rw [c0]; exact Bool.false_ne_true)) ?_; wp_walk using wpAny_loadPart' hl)
      | (refine wpAny_ite_false (decide_eq_false (by rw [c1]; exact Bool.false_ne_true)) ?_; wp_walk using wpAny_loadPart' hl)
      | (refine wpAny_ite_true (decide_eq_true c2) ?_; wp_walk using wpAny_loadPart' hl))
    exact ⟨_, rfl, h⟩
def rRepTF (K : PySem.W.Frag) : R2 := fun x y H Q => ∃ l k xs, x = .ref l ∧ y = .int k ∧ SqT K H l xs ∧ -1152921504606846976 ≤ k ∧ k ≤ 1000 ∧ xs.length ≤ 1000 ∧ (xs = [] ∨ k = 1 → Q (.ref l) H) ∧ (∀ p o, H p = none → o.dict = none → Q (.ref p) (upd H p (.frz o (.tup (List.replicate k.toNat xs).flatten))))
section
variable {X : Cx}
theorem op_repTF : OpR X (binaryOp .Mult) (rRepTF X.K) := by
  intro pins s σ H x y v u Q I rx ry h
  obtain ⟨l, k, xs, rfl, rfl, hT, h1, h2, hz, q1, q2⟩ := h
  cases rx
  obtain ⟨t, rfl⟩ := ry
  obtain ⟨its, r, ⟨⟨cls, dd, data, sl⟩, ho, hc, n, hd⟩, hs⟩ := I.tuple hT
  simp only at hc hd
  subst hc hd
  have hle : its.length = xs.length := r.length.symm
  have hsz0 : its.toArray.size = xs.length := by rw [List.size_toArray, hle]
  have c0 : (decide (k < -(2 ^ 63)) || decide (k ≥ 2 ^ 63)) = false := by
    rw [decide_eq_false (by omega), decide_eq_false (by omega)] <;> rfl
  have hn : H s.heap.objs.size = none := I.hok.fresh (Nat.le_refl _)
  have hemp : its.toArray.isEmpty = true ↔ xs = [] := by
    rw [Array.isEmpty_iff]
    constructor
    · intro e
      have : its = [] := by simpa using e
      rw [this] at hle
      exact List.eq_nil_of_length_eq_zero hle.symm
    · intro e
      rw [e] at hle
      have : its = [] := List.eq_nil_of_length_eq_zero hle
      rw [this]
  have run : ∀ {Q' : Value → Shared → Prop} {E' : Value → Shared → Prop}, wpAny (model X.prog X.w) X.A (call (.builtin "tuple.__mul__") [.ref l, .int k t]) Q' E' s → wpAny (model X.prog X.w) X.A (binaryOp .Mult (.ref l) (.int k t)) Q' E' s := fun hh =>
    wpAny_binaryOp_repeat_ref (T := "tuple") (U := "int") (by decide) ⟨_, ho, rfl⟩ (fun s' => typeIs_int s' k t) noFill_tuple_mul F.fills_int_mul F.slot_int_rmul repeat_tuple F.slot_int_index.lookup
      (call_meets F.slot_int_rmul (typeIs_int s k t) F.entry_int_rmul (F.args_int_rmul_2 _ _) (int_rmul_tuple k t l its.toArray n dd sl) ⟨ho, rfl, ⟨_, ho, rfl⟩, hh⟩)
  refine run ?_
  by_cases c1 : (its.toArray.isEmpty || k == 1) = true
  · refine call_meets F.slot_tuple_mul ⟨_, ho, rfl⟩ F.entry_tuple_mul (F.args_tuple_mul_2 _ _) (tuple_mul1 l its.toArray n dd sl k t c0 c1) ⟨ho, ⟨.ref l, H, I, rfl, q1 ?_⟩⟩
    rcases Bool.or_eq_true_iff.mp c1 with c | c
    · exact .inl (hemp.mp c)
    · exact .inr (by simpa using c)
  · have c1 : (its.toArray.isEmpty || k == 1) = false := by simpa using c1
    have laid : ∀ (us : List Value), Vals (List.replicate k.toNat xs).flatten us → (List.replicate k.toNat xs).flatten.length ≤ sizeLine → Inv X pins σ (upd H s.heap.objs.size (.frz { cls := Value.type "tuple", data := Data.seq us.toArray } (.tup (List.replicate k.toNat xs).flatten))) { s with heap := s.heap.push { cls := Value.type "tuple", data := Data.seq us.toArray }, toks := s.toks } := fun us hv hz =>
      I.laid (t' := s.toks) (o := .frz { cls := Value.type "tuple", data := Data.seq us.toArray } (.tup (List.replicate k.toNat xs).flatten)) (fun b ob q => Heap.get?_push_of_some _ q) (Nat.le_refl _) ⟨Heap.get?_push_size _ rfl, hz, us, hv, ⟨_, Heap.get?_push_size _ rfl, rfl, _, rfl⟩⟩
    have flen : ∀ k : Nat, k ≤ 1000 → (List.replicate k xs).flatten.length ≤ sizeLine := fun k hk => by
      rw [PyProof.Rows.lm_len_rep_flat, sizeLine_eq]
      have a1 : k * xs.length ≤ 1000 * 1000 := Nat.mul_le_mul hk hz
      omega
    by_cases c2 : (decide (k ≤ 0) || its.toArray.isEmpty) = true
    · have hk0 : k ≤ 0 := by
        rcases Bool.or_eq_true_iff.mp c2 with c | c
        · simpa using c
        · rw [c] at c1; cases c1
      have hk : k.toNat = 0 := by omega
      have := laid [] (by rw [hk]; exact .nil) (by rw [hk]; exact Nat.zero_le _)
      exact call_meets F.slot_tuple_mul ⟨_, ho, rfl⟩ F.entry_tuple_mul (F.args_tuple_mul_2 _ _) (tuple_mul0 l its.toArray n dd sl k t c0 c1 c2) ⟨ho, ⟨.ref s.heap.objs.size, _, this, rfl, q2 _ _ hn rfl⟩⟩
    · have c2 : (decide (k ≤ 0) || its.toArray.isEmpty) = false := by simpa using c2
      have hk0 : 0 < k := by
        have := (Bool.or_eq_false_iff.mp c2).1
        have : ¬ k ≤ 0 := by simpa using this
        omega
      have hm : ((its.toArray.size : Nat) : Int) * k ≤ 1000000 := by
        rw [hsz0]
        have a1 : ((xs.length : Nat) : Int) * k ≤ 1000 * k := Int.mul_le_mul_of_nonneg_right (by omega) (by omega)
        omega
      have c4 : Builtin.Tuple.tupleTooMany (((its.toArray.size : Nat) : Int) * k) = false := by
        unfold Builtin.Tuple.tupleTooMany
        rw [sizeLine_eq]
        exact decide_eq_false (by omega)
      have fl := flen k.toNat (by omega)
      have hv : Vals (List.replicate k.toNat xs).flatten (List.replicate k.toNat its).flatten := r.rep k.toNat
      have hl2 : (List.replicate k.toNat its).flatten.length ≤ sizeLine := by rw [← hv.length]; exact fl
      have := laid _ hv fl
      refine call_meets F.slot_tuple_mul ⟨_, ho, rfl⟩ F.entry_tuple_mul (F.args_tuple_mul_2 _ _) (tuple_mulW l its.toArray n dd sl k t c0 c1 c2 (by omega) c4 (by rw [size_rep, List.size_toArray]; exact hl2)) ⟨ho, ?_⟩
      rw [size_rep]
      exact ⟨.ref s.heap.objs.size, _, this, rfl, q2 _ _ hn rfl⟩
end
end Ev
end
section
set_option linter.all false
set_option maxRecDepth 100000
namespace Ev
open PySem PySem.Spec PyProof.Rows L2
theorem noS {α : Type} {d : α} {P : Prop} (e : none = some d) : P := nomatch e
section
variable {g : Gh} {X : Cx} {G H : Hp}
theorem KO.fz {o : Op} {d : D} {v : V} {Q : VK} (q : ∀ v H' G', Grow G H G' H' → RV g.fa g.K H G' H' (resO o d) v → Q v H') (s : Sup G H) (e : resO o d = .fz d) (h : Dg g.fa g.K G v d) : Q v H := q v H G (Grow.refl s) (by rw [e]; exact h)
theorem KO.newL {o : Op} {ds : List D} {vs : List V} {p : Addr} {Q : VK} (q : ∀ v H' G', Grow G H G' H' → RV g.fa g.K H G' H' (resO o (.lst ds)) v → Q v H') (s : Sup G H) (e : resO o (.lst ds) = .fr (.lst ds)) (h : DgAll g.fa g.K G vs ds) (hp : H p = none) : Q (.ref p) (upd H p (.lst vs)) :=
  q _ _ G (.hand s hp) (by rw [e]; exact ⟨p, rfl, hp, s.none hp, vs, upd_same, h⟩)
theorem KO.newT {o : Op} {ds : List D} {vs : List V} {p : Addr} {ob : Obj} {Q : VK} (q : ∀ v H' G', Grow G H G' H' → RV g.fa g.K H G' H' (resO o (.tup ds)) v → Q v H') (s : Sup G H) (h : DgAll g.fa g.K G vs ds) (hp : H p = none) (hd : ob.dict = none) : Q (.ref p) (upd H p (.frz ob (.tup vs))) := by
  have gr : Grow G H (upd G p (.frz ob (.tup vs))) (upd H p (.frz ob (.tup vs))) := .known s hp
  exact q _ _ _ gr (show Dg g.fa g.K _ _ (.tup ds) from .tup (.inl ⟨ob, upd_same, hd⟩) (h.mono gr.sup))
def KO1 (g : Gh) (o : Op) : V → Hp → VK → Prop := fun x H Q => KO g o [x] H Q
def KO2 (g : Gh) (o : Op) : R2 := fun x y H Q => KO g o [x, y] H Q
theorem Vw.lstL {v : V} {ds : List D} (h : Vw g.fa g.K G H v (.lst ds)) (s : Sup G H) : ∃ a vs, v = .ref a ∧ SqL g.K H a vs ∧ DgAll g.fa g.K G vs ds := by
  obtain ⟨a, vs, e, h1, h2⟩ := h.lst s
  exact ⟨a, vs, e, .inl (.inl h1), h2⟩
theorem Vw.ro {v : V} {ns : List Int} (h : Vw g.fa g.K G H v (.ro ns)) (s : Sup G H) : ∃ a, v = .ref a ∧ SqL g.K H a (ns.map V.int) := by
  rcases h with h | ⟨a, _, h⟩
  · cases h with
    | ro h1 => exact ⟨_, rfl, s.seqL h1⟩
  · exact h.elim

theorem ko_add (hK : X.K = g.K) : OpR X (binaryOp .Add) (KO2 g .add) := by
  intro pins s σ H x y v u Q I rx ry ⟨G, ds, d, sp, vw, e, q⟩
  match ds, vw with
  | [dx, dy], ⟨wx, wy, _⟩ =>
    cases dx <;> cases dy <;> first | exact noS e | skip
    · cases e
      exact op_add pins s σ H x y v u Q I rx ry ⟨_, _, wx.int, wy.int, KO.fz q sp rfl (.int _)⟩
    · rename_i a b
      have e : (if a.cps.size + b.cps.size ≤ cap then some (D.str ⟨a.cps ++ b.cps⟩) else none) = some d := e
      by_cases h : a.cps.size + b.cps.size ≤ cap
      · rw [if_pos h] at e; cases e
        exact op_add_str pins s σ H x y v u Q I rx ry ⟨a, b, wx.str, wy.str, by rw [sizeLine_eq]; exact h, KO.fz q sp rfl (.str _)⟩
      · rw [if_neg h] at e; cases e
    · rename_i a b
      have e : (if a.length + b.length ≤ cap then some (D.tup (a ++ b)) else none) = some d := e
      by_cases h : a.length + b.length ≤ cap
      · rw [if_pos h] at e; cases e
        obtain ⟨p1, vs1, rfl, h1, d1⟩ := wx.tup sp
        obtain ⟨p2, vs2, rfl, h2, d2⟩ := wy.tup sp
        have R : OpR X (binaryOp .Add) (rCatF g.K) := hK ▸ op_catF
        refine R pins s σ H _ _ v u Q I rx ry ⟨p1, p2, vs1, vs2, rfl, rfl, h1.seqT, h2.seqT, by rw [d1.length, d2.length, sizeLine_eq]; exact h, fun z => ?_, fun _ z => ?_, fun _ _ p ob hp hd => ?_⟩
        · subst z
          cases d1
          rcases wy with w | ⟨_, _, w⟩
          · exact KO.fz q sp rfl w
          · exact w.elim
        · subst z
          cases d2
          rcases wx with w | ⟨_, _, w⟩
          · exact KO.fz q sp rfl (by rw [List.append_nil]; exact w)
          · exact w.elim
        · exact KO.newT q sp (d1.append d2) hp hd
      · rw [if_neg h] at e; cases e
    · rename_i a b
      have e : (if a.length + b.length ≤ cap then some (D.lst (a ++ b)) else none) = some d := e
      by_cases h : a.length + b.length ≤ cap
      · rw [if_pos h] at e; cases e
        obtain ⟨p1, vs1, rfl, h1, d1⟩ := wx.lst sp
        obtain ⟨p2, vs2, rfl, h2, d2⟩ := wy.lst sp
        exact op_cat pins s σ H _ _ v u Q I rx ry ⟨p1, p2, vs1, vs2, rfl, rfl, h1, h2, by rw [d1.length, d2.length, sizeLine_eq]; exact h, fun p hp => KO.newL q sp rfl (d1.append d2) hp⟩
      · rw [if_neg h] at e; cases e
theorem ko_sub : OpR X (binaryOp .Sub) (KO2 g .sub) := by
  intro pins s σ H x y v u Q I rx ry ⟨G, ds, d, sp, vw, e, q⟩
  match ds, vw with
  | [dx, dy], ⟨wx, wy, _⟩ =>
    cases dx <;> cases dy <;> first | exact noS e | skip
    cases e
    exact op_sub pins s σ H x y v u Q I rx ry ⟨_, _, wx.int, wy.int, KO.fz q sp rfl (.int _)⟩
theorem ko_mul (hK : X.K = g.K) : OpR X (binaryOp .Mult) (KO2 g .mul) := by
  intro pins s σ H x y v u Q I rx ry ⟨G, ds, d, sp, vw, e, q⟩
  match ds, vw with
  | [dx, dy], ⟨wx, wy, _⟩ =>
    cases dx <;> cases dy <;> first | exact noS e | skip
    · rename_i i j
      have e : (if (b64 i || b64 j) = true then some (D.int (i * j)) else none) = some d := e
      by_cases h : (b64 i || b64 j) = true
      · rw [if_pos h] at e; cases e
        refine op_mul pins s σ H x y v u Q I rx ry ⟨_, _, wx.int, wy.int, ?_, KO.fz q sp rfl (.int _)⟩
        rcases Bool.or_eq_true_iff.mp h with h | h
        · exact .inl (b64_iff.mp h)
        · exact .inr (b64_iff.mp h)
      · rw [if_neg h] at e; cases e
    · rename_i xs k
      have e : (if (leN (-k) 1152921504606846976 && leN k 1000 && decide (xs.length ≤ 1000)) = true then some (D.tup (List.replicate k.toNat xs).flatten) else none) = some d := e
      by_cases h : (leN (-k) 1152921504606846976 && leN k 1000 && decide (xs.length ≤ 1000)) = true
      · rw [if_pos h] at e; cases e
        simp only [Bool.and_eq_true, decide_eq_true_eq, leN_iff] at h
        obtain ⟨p1, vs1, rfl, h1, d1⟩ := wx.tup sp
        have R : OpR X (binaryOp .Mult) (rRepTF g.K) := hK ▸ op_repTF
        refine R pins s σ H _ _ v u Q I rx ry ⟨p1, k, vs1, rfl, wy.int, h1.seqT, by omega, by omega, by rw [d1.length]; exact h.2, fun z => ?_, fun p ob hp hd => KO.newT q sp (d1.rep _) hp hd⟩
        have e : (List.replicate k.toNat xs).flatten = xs := by
          rcases z with z | z
          · subst z
            cases d1
            simp
          · subst z
            show (List.replicate 1 xs).flatten = xs
            simp
        rcases wx with w | ⟨_, _, w⟩
        · exact KO.fz q sp rfl (by rw [e]; exact w)
        · exact w.elim
      · rw [if_neg h] at e; cases e
    · rename_i xs k
      have e : (if (leN (-k) 1152921504606846976 && leN k 10000 && decide (xs.length ≤ 1000)) = true then some (D.lst (List.replicate k.toNat xs).flatten) else none) = some d := e
      by_cases h : (leN (-k) 1152921504606846976 && leN k 10000 && decide (xs.length ≤ 1000)) = true
      · rw [if_pos h] at e; cases e
        simp only [Bool.and_eq_true, decide_eq_true_eq, leN_iff] at h
        obtain ⟨p1, vs1, rfl, h1, d1⟩ := wx.lst sp
        refine op_rep pins s σ H _ _ v u Q I rx ry ⟨p1, k, vs1, rfl, wy.int, h1, by omega, by omega, ?_, fun p hp => KO.newL q sp rfl (d1.rep _) hp⟩
        rw [d1.length, sizeLine_eq]
        have h2 : k.toNat ≤ 10000 := by omega
        exact Nat.le_trans (Nat.mul_le_mul h.2 h2) (by decide)
      · rw [if_neg h] at e; cases e
theorem ko_fdiv : OpR X (binaryOp .FloorDiv) (KO2 g .fdiv) := by
  intro pins s σ H x y v u Q I rx ry ⟨G, ds, d, sp, vw, e, q⟩
  match ds, vw with
  | [dx, dy], ⟨wx, wy, _⟩ =>
    cases dx <;> cases dy <;> first | exact noS e | skip
    rename_i i j
    have e : (if (decide (0 < j) && leN j 1073741823) = true then some (D.int (i / j)) else none) = some d := e
    by_cases h : (decide (0 < j) && leN j 1073741823) = true
    · rw [if_pos h] at e; cases e
      exact op_fdiv pins s σ H x y v u Q I rx ry ⟨_, _, wx.int, wy.int, by rw [Bool.and_eq_true, decide_eq_true_eq, leN_iff] at h; show _ ∧ _; exact ⟨h.1, by omega⟩, KO.fz q sp rfl (.int _)⟩
    · rw [if_neg h] at e; cases e
theorem ko_mod : OpR X (binaryOp .Mod) (KO2 g .mod) := by
  intro pins s σ H x y v u Q I rx ry ⟨G, ds, d, sp, vw, e, q⟩
  match ds, vw with
  | [dx, dy], ⟨wx, wy, _⟩ =>
    cases dx <;> cases dy <;> first | exact noS e | skip
    rename_i i j
    have e : (if decide (0 < j) = true then some (D.int (i % j)) else none) = some d := e
    by_cases h : decide (0 < j) = true
    · rw [if_pos h] at e; cases e
      exact op_mod pins s σ H x y v u Q I rx ry ⟨_, _, wx.int, wy.int, by simpa using h, KO.fz q sp rfl (.int _)⟩
    · rw [if_neg h] at e; cases e
theorem ko_pow : OpR X (binaryOp .Pow) (KO2 g .pow) := by
  intro pins s σ H x y v u Q I rx ry ⟨G, ds, d, sp, vw, e, q⟩
  match ds, vw with
  | [dx, dy], ⟨wx, wy, _⟩ =>
    cases dx <;> cases dy <;> first | exact noS e | skip
    rename_i i j
    have e : (if (decide (0 ≤ j) && decide (j ≤ 1000) && decide (i.natAbs < 2 ^ 64)) = true then some (D.int (i ^ j.toNat)) else none) = some d := e
    by_cases h : (decide (0 ≤ j) && decide (j ≤ 1000) && decide (i.natAbs < 2 ^ 64)) = true
    · rw [if_pos h] at e; cases e
      simp only [Bool.and_eq_true, decide_eq_true_eq] at h
      exact op_pow pins s σ H x y v u Q I rx ry ⟨_, _, wx.int, wy.int, ⟨h.1.1, by omega, h.2⟩, KO.fz q sp rfl (.int _)⟩
    · rw [if_neg h] at e; cases e
theorem ko_neg : UnR X (unaryOp .USub) (KO1 g .neg) := by
  intro pins s σ H x v Q I rx ⟨G, ds, d, sp, vw, e, q⟩
  match ds, vw with
  | [dx], ⟨wx, _⟩ =>
    cases dx <;> first | exact noS e | skip
    cases e
    exact un_neg pins s σ H x v Q I rx ⟨_, wx.int, KO.fz q sp rfl (.int _)⟩

theorem two_data {x y dx dy : D} {d : D} {b : Bool} (e : (if (isData depthLine x && isData depthLine y) = true then some (D.bl b) else none) = some d) : isData depthLine x = true ∧ isData depthLine y = true ∧ d = .bl b := by
  by_cases h : (isData depthLine x && isData depthLine y) = true
  · rw [if_pos h] at e; cases e
    exact ⟨(Bool.and_eq_true_iff.mp h).1, (Bool.and_eq_true_iff.mp h).2, rfl⟩
  · rw [if_neg h] at e; cases e
theorem ko_eq (hK : X.K = g.K) (hu : X.A.units + 65 < cLine) : OpR X (compareOp .Eq) (KO2 g .eq) := by
  intro pins s σ H x y v u Q I rx ry ⟨G, ds, d, sp, vw, e, q⟩
  match ds, vw with
  | [dx, dy], ⟨wx, wy, _⟩ =>
    obtain ⟨h1, h2, rfl⟩ := two_data (dx := dx) (dy := dy) (show (if (isData depthLine dx && isData depthLine dy) = true then some (D.bl (eqD dx dy)) else none) = some d from e)
    have p1 := wx.dp sp h1
    have p2 := wy.dp sp h2
    rw [← hK] at p1 p2
    obtain ⟨as, r1⟩ := Dp.reads I _ _ _ p1 rx
    obtain ⟨bs, r2⟩ := Dp.reads I _ _ _ p2 ry
    obtain ⟨l1, m1⟩ := toP_plain _ _ h1
    obtain ⟨l2, m2⟩ := toP_plain _ _ h2
    refine SeqAt.eq_plain r1 r2 l1 l2 (by have hd : depthLine = 20 := rfl; omega) ⟨.bl _, H, I, rfl, ?_⟩
    rw [eqv_eq _ _ _ _ h1 h2]
    exact KO.fz q sp rfl (.bl _)
theorem ko_ne (hK : X.K = g.K) (hu : X.A.units + 65 < cLine) : OpR X (compareOp .NotEq) (KO2 g .ne) := by
  intro pins s σ H x y v u Q I rx ry ⟨G, ds, d, sp, vw, e, q⟩
  match ds, vw with
  | [dx, dy], ⟨wx, wy, _⟩ =>
    obtain ⟨h1, h2, rfl⟩ := two_data (dx := dx) (dy := dy) (show (if (isData depthLine dx && isData depthLine dy) = true then some (D.bl (!eqD dx dy)) else none) = some d from e)
    have p1 := wx.dp sp h1
    have p2 := wy.dp sp h2
    rw [← hK] at p1 p2
    obtain ⟨as, r1⟩ := Dp.reads I _ _ _ p1 rx
    obtain ⟨bs, r2⟩ := Dp.reads I _ _ _ p2 ry
    obtain ⟨l1, m1⟩ := toP_plain _ _ h1
    obtain ⟨l2, m2⟩ := toP_plain _ _ h2
    refine SeqAt.ne_plain r1 r2 l1 l2 (by have hd : depthLine = 20 := rfl; omega) ⟨.bl _, H, I, rfl, ?_⟩
    rw [eqv_eq _ _ _ _ h1 h2]
    exact KO.fz q sp rfl (.bl _)
theorem cmp_tup (hK : X.K = g.K) (hu : X.A.units + 65 < cLine) {pins : List (Addr × Obj)} {s : Shared} {σ : L2.St} {x y : V} {u v : Value} {xs ys : List D} {b : Bool} {d : D} (I : Inv X pins σ H s) (sp : Sup G H) (wx : Vw g.fa g.K G H x (.tup xs)) (wy : Vw g.fa g.K G H y (.tup ys)) (rx : RelV x v) (ry : RelV y u)
    (e : (if (alikeDs xs ys && isDatas 19 xs && isDatas 19 ys) = true then some (D.bl b) else none) = some d) : d = .bl b ∧ ∃ as bs, Reads s.heap v (toP (.tup xs)) as ∧ Reads s.heap u (toP (.tup ys)) bs ∧ PySem.W.alike (toP (.tup xs)) (toP (.tup ys)) = true ∧ toP (.tup xs) ≠ .none ∧
      X.A.units + min (toP (.tup xs)).depth (toP (.tup ys)).depth < cLine ∧ PySem.W.dataLt (toP (.tup xs)) (toP (.tup ys)) = ltDs xs ys ∧ PySem.W.dataLt (toP (.tup ys)) (toP (.tup xs)) = ltDs ys xs := by
  by_cases hc : (alikeDs xs ys && isDatas 19 xs && isDatas 19 ys) = true
  · rw [if_pos hc] at e
    cases e
    rw [Bool.and_eq_true, Bool.and_eq_true] at hc
    obtain ⟨⟨c1, c2⟩, c3⟩ := hc
    have h1 : isData depthLine (.tup xs) = true := c2
    have h2 : isData depthLine (.tup ys) = true := c3
    have al : alikeD (.tup xs) (.tup ys) = true := c1
    have al2 : alikeD (.tup ys) (.tup xs) = true := by rw [alikeD, alikes_sym]; exact c1
    have p1 := wx.dp sp h1
    have p2 := wy.dp sp h2
    rw [← hK] at p1 p2
    obtain ⟨as, r1⟩ := Dp.reads I _ _ _ p1 rx
    obtain ⟨bs, r2⟩ := Dp.reads I _ _ _ p2 ry
    obtain ⟨l1, m1⟩ := toP_plain _ _ h1
    obtain ⟨l2, m2⟩ := toP_plain _ _ h2
    exact ⟨rfl, as, bs, r1, r2, alike_eq _ _ al, by rw [toP]; exact fun z => (by cases z), by have hd : depthLine = 20 := rfl; omega, lt_eq _ _ al, lt_eq _ _ al2⟩
  · rw [if_neg hc] at e; cases e
theorem ko_lt (hK : X.K = g.K) (hu : X.A.units + 65 < cLine) : OpR X (compareOp .Lt) (KO2 g .lt) := by
  intro pins s σ H x y v u Q I rx ry ⟨G, ds, d, sp, vw, e, q⟩
  match ds, vw with
  | [dx, dy], ⟨wx, wy, _⟩ =>
    cases dx <;> cases dy <;> first | exact noS e | skip
    · cases e
      exact op_lt pins s σ H x y v u Q I rx ry ⟨_, _, wx.int, wy.int, KO.fz q sp rfl (.bl _)⟩
    · obtain ⟨rfl, as, bs, r1, r2, al, hn, hr, e1, e2⟩ := cmp_tup hK hu I sp wx wy rx ry e
      refine PySem.W.lt_data r1 r2 al hn hr ?_
      rw [e1]
      exact ⟨.bl _, H, I, rfl, KO.fz q sp rfl (.bl _)⟩
theorem ko_le (hK : X.K = g.K) (hu : X.A.units + 65 < cLine) : OpR X (compareOp .LtE) (KO2 g .le) := by
  intro pins s σ H x y v u Q I rx ry ⟨G, ds, d, sp, vw, e, q⟩
  match ds, vw with
  | [dx, dy], ⟨wx, wy, _⟩ =>
    cases dx <;> cases dy <;> first | exact noS e | skip
    · cases e
      exact op_le pins s σ H x y v u Q I rx ry ⟨_, _, wx.int, wy.int, KO.fz q sp rfl (.bl _)⟩
    · obtain ⟨rfl, as, bs, r1, r2, al, hn, hr, e1, e2⟩ := cmp_tup hK hu I sp wx wy rx ry e
      refine PySem.W.le_data r1 r2 al hn hr ?_
      rw [e2]
      exact ⟨.bl _, H, I, rfl, KO.fz q sp rfl (.bl _)⟩
theorem ko_gt (hK : X.K = g.K) (hu : X.A.units + 65 < cLine) : OpR X (compareOp .Gt) (KO2 g .gt) := by
  intro pins s σ H x y v u Q I rx ry ⟨G, ds, d, sp, vw, e, q⟩
  match ds, vw with
  | [dx, dy], ⟨wx, wy, _⟩ =>
    cases dx <;> cases dy <;> first | exact noS e | skip
    · cases e
      exact op_gt pins s σ H x y v u Q I rx ry ⟨_, _, wx.int, wy.int, KO.fz q sp rfl (.bl _)⟩
    · obtain ⟨rfl, as, bs, r1, r2, al, hn, hr, e1, e2⟩ := cmp_tup hK hu I sp wx wy rx ry e
      refine PySem.W.gt_data r1 r2 al hn hr ?_
      rw [e2]
      exact ⟨.bl _, H, I, rfl, KO.fz q sp rfl (.bl _)⟩
theorem ko_ge (hK : X.K = g.K) (hu : X.A.units + 65 < cLine) : OpR X (compareOp .GtE) (KO2 g .ge) := by
  intro pins s σ H x y v u Q I rx ry ⟨G, ds, d, sp, vw, e, q⟩
  match ds, vw with
  | [dx, dy], ⟨wx, wy, _⟩ =>
    cases dx <;> cases dy <;> first | exact noS e | skip
    · cases e
      exact op_ge pins s σ H x y v u Q I rx ry ⟨_, _, wx.int, wy.int, KO.fz q sp rfl (.bl _)⟩
    · obtain ⟨rfl, as, bs, r1, r2, al, hn, hr, e1, e2⟩ := cmp_tup hK hu I sp wx wy rx ry e
      refine PySem.W.ge_data r1 r2 al hn hr ?_
      rw [e1]
      exact ⟨.bl _, H, I, rfl, KO.fz q sp rfl (.bl _)⟩
theorem Vw.isNon {v : V} {d : D} (h : Vw g.fa g.K G H v d) : decide (v = .non) = isNonD d := by
  rcases h with h | ⟨a, rfl, h⟩
  · cases h <;> rfl
  · cases d <;> first | exact h.elim | rfl
theorem ko_isn : OpR X (compareOp .Is) (fun x y H Q => y = .non ∧ KO1 g .isn x H Q) := by
  intro pins s σ H x y v u Q I rx ry ⟨ey, G, ds, d, sp, vw, e, q⟩
  match ds, vw with
  | [dx], ⟨wx, _⟩ =>
    cases e
    refine op_isN pins s σ H x y v u Q I rx ry ⟨ey, ?_⟩
    rw [wx.isNon]
    exact KO.fz q sp rfl (.bl _)
theorem ko_isnn : OpR X (compareOp .IsNot) (fun x y H Q => y = .non ∧ KO1 g .isnn x H Q) := by
  intro pins s σ H x y v u Q I rx ry ⟨ey, G, ds, d, sp, vw, e, q⟩
  match ds, vw with
  | [dx], ⟨wx, _⟩ =>
    cases e
    refine op_notN pins s σ H x y v u Q I rx ry ⟨ey, ?_⟩
    rw [wx.isNon]
    exact KO.fz q sp rfl (.bl _)
theorem any_eqv {n : Nat} {x : D} (hx : isData depthLine x = true) : ∀ {ds : List D}, isDatas n ds = true → ((toPs ds).any fun z => PyData.eqv z (toP x)) = ds.any fun d => eqD d x
  | [], _ => rfl
  | d :: ds, h => by
    rw [isDatas, Bool.and_eq_true] at h
    rw [toPs, List.any_cons, List.any_cons, any_eqv hx h.2, eqv_eq _ _ _ _ h.1 hx]
theorem in_data {x : D} {ds : List D} {d : D} {b : Bool} (e : (if (isData depthLine x && isDatas depthLine ds) = true then some (D.bl b) else none) = some d) : isData depthLine x = true ∧ isDatas depthLine ds = true ∧ d = .bl b := by
  by_cases h : (isData depthLine x && isDatas depthLine ds) = true
  · rw [if_pos h] at e; cases e
    exact ⟨(Bool.and_eq_true_iff.mp h).1, (Bool.and_eq_true_iff.mp h).2, rfl⟩
  · rw [if_neg h] at e; cases e
theorem str_one {x : Str} {c : Nat} (h : x.cps.toList = [c]) : x = ⟨#[c]⟩ := by
  cases x with
  | mk a => exact congrArg Str.mk (Array.toList_inj.mp h)
theorem in_core (hK : X.K = g.K) {pins : List (Addr × Obj)} {s : Shared} {σ : L2.St} {x y : V} {v u : Value} (I : Inv X pins σ H s) (rx : RelV x v) (ry : RelV y u) (sp : Sup G H) {dx dy : D} {ds : List D} (wx : Vw g.fa g.K G H x dx) (wy : Vw g.fa g.K G H y dy)
    (hs : seqOf dy = some ds) (h1 : isData depthLine dx = true) (h2 : isDatas depthLine ds = true) : ∃ as bs, Reads s.heap v (toP dx) as ∧ (Reads s.heap u (.list (toPs ds)) bs ∨ Reads s.heap u (.tuple (toPs ds)) bs) := by
  have p1 := wx.dp sp h1
  rw [← hK] at p1
  obtain ⟨as, r1⟩ := Dp.reads I _ _ _ p1 rx
  cases dy <;> first | exact noS hs | skip
  · cases hs
    have p2 := wy.dp (n := depthLine + 1) sp (by simpa [isData] using h2)
    rw [← hK, toP] at p2
    obtain ⟨bs, r2⟩ := Dp.reads I _ _ _ p2 ry
    exact ⟨as, bs, r1, .inr r2⟩
  · cases hs
    have p2 := wy.dp (n := depthLine + 1) sp (by simpa [isData] using h2)
    rw [← hK, toP] at p2
    obtain ⟨bs, r2⟩ := Dp.reads I _ _ _ p2 ry
    exact ⟨as, bs, r1, .inl r2⟩
theorem inn_cases {x y d : D} (e : opSem .inn [x, y] = some d) : (∃ a b c, x = .str a ∧ y = .str b ∧ a.cps.toList = [c] ∧ d = .bl (decide (c ∈ b.cps.toList))) ∨ ∃ ds, seqOf y = some ds ∧ isData depthLine x = true ∧ isDatas depthLine ds = true ∧ d = .bl (ds.any fun z => eqD z x) := by
  have gen : (match seqOf y with
    | some ds => if (isData depthLine x && isDatas depthLine ds) = true then some (D.bl (ds.any fun d => eqD d x)) else none
    | none => none) = some d → ∃ ds, seqOf y = some ds ∧ isData depthLine x = true ∧ isDatas depthLine ds = true ∧ d = .bl (ds.any fun z => eqD z x) := fun e => by
    cases q : seqOf y with
    | none => rw [q] at e; cases e
    | some ds =>
      rw [q] at e
      obtain ⟨h1, h2, h3⟩ := in_data e
      exact ⟨ds, rfl, h1, h2, h3⟩
  cases x with
  | str a =>
    cases y with
    | str b =>
      have e : (match a.cps.toList with | [c] => some (D.bl (decide (c ∈ b.cps.toList))) | _ => none) = some d := e
      cases q : a.cps.toList with
      | nil => rw [q] at e; cases e
      | cons c r =>
        cases r with
        | nil => rw [q] at e; cases e; exact .inl ⟨a, b, c, rfl, rfl, q, rfl⟩
        | cons _ _ => rw [q] at e; cases e
    | _ => exact .inr (gen e)
  | _ => exact .inr (gen e)
theorem nin_cases {x y d : D} (e : opSem .nin [x, y] = some d) : (∃ a b c, x = .str a ∧ y = .str b ∧ a.cps.toList = [c] ∧ d = .bl (!decide (c ∈ b.cps.toList))) ∨ ∃ ds, seqOf y = some ds ∧ isData depthLine x = true ∧ isDatas depthLine ds = true ∧ d = .bl (!ds.any fun z => eqD z x) := by
  have gen : (match seqOf y with
    | some ds => if (isData depthLine x && isDatas depthLine ds) = true then some (D.bl (!ds.any fun d => eqD d x)) else none
    | none => none) = some d → ∃ ds, seqOf y = some ds ∧ isData depthLine x = true ∧ isDatas depthLine ds = true ∧ d = .bl (!ds.any fun z => eqD z x) := fun e => by
    cases q : seqOf y with
    | none => rw [q] at e; cases e
    | some ds =>
      rw [q] at e
      obtain ⟨h1, h2, h3⟩ := in_data e
      exact ⟨ds, rfl, h1, h2, h3⟩
  cases x with
  | str a =>
    cases y with
    | str b =>
      have e : (match a.cps.toList with | [c] => some (D.bl (!decide (c ∈ b.cps.toList))) | _ => none) = some d := e
      cases q : a.cps.toList with
      | nil => rw [q] at e; cases e
      | cons c r =>
        cases r with
        | nil => rw [q] at e; cases e; exact .inl ⟨a, b, c, rfl, rfl, q, rfl⟩
        | cons _ _ => rw [q] at e; cases e
    | _ => exact .inr (gen e)
  | _ => exact .inr (gen e)
theorem ko_inn (hK : X.K = g.K) (hu : X.A.units + 65 < cLine) : OpR X (compareOp .In) (KO2 g .inn) := by
  intro pins s σ H x y v u Q I rx ry ⟨G, ds, d, sp, vw, e, q⟩
  match ds, vw with
  | [dx, dy], ⟨wx, wy, _⟩ =>
    rcases inn_cases e with ⟨a, b, c, rfl, rfl, h, rfl⟩ | ⟨ds, hs, h1, h2, rfl⟩
    · refine op_in_sign pins s σ H x y v u Q I rx ry ⟨c, b, by rw [wx.str, str_one h], wy.str, KO.fz q sp rfl (.bl _)⟩
    · obtain ⟨as, bs, r1, r2⟩ := in_core hK I rx ry sp wx wy hs h1 h2
      obtain ⟨l1, m1⟩ := toP_plain _ _ h1
      obtain ⟨l2, m2⟩ := toPs_plain _ _ h2
      have fin : EP X pins σ Q (.bool ((toPs ds).any fun z => PyData.eqv z (toP dx))) s := ⟨.bl _, H, I, rfl, by rw [any_eqv h1 h2]; exact KO.fz q sp rfl (.bl _)⟩
      rcases r2 with r2 | r2
      · exact SeqAt.in_list_data r2 r1 l2 l1 (by have hd : depthLine = 20 := rfl; omega) fin
      · exact SeqAt.in_tuple_data r2 r1 l2 l1 (by have hd : depthLine = 20 := rfl; omega) fin
theorem ko_nin (hK : X.K = g.K) (hu : X.A.units + 65 < cLine) : OpR X (compareOp .NotIn) (KO2 g .nin) := by
  intro pins s σ H x y v u Q I rx ry ⟨G, ds, d, sp, vw, e, q⟩
  match ds, vw with
  | [dx, dy], ⟨wx, wy, _⟩ =>
    rcases nin_cases e with ⟨a, b, c, rfl, rfl, h, rfl⟩ | ⟨ds, hs, h1, h2, rfl⟩
    · refine op_notIn_sign pins s σ H x y v u Q I rx ry ⟨c, b, by rw [wx.str, str_one h], wy.str, KO.fz q sp rfl (.bl _)⟩
    · obtain ⟨as, bs, r1, r2⟩ := in_core hK I rx ry sp wx wy hs h1 h2
      obtain ⟨l1, m1⟩ := toP_plain _ _ h1
      obtain ⟨l2, m2⟩ := toPs_plain _ _ h2
      have fin : EP X pins σ Q (.bool (!(toPs ds).any fun z => PyData.eqv z (toP dx))) s := ⟨.bl _, H, I, rfl, by rw [any_eqv h1 h2]; exact KO.fz q sp rfl (.bl _)⟩
      rcases r2 with r2 | r2
      · exact SeqAt.notIn_list_data r2 r1 l2 l1 (by have hd : depthLine = 20 := rfl; omega) fin
      · exact SeqAt.notIn_tuple_data r2 r1 l2 l1 (by have hd : depthLine = 20 := rfl; omega) fin
end
end Ev
end
section
set_option linter.all false
set_option maxRecDepth 100000
namespace Ev
open PySem PySem.Spec PyProof.Rows L2
section
variable {g : Gh} {X : Cx} {G H : Hp} {F : Hp} {io : Option Addr} {env : Env} {σ : L2.St}

theorem RE.meth {o : Op} {x a : E} {Q : VK} (h : RE g (.meth o x a) σ H Q) : RE g x σ H fun v H1 => ∃ k, (∃ G d, Sup G H1 ∧ Vw g.fa g.K G H1 v d ∧ kindD d = k ∧ mtOk o d = true) ∧
    RA g a σ H1 fun vs H2 => ∃ G dx ds d, kindD dx = k ∧ Sup G H2 ∧ Vw g.fa g.K G H2 v dx ∧ Vws g.fa g.K G H2 vs ds ∧ opSem o (dx :: ds) = some d ∧ ∀ v H' G', Grow G H2 G' H' → RV g.fa g.K H2 G' H' (resO o d) v → Q v H' := by
  obtain ⟨F, G, io, env, r0, p⟩ := h
  refine (RE.one (P := fun r => PostE g F G io env σ r Q) r0 id (fun _ _ _ h => h) p).mono fun v H1 ⟨G1, ox, e1, r1, x1, q1, f1, p⟩ => ?_
  by_cases hk : mtOk o (ox.view e1) = true
  · rw [if_pos hk] at p
    refine ⟨kindD (ox.view e1), ⟨G1, _, r1.gh, view1 r1 q1 f1, rfl, hk⟩, ?_⟩
    refine (RA.all (P := fun r => PostE g F G io env σ r Q) (F := plus F H1 ox v) (r1.frame q1) id (fun _ _ _ h => XP.frame h x1.x q1) p).mono fun vs H2 ⟨G2, os, e2, r2, x2, q2, f2, p⟩ => ?_
    by_cases hk2 : kindD (ox.view e2) = kindD (ox.view e1)
    · rw [if_pos hk2] at p
      obtain ⟨d, ed, p⟩ := ifS_some (P := fun r => PostE g F G io env σ r Q) id p
      have k1 := q1.keep r2 x2.x
      have f1' : Full e2 [ox] := fun i hi => x2.keep i (f1 i hi)
      have r2' := r2.unframe (G' := G1) (env' := e1) q1
      refine ⟨G2, _, _, d, hk2, r2.gh, view1 r2' k1 f1', vws_of r2' q2 f2 fun b e => plus_none q1 e, ed, fun w H' G' gr rv => ?_⟩
      obtain ⟨oo, ff⟩ := RV.or (g := g) r2' gr rv
      exact p w H' G' (r2'.ext gr) (x1.trans ⟨(x2.x.unplus q1).trans (gr.ext r2'.fh), x2.keep⟩) oo ff
    · rw [if_neg hk2] at p; exact p.elim
  · rw [if_neg hk] at p; exact p.elim

theorem opSem1 {o : Op} {ds : List D} {d : D} (h2 : ∀ a b, op2 o a b = none) (h3 : ∀ a b c, op3 o a b c = none) (e : opSem o ds = some d) : ∃ x, ds = [x] ∧ op1 o x = some d := by
  match ds, e with
  | [], e => exact noS e
  | [x], e => exact ⟨x, rfl, e⟩
  | [x, y], e => exact noS ((h2 x y).symm.trans e)
  | [x, y, z], e => exact noS ((h3 x y z).symm.trans e)
  | _ :: _ :: _ :: _ :: _, e => exact noS e
theorem opSem2 {o : Op} {ds : List D} {d : D} (h2 : ∀ a, op1 o a = none) (h3 : ∀ a b c, op3 o a b c = none) (e : opSem o ds = some d) : ∃ x y, ds = [x, y] ∧ op2 o x y = some d := by
  match ds, e with
  | [], e => exact noS e
  | [x], e => exact noS ((h2 x).symm.trans e)
  | [x, y], e => exact ⟨x, y, rfl, e⟩
  | [x, y, z], e => exact noS ((h3 x y z).symm.trans e)
  | _ :: _ :: _ :: _ :: _, e => exact noS e
theorem vws1 {xs : List V} {d : D} (h : Vws g.fa g.K G H xs [d]) : ∃ x, xs = [x] ∧ Vw g.fa g.K G H x d := by
  match xs, h with
  | [x], h => exact ⟨x, rfl, h.1⟩
  | [], h => exact h.elim
  | _ :: _ :: _, h => exact h.2.elim
theorem vws2 {xs : List V} {d e : D} (h : Vws g.fa g.K G H xs [d, e]) : ∃ x y, xs = [x, y] ∧ Vw g.fa g.K G H x d ∧ Vw g.fa g.K G H y e := by
  match xs, h with
  | [x, y], h => exact ⟨x, y, rfl, h.1, h.2.1⟩
  | [], h => exact h.elim
  | [_], h => exact h.2.elim
  | _ :: _ :: _ :: _, h => exact h.2.2.elim

theorem atN_get {vs : List V} {ds : List D} {i : Int} {d : D} (dd : DgAll g.fa g.K G vs ds) (e : ((atN ds.length i).bind fun k => ds[k]?) = some d) : ∃ v, atI vs i = some v ∧ Dg g.fa g.K G v d := by
  unfold atI
  rw [dd.length, ← atN_ixN]
  cases q : atN ds.length i with
  | none => rw [q] at e; cases e
  | some k => rw [q] at e; exact dd.get e
theorem resO_ix (d : D) : resO .ix d = .fz d := by cases d <;> rfl
theorem ko_ix (hK : X.K = g.K) : IxR X (KO2 g .ix) := by
  intro value slice pins s σ H x y v u Q I rx ry ⟨G, ds, d, sp, vw, e, q⟩ hs
  match ds, vw with
  | [dx, dy], ⟨wx, wy, _⟩ =>
    cases dx <;> cases dy <;> first | exact noS e | skip
    · rename_i a i
      have e : (if a.cps.size ≤ cap then (atN a.cps.size i).bind fun k => a.cps[k]?.map fun c => D.str ⟨#[c]⟩ else none) = some d := e
      by_cases h : a.cps.size ≤ cap
      · rw [if_pos h] at e
        cases q1 : atN a.cps.size i with
        | none => rw [q1] at e; cases e
        | some k =>
          rw [q1] at e
          have e : (a.cps[k]?.map fun c => D.str ⟨#[c]⟩) = some d := e
          cases q2 : a.cps[k]? with
          | none => rw [q2] at e; cases e
          | some c =>
            rw [q2] at e; cases e
            refine ix_str value slice pins s σ H x y v u Q I rx ry ⟨a, i, c, wx.str, wy.int, by rw [sizeLine_eq]; exact h, ?_, KO.fz q sp rfl (.str _)⟩ hs
            unfold atI
            rw [Array.length_toList, ← atN_ixN, q1]
            simpa using q2
      · rw [if_neg h] at e; cases e
    · rename_i ds i
      obtain ⟨p, vs, rfl, h1, dd⟩ := wx.tup sp
      obtain ⟨w, h2, h3⟩ := atN_get dd e
      have R : IxR X (rIxT g.K) := hK ▸ ix_tup
      exact R value slice pins s σ H _ y v u Q I rx ry ⟨p, vs, i, w, rfl, wy.int, h1.seqT, h2, KO.fz q sp (resO_ix d) h3⟩ hs
    · rename_i ds i
      obtain ⟨p, vs, rfl, h1, dd⟩ := wx.lstL sp
      obtain ⟨w, h2, h3⟩ := atN_get dd e
      have R : IxR X (rIxL g.K) := hK ▸ ix_list
      exact R value slice pins s σ H _ y v u Q I rx ry ⟨p, vs, i, w, rfl, wy.int, h1, h2, KO.fz q sp (resO_ix d) h3⟩ hs
    · rename_i ns i
      obtain ⟨p, rfl, h1⟩ := wx.ro sp
      have e : ((atN ns.length i).bind fun k => ns[k]?.map D.int) = some d := e
      have e2 : ((atN (ns.map D.int).length i).bind fun k => (ns.map D.int)[k]?) = some d := by simpa using e
      obtain ⟨w, h2, h3⟩ := atN_get (DgAll.ofInts (fa := g.fa) (K := g.K) (G := G) ns) e2
      have R : IxR X (rIxL g.K) := hK ▸ ix_list
      exact R value slice pins s σ H _ y v u Q I rx ry ⟨p, _, i, w, rfl, wy.int, h1, h2, KO.fz q sp (resO_ix d) h3⟩ hs

def KS (g : Gh) (lo hi : Option Int) : V → Hp → VK → Prop := fun x H Q => ∃ G dx d, Sup G H ∧ Vw g.fa g.K G H x dx ∧ cutD dx lo hi = some d ∧ ∀ v H' G', Grow G H G' H' → RV g.fa g.K H G' H' (resO .len d) v → Q v H'
theorem cutN_sIx (n d : Nat) : ∀ o : Option Int, cutN n d o = HT.sIx n d o
  | none => rfl
  | some _ => rfl
theorem cutL_cutV {vs : List V} {ds : List D} {lo hi : Option Int} (dd : DgAll g.fa g.K G vs ds) : DgAll g.fa g.K G (cutV vs lo hi) (cutL ds lo hi) := by
  unfold cutV cutL
  rw [dd.length, cutN_sIx, cutN_sIx]
  exact (dd.drop _).take _
theorem ks_slice (hK : X.K = g.K) : SlR X (fun x lo hi H Q => KS g lo hi x H Q) := by
  intro pins s σ H x v vl vu lo hi sl Q I rx hs pl pu ⟨G, dx, d, sp, wx, e, q⟩
  cases dx <;> first | exact noS e | skip
  · rename_i a
    have e : (if a.cps.size ≤ 16777216 then some (D.str ⟨(cutL a.cps.toList lo hi).toArray⟩) else none) = some d := e
    by_cases h : a.cps.size ≤ 16777216
    · rw [if_pos h] at e; cases e
      refine sl_str pins s σ H x v vl vu lo hi sl Q I rx hs pl pu ⟨a, wx.str, by rw [sizeLine_eq]; exact h, ?_⟩
      refine KO.fz q sp rfl ?_
      have z : (⟨(cutL a.cps.toList lo hi).toArray⟩ : Str) = cutS a lo hi := by
        unfold cutL cutS
        rw [cutN_sIx, cutN_sIx]
        rfl
      rw [z]
      exact .str _
    · rw [if_neg h] at e; cases e
  · cases e
    rename_i ds
    obtain ⟨p, vs, rfl, h1, dd⟩ := wx.tup sp
    have R : SlR X (rSlF g.K) := hK ▸ sl_tupF
    refine R pins s σ H _ v vl vu lo hi sl Q I rx hs pl pu ⟨p, vs, rfl, h1.seqT, fun z => ?_, fun _ w ob hw hd => KO.newT q sp (cutL_cutV dd) hw hd⟩
    have e : cutL ds lo hi = ds := by
      unfold cutL
      rw [cutN_sIx, cutN_sIx, ← dd.length, z.1, z.2, dd.length]
      simp
    rw [e] at q
    rcases wx with w | ⟨_, _, w⟩
    · exact KO.fz q sp rfl w
    · exact w.elim
  · cases e
    rename_i ds
    obtain ⟨p, vs, rfl, h1, dd⟩ := wx.lstL sp
    have R : SlR X (rSlL g.K) := hK ▸ sl_list
    exact R pins s σ H _ v vl vu lo hi sl Q I rx hs pl pu ⟨p, vs, rfl, h1, fun w hw => KO.newL q sp rfl (cutL_cutV dd) hw⟩
  · cases e
    rename_i ns
    obtain ⟨p, rfl, h1⟩ := wx.ro sp
    have R : SlR X (rSlL g.K) := hK ▸ sl_list
    refine R pins s σ H _ v vl vu lo hi sl Q I rx hs pl pu ⟨p, _, rfl, h1, fun w hw => KO.newL q sp rfl ?_ hw⟩
    have z : (cutL ns lo hi).map D.int = cutL (ns.map D.int) lo hi := by
      unfold cutL
      rw [List.length_map, List.map_take, List.map_drop]
    rw [z]
    exact cutL_cutV (DgAll.ofInts ns)

theorem RE.cut2 {x a b : E} {Q : VK} (h : RE g (.cut2 x a b) σ H Q) : RE g x σ H fun v H1 => RE g a σ H1 fun u H2 => ∃ i, u = .int i ∧ RE g b σ H2 fun w H3 => ∃ j, w = .int j ∧ KS g (some i) (some j) v H3 Q := by
  obtain ⟨F, G, io, env, r0, p⟩ := h
  refine (RE.one (P := fun r => PostE g F G io env σ r Q) r0 id (fun _ _ _ h => h) p).mono fun v H1 ⟨G1, ox, e1, r1, x1, q1, f1, p⟩ => ?_
  refine (RE.one (P := fun r => PostE g F G io env σ r Q) (F := plus F H1 ox v) (r1.frame q1) id (fun _ _ _ h => XP.frame h x1.x q1) p).mono fun u H2 ⟨G2, oa, e2, r2, x2, q2, f2, p⟩ => ?_
  obtain ⟨i, ei, p⟩ := ifI_int (P := fun r => PostE g F G io env σ r Q) id p
  refine ⟨i, OR.int r2 q2 f2 ei, ?_⟩
  refine (RE.one (P := fun r => PostE g F G io env σ r Q) (F := plus F H1 ox v) r2 id (fun _ _ _ h => XP.later (XP.frame h x1.x q1) x2.x) p).mono fun w H3 ⟨G3, ob, e3, r3, x3, q3, f3, p⟩ => ?_
  obtain ⟨j, ej, p⟩ := ifI_int (P := fun r => PostE g F G io env σ r Q) id p
  refine ⟨j, OR.int r3 q3 f3 ej, ?_⟩
  obtain ⟨d, ed, p⟩ := ifS_some (P := fun r => PostE g F G io env σ r Q) id p
  have x23 := x2.trans x3
  have k1 := q1.keep r3 x23.x
  have f1' : Full e3 [ox] := fun i hi => x23.keep i (f1 i hi)
  have r3' := r3.unframe (G' := G1) (env' := e1) q1
  refine ⟨G3, _, d, r3.gh, view1 r3' k1 f1', ed, fun w H' G' gr rv => ?_⟩
  obtain ⟨oo, ff⟩ := RV.or (g := g) r3' gr rv
  exact p w H' G' (r3'.ext gr) (x1.trans ⟨(x23.x.unplus q1).trans (gr.ext r3'.fh), x23.keep⟩) oo ff

theorem ko_len (hK : X.K = g.K) : CallR X (.builtin "len") (fun vs H Q => KO g .len vs H Q) := by
  intro pins s σ H xs us Q I r ⟨G, ds, d, sp, vw, e, q⟩
  obtain ⟨dx, rfl, e'⟩ := opSem1 (fun _ _ => rfl) (fun _ _ _ => rfl) e
  replace e := e'
  clear e'
  obtain ⟨x, rfl, wx⟩ := vws1 vw
  · skip
    have R : CallR X (.builtin "len") (fun xs H Q => ∃ x n, xs = [x] ∧ LenV g.K x H n ∧ Q (.int n) H) := hK ▸ call_len
    cases dx <;> first | exact noS e | skip
    · rename_i a
      have e : (if a.cps.size ≤ cap then some (D.int a.cps.size) else none) = some d := e
      by_cases h : a.cps.size ≤ cap
      · rw [if_pos h] at e; cases e
        cases wx.str
        exact R pins s σ H _ us Q I r ⟨_, a.length, rfl, ⟨by rw [sizeLine_eq]; exact h, rfl⟩, KO.fz q sp rfl (.int _)⟩
      · rw [if_neg h] at e; cases e
    · cases e
      obtain ⟨p, vs, rfl, h1, dd⟩ := wx.tup sp
      rw [← dd.length] at q
      exact R pins s σ H _ us Q I r ⟨_, _, rfl, .inr ⟨vs, h1.seqT, rfl⟩, KO.fz q sp rfl (.int _)⟩
    · cases e
      obtain ⟨p, vs, rfl, h1, dd⟩ := wx.lstL sp
      rw [← dd.length] at q
      exact R pins s σ H _ us Q I r ⟨_, _, rfl, .inl ⟨vs, h1, rfl⟩, KO.fz q sp rfl (.int _)⟩
    · cases e
      obtain ⟨p, rfl, h1⟩ := wx.ro sp
      exact R pins s σ H _ us Q I r ⟨_, _, rfl, .inl ⟨_, h1, by simp⟩, KO.fz q sp rfl (.int _)⟩
theorem ko_abs : CallR X (.builtin "abs") (fun vs H Q => KO g .abs vs H Q) := by
  intro pins s σ H xs us Q I r ⟨G, ds, d, sp, vw, e, q⟩
  obtain ⟨dx, rfl, e'⟩ := opSem1 (fun _ _ => rfl) (fun _ _ _ => rfl) e
  replace e := e'
  clear e'
  obtain ⟨x, rfl, wx⟩ := vws1 vw
  · skip
    cases dx <;> first | exact noS e | skip
    cases e
    exact call_abs pins s σ H _ us Q I r ⟨_, by rw [wx.int], KO.fz q sp rfl (.int _)⟩
theorem ko_int1 : CallR X (.type "int") (fun vs H Q => KO g .int1 vs H Q) := by
  intro pins s σ H xs us Q I r ⟨G, ds, d, sp, vw, e, q⟩
  obtain ⟨dx, rfl, e'⟩ := opSem1 (fun _ _ => rfl) (fun _ _ _ => rfl) e
  replace e := e'
  clear e'
  obtain ⟨x, rfl, wx⟩ := vws1 vw
  · skip
    cases dx <;> first | exact noS e | skip
    · cases e
      exact call_int1 pins s σ H _ us Q I r (.inr ⟨_, by rw [wx.bl], KO.fz q sp rfl (.int _)⟩)
    · cases e
      exact call_int1 pins s σ H _ us Q I r (.inl ⟨_, by rw [wx.int], KO.fz q sp rfl (.int _)⟩)
theorem ko_max2 (hc : X.calm = true) : CallR X (.builtin "max") (fun vs H Q => KO g .max2 vs H Q) := by
  intro pins s σ H xs us Q I r ⟨G, ds, d, sp, vw, e, q⟩
  obtain ⟨dx, dy, rfl, e'⟩ := opSem2 (fun _ => rfl) (fun _ _ _ => rfl) e
  replace e := e'
  clear e'
  obtain ⟨x, y, rfl, wx, wy⟩ := vws2 vw
  · skip
    cases dx <;> cases dy <;> first | exact noS e | skip
    cases e
    exact call_max2 hc pins s σ H _ us Q I r ⟨_, _, by rw [wx.int, wy.int], KO.fz q sp rfl (.int _)⟩
theorem ko_min2 (hc : X.calm = true) : CallR X (.builtin "min") (fun vs H Q => KO g .min2 vs H Q) := by
  intro pins s σ H xs us Q I r ⟨G, ds, d, sp, vw, e, q⟩
  obtain ⟨dx, dy, rfl, e'⟩ := opSem2 (fun _ => rfl) (fun _ _ _ => rfl) e
  replace e := e'
  clear e'
  obtain ⟨x, y, rfl, wx, wy⟩ := vws2 vw
  · skip
    cases dx <;> cases dy <;> first | exact noS e | skip
    cases e
    exact call_min2 hc pins s σ H _ us Q I r ⟨_, _, by rw [wx.int, wy.int], KO.fz q sp rfl (.int _)⟩
theorem ko_list (hK : X.K = g.K) : CallR X (.type "list") (fun vs H Q => KO g .list vs H Q) := by
  intro pins s σ H xs us Q I r ⟨G, ds, d, sp, vw, e, q⟩
  obtain ⟨dx, rfl, e'⟩ := opSem1 (fun _ _ => rfl) (fun _ _ _ => rfl) e
  replace e := e'
  clear e'
  obtain ⟨x, rfl, wx⟩ := vws1 vw
  · skip
    have R : CallR X (.type "list") (fun xs H Q => ∃ p ys, xs = [.ref p] ∧ (SqL g.K H p ys ∨ SqT g.K H p ys) ∧ ∀ l, H l = none → Q (.ref l) (upd H l (.lst ys))) := hK ▸ call_list_of
    cases dx <;> first | exact noS e | skip
    · cases e
      obtain ⟨p, vs, rfl, h1, dd⟩ := wx.tup sp
      exact R pins s σ H _ us Q I r ⟨_, _, rfl, .inr h1.seqT, fun l hl => KO.newL q sp rfl dd hl⟩
    · cases e
      obtain ⟨p, vs, rfl, h1, dd⟩ := wx.lstL sp
      exact R pins s σ H _ us Q I r ⟨_, _, rfl, .inl h1, fun l hl => KO.newL q sp rfl dd hl⟩
    · cases e
      obtain ⟨p, rfl, h1⟩ := wx.ro sp
      exact R pins s σ H _ us Q I r ⟨_, _, rfl, .inl h1, fun l hl => KO.newL q sp rfl (DgAll.ofInts _) hl⟩
theorem ko_tuple (hK : X.K = g.K) : CallR X (.type "tuple") (fun vs H Q => KO g .tuple vs H Q) := by
  intro pins s σ H xs us Q I r ⟨G, ds, d, sp, vw, e, q⟩
  obtain ⟨dx, rfl, e'⟩ := opSem1 (fun _ _ => rfl) (fun _ _ _ => rfl) e
  replace e := e'
  clear e'
  obtain ⟨x, rfl, wx⟩ := vws1 vw
  · skip
    have R : CallR X (.type "tuple") (fun xs H Q => ∃ p ys, xs = [.ref p] ∧ ((SqL g.K H p ys ∧ ∀ l o, H l = none → o.dict = none → Q (.ref l) (upd H l (.frz o (.tup ys)))) ∨ (SqT g.K H p ys ∧ Q (.ref p) H))) := hK ▸ call_tupleF
    cases dx <;> first | exact noS e | skip
    · cases e
      obtain ⟨p, vs, rfl, h1, dd⟩ := wx.tup sp
      refine R pins s σ H _ us Q I r ⟨_, _, rfl, .inr ⟨h1.seqT, ?_⟩⟩
      rcases wx with w | ⟨_, _, w⟩
      · exact KO.fz q sp rfl w
      · exact w.elim
    · cases e
      obtain ⟨p, vs, rfl, h1, dd⟩ := wx.lstL sp
      exact R pins s σ H _ us Q I r ⟨_, _, rfl, .inl ⟨h1, fun l ob hl hd => KO.newT q sp dd hl hd⟩⟩
theorem ko_all (hK : X.K = g.K) (hc : X.calm = true) : CallR X (.builtin "all") (fun vs H Q => KO g .all vs H Q) := by
  intro pins s σ H xs us Q I r ⟨G, ds, d, sp, vw, e, q⟩
  obtain ⟨dx, rfl, e'⟩ := opSem1 (fun _ _ => rfl) (fun _ _ _ => rfl) e
  replace e := e'
  clear e'
  obtain ⟨x, rfl, wx⟩ := vws1 vw
  · skip
    have R : CallR X (.builtin "all") (rAll g.K) := hK ▸ cr_all hc
    cases dx <;> first | exact noS e | skip
    rename_i ds
    have e : ((blsOf ds).map fun l => D.bl (l.all id)) = some d := e
    cases qb : blsOf ds with
    | none => rw [qb] at e; cases e
    | some l =>
      rw [qb] at e; cases e
      obtain ⟨p, vs, rfl, h1, dd⟩ := wx.lstL sp
      have hv := dd.bls qb
      subst hv
      exact R pins s σ H _ us Q I r ⟨p, l, rfl, h1, KO.fz q sp rfl (.bl _)⟩
theorem ko_any (hK : X.K = g.K) (hc : X.calm = true) : CallR X (.builtin "any") (fun vs H Q => KO g .any vs H Q) := by
  intro pins s σ H xs us Q I r ⟨G, ds, d, sp, vw, e, q⟩
  obtain ⟨dx, rfl, e'⟩ := opSem1 (fun _ _ => rfl) (fun _ _ _ => rfl) e
  replace e := e'
  clear e'
  obtain ⟨x, rfl, wx⟩ := vws1 vw
  · skip
    have R : CallR X (.builtin "any") (rAny g.K) := hK ▸ cr_any hc
    cases dx <;> first | exact noS e | skip
    rename_i ds
    have e : ((blsOf ds).map fun l => D.bl (l.any id)) = some d := e
    cases qb : blsOf ds with
    | none => rw [qb] at e; cases e
    | some l =>
      rw [qb] at e; cases e
      obtain ⟨p, vs, rfl, h1, dd⟩ := wx.lstL sp
      have hv := dd.bls qb
      subst hv
      exact R pins s σ H _ us Q I r ⟨p, l, rfl, h1, KO.fz q sp rfl (.bl _)⟩
theorem preSum_ns {ns : List Int} {xs : Array (Int × Tok)} (h : numsOf (intItems xs).toList = ns) : preSum (numAt xs) xs.size = ns.sum := by
  rw [nums_intItems] at h
  subst h
  rw [preSum_eq, List.take_of_length_le (by simp)]
theorem ko_sum (hK : X.K = g.K) (hc : X.calm = true) : CallR X (.builtin "sum") (fun vs H Q => KO g .sum vs H Q) := by
  intro pins s σ H xs us Q I r ⟨G, ds, d, sp, vw, e, q⟩
  obtain ⟨dx, rfl, e'⟩ := opSem1 (fun _ _ => rfl) (fun _ _ _ => rfl) e
  replace e := e'
  clear e'
  obtain ⟨x, rfl, wx⟩ := vws1 vw
  · skip
    have R : CallR X (.builtin "sum") (rSum g.K) := hK ▸ cr_sum hc
    cases dx <;> first | exact noS e | skip
    · rename_i ds
      have e : ((intsOf ds).map fun l => D.int l.sum) = some d := e
      cases qb : intsOf ds with
      | none => rw [qb] at e; cases e
      | some l =>
        rw [qb] at e; cases e
        obtain ⟨p, vs, rfl, h1, dd⟩ := wx.tup sp
        have hv := dd.ints qb
        subst hv
        have h1 := h1.seqT
        rw [← hK] at h1
        obtain ⟨its, rv, ht, hz⟩ := I.tuple h1
        rw [Vals.ref1 r]
        obtain ⟨zs, ez⟩ := rv.ints.allInts.items
        have hn : numsOf (intItems zs).toList = l := by rw [← ez]; exact rv.ints.numsOf
        rw [ez] at ht
        refine PySem.W.ktm_sumG (I.ok.hd hc) ht fun h' tk t' hk => ⟨.int _, H, I.kept hk, ⟨_, rfl⟩, ?_⟩
        rw [preSum_ns hn]
        exact KO.fz q sp rfl (.int _)
    · rename_i ds
      have e : ((intsOf ds).map fun l => D.int l.sum) = some d := e
      cases qb : intsOf ds with
      | none => rw [qb] at e; cases e
      | some l =>
        rw [qb] at e; cases e
        obtain ⟨p, vs, rfl, h1, dd⟩ := wx.lstL sp
        have hv := dd.ints qb
        subst hv
        exact R pins s σ H _ us Q I r ⟨p, l, rfl, h1, KO.fz q sp rfl (.int _)⟩
end
end Ev
end
section
set_option linter.all false
set_option maxRecDepth 100000
namespace Ev
open PySem PySem.Spec PyProof.Rows L2 PySem.SeqAt PySem.Calls
open PySem.W (alike alikeAll AllAlike Sortable dataLt SortsAt dataKind dataKind_some dataKind_inv EachIs looks_reads Looks kas_first_eq)

section
variable {M : Model} {A : Around} {E : Value → Shared → Prop} {s : Shared}
theorem mapM_each {α β : Type} {f : α → Sem β} {P : α → β → Prop} : ∀ (l : List α) {Q : List β → Shared → Prop}, (∀ v ∈ l, ∃ r, P v r ∧ ∀ (Q' : β → Shared → Prop), Q' r s → wpAny M A (f v) Q' E s) → (∀ rs : List β, rs.length = l.length → (∀ (i : Nat) (v : α), l[i]? = some v → ∃ r, rs[i]? = some r ∧ P v r) → Q rs s) → wpAny M A (l.mapM f) Q E s
  | [], _, _, h => by rw [List.mapM_nil]; exact wpAny_pure (h [] rfl fun i v e => by simp at e)
  | x :: l, Q, hf, h => by
    rw [List.mapM_cons]
    obtain ⟨r, p, hr⟩ := hf x List.mem_cons_self
    refine wpAny_bind (hr _ (wpAny_bind (mapM_each l (P := P) (fun v hv => hf v (List.mem_cons_of_mem _ hv)) fun rs hl hk => wpAny_pure (h (r :: rs) (by simp [hl]) fun i v e => ?_))))
    cases i with
    | zero =>
      obtain rfl : x = v := by simpa using e
      exact ⟨r, rfl, p⟩
    | succ i => exact hk i v (by simpa using e)
end
section
variable {prog : Program} {w : World} {A : Around} {s : Shared}
theorem each_right {α β : Type} {R : α → β → Prop} : ∀ {as : List α} {bs : List β}, EachIs R as bs → ∀ b ∈ bs, ∃ a, a ∈ as ∧ R a b
  | _, _, .nil, _, h => by simp at h
  | _, _, .cons (a := a) h t, b, hb => by
    rcases List.mem_cons.mp hb with rfl | hb
    · exact ⟨a, List.mem_cons_self, h⟩
    · obtain ⟨a', h1, h2⟩ := each_right t b hb
      exact ⟨a', List.mem_cons_of_mem _ h1, h2⟩
theorem oneLt_tup {xs ys : List PyData} {a b : Value} {as bs : List Addr} {E : Value → Shared → Prop} {Q : Bool → Shared → Prop} (ra : Reads s.heap a (.tuple xs) as) (rb : Reads s.heap b (.tuple ys) bs) (h : alike (.tuple xs) (.tuple ys) = true)
    (hu : A.units + min (PyData.tuple xs).depth (PyData.tuple ys).depth < cLine) (hq : Q (dataLt (.tuple xs) (.tuple ys)) s) : wpAny (model prog w) A (oneLt' true a b) Q E s := by
  have hal : alikeAll xs ys = true := by simpa [alike] using h
  cases ra with
  | @tuple l o vs n _ as₁ h1 h2 h3 h4 =>
    cases rb with
    | @tuple l' o' vs' n' _ bs₁ k1 k2 k3 k4 =>
      have n1 : vs.size = xs.length := by simpa using ReadsAll.length _ _ _ h4
      have n2 : vs'.size = ys.length := by simpa using ReadsAll.length _ _ _ k4
      rw [PySem.W.dataLt_tuple, ← PySem.W.firstLt_toks xs ys hal, ← n1, ← n2] at hq
      rw [oneLt'_eq]
      simp only [if_true]
      refine wpAny_bind (wpAny_cRoomFor (room_here hu) ?_)
      obtain ⟨cls, dd, data, sl⟩ := o
      obtain ⟨cls2, dd2, data2, sl2⟩ := o'
      simp only at h2 h3 k2 k3
      subst h2 h3 k2 k3
      refine wpAny_bind (wpAny_callSpecialIfBound?_slot (T := "tuple") ⟨_, h1, rfl⟩ F.slot_tuple_lt
        (call_meets F.slot_tuple_lt ⟨_, h1, rfl⟩ F.entry_tuple_lt (F.args_tuple_lt_2 _ _) (tuple_ltAt l l' vs vs' n n' dd dd2 sl sl2 (pairEq xs ys) (fun j => dataLt (xs.getD j .none) (ys.getD j .none)))
          ⟨h1, k1, fun j j1 j2 => ?_, fun j j1 j2 hj => ?_, ?_⟩))
      · have := PySem.W.eqAt_alikeAll xs ys A.in1 s vs.toList vs'.toList _ _ h4 k4 hal (room_in hu) j (by simpa using j1) (by simpa using j2)
        simpa using this
      · have := PySem.W.rcLt_alikeAll xs ys A.in1 s vs.toList vs'.toList _ _ h4 k4 hal (room_in hu) j (by simpa using j1) (by simpa using j2) hj
        simpa using this
      · exact wpAny_truthy_bool hq
theorem first_of {a : Value} {xs : List PyData} {as : List Addr} {E : Value → Shared → Prop} (r : Reads s.heap a (.tuple xs) as) : ∃ x : Option Value, (x.isSome = !xs.isEmpty) ∧ ∀ Q' : Option Value → Shared → Prop, Q' x s → wpAny (model prog w) A (firstOfTuple' a) Q' E s := by
  cases r with
  | @tuple l o vs n _ as₁ h1 h2 h3 h4 =>
    have hl := ReadsAll.length _ _ _ h4
    refine ⟨vs[0]?, ?_, fun Q' hq => ?_⟩
    · cases xs with
      | nil =>
        have : vs.size = 0 := by simpa using hl
        simp [this]
      | cons x r =>
        have : vs.size = r.length + 1 := by simpa using hl
        simp [this]
    · rw [kas_first_eq]
      refine wpAny_bind (wpAny_typeOf (T := "tuple") ⟨o, h1, h2⟩ ?_)
      rw [if_neg (by decide)]
      exact wpAny_bind (listItems_at h1 h3 (wpAny_pure hq))
theorem SortsAt.tups {vs : List Value} {ds : List PyData} (e : EachIs (fun v d => ∃ as, Reads s.heap v d as) vs ds) (hal : AllAlike ds) (ht : ∀ d, d ∈ ds → ∃ xs, d = .tuple xs) (hu : ∀ d, d ∈ ds → A.units + d.depth < cLine) : SortsAt prog w A s (dataKind s.heap ds) vs := by
  by_cases hne : ∀ d, d ∈ ds → ∃ x r, d = .tuple (x :: r)
  · exact .data e hal (.inl hne) hu
  have room : ∀ {d d' : PyData}, d ∈ ds → A.units + min d.depth d'.depth < cLine := fun {d d'} hd => Nat.lt_of_le_of_lt (Nat.add_le_add_left (Nat.min_le_left _ _) _) (hu d hd)
  refine ⟨fun v hv => ?_, ?_⟩
  · obtain ⟨d, hd, as, r⟩ := e.left v hv
    exact ⟨_, dataKind_some hal hd r⟩
  have ltG : H.LtAt prog w A s (dataKind s.heap ds) general' := fun E x y a b Q ha hb hq => by
    obtain ⟨d, as, hd, ra, rfl⟩ := dataKind_inv ha
    obtain ⟨d', as', hd', rb, rfl⟩ := dataKind_inv hb
    show wpAny _ _ (oneLt' false x y) _ _ _
    obtain ⟨xs, rfl⟩ := ht d hd
    exact PySem.W.oneLt_alike (fun z => nomatch z) ra rb (hal _ hd _ hd') (fun z => nomatch z) (room hd) hq
  have ltO : H.LtAt prog w A s (dataKind s.heap ds) oneType' := fun E x y a b Q ha hb hq => by
    obtain ⟨d, as, hd, ra, rfl⟩ := dataKind_inv ha
    obtain ⟨d', as', hd', rb, rfl⟩ := dataKind_inv hb
    rw [keyLt'_oneType]
    obtain ⟨xs, rfl⟩ := ht d hd
    obtain ⟨ys, rfl⟩ := ht d' hd'
    exact oneLt_tup ra rb (hal _ hd _ hd') (room hd) hq
  cases e with
  | nil => exact absurd (fun d hd => by simp at hd) hne
  | @cons v₀ d₀ vs₀ ds₀ r₀ t₀ =>
    obtain ⟨xs₀, rfl⟩ := ht d₀ List.mem_cons_self
    have run : ∀ (E : Value → Shared → Prop) {Q : SortKind → Shared → Prop}, Q (if xs₀.isEmpty = true then oneType' else general') s → wpAny (model prog w) A (keyKind' (v₀ :: vs₀).toArray) Q E s := fun E Q hq => by
      rw [keyKind'_eq, List.mapM_toArray, map_eq_pure_bind]
      have each : ∀ v ∈ v₀ :: vs₀, ∃ x : Option Value, (∃ xs, PyData.tuple xs ∈ PyData.tuple xs₀ :: ds₀ ∧ (∃ as, Reads s.heap v (.tuple xs) as) ∧ x.isSome = !xs.isEmpty) ∧ ∀ Q' : Option Value → Shared → Prop, Q' x s → wpAny (model prog w) A (firstOfTuple' v) Q' E s := fun v hv => by
        obtain ⟨d, hd, as, r⟩ := (EachIs.cons r₀ t₀).left v hv
        obtain ⟨xs, rfl⟩ := ht d hd
        obtain ⟨x, h1, h2⟩ := first_of (prog := prog) (w := w) (A := A) (E := E) r
        exact ⟨x, ⟨xs, hd, ⟨as, r⟩, h1⟩, h2⟩
      refine wpAny_bind (wpAny_bind (mapM_each _ each fun rs hl hk => wpAny_pure ?_))
      -- not all of them have one
      have nall : (rs.toArray.all fun x => x.isSome) = false := by
        cases q : rs.toArray.all fun x => x.isSome with
        | false => rfl
        | true =>
          exfalso
          refine hne fun d hd => ?_
          obtain ⟨xs, rfl⟩ := ht d hd
          obtain ⟨v, hv, as, r⟩ := each_right (.cons r₀ t₀) _ hd
          obtain ⟨i, hi⟩ := List.mem_iff_getElem?.mp hv
          obtain ⟨x, hx, xs', hm, ⟨as', r'⟩, hs⟩ := hk i v hi
          have e1 : PyData.tuple xs' = PyData.tuple xs := PySem.W.alike_unique _ _ _ _ _ (hal _ hm _ hd) r' r
          cases e1
          have : x.isSome = true := by
            rw [List.all_toArray, List.all_eq_true] at q
            exact q x (List.mem_of_getElem? hx)
          rw [this] at hs
          cases xs with
          | nil => cases hs
          | cons x tl => exact ⟨x, tl, rfl⟩
      rw [nall]
      simp only [Bool.false_eq_true, if_false]
      obtain ⟨x, hx, xs', hm, ⟨as', r'⟩, hs⟩ := hk 0 v₀ rfl
      obtain ⟨as0, r0⟩ := r₀
      have e1 : PyData.tuple xs' = PyData.tuple xs₀ := PySem.W.alike_unique _ _ _ _ _ (hal _ hm _ List.mem_cons_self) r' r0
      cases e1
      have h0 : (rs.toArray[0]?.bind id).isSome = !xs₀.isEmpty := by
        rw [← hs]
        simp [hx]
      rw [h0]
      cases qe : xs₀.isEmpty with
      | false =>
        rw [qe] at hq
        exact wpAny_pure hq
      | true =>
        rw [qe] at hq
        simp only [Bool.not_true, Bool.false_eq_true, if_false]
        rw [oneTypeOnly'_eq, List.mapM_toArray, map_eq_pure_bind]
        refine wpAny_bind (wpAny_bind (wpAny_bind (PySem.W.kas_mapM (r := Value.type "tuple") _ (fun v hv Q' hq => ?_) (wpAny_pure ?_))))
        · obtain ⟨d, hd, as, r⟩ := (EachIs.cons (R := fun v d => ∃ as, Reads s.heap v d as) ⟨as0, r0⟩ t₀).left v hv
          obtain ⟨xs, rfl⟩ := ht d hd
          exact (looks_reads (M := model prog w) r).here hq
        · have hall : ((List.map (fun _ => Value.type "tuple") (v₀ :: vs₀)).toArray.all fun x => x == Value.type "tuple") = true := by
            simp only [List.all_toArray, List.all_map, List.all_eq_true]
            intro _ _
            rfl
          have h0 : (List.map (fun _ => Value.type "tuple") (v₀ :: vs₀)).toArray[0]? = some (Value.type "tuple") := by simp
          rw [h0]
          simp only [hall, if_true]
          exact wpAny_pure (wpAny_pure hq)
    by_cases qe : xs₀.isEmpty = true
    · exact ⟨oneType', ltO, fun _ E Q hq => run E (by rw [if_pos qe]; exact hq)⟩
    · exact ⟨general', ltG, fun _ E Q hq => run E (by rw [if_neg qe]; exact hq)⟩
end
end Ev
end
section
set_option linter.all false
set_option maxRecDepth 100000
namespace Ev
open PySem PySem.Spec PyProof.Rows L2
open PySem.W (alike AllAlike Sortable dataLt dataLe TotalLe sameRank EachIs sortVals)

theorem allAlike_mem : ∀ {ds : List D}, allAlike ds = true → ∀ x ∈ ds, ∀ y ∈ ds, alikeD x y = true
  | [], _, x, hx, _, _ => absurd hx (by simp)
  | d :: ds, h, x, hx, y, hy => by
    rw [allAlike, Bool.and_eq_true, Bool.and_eq_true] at h
    obtain ⟨⟨h1, h2⟩, h3⟩ := h
    rw [List.all_eq_true] at h2
    rcases List.mem_cons.mp hx with ex | hx2
    · rcases List.mem_cons.mp hy with ey | hy2
      · rw [ex, ey]; exact h1
      · rw [ex]; exact h2 y hy2
    · rcases List.mem_cons.mp hy with ey | hy2
      · rw [ey, alike_symm]; exact h2 x hx2
      · exact allAlike_mem h3 x hx2 y hy2
theorem insD_mem {x z : D} : ∀ {ds : List D}, z ∈ insD x ds → z = x ∨ z ∈ ds
  | [], h => by simpa [insD] using h
  | y :: ys, h => by
    unfold insD at h
    split at h
    · rcases List.mem_cons.mp h with rfl | h
      · exact .inr List.mem_cons_self
      · rcases insD_mem h with e | e
        · exact .inl e
        · exact .inr (List.mem_cons_of_mem _ e)
    · rcases List.mem_cons.mp h with rfl | h
      · exact .inl rfl
      · exact .inr h
theorem sortD_mem {z : D} : ∀ {ds : List D}, z ∈ sortD ds → z ∈ ds
  | [], h => by simp [sortD] at h
  | y :: ys, h => by
    rw [sortD] at h
    rcases insD_mem h with rfl | h
    · exact List.mem_cons_self
    · exact List.mem_cons_of_mem _ (sortD_mem h)
theorem insD_len (x : D) : ∀ ds : List D, (insD x ds).length = ds.length + 1
  | [] => rfl
  | y :: ys => by unfold insD; split <;> simp [insD_len x ys]
theorem sortD_len : ∀ ds : List D, (sortD ds).length = ds.length
  | [] => rfl
  | y :: ys => by rw [sortD, insD_len, sortD_len ys]; rfl
section
variable {le : D → D → Bool}
theorem ins_pair (h : TotalLe le) {x : D} : ∀ {ds : List D}, (∀ y ∈ ds, ltD y x = !le x y) → ds.Pairwise (fun a b => le a b = true) → (insD x ds).Pairwise (fun a b => le a b = true)
  | [], _, _ => by simp [insD]
  | y :: ys, hk, hp => by
    rw [List.pairwise_cons] at hp
    have hy := hk y List.mem_cons_self
    unfold insD
    split
    · rename_i q
      rw [q] at hy
      have hy' : le x y = false := by simpa using hy.symm
      have hyx : le y x = true := (h.total y x).elim id fun z => by rw [hy'] at z; cases z
      rw [List.pairwise_cons]
      refine ⟨fun z hz => ?_, ins_pair h (fun w hw => hk w (List.mem_cons_of_mem _ hw)) hp.2⟩
      rcases insD_mem hz with rfl | hz
      · exact hyx
      · exact hp.1 z hz
    · rename_i q
      have hxy : le x y = true := by
        cases e : le x y with
        | true => rfl
        | false => rw [e] at hy; exact absurd hy q
      rw [List.pairwise_cons, List.pairwise_cons]
      refine ⟨fun z hz => ?_, hp⟩
      rcases List.mem_cons.mp hz with rfl | hz
      · exact hxy
      · exact h.trans _ _ _ hxy (hp.1 z hz)
theorem ins_filter (h : TotalLe le) {x : D} (c : D) : ∀ {ds : List D}, (∀ y ∈ ds, ltD y x = !le x y) → (insD x ds).filter (sameRank le c) = (x :: ds).filter (sameRank le c)
  | [], _ => rfl
  | y :: ys, hk => by
    have hy := hk y List.mem_cons_self
    unfold insD
    split
    · rename_i q
      rw [q] at hy
      have hy' : le x y = false := by simpa using hy.symm
      have ih := ins_filter h c (ds := ys) fun w hw => hk w (List.mem_cons_of_mem _ hw)
      rw [List.filter_cons, ih]
      by_cases q1 : sameRank le c y = true
      · by_cases q2 : sameRank le c x = true
        · unfold sameRank at q1 q2
          rw [Bool.and_eq_true] at q1 q2
          have z := h.trans x c y q2.2 q1.1
          rw [hy'] at z; cases z
        · rw [if_pos q1, List.filter_cons_of_neg q2, List.filter_cons_of_neg q2, List.filter_cons_of_pos q1]
      · rw [if_neg q1]
        by_cases q2 : sameRank le c x = true
        · rw [List.filter_cons_of_pos q2, List.filter_cons_of_pos q2, List.filter_cons_of_neg q1]
        · rw [List.filter_cons_of_neg q2, List.filter_cons_of_neg q2, List.filter_cons_of_neg q1]
    · rfl
theorem sortD_merge (h : TotalLe le) : ∀ {ds : List D}, (∀ x ∈ ds, ∀ y ∈ ds, ltD y x = !le x y) → (sortD ds).Pairwise (fun a b => le a b = true) ∧ ∀ c, (sortD ds).filter (sameRank le c) = ds.filter (sameRank le c)
  | [], _ => ⟨by simp [sortD], fun _ => rfl⟩
  | x :: xs, hk => by
    obtain ⟨h1, h2⟩ := sortD_merge h (ds := xs) fun a ha b hb => hk a (List.mem_cons_of_mem _ ha) b (List.mem_cons_of_mem _ hb)
    have hx : ∀ y ∈ sortD xs, ltD y x = !le x y := fun y hy => hk x List.mem_cons_self y (List.mem_cons_of_mem _ (sortD_mem hy))
    rw [sortD]
    refine ⟨ins_pair h hx h1, fun c => ?_⟩
    rw [ins_filter h c hx, List.filter_cons, List.filter_cons, h2 c]
end
theorem sortD_eq {ds : List D} (h : allAlike ds = true) : sortD ds = ds.mergeSort (dataLe false toP) := by
  have T : TotalLe (dataLe false toP : D → D → Bool) := PySem.W.sortLe_total _ false _
  have k := sortD_merge T (ds := ds) fun x hx y hy => by
    rw [PySem.W.dataLe_eq]
    show ltD y x = !(!dataLt (toP y) (toP x))
    rw [Bool.not_not, lt_eq _ _ (allAlike_mem h y hy x hx)]
  exact PySem.W.sort_unique T k.1 k.2

def Srt (ds : List PyData) : Prop := (∀ d, d ∈ ds → ∃ xs, d = .tuple xs) ∨ ∀ d, d ∈ ds → d ≠ .none ∧ ∀ xs, d ≠ .tuple xs
theorem sortsAt_srt {prog : Program} {w : World} {A : Around} {s : Shared} {vs : List Value} {ds : List PyData} (e : EachIs (fun v d => ∃ as, Reads s.heap v d as) vs ds) (hal : AllAlike ds) (hk : Srt ds) (hu : ∀ d, d ∈ ds → A.units + d.depth < cLine) : PySem.W.SortsAt prog w A s (PySem.W.dataKind s.heap ds) vs := by
  rcases hk with h | h
  · exact SortsAt.tups e hal h hu
  · exact .data e hal (.inr h) hu
section
variable {prog : Program} {w : World} {A : Around} {E : Value → Shared → Prop} {s : Shared}
theorem collect_tup {l : Addr} {vs : List Value} {Q : List Value → Shared → Prop} (hl : s.heap.IsTuple l vs.toArray) (hsz : vs.length ≤ sizeLine)
    (h : Q vs { s with heap := (s.heap.push (seqObj "list" #[] 0)).update s.heap.objs.size (Obj.mapSeq (· ++ vs.toArray)) }) :
    wpAny (model prog w) A (collect (.ref l)) Q E s := by
  obtain ⟨o, ho, hc, n, hd⟩ := id hl
  unfold collect
  refine wpAny_bind (wpAny_runValue (codeAny_builtin entry_proto_collect' ?_))
  show wpAny _ _ (do again (.builtin "list.__iadd__" ⟨[← newList [], .ref l], []⟩)) _ _ s
  refine wpAny_bind (wpAny_newList (wpAny_pure ⟨Code.quiet_builtin _ (by decide +kernel), codeAny_builtin entry_list_iadd' ?_⟩))
  show wpAny _ _ (Builtin.List.listExtendWith (.ref s.heap.objs.size) (.ref l) (.ref s.heap.objs.size)) _ _ { s with heap := s.heap.push (seqObj "list" #[] 0) }
  unfold Builtin.List.listExtendWith
  have ho' : (s.heap.push (seqObj "list" #[] 0)).get? l = some o := Heap.get?_push_of_some _ ho
  refine wpAny_bind (wpAny_typeOf (T := "tuple") ⟨o, ho', hc⟩ ?_)
  have ht : (Value.type "tuple" == Value.type "tuple") = true := by rfl
  rw [if_pos (by rw [ht]; simp)]
  refine wpAny_bind (listItems_at ho' hd ?_)
  refine wpAny_bind (listItems_at (xs := #[]) (n := 0) (Heap.get?_push_size _ rfl) rfl ?_)
  rw [if_neg (by simp)]
  refine wpAny_bind (listUpdate_at (xs := #[]) (n := 0) (Heap.get?_push_size _ rfl) rfl ?_ (Nat.zero_le _) (by show (#[] ++ vs.toArray).size ≤ sizeLine + 1; simp only [Array.size_append, List.size_toArray, List.length_nil]; omega))
  refine wpAny_pure ?_
  show wpAny (model prog w) A (do
      let o ← load s.heap.objs.size
      match o.data with
      | .seq xs _ => pure xs.toList
      | _ => unsupported "internal:collect") Q E { s with heap := (s.heap.push (seqObj "list" #[] 0)).update s.heap.objs.size (Obj.mapSeq (· ++ vs.toArray)) }
  refine wpAny_bind (wpAny_load (get?_update_seq (Heap.get?_push_size _ rfl) _) ?_)
  show wpAny _ _ (pure ((#[] : Array Value) ++ vs.toArray).toList) Q E _
  rw [show ((#[] : Array Value) ++ vs.toArray).toList = vs by simp]
  exact wpAny_pure h
theorem sorted_tup {l : Addr} {vs : List Value} {bs : List D} {R : Value → D → Prop} {Q : Value → Shared → Prop} (hl : s.heap.IsTuple l vs.toArray) (e : EachIs R vs bs) (er : EachIs (fun v b => ∃ as, Reads s.heap v (toP b) as) vs bs) (hal : AllAlike (bs.map toP)) (hk : Srt (bs.map toP)) (hL : bs.length ≤ sizeLine)
    (hu : ∀ b, b ∈ bs → A.units + 2 + (toP b).depth < cLine) (h : ∀ out, out.length = bs.length → EachIs R out (bs.mergeSort (dataLe false toP)) → Q (.ref (s.heap.objs.size + 1)) { s with heap := sortedAll s.heap vs (List.toArray out) }) :
    wpAny (model prog w) A (call (.builtin "sorted") [.ref l]) Q E s := by
  have er' : EachIs (fun v b => ∃ as, Reads (PySem.W.sortingHeap (PySem.W.copyHeap s.heap vs) (s.heap.objs.size + 1) vs) v (toP b) as) vs bs := er.mono fun _ _ ⟨as, r⟩ => ⟨as, PyProof.Rows.Reads.keeps (fun _ _ => PySem.W.sorting_copy_old) r⟩
  have hvl : vs.length ≤ sizeLine := by rw [e.length]; exact hL
  have S := sortsAt_srt (prog := prog) (w := w) (A := A.in1.in1) (s := { s with heap := PySem.W.sortingHeap (PySem.W.copyHeap s.heap vs) (s.heap.objs.size + 1) vs }) (PySem.W.each_map (R := fun v d => ∃ as, Reads (PySem.W.sortingHeap (PySem.W.copyHeap s.heap vs) (s.heap.objs.size + 1) vs) v d as) toP er') hal hk (PySem.W.bound_map hu)
  have hq := h _ (by rw [PySem.W.sortVals_length false rfl]; exact e.length) (PySem.W.sortVals_data false e er' hal)
  refine call_function_entry_kw kind_sorted plain_sorted entry_sorted (args_sorted1 _) ?_
  unfold Builtin.«sorted»
  refine wpAny_bind (m := checkCount "sorted" 1 1 _) (wpAny_pure ?_)
  refine wpAny_bind (collect_tup hl hvl ?_)
  refine wpAny_bind (wpAny_newList ?_ hvl)
  have hsz : ((s.heap.push (seqObj "list" #[] 0)).update s.heap.objs.size (Obj.mapSeq (· ++ vs.toArray))).objs.size = s.heap.objs.size + 1 := by
    rw [Heap.size_update, size_push']
  show wpAny _ _ _ _ _ { s with heap := PySem.W.copyHeap s.heap vs }
  rw [hsz]
  refine wpAny_bind (wpAny_holding (wpAny_call_entry_kw slot_list_sort ⟨_, PySem.W.copyHeap_at s.heap vs, rfl⟩ entry_list_sort ?_ (args_list_sort _)))
  exact PySem.W.list_sort_vals (s := { s with heap := PySem.W.copyHeap s.heap vs }) (PySem.W.copyHeap_at s.heap vs) S hvl ⟨_, rfl, wpAny_pure ⟨_, rfl, hq⟩⟩
end
theorem srt_ok {ds : List D} (h : srtOk ds = true) : Srt (ds.map toP) := by
  rcases Bool.or_eq_true_iff.mp h with h | h
  · refine .inl fun d hd => ?_
    obtain ⟨b, hb, rfl⟩ := List.mem_map.mp hd
    have := List.all_eq_true.mp h b hb
    cases b with
    | tup xs => exact ⟨toPs xs, by rw [toP]⟩
    | _ => cases this
  · refine .inr fun d hd => ?_
    obtain ⟨b, hb, rfl⟩ := List.mem_map.mp hd
    have hb' := List.all_eq_true.mp h b hb
    cases b <;> first | (cases hb'; done) | (simp [toP]; done) | skip
    all_goals exact absurd hb' (by simp [noTup])
theorem sorted_lst {prog : Program} {w : World} {A : Around} {E : Value → Shared → Prop} {s : Shared} {l : Addr} {vs : List Value} {bs : List D} {R : Value → D → Prop} {Q : Value → Shared → Prop} (hl : s.heap.IsList l vs.toArray) (e : EachIs R vs bs) (er : EachIs (fun v b => ∃ as, Reads s.heap v (toP b) as) vs bs) (hal : AllAlike (bs.map toP)) (hk : Srt (bs.map toP)) (hL : bs.length ≤ sizeLine)
    (hu : ∀ b, b ∈ bs → A.units + 2 + (toP b).depth < cLine) (h : ∀ out, out.length = bs.length → EachIs R out (bs.mergeSort (dataLe false toP)) → Q (.ref (s.heap.objs.size + 1)) { s with heap := sortedAll s.heap vs (List.toArray out) }) :
    wpAny (model prog w) A (call (.builtin "sorted") [.ref l]) Q E s := by
  have er' : EachIs (fun v b => ∃ as, Reads (PySem.W.sortingHeap (PySem.W.copyHeap s.heap vs) (s.heap.objs.size + 1) vs) v (toP b) as) vs bs := er.mono fun _ _ ⟨as, r⟩ => ⟨as, PyProof.Rows.Reads.keeps (fun _ _ => PySem.W.sorting_copy_old) r⟩
  exact PySem.W.sorted_vals hl (sortsAt_srt (s := { s with heap := PySem.W.sortingHeap (PySem.W.copyHeap s.heap vs) (s.heap.objs.size + 1) vs }) (PySem.W.each_map (R := fun v d => ∃ as, Reads (PySem.W.sortingHeap (PySem.W.copyHeap s.heap vs) (s.heap.objs.size + 1) vs) v d as) toP er') hal hk (PySem.W.bound_map hu)) (by rw [e.length]; exact hL)
    (h _ (by rw [PySem.W.sortVals_length false rfl]; exact e.length) (PySem.W.sortVals_data false e er' hal))
section
variable {g : Gh} {X : Cx} {G H : Hp} {pins : List (Addr × Obj)} {s : Shared} {σ : L2.St}
def SR (g : Gh) (G : Hp) (v : Value) (b : D) : Prop := ∃ x : V, RelV x v ∧ Dg g.fa g.K G x b
theorem sr_each : ∀ {xs : List V} {us : List Value} {ds : List D}, Vals xs us → DgAll g.fa g.K G xs ds → EachIs (SR g G) us ds
  | _, _, _, .nil, .nil => .nil
  | _, _, _, .cons r t, .cons d dd => .cons ⟨_, r, d⟩ (sr_each t dd)
theorem each_sr : ∀ {us : List Value} {ds : List D}, EachIs (SR g G) us ds → ∃ xs, Vals xs us ∧ DgAll g.fa g.K G xs ds
  | _, _, .nil => ⟨[], .nil, .nil⟩
  | _, _, .cons ⟨x, r, d⟩ t => by
    obtain ⟨xs, h1, h2⟩ := each_sr t
    exact ⟨x :: xs, .cons r h1, .cons d h2⟩
theorem reads_each (hK : X.K = g.K) (I : Inv X pins σ H s) (sp : Sup G H) : ∀ {xs : List V} {us : List Value} {ds : List D}, Vals xs us → DgAll g.fa g.K G xs ds → isDatas depthLine ds = true → EachIs (fun v b => ∃ as, Reads s.heap v (toP b) as) us ds
  | _, _, _, .nil, .nil, _ => .nil
  | _, _, _, .cons r t, .cons d dd, h => by
    rw [isDatas, Bool.and_eq_true] at h
    have p := d.dp sp _ h.1
    rw [← hK] at p
    exact .cons (Dp.reads I _ _ _ p r) (reads_each hK I sp t dd h.2)
theorem isDatas_mem : ∀ {ds : List D} {n : Nat}, isDatas n ds = true → ∀ d ∈ ds, isData n d = true
  | [], _, _, d, h => absurd h (by simp)
  | e :: ds, n, h, d, hd => by
    rw [isDatas, Bool.and_eq_true] at h
    rcases List.mem_cons.mp hd with rfl | hd
    · exact h.1
    · exact isDatas_mem h.2 d hd
theorem allAlike_P {ds : List D} (h : allAlike ds = true) : AllAlike (ds.map toP) := by
  intro d hd d' hd'
  obtain ⟨a, ha, rfl⟩ := List.mem_map.mp hd
  obtain ⟨b, hb, rfl⟩ := List.mem_map.mp hd'
  exact alike_eq a b (allAlike_mem h a ha b hb)
theorem ko_sorted (hK : X.K = g.K) (hu : X.A.units + 65 < cLine) : CallR X (.builtin "sorted") (fun vs H Q => KO g .sorted vs H Q) := by
  intro pins s σ H xs us Q I r ⟨G, ds, d, sp, vw, e, q⟩
  obtain ⟨dx, rfl, e'⟩ := opSem1 (fun _ _ => rfl) (fun _ _ _ => rfl) e
  replace e := e'
  clear e'
  obtain ⟨x, rfl, wx⟩ := vws1 vw
  have e : ((seqOf dx).bind fun ds => if (allAlike ds && srtOk ds && isDatas depthLine ds) = true then some (D.lst (sortD ds)) else none) = some d := e
  cases qs : seqOf dx with
  | none => rw [qs] at e; cases e
  | some ds =>
    rw [qs] at e
    have e : (if (allAlike ds && srtOk ds && isDatas depthLine ds) = true then some (D.lst (sortD ds)) else none) = some d := e
    by_cases hc : (allAlike ds && srtOk ds && isDatas depthLine ds) = true
    · rw [if_pos hc] at e
      cases e
      rw [Bool.and_eq_true, Bool.and_eq_true] at hc
      obtain ⟨⟨c1, c2⟩, c3⟩ := hc
      have room : ∀ b, b ∈ ds → X.A.units + 2 + (toP b).depth < cLine := fun b hb => by
        have h1 := (toP_plain _ _ (isDatas_mem c3 b hb)).2
        have h2 : depthLine = 20 := rfl
        omega
      have fin : ∀ (its : List Value) (out : List Value), ds.length ≤ sizeLine → out.length = ds.length → EachIs (SR g G) out (ds.mergeSort (dataLe false toP)) → EP X pins σ Q (.ref (s.heap.objs.size + 1)) { s with heap := sortedAll s.heap its (List.toArray out) } := fun its out hz hl eo => by
        obtain ⟨ys, v1, v2⟩ := each_sr eo
        obtain ⟨ep, he⟩ := PyProof.Rows.sortedAll_at s.heap its (List.toArray out)
        rw [← sortD_eq c1] at v2
        refine ⟨.ref _, upd H (s.heap.objs.size + 1) (.lst ys), I.laid (t' := s.toks) (fun _ _ => PyProof.Rows.sortedAll_old) (Nat.le_succ _) ⟨by rw [v1.length, hl]; exact hz, out, ep, v1, he⟩, rfl, ?_⟩
        exact KO.newL q sp rfl v2 (I.hok.fresh (Nat.le_succ _))
      cases dx <;> first | exact noS qs | skip
      · cases qs
        obtain ⟨p, vs, rfl, h1, dd⟩ := wx.tup sp
        have h1 := h1.seqT
        rw [← hK] at h1
        obtain ⟨its, rv, ht, hz⟩ := I.tuple h1
        rw [Vals.ref1 r]
        exact sorted_tup ht (sr_each rv dd) (reads_each hK I sp rv dd c3) (allAlike_P c1) (srt_ok c2) (by rw [← dd.length]; exact hz) room fun out hl eo => fin its out (by rw [← dd.length]; exact hz) hl eo
      · cases qs
        obtain ⟨p, vs, rfl, h1, dd⟩ := wx.lstL sp
        rw [← hK] at h1
        obtain ⟨its, rv, ht, hz⟩ := I.list h1
        rw [Vals.ref1 r]
        exact sorted_lst ht.isList (sr_each rv dd) (reads_each hK I sp rv dd c3) (allAlike_P c1) (srt_ok c2) (by rw [← dd.length]; exact hz) room fun out hl eo => fin its out (by rw [← dd.length]; exact hz) hl eo
    · rw [if_neg hc] at e; cases e
end
end Ev
end
section
set_option linter.all false
set_option maxRecDepth 100000
namespace Ev
open PySem PySem.Spec PyProof.Rows L2 PySem.SeqAt
open PySem.W (alike alikeAll dataLt keyToksAll keyToks AlikeAll)
mutual
theorem toP_inj : ∀ (n m : Nat) (d e : D), isData n d = true → isData m e = true → toP d = toP e → d = e
  | n, m, .non, e, _, he, q => by cases e <;> first | rfl | (simp [toP] at q; done) | (simp [isData] at he; done)
  | n, m, .bl b, e, _, he, q => by cases e <;> first | (simp [toP] at q; subst q; rfl) | (simp [toP] at q; done) | (simp [isData] at he; done)
  | n, m, .int b, e, _, he, q => by cases e <;> first | (simp [toP] at q; subst q; rfl) | (simp [toP] at q; done) | (simp [isData] at he; done)
  | n, m, .str b, e, _, he, q => by cases e <;> first | (simp [toP] at q; subst q; rfl) | (simp [toP] at q; done) | (simp [isData] at he; done)
  | 0, _, .tup ds, _, h, _, _ => by simp [isData] at h
  | 0, _, .lst ds, _, h, _, _ => by simp [isData] at h
  | n + 1, m, .tup ds, e, h, he, q => by
    cases e <;> first | (simp [toP] at q; done) | (simp [isData] at he; done) | skip
    rename_i es
    cases m with
    | zero => simp [isData] at he
    | succ m =>
      rw [toP, toP] at q
      injection q with q
      rw [toPs_inj n m ds es (by simpa [isData] using h) (by simpa [isData] using he) q]
  | n + 1, m, .lst ds, e, h, he, q => by
    cases e <;> first | (simp [toP] at q; done) | (simp [isData] at he; done) | skip
    rename_i es
    cases m with
    | zero => simp [isData] at he
    | succ m =>
      rw [toP, toP] at q
      injection q with q
      rw [toPs_inj n m ds es (by simpa [isData] using h) (by simpa [isData] using he) q]
  | _, _, .ro _, _, h, _, _ => by simp [isData] at h
  | _, _, .fn _, _, h, _, _ => by simp [isData] at h
  | _, _, .dic _, _, h, _, _ => by simp [isData] at h
theorem toPs_inj : ∀ (n m : Nat) (ds es : List D), isDatas n ds = true → isDatas m es = true → toPs ds = toPs es → ds = es
  | n, m, [], [], _, _, _ => rfl
  | n, m, [], e :: es, _, _, q => by simp [toPs] at q
  | n, m, d :: ds, [], _, _, q => by simp [toPs] at q
  | n, m, d :: ds, e :: es, h, he, q => by
    rw [isDatas, Bool.and_eq_true] at h he
    rw [toPs, toPs] at q
    injection q with q1 q2
    rw [toP_inj n m d e h.1 he.1 q1, toPs_inj n m ds es h.2 he.2 q2]
end
theorem bestD_mem (f : D → D → Bool) : ∀ (xs : List D) (x : D), bestD f x xs ∈ x :: xs
  | [], x => by simp [bestD]
  | y :: ys, x => by
    have e : bestD f x (y :: ys) = bestD f (if f x y = true then y else x) ys := rfl
    rw [e]
    have := bestD_mem f ys (if f x y = true then y else x)
    by_cases h : f x y = true
    · rw [if_pos h] at this ⊢
      exact List.mem_cons_of_mem _ this
    · rw [if_neg h] at this ⊢
      rcases List.mem_cons.mp this with q | q
      · rw [q]; exact List.mem_cons_self
      · exact List.mem_cons_of_mem _ (List.mem_cons_of_mem _ q)
theorem bestD_toP {f : D → D → Bool} {p : PyData → PyData → Bool} : ∀ (xs : List D) (x : D), (∀ a ∈ x :: xs, ∀ b ∈ x :: xs, f a b = p (toP a) (toP b)) → toP (bestD f x xs) = (xs.map toP).foldl (fun a y => if p a y then y else a) (toP x)
  | [], x, _ => rfl
  | y :: ys, x, h => by
    have e : bestD f x (y :: ys) = bestD f (if f x y = true then y else x) ys := rfl
    rw [e, List.map_cons, List.foldl_cons, ← h x (by simp) y (by simp)]
    by_cases q : f x y = true
    · rw [if_pos q, if_pos q]
      exact bestD_toP ys y fun a ha b hb => h a (List.mem_cons_of_mem _ ha) b (List.mem_cons_of_mem _ hb)
    · rw [if_neg q, if_neg q]
      exact bestD_toP ys x fun a ha b hb => h a (by
        rcases List.mem_cons.mp ha with z | z
        · rw [z]; simp
        · exact List.mem_cons_of_mem _ (List.mem_cons_of_mem _ z)) b (by
        rcases List.mem_cons.mp hb with z | z
        · rw [z]; simp
        · exact List.mem_cons_of_mem _ (List.mem_cons_of_mem _ z))
section
variable {g : Gh} {X : Cx} {G H : Hp} {pins : List (Addr × Obj)} {σ : L2.St} {s : Shared}
theorem readsAll_each (hK : X.K = g.K) (I : Inv X pins σ H s) (sp : Sup G H) {xs : List V} {us : List Value} {ds : List D} (rv : Vals xs us) (dd : DgAll g.fa g.K G xs ds) (h : isDatas depthLine ds = true) : ∃ as, ReadsAll s.heap us (toPs ds) as := by
  have p := dd.dp sp _ h
  rw [← hK] at p
  exact Dp.readsAll I _ _ _ p rv
theorem vals_dg : ∀ {xs : List V} {us : List Value} {ds : List D} {i : Nat} {u : Value}, Vals xs us → DgAll g.fa g.K G xs ds → us[i]? = some u → ∃ x d, RelV x u ∧ Dg g.fa g.K G x d ∧ ds[i]? = some d
  | _, _, _, _, _, .nil, .nil, e => by simp at e
  | _, _, _, 0, _, .cons r _, .cons h _, e => by simp at e; subst e; exact ⟨_, _, r, h, rfl⟩
  | _, _, _, i + 1, u, .cons _ rv, .cons _ dd, e => by
    obtain ⟨x, d, h1, h2, h3⟩ := vals_dg (i := i) (u := u) rv dd (by simpa using e)
    exact ⟨x, d, h1, h2, by simpa using h3⟩
theorem alike_no {d : D} (h : alikeD d d = true) (o : Op) : resO o d = .fz d := by
  cases d <;> first | rfl | (simp [alikeD] at h; done)
theorem best_end (hK : X.K = g.K) (I : Inv X pins σ H s) (sp : Sup G H) {o : Op} {Q : VK} {f : D → D → Bool} {x0 : D} {ds : List D} {xs : List V} {us : List Value} (rv : Vals xs us) (dd : DgAll g.fa g.K G xs (x0 :: ds)) (c1 : allAlike (x0 :: ds) = true) (c3 : isDatas depthLine (x0 :: ds) = true)
    (q : ∀ v H' G', Grow G H G' H' → RV g.fa g.K H G' H' (resO o (bestD f x0 ds)) v → Q v H') {i : Nat} {v : Value} {h' : Heap} {tk : Nat} {bs : List Addr} (hv : us[i]? = some v) (hr : Reads h' v (toP (bestD f x0 ds)) bs) (hk : ∀ b o, s.heap.get? b = some o → h'.get? b = some o) :
    EP X pins σ Q v { s with heap := h', toks := tk } := by
  obtain ⟨x, d, h1, h2, h3⟩ := vals_dg rv dd hv
  have hm := List.mem_of_getElem? h3
  have i1 := isDatas_mem c3 d hm
  have i2 := isDatas_mem c3 _ (bestD_mem f ds x0)
  have p := h2.dp sp _ i1
  rw [← hK] at p
  obtain ⟨as, r1⟩ := Dp.reads I _ _ _ p h1
  have e : d = bestD f x0 ds := toP_inj _ _ _ _ i1 i2 ((Reads.keeps hk r1).unique _ _ hr).1
  refine ⟨x, H, I.kept hk, h1, ?_⟩
  rw [alike_no (allAlike_mem c1 _ (bestD_mem f ds x0) _ (bestD_mem f ds x0))] at q
  exact q x H G (Grow.refl sp) (by rw [← e]; exact h2)
theorem best_data {f : D → D → Bool} {dx d : D} (e : ((seqOf dx).bind fun ds => bestOk f ds) = some d) : ∃ x ds, (dx = .lst (x :: ds) ∨ dx = .tup (x :: ds)) ∧ allAlike (x :: ds) = true ∧ isDatas depthLine (x :: ds) = true ∧ d = bestD f x ds := by
  have k : ∀ ds, bestOk f ds = some d → ∃ x r, ds = x :: r ∧ allAlike (x :: r) = true ∧ isDatas depthLine (x :: r) = true ∧ d = bestD f x r := fun ds e => by
    cases ds with
    | nil => cases e
    | cons x r =>
      have e : (if (allAlike (x :: r) && isDatas depthLine (x :: r)) = true then some (bestD f x r) else none) = some d := e
      by_cases hc : (allAlike (x :: r) && isDatas depthLine (x :: r)) = true
      · rw [if_pos hc] at e
        rw [Bool.and_eq_true] at hc
        cases e
        exact ⟨x, r, rfl, hc.1, hc.2, rfl⟩
      · rw [if_neg hc] at e; cases e
  cases dx <;> first | exact noS e | skip
  · obtain ⟨x, r, rfl, h⟩ := k _ e
    exact ⟨x, r, .inr rfl, h⟩
  · obtain ⟨x, r, rfl, h⟩ := k _ e
    exact ⟨x, r, .inl rfl, h⟩
theorem room_best {ds : List D} (c3 : isDatas depthLine ds = true) (hu : X.A.units + 65 < cLine) : X.A.units + 1 + PyData.depthAll (toPs ds) < cLine := by
  have h1 := (toPs_plain _ _ c3).2
  have h2 : depthLine = 20 := rfl
  omega
theorem alikeAll_P {ds : List D} (h : allAlike ds = true) : AlikeAll (toPs ds) := by
  rw [toPs_map]
  refine ⟨allAlike_P h, fun x hx e => ?_⟩
  obtain ⟨d, hd, rfl⟩ := List.mem_map.mp hx
  have := allAlike_mem h d hd d hd
  cases d <;> first | (simp [alikeD] at this; done) | (simp [toP] at e; done)
theorem ko_max1 (hK : X.K = g.K) (hc : X.calm = true) (hu : X.A.units + 65 < cLine) : CallR X (.builtin "max") (fun vs H Q => KO g .max1 vs H Q) := by
  intro pins s σ H xs us Q I r ⟨G, ds, d, sp, vw, e, q⟩
  obtain ⟨dx, rfl, e'⟩ := opSem1 (fun _ _ => rfl) (fun _ _ _ => rfl) e
  replace e := e'
  clear e'
  obtain ⟨x, rfl, wx⟩ := vws1 vw
  obtain ⟨x0, ds, hd, c1, c3, rfl⟩ := best_data e
  have ha : AlikeAll (toPs (x0 :: ds)) := alikeAll_P c1
  have hu' := room_best (X := X) c3 hu
  have eq : ∀ bs, bs = toPs ds → toP (bestD (fun a y => ltD a y) x0 ds) = PySem.W.maxD (toP x0) bs := fun bs hb => by
    subst hb
    rw [toPs_map]
    exact bestD_toP ds x0 fun a ha b hb => (lt_eq _ _ (allAlike_mem c1 a ha b hb)).symm
  rcases hd with rfl | rfl
  · obtain ⟨p, vs, rfl, h1, dd⟩ := wx.lstL sp
    rw [← hK] at h1
    obtain ⟨its, rv, ht, hz⟩ := I.list h1
    rw [Vals.ref1 r]
    obtain ⟨as, ra⟩ := readsAll_each hK I sp rv dd c3
    exact PySem.W.max_list_data (xs := toPs ds) (x := toP x0) (I.ok.hd hc) ht.isList ra ha hu' fun i v h' tk bs hv hr hk => best_end hK I sp rv dd c1 c3 q (by simpa using hv) (by rw [eq _ rfl]; exact hr) hk
  · obtain ⟨p, vs, rfl, h1, dd⟩ := wx.tup sp
    have h1 := h1.seqT
    rw [← hK] at h1
    obtain ⟨its, rv, ht, hz⟩ := I.tuple h1
    rw [Vals.ref1 r]
    obtain ⟨as, ra⟩ := readsAll_each hK I sp rv dd c3
    exact PySem.W.max_tuple_data (xs := toPs ds) (x := toP x0) (I.ok.hd hc) ht ra ha hu' fun i v h' tk bs hv hr hk => best_end hK I sp rv dd c1 c3 q (by simpa using hv) (by rw [eq _ rfl]; exact hr) hk
theorem ko_min1 (hK : X.K = g.K) (hc : X.calm = true) (hu : X.A.units + 65 < cLine) : CallR X (.builtin "min") (fun vs H Q => KO g .min1 vs H Q) := by
  intro pins s σ H xs us Q I r ⟨G, ds, d, sp, vw, e, q⟩
  obtain ⟨dx, rfl, e'⟩ := opSem1 (fun _ _ => rfl) (fun _ _ _ => rfl) e
  replace e := e'
  clear e'
  obtain ⟨x, rfl, wx⟩ := vws1 vw
  obtain ⟨x0, ds, hd, c1, c3, rfl⟩ := best_data e
  have ha : AlikeAll (toPs (x0 :: ds)) := alikeAll_P c1
  have hu' := room_best (X := X) c3 hu
  have eq : ∀ bs, bs = toPs ds → toP (bestD (fun a y => ltD y a) x0 ds) = PySem.W.minD (toP x0) bs := fun bs hb => by
    subst hb
    rw [toPs_map]
    exact bestD_toP (p := fun a y => dataLt y a) ds x0 fun a ha b hb => (lt_eq _ _ (allAlike_mem c1 b hb a ha)).symm
  rcases hd with rfl | rfl
  · obtain ⟨p, vs, rfl, h1, dd⟩ := wx.lstL sp
    rw [← hK] at h1
    obtain ⟨its, rv, ht, hz⟩ := I.list h1
    rw [Vals.ref1 r]
    obtain ⟨as, ra⟩ := readsAll_each hK I sp rv dd c3
    exact PySem.W.min_list_data (xs := toPs ds) (x := toP x0) (I.ok.hd hc) ht.isList ra ha hu' fun i v h' tk bs hv hr hk => best_end hK I sp rv dd c1 c3 q (by simpa using hv) (by rw [eq _ rfl]; exact hr) hk
  · obtain ⟨p, vs, rfl, h1, dd⟩ := wx.tup sp
    have h1 := h1.seqT
    rw [← hK] at h1
    obtain ⟨its, rv, ht, hz⟩ := I.tuple h1
    rw [Vals.ref1 r]
    obtain ⟨as, ra⟩ := readsAll_each hK I sp rv dd c3
    exact PySem.W.min_tuple_data (xs := toPs ds) (x := toP x0) (I.ok.hd hc) ht ra ha hu' fun i v h' tk bs hv hr hk => best_end hK I sp rv dd c1 c3 q (by simpa using hv) (by rw [eq _ rfl]; exact hr) hk
end
end Ev
end
section
set_option linter.all false
set_option maxRecDepth 100000
namespace Ev
open PySem PySem.Spec PyProof.Rows L2

abbrev setObj0 (w : World) : Obj := { cls := .type "set", dict := none, data := .set #[] 0 (.fresh 0 0 (!w.params.followText "set-order")) }
section
variable {prog : Program} {w : World} {A : Around} {E : Value → Shared → Prop} {s : Shared}
set_option maxHeartbeats 3200000 in
theorem call_set_by {l : Addr} {items : Array Value} {Fin : Heap → Prop} {Q : Value → Shared → Prop} (hh : A.handled = none) (hl : s.heap.IsList l items ∨ s.heap.IsTuple l items)
    (loop : ∀ (I : Addr) (fp wr : List Addr) (St : Nat → Shared → Prop) (s1 : Shared) (R : Result → Shared → Prop), WalksS prog w A.in1.in1.in1 I fp wr (fun a b => b = a) items.size (fun i v => items[i]? = some v) St → s.heap.objs.size ∉ fp →
      (∀ b ∈ wr, s.heap.get? b = none) → St 0 s1 → (∀ b o, s.heap.get? b = some o → s1.heap.get? b = some o) → s1.heap.get? s.heap.objs.size = some (setObj0 w) →
      (∀ s', Moved (s.heap.objs.size :: wr) (fun a b => b = a) s1 s' → Fin s'.heap → R (.ok (.ret .none)) s') →
      codeAny (model prog w) A.in1.in1 (.builtin "set.update.loop" ⟨[.ref s.heap.objs.size, .ref I], []⟩) R s1)
    (h : ∀ h' tk, Fin h' → (∀ b o, s.heap.get? b = some o → h'.get? b = some o) → Q (.ref s.heap.objs.size) { s with heap := h', toks := tk }) :
    wpAny (model prog w) A (call (.type "set") [.ref l]) Q E s := by
  obtain ⟨c, tl, hmro⟩ := F.called_set.mro
  have hmade := F.called_set.made
  have hsub := F.called_set.sub
  refine wpAny_call (codeAny_of_tree ?_)
  show wpAny _ _ (callAny (.type "set") _) _ _ _
  refine wpAny_pure ⟨Code.quiet_builtin _ (by decide +kernel), codeAny_builtin F.entry_type_call ?_⟩
  rw [Around.under_plain (weight_type_call_type "set" [.ref l] []) rfl]
  have h1 := F.called_set.notType
  have h2 := F.called_set.canCreate
  have hct := F.typeCall_set_1 (.ref l)
  repeat (any_goals (first | assumption | wp_step))
  refine codeAny_mono (code_set_led1 (.ref l) (E := E) (Q₁ := fun obj s₁ => obj = .ref s.heap.objs.size ∧ s₁ = { s with heap := s.heap.push (setObj0 w) }) ⟨rfl, rfl⟩) fun r s₁ hr => ?_
  cases r with
  | error e => exact hr
  | ok fl =>
    cases fl with
    | ret obj =>
      obtain ⟨rfl, rfl⟩ := hr
      have hS : (s.heap.push (setObj0 w)).get? s.heap.objs.size = some (setObj0 w) := Heap.get?_push_size _ rfl
      have hT : Shared.TypeIs { s with heap := s.heap.push (setObj0 w) } (.ref s.heap.objs.size) "set" := ⟨_, hS, rfl⟩
      have hli := F.called_set.init.lookup
      have hbi := F.called_set.init.bind (.ref s.heap.objs.size)
      repeat (any_goals (first | assumption | wp_step))
      refine codeAny_mono (codeAny_call_builtin (R := wants (fun r s₂ => r = .none ∧ ∃ h' tk, s₂ = { s with heap := h', toks := tk } ∧ Fin h' ∧ (∀ b o, s.heap.get? b = some o → h'.get? b = some o)) E) F.called_set.init.plain F.entry_set_init (check_set_init_1 hT ?_)) fun r₂ s₂ hr₂ => ?_
      · have hh3 : A.in1.in1.in1.handled = none := by simp [hh]
        have hz1 : (s.heap.push (setObj0 w)).objs.size = s.heap.objs.size + 1 := Heap.size_push ..
        have none_of : ∀ b, s.heap.objs.size ≤ b → s.heap.get? b = none := fun b hb => by
          cases q : s.heap.get? b with
          | none => rfl
          | some o => exact absurd (Nat.lt_of_lt_of_le (Heap.lt_size q) hb) (Nat.lt_irrefl _)
        have apart : l < s.heap.objs.size → l ≠ (s.heap.push (setObj0 w)).objs.size ∧ s.heap.objs.size ∉ [(s.heap.push (setObj0 w)).objs.size, l] := fun hlS => by
          rw [hz1]
          refine ⟨Nat.ne_of_lt (Nat.lt_succ_of_lt hlS), ?_⟩
          simp only [List.mem_cons, List.mem_singleton, List.not_mem_nil, or_false, not_or]
          exact ⟨Nat.ne_of_lt (Nat.lt_succ_self _), Nat.ne_of_gt hlS⟩
        have wr0 : ∀ b ∈ [(s.heap.push (setObj0 w)).objs.size], s.heap.get? b = none := fun b hb => none_of b (by
          rw [List.mem_singleton.mp hb, hz1]
          exact Nat.le_succ _)
        have fin : ∀ {s1 s' : Shared}, Moved (s.heap.objs.size :: [(s.heap.push (setObj0 w)).objs.size]) (fun a b => b = a) s1 s' → Fin s'.heap → (∀ b o, s.heap.get? b = some o → s1.heap.get? b = some o) → s1.gens = s.gens → s1.drawn = s.drawn → s1.os = s.os →
            (∃ h' tk, s' = { s with heap := h', toks := tk } ∧ Fin h' ∧ (∀ b o, s.heap.get? b = some o → h'.get? b = some o)) := fun {s1 s'} hm hF k eg ed eo => by
          obtain ⟨h', g2, d', tk', os'⟩ := s'
          have eg : g2 = s.gens := hm.gens.trans eg
          have ed : d' = s.drawn := hm.drawn.trans ed
          have eo : os' = s.os := hm.os.trans eo
          subst eg; subst ed; subst eo
          refine ⟨h', tk', rfl, hF, fun b o e => hm.heap b o ?_ (k b o e)⟩
          have hb0 : b < s.heap.objs.size := Heap.lt_size e
          rw [hz1]
          simp only [List.mem_cons, List.mem_singleton, List.not_mem_nil, or_false, not_or]
          exact ⟨Nat.ne_of_lt hb0, Nat.ne_of_lt (Nat.lt_succ_of_lt hb0)⟩
        rcases hl with hl | hl
        · obtain ⟨ol, hol, hcl, nl, hdl⟩ := hl
          obtain ⟨ocls, odict, odata, oslots⟩ := ol
          simp only at hcl hdl
          subst hcl; subst hdl
          have hol' : (s.heap.push (setObj0 w)).get? l = some { cls := .type "list", dict := odict, data := .seq items nl, slots := oslots } := Heap.get?_push_of_some _ hol
          have hsls := F.sub_list_set
          have hslf := F.sub_list_frozenset
          have hne : (Value.type "list" == Value.type "dict") = false := by decide
          have hl1 : (s.heap.push (setObj0 w)).IsList l items := ⟨_, hol', rfl, nl, rfl⟩
          unfold Builtin.«set.__init__» noKeywords Builtin.Frozenset.updateFrom
          generalize hPI : pyIter = PI
          wp_walk
          subst hPI
          refine wpAny_pyIter_list hl1 ?_
          refine wpAny_bind (wpAny_runValue ?_)
          obtain ⟨hneI, hSf⟩ := apart (Heap.lt_size hol)
          refine loop _ _ _ _ _ _ ((Walks.list hh3 _ l hneI items).toS) hSf wr0 ⟨⟨_, Heap.get?_push_size _ rfl, rfl, rfl⟩, (hl1.push _)⟩ (fun b o e => Heap.get?_push_of_some _ (Heap.get?_push_of_some _ e)) (Heap.get?_push_of_some _ hS) fun s' hm hF => ?_
          obtain ⟨h', tk, rfl, q⟩ := fin hm hF (fun b o e => Heap.get?_push_of_some _ (Heap.get?_push_of_some _ e)) rfl rfl rfl
          show wpAny _ _ _ _ _ _
          refine wpAny_pure ?_
          show wpAny _ _ (ret Value.none) _ _ _
          exact wpAny_pure ⟨rfl, h', tk, rfl, q⟩
        · obtain ⟨ol, hol, hcl, nl, hdl⟩ := hl
          obtain ⟨ocls, odict, odata, oslots⟩ := ol
          simp only at hcl hdl
          subst hcl; subst hdl
          have hol' : (s.heap.push (setObj0 w)).get? l = some { cls := .type "tuple", dict := odict, data := .seq items nl, slots := oslots } := Heap.get?_push_of_some _ hol
          have hsls := F.sub_tuple_set
          have hslf := F.sub_tuple_frozenset
          have hne : (Value.type "tuple" == Value.type "dict") = false := by decide
          have hl1 : (s.heap.push (setObj0 w)).IsTuple l items := ⟨_, hol', rfl, nl, rfl⟩
          unfold Builtin.«set.__init__» noKeywords Builtin.Frozenset.updateFrom
          generalize hPI : pyIter = PI
          wp_walk
          subst hPI
          refine wpAny_pyIter_tuple hl1 ?_
          refine wpAny_bind (wpAny_runValue ?_)
          obtain ⟨hneI, hSf⟩ := apart (Heap.lt_size hol)
          refine loop _ _ _ _ _ _ ((Walks.tuple hh3 _ l hneI items).toS) hSf wr0 ⟨⟨_, Heap.get?_push_size _ rfl, rfl, rfl⟩, (hl1.push _)⟩ (fun b o e => Heap.get?_push_of_some _ (Heap.get?_push_of_some _ e)) (Heap.get?_push_of_some _ hS) fun s' hm hF => ?_
          obtain ⟨h', tk, rfl, q⟩ := fin hm hF (fun b o e => Heap.get?_push_of_some _ (Heap.get?_push_of_some _ e)) rfl rfl rfl
          show wpAny _ _ _ _ _ _
          refine wpAny_pure ?_
          show wpAny _ _ (ret Value.none) _ _ _
          exact wpAny_pure ⟨rfl, h', tk, rfl, q⟩
      · cases r₂ with
        | error e => exact hr₂
        | ok fl₂ =>
          cases fl₂ with
          | ret r =>
            obtain ⟨rfl, h', tk, rfl, hF, hk'⟩ := hr₂
            repeat (any_goals (first | assumption | wp_step))
            exact h _ _ hF hk'
          | _ => exact hr₂.elim
    | _ => exact hr.elim
theorem call_set_ints {l : Addr} {items : Array Value} (ns : List Int) {Q : Value → Shared → Prop} (hh : A.handled = none) (hl : s.heap.IsList l items ∨ s.heap.IsTuple l items) (hit : IntsAre items.toList ns) (hb : ns.length + 1 < scanBound)
    (h : ∀ (h' : Heap) (tk c : Nat), SetR w h' s.heap.objs.size (fun j => decide (j ∈ ns)) c → (∀ b o, s.heap.get? b = some o → h'.get? b = some o) → Q (.ref s.heap.objs.size) { s with heap := h', toks := tk }) :
    wpAny (model prog w) A (call (.type "set") [.ref l]) Q E s := by
  have hisz : items.size = ns.length := by
    have q := IntsAre.length hit
    rw [Array.length_toList] at q
    exact q
  have hval : ∀ (i : Nat) (v : Value), items[i]? = some v → ∃ k t, ns[i]? = some k ∧ v = .int k t := fun i v hv => by
    have hi : i < ns.length := by rw [← hisz]; exact (Array.getElem?_eq_some_iff.mp hv).1
    obtain ⟨t, e⟩ := PyProof.Rows.IntsAre.int_at hit i v (by rw [Array.getElem?_toList]; exact hv)
    refine ⟨ns[i], t, List.getElem?_eq_getElem hi, ?_⟩
    rw [e, List.getD_eq_getElem?_getD, List.getElem?_eq_getElem hi] <;> rfl
  refine call_set_by (Fin := fun h' => ∃ c, SetR w h' s.heap.objs.size (fun j => decide (j ∈ ns)) c) hh hl (fun I fp wr St s1 R W hSf hwr h0 k hg hR => ?_) fun h' tk ⟨c, hF⟩ k => h h' tk c hF k
  exact set_update_ints W s.heap.objs.size hSf ns hisz hb hval (items.size - 0) 0 _ (by omega) (Nat.zero_le _) h0 ⟨0, Nat.le_refl 0, setR_new_at hg⟩ fun s' c hm _ hS => hR s' hm ⟨c, hS⟩
theorem call_set_tupsA {l : Addr} {items : Array Value} (ks : List (Addr × List Int)) {Q : Value → Shared → Prop} (hh : A.handled = none) (hl : s.heap.IsList l items ∨ s.heap.IsTuple l items) (hit : items.toList = ks.map fun p => Value.ref p.1)
    (hk : ∀ p ∈ ks, IsT prog w s.heap p.2 p.1) (hfew : ks.length < 64) (hu : A.units + 3 < cLine)
    (h : ∀ (h' : Heap) (tk : Nat) L es ep t, SetTR prog w h' s.heap.objs.size L es ep t → Got ks ks.length L → (∀ b o, s.heap.get? b = some o → h'.get? b = some o) → Q (.ref s.heap.objs.size) { s with heap := h', toks := tk }) :
    wpAny (model prog w) A (call (.type "set") [.ref l]) Q E s := by
  have hisz : items.size = ks.length := by
    have q := congrArg List.length hit
    rw [Array.length_toList, List.length_map] at q
    exact q
  have hval : ∀ (i : Nat) (v : Value), items[i]? = some v → ∃ p, ks[i]? = some p ∧ v = .ref p.1 := fun i v hv => by
    have q : items.toList[i]? = some v := by rw [Array.getElem?_toList]; exact hv
    rw [hit, List.getElem?_map] at q
    cases hq : ks[i]? with
    | none => rw [hq] at q; cases q
    | some p =>
      rw [hq] at q
      exact ⟨p, rfl, (Option.some.inj q).symm⟩
  have hS0 : s.heap.get? s.heap.objs.size = none := by
    cases q : s.heap.get? s.heap.objs.size with
    | none => rfl
    | some o => exact absurd (Heap.lt_size q) (Nat.lt_irrefl _)
  refine call_set_by (Fin := fun h' => ∃ L es ep t, SetTR prog w h' s.heap.objs.size L es ep t ∧ Got ks ks.length L) hh hl (fun I fp wr St s1 R W hSf hwr h0 k hg hR => ?_) fun h' tk ⟨L, es, ep, t, hF, g⟩ k => h h' tk L es ep t hF g k
  exact set_update_tups W s.heap.objs.size hSf ks hisz hfew hval s.heap hk hS0 hwr hu (items.size - 0) 0 _ (by omega) (Nat.zero_le _) h0 k ⟨[], #[], 0, _, setTR_fresh hg, Got.zero ks⟩ fun s' L es ep t hm hS g _ => hR s' hm ⟨L, es, ep, t, hS, by rw [← hisz]; exact g⟩
end
end Ev
end
section
set_option linter.all false
set_option maxRecDepth 100000
namespace Ev
open PySem PySem.Spec PyProof.Rows L2
open PySem.W (AllAlike dataLt dataLe EachIs)

def isIT : D → Prop
  | .int _ => True
  | .tup ds => ∃ l : List Int, ds = l.map D.int
  | _ => False
theorem intsOf_map : ∀ {ds : List D} {l : List Int}, intsOf ds = some l → ds = l.map D.int
  | [], l, e => by cases e; rfl
  | d :: ds, l, e => by
    cases d <;> first | exact noS e | skip
    rename_i i
    have e : (intsOf ds).map (fun l => i :: l) = some l := e
    cases q : intsOf ds with
    | none => rw [q] at e; cases e
    | some r => rw [q] at e; cases e; rw [intsOf_map q]; rfl
theorem intsOf_of : ∀ l : List Int, intsOf (l.map D.int) = some l
  | [] => rfl
  | i :: l => by rw [List.map_cons, intsOf, intsOf_of l]; rfl
theorem itupOf_map : ∀ {ds : List D} {ls : List (List Int)}, itupOf ds = some ls → ds = ls.map fun l => D.tup (l.map D.int)
  | [], l, e => by cases e; rfl
  | d :: ds, ls, e => by
    cases d <;> first | exact noS e | skip
    rename_i b
    have e : (match intsOf b, itupOf ds with | some l, some m => some (l :: m) | _, _ => none) = some ls := e
    cases q : intsOf b with
    | none => rw [q] at e; cases e
    | some l =>
      cases q2 : itupOf ds with
      | none => rw [q, q2] at e; cases e
      | some m => rw [q, q2] at e; cases e; rw [intsOf_map q, itupOf_map q2]; rfl
theorem int_inj : ∀ {l m : List Int}, l.map D.int = m.map D.int → l = m
  | [], [], _ => rfl
  | [], _ :: _, e => by cases e
  | _ :: _, [], e => by cases e
  | a :: l, b :: m, e => by
    rw [List.map_cons, List.map_cons] at e
    injection e with e1 e2
    injection e1 with e1
    rw [e1, int_inj e2]
theorem eqDs_ints : ∀ l m : List Int, eqDs (l.map D.int) (m.map D.int) = true ↔ l = m
  | [], [] => by simp [eqDs]
  | [], _ :: _ => by simp [eqDs]
  | _ :: _, [] => by simp [eqDs]
  | a :: l, b :: m => by
    have := eqDs_ints l m
    simp [eqDs, eqD, this]
theorem eqD_IT {x y : D} (hx : isIT x) (hy : isIT y) : eqD x y = true ↔ x = y := by
  cases x <;> first | exact hx.elim | skip
  · cases y <;> first | exact hy.elim | skip
    · simp [eqD]
    · simp [eqD]
  · cases y <;> first | exact hy.elim | skip
    · simp [eqD]
    · obtain ⟨l, rfl⟩ := hx
      obtain ⟨m, rfl⟩ := hy
      rw [eqD, eqDs_ints]
      exact ⟨fun e => by rw [e], fun e => by injection e with e; exact int_inj e⟩
theorem ltDs_ints : ∀ l m : List Int, ltDs (l.map D.int) (m.map D.int) = false → ltDs (m.map D.int) (l.map D.int) = false → l = m
  | [], [], _, _ => rfl
  | [], _ :: _, h, _ => by simp [ltDs] at h
  | _ :: _, [], _, h => by simp [ltDs] at h
  | a :: l, b :: m, h1, h2 => by
    rw [List.map_cons, List.map_cons, ltDs] at h1 h2
    by_cases e : a = b
    · subst e
      have q : eqD (.int a) (.int a) = true := by simp [eqD]
      rw [if_pos q] at h1 h2
      rw [ltDs_ints l m h1 h2]
    · have q1 : ¬ eqD (.int a) (.int b) = true := by simp [eqD, e]
      have q2 : ¬ eqD (.int b) (.int a) = true := by simp [eqD]; exact fun z => e z.symm
      rw [if_neg q1] at h1
      rw [if_neg q2] at h2
      simp [ltD] at h1 h2
      omega
theorem ltD_IT {x y : D} (hx : isIT x) (hy : isIT y) (ha : alikeD x y = true) (h1 : ltD x y = false) (h2 : ltD y x = false) : x = y := by
  cases x <;> first | exact hx.elim | skip
  · cases y <;> first | exact hy.elim | skip
    · simp [ltD] at h1 h2
      congr 1
      omega
    · simp [alikeD] at ha
  · cases y <;> first | exact hy.elim | skip
    · simp [alikeD] at ha
    · obtain ⟨l, rfl⟩ := hx
      obtain ⟨m, rfl⟩ := hy
      rw [ltD] at h1 h2
      rw [ltDs_ints l m h1 h2]
theorem dedup_spec : ∀ (ds acc : List D), (∀ x ∈ ds, isIT x) → (∀ x ∈ acc, isIT x) → acc.Nodup → (dedup ds acc).Nodup ∧ ∀ x, x ∈ dedup ds acc ↔ x ∈ ds ∨ x ∈ acc
  | [], acc, _, _, hn => by
    rw [dedup]
    exact ⟨List.pairwise_reverse.mpr (hn.imp fun h => Ne.symm h), fun x => by simp⟩
  | d :: ds, acc, hd, ha, hn => by
    have hx := hd d List.mem_cons_self
    rw [dedup]
    by_cases h : acc.any (eqD d) = true
    · rw [if_pos h]
      obtain ⟨y, hy, e⟩ := List.any_eq_true.mp h
      have e := (eqD_IT hx (ha y hy)).mp e
      subst e
      obtain ⟨h1, h2⟩ := dedup_spec ds acc (fun x h => hd x (List.mem_cons_of_mem _ h)) ha hn
      refine ⟨h1, fun x => (h2 x).trans ⟨fun z => z.elim (fun z => .inl (List.mem_cons_of_mem _ z)) .inr, fun z => z.elim (fun z => ?_) .inr⟩⟩
      rcases List.mem_cons.mp z with rfl | z
      · exact .inr hy
      · exact .inl z
    · rw [if_neg h]
      have nm : d ∉ acc := fun z => h (List.any_eq_true.mpr ⟨d, z, (eqD_IT hx hx).mpr rfl⟩)
      obtain ⟨h1, h2⟩ := dedup_spec ds (d :: acc) (fun x h => hd x (List.mem_cons_of_mem _ h)) (fun x h => (List.mem_cons.mp h).elim (fun e => e ▸ hx) (ha x)) (List.nodup_cons.mpr ⟨nm, hn⟩)
      refine ⟨h1, fun x => (h2 x).trans ?_⟩
      simp only [List.mem_cons]
      constructor
      · rintro (h | h | h)
        · exact .inl (.inr h)
        · exact .inl (.inl h)
        · exact .inr h
      · rintro ((h | h) | h)
        · exact .inr (.inl h)
        · exact .inl h
        · exact .inr (.inr h)
theorem uniq_perm {ds ds' : List D} (hd : ∀ x ∈ ds, isIT x) (hn : ds'.Nodup) (hm : ∀ x, x ∈ ds' ↔ x ∈ ds) : ds'.Perm (dedup ds []) := by
  obtain ⟨h1, h2⟩ := dedup_spec ds [] hd (fun x h => by simp at h) List.nodup_nil
  exact (List.perm_ext_iff_of_nodup hn h1).mpr fun x => by rw [hm, h2]; simp
theorem sort_perm {ds ds' : List D} (hp : ds'.Perm ds) (hd : ∀ x ∈ ds, isIT x) (ha : ∀ x ∈ ds, ∀ y ∈ ds, alikeD x y = true) : ds'.mergeSort (dataLe false toP) = ds.mergeSort (dataLe false toP) := by
  have T : PySem.W.TotalLe (dataLe false toP : D → D → Bool) := PySem.W.sortLe_total _ false _
  refine List.Perm.eq_of_pairwise (le := fun a b => dataLe false toP a b = true) (fun a b h1 h2 h3 h4 => ?_) (List.pairwise_mergeSort T.trans (fun a b => by simpa using T.total a b) ds') (List.pairwise_mergeSort T.trans (fun a b => by simpa using T.total a b) ds) (((List.mergeSort_perm ds' _).trans hp).trans (List.mergeSort_perm ds _).symm)
  have m1 : a ∈ ds := hp.mem_iff.mp (List.mem_mergeSort.mp h1)
  have m2 : b ∈ ds := List.mem_mergeSort.mp h2
  rw [PySem.W.dataLe_eq] at h3 h4
  have h3 : (!dataLt (toP b) (toP a)) = true := h3
  have h4 : (!dataLt (toP a) (toP b)) = true := h4
  rw [lt_eq _ _ (ha b m2 a m1)] at h3
  rw [lt_eq _ _ (ha a m1 b m2)] at h4
  exact ltD_IT (hd a m1) (hd b m2) (ha a m1 b m2) (by simpa using h4) (by simpa using h3)
theorem alikes_ints : ∀ l m : List Int, alikeDs (l.map D.int) (m.map D.int) = true
  | [], _ => by simp [alikeDs]
  | _ :: _, [] => by simp [alikeDs]
  | a :: l, b :: m => by simp [alikeDs, alikeD, alikes_ints l m]
theorem nodup_tups : ∀ {ls : List (List Int)}, ls.Nodup → (ls.map fun l => D.tup (l.map D.int)).Nodup
  | ls, h => List.pairwise_map.mpr (h.imp fun hne e => hne (by injection e with e; exact int_inj e))
theorem nodup_ints : ∀ {l : List Int}, l.Nodup → (l.map D.int).Nodup
  | l, h => List.pairwise_map.mpr (h.imp fun hne e => hne (by injection e))
theorem each_perm {α β : Type} {R : α → β → Prop} {out us : List α} (p : out.Perm us) : ∀ {ds : List β}, EachIs R us ds → ∃ ds', EachIs R out ds' ∧ ds'.Perm ds := by
  induction p with
  | nil => intro ds e; exact ⟨ds, e, .refl _⟩
  | cons x p ih =>
    intro ds e
    cases e with
    | cons h t =>
      obtain ⟨ds', h1, h2⟩ := ih t
      exact ⟨_, .cons h h1, h2.cons _⟩
  | swap x y l =>
    intro ds e
    cases e with
    | cons h t =>
      cases t with
      | cons h' t => exact ⟨_, .cons h' (.cons h t), .swap _ _ _⟩
  | trans p1 p2 ih1 ih2 =>
    intro ds e
    obtain ⟨d1, e1, q1⟩ := ih2 e
    obtain ⟨d2, e2, q2⟩ := ih1 e1
    exact ⟨d2, e2, q2.trans q1⟩
end Ev
end
section
set_option linter.all false
set_option maxRecDepth 100000
namespace Ev
open PySem PySem.Spec PyProof.Rows L2
open PySem.W (AllAlike dataLt dataLe EachIs)
theorem each_and {α β : Type} {R S : α → β → Prop} : ∀ {as : List α} {bs : List β}, EachIs R as bs → EachIs S as bs → EachIs (fun a b => R a b ∧ S a b) as bs
  | _, _, .nil, .nil => .nil
  | _, _, .cons h t, .cons h' t' => .cons ⟨h, h'⟩ (each_and t t')
section
variable {prog : Program} {w : World} {A : Around} {E : Value → Shared → Prop} {s : Shared}
set_option maxHeartbeats 1000000 in
theorem sorted_setD {a : Addr} {es : Array (Int × Value)} {ep : Nat} {t : SetTable} {us : List Value} {ds : List D} {R : Value → D → Prop} {Q : Value → Shared → Prop} (hh : A.handled = none) (ha : SetAt s.heap a es ep t) (hf : t.fits es.size = true) (hsz : es.size < scanBound) (ri : Ris t.place.toList)
    (hl : w.params.followText "set-order" = true ∨ t.led = true) (hv : es.toList.map (·.2) = us) (e : EachIs R us ds) (er : EachIs (fun v b => ∃ as, Reads s.heap v (toP b) as) us ds) (hal : AllAlike (ds.map toP)) (hk : Srt (ds.map toP)) (hu : ∀ b, b ∈ ds → A.units + 2 + (toP b).depth < cLine)
    (h : ∀ s' p (out : List Value) (c : Nat) (ds' : List D), (∀ b o, s.heap.get? b = some o → s'.heap.get? b = some o) → s'.gens = s.gens → s'.os = s.os → s.heap.objs.size ≤ p → s'.heap.get? p = some (seqObj "list" out.toArray c) → out.length = es.size → ds'.Perm ds → EachIs R out (ds'.mergeSort (dataLe false toP)) → Q (.ref p) s') :
    wpAny (model prog w) A (call (.builtin "sorted") [.ref a]) Q E s := by
  have hsl : es.size ≤ sizeLine := by rw [sizeLine_eq]; unfold scanBound at hsz; omega
  refine call_function_entry_kw kind_sorted plain_sorted entry_sorted (args_sorted1 _) ?_
  unfold Builtin.«sorted»
  refine wpAny_bind (m := checkCount "sorted" 1 1 _) (wpAny_pure ?_)
  refine wpAny_bind (collect_set (A := A.in1) hh ha hf hsz ri hl fun s1 vs k1 hz g1 o1 pm => ?_)
  rw [hv] at pm
  have hvl : vs.length = es.size := by rw [pm.length_eq, ← hv, List.length_map, Array.length_toList]
  refine wpAny_bind (wpAny_newList ?_ (by rw [hvl]; exact hsl))
  have hoL : (s1.heap.push (seqObj "list" vs.toArray 0)).get? s1.heap.objs.size = some (seqObj "list" vs.toArray 0) := Heap.get?_push_size _ rfl
  have keep : ∀ b o, s.heap.get? b = some o → (PySem.W.sortingHeap (s1.heap.push (seqObj "list" vs.toArray 0)) s1.heap.objs.size vs).get? b = some o := fun b o q => by
    have hlt : b < s1.heap.objs.size := Heap.lt_size (k1 b o q)
    exact PySem.W.sortingHeap_old (Nat.ne_of_lt hlt) (Heap.get?_push_of_some _ (k1 b o q))
  -- both of what is known of the members
  have both : EachIs (fun v b => R v b ∧ ∃ as, Reads s.heap v (toP b) as) us ds := each_and e er
  obtain ⟨ds', eo, pd⟩ := each_perm pm both
  have e1 : EachIs R vs ds' := eo.mono fun _ _ z => z.1
  have er1 : EachIs (fun v b => ∃ as, Reads (PySem.W.sortingHeap (s1.heap.push (seqObj "list" vs.toArray 0)) s1.heap.objs.size vs) v (toP b) as) vs ds' := eo.mono fun _ _ ⟨_, as, r⟩ => ⟨as, PyProof.Rows.Reads.keeps keep r⟩
  have mem : ∀ d, d ∈ ds'.map toP → d ∈ ds.map toP := fun d hd => by
    obtain ⟨b, hb, rfl⟩ := List.mem_map.mp hd
    exact List.mem_map.mpr ⟨b, pd.mem_iff.mp hb, rfl⟩
  have hal1 : AllAlike (ds'.map toP) := fun d hd d' hd' => hal d (mem d hd) d' (mem d' hd')
  have hk1 : Srt (ds'.map toP) := hk.imp (fun z d hd => z d (mem d hd)) fun z d hd => z d (mem d hd)
  have S := sortsAt_srt (prog := prog) (w := w) (A := A.in1.in1) (s := { s1 with heap := PySem.W.sortingHeap (s1.heap.push (seqObj "list" vs.toArray 0)) s1.heap.objs.size vs })
    (PySem.W.each_map (R := fun v d => ∃ as, Reads (PySem.W.sortingHeap (s1.heap.push (seqObj "list" vs.toArray 0)) s1.heap.objs.size vs) v d as) toP er1) hal1 hk1 (PySem.W.bound_map fun b hb => hu b (pd.mem_iff.mp hb))
  have hq := PySem.W.sortVals_data false e1 er1 hal1
  refine wpAny_bind (wpAny_holding (wpAny_call_entry_kw slot_list_sort ⟨_, hoL, rfl⟩ entry_list_sort ?_ (args_list_sort _)))
  refine PySem.W.list_sort_vals (s := { s1 with heap := s1.heap.push (seqObj "list" vs.toArray 0) }) hoL S (by rw [hvl]; exact hsl) ⟨_, rfl, wpAny_pure ⟨_, rfl, ?_⟩⟩
  obtain ⟨c, hc⟩ := sortedHeap_at (vs := vs) (out := (PySem.W.sortVals (PySem.W.dataKind (PySem.W.sortingHeap (s1.heap.push (seqObj "list" vs.toArray 0)) s1.heap.objs.size vs) (ds'.map toP)) false vs vs).toArray) hoL
  refine h _ s1.heap.objs.size _ c ds' (fun b o q => ?_) g1 o1 hz hc (by rw [PySem.W.sortVals_length false rfl, hvl]) pd hq
  have hlt : b < s1.heap.objs.size := Heap.lt_size (k1 b o q)
  show (sortedHeap _ _ _ _).get? b = some o
  rw [sortedHeap_old (Nat.ne_of_lt hlt) (by rw [size_push']; exact Nat.lt_succ_of_lt hlt)]
  exact Heap.get?_push_of_some _ (k1 b o q)
end
section
variable {g : Gh} {X : Cx} {G H : Hp} {pins : List (Addr × Obj)} {s : Shared} {σ : L2.St}
def SetLaid (g : Gh) (G : Hp) (w : World) (h : Heap) (a : Addr) (ds : List D) : Prop := ∃ es ep t us ds', (∃ o, h.get? a = some o ∧ o.ExactSet ∧ o.data = .set es ep t) ∧ t.fits es.size = true ∧ es.size < scanBound ∧ Ris t.place.toList ∧ (w.params.followText "set-order" = true ∨ t.led = true) ∧
  es.toList.map (·.2) = us ∧ EachIs (SR g G) us ds' ∧ ds'.Nodup ∧ (∀ x, x ∈ ds' ↔ x ∈ ds)
theorem firstI {ns : List Int} {es : List (Int × Value)} (hg : ∀ e ∈ es, GoodE e) : EachIs (SR g G) (es.map (·.2)) ((es.map L2.keyOf).map D.int) := by
  induction es with
  | nil => exact .nil
  | cons e es ih =>
    obtain ⟨k, tk, h1, _⟩ := hg e List.mem_cons_self
    refine .cons ⟨.int k, ⟨tk, h1⟩, ?_⟩ (ih fun e he => hg e (List.mem_cons_of_mem _ he))
    have : L2.keyOf e = k := by unfold L2.keyOf; rw [h1]
    rw [this]
    exact .int k
theorem tups_keys {K : PySem.W.Frag} {fa : Nat → Addr} : ∀ {vs : List V} {ls : List (List Int)}, DgAll fa K G vs (ls.map fun l => D.tup (l.map D.int)) → ∃ ks : List (Addr × List Int), vs = ks.map (fun p => V.ref p.1) ∧ ks.map (·.2) = ls ∧ ∀ p ∈ ks, SqD K G p.1 (p.2.map V.int)
  | _, [], .nil => ⟨[], rfl, rfl, fun p h => by simp at h⟩
  | _, l :: ls, .cons h t => by
    obtain ⟨ks, rfl, h2, h3⟩ := tups_keys t
    cases h with
    | tup q1 q2 =>
      rename_i a vs
      have e := q2.ints (intsOf_of l)
      subst e
      refine ⟨(a, l) :: ks, rfl, by rw [List.map_cons, h2], fun p hp => ?_⟩
      rcases List.mem_cons.mp hp with rfl | hp
      · exact q1
      · exact h3 p hp
theorem call_setD {l : Addr} {vs : List V} {ds : List D} {E : Value → Shared → Prop} {Q : Value → Shared → Prop} (hK : X.K = g.K) (hc : X.calm = true) (hu : X.A.units + 65 < cLine) (I : Inv X pins σ H s) (sp : Sup G H) (hl : SqL g.K H l vs ∨ SqT g.K H l vs) (dd : DgAll g.fa g.K G vs ds) (hs : setOk ds = true)
    (h : ∀ h' tk, (∀ b o, s.heap.get? b = some o → h'.get? b = some o) → SetLaid g G X.w h' s.heap.objs.size ds → Q (.ref s.heap.objs.size) { s with heap := h', toks := tk }) :
    wpAny (model X.prog X.w) X.A (call (.type "set") [.ref l]) Q E s := by
  obtain ⟨its, rv, hl'⟩ : ∃ its : List Value, Vals vs its ∧ (s.heap.IsList l its.toArray ∨ s.heap.IsTuple l its.toArray) := by
    rw [← hK] at hl
    rcases hl with hl | hl
    · obtain ⟨its, r, p, _⟩ := I.list hl
      exact ⟨its, r, .inl p.isList⟩
    · obtain ⟨its, r, p, _⟩ := I.tuple hl
      exact ⟨its, r, .inr p⟩
  unfold setOk at hs
  rw [Bool.or_eq_true, Bool.and_eq_true, Bool.and_eq_true] at hs
  rcases hs with ⟨h1, h2⟩ | ⟨h1, h2⟩
  · rw [Nat.ble_eq] at h2
    obtain ⟨ns, q⟩ := Option.isSome_iff_exists.mp h1
    have e1 := intsOf_map q
    subst e1
    have e2 := dd.ints q
    subst e2
    rw [List.length_map] at h2
    refine call_set_ints ns (I.ok.hd hc) hl' (by simpa using RZ.intsAre_vals rv) (by unfold scanBound; omega) fun h' tk c R k => h h' tk k ?_
    obtain ⟨o, es, ep, t, ho, hex, hd, hg, hn, hm, hb, hf, _, hr, hle⟩ := R
    refine ⟨es, ep, t, _, (es.toList.map L2.keyOf).map D.int, ⟨o, ho, hex, hd⟩, hf, hb, hr, hle, rfl, firstI (ns := ns) hg, nodup_ints hn, fun x => ?_⟩
    rw [List.mem_map, List.mem_map]
    constructor
    · rintro ⟨k, hk, rfl⟩
      have := (hm k).mpr hk
      exact ⟨k, by simpa using this, rfl⟩
    · rintro ⟨k, hk, rfl⟩
      exact ⟨k, (hm k).mp (by simpa using hk), rfl⟩
  · rw [Nat.ble_eq] at h2
    obtain ⟨ls, q⟩ := Option.isSome_iff_exists.mp h1
    have e1 := itupOf_map q
    subst e1
    obtain ⟨ks, rfl, e3, hk⟩ := tups_keys dd
    subst e3
    rw [List.length_map, List.length_map] at h2
    refine call_set_tupsA ks (I.ok.hd hc) hl' (by simpa using refs_of_vals rv) (fun p hp => I.isT (by rw [hK]; exact sp.seqT (hk p hp).seqT)) (by omega) (by omega) fun h' tk L es ep t R G' k => h h' tk k ?_
    have sub : ∀ p ∈ L, p ∈ ks := fun p hp => List.mem_of_mem_take (G'.sub p hp)
    have hes : es.toList.map (·.2) = L.map fun q => Value.ref q.1 := by
      rw [R.rows]
      unfold rowsOf
      rw [List.map_map] <;> rfl
    have nd : ((L.map (·.2)).map fun l => D.tup (l.map D.int)).Nodup := nodup_tups R.nd
    rw [List.map_map] at nd
    have nd : (L.map fun p => D.tup (p.2.map D.int)).Nodup := nd
    refine ⟨es, ep, t, _, L.map fun p => D.tup (p.2.map D.int), R.ob, SetTR.fits (s := { s with heap := h' }) R, by rw [SetTR.size (s := { s with heap := h' }) R]; unfold scanBound; have := R.few; omega, R.tab.ris, R.led, hes, ?_, nd, fun x => ?_⟩
    · have go : ∀ L' : List (Addr × List Int), (∀ p ∈ L', p ∈ ks) → EachIs (SR g G) (L'.map fun q => Value.ref q.1) (L'.map fun p => D.tup (p.2.map D.int)) := by
        intro L'
        induction L' with
        | nil => intro _; exact .nil
        | cons p L' ih =>
          intro hs
          exact .cons ⟨.ref p.1, rfl, .tup (hk p (hs p List.mem_cons_self)) (DgAll.ofInts _)⟩ (ih fun q hq => hs q (List.mem_cons_of_mem _ hq))
      exact go L sub
    · rw [List.map_map, List.mem_map, List.mem_map]
      constructor
      · rintro ⟨p, hp, rfl⟩
        exact ⟨p, sub p hp, rfl⟩
      · rintro ⟨p, hp, rfl⟩
        have := G'.all p (by rw [List.take_length]; exact hp)
        obtain ⟨p', hp', e⟩ := List.mem_map.mp this
        exact ⟨p', hp', by rw [e]; rfl⟩
theorem setOk_IT {ds : List D} (hs : setOk ds = true) : ∀ x ∈ ds, isIT x := by
  unfold setOk at hs
  rw [Bool.or_eq_true, Bool.and_eq_true, Bool.and_eq_true] at hs
  rcases hs with ⟨h1, _⟩ | ⟨h1, _⟩
  · obtain ⟨ns, q⟩ := Option.isSome_iff_exists.mp h1
    rw [intsOf_map q]
    intro x hx
    obtain ⟨i, _, rfl⟩ := List.mem_map.mp hx
    trivial
  · obtain ⟨ls, q⟩ := Option.isSome_iff_exists.mp h1
    rw [itupOf_map q]
    intro x hx
    obtain ⟨l, _, rfl⟩ := List.mem_map.mp hx
    exact ⟨l, rfl⟩
theorem setOk_alike {ds : List D} (hs : setOk ds = true) : ∀ x ∈ ds, ∀ y ∈ ds, alikeD x y = true := by
  unfold setOk at hs
  rw [Bool.or_eq_true, Bool.and_eq_true, Bool.and_eq_true] at hs
  rcases hs with ⟨h1, _⟩ | ⟨h1, _⟩
  · obtain ⟨ns, q⟩ := Option.isSome_iff_exists.mp h1
    rw [intsOf_map q]
    intro x hx y hy
    obtain ⟨i, _, rfl⟩ := List.mem_map.mp hx
    obtain ⟨j, _, rfl⟩ := List.mem_map.mp hy
    rfl
  · obtain ⟨ls, q⟩ := Option.isSome_iff_exists.mp h1
    rw [itupOf_map q]
    intro x hx y hy
    obtain ⟨l, _, rfl⟩ := List.mem_map.mp hx
    obtain ⟨m, _, rfl⟩ := List.mem_map.mp hy
    rw [alikeD]
    exact alikes_ints l m
theorem setOk_srt {ds : List D} (hs : setOk ds = true) : Srt (ds.map toP) := by
  unfold setOk at hs
  rw [Bool.or_eq_true, Bool.and_eq_true, Bool.and_eq_true] at hs
  rcases hs with ⟨h1, _⟩ | ⟨h1, _⟩
  · obtain ⟨ns, q⟩ := Option.isSome_iff_exists.mp h1
    rw [intsOf_map q]
    refine .inr fun d hd => ?_
    obtain ⟨x, hx, rfl⟩ := List.mem_map.mp hd
    obtain ⟨i, _, rfl⟩ := List.mem_map.mp hx
    simp [toP]
  · obtain ⟨ls, q⟩ := Option.isSome_iff_exists.mp h1
    rw [itupOf_map q]
    refine .inl fun d hd => ?_
    obtain ⟨x, hx, rfl⟩ := List.mem_map.mp hd
    obtain ⟨l, _, rfl⟩ := List.mem_map.mp hx
    exact ⟨_, by rw [toP]⟩
theorem isIT_data {x : D} (h : isIT x) : isData depthLine x = true := by
  have go : ∀ (l : List Int) (n : Nat), isDatas n (l.map D.int) = true := by
    intro l
    induction l with
    | nil => intro n; simp [isDatas]
    | cons i l ih => intro n; simp [isDatas, isData, ih]
  cases x <;> first | exact h.elim | skip
  · simp [isData]
  · obtain ⟨l, rfl⟩ := h
    show isData (19 + 1) _ = true
    rw [isData]
    exact go l 19
theorem sr_reads (hK : X.K = g.K) {s' : Shared} (I : Inv X pins σ H s') (sp : Sup G H) : ∀ {us : List Value} {ds : List D}, EachIs (SR g G) us ds → (∀ d ∈ ds, isData depthLine d = true) → EachIs (fun v b => ∃ as, Reads s'.heap v (toP b) as) us ds
  | _, _, .nil, _ => .nil
  | _, _, .cons ⟨x, r, d⟩ t, h => by
    have p := d.dp sp _ (h _ List.mem_cons_self)
    rw [← hK] at p
    exact .cons (Dp.reads I _ _ _ p r) (sr_reads hK I sp t fun d hd => h d (List.mem_cons_of_mem _ hd))
theorem set_read {o : Op} {dx d : D} {ds : List D} (ho : o = .sset ∨ o = .nset) (e : op1 o dx = some d) : ∃ ds, seqOf dx = some ds ∧ setOk ds = true ∧ d = if o = .sset then .lst (sortD (dedup ds [])) else .int ((dedup ds []).length : Nat) := by
  rcases ho with rfl | rfl
  · have e : ((seqOf dx).bind fun ds => if setOk ds = true then some (D.lst (sortD (dedup ds []))) else none) = some d := e
    cases q : seqOf dx with
    | none => rw [q] at e; cases e
    | some ds =>
      rw [q] at e
      have e : (if setOk ds = true then some (D.lst (sortD (dedup ds []))) else none) = some d := e
      by_cases hs : setOk ds = true
      · rw [if_pos hs] at e
        cases e
        exact ⟨ds, rfl, hs, rfl⟩
      · rw [if_neg hs] at e; cases e
  · have e : ((seqOf dx).bind fun ds => if setOk ds = true then some (D.int ((dedup ds []).length : Nat)) else none) = some d := e
    cases q : seqOf dx with
    | none => rw [q] at e; cases e
    | some ds =>
      rw [q] at e
      have e : (if setOk ds = true then some (D.int ((dedup ds []).length : Nat)) else none) = some d := e
      by_cases hs : setOk ds = true
      · rw [if_pos hs] at e
        cases e
        exact ⟨ds, rfl, hs, rfl⟩
      · rw [if_neg hs] at e; cases e
end
section
variable {g : Gh} {X : Cx}
theorem boot_sortedV : bootBuiltins (Str.ofString "sorted") = some (.builtin "sorted") := by decide +kernel
theorem vw_seq {G H : Hp} {v : V} {dx : D} {ds : List D} (wx : Vw g.fa g.K G H v dx) (sp : Sup G H) (q : seqOf dx = some ds) : ∃ a vs, v = .ref a ∧ (SqL g.K H a vs ∨ SqT g.K H a vs) ∧ DgAll g.fa g.K G vs ds := by
  cases dx <;> first | exact noS q | skip
  · cases q
    obtain ⟨p, vs, rfl, h1, dd⟩ := wx.tup sp
    exact ⟨p, vs, rfl, .inr h1.seqT, dd⟩
  · cases q
    obtain ⟨p, vs, rfl, h1, dd⟩ := wx.lstL sp
    exact ⟨p, vs, rfl, .inl h1, dd⟩
theorem pe_setD {o : Op} {id : String} {a : Expr} {x : E} {p p2 q pos : Pos} {f : Str} (ho : (o = .sset ∧ f = Str.ofString "sorted" ∧ id = "sorted") ∨ (o = .nset ∧ f = Str.ofString "len" ∧ id = "len")) (hK : X.K = g.K) (hu : X.A.units + 65 < cLine) (hg : Gl X f) (hm : X.mg f = none) (hg2 : Gl X "set") (hm2 : X.mg "set" = none)
    (ha : PE X a (RE g x)) (hc : X.calm = true) (n1 : (f == ("__debug__" : Str)) = false) (n3 : f ≠ "__name__") (na : starEach [a] X.env = (false, eval a X.env) :: starEach [] X.env) : PE X (.Call (.Name f p) [.Call (.Name "set" p2) [a] [] q] [] pos) (RE g (.op o (.cons x .nil))) := by
  refine ⟨fun pins s σ H Q I h => ?_⟩
  have hb : bootBuiltins f = some (.builtin id) := by
    rcases ho with ⟨_, rfl, rfl⟩ | ⟨_, rfl, rfl⟩
    · exact boot_sortedV
    · exact boot_len
  refine Call_ (ld_blt I hg hm hb ?_ n3 n1)
  refine PyProof.Rows.callWith_builtin1 (PyProof.Rows.args_cons ?_ rfl) rfl rfl
  refine Call_ (ld_blt I hg2 hm2 boot_set ?_)
  refine PyProof.Rows.callWith_type1 (PyProof.Rows.args_cons (thn (ha.run pins s σ H _ I h.op1) fun v s1 ⟨x, H1, I1, r1, q1⟩ => PyProof.Rows.args_nil ?_) na) na rfl
  obtain ⟨G, dss, d, sp, vw, e, q1⟩ := q1
  have ho2 : o = .sset ∨ o = .nset := ho.imp (·.1) (·.1)
  have e2 : ∃ dx, dss = [dx] ∧ op1 o dx = some d := by
    rcases ho2 with rfl | rfl
    · exact opSem1 (fun _ _ => rfl) (fun _ _ _ => rfl) e
    · exact opSem1 (fun _ _ => rfl) (fun _ _ _ => rfl) e
  obtain ⟨dx, rfl, e2⟩ := e2
  obtain ⟨x, ex, wx⟩ := vws1 vw
  cases ex
  obtain ⟨ds, es, hs, ed⟩ := set_read (ds := []) ho2 e2
  obtain ⟨l, vs, rfl, hl, dd⟩ := vw_seq wx sp es
  cases r1
  refine call_setD hK hc hu I1 sp hl dd hs fun h' tk k L => PyProof.Rows.args_nil ?_
  have I2 : Inv X pins σ H1 { s1 with heap := h', toks := tk } := I1.kept k
  obtain ⟨es, ep, t, us, ds', ⟨ob, hob, hex, hd⟩, hf, hb', hr, hle, hus, he, hn, hm'⟩ := L
  have it := setOk_IT hs
  have al := setOk_alike hs
  have pm := uniq_perm it hn hm'
  have it' : ∀ x ∈ ds', isIT x := fun x hx => it x ((hm' x).mp hx)
  rcases ho with ⟨rfl, rfl, rfl⟩ | ⟨rfl, rfl, rfl⟩
  · rw [if_pos rfl] at ed
    subst ed
    have hsr : Srt (ds'.map toP) := (setOk_srt hs).imp (fun z d hd => by
      obtain ⟨b, hb, rfl⟩ := List.mem_map.mp hd
      exact z _ (List.mem_map.mpr ⟨b, (hm' b).mp hb, rfl⟩)) fun z d hd => by
      obtain ⟨b, hb, rfl⟩ := List.mem_map.mp hd
      exact z _ (List.mem_map.mpr ⟨b, (hm' b).mp hb, rfl⟩)
    have room : ∀ b, b ∈ ds' → X.A.units + 2 + (toP b).depth < cLine := fun b hb => by
      have h1 := (toP_plain _ _ (isIT_data (it' b hb))).2
      have h2 : depthLine = 20 := rfl
      omega
    refine sorted_setD (s := { s1 with heap := h', toks := tk }) (I1.ok.hd hc) ⟨ob, hob, hex.1, hd⟩ hf hb' hr hle hus he (sr_reads hK I2 sp he fun d hd => isIT_data (it' d hd)) (fun d hd d' hd' => ?_) hsr room fun s' p out c ds2 k2 g2 o2 hp hout hol pd eo => ?_
    · obtain ⟨a, ha, rfl⟩ := List.mem_map.mp hd
      obtain ⟨b, hb, rfl⟩ := List.mem_map.mp hd'
      exact alike_eq a b (al a ((hm' a).mp ha) b ((hm' b).mp hb))
    · obtain ⟨ys, v1, v2⟩ := each_sr eo
      have spl := dedup_spec ds [] it (fun x h => by simp at h) List.nodup_nil
      have itd : ∀ x ∈ dedup ds [], isIT x := fun x hx => it x (by have := (spl.2 x).mp hx; simpa using this)
      have ald : ∀ x ∈ dedup ds [], ∀ y ∈ dedup ds [], alikeD x y = true := fun x hx y hy => al x (by have := (spl.2 x).mp hx; simpa using this) y (by have := (spl.2 y).mp hy; simpa using this)
      have esort : ds2.mergeSort (dataLe false toP) = sortD (dedup ds []) := by
        rw [sort_perm (pd.trans pm) itd ald]
        have aa : allAlike (dedup ds []) = true := by
          have go : ∀ zs : List D, (∀ x ∈ zs, ∀ y ∈ zs, alikeD x y = true) → allAlike zs = true := by
            intro zs
            induction zs with
            | nil => intro _; rfl
            | cons z zs ih =>
              intro hz
              rw [allAlike, Bool.and_eq_true, Bool.and_eq_true, List.all_eq_true]
              exact ⟨⟨hz z (by simp) z (by simp), fun y hy => hz z (by simp) y (by simp [hy])⟩, ih fun x hx y hy => hz x (by simp [hx]) y (by simp [hy])⟩
          exact go _ ald
        exact (sortD_eq aa).symm
      rw [esort] at v2
      have hnp : H1 p = none := I2.hok.fresh hp
      have hlen : ys.length ≤ sizeLine := by rw [v1.length, hol, sizeLine_eq]; unfold scanBound at hb'; omega
      have J : Inv X pins σ (upd H1 p (.lst ys)) { s1 with heap := s'.heap, gens := s'.gens, drawn := s'.drawn, toks := s'.toks } :=
        I2.call (s := { s1 with heap := h', toks := tk }) (ch := []) (Un.laid k2 hp hnp) (I2.hok.laid k2 hp ⟨hlen, out, c, v1, hout⟩) (by rw [g2]; exact I2.bare) (fun _ z => nomatch z)
      have es : s' = { s1 with heap := s'.heap, gens := s'.gens, drawn := s'.drawn, toks := s'.toks } := by
        have o2 : s'.os = s1.os := o2
        cases s'
        cases s1
        cases o2
        rfl
      rw [es]
      exact ⟨.ref p, _, J, rfl, KO.newL q1 sp rfl v2 hnp⟩
  · rw [if_neg (by decide)] at ed
    subst ed
    refine call_len_set hob hex hd hf (by unfold scanBound at hb'; omega) ⟨.int (es.size : Nat), H1, I2.tok _, ⟨_, rfl⟩, ?_⟩
    have el : es.size = (dedup ds []).length := by
      rw [← pm.length_eq, ← he.length, ← hus, List.length_map, Array.length_toList]
    rw [el]
    exact KO.fz q1 sp rfl (.int _)
end
end Ev
end
section
set_option linter.all false
set_option maxRecDepth 100000
set_option maxHeartbeats 2000000
namespace Ev
open PySem PySem.Spec PyProof.Rows L2


theorem meets_enumerate_newB1 {v : Value} {o : Obj} {H : Heap → Prop} (B : Begins v o H) :
    Meets (Builtin.«enumerate.__new__» ⟨[.type "enumerate", v], []⟩) (fun _ R s => H s.heap ∧
      R (.ok (.ret (.ref (s.heap.push o).objs.size))) { s with heap := (s.heap.push o).push { cls := .type "enumerate", data := .fields #[.none, .bool false, .ref s.heap.objs.size, rawInt 0, .none, .none] } }) :=
  .of_wp fun prog w A R s h => by
    obtain ⟨hp, g, d, tk, os⟩ := s; obtain ⟨h1, h⟩ := h
    have hsub := sub_enumerate
    have q1 : ∀ {A' : Around} {E : Value → Shared → Prop} {Q : Value → Shared → Prop}, Q (.ref hp.objs.size) ⟨hp.push o, g, d, tk, os⟩ → wpAny (model prog w) A' (pyIter v) Q E ⟨hp, g, d, tk, os⟩ :=
      fun q => B.iter prog w _ _ ⟨hp, g, d, tk, os⟩ _ h1 q
    wp_walk using q1
    refine wpAny_stack_any fun st => wpAny_pure ?_
    split
    · rename_i c _ _ _ _ _
      cases (c == Value.type "enumerate")
      · wp_walk using q1
        exact ⟨_, rfl, h⟩
      · wp_walk using q1
        exact ⟨_, rfl, h⟩
    · wp_walk using q1
      exact ⟨_, rfl, h⟩
section
variable {prog : Program} {w : World} {A : Around} {E : Value → Shared → Prop} {s : Shared}
theorem enum_begins1 {v : Value} {o : Obj} {H : Heap → Prop} {Q : Value → Shared → Prop} (B : Begins v o H) (h1 : H s.heap)
    (h : ∀ h', IsEnum h' (s.heap.objs.size + 1) s.heap.objs.size 0 .none → h'.get? s.heap.objs.size = some o → h'.objs.size = s.heap.objs.size + 2 →
      (∀ b o, s.heap.get? b = some o → h'.get? b = some o) → Q (.ref (s.heap.objs.size + 1)) { s with heap := h' }) :
    wpAny (model prog w) A (call (.type "enumerate") [v]) Q E s := by
  refine callType_new F.called_enumerate (by decide) (F.typeCall_enumerate_1 _) (F.newCall_enumerate_1 _) (fun obj => F.args_object_init_2 obj _) F.entry_enumerate_new
    (meets_enumerate_newB1 B) ⟨h1, ?_⟩
  have hz : (s.heap.push o).objs.size = s.heap.objs.size + 1 := Heap.size_push ..
  show _ ∧ _
  rw [hz]
  have he : IsEnum ((s.heap.push o).push { cls := .type "enumerate", data := .fields #[.none, .bool false, .ref s.heap.objs.size, rawInt 0, .none, .none] }) (s.heap.objs.size + 1) s.heap.objs.size 0 .none := by
    have := Heap.get?_push_size (s.heap.push o) (o := { cls := .type "enumerate", data := .fields #[.none, .bool false, .ref s.heap.objs.size, rawInt 0, .none, .none] }) rfl
    rw [hz] at this; exact this
  refine ⟨⟨_, he, rfl⟩, h _ he (Heap.get?_push_of_some _ (Heap.get?_push_size _ B.free)) (by rw [Heap.size_push, hz]) fun b o x => Heap.get?_push_of_some _ (Heap.get?_push_of_some _ x)⟩
end
def IteT (K : PySem.W.Frag) (a : Addr) : It :=
  ⟨fun i H => ∃ (xs : List V) (x : V), SqT K H a xs ∧ xs[i]? = some x, fun i H v H' => ∃ T x, v = .ref T ∧ H T = none ∧ H' = upd H T (.tup [.int (i : Nat), x]) ∧ ∀ xs, SqT K H a xs → xs[i]? = some x, fun i H => ∃ xs : List V, SqT K H a xs ∧ xs.length ≤ i⟩
theorem tup_inj {X : Cx} {pins : List (Addr × Obj)} {σ : L2.St} {H : Hp} {s : Shared} {a : Addr} {xs ys : List V} (I : Inv X pins σ H s) (h1 : SqT X.K H a xs) (h2 : SqT X.K H a ys) : xs = ys := I.tuple_inj h1 h2
theorem turn_enumT {P : Program} {w : World} {K : PySem.W.Frag} {elts : List Expr} {kk : Nat} {tpos : Pos} (a e it : Addr) :
    Turn P w K (.Tuple elts kk tpos) (IteT K a) [e, it] e (fun i h => (∃ old, IsEnum h e it ((i : Nat) : Int) old) ∧ h.IsTupleIter it a i ∧ e ≠ it) where
  mem := by simp
  obj := fun i h st b hb => by
    obtain ⟨⟨old, he⟩, ⟨o, ho, hc, hd⟩, _⟩ := st
    have e' : b = e ∨ b = it := by simpa using hb
    rcases e' with z | z
    · rw [z]; exact ⟨_, he, fun v q => nomatch q⟩
    · rw [z]; exact ⟨o, ho, fun v q => by rw [hd] at q; cases q⟩
  keep := fun i h h' st k => let ⟨⟨old, he⟩, hi, hne⟩ := st; ⟨⟨old, k e (by simp) _ he⟩, hi.at fun o q => k it (by simp) o q, hne⟩
  item := by
    intro X hP hw hK hc i pins s σ H E I hf st hg
    subst hP hw hK
    obtain ⟨⟨old, he⟩, hit, hne⟩ := st
    obtain ⟨xs, x, hq, hx⟩ := hg
    obtain ⟨its, rv, p, hz⟩ := I.tuple hq
    obtain ⟨u0, hu, ru0⟩ := rv.get hx
    have hel : e < s.heap.objs.size := Heap.lt_size he
    have hil : it < s.heap.objs.size := by obtain ⟨_, q, _⟩ := hit; exact Heap.lt_size q
    obtain ⟨ot, ht1, ht2, _⟩ := id p
    have hai : a ≠ it := fun z => by
      obtain ⟨oi, q1, q2, _⟩ := hit
      rw [← z, ht1] at q1
      cases q1
      rw [ht2] at q2
      exact absurd q2 (by simp)
    have hae : e ≠ a := fun z => by
      have he' : s.heap.get? e = _ := he
      rw [z, ht1] at he'
      have := Option.some.inj he'
      rw [this] at ht2
      exact absurd ht2 (by simp)
    have hix : i < its.toArray.size := by
      rw [List.size_toArray, ← rv.length]
      exact (List.getElem?_eq_some_iff.mp hx).1
    have DD := Draws.tuple (prog := X.prog) (w := X.w) (A := X.A.in1) (show X.A.in1.handled = none from I.ok.hd hc) it a hai its.toArray
    refine wpAny_pyNext_enum_itemC (c := ((i : Nat) : Int)) DD he ⟨hit, p⟩ hix hne (by simp [hne, hae]) fun u h' tk hu' ho hst' hT hsz hk => ?_
    obtain ⟨hit', hp'⟩ := hst'
    have eu : u0 = u := by
      have z : its.toArray[i]? = some u := hu'
      rw [List.getElem?_toArray, hu] at z
      exact Option.some.inj z
    subst eu
    refine ⟨_, rfl, wpAny_letOwnedTupleGo_enum (s := { s with heap := h', toks := tk + 1 }) ho fun h'' he' sb => ?_⟩
    have hT2 : h''.get? s.heap.objs.size = some { cls := .type "tuple", data := .seq #[.int i tk, u0] } := (sb.2 _ (Nat.ne_of_gt hel)).trans hT
    have new : ObjOk X.prog X.w (upd H s.heap.objs.size (.tup [.int (i : Nat), x])) h'' s.heap.objs.size (.tup [.int (i : Nat), x]) :=
      ⟨by show 2 ≤ sizeLine; decide, [.int i tk, u0], .cons ⟨_, rfl⟩ (.cons ru0 .nil), ⟨_, hT2, rfl, _, rfl⟩⟩
    have I1 : Inv X pins σ (upd H s.heap.objs.size (.tup [.int (i : Nat), x])) { s with heap := h'', toks := tk + 1 } :=
      I.turnedNew (ch := [e, it]) (fun b ob hb q => (sb.2 b (fun z => hb (by simp [z]))).trans (hk b ob (fun z => hb (by simp [z])) (fun z => hb (by simp [z])) q)) hf (Nat.le_refl _) new
    refine ⟨.ref s.heap.objs.size, _, I1, rfl, ⟨_, x, rfl, I.hok.fresh (Nat.le_refl _), rfl, fun ys hy => by rw [tup_inj I hy hq]; exact hx⟩, ⟨⟨u0, ?_⟩, hit'.at fun o q => (sb.2 it (Ne.symm hne)).trans q, hne⟩, fun b hb => ?_⟩
    · have e1 : ((i + 1 : Nat) : Int) = (i : Int) + 1 := by omega
      rw [e1]; exact he'
    · have hb' : b < s.heap.objs.size := by
        have e' : b = e ∨ b = it := by simpa using hb
        rcases e' with z | z
        · rw [z]; exact hel
        · rw [z]; exact hil
      rw [upd_ne (Nat.ne_of_lt hb')]
      exact (hf b hb).1
  done := by
    intro X hP hw hK hc i pins s σ H E I hf st hg
    subst hP hw hK
    obtain ⟨⟨old, he⟩, hit, hne⟩ := st
    obtain ⟨xs, hq, hx⟩ := hg
    obtain ⟨its, rv, p, hz⟩ := I.tuple hq
    obtain ⟨f0, f1, f2, f3, f4, f5⟩ := hf it (by simp)
    have hl := rv.length
    have hT : s.TypeIs (.ref e) "enumerate" := ⟨_, he, rfl⟩
    unfold pyNext
    refine wpAny_bind (wpAny_attempt (wpAny_callSpecial?_slot (name := Str.ofString "__next__") hT F.slot_enumerate_next
      (wpAny_call_entry F.slot_enumerate_next hT F.entry_enumerate_next ?_ (F.args_enumerate_next_1 _))))
    show wpAny _ _ (field (.ref e) 2 >>= _) _ _ _
    refine wpAny_bind (wpAny_field he rfl (x := .ref it) rfl ?_)
    refine wpAny_bind (wpAny_nextOf_tuple_end (items := its.toArray) (I.ok.hd hc) hit p (by simp; omega) fun h' x he' hx' => ?_)
    obtain ⟨o, ho, hc⟩ := hx'
    refine wpAny_bind (wpAny_isInstance (T := "StopIteration") (b := true) ⟨o, ho, hc⟩ isSubtype_stop ?_)
    exact wpAny_pure ⟨rfl, I.turned (t' := s.toks) (fun b o hb q => he' b o hb q) f0 f1 f3 f4 f5⟩
  self := fun A i s Q E st h => let ⟨⟨_, he⟩, _⟩ := st; wpAny_pyIter_enum he h
def iEnumA (K : PySem.W.Frag) (ta : TA) : TI := fun σ H R => ta σ H fun vs H1 => ∃ a xs, vs = [.ref a] ∧ ((SqL K H1 a xs ∧ R (Ite K a) H1) ∨ (SqT K H1 a xs ∧ R (IteT K a) H1))
theorem pi_enumA {X : Cx} {e : Expr} {ta : TA} {p pos tpos : Pos} {elts : List Expr} {kk : Nat} (hg : Gl X "enumerate") (hm : X.mg "enumerate" = none) (ha : PA X [e] ta) (hs : starEach [e] X.env = [(false, eval e X.env)] := by rfl) :
    PI X (.Tuple elts kk tpos) (.Call (.Name "enumerate" p) [e] [] pos) (iEnumA X.K ta) := by
  refine ⟨fun pins s σ H R I h => ?_⟩
  refine Call_ (ld_blt I hg hm boot_enumerate (PyProof.Rows.callWith_type1 (thn (ha.run pos pins s σ H _ I h) fun us s1 ⟨vs, H1, I1, r1, q1⟩ => ?_) hs rfl))
  obtain ⟨a, xs, ex, q1⟩ := q1
  subst ex
  cases r1 with
  | cons r rr =>
    cases rr
    cases r
    have fpok : ∀ b ∈ [s1.heap.objs.size + 1, s1.heap.objs.size], FpOk X pins H1 b := fun b hb => by
      have e' : b = s1.heap.objs.size + 1 ∨ b = s1.heap.objs.size := by simpa using hb
      have hle : s1.heap.objs.size ≤ b := by
        rcases e' with z | z
        · rw [z]; exact Nat.le_add_right _ _
        · rw [z]; exact Nat.le_refl _
      exact I1.fpOk hle (I1.hok.fresh hle)
    rcases q1 with ⟨hq, q⟩ | ⟨hq, q⟩
    · obtain ⟨its, rv, p', hz⟩ := I1.list hq
      refine call_enumerate_list p'.isList fun h' he hit hsz hk => wpAny_pyIter_enum he ?_
      have I2 : Inv X pins σ H1 { s1 with heap := h' } := I1.kept (t' := s1.toks) hk
      exact ⟨s1.heap.objs.size + 1, [s1.heap.objs.size + 1, s1.heap.objs.size], _, _, H1, rfl, I2, turn_enum a (s1.heap.objs.size + 1) s1.heap.objs.size, ⟨⟨.none, he⟩, hit, Nat.succ_ne_self _⟩, fpok, q⟩
    · obtain ⟨its, rv, p', hz⟩ := I1.tuple hq
      refine enum_begins1 (begins_tuple a its.toArray) p' fun h' he hit hsz hk => wpAny_pyIter_enum he ?_
      have I2 : Inv X pins σ H1 { s1 with heap := h' } := I1.kept (t' := s1.toks) hk
      exact ⟨s1.heap.objs.size + 1, [s1.heap.objs.size + 1, s1.heap.objs.size], _, _, H1, rfl, I2, turn_enumT a (s1.heap.objs.size + 1) s1.heap.objs.size, ⟨⟨.none, he⟩, ⟨_, hit, rfl, rfl⟩, Nat.succ_ne_self _⟩, fpok, q⟩
end Ev
end
section
set_option linter.all false
set_option maxRecDepth 100000
namespace Ev
open PySem PySem.Spec PyProof.Rows L2

section
variable {g : Gh} {X : Cx} {G H : Hp}
def KM (g : Gh) (o : Op) (k : Nat) : V → List V → Hp → VK → Prop := fun x vs H Q => ∃ G dx ds d, kindD dx = k ∧ Sup G H ∧ Vw g.fa g.K G H x dx ∧ Vws g.fa g.K G H vs ds ∧ opSem o (dx :: ds) = some d ∧ ∀ v H' G', Grow G H G' H' → RV g.fa g.K H G' H' (resO o d) v → Q v H'
theorem kind3 {d : D} (h : kindD d = 3) : ∃ ds, d = .lst ds := by cases d <;> first | exact ⟨_, rfl⟩ | cases h
theorem kind4 {d : D} (h : kindD d = 4) : ∃ ds, d = .tup ds := by cases d <;> first | exact ⟨_, rfl⟩ | cases h
theorem kind2 {d : D} (h : kindD d = 2) : ∃ x, d = .str x := by cases d <;> first | exact ⟨_, rfl⟩ | cases h
theorem opSem2' {o : Op} {dx : D} {ds : List D} {d : D} (h2 : ∀ a, op1 o a = none) (h3 : ∀ a b c, op3 o a b c = none) (e : opSem o (dx :: ds) = some d) : ∃ y, ds = [y] ∧ op2 o dx y = some d := by
  obtain ⟨x, y, e1, e2⟩ := opSem2 h2 h3 e
  cases e1
  exact ⟨y, rfl, e2⟩
theorem place_eq {n : Nat} {y : D} (hy : isData depthLine y = true) : ∀ {ds : List D} (k : Nat), isDatas n ds = true → idx y ds k = (SeqAt.dataPlace (toPs ds) (toP y)).map (· + k)
  | [], k, _ => rfl
  | d :: ds, k, h => by
    rw [isDatas, Bool.and_eq_true] at h
    have ih := place_eq hy (ds := ds) (k + 1) h.2
    unfold SeqAt.dataPlace at ih ⊢
    rw [idx, toPs, List.findIdx?_cons, eqv_eq _ _ _ _ h.1 hy]
    by_cases q : eqD d y = true
    · rw [if_pos q, if_pos q]; simp
    · rw [if_neg q, if_neg q, ih, Option.map_map]
      congr 1
      funext i
      show i + (k + 1) = i + 1 + k
      omega
theorem mt_index3 (hK : X.K = g.K) (hu : X.A.units + 65 < cLine) : MtR X "list.index" (KM g .index 3) := by
  intro pins s σ H x xs v us Q I rx rs ⟨G, dx, ds, d, hk, sp, wx, vw, e, q⟩
  obtain ⟨zs, rfl⟩ := kind3 hk
  obtain ⟨y, rfl, e⟩ := opSem2' (fun _ => rfl) (fun _ _ _ => rfl) e
  obtain ⟨vy, rfl, wy⟩ := vws1 vw
  have e : (if (isDatas depthLine zs && isData depthLine y) = true then (idx y zs 0).map fun n => D.int n else none) = some d := e
  by_cases hc : (isDatas depthLine zs && isData depthLine y) = true
  · rw [if_pos hc] at e
    obtain ⟨h2, h1⟩ := Bool.and_eq_true_iff.mp hc
    rw [place_eq h1 0 h2] at e
    obtain ⟨p, vs, rfl, hl, dd⟩ := wx.lstL sp
    rw [← hK] at hl
    obtain ⟨its, rv, ⟨⟨cls, dct, data, sls⟩, n, ho, hcl, hdn, hdt⟩, hz⟩ := I.list hl
    simp only at hcl hdt
    subst hcl hdt
    cases rx
    obtain ⟨uy, rfl, ry⟩ := Vals.one rs
    have py := wy.dp sp h1
    rw [← hK] at py
    obtain ⟨bs, r1⟩ := Dp.reads I _ _ _ py ry
    have pl := dd.dp sp _ h2
    rw [← hK] at pl
    obtain ⟨as, r2⟩ := Dp.readsAll I _ _ _ pl rv
    obtain ⟨l1, m1⟩ := toP_plain _ _ h1
    obtain ⟨l2, m2⟩ := toPs_plain _ _ h2
    cases qp : SeqAt.dataPlace (toPs zs) (toP y) with
    | none => rw [qp] at e; cases e
    | some j =>
      rw [qp] at e
      cases e
      have r2' : ReadsAll s.heap its.toArray.toList (toPs zs) as := r2
      obtain ⟨hj, hhit, hno⟩ := SeqAt.hit_at r2' l2 qp
      have hroom : X.A.units + 1 + min (PyData.depthAll (toPs zs)) (toP y).depth < cLine := by have hd : depthLine = 20 := rfl; omega
      have hjs : (j : Int) < 2 ^ 63 - 1 := by
        have h5 : its.toArray.size = its.length := List.size_toArray
        have h6 := rv.length
        have h7 := sizeLine_eq
        omega
      refine call_meets PySem.F.slot_list_index ⟨_, ho, rfl⟩ PySem.F.entry_list_index (PySem.F.args_list_index_2 _ _)
        (SeqAt.list_indexAt p its.toArray n dct sls uy (fun u => PyData.eqv (SeqAt.readOf s.heap u) (toP y)) j hj hjs hhit hno) ⟨ho, SeqAt.items_plain r2' r1 l2 l1 hroom, ?_⟩
      exact ⟨.int (j : Nat), H, I.tok _, ⟨_, rfl⟩, KO.fz q sp rfl (.int _)⟩
  · rw [if_neg hc] at e; cases e
theorem mt_index4 (hK : X.K = g.K) (hu : X.A.units + 65 < cLine) : MtR X "tuple.index" (KM g .index 4) := by
  intro pins s σ H x xs v us Q I rx rs ⟨G, dx, ds, d, hk, sp, wx, vw, e, q⟩
  obtain ⟨zs, rfl⟩ := kind4 hk
  obtain ⟨y, rfl, e⟩ := opSem2' (fun _ => rfl) (fun _ _ _ => rfl) e
  obtain ⟨vy, rfl, wy⟩ := vws1 vw
  have e : (if (isDatas depthLine zs && isData depthLine y) = true then (idx y zs 0).map fun n => D.int n else none) = some d := e
  by_cases hc : (isDatas depthLine zs && isData depthLine y) = true
  · rw [if_pos hc] at e
    obtain ⟨h2, h1⟩ := Bool.and_eq_true_iff.mp hc
    rw [place_eq h1 0 h2] at e
    obtain ⟨p, vs, rfl, hl, dd⟩ := wx.tup sp
    rw [← hK] at hl
    obtain ⟨⟨cls, dct, data, sls⟩, its, n, ho, hcl, hdn, hdt, rv, hz⟩ := tup_obj I hl
    simp only at hcl hdt
    subst hcl hdt
    cases rx
    obtain ⟨uy, rfl, ry⟩ := Vals.one rs
    have py := wy.dp sp h1
    rw [← hK] at py
    obtain ⟨bs, r1⟩ := Dp.reads I _ _ _ py ry
    have pl := dd.dp sp _ h2
    rw [← hK] at pl
    obtain ⟨as, r2⟩ := Dp.readsAll I _ _ _ pl rv
    obtain ⟨l1, m1⟩ := toP_plain _ _ h1
    obtain ⟨l2, m2⟩ := toPs_plain _ _ h2
    cases qp : SeqAt.dataPlace (toPs zs) (toP y) with
    | none => rw [qp] at e; cases e
    | some j =>
      rw [qp] at e
      cases e
      obtain ⟨hj, hhit, hno⟩ := SeqAt.hit_at r2 l2 qp
      have hroom : X.A.units + 1 + min (PyData.depthAll (toPs zs)) (toP y).depth < cLine := by have hd : depthLine = 20 := rfl; omega
      refine call_meets PySem.F.slot_tuple_index ⟨_, ho, rfl⟩ PySem.F.entry_tuple_index (PySem.F.args_tuple_index_2 _ _)
        (TI.tuple_indexAt p its n dct sls uy (fun u => PyData.eqv (SeqAt.readOf s.heap u) (toP y)) j hj hhit hno) ⟨ho, SeqAt.items_plain r2 r1 l2 l1 hroom, ?_⟩
      exact ⟨.int (j : Nat), H, I.tok _, ⟨_, rfl⟩, KO.fz q sp rfl (.int _)⟩
  · rw [if_neg hc] at e; cases e
theorem count_eq {n : Nat} {y : D} (hy : isData depthLine y = true) : ∀ {ds : List D}, isDatas n ds = true → ((toPs ds).countP fun z => PyData.eqv z (toP y)) = ds.countP fun d => eqD d y
  | [], _ => rfl
  | d :: ds, h => by
    rw [isDatas, Bool.and_eq_true] at h
    rw [toPs, List.countP_cons, List.countP_cons, count_eq hy h.2, eqv_eq _ _ _ _ h.1 hy]
theorem mt_count3 (hK : X.K = g.K) (hu : X.A.units + 65 < cLine) : MtR X "list.count" (KM g .count 3) := by
  intro pins s σ H x xs v us Q I rx rs ⟨G, dx, ds, d, hk, sp, wx, vw, e, q⟩
  obtain ⟨zs, rfl⟩ := kind3 hk
  obtain ⟨y, rfl, e⟩ := opSem2' (fun _ => rfl) (fun _ _ _ => rfl) e
  obtain ⟨vy, rfl, wy⟩ := vws1 vw
  have e : (if (isDatas depthLine zs && isData depthLine y) = true then some (D.int ((zs.countP fun d => eqD d y : Nat) : Int)) else none) = some d := e
  by_cases hc : (isDatas depthLine zs && isData depthLine y) = true
  · rw [if_pos hc] at e
    cases e
    obtain ⟨h2, h1⟩ := Bool.and_eq_true_iff.mp hc
    obtain ⟨p, vs, rfl, hl, dd⟩ := wx.lstL sp
    rw [← hK] at hl
    obtain ⟨its, rv, pl, hz⟩ := I.list hl
    cases rx
    obtain ⟨uy, rfl, ry⟩ := Vals.one rs
    have py := wy.dp sp h1
    rw [← hK] at py
    obtain ⟨bs, r1⟩ := Dp.reads I _ _ _ py ry
    have pl2 := dd.dp sp _ h2
    rw [← hK] at pl2
    obtain ⟨as, r2⟩ := Dp.readsAll I _ _ _ pl2 rv
    obtain ⟨l1, m1⟩ := toP_plain _ _ h1
    obtain ⟨l2, m2⟩ := toPs_plain _ _ h2
    have hroom : X.A.units + 1 + min (PyData.depthAll (toPs zs)) (toP y).depth < cLine := by have hd : depthLine = 20 := rfl; omega
    refine SeqAt.count_list_data (vs := its.toArray) pl.isList r2 r1 l2 l1 hroom ⟨.int _, H, I.tok _, ⟨_, rfl⟩, ?_⟩
    rw [count_eq h1 h2]
    exact KO.fz q sp rfl (.int _)
  · rw [if_neg hc] at e; cases e
theorem mt_count4 (hK : X.K = g.K) (hu : X.A.units + 65 < cLine) : MtR X "tuple.count" (KM g .count 4) := by
  intro pins s σ H x xs v us Q I rx rs ⟨G, dx, ds, d, hk, sp, wx, vw, e, q⟩
  obtain ⟨zs, rfl⟩ := kind4 hk
  obtain ⟨y, rfl, e⟩ := opSem2' (fun _ => rfl) (fun _ _ _ => rfl) e
  obtain ⟨vy, rfl, wy⟩ := vws1 vw
  have e : (if (isDatas depthLine zs && isData depthLine y) = true then some (D.int ((zs.countP fun d => eqD d y : Nat) : Int)) else none) = some d := e
  by_cases hc : (isDatas depthLine zs && isData depthLine y) = true
  · rw [if_pos hc] at e
    cases e
    obtain ⟨h2, h1⟩ := Bool.and_eq_true_iff.mp hc
    obtain ⟨p, vs, rfl, hl, dd⟩ := wx.tup sp
    rw [← hK] at hl
    obtain ⟨o, its, n, ho, hcl, hdn, hdt, rv, hz⟩ := tup_obj I hl
    cases rx
    obtain ⟨uy, rfl, ry⟩ := Vals.one rs
    have py := wy.dp sp h1
    rw [← hK] at py
    obtain ⟨bs, r1⟩ := Dp.reads I _ _ _ py ry
    have pl2 := dd.dp sp _ h2
    rw [← hK] at pl2
    obtain ⟨as, r2⟩ := Dp.readsAll I _ _ _ pl2 rv
    obtain ⟨l1, m1⟩ := toP_plain _ _ h1
    obtain ⟨l2, m2⟩ := toPs_plain _ _ h2
    have hroom : X.A.units + 1 + min (PyData.depthAll (toPs zs)) (toP y).depth < cLine := by have hd : depthLine = 20 := rfl; omega
    refine SeqAt.count_tuple_data (vs := its) ⟨o, ho, hcl, n, hdt⟩ r2 r1 l2 l1 hroom ⟨.int _, H, I.tok _, ⟨_, rfl⟩, ?_⟩
    rw [count_eq h1 h2]
    exact KO.fz q sp rfl (.int _)
  · rw [if_neg hc] at e; cases e

def tyName : Nat → String
  | 0 => "int"
  | 1 => "bool"
  | 2 => "str"
  | 3 => "list"
  | _ => "tuple"
def tyD : D → String
  | .non => "NoneType"
  | .bl _ => "bool"
  | .int _ => "int"
  | .str _ => "str"
  | .lst _ => "list"
  | _ => "tuple"
theorem Vw.tyX {v : V} {d : D} (h : Vw g.fa g.K G H v d) (s : Sup G H) (k : tyKnown d = true) : TyX g.K H v (.type (tyD d)) := by
  cases d with
  | non => rcases h with h | ⟨_, _, h⟩; cases h; exact .base .non; exact h.elim
  | bl b => rw [h.bl]; exact .base (.bl b)
  | int b => rw [h.int]; exact .base (.int b)
  | str b => rw [h.str]; exact .base (.str b)
  | lst ds => obtain ⟨a, vs, rfl, h1, _⟩ := h.lst s; exact .base (.lst h1)
  | tup ds =>
    obtain ⟨a, vs, rfl, h1, _⟩ := h.tup s
    rcases h1 with ⟨o, h1, _⟩ | ⟨o, its, n, h1, h2, _⟩
    · exact .fTuple h1
    · exact .kTuple h1 h2
  | _ => cases k
theorem kit_one (K : PySem.W.Frag) {d : D} (k : tyKnown d = true) {t : Nat} (ht : t < 5) : PySem.W.kitOne K (.type (tyD d)) (.type (tyName t)) = some (tyIs d t) := by
  match t, ht with
  | 0, _ => cases d <;> first | rfl | cases k
  | 1, _ => cases d <;> first | rfl | cases k
  | 2, _ => cases d <;> first | rfl | cases k
  | 3, _ => cases d <;> first | rfl | cases k
  | 4, _ => cases d <;> first | rfl | cases k
theorem kit_any (K : PySem.W.Frag) {d : D} (k : tyKnown d = true) : ∀ {ts : List Nat}, (∀ t ∈ ts, t < 5) → PySem.W.kitAny K (.type (tyD d)) (ts.map fun t => .type (tyName t)) = some (ts.any (tyIs d))
  | [], _ => rfl
  | t :: ts, h => by
    rw [List.map_cons, PySem.W.kitAny, kit_one K k (h t List.mem_cons_self), List.any_cons, kit_any K k fun t ht => h t (List.mem_cons_of_mem _ ht)]
    cases tyIs d t <;> rfl
theorem isi_of {ts : List Nat} {v : V} {Q : VK} (h : KO g (.isi ts) [v] H Q) : ∃ G d, Sup G H ∧ Vw g.fa g.K G H v d ∧ tyKnown d = true ∧ ∀ H', Same H H' → Q (.bl (ts.any (tyIs d))) H' := by
  obtain ⟨G, ds, d, sp, vw, e, q⟩ := h
  obtain ⟨dx, rfl, e'⟩ := opSem1 (fun _ _ => rfl) (fun _ _ _ => rfl) e
  replace e := e'
  clear e'
  obtain ⟨x, ex, wx⟩ := vws1 vw
  cases ex
  have e : (if tyKnown dx = true then some (D.bl (ts.any (tyIs dx))) else none) = some d := e
  by_cases hc : tyKnown dx = true
  · rw [if_pos hc] at e
    cases e
    exact ⟨G, dx, sp, wx, hc, fun H' sm => q _ H' G ⟨sm, .refl G, sp.trans (.of sm), fun _ _ h => h⟩ (show Dg g.fa g.K G _ (.bl _) from .bl _)⟩
  · rw [if_neg hc] at e; cases e
theorem ko_isi1 {t : Nat} (ht : t < 5) {v : V} {Q : VK} (h : KO g (.isi [t]) [v] H Q) : rIsi g.K [v, .ty (tyName t)] H Q := by
  obtain ⟨G, d, sp, wx, hk, q⟩ := isi_of h
  refine ⟨v, _, _, _, _, rfl, .ty _, wx.tyX sp hk, kit_one g.K hk ht, ?_⟩
  have := q H (fun _ _ h => h)
  simpa using this
theorem pairTy : ∀ ts : List Nat, Paired ClsV (ts.map fun t => V.ty (tyName t)) (ts.map fun t => Value.type (tyName t))
  | [] => .nil
  | t :: ts => .cons (.ty _) (pairTy ts)
theorem ko_isiT {ts : List Nat} (ht : ∀ t ∈ ts, t < 5) {v : V} {Q : VK} (h : KO g (.isi ts) [v] H Q) {p : Addr} (hp : H p = none) : rIsiT g.K [v, .ref p] (upd H p (.tup (ts.map fun t => .ty (tyName t)))) Q := by
  obtain ⟨G, d, sp, wx, hk, q⟩ := isi_of h
  have sm : Same H (upd H p (.tup (ts.map fun t => .ty (tyName t)))) := fun c o e => by rw [upd_ne (ne_of_none e hp)]; exact e
  have wx' : Vw g.fa g.K G (upd H p (.tup (ts.map fun t => .ty (tyName t)))) v d := by
    rcases wx with w | ⟨a, e, w⟩
    · exact .inl w
    · exact .inr ⟨a, e, w.mono (.refl G) fun o e => sm a o e⟩
  exact ⟨v, p, _, _, _, _, rfl, upd_same, pairTy ts, wx'.tyX (sp.trans (.of sm)) hk, kit_any g.K hk ht, q _ sm⟩
end
end Ev
end
section
set_option linter.all false
set_option maxRecDepth 100000
namespace Ev
open PySem PySem.Spec PyProof.Rows L2
open RZ (ItzT pi_zipA)
section
variable {g : Gh} {X : Cx} {F G G0 H : Hp} {io : Option Addr} {env : Env} {σ : L2.St}

theorem Yields.list {a : Addr} {ds : List D} {vs : List V} (h : SqL g.K G0 a vs) (dd : DgAll g.fa g.K G0 vs ds) : Yields g.fa g.K .seq G0 (Itl g.K a) ds where
  stop := fun G H s1 s2 => ⟨vs, (s1.trans s2).seqL h, by rw [dd.length]; exact Nat.le_refl _⟩
  go := fun G H i d s1 s2 e => by
    obtain ⟨v, h1, h2⟩ := dd.get e
    exact ⟨vs, v, (s1.trans s2).seqL h, h1⟩
  yld := fun G H i d x H' s1 s2 e y => by
    obtain ⟨v, h1, h2⟩ := dd.get e
    obtain ⟨rfl, y2⟩ := y
    have := y2 vs ((s1.trans s2).seqL h)
    rw [h1] at this
    cases this
    exact ⟨G, Grow.refl s2, .inl (h2.mono s1)⟩
theorem Yields.tuple {a : Addr} {ds : List D} {vs : List V} (h : SqT g.K G0 a vs) (dd : DgAll g.fa g.K G0 vs ds) : Yields g.fa g.K .seq G0 (Itt g.K a) ds where
  stop := fun G H s1 s2 => ⟨vs, (s1.trans s2).seqT h, by rw [dd.length]; exact Nat.le_refl _⟩
  go := fun G H i d s1 s2 e => by
    obtain ⟨v, h1, h2⟩ := dd.get e
    exact ⟨vs, v, (s1.trans s2).seqT h, h1⟩
  yld := fun G H i d x H' s1 s2 e y => by
    obtain ⟨v, h1, h2⟩ := dd.get e
    obtain ⟨rfl, y2⟩ := y
    have := y2 vs ((s1.trans s2).seqT h)
    rw [h1] at this
    cases this
    exact ⟨G, Grow.refl s2, .inl (h2.mono s1)⟩
theorem signs_get {z : Str} {i : Nat} {d : D} (e : (signs z)[i]? = some d) : ∃ c, z.cps[i]? = some c ∧ d = .str ⟨#[c]⟩ := by
  unfold signs at e
  rw [List.getElem?_map] at e
  cases q : z.cps.toList[i]? with
  | none => rw [q] at e; cases e
  | some c =>
    rw [q] at e
    cases e
    exact ⟨c, by simpa using q, rfl⟩
theorem Yields.text (z : Str) : Yields g.fa g.K .seq G0 (Its z) (signs z) where
  stop := fun G H s1 s2 => by show z.cps.size ≤ (signs z).length; simp [signs]
  go := fun G H i d s1 s2 e => by
    obtain ⟨c, h1, h2⟩ := signs_get e
    exact (Array.getElem?_eq_some_iff.mp h1).1
  yld := fun G H i d x H' s1 s2 e y => by
    obtain ⟨c, h1, rfl⟩ := signs_get e
    obtain ⟨rfl, c', h3, rfl⟩ := y
    rw [h1] at h3
    cases h3
    exact ⟨G, Grow.refl s2, .inl (.str _)⟩
theorem upto_len (lo : Int) : ∀ n : Nat, (upto lo n).length = n
  | 0 => rfl
  | n + 1 => by rw [upto, List.length_cons, upto_len (lo + 1) n]
theorem upto_get : ∀ (n : Nat) (lo : Int) (i : Nat), i < n → (upto lo n)[i]? = some (lo + i)
  | 0, _, _, h => absurd h (Nat.not_lt_zero _)
  | n + 1, lo, 0, _ => by simp [upto]
  | n + 1, lo, i + 1, h => by
    rw [upto, List.getElem?_cons_succ, upto_get n (lo + 1) i (Nat.lt_of_succ_lt_succ h)]
    congr 1
    omega
theorem Yields.range {k : IK} (lo : Int) (n : Nat) : Yields g.fa g.K k G0 (Itr lo n) ((upto lo n).map D.int) where
  stop := fun G H s1 s2 => by show n ≤ ((upto lo n).map D.int).length; rw [List.length_map, upto_len]; exact Nat.le_refl _
  go := fun G H i d s1 s2 e => by
    have := (List.getElem?_eq_some_iff.mp e).1
    rw [List.length_map, upto_len] at this
    exact this
  yld := fun G H i d x H' s1 s2 e y => by
    have hi := (List.getElem?_eq_some_iff.mp e).1
    rw [List.length_map, upto_len] at hi
    rw [List.getElem?_map, upto_get n lo i hi] at e
    cases e
    obtain ⟨rfl, rfl⟩ := y
    exact ⟨G, Grow.refl s2, .inl (.int _)⟩
theorem pair_new {k : IK} (hk : pairK k = true) {G H : Hp} {T : Addr} {x y : V} {dx dy : D} (s : Sup G H) (hT : H T = none) (hx : Dg g.fa g.K G x dx) (hy : Dg g.fa g.K G y dy) :
    ∃ G', Grow G H G' (upd H T (.tup [x, y])) ∧ Yd g.fa g.K k G' (.ref T) (.tup [dx, dy]) := by
  have gr : Grow G H (upd G T (.tup [x, y])) (upd H T (.tup [x, y])) := .known s hT
  exact ⟨_, gr, .inr ⟨hk, T, [x, y], [dx, dy], rfl, rfl, .inl (.inl upd_same), .cons (hx.mono gr.sup) (.cons (hy.mono gr.sup) .nil)⟩⟩
theorem enum_get : ∀ {ds : List D} {k i : Nat} {d : D}, (enumD k ds)[i]? = some d → ∃ e, ds[i]? = some e ∧ d = .tup [.int ((k + i : Nat) : Int), e]
  | [], k, i, d, h => by simp [enumD] at h
  | e :: ds, k, 0, d, h => by
    simp [enumD] at h
    exact ⟨e, rfl, by rw [← h]; simp⟩
  | e :: ds, k, i + 1, d, h => by
    rw [enumD, List.getElem?_cons_succ] at h
    obtain ⟨e', h1, h2⟩ := enum_get h
    refine ⟨e', by simpa using h1, ?_⟩
    rw [h2]
    congr 3
    omega
theorem enum_len : ∀ (ds : List D) (k : Nat), (enumD k ds).length = ds.length
  | [], _ => rfl
  | d :: ds, k => by rw [enumD, List.length_cons, enum_len ds, List.length_cons]
theorem Yields.enumL {a : Addr} {ds : List D} {vs : List V} (h : SqL g.K G0 a vs) (dd : DgAll g.fa g.K G0 vs ds) : Yields g.fa g.K .enum G0 (Ite g.K a) (enumD 0 ds) where
  stop := fun G H s1 s2 => ⟨vs, (s1.trans s2).seqL h, by rw [enum_len, dd.length]; exact Nat.le_refl _⟩
  go := fun G H i d s1 s2 e => by
    obtain ⟨e', h3, _⟩ := enum_get e
    obtain ⟨v, h1, h2⟩ := dd.get h3
    exact ⟨vs, v, (s1.trans s2).seqL h, h1⟩
  yld := fun G H i d x H' s1 s2 e y => by
    obtain ⟨e', h3, rfl⟩ := enum_get e
    obtain ⟨v, h1, h2⟩ := dd.get h3
    obtain ⟨T, z, rfl, hT, rfl, y2⟩ := y
    have := y2 vs ((s1.trans s2).seqL h)
    rw [h1] at this
    cases this
    rw [Nat.zero_add]
    exact pair_new rfl s2 hT (.int _) (h2.mono s1)
theorem Yields.enumT {a : Addr} {ds : List D} {vs : List V} (h : SqT g.K G0 a vs) (dd : DgAll g.fa g.K G0 vs ds) : Yields g.fa g.K .enum G0 (IteT g.K a) (enumD 0 ds) where
  stop := fun G H s1 s2 => ⟨vs, (s1.trans s2).seqT h, by rw [enum_len, dd.length]; exact Nat.le_refl _⟩
  go := fun G H i d s1 s2 e => by
    obtain ⟨e', h3, _⟩ := enum_get e
    obtain ⟨v, h1, h2⟩ := dd.get h3
    exact ⟨vs, v, (s1.trans s2).seqT h, h1⟩
  yld := fun G H i d x H' s1 s2 e y => by
    obtain ⟨e', h3, rfl⟩ := enum_get e
    obtain ⟨v, h1, h2⟩ := dd.get h3
    obtain ⟨T, z, rfl, hT, rfl, y2⟩ := y
    have := y2 vs ((s1.trans s2).seqT h)
    rw [h1] at this
    cases this
    rw [Nat.zero_add]
    exact pair_new rfl s2 hT (.int _) (h2.mono s1)
theorem zip_get : ∀ {xs ys : List D} {i : Nat} {d : D}, (zipD xs ys)[i]? = some d → ∃ x y, xs[i]? = some x ∧ ys[i]? = some y ∧ d = .tup [x, y]
  | [], _, i, d, h => by simp [zipD] at h
  | _ :: _, [], i, d, h => by simp [zipD] at h
  | x :: xs, y :: ys, 0, d, h => by
    simp [zipD] at h
    exact ⟨x, y, rfl, rfl, h.symm⟩
  | x :: xs, y :: ys, i + 1, d, h => by
    rw [zipD, List.getElem?_cons_succ] at h
    obtain ⟨x', y', h1, h2, h3⟩ := zip_get h
    exact ⟨x', y', by simpa using h1, by simpa using h2, h3⟩
theorem zip_len : ∀ (xs ys : List D), (zipD xs ys).length = min xs.length ys.length
  | [], _ => by simp [zipD]
  | _ :: _, [] => by simp [zipD]
  | x :: xs, y :: ys => by rw [zipD, List.length_cons, zip_len xs ys, List.length_cons, List.length_cons]; omega
theorem Yields.zipL {a b : Addr} {ds es : List D} {vs ws : List V} (h : SqL g.K G0 a vs) (dd : DgAll g.fa g.K G0 vs ds) (h' : SqL g.K G0 b ws) (ee : DgAll g.fa g.K G0 ws es) : Yields g.fa g.K .zip2 G0 (Itz g.K a b) (zipD ds es) where
  stop := fun G H s1 s2 => ⟨vs, ws, (s1.trans s2).seqL h, (s1.trans s2).seqL h', by rw [zip_len, dd.length, ee.length]; omega⟩
  go := fun G H i d s1 s2 e => by
    obtain ⟨x, y, h1, h2, _⟩ := zip_get e
    obtain ⟨v, h3, _⟩ := dd.get h1
    obtain ⟨w, h4, _⟩ := ee.get h2
    exact ⟨vs, ws, v, w, (s1.trans s2).seqL h, (s1.trans s2).seqL h', h3, h4⟩
  yld := fun G H i d x H' s1 s2 e y => by
    obtain ⟨dx, dy, h1, h2, rfl⟩ := zip_get e
    obtain ⟨v, h3, h5⟩ := dd.get h1
    obtain ⟨w, h4, h6⟩ := ee.get h2
    obtain ⟨T, z1, z2, rfl, hT, rfl, y1, y2⟩ := y
    have t1 := y1 vs ((s1.trans s2).seqL h)
    have t2 := y2 ws ((s1.trans s2).seqL h')
    rw [h3] at t1
    rw [h4] at t2
    cases t1
    cases t2
    exact pair_new rfl s2 hT (h5.mono s1) (h6.mono s1)
theorem Yields.zipT {a b : Addr} {ds es : List D} {vs ws : List V} (h : SqT g.K G0 a vs) (dd : DgAll g.fa g.K G0 vs ds) (h' : SqT g.K G0 b ws) (ee : DgAll g.fa g.K G0 ws es) : Yields g.fa g.K .zip2 G0 (ItzT g.K a b) (zipD ds es) where
  stop := fun G H s1 s2 => ⟨vs, ws, (s1.trans s2).seqT h, (s1.trans s2).seqT h', by rw [zip_len, dd.length, ee.length]; omega⟩
  go := fun G H i d s1 s2 e => by
    obtain ⟨x, y, h1, h2, _⟩ := zip_get e
    obtain ⟨v, h3, _⟩ := dd.get h1
    obtain ⟨w, h4, _⟩ := ee.get h2
    exact ⟨vs, ws, v, w, (s1.trans s2).seqT h, (s1.trans s2).seqT h', h3, h4⟩
  yld := fun G H i d x H' s1 s2 e y => by
    obtain ⟨dx, dy, h1, h2, rfl⟩ := zip_get e
    obtain ⟨v, h3, h5⟩ := dd.get h1
    obtain ⟨w, h4, h6⟩ := ee.get h2
    obtain ⟨T, z1, z2, rfl, hT, rfl, y1, y2⟩ := y
    have t1 := y1 vs ((s1.trans s2).seqT h)
    have t2 := y2 ws ((s1.trans s2).seqT h')
    rw [h3] at t1
    rw [h4] at t2
    cases t1
    cases t2
    exact pair_new rfl s2 hT (h5.mono s1) (h6.mono s1)

theorem RI.all {k : IK} {m : E} {R : It → Hp → Prop} (h : RI g k m σ H R) : RA g m σ H fun vs H1 => ∃ G ds items, Sup G H1 ∧ DgAll g.fa g.K G vs ds ∧ itSem k ds = some items ∧ ∀ J, Yields g.fa g.K k G J items → R J H1 := by
  obtain ⟨F, G, io, env, r0, p⟩ := h
  refine ⟨F, G, io, env, r0, ?_⟩
  cases q : evE g.C m env with
  | stuck => rw [q] at p; exact p
  | exc k x e => rw [q] at p; exact p
  | ok os e1 =>
    rw [q] at p
    obtain ⟨items, ei, p⟩ := p
    intro vs H1 G1 r1 x1 q1 f1
    obtain ⟨G2, r2, x2, dd⟩ := r1.settle q1 f1
    exact ⟨G2, _, items, r2.gh, dd, ei, fun J y => p J H1 G2 r2 (x1.trans ⟨x2, fun i h => freezeO_no os h⟩) y⟩
theorem PI.of {tg it : Expr} {wi wi' : TI} (h : PI X tg it wi) (k : ∀ σ H R, wi' σ H R → wi σ H R) : PI X tg it wi' := ⟨fun pins s σ H R I q => h.run pins s σ H R I (k σ H R q)⟩
theorem itSem1 {k : IK} {ds items : List D} (h : ∀ a b, it2 k a b = none) (e : itSem k ds = some items) : ∃ x, ds = [x] ∧ it1 k x = some items := by
  match ds, e with
  | [], e => exact noS e
  | [x], e => exact ⟨x, rfl, e⟩
  | [x, y], e => exact noS ((h x y).symm.trans e)
  | _ :: _ :: _ :: _, e => exact noS e
theorem itSem2 {k : IK} {ds items : List D} (h : ∀ a, it1 k a = none) (e : itSem k ds = some items) : ∃ x y, ds = [x, y] ∧ it2 k x y = some items := by
  match ds, e with
  | [], e => exact noS e
  | [x], e => exact noS ((h x).symm.trans e)
  | [x, y], e => exact ⟨x, y, rfl, e⟩
  | _ :: _ :: _ :: _, e => exact noS e
theorem rg1_inv {ds items : List D} (e : itSem .rg1 ds = some items) : ∃ n, ds = [.int n] ∧ rngOk n = true ∧ items = (upto 0 n.toNat).map D.int := by
  obtain ⟨x, rfl, e⟩ := itSem1 (fun _ _ => rfl) e
  cases x <;> first | exact noS e | skip
  rename_i n _
  have e : (if rngOk n = true then some ((upto 0 n.toNat).map D.int) else none) = some items := e
  by_cases hr : rngOk n = true
  · rw [if_pos hr] at e
    cases e
    exact ⟨n, rfl, hr, rfl⟩
  · rw [if_neg hr] at e; cases e
theorem pi_rg1 {tg a : Expr} {m : E} {p pos : Pos} (hg : Gl X "range") (hm : X.mg "range" = none) (ha : PA X [a] (RA g m)) (hs : starEach [a] X.env = [(false, eval a X.env)]) : PI X tg (.Call (.Name "range" p) [a] [] pos) (RI g .rg1 m) := by
  refine PI.of (pi_range1 hg hm ha hs) fun σ H R h => h.all.mono fun vs H1 ⟨G, ds, items, sp, dd, e, q⟩ => ?_
  obtain ⟨n, rfl, hr, rfl⟩ := rg1_inv e
  cases dd with
  | cons d1 dd =>
    cases dd
    cases d1
    rw [rngOk_iff] at hr
    exact ⟨n, rfl, by omega, by omega, q _ (.range _ _)⟩
theorem rg2_inv {ds items : List D} (e : itSem .rg2 ds = some items) : ∃ a b, ds = [.int a, .int b] ∧ rngOk a = true ∧ rngOk b = true ∧ items = (upto a (b - a).toNat).map D.int := by
  obtain ⟨x, y, rfl, e⟩ := itSem2 (fun _ => rfl) e
  cases x <;> cases y <;> first | exact noS e | skip
  rename_i a b _
  have e : (if (rngOk a && rngOk b) = true then some ((upto a (b - a).toNat).map D.int) else none) = some items := e
  by_cases hr : (rngOk a && rngOk b) = true
  · rw [if_pos hr] at e
    cases e
    exact ⟨a, b, rfl, (Bool.and_eq_true_iff.mp hr).1, (Bool.and_eq_true_iff.mp hr).2, rfl⟩
  · rw [if_neg hr] at e; cases e
theorem pi_rg2 {tg a b : Expr} {m : E} {p pos : Pos} (hg : Gl X "range") (hm : X.mg "range" = none) (ha : PA X [a, b] (RA g m)) (hs : starEach [a, b] X.env = [(false, eval a X.env), (false, eval b X.env)]) (hs2 : starEach [b] X.env = [(false, eval b X.env)]) : PI X tg (.Call (.Name "range" p) [a, b] [] pos) (RI g .rg2 m) := by
  refine PI.of (pi_range2 hg hm ha hs hs2) fun σ H R h => h.all.mono fun vs H1 ⟨G, ds, items, sp, dd, e, q⟩ => ?_
  obtain ⟨i, j, rfl, h1, h2, rfl⟩ := rg2_inv e
  cases dd with
  | cons d1 dd =>
    cases dd with
    | cons d2 dd =>
      cases dd
      cases d1
      cases d2
      rw [rngOk_iff] at h1 h2
      exact ⟨i, j, rfl, ⟨by omega, by omega, by omega, by omega⟩, q _ (.range _ _)⟩
theorem enum_inv {ds items : List D} (e : itSem .enum ds = some items) : ∃ zs, (ds = [.lst zs] ∨ ds = [.tup zs]) ∧ items = enumD 0 zs := by
  obtain ⟨x, rfl, e⟩ := itSem1 (fun _ _ => rfl) e
  cases x <;> first | exact noS e | skip
  · cases e; exact ⟨_, .inr rfl, rfl⟩
  · cases e; exact ⟨_, .inl rfl, rfl⟩
theorem pi_en {elts : List Expr} {kk : Nat} {tpos : Pos} {a : Expr} {m : E} {p pos : Pos} (hK : X.K = g.K) (hg : Gl X "enumerate") (hm : X.mg "enumerate" = none) (ha : PA X [a] (RA g m)) (hs : starEach [a] X.env = [(false, eval a X.env)]) : PI X (.Tuple elts kk tpos) (.Call (.Name "enumerate" p) [a] [] pos) (RI g .enum m) := by
  refine PI.of (pi_enumA hg hm ha hs) fun σ H R h => h.all.mono fun vs H1 ⟨G, ds, items, sp, dd, e, q⟩ => ?_
  obtain ⟨zs, h, rfl⟩ := enum_inv e
  rw [hK]
  rcases h with rfl | rfl
  · cases dd with
    | cons d1 dd =>
      cases dd
      cases d1 with
      | lst h1 h2 => exact ⟨_, _, rfl, .inl ⟨.inl (.inl (sp.lst _ _ h1)), q _ (.enumL (.inl (.inl h1)) h2)⟩⟩
  · cases dd with
    | cons d1 dd =>
      cases dd
      cases d1 with
      | tup h1 h2 => exact ⟨_, _, rfl, .inr ⟨sp.seqT h1.seqT, q _ (.enumT h1.seqT h2)⟩⟩
theorem zip_inv {ds items : List D} (e : itSem .zip2 ds = some items) : ∃ xs ys, (ds = [.lst xs, .lst ys] ∨ ds = [.tup xs, .tup ys]) ∧ items = zipD xs ys := by
  obtain ⟨x, y, rfl, e⟩ := itSem2 (fun _ => rfl) e
  cases x <;> cases y <;> first | exact noS e | skip
  · cases e; exact ⟨_, _, .inr rfl, rfl⟩
  · cases e; exact ⟨_, _, .inl rfl, rfl⟩
theorem pi_zp {elts : List Expr} {kk : Nat} {tpos : Pos} {a b : Expr} {m : E} {p pos : Pos} (hK : X.K = g.K) (hg : Gl X "zip") (hm : X.mg "zip" = none) (ha : PA X [a, b] (RA g m)) (hs : starEach [a, b] X.env = (false, eval a X.env) :: starEach [b] X.env) (hpl : (backTo pos (starEach [b] X.env)).any (·.1) = false) :
    PI X (.Tuple elts kk tpos) (.Call (.Name "zip" p) [a, b] [] pos) (RI g .zip2 m) := by
  refine PI.of (pi_zipA hg hm ha hs hpl) fun σ H R h => h.all.mono fun vs H1 ⟨G, ds, items, sp, dd, e, q⟩ => ?_
  obtain ⟨xs, ys, h, rfl⟩ := zip_inv e
  rw [hK]
  rcases h with rfl | rfl
  · cases dd with
    | cons d1 dd =>
      cases dd with
      | cons d2 dd =>
        cases dd
        cases d1 with
        | lst h1 h2 =>
          cases d2 with
          | lst h3 h4 => exact ⟨_, _, _, _, rfl, .inl ⟨.inl (.inl (sp.lst _ _ h1)), .inl (.inl (sp.lst _ _ h3)), q _ (.zipL (.inl (.inl h1)) h2 (.inl (.inl h3)) h4)⟩⟩
  · cases dd with
    | cons d1 dd =>
      cases dd with
      | cons d2 dd =>
        cases dd
        cases d1 with
        | tup h1 h2 =>
          cases d2 with
          | tup h3 h4 => exact ⟨_, _, _, _, rfl, .inr ⟨sp.seqT h1.seqT, sp.seqT h3.seqT, q _ (.zipT h1.seqT h2 h3.seqT h4)⟩⟩
theorem RI.one {x : E} {R : It → Hp → Prop} (h : RI g .seq (.cons x .nil) σ H R) : RE g x σ H fun v H1 => ∃ G d items, Sup G H1 ∧ Dg g.fa g.K G v d ∧ anyOf d = some items ∧ ∀ J, Yields g.fa g.K .seq G J items → R J H1 :=
  (RA.cons h.all).mono fun v H1 q => by
    obtain ⟨G, ds, items, sp, dd, e, q⟩ := q.nil
    match ds, dd, e with
    | [d], .cons h1 .nil, e => exact ⟨G, d, items, sp, h1, e, q⟩
theorem pi_seq {tg it : Expr} {x : E} (hK : X.K = g.K) (he : PE X it (RE g x)) : PI X tg it (RI g .seq (.cons x .nil)) := by
  refine ⟨fun pins s σ H R I h => ?_⟩
  -- which kind it will be
  have key : (RE g x σ H fun v H1 => ∃ a, v = .ref a ∧ (∃ xs, SqL g.K H1 a xs) ∧ R (Itl g.K a) H1) ∨ (RE g x σ H fun v H1 => ∃ a, v = .ref a ∧ (∃ xs, SqT g.K H1 a xs) ∧ R (Itt g.K a) H1) ∨ (RE g x σ H fun v H1 => ∃ z, v = .str z ∧ R (Its z) H1) := by
    obtain ⟨F, G, io, env, r0, p⟩ := h
    unfold evE at p
    cases q : evE g.C x env with
    | stuck => rw [q] at p; exact p.elim
    | exc k a e => rw [q] at p; exact .inl ⟨F, G, io, env, r0, by rw [q]; exact p⟩
    | ok os e1 =>
      rw [q] at p
      match os, p with
      | [], p => exact p.elim
      | _ :: _ :: _, p => exact p.elim
      | [o], p =>
        have p : PostI g F G io env σ .seq (.ok [o] e1) R := p
        obtain ⟨items, ei, p⟩ := p
        have ei : anyOf (o.view e1) = some items := ei
        have go : ∀ {v : V} {H' G' : Hp}, Rel g.fa g.K F G' io e1 σ H' → Go F G env G' e1 → OR g.fa g.K F G' e1 σ H' o v → Full e1 [o] → ∃ G2, Sup G2 H' ∧ Dg g.fa g.K G2 v (o.view e1) ∧ ∀ J, Yields g.fa g.K .seq G2 J items → R J H' := fun r1 x1 q1 f1 => by
          obtain ⟨G2, r2, x2, dg⟩ := r1.settle1 q1 f1
          exact ⟨G2, r2.gh, dg, fun J y => p J _ G2 r2 (x1.trans ⟨x2, fun i h => freezeO_no [o] h⟩) y⟩
        cases qv : o.view e1 with
        | lst ds =>
          rw [qv] at ei go
          cases ei
          refine .inl ⟨F, G, io, env, r0, ?_⟩
          rw [q]
          intro v H' G' r1 x1 q1 f1
          obtain ⟨G2, s2, dg, k⟩ := go r1 x1 q1 f1
          cases dg with
          | lst h1 h2 => exact ⟨_, rfl, ⟨_, .inl (.inl (s2.lst _ _ h1))⟩, k _ (.list (.inl (.inl h1)) h2)⟩
        | tup ds =>
          rw [qv] at ei go
          cases ei
          refine .inr (.inl ⟨F, G, io, env, r0, ?_⟩)
          rw [q]
          intro v H' G' r1 x1 q1 f1
          obtain ⟨G2, s2, dg, k⟩ := go r1 x1 q1 f1
          cases dg with
          | tup h1 h2 => exact ⟨_, rfl, ⟨_, s2.seqT h1.seqT⟩, k _ (.tuple h1.seqT h2)⟩
        | ro ns =>
          rw [qv] at ei go
          cases ei
          refine .inl ⟨F, G, io, env, r0, ?_⟩
          rw [q]
          intro v H' G' r1 x1 q1 f1
          obtain ⟨G2, s2, dg, k⟩ := go r1 x1 q1 f1
          cases dg with
          | ro h1 => exact ⟨_, rfl, ⟨_, s2.seqL h1⟩, k _ (.list h1 (DgAll.ofInts ns))⟩
        | str z =>
          rw [qv] at ei go
          cases ei
          refine .inr (.inr ⟨F, G, io, env, r0, ?_⟩)
          rw [q]
          intro v H' G' r1 x1 q1 f1
          obtain ⟨G2, s2, dg, k⟩ := go r1 x1 q1 f1
          cases dg
          exact ⟨z, rfl, k _ (.text z)⟩
        | _ => rw [qv] at ei; cases ei
  rw [← hK] at key
  rcases key with h | h | h
  · exact (pi_list he).run pins s σ H R I h
  · exact (pi_tup he).run pins s σ H R I h
  · exact (pi_str he).run pins s σ H R I h
end
end Ev
end
section
set_option Elab.async false
set_option linter.all false
set_option maxRecDepth 100000
set_option maxHeartbeats 1000000
namespace RZN
open PySem
open PySem.Sem (wp)
section
variable {prog : Program} {w : World} {A : Around} {E : Value → Shared → Prop} {s : Shared}
theorem forIn_at {M : Model} {α β : Type} {l : List α} {f : α → β → Sem (ForInStep β)} {Q : β → Shared → Prop} (B : Nat → β) (I : Nat → Shared → Prop)
    (h : ∀ i x s, l[i]? = some x → I i s → wpAny M A (f x (B i)) (fun r s' => r = .yield (B (i + 1)) ∧ I (i + 1) s') E s) (h0 : I 0 s) (hQ : ∀ s, I l.length s → Q (B l.length) s) : wpAny M A (forIn l (B 0) f) Q E s := by
  have key : ∀ (r : List α) (k : Nat) (s : Shared), (∀ i x, r[i]? = some x → l[k + i]? = some x) → k + r.length = l.length → I k s → wpAny M A (forIn r (B k) f) Q E s := by
    intro r
    induction r with
    | nil =>
      intro k s _ hk i
      rw [List.forIn_nil]
      have : k = l.length := by simpa using hk
      subst this
      exact wpAny_pure (hQ s i)
    | cons x r ih =>
      intro k s hr hk i
      rw [List.forIn_cons]
      refine wpAny_bind (wpAny_mono (h k x s (hr 0 x rfl) i) (fun z s' ⟨e, i'⟩ => ?_) fun _ _ z => z)
      subst e
      exact ih (k + 1) s' (fun j y hy => by
        have := hr (j + 1) y (by simpa using hy)
        rwa [show k + (j + 1) = k + 1 + j by omega] at this) (by rw [List.length_cons] at hk; omega) i'
  exact key l 0 s (fun i x hx => by simpa using hx) (by simp) h0

abbrev zobj (TI TO : Addr) (f g : Value) : Obj := { cls := .type "zip", dict := none, data := .fields #[f, g, .bool false, .ref TI, .ref TO], slots := #[] }
abbrev tobj (vs : List Value) : Obj := { cls := .type "tuple", data := .seq vs.toArray }
structure ZN (h : Heap) (i : Nat) (ls : List Addr) (t : Nat) (f g : Value) : Prop where
  z : h.get? (i + ls.length + 2) = some (zobj (i + ls.length) (i + ls.length + 1) f g)
  TI : h.get? (i + ls.length) = some (tobj ((List.range ls.length).map fun k => Value.ref (i + k)))
  TO : ∃ vs : List Value, vs.length = ls.length ∧ h.get? (i + ls.length + 1) = some (tobj vs)
  it : ∀ (k : Nat) (l : Addr), ls[k]? = some l → h.IsTupleIter (i + k) l t
def Keep (i n : Nat) (h h' : Heap) : Prop := ∀ c o, (c < i ∨ i + n + 2 < c) → h.get? c = some o → h'.get? c = some o
def Col (h : Heap) (i : Nat) (ls : List Addr) (t : Nat) (xs : List Value) : Prop := xs.length = ls.length ∧ ∀ (k : Nat) (l : Addr), ls[k]? = some l → l < i ∧ ∃ (rs : Array Value) (x : Value), h.IsTuple l rs ∧ rs[t]? = some x ∧ xs[k]? = some x
theorem Keep.tuple {i n : Nat} {h h' : Heap} (k : Keep i n h h') {l : Addr} (hl : l < i) {rs : Array Value} (x : h.IsTuple l rs) : h'.IsTuple l rs := by
  obtain ⟨o, ho, r⟩ := x
  exact ⟨o, k l o (.inl hl) ho, r⟩
theorem alive {M : Model} {a : Addr} {Q : Option Obj → Shared → Prop} (h : Q (s.heap.get? a) s) : wpAny M A (loadIfAlive a) Q E s := fun Γ p hΓ => by
  unfold loadIfAlive
  rw [Sem.wp_loadIfAlive]
  exact (wpAny_pure h) Γ p hΓ
theorem szl {n : Nat} (h : n ≤ 1000) : n ≤ sizeLine := Nat.le_trans h (by decide)
theorem neA {a b : Nat} (h : a < b ∨ b < a) : (a : Addr) ≠ b := fun e => by
  have e : (a : Nat) = b := e
  omega
def Free (h : Heap) (f : Value) : Prop := f = .none ∨ ∃ p : Nat, f = rawInt p ∧ h.get? p = none
theorem free_ok {z : Value} {f : Value} (h : Free s.heap f) : wpAny (model prog w) A (match f with
    | .none => pure true
    | .int a _ => do
      let r ← loadIfAlive a.toNat
      let jp := fun (_ : Unit) => (do
        let y ← field z 1
        let jp2 := fun (_ : Unit) => (pure false : Sem Bool)
        if (y != .bool true) = true then do let r ← setField z 1 (.bool true); jp2 r else jp2 ())
      if r.isNone = true then pure true else jp ()
    | _ => pure false) (fun a s' => a = true ∧ s' = s) E s := by
  rcases h with rfl | ⟨p, rfl, hp⟩
  · exact wpAny_pure ⟨rfl, rfl⟩
  · show wpAny _ _ (loadIfAlive (p : Int).toNat >>= _) _ _ _
    rw [Int.toNat_natCast]
    refine wpAny_bind (alive ?_)
    rw [hp]
    exact wpAny_pure ⟨rfl, rfl⟩
theorem next_first {i : Nat} {ls : List Addr} {t : Nat} {f g : Value} {xs : List Value} {Q : Value → Shared → Prop} (Z : ZN s.heap i ls t f g) (hf : Free s.heap f) (hn : ls ≠ []) (hsz : ls.length ≤ 1000) (hc : Col s.heap i ls t xs)
    (hQ : ∀ h', ZN h' i ls (t + 1) (rawInt s.heap.objs.size) (.bool false) → h'.get? s.heap.objs.size = some (tobj xs) → h'.objs.size = s.heap.objs.size + 1 → Keep i ls.length s.heap h' → Q (.ref s.heap.objs.size) { s with heap := h' }) :
    wpAny (model prog w) A (Builtin.«zip.__next__» ⟨[.ref (i + ls.length + 2)], []⟩) (fun fin s' => ∃ v, fin = .done (.ret v) ∧ Q v s') E s := by
  obtain ⟨hz, hTI, ⟨vs, hv, hTO⟩, hit⟩ := Z
  show wpAny _ _ (field (.ref (i + ls.length + 2)) 2 >>= _) _ _ _
  refine wpAny_bind (wpAny_field hz rfl (x := .bool false) rfl ?_)
  show wpAny _ _ (field (.ref (i + ls.length + 2)) 3 >>= _) _ _ _
  refine wpAny_bind (wpAny_field hz rfl (x := .ref (i + ls.length)) rfl ?_)
  refine wpAny_bind (wpAny_seqItems hTI rfl ?_)
  have hne : (((List.range ls.length).map fun k => Value.ref (i + k)).toArray.isEmpty) = false := by
    cases ls with
    | nil => exact absurd rfl hn
    | cons a r => simp
  simp only [hne]
  show wpAny _ _ (Builtin.SmallTypes.ownedTupleIsFree (.ref (i + ls.length + 2)) >>= _) _ _ _
  refine wpAny_bind ?_
  unfold Builtin.SmallTypes.ownedTupleIsFree
  refine wpAny_bind (wpAny_field hz rfl (x := f) rfl ?_)
  refine wpAny_mono (Q := fun a s' => a = true ∧ s' = s) (free_ok hf) (fun a s' ⟨ha, hs'⟩ => ?_) fun _ _ z => z
  rw [hs']
  subst ha
  simp only [if_true]
  refine wpAny_bind (wpAny_rule ?_)
  refine wpAny_bind (wpAny_field hz rfl (x := .ref (i + ls.length + 1)) rfl ?_)
  refine wpAny_bind (wpAny_setField_rec hz (by simp) fun h₁ hz₁ hs₁ => ?_)
  replace hz₁ : h₁.get? (i + ls.length + 2) = some (zobj (i + ls.length) (i + ls.length + 1) .ellipsis g) := hz₁
  refine wpAny_bind (forIn_at (B := fun _ => (none, ())) (I := fun k s' => ∃ h', s' = { s with heap := h' } ∧ h'.objs.size = s.heap.objs.size ∧ h'.get? (i + ls.length + 2) = some (zobj (i + ls.length) (i + ls.length + 1) .ellipsis g) ∧
    h'.get? (i + ls.length) = some (tobj ((List.range ls.length).map fun k => Value.ref (i + k))) ∧ h'.get? (i + ls.length + 1) = some (tobj (xs.take k ++ vs.drop k)) ∧ (∀ (j : Nat) (l : Addr), ls[j]? = some l → h'.IsTupleIter (i + j) l (if j < k then t + 1 else t)) ∧ Keep i ls.length s.heap h') (fun k p s' hp is => ?_) ?_ fun s' is => ?_)
  · obtain ⟨h', rfl, z0, z1, z2, z3, z4, z5⟩ := is
    rw [List.getElem?_zipIdx, List.getElem?_map] at hp
    by_cases hk : k < ls.length
    · rw [List.getElem?_range hk] at hp
      obtain rfl : p = (Value.ref (i + k), k) := by
        have := Option.some.inj hp
        rw [← this]
        simp
      have hl : ls[k]? = some ls[k] := List.getElem?_eq_getElem hk
      obtain ⟨l0, rs, x, r1, r2, r3⟩ := hc.2 k _ hl
      have it := z4 k _ hl
      rw [if_neg (Nat.lt_irrefl k)] at it
      refine wpAny_bind (wpAny_onRaise ?_)
      show wpAny _ _ (Builtin.SmallTypes.nextOf (.ref (i + k)) >>= _) _ _ _
      refine wpAny_bind (RZ.nextOf_tuple_item it (z5.tuple l0 r1) r2 fun h2 it2 sb2 => wpAny_pure ?_)
      have e2 : h2.get? (i + ls.length + 1) = some (tobj (xs.take k ++ vs.drop k)) := sb2.extBut _ _ (neA (by omega)) z3
      refine wpAny_bind (wpAny_seqItems e2 rfl ?_)
      have hlen : (xs.take k ++ vs.drop k).length = ls.length := by
        rw [List.length_append, List.length_take, List.length_drop, hc.1, hv]
        omega
      refine wpAny_bind (wpAny_updateSeq e2 rfl ?_ (by rw [List.size_toArray, hlen]; exact szl hsz) (by rw [Array.size_setIfInBounds, List.size_toArray, hlen]; exact Nat.le_succ_of_le (szl hsz)))
      refine wpAny_bind (wpAny_letGo (wpAny_pure ⟨rfl, _, rfl, ?_⟩))
      have e3 := Heap.get?_update_self (Obj.mapSeq (·.setIfInBounds k x)) e2 rfl
      have sb3 : Heap.SameBut (i + ls.length + 1) h2 (h2.update (i + ls.length + 1) (Obj.mapSeq (·.setIfInBounds k x))) := Heap.SameBut.update ..
      generalize h2.update (i + ls.length + 1) (Obj.mapSeq (·.setIfInBounds k x)) = h3 at *
      refine ⟨by rw [sb3.1, sb2.1, z0], sb3.extBut _ _ (neA (by omega)) (sb2.extBut _ _ (neA (by omega)) z1), sb3.extBut _ _ (neA (by omega)) (sb2.extBut _ _ (neA (by omega)) z2), ?_, fun j l hj => ?_, fun c o hco e => sb3.extBut _ _ (neA (by omega)) (sb2.extBut _ _ (neA (by omega)) (z5 c o hco e))⟩
      · rw [e3]
        have el : (xs.take k ++ vs.drop k).set k x = xs.take (k + 1) ++ vs.drop (k + 1) := by
          have hkx : k < xs.length := by rw [hc.1]; exact hk
          have hkv : k < vs.length := by rw [hv]; exact hk
          rw [List.set_append_right _ _ (by rw [List.length_take]; omega), List.length_take, Nat.min_eq_left (by omega), Nat.sub_self, List.drop_eq_getElem_cons hkv, List.set_cons_zero, List.take_add_one, r3]
          simp
        rw [← el]
        simp [Obj.mapSeq]
      · have hjl := (List.getElem?_eq_some_iff.mp hj).1
        by_cases ejk : j = k
        · subst ejk
          rw [hl] at hj
          cases hj
          rw [if_pos (Nat.lt_succ_self j)]
          exact it2.extBut sb3.extBut (neA (by omega))
        · have := (z4 j l hj).extBut sb2.extBut (neA (by omega))
          have := this.extBut sb3.extBut (neA (by omega))
          rw [show (if j < k + 1 then t + 1 else t) = if j < k then t + 1 else t by split <;> split <;> omega]
          exact this
    · rw [List.getElem?_eq_none (by rw [List.length_range]; omega)] at hp
      cases hp
  · refine ⟨h₁, rfl, hs₁.1, hz₁, hs₁.extBut _ _ (neA (by omega)) hTI, hs₁.extBut _ _ (neA (by omega)) hTO, fun j l hj => ?_, fun c o hco e => hs₁.extBut _ _ (neA (by omega)) e⟩
    have hjl := (List.getElem?_eq_some_iff.mp hj).1
    rw [if_neg (Nat.not_lt_zero j)]
    exact (hit j l hj).extBut hs₁.extBut (neA (by omega))
  · obtain ⟨h', rfl, z0, z1, z2, z3, z4, z5⟩ := is
    rw [List.length_zipIdx, List.length_map, List.length_range] at z3 z4
    have e3 : xs.take ls.length ++ vs.drop ls.length = xs := by
      rw [← hc.1, List.take_length, hc.1, ← hv, List.drop_length, List.append_nil]
    rw [e3] at z3
    refine wpAny_bind (wpAny_seqItems z3 rfl ?_)
    refine wpAny_bind (wpAny_newTuple ?_ (by rw [hc.1]; exact szl hsz))
    show wpAny _ _ (Builtin.SmallTypes.ownedTupleHandOut (.ref (i + ls.length + 2)) (.ref h'.objs.size) >>= _) _ _ _
    refine wpAny_bind ?_
    unfold Builtin.SmallTypes.ownedTupleHandOut
    have hzl : i + ls.length + 2 < h'.objs.size := Heap.lt_size z1
    have y1 : (h'.push (tobj xs)).get? (i + ls.length + 2) = some (zobj (i + ls.length) (i + ls.length + 1) .ellipsis g) := Heap.get?_push_of_some _ z1
    refine wpAny_bind (wpAny_setField_rec y1 (by simp) fun h7 y7 s7 => ?_)
    replace y7 : h7.get? (i + ls.length + 2) = some (zobj (i + ls.length) (i + ls.length + 1) (rawInt h'.objs.size) g) := y7
    refine wpAny_setField_rec y7 (by simp) fun h8 y8 s8 => ?_
    replace y8 : h8.get? (i + ls.length + 2) = some (zobj (i + ls.length) (i + ls.length + 1) (rawInt h'.objs.size) (.bool false)) := y8
    have up : ∀ c o, c ≠ i + ls.length + 2 → h'.get? c = some o → h8.get? c = some o := fun c o c1 e => s8.extBut _ _ c1 (s7.extBut _ _ c1 (Heap.get?_push_of_some _ e))
    have hT : h8.get? h'.objs.size = some (tobj xs) := s8.extBut _ _ (neA (by omega)) (s7.extBut _ _ (neA (by omega)) (Heap.get?_push_size _ rfl))
    have h8s : h8.objs.size = h'.objs.size + 1 := by rw [s8.1, s7.1, Heap.size_push]
    rw [z0] at y8 hT h8s
    refine wpAny_pure ⟨_, rfl, ?_⟩
    show Q (.ref h'.objs.size) _
    rw [z0]
    refine hQ h8 ⟨y8, up _ _ (neA (by omega)) z2, ⟨xs, hc.1, up _ _ (neA (by omega)) z3⟩, fun k l hl => ?_⟩ hT h8s fun c o hco e => up c o (neA (by omega)) (z5 c o hco e)
    have hk := (List.getElem?_eq_some_iff.mp hl).1
    have it := z4 k l hl
    rw [if_pos hk] at it
    exact it.at fun o e => up _ o (neA (by omega)) e
theorem next_later {i p : Nat} {ls : List Addr} {t : Nat} {g : Value} {xs : List Value} {op : Obj} {Q : Value → Shared → Prop} (Z : ZN s.heap i ls t (rawInt p) g) (hp : s.heap.get? p = some op) (hn : ls ≠ []) (hsz : ls.length ≤ 1000) (hc : Col s.heap i ls t xs)
    (hQ : ∀ h', ZN h' i ls (t + 1) (rawInt p) (.bool true) → h'.get? s.heap.objs.size = some (tobj xs) → h'.objs.size = s.heap.objs.size + 1 → Keep i ls.length s.heap h' → Q (.ref s.heap.objs.size) { s with heap := h' }) :
    wpAny (model prog w) A (Builtin.«zip.__next__» ⟨[.ref (i + ls.length + 2)], []⟩) (fun fin s' => ∃ v, fin = .done (.ret v) ∧ Q v s') E s := by
  obtain ⟨hz, hTI, ⟨vs, hv, hTO⟩, hit⟩ := Z
  show wpAny _ _ (field (.ref (i + ls.length + 2)) 2 >>= _) _ _ _
  refine wpAny_bind (wpAny_field hz rfl (x := .bool false) rfl ?_)
  show wpAny _ _ (field (.ref (i + ls.length + 2)) 3 >>= _) _ _ _
  refine wpAny_bind (wpAny_field hz rfl (x := .ref (i + ls.length)) rfl ?_)
  refine wpAny_bind (wpAny_seqItems hTI rfl ?_)
  have hne : (((List.range ls.length).map fun k => Value.ref (i + k)).toArray.isEmpty) = false := by
    cases ls with
    | nil => exact absurd rfl hn
    | cons a r => simp
  simp only [hne]
  show wpAny _ _ (Builtin.SmallTypes.ownedTupleIsFree (.ref (i + ls.length + 2)) >>= _) _ _ _
  refine wpAny_bind ?_
  unfold Builtin.SmallTypes.ownedTupleIsFree
  refine wpAny_bind (wpAny_field hz rfl (x := rawInt p) rfl ?_)
  show wpAny _ _ (loadIfAlive (p : Int).toNat >>= _) _ _ _
  rw [Int.toNat_natCast]
  refine wpAny_bind (alive ?_)
  rw [hp]
  rw [if_neg (by simp)]
  refine wpAny_bind (wpAny_field hz rfl (x := g) rfl ?_)
  refine wpAny_mono (Q := fun a s' => a = false ∧ ∃ h1, s' = { s with heap := h1 } ∧ h1.objs.size = s.heap.objs.size ∧ ZN h1 i ls t (rawInt p) (.bool true) ∧ Keep i ls.length s.heap h1) ?_ (fun a s' ⟨ha, h1, es, z0, Z, kp⟩ => ?_) fun _ _ z => z
  · by_cases hg : (g != Value.bool true) = true
    · simp only [if_pos hg]
      refine wpAny_bind (wpAny_setField_rec hz (by simp) fun h₁ hz₁ hs₁ => wpAny_pure ⟨rfl, h₁, rfl, hs₁.1, ⟨hz₁, hs₁.extBut _ _ (neA (by omega)) hTI, ⟨vs, hv, hs₁.extBut _ _ (neA (by omega)) hTO⟩, fun j l hj => ?_⟩, fun c o hco e => hs₁.extBut _ _ (neA (by omega)) e⟩)
      have hjl := (List.getElem?_eq_some_iff.mp hj).1
      exact (hit j l hj).extBut hs₁.extBut (neA (by omega))
    · have hgt : g = .bool true := by simpa using hg
      simp only [if_neg hg]
      refine wpAny_pure ⟨rfl, s.heap, rfl, rfl, ⟨by rw [← hgt]; exact hz, hTI, ⟨vs, hv, hTO⟩, hit⟩, fun _ _ _ e => e⟩
  · subst ha
    subst es
    obtain ⟨hz, hTI, ⟨vs, hv, hTO⟩, hit⟩ := Z
    rw [if_neg (by simp)]
    rw [← Array.forIn_toList]
    refine wpAny_bind (forIn_at (B := fun k => (none, (xs.take k).toArray)) (I := fun k s' => ∃ h', s' = { s with heap := h' } ∧ h'.objs.size = s.heap.objs.size ∧ h'.get? (i + ls.length + 2) = some (zobj (i + ls.length) (i + ls.length + 1) (rawInt p) (.bool true)) ∧
      h'.get? (i + ls.length) = some (tobj ((List.range ls.length).map fun k => Value.ref (i + k))) ∧ h'.get? (i + ls.length + 1) = some (tobj vs) ∧ (∀ (j : Nat) (l : Addr), ls[j]? = some l → h'.IsTupleIter (i + j) l (if j < k then t + 1 else t)) ∧ Keep i ls.length s.heap h') (fun k it s' hp is => ?_) ?_ fun s' is => ?_)
    · obtain ⟨h', rfl, z0, z1, z2, z3, z4, z5⟩ := is
      rw [List.getElem?_map] at hp
      by_cases hk : k < ls.length
      · rw [List.getElem?_range hk] at hp
        obtain rfl : it = Value.ref (i + k) := by
          have := Option.some.inj hp
          rw [← this]
        have hl : ls[k]? = some ls[k] := List.getElem?_eq_getElem hk
        obtain ⟨l0, rs, x, r1, r2, r3⟩ := hc.2 k _ hl
        have it := z4 k _ hl
        rw [if_neg (Nat.lt_irrefl k)] at it
        refine wpAny_bind (wpAny_holding ?_)
        show wpAny _ _ (Builtin.SmallTypes.nextOf (.ref (i + k)) >>= _) _ _ _
        refine wpAny_bind (RZ.nextOf_tuple_item it (z5.tuple l0 r1) r2 fun h2 it2 sb2 => wpAny_pure ?_)
        have el : (xs.take k).toArray.push x = (xs.take (k + 1)).toArray := by
          rw [List.take_add_one, r3]
          simp
        refine wpAny_pure ⟨by rw [← el], h2, rfl, by rw [sb2.1, z0], sb2.extBut _ _ (neA (by omega)) z1, sb2.extBut _ _ (neA (by omega)) z2, sb2.extBut _ _ (neA (by omega)) z3, fun j l hj => ?_, fun c o hco e => sb2.extBut _ _ (neA (by omega)) (z5 c o hco e)⟩
        have hjl := (List.getElem?_eq_some_iff.mp hj).1
        by_cases ejk : j = k
        · subst ejk
          rw [hl] at hj
          cases hj
          rw [if_pos (Nat.lt_succ_self j)]
          exact it2
        · have := (z4 j l hj).extBut sb2.extBut (neA (by omega))
          rw [show (if j < k + 1 then t + 1 else t) = if j < k then t + 1 else t by split <;> split <;> omega]
          exact this
      · rw [List.getElem?_eq_none (by rw [List.length_range]; omega)] at hp
        cases hp
    · exact ⟨h1, rfl, z0, hz, hTI, hTO, fun j l hj => by rw [if_neg (Nat.not_lt_zero j)]; exact hit j l hj, kp⟩
    · obtain ⟨h', rfl, z0, z1, z2, z3, z4, z5⟩ := is
      rw [List.length_map, List.length_range] at z4
      have e3 : (xs.take (((List.range ls.length).map fun k => Value.ref (i + k)).toArray.toList.length)).toArray.toList = xs := by
        simp [← hc.1]
      show wpAny _ _ (newTuple _ >>= _) _ _ _
      rw [e3]
      refine wpAny_bind (wpAny_newTuple ?_ (by rw [hc.1]; exact szl hsz))
      have hzl : i + ls.length + 2 < h'.objs.size := Heap.lt_size z1
      refine wpAny_pure ⟨_, rfl, ?_⟩
      show Q (.ref h'.objs.size) _
      rw [z0]
      refine hQ _ ⟨Heap.get?_push_of_some _ z1, Heap.get?_push_of_some _ z2, ⟨vs, hv, Heap.get?_push_of_some _ z3⟩, fun k l hl => ?_⟩ (by rw [← z0]; exact Heap.get?_push_size _ rfl) (by rw [Heap.size_push, z0]) fun c o hco e => Heap.get?_push_of_some _ (z5 c o hco e)
      have hk := (List.getElem?_eq_some_iff.mp hl).1
      have it := z4 k l hl
      rw [if_pos hk] at it
      exact it.at fun o e => Heap.get?_push_of_some _ e
theorem end_first {i : Nat} {ls : List Addr} {t : Nat} {f g : Value} {l : Addr} {rs : Array Value} {Q : PySem.Fin → Shared → Prop} (hh : A.handled = none) (Z : ZN s.heap i ls t f g) (hf : Free s.heap f) (hl : ls[0]? = some l) (l0 : l < i) (hr : s.heap.IsTuple l rs) (he : rs[t]? = none)
    (hE : ∀ h' e, Keep i ls.length s.heap h' → (∃ o, h'.get? e = some o ∧ o.cls = .type "StopIteration") → E (.ref e) { s with heap := h' }) :
    wpAny (model prog w) A (Builtin.«zip.__next__» ⟨[.ref (i + ls.length + 2)], []⟩) Q E s := by
  obtain ⟨hz, hTI, ⟨vs, hv, hTO⟩, hit⟩ := Z
  have hpos : 0 < ls.length := (List.getElem?_eq_some_iff.mp hl).1
  obtain ⟨n, hn⟩ : ∃ n, ls.length = n + 1 := ⟨ls.length - 1, by omega⟩
  show wpAny _ _ (field (.ref (i + ls.length + 2)) 2 >>= _) _ _ _
  refine wpAny_bind (wpAny_field hz rfl (x := .bool false) rfl ?_)
  show wpAny _ _ (field (.ref (i + ls.length + 2)) 3 >>= _) _ _ _
  refine wpAny_bind (wpAny_field hz rfl (x := .ref (i + ls.length)) rfl ?_)
  refine wpAny_bind (wpAny_seqItems hTI rfl ?_)
  have hne : (((List.range ls.length).map fun k => Value.ref (i + k)).toArray.isEmpty) = false := by
    rw [hn]; simp
  simp only [hne]
  show wpAny _ _ (Builtin.SmallTypes.ownedTupleIsFree (.ref (i + ls.length + 2)) >>= _) _ _ _
  refine wpAny_bind ?_
  unfold Builtin.SmallTypes.ownedTupleIsFree
  refine wpAny_bind (wpAny_field hz rfl (x := f) rfl ?_)
  refine wpAny_mono (Q := fun a s' => a = true ∧ s' = s) (free_ok hf) (fun a s' ⟨ha, hs'⟩ => ?_) fun _ _ z => z
  rw [hs']
  subst ha
  simp only [if_true]
  refine wpAny_bind (wpAny_rule ?_)
  refine wpAny_bind (wpAny_field hz rfl (x := .ref (i + ls.length + 1)) rfl ?_)
  refine wpAny_bind (wpAny_setField_rec hz (by simp) fun h₁ hz₁ hs₁ => ?_)
  replace hz₁ : h₁.get? (i + ls.length + 2) = some (zobj (i + ls.length) (i + ls.length + 1) .ellipsis g) := hz₁
  refine wpAny_bind ?_
  have ez : ((List.range ls.length).map fun k => Value.ref (i + k)).toArray.toList.zipIdx = (Value.ref (i + 0), 0) :: (((List.range n).map fun k => Value.ref (i + (k + 1))).zipIdx 1) := by
    rw [hn, List.range_succ_eq_map]
    simp [List.map_map]
    rfl
  rw [ez, List.forIn_cons]
  refine wpAny_bind (wpAny_bind (wpAny_onRaise ?_))
  show wpAny _ _ (Builtin.SmallTypes.nextOf (.ref (i + 0)) >>= _) _ _ _
  refine wpAny_bind (RZ.nextOf_tuple_end hh ((hit 0 l hl).extBut hs₁.extBut (neA (by omega))) ((show Keep i ls.length s.heap h₁ from fun c o hco e => hs₁.extBut _ _ (neA (by omega)) e).tuple l0 hr) he fun h₂ e hs₂ he => ?_)
  obtain ⟨oe, hoe, hce⟩ := he
  have hz₂ : h₂.get? (i + ls.length + 2) = some (zobj (i + ls.length) (i + ls.length + 1) .ellipsis g) := hs₂ _ _ (neA (by omega)) hz₁
  have hez : e ≠ i + ls.length + 2 := fun x => by subst x; rw [hz₂] at hoe; cases hoe; simp at hce
  exact wpAny_setField_rec hz₂ (by simp) fun h₃ _ hs₃ => hE h₃ e (fun c o hco x => hs₃.extBut _ _ (neA (by omega)) (hs₂ _ _ (neA (by omega)) (hs₁.extBut _ _ (neA (by omega)) x))) ⟨oe, hs₃.extBut _ _ hez hoe, hce⟩
theorem end_later {i p : Nat} {ls : List Addr} {t : Nat} {g : Value} {l : Addr} {rs : Array Value} {op : Obj} {Q : PySem.Fin → Shared → Prop} (hh : A.handled = none) (Z : ZN s.heap i ls t (rawInt p) g) (hp : s.heap.get? p = some op) (hl : ls[0]? = some l) (l0 : l < i) (hr : s.heap.IsTuple l rs) (he : rs[t]? = none)
    (hE : ∀ h' e, Keep i ls.length s.heap h' → (∃ o, h'.get? e = some o ∧ o.cls = .type "StopIteration") → E (.ref e) { s with heap := h' }) :
    wpAny (model prog w) A (Builtin.«zip.__next__» ⟨[.ref (i + ls.length + 2)], []⟩) Q E s := by
  obtain ⟨hz, hTI, ⟨vs, hv, hTO⟩, hit⟩ := Z
  have hpos : 0 < ls.length := (List.getElem?_eq_some_iff.mp hl).1
  obtain ⟨n, hn⟩ : ∃ n, ls.length = n + 1 := ⟨ls.length - 1, by omega⟩
  show wpAny _ _ (field (.ref (i + ls.length + 2)) 2 >>= _) _ _ _
  refine wpAny_bind (wpAny_field hz rfl (x := .bool false) rfl ?_)
  show wpAny _ _ (field (.ref (i + ls.length + 2)) 3 >>= _) _ _ _
  refine wpAny_bind (wpAny_field hz rfl (x := .ref (i + ls.length)) rfl ?_)
  refine wpAny_bind (wpAny_seqItems hTI rfl ?_)
  have hne : (((List.range ls.length).map fun k => Value.ref (i + k)).toArray.isEmpty) = false := by
    rw [hn]; simp
  simp only [hne]
  show wpAny _ _ (Builtin.SmallTypes.ownedTupleIsFree (.ref (i + ls.length + 2)) >>= _) _ _ _
  refine wpAny_bind ?_
  unfold Builtin.SmallTypes.ownedTupleIsFree
  refine wpAny_bind (wpAny_field hz rfl (x := rawInt p) rfl ?_)
  show wpAny _ _ (loadIfAlive (p : Int).toNat >>= _) _ _ _
  rw [Int.toNat_natCast]
  refine wpAny_bind (alive ?_)
  rw [hp]
  rw [if_neg (by simp)]
  refine wpAny_bind (wpAny_field hz rfl (x := g) rfl ?_)
  refine wpAny_mono (Q := fun a s' => a = false ∧ ∃ h1, s' = { s with heap := h1 } ∧ (∀ l, ls[0]? = some l → h1.IsTupleIter i l t) ∧ Keep i ls.length s.heap h1) ?_ (fun a s' ⟨ha, h1, es, Z, kp⟩ => ?_) fun _ _ z => z
  · by_cases hg : (g != Value.bool true) = true
    · simp only [if_pos hg]
      exact wpAny_bind (wpAny_setField_rec hz (by simp) fun h₁ hz₁ hs₁ => wpAny_pure ⟨rfl, h₁, rfl, fun l hl => (hit 0 l hl).extBut hs₁.extBut (neA (by omega)), fun c o hco e => hs₁.extBut _ _ (neA (by omega)) e⟩)
    · simp only [if_neg hg]
      exact wpAny_pure ⟨rfl, s.heap, rfl, fun l hl => hit 0 l hl, fun _ _ _ e => e⟩
  · subst ha
    subst es
    rw [if_neg (by simp)]
    rw [← Array.forIn_toList]
    have ez : ((List.range ls.length).map fun k => Value.ref (i + k)).toArray.toList = Value.ref i :: ((List.range n).map fun k => Value.ref (i + (k + 1))) := by
      rw [hn, List.range_succ_eq_map]
      simp [List.map_map]
    rw [ez, List.forIn_cons]
    refine wpAny_bind (wpAny_bind (wpAny_bind (wpAny_holding ?_)))
    show wpAny _ _ (Builtin.SmallTypes.nextOf (.ref i) >>= _) _ _ _
    refine wpAny_bind (RZ.nextOf_tuple_end hh (Z l hl) (kp.tuple l0 hr) he fun h₂ e hs₂ he => ?_)
    obtain ⟨oe, hoe, hce⟩ := he
    exact hE h₂ e (fun c o hco x => hs₂ _ _ (neA (by omega)) (kp c o hco x)) ⟨oe, hoe, hce⟩
theorem end_none {i : Nat} {t : Nat} {f g : Value} {Q : PySem.Fin → Shared → Prop} (hh : A.handled = none) (Z : ZN s.heap i [] t f g)
    (hE : ∀ h' e, Keep i 0 s.heap h' → (∃ o, h'.get? e = some o ∧ o.cls = .type "StopIteration") → E (.ref e) { s with heap := h' }) :
    wpAny (model prog w) A (Builtin.«zip.__next__» ⟨[.ref (i + 0 + 2)], []⟩) Q E s := by
  obtain ⟨hz, hTI, ⟨vs, hv, hTO⟩, hit⟩ := Z
  show wpAny _ _ (field (.ref (i + 0 + 2)) 2 >>= _) _ _ _
  refine wpAny_bind (wpAny_field hz rfl (x := .bool false) rfl ?_)
  show wpAny _ _ (field (.ref (i + 0 + 2)) 3 >>= _) _ _ _
  refine wpAny_bind (wpAny_field hz rfl (x := .ref (i + 0)) rfl ?_)
  refine wpAny_bind (wpAny_seqItems hTI rfl ?_)
  simp only [show ((List.range ([] : List Addr).length).map fun k => Value.ref (i + k)).toArray.isEmpty = true from rfl, if_true]
  refine wpAny_bind (wpAny_rule ?_)
  refine wpAny_bind ?_
  unfold Builtin.SmallTypes.stopIteration
  refine wpAny_bind ?_
  simp only [newExc, newTuple]
  refine wpAny_bind (wpAny_newObj_type ?_ (by size_fits))
  refine wpAny_bind (m := firstArgMember _ _) (wpAny_of_eq (a := Value.none) (by first | rfl | (simp only [firstArgMember]; rfl)) ?_)
  refine wpAny_newObj_type ?_ (by size_fits)
  simp only [raiseNew]
  refine wpAny_bind (wpAny_handled ?_)
  first | rw [show A.in1.handled = none from hh] | rw [hh]
  refine wpAny_bind (wpAny_pure (wpAny_throw ?_))
  exact hE _ _ (fun c o _ e => Heap.get?_push_of_some _ (Heap.get?_push_of_some _ e)) ⟨_, Heap.get?_push_size _ rfl, rfl⟩

theorem free_or {h : Heap} {f : Value} (hf : f = .none ∨ ∃ p : Nat, f = rawInt p) : Free h f ∨ ∃ (p : Nat) (op : Obj), f = rawInt p ∧ h.get? p = some op := by
  rcases hf with rfl | ⟨p, rfl⟩
  · exact .inl (.inl rfl)
  · cases q : h.get? p with
    | none => exact .inl (.inr ⟨p, rfl, q⟩)
    | some op => exact .inr ⟨p, op, rfl, q⟩
theorem pyNext_item {i : Nat} {ls : List Addr} {t : Nat} {f g : Value} {xs : List Value} {Q : Option Value → Shared → Prop} (Z : ZN s.heap i ls t f g) (hf : f = .none ∨ ∃ p : Nat, f = rawInt p) (hn : ls ≠ []) (hsz : ls.length ≤ 1000) (hc : Col s.heap i ls t xs)
    (hQ : ∀ h' f' g', ZN h' i ls (t + 1) f' g' → (∃ p : Nat, f' = rawInt p) → h'.get? s.heap.objs.size = some (tobj xs) → h'.objs.size = s.heap.objs.size + 1 → Keep i ls.length s.heap h' → Q (some (.ref s.heap.objs.size)) { s with heap := h' }) :
    wpAny (model prog w) A (pyNext (.ref (i + ls.length + 2))) Q E s := by
  have hT : s.TypeIs (.ref (i + ls.length + 2)) "zip" := ⟨_, Z.z, rfl⟩
  unfold pyNext
  refine wpAny_bind (wpAny_attempt (wpAny_callSpecial?_slot (name := Str.ofString "__next__") hT F.slot_zip_next (wpAny_call_entry F.slot_zip_next hT F.entry_zip_next ?_ (F.args_zip_next_1 _))))
  rcases free_or hf with hf | ⟨p, op, rfl, hp⟩
  · exact next_first Z hf hn hsz hc fun h' a1 a2 a3 a4 => wpAny_pure (hQ h' _ _ a1 ⟨_, rfl⟩ a2 a3 a4)
  · exact next_later Z hp hn hsz hc fun h' a1 a2 a3 a4 => wpAny_pure (hQ h' _ _ a1 ⟨_, rfl⟩ a2 a3 a4)
theorem pyNext_end {i : Nat} {ls : List Addr} {t : Nat} {f g : Value} {Q : Option Value → Shared → Prop} (hh : A.handled = none) (Z : ZN s.heap i ls t f g) (hf : f = .none ∨ ∃ p : Nat, f = rawInt p)
    (he : ∀ l, ls[0]? = some l → l < i ∧ ∃ rs : Array Value, s.heap.IsTuple l rs ∧ rs[t]? = none) (hQ : ∀ h', Keep i ls.length s.heap h' → Q none { s with heap := h' }) :
    wpAny (model prog w) A (pyNext (.ref (i + ls.length + 2))) Q E s := by
  have hT : s.TypeIs (.ref (i + ls.length + 2)) "zip" := ⟨_, Z.z, rfl⟩
  unfold pyNext
  refine wpAny_bind (wpAny_attempt (wpAny_callSpecial?_slot (name := Str.ofString "__next__") hT F.slot_zip_next (wpAny_call_entry F.slot_zip_next hT F.entry_zip_next ?_ (F.args_zip_next_1 _))))
  cases ls with
  | nil =>
    refine end_none (A := A.in1) hh Z fun h' e hk he => ?_
    obtain ⟨o, ho, hc⟩ := he
    refine wpAny_bind (wpAny_isInstance (T := "StopIteration") (b := true) ⟨o, ho, hc⟩ isSubtype_stop ?_)
    exact wpAny_pure (hQ _ hk)
  | cons l r =>
    obtain ⟨l0, rs, hr, hend⟩ := he l rfl
    rcases free_or hf with hf | ⟨p, op, rfl, hp⟩
    · refine end_first (A := A.in1) hh Z hf rfl l0 hr hend fun h' e hk he => ?_
      obtain ⟨o, ho, hc⟩ := he
      refine wpAny_bind (wpAny_isInstance (T := "StopIteration") (b := true) ⟨o, ho, hc⟩ isSubtype_stop ?_)
      exact wpAny_pure (hQ _ hk)
    · refine end_later (A := A.in1) hh Z hp rfl l0 hr hend fun h' e hk he => ?_
      obtain ⟨o, ho, hc⟩ := he
      refine wpAny_bind (wpAny_isInstance (T := "StopIteration") (b := true) ⟨o, ho, hc⟩ isSubtype_stop ?_)
      exact wpAny_pure (hQ _ hk)
theorem typeCall_zip (vs : List Value) : checkTypeCall "zip" ⟨vs, []⟩ = pure () := by kernel_rfl
theorem newCall_zip (vs : List Value) : checkBuiltinCall "zip.__new__" ⟨.type "zip" :: vs, []⟩ = pure () := by
  cases vs with
  | nil => kernel_rfl
  | cons a r => kernel_rfl
theorem args_init (o : Value) (vs : List Value) : argsOk "object.__init__" ⟨o :: vs, []⟩ := by
  unfold argsOk; rw [signature?_of (id := "object.__init__") (n := ['_', '_', 't', 'i', 'n', 'i', '_', '_']) (o := ['t', 'c', 'e', 'j', 'b', 'o']) (by kernel_rfl) PySem.F.owner_object]
  cases vs with
  | nil => kernel_rfl
  | cons a r => kernel_rfl
end
end RZN
namespace RZN
open PySem
theorem meets_new (ls : List Addr) (hsz : ls.length ≤ 1000) : Meets (Builtin.«zip.__new__» ⟨.type "zip" :: ls.map Value.ref, []⟩) (fun _ R s => (∀ l ∈ ls, ∃ rs, s.heap.IsTuple l rs) ∧
      ∀ h', ZN h' s.heap.objs.size ls 0 .none (.bool false) → h'.objs.size = s.heap.objs.size + ls.length + 3 → (∀ c o, s.heap.get? c = some o → h'.get? c = some o) → R (.ok (.ret (.ref (s.heap.objs.size + ls.length + 2)))) { s with heap := h' }) :=
  .of_wp fun prog w A R s h => by
    obtain ⟨h1, h2⟩ := h
    show wpAny _ _ (Builtin.SmallTypes.newClass "zip" ⟨.type "zip" :: ls.map Value.ref, []⟩ >>= _) _ _ _
    have n1 : wpAny (model prog w) A.in1 (Builtin.SmallTypes.newClass "zip" ⟨.type "zip" :: ls.map Value.ref, []⟩) (fun r s' => r = (.type "zip", ls.map Value.ref) ∧ s' = s) (fun e s' => R (Except.error e) s') s := by
      have hsub := sub_zip
      unfold Builtin.SmallTypes.newClass
      wp_walk
      exact ⟨rfl, rfl⟩
    refine wpAny_bind (wpAny_mono n1 (fun r s' ⟨e1, e2⟩ => ?_) fun _ _ z => z)
    subst e1
    subst e2
    show wpAny _ _ (Builtin.SmallTypes.iterAll (ls.map Value.ref) >>= _) _ _ _
    have n2 : wpAny (model prog w) A.in1 (Builtin.SmallTypes.iterAll (ls.map Value.ref)) (fun r s2 => r = (List.range ls.length).map (fun k => Value.ref (s'.heap.objs.size + k)) ∧ ∃ h2, s2 = { s' with heap := h2 } ∧ h2.objs.size = s'.heap.objs.size + ls.length ∧ (∀ c o, s'.heap.get? c = some o → h2.get? c = some o) ∧ ∀ (k : Nat) (l : Addr), ls[k]? = some l → h2.IsTupleIter (s'.heap.objs.size + k) l 0) (fun e s' => R (Except.error e) s') s' := by
      unfold Builtin.SmallTypes.iterAll
      refine wpAny_bind (forIn_at (B := fun k => ((List.range k).map fun k => Value.ref (s'.heap.objs.size + k)).toArray) (I := fun k s2 => ∃ h2, s2 = { s' with heap := h2 } ∧ h2.objs.size = s'.heap.objs.size + k ∧ (∀ c o, s'.heap.get? c = some o → h2.get? c = some o) ∧ ∀ (j : Nat) (l : Addr), j < k → ls[j]? = some l → h2.IsTupleIter (s'.heap.objs.size + j) l 0) (fun k x s2 hx is => ?_) ?_ fun s2 is => ?_)
      · obtain ⟨h2, rfl, z0, z1, z2⟩ := is
        rw [List.getElem?_map] at hx
        cases q : ls[k]? with
        | none => rw [q] at hx; cases hx
        | some l =>
          rw [q] at hx
          obtain rfl : Value.ref l = x := Option.some.inj hx
          obtain ⟨rs, o, ho, hr⟩ := h1 l (List.mem_of_getElem? q)
          refine wpAny_bind (wpAny_holding (wpAny_pyIter_tuple (items := rs) ⟨o, z1 _ _ ho, hr⟩ (wpAny_pure ⟨?_, _, rfl, ?_, fun c o e => Heap.get?_push_of_some _ (z1 c o e), fun j l' hj hl' => ?_⟩)))
          · show ForInStep.yield _ = ForInStep.yield _
            rw [z0, List.range_succ]
            simp
          · rw [Heap.size_push, z0]; omega
          · by_cases e : j = k
            · subst e
              rw [q] at hl'
              cases hl'
              exact ⟨_, by rw [← z0]; exact Heap.get?_push_size _ rfl, rfl, rfl⟩
            · exact (z2 j l' (by omega) hl').at fun o e => Heap.get?_push_of_some _ e
      · exact ⟨s'.heap, rfl, rfl, fun _ _ e => e, fun j _ hj => absurd hj (Nat.not_lt_zero j)⟩
      · obtain ⟨h2, rfl, z0, z1, z2⟩ := is
        rw [List.length_map] at z0 z2
        refine wpAny_pure ⟨by rw [List.length_map], h2, rfl, z0, z1, fun k l hl => z2 k l (List.getElem?_eq_some_iff.mp hl).1 hl⟩
    refine wpAny_bind (wpAny_mono n2 (fun r s2 ⟨e1, h2', e2, z0, z1, z2⟩ => ?_) fun _ _ z => z)
    subst e1
    subst e2
    refine wpAny_bind (wpAny_newTuple ?_ (by rw [List.length_map, List.length_range]; exact szl hsz))
    refine wpAny_bind (wpAny_newTuple ?_ (by rw [List.length_map, List.length_map, List.length_range]; exact szl hsz))
    refine wpAny_bind ?_
    unfold Builtin.SmallTypes.newRecord
    refine wpAny_newObj_type (wpAny_pure ⟨_, rfl, ?_⟩) (by show 5 ≤ sizeLine + 2; decide)
    generalize hb : s'.heap.objs.size = b at *
    have b1 : (h2'.push (tobj ((List.range ls.length).map fun k => Value.ref (b + k)))).objs.size = b + ls.length + 1 := by rw [Heap.size_push, z0]
    have b2 : ((h2'.push (tobj ((List.range ls.length).map fun k => Value.ref (b + k)))).push (tobj (((List.range ls.length).map fun k => Value.ref (b + k)).map fun _ => Value.none))).objs.size = b + ls.length + 2 := by rw [Heap.size_push, b1]
    have fin := h2 (((h2'.push (tobj ((List.range ls.length).map fun k => Value.ref (b + k)))).push (tobj (((List.range ls.length).map fun k => Value.ref (b + k)).map fun _ => Value.none))).push (zobj (b + ls.length) (b + ls.length + 1) .none (.bool false))) ⟨?_, ?_, ⟨((List.range ls.length).map fun k => Value.ref (b + k)).map fun _ => Value.none, by simp, ?_⟩, fun k l hl => ?_⟩ ?_ ?_
    · have z0' : h2'.objs.size = b + ls.length := z0
      simp only [Builtin.SmallTypes.ownedTupleFields, Heap.size_push, z0', List.cons_append, List.nil_append]
      exact fin
    · rw [← b2]; exact Heap.get?_push_size _ rfl
    · exact Heap.get?_push_of_some _ (Heap.get?_push_of_some _ (by rw [← z0]; exact Heap.get?_push_size _ rfl))
    · exact Heap.get?_push_of_some _ (by rw [← b1]; exact Heap.get?_push_size _ rfl)
    · exact (z2 k l hl).at fun o e => Heap.get?_push_of_some _ (Heap.get?_push_of_some _ (Heap.get?_push_of_some _ e))
    · rw [Heap.size_push, b2]
    · exact fun c o e => Heap.get?_push_of_some _ (Heap.get?_push_of_some _ (Heap.get?_push_of_some _ (z1 c o e)))
end RZN

namespace RZN
open PySem
section
variable {prog : Program} {w : World} {A : Around} {E : Value → Shared → Prop} {s : Shared}
theorem call_zipN {ls : List Addr} {Q : Value → Shared → Prop} (hsz : ls.length ≤ 1000) (hls : ∀ l ∈ ls, ∃ rs, s.heap.IsTuple l rs)
    (h : ∀ h', ZN h' s.heap.objs.size ls 0 .none (.bool false) → h'.objs.size = s.heap.objs.size + ls.length + 3 → (∀ c o, s.heap.get? c = some o → h'.get? c = some o) → Q (.ref (s.heap.objs.size + ls.length + 2)) { s with heap := h' }) :
    wpAny (model prog w) A (call (.type "zip") (ls.map Value.ref)) Q E s :=
  callType_new F.called_zip (by decide) (typeCall_zip _) (newCall_zip _) (fun obj => args_init obj _) F.entry_zip_new (meets_new ls hsz) ⟨hls, fun h' Z z0 k => ⟨⟨_, Z.z, rfl⟩, h h' Z z0 k⟩⟩
theorem pyIter_zipN {i : Nat} {ls : List Addr} {t : Nat} {f g : Value} {Q : Value → Shared → Prop} (Z : ZN s.heap i ls t f g) (h : Q (.ref (i + ls.length + 2)) s) : wpAny (model prog w) A (pyIter (.ref (i + ls.length + 2))) Q E s := by
  have hT : s.TypeIs (.ref (i + ls.length + 2)) "zip" := ⟨_, Z.z, rfl⟩
  refine wpAny_pyIter_slot hT F.slot_zip_iter (wpAny_call_entry F.slot_zip_iter hT F.entry_zip_iter ?_ (F.args_zip_iter_1 _))
  show wpAny _ _ (ret (.ref (i + ls.length + 2))) _ _ s
  exact wpAny_pure ⟨_, rfl, "zip", _, hT, F.slot_zip_next.lookup, h⟩
end
end RZN
end
section
set_option linter.all false
set_option maxRecDepth 100000
namespace Ev
open PySem PySem.Spec PyProof.Rows L2
open RZN

def ItzN (K : PySem.W.Frag) (ls : List Addr) : It :=
  ⟨fun i H => ls ≠ [] ∧ ∀ l ∈ ls, ∃ (xs : List V) (x : V), SqT K H l xs ∧ xs[i]? = some x,
    fun i H v H' => ∃ T o xs, v = .ref T ∧ H T = none ∧ o.dict = none ∧ H' = upd H T (.frz o (.tup xs)) ∧ xs.length = ls.length ∧ ∀ (k : Nat) (l : Addr), ls[k]? = some l → ∃ v, xs[k]? = some v ∧ ∀ ys, SqT K H l ys → ys[i]? = some v,
    fun i H => ∀ l, ls[0]? = some l → ∃ xs : List V, SqT K H l xs ∧ xs.length ≤ i⟩
theorem zn_cols {X : Cx} {pins : List (Addr × Obj)} {σ : L2.St} {H : Hp} {s : Shared} (I : Inv X pins σ H s) {i : Nat} : ∀ {ls : List Addr}, (∀ l ∈ ls, ∃ (xs : List V) (x : V), SqT X.K H l xs ∧ xs[i]? = some x) →
    ∃ (vs : List V) (us : List Value), Vals vs us ∧ vs.length = ls.length ∧ us.length = ls.length ∧ ∀ (k : Nat) (l : Addr), ls[k]? = some l → ∃ (rs : Array Value) (x : Value) (v : V), s.heap.IsTuple l rs ∧ rs[i]? = some x ∧ us[k]? = some x ∧ vs[k]? = some v ∧ ∀ ys, SqT X.K H l ys → ys[i]? = some v
  | [], _ => ⟨[], [], .nil, rfl, rfl, fun k l e => by simp at e⟩
  | l :: ls, h => by
    obtain ⟨xs, x, q, hx⟩ := h l (by simp)
    obtain ⟨its, rv, p, _⟩ := I.tuple q
    obtain ⟨u, hu, ru⟩ := rv.get hx
    obtain ⟨vs, us, r, l1, l2, k⟩ := zn_cols I (ls := ls) fun l' hl => h l' (by simp [hl])
    refine ⟨x :: vs, u :: us, .cons ru r, by simp [l1], by simp [l2], fun j l' e => ?_⟩
    cases j with
    | zero =>
      obtain rfl : l = l' := by simpa using e
      exact ⟨its.toArray, u, x, p, by simpa using hu, rfl, rfl, fun ys qy => by rw [I.tuple_inj qy q]; exact hx⟩
    | succ j => exact k j l' (by simpa using e)
theorem go_name {M : Model} {A : Around} {E : Value → Shared → Prop} {s : Shared} {x : Str} {p : Pos} {it u : Value} {Q : Unit → Shared → Prop} (h : Q () s) : wpAny M A (letOwnedTupleGo (.Name x p) it u) Q E s := by
  unfold letOwnedTupleGo
  exact wpAny_pure h
def znFp (b n : Nat) : List Nat := (List.range (n + 3)).map fun j => b + j
theorem mem_znFp {b n c : Nat} : c ∈ znFp b n ↔ b ≤ c ∧ c ≤ b + n + 2 := by
  unfold znFp
  rw [List.mem_map]
  constructor
  · rintro ⟨j, hj, rfl⟩
    rw [List.mem_range] at hj
    omega
  · intro ⟨h1, h2⟩
    exact ⟨c - b, List.mem_range.mpr (by omega), by omega⟩
theorem out_znFp {b n c : Nat} (h : c ∉ znFp b n) : c < b ∨ b + n + 2 < c := by
  rw [mem_znFp] at h
  omega
theorem zn_obj {h : Heap} {b i : Nat} {ls : List Addr} {f g : Value} (Z : ZN h b ls i f g) {c : Nat} (hc : c ∈ znFp b ls.length) : ∃ o, h.get? c = some o ∧ ∀ v, o.data ≠ .cell v := by
  obtain ⟨h1, h2⟩ := mem_znFp.mp hc
  by_cases e : c < b + ls.length
  · obtain ⟨l, hl⟩ : ∃ l, ls[c - b]? = some l := ⟨_, List.getElem?_eq_getElem (by omega)⟩
    obtain ⟨o, ho, _, hd⟩ := Z.it _ l hl
    have ec : b + (c - b) = c := by omega
    rw [ec] at ho
    exact ⟨o, ho, fun v q => by rw [hd] at q; cases q⟩
  · by_cases e1 : c = b + ls.length
    · subst e1
      exact ⟨_, Z.TI, fun v q => nomatch q⟩
    · by_cases e2 : c = b + ls.length + 1
      · subst e2
        obtain ⟨vs, _, ho⟩ := Z.TO
        exact ⟨_, ho, fun v q => nomatch q⟩
      · obtain rfl : c = b + ls.length + 2 := by omega
        exact ⟨_, Z.z, fun v q => nomatch q⟩
theorem zn_keep {h h' : Heap} {b i : Nat} {ls : List Addr} {f g : Value} (Z : ZN h b ls i f g) (k : ∀ c : Nat, c ∈ znFp b ls.length → ∀ o, h.get? c = some o → h'.get? c = some o) : ZN h' b ls i f g := by
  obtain ⟨vs, lv, ho⟩ := Z.TO
  refine ⟨k _ (mem_znFp.mpr ?_) _ Z.z, k _ (mem_znFp.mpr ?_) _ Z.TI, ⟨vs, lv, k _ (mem_znFp.mpr ?_) _ ho⟩, fun j l hl => (Z.it j l hl).at fun o q => k _ (mem_znFp.mpr ?_) o q⟩
  · omega
  · omega
  · omega
  · have := (List.getElem?_eq_some_iff.mp hl).1
    omega
theorem turn_zipN {P : Program} {w : World} {K : PySem.W.Frag} {x : Str} {tp : Pos} {ls : List Addr} {b : Nat} (hsz : ls.length ≤ 1000) (hlt : ∀ l ∈ ls, (l : Nat) < b) :
    Turn P w K (.Name x tp) (ItzN K ls) (znFp b ls.length) (b + ls.length + 2) (fun i h => ∃ f g, ZN h b ls i f g ∧ (f = .none ∨ ∃ p : Nat, f = rawInt p)) where
  mem := (mem_znFp (b := b) (n := ls.length)).mpr ⟨by omega, Nat.le_refl _⟩
  obj := fun i h st c hc => by
    obtain ⟨f, g, Z, _⟩ := st
    exact zn_obj Z hc
  keep := fun i h h' st k => by
    obtain ⟨f, g, Z, hf⟩ := st
    exact ⟨f, g, zn_keep Z k, hf⟩
  item := by
    intro X hP hw hK hc i pins s σ H E I hf st hg
    subst hP hw hK
    obtain ⟨f, g, Z, hff⟩ := st
    obtain ⟨hne, hgo⟩ := hg
    obtain ⟨vs, us, r, l1, l2, k⟩ := zn_cols I hgo
    have hzl : b + ls.length + 2 < s.heap.objs.size := Heap.lt_size Z.z
    refine pyNext_item Z hff hne hsz (xs := us) ⟨l2, fun j l hl => ?_⟩ fun h' f' g' Z' hf' hT hs' kp => ?_
    · obtain ⟨rs, x, v, a1, a2, a3, _⟩ := k j l hl
      exact ⟨hlt l (List.mem_of_getElem? hl), rs, x, a1, a2, a3⟩
    · refine ⟨_, rfl, go_name ?_⟩
      have new : ObjOk X.prog X.w (upd H s.heap.objs.size (.frz (tobj us) (.tup vs))) h' s.heap.objs.size (.frz (tobj us) (.tup vs)) :=
        ⟨hT, by show vs.length ≤ sizeLine; rw [l1]; exact szl hsz, us, r, ⟨_, hT, rfl, _, rfl⟩⟩
      have I1 : Inv X pins σ (upd H s.heap.objs.size (.frz (tobj us) (.tup vs))) { s with heap := h' } :=
        I.turnedNew (t' := s.toks) (ch := znFp b ls.length) (fun c o hb q => kp c o (out_znFp hb) q) hf (Nat.le_refl _) new
      refine ⟨.ref s.heap.objs.size, _, I1, rfl, ⟨_, tobj us, vs, rfl, I.hok.fresh (Nat.le_refl _), rfl, rfl, l1, fun j l hl => ?_⟩, ⟨f', g', Z', .inr hf'⟩, fun c hcm => ?_⟩
      · obtain ⟨rs, x, v, _, _, _, a4, a5⟩ := k j l hl
        exact ⟨v, a4, a5⟩
      · have hcl := (mem_znFp.mp hcm).2
        rw [upd_ne (Nat.ne_of_lt (Nat.lt_of_le_of_lt hcl hzl))]
        exact (hf c hcm).1
  done := by
    intro X hP hw hK hc i pins s σ H E I hf st hg
    subst hP hw hK
    obtain ⟨f, g, Z, hff⟩ := st
    refine pyNext_end (I.ok.hd hc) Z hff (fun l hl => ?_) fun h' kp => ⟨rfl, I.turnedL (t' := s.toks) (ch := znFp b ls.length) (fun c o hb q => kp c o (out_znFp hb) q) hf⟩
    obtain ⟨xs, q, hl'⟩ := hg l hl
    obtain ⟨its, rv, p, _⟩ := I.tuple q
    have := rv.length
    exact ⟨hlt l (List.mem_of_getElem? hl), its.toArray, p, by simp; omega⟩
  self := fun A i s Q E st h => by
    obtain ⟨f, g, Z, _⟩ := st
    exact pyIter_zipN Z h

theorem callWith_typeS {M : Model} {A : Around} {E : Value → Shared → Prop} {s : Shared} {pos : Pos} {T : String} {args : List (Bool × Sem Value)} {Q : Value → Shared → Prop}
    (hst : args.any (·.1) = true)
    (h : wpAny M A (evalArgs (.type T) true args []) (fun a s₁ => wpAny M A (call (.type T) a.pos a.kw) Q E s₁) E s) :
    wpAny M A (callWith pos (.type T) [] args []) Q E s :=
  PySem.W.ks_call (P := fun _ => True) (first := []) hst (fun h _ => ⟨.machine, .inr (.inl rfl), .of_pure rfl⟩) (wpAny_mono h (fun _ _ z => ⟨trivial, z⟩) fun _ _ z => z)
def iZipN (K : PySem.W.Frag) (te : TE) : TI := fun σ H R => te σ H fun v H1 => ∃ (p : Addr) (ls : List Addr), v = .ref p ∧ (SqT K H1 p (ls.map V.ref) ∨ SqL K H1 p (ls.map V.ref)) ∧ ls.length ≤ 1000 ∧ (∀ l ∈ ls, ∃ xs, SqT K H1 l xs) ∧ R (ItzN K ls) H1
theorem vals_refs : ∀ {ls : List Addr} {us : List Value}, Vals (ls.map V.ref) us → us = ls.map Value.ref
  | [], _, .nil => rfl
  | l :: ls, _, .cons r t => by
    have e : _ = Value.ref l := r
    rw [e, vals_refs t]
    rfl
theorem pi_zipN {X : Cx} {e : Expr} {te : TE} {x : Str} {p p2 pos tp : Pos} (hg : Gl X "zip") (hm : X.mg "zip" = none) (he : PE X e te)
    (hs : starEach [.Starred e p2] X.env = [(true, eval e X.env)] := by rfl) :
    PI X (.Name x tp) (.Call (.Name "zip" p) [.Starred e p2] [] pos) (iZipN X.K te) := by
  refine ⟨fun pins s σ H R I h => ?_⟩
  refine Call_ (ld_blt I hg hm PyProof.Rows.boot_zip ?_)
  rw [hs]
  refine callWith_typeS rfl (PySem.W.ks_lone (thn (he.run pins s σ H _ I h) fun v s1 ⟨y, H1, I1, r1, q1⟩ => ?_))
  obtain ⟨q, ls, rfl, hq, hsz, hls, hR⟩ := q1
  cases r1
  refine StX.star_any I1 hq fun us s2 I2 r2 => ?_
  obtain rfl := vals_refs r2
  have tups : ∀ l ∈ ls, ∃ rs, s2.heap.IsTuple l rs := fun l hl => by
    obtain ⟨xs, hx⟩ := hls l hl
    obtain ⟨its, _, p1, _⟩ := I2.tuple hx
    exact ⟨its.toArray, p1⟩
  refine call_zipN hsz tups fun h' Z z0 k => pyIter_zipN Z ?_
  have I3 : Inv X pins σ H1 { s2 with heap := h' } := I2.kept (t' := s2.toks) k
  refine ⟨s2.heap.objs.size + ls.length + 2, znFp s2.heap.objs.size ls.length, _, ItzN X.K ls, H1, rfl, I3, turn_zipN hsz (fun l hl => ?_), ⟨.none, .bool false, Z, .inl rfl⟩, fun c hc => ?_, hR⟩
  · obtain ⟨rs, o, ho, _⟩ := tups l hl
    exact Heap.lt_size ho
  · have hle := (mem_znFp.mp hc).1
    exact I2.fpOk hle (I2.hok.fresh hle)

section
variable {g : Gh} {X : Cx} {G G0 H : Hp} {σ : L2.St}
theorem tups_dg {fa : Nat → Addr} {K : PySem.W.Frag} : ∀ {vs : List V} {ds : List D} {rows : List (List D)}, DgAll fa K G vs ds → tupsOf ds = some rows →
    ∃ ls : List Addr, vs = ls.map V.ref ∧ ls.length = rows.length ∧ ∀ (k : Nat) (l : Addr), ls[k]? = some l → ∃ row ws, rows[k]? = some row ∧ SqD K G l ws ∧ DgAll fa K G ws row
  | _, _, rows, .nil, e => by cases e; exact ⟨[], rfl, rfl, fun k l h => by simp at h⟩
  | _, _, rows, .cons (d := d) (ds := ds) hd r, e => by
    cases d <;> first | exact noS e | skip
    rename_i cells
    have e : (tupsOf ds).map (fun l => cells :: l) = some rows := e
    cases q : tupsOf ds with
    | none => rw [q] at e; cases e
    | some rest =>
      rw [q] at e
      cases e
      obtain ⟨ls, rfl, hl, hk⟩ := tups_dg r q
      cases hd with
      | tup h1 h2 =>
        rename_i a ws
        refine ⟨a :: ls, rfl, by simp [hl], fun k l h => ?_⟩
        cases k with
        | zero =>
          obtain rfl : a = l := by simpa using h
          exact ⟨cells, ws, rfl, h1, h2⟩
        | succ k => exact hk k l (by simpa using h)
theorem zcols_inv {rows : List (List D)} {items : List D} (e : zcols rows = some items) (hn : rows ≠ []) : rows.length ≤ 1000 ∧ ∃ m, (∀ q ∈ rows, q.length = m) ∧ items = (List.range m).map fun i => D.tup (rows.map fun q => q.getD i .non) := by
  cases rows with
  | nil => exact absurd rfl hn
  | cons l r =>
    have e : (if (Nat.ble r.length 999 && r.all (fun q => q.length == l.length)) = true then some ((List.range l.length).map fun i => D.tup ((l :: r).map fun q => q.getD i .non)) else none) = some items := e
    by_cases hc : (Nat.ble r.length 999 && r.all (fun q => q.length == l.length)) = true
    · rw [if_pos hc] at e
      cases e
      rw [Bool.and_eq_true, Nat.ble_eq, List.all_eq_true] at hc
      refine ⟨by rw [List.length_cons]; omega, l.length, fun q hq => ?_, rfl⟩
      rcases List.mem_cons.mp hq with rfl | hq
      · rfl
      · exact eq_of_beq (hc.2 q hq)
    · rw [if_neg hc] at e; cases e
theorem col_dg {fa : Nat → Addr} {K : PySem.W.Frag} {i : Nat} : ∀ {xs : List V} {rows : List (List D)}, xs.length = rows.length → (∀ (k : Nat) (v : V) (row : List D), xs[k]? = some v → rows[k]? = some row → Dg fa K G v (row.getD i .non)) → DgAll fa K G xs (rows.map fun q => q.getD i .non)
  | [], [], _, _ => .nil
  | x :: xs, r :: rows, hl, h => .cons (h 0 x r rfl rfl) (col_dg (by simpa using hl) fun k v row h1 h2 => h (k + 1) v row (by simpa using h1) (by simpa using h2))
  | [], _ :: _, hl, _ => by simp at hl
  | _ :: _, [], hl, _ => by simp at hl
theorem Yields.zipS {ls : List Addr} {rows : List (List D)} {items : List D} (hl : ls.length = rows.length) (hk : ∀ (k : Nat) (l : Addr), ls[k]? = some l → ∃ row ws, rows[k]? = some row ∧ SqD g.K G0 l ws ∧ DgAll g.fa g.K G0 ws row) (e : zcols rows = some items) :
    Yields g.fa g.K .zipS G0 (ItzN g.K ls) items := by
  by_cases hn : rows = []
  · subst hn
    cases e
    obtain rfl : ls = [] := List.length_eq_zero_iff.mp hl
    exact ⟨fun G H s1 s2 l h => by simp at h, fun G H i d s1 s2 h => by simp at h, fun G H i d x H' s1 s2 h => by simp at h⟩
  obtain ⟨_, m, hm, rfl⟩ := zcols_inv e hn
  have hln : ls ≠ [] := fun z => hn (List.length_eq_zero_iff.mp (by rw [← hl, z]; rfl))
  have item : ∀ {i : Nat} {d : D}, ((List.range m).map fun i => D.tup (rows.map fun q => q.getD i .non))[i]? = some d → i < m ∧ d = D.tup (rows.map fun q => q.getD i .non) := fun {i d} h => by
    have hi := (List.getElem?_eq_some_iff.mp h).1
    rw [List.length_map, List.length_range] at hi
    rw [List.getElem?_map, List.getElem?_range hi] at h
    exact ⟨hi, (Option.some.inj h).symm⟩
  have cell : ∀ {i k : Nat} {l : Addr}, i < m → ls[k]? = some l → ∃ row ws v, rows[k]? = some row ∧ SqD g.K G0 l ws ∧ ws[i]? = some v ∧ Dg g.fa g.K G0 v (row.getD i .non) := fun {i k l} hi h => by
    obtain ⟨row, ws, h1, h2, h3⟩ := hk k l h
    have hr : row.length = m := hm row (List.mem_of_getElem? h1)
    have hd : row[i]? = some (row.getD i .non) := by rw [List.getD_eq_getElem?_getD, List.getElem?_eq_getElem (by omega)]; rfl
    obtain ⟨v, h4, h5⟩ := h3.get hd
    exact ⟨row, ws, v, h1, h2, h4, h5⟩
  refine ⟨fun G H s1 s2 l h => ?_, fun G H i d s1 s2 h => ?_, fun G H i d x H' s1 s2 h y => ?_⟩
  · obtain ⟨row, ws, h1, h2, h3⟩ := hk 0 l h
    refine ⟨ws, (s1.trans s2).seqT h2.seqT, ?_⟩
    rw [h3.length, hm row (List.mem_of_getElem? h1)]
    simp
  · obtain ⟨hi, _⟩ := item h
    refine ⟨hln, fun l hl => ?_⟩
    obtain ⟨k, hkl⟩ := List.mem_iff_getElem?.mp hl
    obtain ⟨row, ws, v, h1, h2, h4, h5⟩ := cell hi hkl
    exact ⟨ws, v, (s1.trans s2).seqT h2.seqT, h4⟩
  · obtain ⟨hi, rfl⟩ := item h
    obtain ⟨T, o, xs, rfl, hT, ho, rfl, hx, hy⟩ := y
    have gr : Grow G H (upd G T (.frz o (.tup xs))) (upd H T (.frz o (.tup xs))) := .known s2 hT
    refine ⟨_, gr, .inl (.tup (.inl ⟨o, upd_same, ho⟩) (col_dg (by rw [hx, hl]) fun k v row h1 h2 => ?_))⟩
    obtain ⟨l, hkl⟩ : ∃ l, ls[k]? = some l := ⟨_, List.getElem?_eq_getElem (by have := (List.getElem?_eq_some_iff.mp h1).1; omega)⟩
    obtain ⟨row', ws, u, q1, q2, q4, q5⟩ := cell hi hkl
    rw [h2] at q1
    cases q1
    obtain ⟨u', q6, q7⟩ := hy k l hkl
    rw [h1] at q6
    cases q6
    have := q7 ws ((s1.trans s2).seqT q2.seqT)
    rw [q4] at this
    cases this
    exact q5.mono (s1.trans gr.sup)
theorem pi_zs {x : Str} {a : Expr} {m : E} {p p2 pos tp : Pos} (hK : X.K = g.K) (hg : Gl X "zip") (hm : X.mg "zip" = none) (ha : PE X a (RE g m)) :
    PI X (.Name x tp) (.Call (.Name "zip" p) [.Starred a p2] [] pos) (RI g .zipS (.cons m .nil)) := by
  refine PI.of (pi_zipN hg hm ha) fun σ H R h => (RA.cons h.all).mono fun v H1 q => ?_
  obtain ⟨G, ds, items, sp, dd, e, q⟩ := q.nil
  rw [hK]
  match ds, dd, e with
  | [d], .cons h1 .nil, e =>
    have e : ((seqOf d).bind fun ds => (tupsOf ds).bind zcols) = some items := e
    cases q1 : seqOf d with
    | none => rw [q1] at e; cases e
    | some ds =>
      rw [q1] at e
      have e : (tupsOf ds).bind zcols = some items := e
      cases q2 : tupsOf ds with
      | none => rw [q2] at e; cases e
      | some rows =>
        rw [q2] at e
        have e : zcols rows = some items := e
        have go : ∀ (ws : List V) (a : Addr), (SqT g.K H1 a ws ∨ SqL g.K H1 a ws) → DgAll g.fa g.K G ws ds → v = .ref a → ∃ (p : Addr) (ls : List Addr), v = .ref p ∧ (SqT g.K H1 p (ls.map V.ref) ∨ SqL g.K H1 p (ls.map V.ref)) ∧ ls.length ≤ 1000 ∧ (∀ l ∈ ls, ∃ xs, SqT g.K H1 l xs) ∧ R (ItzN g.K ls) H1 := fun ws a hs dd hv => by
          obtain ⟨ls, rfl, hl, hk⟩ := tups_dg dd q2
          refine ⟨a, ls, hv, hs, ?_, fun l hl => ?_, q _ (.zipS hl hk e)⟩
          · rw [hl]
            by_cases hn : rows = []
            · rw [hn]; exact Nat.zero_le _
            · exact (zcols_inv e hn).1
          · obtain ⟨k, hkl⟩ := List.mem_iff_getElem?.mp hl
            obtain ⟨row, ws, _, h2, _⟩ := hk k l hkl
            exact ⟨ws, sp.seqT h2.seqT⟩
        cases d <;> first | exact noS q1 | skip
        · cases q1
          cases h1 with
          | tup h1 h2 => exact go _ _ (.inl (sp.seqT h1.seqT)) h2 rfl
        · cases q1
          cases h1 with
          | lst h1 h2 => exact go _ _ (.inr (.inl (.inl (sp.lst _ _ h1)))) h2 rfl
end
end Ev
end
section
set_option linter.all false
set_option maxRecDepth 100000
namespace Ev
open PySem PySem.Spec PyProof.Rows L2

def spF (g : Gh) (f : Nat) : Sp := if g.C.io f = true then spI g.fa g.K g.ex (g.C.call f) else spN g.fa g.K g.ex (g.C.call f)
def GOk (X : Cx) (g : Gh) (x : Str) : GV → Prop
  | .fn k => X.mg x = some (.ref (g.fa k)) ∧ PySem.W.keepIn X.K (.ref (g.fa k)) = true ∧ ∃ fd ps n, FnOk X.prog X.w X.K X.mg X.base (L2.CX X.prog X.w) n (g.fa k) fd ps (spF g k) ∧ Room n X.A ∧ Binds X.K fd ps []
  | .cst d => ∃ u v, X.mg x = some u ∧ L2.RelV v u ∧ ∀ G, Dg g.fa g.K G v d
  | .bi b => X.mg x = none ∧ ∃ y, biNames[b]? = some y ∧ x = Str.ofString y
  | .exc _ => True
structure Ok (X : Cx) (cc : CC) (g : Gh) : Prop where
  N : X.N = cc.N
  sc : X.env.scope = cc.sc
  K : X.K = g.K
  calm : X.calm = true
  nd : X.N.Nodup
  gl : ∀ x v, cc.gl.lookup x = some v → GOk X g x v
  io : ∀ k, cc.ioF k = g.C.io k
  room : X.A.units + 65 < cLine
  wno : ∀ c d σ H, ¬ g.W c d σ H
  fn : ∀ x, cc.fnc x = true → X.fn x = true
section
variable {X : Cx} {cc : CC} {g : Gh} {σ : L2.St} {H : Hp}

theorem PE.of {e : Expr} {t t' : TE} (h : PE X e t) (k : ∀ σ H Q, t' σ H Q → t σ H Q) : PE X e t' := ⟨fun pins s σ H Q I q => h.run pins s σ H Q I (k σ H Q q)⟩
theorem PT.of {e : Expr} {t t' : TT} (h : PT X e t) (k : ∀ σ H Q, t' σ H Q → t σ H Q) : PT X e t' := ⟨fun pins s σ H Q I q => h.run pins s σ H Q I (k σ H Q q)⟩
theorem PA.of {es : List Expr} {t t' : TA} (h : PA X es t) (k : ∀ σ H Q, t' σ H Q → t σ H Q) : PA X es t' := ⟨fun pos pins s σ H Q I q => h.run pos pins s σ H Q I (k σ H Q q)⟩
theorem PW.of {e : Expr} {t t' : TT} (h : PW X e t) (k : ∀ σ H Q, t' σ H Q → t σ H Q) : PW X e t' := ⟨fun wh pins s σ H Q I q => h.run wh pins s σ H Q I (k σ H Q q)⟩

theorem star1 {e : Expr} {es : List Expr} {env : PySem.Env} (h : noStar e = true) : starEach (e :: es) env = (false, eval e env) :: starEach es env := by
  cases e <;> first | rfl | cases h
theorem plain_back {env : PySem.Env} {pos : Pos} : ∀ {es : List Expr}, (∀ e ∈ es, noStar e = true) → (backTo pos (starEach es env)).any (·.1) = false
  | [], _ => rfl
  | e :: es, h => by
    rw [star1 (h e List.mem_cons_self)]
    show (false || (backTo pos (starEach es env)).any (·.1)) = false
    rw [Bool.false_or]
    exact plain_back fun x hx => h x (List.mem_cons_of_mem _ hx)
theorem plain_len {env : PySem.Env} : ∀ {es : List Expr}, (starEach es env).length = es.length
  | [] => rfl
  | e :: es => by
    have ih := plain_len (env := env) (es := es)
    cases e <;> (show (starEach es env).length + 1 = _; rw [ih]; rfl)
theorem plain_all {env : PySem.Env} {pos : Pos} : ∀ {es : List Expr}, (∀ e ∈ es, noStar e = true) → (backTo pos (starEach es env)).all (fun x => !x.1) = true
  | [], _ => rfl
  | e :: es, h => by
    rw [star1 (h e List.mem_cons_self)]
    show (true && (backTo pos (starEach es env)).all (fun x => !x.1)) = true
    rw [Bool.true_and]
    exact plain_all fun x hx => h x (List.mem_cons_of_mem _ hx)

def IHe (F : CC → Ex → Option E) (g : Gh) : Prop := ∀ X cc, Ok X cc g → ∀ e m, F cc e = some m → PE X e (RE g m) ∧ (tstOk e = true → PT X e (RT g m)) ∧ noStar e = true ∧ noSet e = true
variable {F : CC → Ex → Option E}
theorem cEs_cons {e : Ex} {es : List Ex} {a : E} (h : cEs F cc (e :: es) = some a) : noStar e = true ∧ ∃ x r, F cc e = some x ∧ cEs F cc es = some r ∧ a = .cons x r := by
  have gen : noStar e = true → cEs F cc (e :: es) = (match F cc e, cEs F cc es with | some x, some a => some (.cons x a) | _, _ => none) := by
    intro hn; cases e <;> first | rfl | cases hn
  have hn : noStar e = true := by cases e <;> first | rfl | cases h
  rw [gen hn] at h
  cases q1 : F cc e with
  | none => rw [q1] at h; cases h
  | some x =>
    rw [q1] at h
    cases q2 : cEs F cc es with
    | none => rw [q2] at h; cases h
    | some r => rw [q2] at h; cases h; exact ⟨hn, x, r, rfl, rfl, rfl⟩
theorem cEs_plain : ∀ {es : List Ex} {a : E}, cEs F cc es = some a → ∀ e ∈ es, noStar e = true
  | [], _, _, e, he => absurd he (by simp)
  | x :: es, a, h, e, he => by
    obtain ⟨hn, _, r, _, h2, _⟩ := cEs_cons h
    rcases List.mem_cons.mp he with rfl | he
    · exact hn
    · exact cEs_plain h2 e he
theorem pa_ok (ih : IHe F g) (ok : Ok X cc g) : ∀ {es : List Ex} {a : E}, cEs F cc es = some a → PA X es (RA g a)
  | [], a, h => by
    cases h
    exact PA.of pa_nil fun σ H Q q => q.nil
  | e :: es, a, h => by
    obtain ⟨hn, x, r, h1, h2, rfl⟩ := cEs_cons h
    exact PA.of (pa_cons (ih X cc ok e x h1).1 (pa_ok ih ok h2) (star1 hn)) fun σ H Q q => RA.cons q

theorem lookN {x : Str} {N : List Str} : ∀ {k i : Nat}, idxS x N k = some i → ∃ j, i = k + j ∧ N[j]? = some x := by
  induction N with
  | nil => intro k i h; cases h
  | cons y r ih =>
    intro k i h
    unfold idxS at h
    by_cases hx : (x == y) = true
    · rw [if_pos hx] at h
      cases h
      exact ⟨0, rfl, by simp [LawfulBEq.eq_of_beq hx]⟩
    · rw [if_neg hx] at h
      obtain ⟨j, h1, h2⟩ := ih h
      exact ⟨j + 1, by omega, by simpa using h2⟩
theorem plainN_ok {x : Str} (h : plainN x = true) : (x == ("__debug__" : Str)) = false ∧ (x == ("__classdict__" : Str)) = false ∧ x ≠ "__name__" := by
  unfold plainN at h
  simp only [Bool.and_eq_true, Bool.not_eq_true'] at h
  exact ⟨h.1.1, h.1.2, fun e => by have := h.2; rw [e] at this; exact absurd this (by decide)⟩
theorem slot_ok {x : Str} {i : Nat} (ok : Ok X cc g) (h : cc.slot x = some i) : X.N[i]? = some x ∧ Vis X.env.scope x ∧ plainN x = true := by
  unfold CC.slot at h
  by_cases hp : plainN x = true
  · rw [if_pos hp] at h
    have key : ∀ k, cc.sc.names.lookup x = some k → (k = .local ∨ k = .cell ∨ k = .free) → idxS x cc.N 0 = some i → X.N[i]? = some x ∧ Vis X.env.scope x ∧ plainN x = true := fun k hk hc hi => by
      obtain ⟨j, e1, e2⟩ := lookN hi
      rw [Nat.zero_add] at e1
      subst e1
      refine ⟨by rw [ok.N]; exact e2, ?_, hp⟩
      unfold Vis
      rw [ok.sc, hk]
      rcases hc with rfl | rfl | rfl
      · exact .inl rfl
      · exact .inr (.inl rfl)
      · exact .inr (.inr rfl)
    cases q : cc.sc.names.lookup x with
    | none => rw [q] at h; cases h
    | some k =>
      rw [q] at h
      cases k <;> first | exact key _ q (by simp) h | cases h
  · rw [if_neg hp] at h; cases h
theorem glob_ok {x : Str} {v : GV} (ok : Ok X cc g) (h : cc.glob x = some v) : Gl X x ∧ GOk X g x v ∧ plainN x = true := by
  unfold CC.glob at h
  by_cases hp : plainN x = true
  · rw [if_pos hp] at h
    cases q : cc.sc.names.lookup x with
    | none => rw [q] at h; cases h
    | some k =>
      rw [q] at h
      cases k <;> first | (refine ⟨?_, ok.gl x v h, hp⟩; unfold Gl PySem.Env.kindOf; rw [ok.sc]; exact q) | cases h
  · rw [if_neg hp] at h; cases h
theorem dest_ok {x : Str} {i : Nat} (ok : Ok X cc g) (h : cc.dest x = some i) : X.N[i]? = some x ∧ L2.Loc X.env.scope x ∧ (X.fn x = true ∨ X.env.scope.names.lookup x = some .local) ∧ (cc.io = true → i ≠ 0) := by
  have key : ∀ k, cc.sc.names.lookup x = some k → (k = .local ∨ k = .cell) → (X.fn x = true ∨ k = .local) → ((idxS x cc.N 0).bind fun i => if (cc.io && i == 0) = true then none else some i) = some i → X.N[i]? = some x ∧ L2.Loc X.env.scope x ∧ (X.fn x = true ∨ X.env.scope.names.lookup x = some .local) ∧ (cc.io = true → i ≠ 0) := fun k hk hc hf hi => by
    cases qi : idxS x cc.N 0 with
    | none => rw [qi] at hi; cases hi
    | some j =>
      rw [qi] at hi
      have hi : (if (cc.io && j == 0) = true then none else some j) = some i := hi
      by_cases hz : (cc.io && j == 0) = true
      · rw [if_pos hz] at hi; cases hi
      · rw [if_neg hz] at hi
        cases hi
        obtain ⟨j', e1, e2⟩ := lookN qi
        rw [Nat.zero_add] at e1
        subst e1
        refine ⟨by rw [ok.N]; exact e2, ?_, ?_, fun z e => hz (by rw [z, e]; rfl)⟩
        · unfold L2.Loc
          rw [ok.sc, hk]
          rcases hc with rfl | rfl
          · exact .inl rfl
          · exact .inr rfl
        · rw [ok.sc, hk]
          rcases hf with hf | rfl
          · exact .inl hf
          · exact .inr rfl
  unfold CC.dest at h
  cases q : cc.sc.names.lookup x with
  | none => rw [q] at h; cases h
  | some k =>
    rw [q] at h
    cases k with
    | «local» => exact key _ q (.inl rfl) (.inr rfl) h
    | cell =>
      have h : (if cc.fnc x = true then (idxS x cc.N 0).bind fun i => if (cc.io && i == 0) = true then none else some i else none) = some i := h
      by_cases hf : cc.fnc x = true
      · rw [if_pos hf] at h
        exact key _ q (.inr rfl) (.inl (ok.fn x hf)) h
      · rw [if_neg hf] at h; cases h
    | _ => cases h
theorem pe_slot {x : Str} {i : Nat} {p : Pos} (ok : Ok X cc g) (h : cc.slot x = some i) : PE X (.Name x p) (tVar i) := by
  obtain ⟨h1, h2, h3⟩ := slot_ok ok h
  obtain ⟨p1, p2, _⟩ := plainN_ok h3
  exact pe_var h1 h2 p1 p2
theorem cName_ok (ok : Ok X cc g) {x : Str} {p : Pos} {m : E} (h : cName cc x = some m) : PE X (.Name x p) (RE g m) := by
  unfold cName at h
  cases q : cc.slot x with
  | some i =>
    rw [q] at h
    cases h
    exact PE.of (pe_slot ok q) fun σ H Q q => q.var
  | none =>
    rw [q] at h
    cases q2 : cc.glob x with
    | none => rw [q2] at h; cases h
    | some v =>
      rw [q2] at h
      obtain ⟨hg, hv, hp⟩ := glob_ok ok q2
      cases v with
      | fn k =>
        cases h
        exact PE.of (pe_glob (v := .ref (g.fa k)) hg hv.1 rfl (plainN_ok hp).1) fun σ H Q q => q.cst fun G => .fn k
      | cst d =>
        cases h
        obtain ⟨u, v, h1, h2, h3⟩ := hv
        exact PE.of (pe_glob hg h1 h2 (plainN_ok hp).1) fun σ H Q q => q.cst h3
      | bi b => cases h
      | exc k => cases h
theorem pt_valR {e : Expr} {m : E} (h : PE X e (RE g m)) (he : ∀ whole, isTrue e X.env whole = (do let v ← whole; standAt e.pos; holding [v] (truthy v))) : PT X e (RT g m) :=
  PT.of (pt_val h he) fun σ H Q q => q.re
theorem cConst_ok {c : PySem.Const} {k : Nat} {p : Pos} {d : D} (h : constD c = some d) : PE X (.Constant c k p) (RE g (.cst d)) := by
  cases c with
  | none => cases h; exact PE.of pe_non fun σ H Q q => q.cst fun _ => .non
  | bool b => cases h; exact PE.of pe_bl fun σ H Q q => q.cst fun _ => .bl _
  | int b => cases h; exact PE.of pe_int fun σ H Q q => q.cst fun _ => .int _
  | str b => cases h; exact PE.of pe_str fun σ H Q q => q.cst fun _ => .str _
  | _ => cases h

theorem bin_op {o : Operator} {op : Op} (ok : Ok X cc g) (h : binO o = some op) : OpR X (binaryOp o) (KO2 g op) := by
  cases o <;> first | cases h; done | skip
  all_goals (cases h)
  all_goals first | exact ko_add ok.K | exact ko_sub | exact ko_mul ok.K | exact ko_fdiv | exact ko_mod | exact ko_pow
theorem cmp_op {o : CmpOp} {op : Op} (ok : Ok X cc g) (h : cmpO o = some op) : OpR X (compareOp o) (KO2 g op) := by
  cases o <;> first | cases h; done | skip
  all_goals (cases h)
  all_goals first | exact ko_eq ok.K ok.room | exact ko_ne ok.K ok.room | exact ko_lt ok.K ok.room | exact ko_le ok.K ok.room | exact ko_gt ok.K ok.room | exact ko_ge ok.K ok.room | exact ko_inn ok.K ok.room | exact ko_nin ok.K ok.room
theorem cBin_some {o : Op} {a b : Ex} {m : E} (h : cBin F cc o a b = some m) : ∃ x y, F cc a = some x ∧ F cc b = some y ∧ m = .op o (.cons x (.cons y .nil)) := by
  unfold cBin at h
  cases q1 : F cc a with
  | none => rw [q1] at h; cases h
  | some x =>
    rw [q1] at h
    cases q2 : F cc b with
    | none => rw [q2] at h; cases h
    | some y => rw [q2] at h; cases h; exact ⟨x, y, rfl, rfl, rfl⟩
theorem cUn_some {o : Op} {a : Ex} {m : E} (h : cUn F cc o a = some m) : ∃ x, F cc a = some x ∧ m = .op o (.cons x .nil) := by
  unfold cUn at h
  cases q1 : F cc a with
  | none => rw [q1] at h; cases h
  | some x => rw [q1] at h; cases h; exact ⟨x, rfl, rfl⟩
theorem op2_re {o : Op} {x y : E} {σ : L2.St} {H : Hp} {Q : VK} (h : RE g (.op o (.cons x (.cons y .nil))) σ H Q) : tOp (KO2 g o) (RE g x) (RE g y) σ H Q := h.op2
theorem op2_rt {o : Op} {x y : E} {σ : L2.St} {H : Hp} {Q : Bool → Hp → Prop} (h : RT g (.op o (.cons x (.cons y .nil))) σ H Q) : tTest (tOp (KO2 g o) (RE g x) (RE g y)) σ H Q := h.re.op2
theorem noSet_mark {o : CmpOp} {b : Expr} (h : noSet b = true) : behindInMarks o b = false := by
  cases b <;> first | rfl | cases h
theorem cCmp1_ok (ih : IHe F g) (ok : Ok X cc g) {a b : Ex} {o : CmpOp} {m : E} {p : Pos} (h : cCmp1 F cc a o b = some m) : PE X (.Compare a [o] [b] p) (RE g m) ∧ PT X (.Compare a [o] [b] p) (RT g m) := by
  have isN : isNone b = true → ∃ k q, b = .Constant .none k q := fun hb => by
    cases b with
    | Constant c k q => cases c <;> first | exact ⟨_, _, rfl⟩ | cases hb
    | _ => cases hb
  have gen : ∀ op, cmpO o = some op → (if noSet b = true then cBin F cc op a b else none) = some m → PE X (.Compare a [o] [b] p) (RE g m) ∧ PT X (.Compare a [o] [b] p) (RT g m) := fun op ho h => by
    by_cases hb : noSet b = true
    · rw [if_pos hb] at h
      obtain ⟨x, y, h1, h2, rfl⟩ := cBin_some h
      have pa := (ih X cc ok a x h1).1
      have pb := (ih X cc ok b y h2).1
      exact ⟨PE.of (pe_cmpR (cmp_op ok ho) pa pb (noSet_mark hb)) fun σ H Q q => op2_re q, PT.of (pt_cmpR (cmp_op ok ho) pa pb (noSet_mark hb)) fun σ H Q q => op2_rt q⟩
    · rw [if_neg hb] at h; cases h
  cases o with
  | Is =>
    have h : (if isNone b = true then cUn F cc .isn a else none) = some m := h
    by_cases hb : isNone b = true
    · rw [if_pos hb] at h
      obtain ⟨k, q, rfl⟩ := isN hb
      obtain ⟨x, h1, rfl⟩ := cUn_some h
      have pa := (ih X cc ok a x h1).1
      exact ⟨PE.of (pe_cmpR (ko_isn (g := g)) pa pe_non rfl) fun σ H Q q => q.op1.mono fun v H1 q => ⟨rfl, q⟩,
        PT.of (pt_cmpR (ko_isn (g := g)) pa pe_non rfl) fun σ H Q q => q.re.op1.mono fun v H1 q => ⟨rfl, q⟩⟩
    · rw [if_neg hb] at h; cases h
  | IsNot =>
    have h : (if isNone b = true then cUn F cc .isnn a else none) = some m := h
    by_cases hb : isNone b = true
    · rw [if_pos hb] at h
      obtain ⟨k, q, rfl⟩ := isN hb
      obtain ⟨x, h1, rfl⟩ := cUn_some h
      have pa := (ih X cc ok a x h1).1
      exact ⟨PE.of (pe_cmpR (ko_isnn (g := g)) pa pe_non rfl) fun σ H Q q => q.op1.mono fun v H1 q => ⟨rfl, q⟩,
        PT.of (pt_cmpR (ko_isnn (g := g)) pa pe_non rfl) fun σ H Q q => q.re.op1.mono fun v H1 q => ⟨rfl, q⟩⟩
    · rw [if_neg hb] at h; cases h
  | _ => exact gen _ rfl h
theorem cmpI_op {o : CmpOp} {op : Op} (h : cmpL o = some op) : OpR X (compareOp o) (rI0 fun i j => .bl (cmpI op i j)) := by
  cases o <;> first | cases h; done | skip
  all_goals (cases h)
  all_goals first | exact op_lt | exact op_le | exact op_gt | exact op_ge
theorem chain_re {o1 o2 : Op} {x y z : E} {σ : L2.St} {H : Hp} {Q : VK} (h : RE g (.chain o1 o2 x y z) σ H Q) : tChain (rI0 fun i j => .bl (cmpI o1 i j)) (rI0 fun i j => .bl (cmpI o2 i j)) (RE g x) (RE g y) (RE g z) σ H Q :=
  h.chain.mono fun v H1 q => q.mono fun u H2 ⟨i, j, e1, e2, q⟩ => ⟨i, j, e1, e2, _, rfl, by
    by_cases hc : cmpI o1 i j = true
    · rw [if_pos hc] at q ⊢
      exact q.mono fun w H3 ⟨l, e3, q⟩ => ⟨j, l, e2, e3, q⟩
    · rw [if_neg hc] at q ⊢
      exact q⟩
theorem cCmp2_ok (ih : IHe F g) (ok : Ok X cc g) {a b c : Ex} {o1 o2 : CmpOp} {m : E} {p : Pos} (h : cCmp2 F cc a o1 o2 b c = some m) : PE X (.Compare a [o1, o2] [b, c] p) (RE g m) ∧ PT X (.Compare a [o1, o2] [b, c] p) (RT g m) := by
  unfold cCmp2 at h
  cases e1 : cmpL o1 with
  | none => rw [e1] at h; cases h
  | some p1 =>
    cases e2 : cmpL o2 with
    | none => rw [e1, e2] at h; cases h
    | some p2 =>
      cases h1 : F cc a with
      | none => rw [e1, e2, h1] at h; cases h
      | some x =>
        cases h2 : F cc b with
        | none => rw [e1, e2, h1, h2] at h; cases h
        | some y =>
          cases h3 : F cc c with
          | none => rw [e1, e2, h1, h2, h3] at h; cases h
          | some z =>
            rw [e1, e2, h1, h2, h3] at h
            cases h
            have pa := (ih X cc ok a x h1).1
            have pb := (ih X cc ok b y h2).1
            have pc := (ih X cc ok c z h3).1
            have hm : lastMarks [o1, o2] [b, c] = false := by
              show behindInMarks o2 c = false
              exact nomark c (fun e => by rw [e] at e2; cases e2) (fun e => by rw [e] at e2; cases e2)
            exact ⟨PE.of (pe_chain (cmpI_op e1) (cmpI_op e2) pa pb pc hm) fun σ H Q q => chain_re q, PT.of (pt_chain (cmpI_op e1) (cmpI_op e2) pa pb pc hm) fun σ H Q q => chain_re q.re⟩
end
end Ev
end
section
set_option linter.all false
set_option maxRecDepth 100000
namespace Ev
open PySem PySem.Spec PyProof.Rows L2
section
variable {X : Cx} {cc : CC} {g : Gh} {σ : L2.St} {H : Hp} {F : CC → Ex → Option E}

theorem boot_allF : bootBuiltins (Str.ofString "all") = some (.builtin "all") := by decide +kernel
theorem boot_anyF : bootBuiltins (Str.ofString "any") = some (.builtin "any") := by decide +kernel
theorem boot_lenF : bootBuiltins (Str.ofString "len") = some (.builtin "len") := by decide +kernel
theorem boot_absF : bootBuiltins (Str.ofString "abs") = some (.builtin "abs") := by decide +kernel
theorem boot_sumF : bootBuiltins (Str.ofString "sum") = some (.builtin "sum") := by decide +kernel
theorem boot_maxF : bootBuiltins (Str.ofString "max") = some (.builtin "max") := by decide +kernel
theorem boot_minF : bootBuiltins (Str.ofString "min") = some (.builtin "min") := by decide +kernel
theorem boot_sortedF : bootBuiltins (Str.ofString "sorted") = some (.builtin "sorted") := by decide +kernel
theorem boot_intF : bootBuiltins (Str.ofString "int") = some (.type "int") := by decide +kernel
theorem boot_listF : bootBuiltins (Str.ofString "list") = some (.type "list") := by decide +kernel
theorem boot_tupleF : bootBuiltins (Str.ofString "tuple") = some (.type "tuple") := by decide +kernel
theorem boot_isiF : bootBuiltins (Str.ofString "isinstance") = some (.builtin "isinstance") := by decide +kernel
theorem boot_boolF : bootBuiltins (Str.ofString "bool") = some (.type "bool") := by decide +kernel
theorem boot_strF : bootBuiltins (Str.ofString "str") = some (.type "str") := by decide +kernel
def BiR (X : Cx) (g : Gh) (x : Str) (o : Op) : Prop := (∃ id, bootBuiltins x = some (.builtin id) ∧ CallR X (.builtin id) (fun vs H Q => KO g o vs H Q)) ∨ ∃ T, bootBuiltins x = some (.type T) ∧ CallR X (.type T) (fun vs H Q => KO g o vs H Q)
theorem bi_call (ok : Ok X cc g) {b n : Nat} {y : String} {o : Op} (hy : biNames[b]? = some y) (h : biOp b n = some o) : BiR X g (Str.ofString y) o := by
  unfold biOp at h
  split at h <;> first | (cases h; done) | skip
  all_goals (cases h; cases hy)
  · exact .inl ⟨_, boot_lenF, ko_len ok.K⟩
  · exact .inl ⟨_, boot_absF, ko_abs⟩
  · exact .inr ⟨_, boot_intF, ko_int1⟩
  · exact .inl ⟨_, boot_sumF, ko_sum ok.K ok.calm⟩
  · exact .inl ⟨_, boot_maxF, ko_max2 ok.calm⟩
  · exact .inl ⟨_, boot_minF, ko_min2 ok.calm⟩
  · exact .inl ⟨_, boot_sortedF, ko_sorted ok.K ok.room⟩
  · exact .inr ⟨_, boot_listF, ko_list ok.K⟩
  · exact .inr ⟨_, boot_tupleF, ko_tuple ok.K⟩
  · exact .inl ⟨_, boot_allF, ko_all ok.K ok.calm⟩
  · exact .inl ⟨_, boot_anyF, ko_any ok.K ok.calm⟩
  · exact .inl ⟨_, boot_maxF, ko_max1 ok.K ok.calm ok.room⟩
  · exact .inl ⟨_, boot_minF, ko_min1 ok.K ok.calm ok.room⟩
theorem pe_bi {x : Str} {o : Op} {e : Expr} {es : List Expr} {a : E} {p pos : Pos} (hb : BiR X g x o) (hg : Gl X x) (hm : X.mg x = none) (hp : plainN x = true) (ha : PA X (e :: es) (RA g a)) (hn : ∀ z ∈ e :: es, noStar z = true) :
    PE X (.Call (.Name x p) (e :: es) [] pos) (RE g (.op o a)) := by
  obtain ⟨p1, p2, p3⟩ := plainN_ok hp
  have h1 := star1 (es := es) (env := X.env) (hn e List.mem_cons_self)
  have h2 := plain_back (env := X.env) (pos := pos) fun z hz => hn z (List.mem_cons_of_mem _ hz)
  rcases hb with ⟨id, hv, hc⟩ | ⟨T, hv, hc⟩
  · exact PE.of (pe_callB hc hg hm hv ha p3 p1 h1 h2) fun σ H Q q => q.opN
  · exact PE.of (pe_callTy hc hg hm hv ha p3 p1 h1 h2) fun σ H Q q => q.opN

theorem pe_tyN {x : Str} {t : Nat} {p : Pos} (ok : Ok X cc g) (h : tyOf cc x = some t) : t < 5 ∧ PE X (.Name x p) (tC (.ty (tyName t))) := by
  unfold tyOf at h
  cases q : cc.glob x with
  | none => rw [q] at h; cases h
  | some v =>
    rw [q] at h
    cases v with
    | bi b =>
      obtain ⟨hg, ⟨hm, y, hy, rfl⟩, hp⟩ := glob_ok ok q
      obtain ⟨p1, p2, p3⟩ := plainN_ok hp
      have h : tyNo (Str.ofString y) = some t := h
      unfold tyNo at h
      have key : ∀ (s : String) (n : Nat), (Str.ofString y == Str.ofString s) = true → bootBuiltins (Str.ofString s) = some (.type (tyName n)) → n < 5 → n < 5 ∧ PE X (.Name (Str.ofString y) p) (tC (.ty (tyName n))) := fun s n e hv hl =>
        ⟨hl, pe_bltn hg hm (by rw [LawfulBEq.eq_of_beq e]; exact hv) rfl p3 p1⟩
      split at h
      · rename_i e; cases h; exact key "int" 0 e boot_intF (by decide)
      · split at h
        · rename_i e; cases h; exact key "bool" 1 e boot_boolF (by decide)
        · split at h
          · rename_i e; cases h; exact key "str" 2 e boot_strF (by decide)
          · split at h
            · rename_i e; cases h; exact key "list" 3 e boot_listF (by decide)
            · split at h
              · rename_i e; cases h; exact key "tuple" 4 e boot_tupleF (by decide)
              · cases h
    | _ => cases h
def tTys : List Nat → TA
  | [] => tNil
  | t :: ts => tCons (tC (.ty (tyName t))) (tTys ts)
theorem pa_tys (ok : Ok X cc g) : ∀ {es : List Ex} {ts : List Nat}, cNames (tyOf cc) es = some ts → (∀ t ∈ ts, t < 5) ∧ (∀ e ∈ es, noStar e = true) ∧ PA X es (tTys ts)
  | [], ts, h => by cases h; exact ⟨by simp, by simp, pa_nil⟩
  | e :: es, ts, h => by
    cases e with
    | Name x p =>
      have h : (match tyOf cc x, cNames (tyOf cc) es with | some i, some l => some (i :: l) | _, _ => none) = some ts := h
      cases q1 : tyOf cc x with
      | none => rw [q1] at h; cases h
      | some t =>
        rw [q1] at h
        cases q2 : cNames (tyOf cc) es with
        | none => rw [q2] at h; cases h
        | some l =>
          rw [q2] at h
          cases h
          obtain ⟨h1, h2⟩ := pe_tyN (p := p) ok q1
          obtain ⟨h3, h4, h5⟩ := pa_tys ok q2
          refine ⟨fun t ht => ?_, fun e he => ?_, pa_cons h2 h5 rfl⟩
          · rcases List.mem_cons.mp ht with rfl | ht
            · exact h1
            · exact h3 t ht
          · rcases List.mem_cons.mp he with rfl | he
            · rfl
            · exact h4 e he
    | _ => cases h
theorem tTys_run {σ : L2.St} {H : Hp} : ∀ {ts : List Nat} {Q : List V → Hp → Prop}, Q (ts.map fun t => .ty (tyName t)) H → tTys ts σ H Q
  | [], _, q => q
  | t :: ts, Q, q => tTys_run (ts := ts) (Q := fun xs H => Q (.ty (tyName t) :: xs) H) q
theorem cTypes_ok (ok : Ok X cc g) {a t : Ex} {x : E} {ts : List Nat} {p pos : Pos} {f : Str} (hf : f = Str.ofString "isinstance") (hg : Gl X f) (hm : X.mg f = none) (hp : plainN f = true) (ha : PE X a (RE g x)) (hn : noStar a = true) (h : cTypes cc t = some ts) :
    PE X (.Call (.Name f p) [a, t] [] pos) (RE g (.op (.isi ts) (.cons x .nil))) := by
  obtain ⟨p1, p2, p3⟩ := plainN_ok hp
  subst hf
  cases t with
  | Name y py =>
    have h : (tyOf cc y).map (fun n => [n]) = some ts := h
    cases q1 : tyOf cc y with
    | none => rw [q1] at h; cases h
    | some n =>
      rw [q1] at h
      cases h
      obtain ⟨hl, ht⟩ := pe_tyN (p := py) ok q1
      refine PE.of (pe_callB (call_isi (X := X)) hg hm boot_isiF (pa_cons ha (pa_cons ht pa_nil rfl) (star1 hn)) p3 p1 (star1 hn) rfl) fun σ H Q q => ?_
      rw [ok.K]
      exact q.op1.mono fun v H1 q => ko_isi1 hl q
  | Tuple es k pt =>
    have h : (if es.length ≤ 10 then cNames (tyOf cc) es else none) = some ts := h
    have h10 : es.length ≤ 10 := by
      by_cases z : es.length ≤ 10
      · exact z
      · rw [if_neg z] at h; cases h
    rw [if_pos h10] at h
    obtain ⟨h1, h2, h3⟩ := pa_tys ok h
    refine PE.of (pe_callB (call_isiT (X := X)) hg hm boot_isiF (pa_cons ha (pa_cons (pe_tup h3) pa_nil rfl) (star1 hn)) p3 p1 (star1 hn) rfl) fun σ H Q q => ?_
    rw [ok.K]
    refine q.op1.mono fun v H1 q => tTys_run ⟨?_, fun pp hpp => ko_isiT h1 q hpp⟩
    rw [List.length_map]
    have hl : ∀ {es : List Ex} {ts : List Nat}, cNames (tyOf cc) es = some ts → ts.length = es.length := fun {es} => by
      induction es with
      | nil => intro ts h; cases h; rfl
      | cons e es ih =>
        intro ts h
        cases e with
        | Name z pz =>
          have h : (match tyOf cc z, cNames (tyOf cc) es with | some i, some l => some (i :: l) | _, _ => none) = some ts := h
          cases q1 : tyOf cc z with
          | none => rw [q1] at h; cases h
          | some t =>
            rw [q1] at h
            cases q2 : cNames (tyOf cc) es with
            | none => rw [q2] at h; cases h
            | some l => rw [q2] at h; cases h; rw [List.length_cons, List.length_cons, ih q2]
        | _ => cases h
    rw [hl h, sizeLine_eq]
    omega
  | _ => cases h

theorem rgV_upto (a b : Int) : rgV a b = (upto a (b - a).toNat).map V.int := by
  unfold rgV
  apply List.ext_getElem?
  intro i
  rw [List.getElem?_map, List.getElem?_map]
  by_cases hi : i < (b - a).toNat
  · rw [upto_get _ a i hi, List.getElem?_range hi]
    rfl
  · rw [List.getElem?_eq_none (by rw [List.length_range]; omega), List.getElem?_eq_none (by rw [upto_len]; omega)]
    rfl
theorem upto_dg {G : Hp} (a b : Int) : DgAll g.fa g.K G (rgV a b) ((upto a (b - a).toNat).map D.int) := by
  rw [rgV_upto]
  exact DgAll.ofInts _
theorem ko_lrg1 {v : V} {Q : VK} (h : KO g .lrg1 [v] H Q) : ∃ n, v = .int n ∧ RgOk 0 n ∧ ∀ q, H q = none → Q (.ref q) (upd H q (.lst (rgV 0 n))) := by
  obtain ⟨G, ds, d, sp, vw, e, q⟩ := h
  obtain ⟨dx, rfl, e'⟩ := opSem1 (fun _ _ => rfl) (fun _ _ _ => rfl) e
  replace e := e'
  clear e'
  obtain ⟨x, ex, wx⟩ := vws1 vw
  cases ex
  cases dx <;> first | exact noS e | skip
  rename_i n
  have e : (if (leN n 10000000 && rngOk n) = true then some (D.lst ((upto 0 n.toNat).map D.int)) else none) = some d := e
  by_cases hc : (leN n 10000000 && rngOk n) = true
  · rw [if_pos hc] at e
    cases e
    simp only [Bool.and_eq_true, leN_iff, rngOk_iff] at hc
    refine ⟨n, wx.int, ⟨by omega, by omega, by omega, by omega, by omega⟩, fun p hp => KO.newL q sp rfl ?_ hp⟩
    have := upto_dg (g := g) (G := G) 0 n
    rw [Int.sub_zero] at this
    exact this
  · rw [if_neg hc] at e; cases e
theorem ko_lrg2 {v u : V} {Q : VK} (h : KO g .lrg2 [v, u] H Q) : ∃ a b, v = .int a ∧ u = .int b ∧ RgOk a b ∧ ∀ q, H q = none → Q (.ref q) (upd H q (.lst (rgV a b))) := by
  obtain ⟨G, ds, d, sp, vw, e, q⟩ := h
  obtain ⟨dx, dy, rfl, e'⟩ := opSem2 (fun _ => rfl) (fun _ _ _ => rfl) e
  replace e := e'
  clear e'
  obtain ⟨x, y, ex, wx, wy⟩ := vws2 vw
  cases ex
  cases dx <;> cases dy <;> first | exact noS e | skip
  rename_i a b
  have e : (if (leN (b - a) 10000000 && rngOk a && rngOk b) = true then some (D.lst ((upto a (b - a).toNat).map D.int)) else none) = some d := e
  by_cases hc : (leN (b - a) 10000000 && rngOk a && rngOk b) = true
  · rw [if_pos hc] at e
    cases e
    simp only [Bool.and_eq_true, leN_iff, rngOk_iff] at hc
    exact ⟨a, b, wx.int, wy.int, ⟨by omega, by omega, by omega, by omega, by omega⟩, fun p hp => KO.newL q sp rfl (upto_dg a b) hp⟩
  · rw [if_neg hc] at e; cases e
theorem isRange_ok (ok : Ok X cc g) {a : Ex} {xs : List Ex} (h : isRange cc a = some xs) : ∃ p pos, a = .Call (.Name "range" p) xs [] pos ∧ Gl X "range" ∧ X.mg "range" = none := by
  unfold isRange at h
  split at h
  · rename_i s p ys pos
    cases q : cc.glob s with
    | none => rw [q] at h; cases h
    | some v =>
      rw [q] at h
      split at h
      · rename_i e
        cases e
        cases h
        obtain ⟨hg, ⟨hm, y, hy, rfl⟩, hp⟩ := glob_ok ok q
        cases hy
        exact ⟨p, pos, rfl, hg, hm⟩
      · cases h
  · cases h
theorem cBi0_ok (ih : IHe F g) (ok : Ok X cc g) {f : Str} {b : Nat} {y : String} {a : Ex} {m : E} {p pos : Pos} (hg : Gl X f) (hm : X.mg f = none) (hp : plainN f = true) (hy : biNames[b]? = some y) (hf : f = Str.ofString y) (h : cBi0 F cc b a = some m) : PE X (.Call (.Name f p) [a] [] pos) (RE g m) := by
  subst hf
  unfold cBi0 at h
  split at h
  · rename_i x hr
    cases hy
    obtain ⟨p2, pos2, rfl, rg, rm⟩ := isRange_ok ok hr
    obtain ⟨z, h1, rfl⟩ := cUn_some h
    have hx := (ih X cc ok x z h1).1
    have hn := (ih X cc ok x z h1).2.2.1
    exact PE.of (pe_listRg ok.calm hg hm (prg_1 rg rm hx (star1 hn)) rfl) fun σ H Q q => q.op1.mono fun v H1 q => by
      obtain ⟨n, e, r, q⟩ := ko_lrg1 q
      exact ⟨n, e, r, q⟩
  · rename_i x z hr
    cases hy
    obtain ⟨p2, pos2, rfl, rg, rm⟩ := isRange_ok ok hr
    obtain ⟨u, w, h1, h2, rfl⟩ := cBin_some h
    have hx := (ih X cc ok x u h1).1
    have hz := (ih X cc ok z w h2).1
    have hn := (ih X cc ok x u h1).2.2.1
    have hn2 := (ih X cc ok z w h2).2.2.1
    exact PE.of (pe_listRg ok.calm hg hm (prg_2 rg rm hx hz (star1 hn) (star1 hn2) (plain_back (by simp [hn2]))) rfl) fun σ H Q q => q.op2.mono fun v H1 q => q.mono fun u H2 q => by
      obtain ⟨i, j, e1, e2, r, q⟩ := ko_lrg2 q
      exact ⟨i, j, e1, e2, r, q⟩
  · cases h
  · cases h
  · cases q : biOp _ 1 with
    | none => rw [q] at h; cases h
    | some o =>
      rw [q] at h
      obtain ⟨z, h1, rfl⟩ := cUn_some h
      have hn := (ih X cc ok a z h1).2.2.1
      exact pe_bi (bi_call ok hy q) hg hm hp (PA.of (pa_cons (ih X cc ok a z h1).1 pa_nil (star1 hn)) fun σ H Q q => (RA.cons q).mono fun _ _ q => q.nil) (by simp [hn])
theorem isSetC_ok (ok : Ok X cc g) {a x : Ex} (h : isSetC cc a = some x) : ∃ p pos, a = .Call (.Name "set" p) [x] [] pos ∧ Gl X "set" ∧ X.mg "set" = none := by
  unfold isSetC at h
  split at h
  · rename_i s p ys pos
    cases q : cc.glob s with
    | none => rw [q] at h; cases h
    | some v =>
      rw [q] at h
      split at h
      · rename_i e
        cases e
        cases h
        obtain ⟨hg, ⟨hm, y, hy, rfl⟩, hp⟩ := glob_ok ok q
        cases hy
        exact ⟨p, pos, rfl, hg, hm⟩
      · cases h
  · cases h
theorem cBi1_ok (ih : IHe F g) (ok : Ok X cc g) {f : Str} {b : Nat} {y : String} {a : Ex} {m : E} {p pos : Pos} (hg : Gl X f) (hm : X.mg f = none) (hp : plainN f = true) (hy : biNames[b]? = some y) (hf : f = Str.ofString y) (h : cBi1 F cc b a = some m) : PE X (.Call (.Name f p) [a] [] pos) (RE g m) := by
  unfold cBi1 at h
  cases q : isSetC cc a with
  | none => rw [q] at h; exact cBi0_ok ih ok hg hm hp hy hf h
  | some x =>
    rw [q] at h
    replace h : (if b = 7 then cUn F cc .sset x else if b = 0 then cUn F cc .nset x else none) = some m := h
    obtain ⟨p2, pos2, rfl, sg, sm⟩ := isSetC_ok ok q
    obtain ⟨n1, _, n3⟩ := plainN_ok hp
    by_cases hb : b = 7
    · rw [if_pos hb] at h
      subst hb
      cases hy
      obtain ⟨z, h1, rfl⟩ := cUn_some h
      obtain ⟨px, _, hn, _⟩ := ih X cc ok x z h1
      exact pe_setD (.inl ⟨rfl, hf, rfl⟩) ok.K ok.room hg hm sg sm px ok.calm n1 n3 (star1 hn)
    · rw [if_neg hb] at h
      by_cases hb : b = 0
      · rw [if_pos hb] at h
        subst hb
        cases hy
        obtain ⟨z, h1, rfl⟩ := cUn_some h
        obtain ⟨px, _, hn, _⟩ := ih X cc ok x z h1
        exact pe_setD (.inr ⟨rfl, hf, rfl⟩) ok.K ok.room hg hm sg sm px ok.calm n1 n3 (star1 hn)
      · rw [if_neg hb] at h; cases h
end
end Ev
end
section
set_option linter.all false
set_option maxRecDepth 100000
namespace Ev
open PySem PySem.Spec PyProof.Rows L2
section
variable {X : Cx} {cc : CC} {g : Gh} {σ : L2.St} {H : Hp} {F : CC → Ex → Option E}

theorem cCallB_ok (ih : IHe F g) (ok : Ok X cc g) {f : Str} {b : Nat} {args : List Ex} {m : E} {p pos : Pos} (hq : cc.glob f = some (.bi b)) (h : cCallB F cc b args = some m) : PE X (.Call (.Name f p) args [] pos) (RE g m) := by
  obtain ⟨hg, ⟨hm, y, hy, hf⟩, hp⟩ := glob_ok ok hq
  match args, h with
  | [], h => cases h
  | [a], h => exact cBi1_ok ih ok hg hm hp hy hf h
  | _ :: _ :: _ :: _, h => cases h
  | [a, t], h =>
    have h0 : (if b = 16 then (match F cc a, cTypes cc t with
      | some x, some ts => some (E.op (.isi ts) (.cons x .nil))
      | _, _ => none) else match biOp b 2 with
      | some o => cBin F cc o a t
      | none => none) = some m := h
    by_cases hb : b = 16
    · rw [if_pos hb] at h0
      subst hb
      cases hy
      cases h1 : F cc a with
      | none => rw [h1] at h0; cases h0
      | some x =>
        rw [h1] at h0
        cases h2 : cTypes cc t with
        | none => rw [h2] at h0; cases h0
        | some ts =>
          rw [h2] at h0
          cases h0
          obtain ⟨pa, _, hn, _⟩ := ih X cc ok a x h1
          exact cTypes_ok ok hf hg hm hp pa hn h2
    · rw [if_neg hb] at h0
      cases q : biOp b 2 with
      | none => rw [q] at h0; cases h0
      | some o =>
        rw [q] at h0
        obtain ⟨x, z, h1, h2, rfl⟩ := cBin_some h0
        obtain ⟨pa, _, hn, _⟩ := ih X cc ok a x h1
        obtain ⟨pb, _, hn2, _⟩ := ih X cc ok t z h2
        subst hf
        exact pe_bi (bi_call ok hy q) hg hm hp (PA.of (pa_cons pa (pa_cons pb pa_nil (star1 hn2)) (star1 hn)) fun σ H Q q => (RA.cons q).mono fun _ _ q => (RA.cons q).mono fun _ _ q => q.nil) (by simp [hn, hn2])
theorem spN_wish {fa : Nat → Addr} {K : PySem.W.Frag} {ex : Nat → List D → Value → Option Addr → Hp → Prop} {ev : List D → CR} {vs : List V} {Q : VK} {E E' : XK} (h : spN fa K ex ev vs H Q E) (k : ∀ c d H, E c d H → E' c d H) : spN fa K ex ev vs H Q E' := by
  obtain ⟨G, ds, s, dd, h⟩ := h
  refine ⟨G, ds, s, dd, ?_⟩
  cases q : ev ds with
  | ok d fr io => rw [q] at h; exact h
  | exc k' a io => rw [q] at h; exact fun cls d H' G' x y => k _ _ _ (h cls d H' G' x y)
  | stuck => rw [q] at h; exact h
theorem spI_wish {fa : Nat → Addr} {K : PySem.W.Frag} {ex : Nat → List D → Value → Option Addr → Hp → Prop} {ev : List D → CR} {vs : List V} {Q : VK} {E E' : XK} (h : spI fa K ex ev vs H Q E) (k : ∀ c d H, E c d H → E' c d H) : spI fa K ex ev vs H Q E' := by
  obtain ⟨G, a, ws, us, xs, ds, e, s, h1, h2, h3, dd, h⟩ := h
  refine ⟨G, a, ws, us, xs, ds, e, s, h1, h2, h3, dd, ?_⟩
  cases q : ev (.lst xs :: ds) with
  | ok d fr io => rw [q] at h; exact h
  | exc k' x io => rw [q] at h; exact fun cls d H' G' ws' y z w u => k _ _ _ (h cls d H' G' ws' y z w u)
  | stuck => rw [q] at h; exact h
theorem passF : Passes (L2.CX X.prog X.w) X (fun _ _ _ => False) := fun pins σ H s e s' I ⟨_, _, _, _, _, _, _, _, _, _, _, _, h⟩ => h.elim
theorem cCallN_ok (ih : IHe F g) (ok : Ok X cc g) {f : Str} {args : List Ex} {m : E} {p pos : Pos} (h : cCallN F cc f args = some m) : PE X (.Call (.Name f p) args [] pos) (RE g m) := by
  unfold cCallN at h
  cases q : cc.glob f with
  | none => rw [q] at h; cases h
  | some v =>
    rw [q] at h
    cases v with
    | bi b => exact cCallB_ok ih ok q h
    | cst d => cases h
    | exc k => cases h
    | fn k =>
      obtain ⟨hg, ⟨hm, hk, fd, ps, n, FO, room, bind⟩, hp⟩ := glob_ok ok q
      obtain ⟨p1, p2, p3⟩ := plainN_ok hp
      have h : (if cc.ioF k = true then cIo F cc k args else (cEs F cc args).map fun a => E.call k a) = some m := h
      by_cases hi : cc.ioF k = true
      · rw [if_pos hi] at h
        have hi' : g.C.io k = true := by rw [← ok.io]; exact hi
        have sp : spF g k = spI g.fa g.K g.ex (g.C.call k) := by unfold spF; rw [if_pos hi']
        rw [sp] at FO
        match args, h with
        | [], h => cases h
        | a :: rest, h =>
          obtain ⟨x, px, rfl⟩ : ∃ x px, a = .Name x px := by
            cases a <;> first | exact ⟨_, _, rfl⟩ | cases h
          replace h : (match cc.slot x, cEs F cc rest with | some i, some a => some (E.io k i a) | _, _ => none) = some m := h
          cases q1 : cc.slot x with
          | none => rw [q1] at h; cases h
          | some i =>
            rw [q1] at h
            cases q2 : cEs F cc rest with
            | none => rw [q2] at h; cases h
            | some a =>
              rw [q2] at h
              cases h
              have pl := cEs_plain q2
              refine PE.of (pe_call (E := fun _ _ _ => False) FO room hg hm hk bind .nil passF (pa_cons (pe_slot ok q1) (pa_ok ih ok q2) rfl) p1 rfl (plain_back pl)) fun σ H Q r => ?_
              obtain ⟨v, h1, h2⟩ := r.ioc
              exact ⟨v, h1, h2.mono fun vs H1 ⟨_, q⟩ => by
                show spI g.fa g.K g.ex (g.C.call k) ((v :: vs) ++ []) H1 Q fun _ _ _ => False
                rw [List.append_nil]
                exact spI_wish q fun c d H' z => ok.wno _ _ _ _ z⟩
      · rw [if_neg hi] at h
        have hi' : ¬ g.C.io k = true := by rw [← ok.io]; exact hi
        have sp : spF g k = spN g.fa g.K g.ex (g.C.call k) := by unfold spF; rw [if_neg hi']
        rw [sp] at FO
        cases q2 : cEs F cc args with
        | none => rw [q2] at h; cases h
        | some a =>
          rw [q2] at h
          cases h
          have pl := cEs_plain q2
          match args, q2, pl with
          | [], q2, _ =>
            cases q2
            refine PE.of (pe_call0 (E := fun _ _ _ => False) FO room hg hm hk bind .nil passF p1) fun σ H Q r => ?_
            exact spN_wish (r.call.nil).2 fun c d H' z => ok.wno _ _ _ _ z
          | e :: es, q2, pl =>
            refine PE.of (pe_call (E := fun _ _ _ => False) FO room hg hm hk bind .nil passF (pa_ok ih ok q2) p1 (star1 (pl e List.mem_cons_self)) (plain_back fun z hz => pl z (List.mem_cons_of_mem _ hz))) fun σ H Q r => ?_
            exact r.call.mono fun vs H1 ⟨_, q⟩ => by
              rw [List.append_nil]
              exact spN_wish q fun c d H' z => ok.wno _ _ _ _ z

theorem base_ok {o : Expr} {m : Str} {env : PySem.Env} {w : Sem Value} (h : noSup o = true) : attributeBase o m env w = w := by
  unfold attributeBase
  split
  · cases h
  · rfl
theorem mt_ty {k : Nat} {o : Op} {d : D} (h : mtOk o d = true) (hk : kindD d = k) : (o = .index ∧ k = 3) ∨ (o = .index ∧ k = 4) ∨ (o = .count ∧ k = 3) ∨ (o = .count ∧ k = 4) ∨ (o = .split ∧ k = 2) ∨ (o = .join ∧ k = 2) := by
  unfold mtOk at h
  rw [hk] at h
  split at h <;> first | simp | cases h
theorem cPop_ok (ih : IHe F g) (ok : Ok X cc g) {o : Ex} {args : List Ex} {m : E} {ap cp : Pos} (hl : (ap.endLine == cp.line) = true) (h : cPop F cc o args = some m) : PE X (.Call (.Attribute o (Str.ofString "pop") ap) args [] cp) (RE g m) := by
  unfold cPop at h
  split at h
  · rename_i x px a
    cases q : cc.slot x with
    | none => rw [q] at h; cases h
    | some i =>
      rw [q] at h
      cases q2 : F cc a with
      | none => rw [q2] at h; cases h
      | some y =>
        rw [q2] at h
        have h : (if noStar a = true then some (E.pop i y) else none) = some m := h
        by_cases hn : noStar a = true
        · rw [if_pos hn] at h
          cases h
          have pa := (ih X cc ok a y q2).1
          have pl : ∀ e ∈ [a], noStar e = true := by simp [hn]
          refine PE.of (pe_bm PySem.F.plainAttrs_list PySem.F.slot_list_pop rfl mt_popAt (pe_slot ok q) (pa_cons pa pa_nil (star1 hn)) rfl (by
            rw [plain_all pl]
            rfl) hl (star1 hn) rfl) fun σ H Q r => ?_
          obtain ⟨v, e1, e2, e3⟩ := r.pop
          exact ⟨v, e1, by rw [ok.K]; exact e2, e3⟩
        · rw [if_neg hn] at h; cases h
  · cases h
theorem cMeth_ok (ih : IHe F g) (ok : Ok X cc g) {o : Ex} {nm : Str} {args : List Ex} {m : E} {ap cp : Pos} (h : cMeth F cc o nm args (ap.endLine == cp.line) = some m) : PE X (.Call (.Attribute o nm ap) args [] cp) (RE g m) := by
  unfold cMeth at h
  by_cases hpop : (nm == ("pop" : Str)) = true
  · rw [if_pos hpop] at h
    obtain rfl := LawfulBEq.eq_of_beq hpop
    by_cases hl : (ap.endLine == cp.line) = true
    · rw [if_pos hl] at h
      exact cPop_ok ih ok hl h
    · rw [if_neg hl] at h; cases h
  rw [if_neg hpop] at h
  by_cases hc : (ap.endLine == cp.line) = true ∧ noSup o = true ∧ args.length < 20
  · rw [if_pos hc] at h
    obtain ⟨hline, hsup, hlen⟩ := hc
    cases q0 : mtOp nm args.length with
    | none => rw [q0] at h; cases h
    | some op =>
      rw [q0] at h
      cases q1 : F cc o with
      | none => rw [q1] at h; cases h
      | some x =>
        rw [q1] at h
        cases q2 : cEs F cc args with
        | none => rw [q2] at h; cases h
        | some a =>
          rw [q2] at h
          cases h
          have pl := cEs_plain q2
          have po := (ih X cc ok o x q1).1
          have pa := pa_ok ih ok q2
          have hnm : (op = .count ∧ nm = Str.ofString "count") ∨ (op = .index ∧ nm = Str.ofString "index") := by
            unfold mtOp at q0
            split at q0
            · rename_i e; cases q0; exact .inl ⟨rfl, LawfulBEq.eq_of_beq e.1⟩
            · split at q0
              · rename_i e; cases q0; exact .inr ⟨rfl, LawfulBEq.eq_of_beq e.1⟩
              · cases q0
          refine ⟨fun pins s σ H Q I hq => ?_⟩
          have hfew : ((backTo cp (starEach args X.env)).all (fun x => !x.1) && (backToKw cp (keywordEach [] X.env)).all (fun x => x.1.isSome)
              && decide (args.length + ([] : List Keyword).length + (if ([] : List Keyword).isEmpty then 0 else 1) < 30)) = true := by
            rw [plain_all pl]
            show (true && true && decide (args.length + 0 + 0 < 30)) = true
            simp only [Bool.and_self, Bool.true_and]
            exact decide_eq_true (by omega)
          refine wpAny_Call_method_late (base_ok hsup) hfew hline rfl (thn (po.run pins s σ H _ I hq.meth) fun v s1 ⟨vx, H1, I1, r1, k, ⟨G, d, sp, wd, hk, mk⟩, ra⟩ => ?_)
          have args_run : ∀ (id : String), MtR X id (KM g op k) → wpAny (model X.prog X.w) X.A (callWith cp (.builtin id) [v] (backTo cp (starEach args X.env)) []) (EP X pins σ Q) X.xe s1 := fun id hm => by
            have hA := pa.run cp pins s1 σ H1 _ I1 ra
            have hb := plain_back (env := X.env) (pos := cp) pl
            have hne : args ≠ [] := fun e => by
              rw [e] at q0
              unfold mtOp at q0
              split at q0
              · rename_i z; cases z.2
              · split at q0
                · rename_i z; cases z.2
                · cases q0
            obtain ⟨e0, es0, rfl⟩ : ∃ e0 es0, args = e0 :: es0 := by
              cases args with
              | nil => exact absurd rfl hne
              | cons a b => exact ⟨a, b, rfl⟩
            rw [star1 (pl e0 List.mem_cons_self)] at hA hb ⊢
            refine Calls.callWith_builtin hb (Calls.evalArgs_plain ?_)
            exact thn hA fun us s2 ⟨vs, H2, I2, r2, q2⟩ => hm pins s2 σ H2 vx vs v us Q I2 r1 r2 q2
          have lst_ty : k = 3 → s1.TypeIs v "list" ∧ ∀ a, v = .ref a → ∃ ob, s1.heap.get? a = some ob ∧ ob.dict = none := fun e => by
            obtain ⟨ds, rfl⟩ := kind3 (hk.trans e)
            obtain ⟨a, vs, rfl, h1, _⟩ := wd.lst sp
            exact tyV_is I1 r1 (.inl ⟨rfl, vs, .inl (.inl h1)⟩)
          have tup_ty : k = 4 → s1.TypeIs v "tuple" ∧ ∀ a, v = .ref a → ∃ ob, s1.heap.get? a = some ob ∧ ob.dict = none := fun e => by
            obtain ⟨ds, rfl⟩ := kind4 (hk.trans e)
            obtain ⟨a, vs, rfl, h1, _⟩ := wd.tup sp
            cases r1
            rw [← ok.K] at h1
            obtain ⟨ob, its, n, e1, e2, e3, _⟩ := tup_obj I1 h1
            exact ⟨⟨ob, e1, e2⟩, fun a e => by cases e; exact ⟨ob, e1, e3⟩⟩
          rcases mt_ty mk hk with ⟨rfl, e⟩ | ⟨rfl, e⟩ | ⟨rfl, e⟩ | ⟨rfl, e⟩ | ⟨rfl, e⟩ | ⟨rfl, e⟩
          · obtain ⟨t1, t2⟩ := lst_ty e
            obtain ⟨z, _⟩ | ⟨_, rfl⟩ := hnm
            · cases z
            · rw [e] at args_run
              exact ⟨"list", _, PySem.F.plainAttrs_list, PySem.F.slot_list_index, rfl, t1, t2, args_run _ (mt_index3 ok.K ok.room)⟩
          · obtain ⟨t1, t2⟩ := tup_ty e
            obtain ⟨z, _⟩ | ⟨_, rfl⟩ := hnm
            · cases z
            · rw [e] at args_run
              exact ⟨"tuple", _, PySem.F.plainAttrs_tuple, PySem.F.slot_tuple_index, rfl, t1, t2, args_run _ (mt_index4 ok.K ok.room)⟩
          · obtain ⟨t1, t2⟩ := lst_ty e
            obtain ⟨_, rfl⟩ | ⟨z, _⟩ := hnm
            · rw [e] at args_run
              exact ⟨"list", _, PySem.F.plainAttrs_list, PySem.F.slot_list_count, rfl, t1, t2, args_run _ (mt_count3 ok.K ok.room)⟩
            · cases z
          · obtain ⟨t1, t2⟩ := tup_ty e
            obtain ⟨_, rfl⟩ | ⟨z, _⟩ := hnm
            · rw [e] at args_run
              exact ⟨"tuple", _, PySem.F.plainAttrs_tuple, PySem.F.slot_tuple_count, rfl, t1, t2, args_run _ (mt_count4 ok.K ok.room)⟩
            · cases z
          · rcases hnm with ⟨z, _⟩ | ⟨z, _⟩ <;> cases z
          · rcases hnm with ⟨z, _⟩ | ⟨z, _⟩ <;> cases z
  · rw [if_neg hc] at h; cases h
end
end Ev
end
section
set_option linter.all false
set_option maxRecDepth 100000
namespace Ev
open PySem PySem.Spec PyProof.Rows L2
section
variable {X : Cx} {cc : CC} {g : Gh} {σ : L2.St} {H : Hp} {F : CC → Ex → Option E}

theorem cBool_some {o : BoolOp} {e e2 : Ex} {es : List Ex} {m : E} (h : cBool F cc o (e :: e2 :: es) = some m) : ∃ x a, F cc e = some x ∧ cBool F cc o (e2 :: es) = some a ∧ m = bMk o ((e2 :: es).any isLst) x a := by
  have h0 : (match F cc e, cBool F cc o (e2 :: es) with
    | some x, some a => some (bMk o ((e2 :: es).any isLst) x a)
    | _, _ => none) = some m := h
  cases q1 : F cc e with
  | none => rw [q1] at h0; cases h0
  | some x =>
    rw [q1] at h0
    cases q2 : cBool F cc o (e2 :: es) with
    | none => rw [q2] at h0; cases h0
    | some a => rw [q2] at h0; cases h0; exact ⟨x, a, rfl, rfl, rfl⟩
theorem cBool_ok (ih : IHe F g) (ok : Ok X cc g) {o : BoolOp} {p : Pos} : ∀ {es : List Ex} {m : E}, cBool F cc o es = some m → PE X (.BoolOp o es p) (RE g m) ∧ (tstOk.tstAll es = true → es.any isLst = false → PW X (.BoolOp o es p) (RT g m))
  | [], m, h => by cases h
  | [e], m, h => by
    have h : F cc e = some m := h
    obtain ⟨pe, pt, _⟩ := ih X cc ok e m h
    refine ⟨pe_one pe, fun ht _ => ?_⟩
    have ht : tstOk e = true := by
      have : (tstOk e && true) = true := ht
      simpa using this
    cases o with
    | And => exact pw_and1 (pt ht)
    | Or => exact pw_or1 (pt ht)
  | e :: e2 :: es, m, h => by
    obtain ⟨x, a, h1, h2, rfl⟩ := cBool_some h
    obtain ⟨pe, pt, _⟩ := ih X cc ok e x h1
    obtain ⟨pes, pws⟩ := cBool_ok ih ok (p := p) h2
    have tst : tstOk.tstAll (e :: e2 :: es) = true → tstOk e = true ∧ tstOk.tstAll (e2 :: es) = true := fun ht => by
      have ht : (tstOk e && tstOk.tstAll (e2 :: es)) = true := ht
      exact Bool.and_eq_true_iff.mp ht
    have nol : (e :: e2 :: es).any isLst = false → (e2 :: es).any isLst = false := fun hl => by
      rw [List.any_cons, Bool.or_eq_false_iff] at hl
      exact hl.2
    cases o with
    | And =>
      refine ⟨PE.of (pe_and pe pes) fun σ H Q q => q.and, fun ht hl => ?_⟩
      obtain ⟨t1, t2⟩ := tst ht
      exact PW.of (pw_and (pt t1) (pws t2 (nol hl))) fun σ H Q q => RT.and q
    | Or =>
      by_cases hl : (e2 :: es).any isLst = true
      · show PE X _ (RE g (if (e2 :: es).any isLst = true then .orL x a else .or x a)) ∧ _
        rw [if_pos hl]
        refine ⟨PE.of (pe_orT pe pes) fun σ H Q q => by rw [ok.K]; exact q.orL, fun _ hn => ?_⟩
        rw [nol hn] at hl
        cases hl
      · show PE X _ (RE g (if (e2 :: es).any isLst = true then .orL x a else .or x a)) ∧ (_ → _ → PW X _ (RT g (if (e2 :: es).any isLst = true then .orL x a else .or x a)))
        rw [if_neg hl]
        refine ⟨PE.of (pe_or pe pes) fun σ H Q q => q.or, fun ht hn => ?_⟩
        obtain ⟨t1, t2⟩ := tst ht
        exact PW.of (pw_or (pt t1) (pws t2 (nol hn))) fun σ H Q q => RT.or q

theorem resO_cut (a b : Bool) (d : D) : resO (.cut a b) d = resO .len d := by cases d <;> rfl
theorem ks_of1 {v : V} {Q : VK} (h : KO g (.cut false false) [v] H Q) : KS g none none v H Q := by
  obtain ⟨G, ds, d, sp, vw, e, q⟩ := h
  obtain ⟨dx, rfl, e'⟩ := opSem1 (fun _ _ => rfl) (fun _ _ _ => rfl) e
  obtain ⟨x, ex, wx⟩ := vws1 vw
  cases ex
  exact ⟨G, dx, d, sp, wx, e', fun w H' G' gr rv => q w H' G' gr (by rw [resO_cut]; exact rv)⟩
theorem ks_of2 {v u : V} {Q : VK} (h : KO g (.cut true false) [v, u] H Q) : ∃ i, u = .int i ∧ KS g (some i) none v H Q := by
  obtain ⟨G, ds, d, sp, vw, e, q⟩ := h
  obtain ⟨dx, dy, rfl, e'⟩ := opSem2 (fun _ => rfl) (fun _ _ _ => rfl) e
  obtain ⟨x, y, ex, wx, wy⟩ := vws2 vw
  cases ex
  replace e := e'
  clear e'
  cases dy <;> first | exact noS e | skip
  exact ⟨_, wy.int, G, dx, d, sp, wx, e, fun w H' G' gr rv => q w H' G' gr (by rw [resO_cut]; exact rv)⟩
theorem ks_of3 {v u : V} {Q : VK} (h : KO g (.cut false true) [v, u] H Q) : ∃ i, u = .int i ∧ KS g none (some i) v H Q := by
  obtain ⟨G, ds, d, sp, vw, e, q⟩ := h
  obtain ⟨dx, dy, rfl, e'⟩ := opSem2 (fun _ => rfl) (fun _ _ _ => rfl) e
  obtain ⟨x, y, ex, wx, wy⟩ := vws2 vw
  cases ex
  replace e := e'
  clear e'
  cases dy <;> first | exact noS e | skip
  exact ⟨_, wy.int, G, dx, d, sp, wx, e, fun w H' G' gr rv => q w H' G' gr (by rw [resO_cut]; exact rv)⟩
theorem rev_of {v : V} {Q : VK} (h : KO g .rev [v] H Q) : ∃ a xs, v = .ref a ∧ SqL g.K H a xs ∧ ∀ p, H p = none → Q (.ref p) (upd H p (.lst xs.reverse)) := by
  obtain ⟨G, ds, d, sp, vw, e, q⟩ := h
  obtain ⟨dx, rfl, e'⟩ := opSem1 (fun _ _ => rfl) (fun _ _ _ => rfl) e
  obtain ⟨x, ex, wx⟩ := vws1 vw
  cases ex
  replace e := e'
  clear e'
  cases dx <;> first | exact noS e | skip
  cases e
  obtain ⟨a, vs, rfl, h1, dd⟩ := wx.lstL sp
  exact ⟨a, vs, rfl, h1, fun p hp => KO.newL q sp rfl dd.reverse hp⟩
theorem cSlice_ok (ih : IHe F g) (ok : Ok X cc g) {v : Ex} {lo hi st : Option Ex} {m : E} {p p2 : Pos} (h : cSlice F cc v lo hi st = some m) : PE X (.Subscript v (.Slice lo hi st p2) p) (RE g m) := by
  unfold cSlice at h
  cases st with
  | some s =>
    have h0 : (if (isM1 s && lo.isNone && hi.isNone) = true then cUn F cc .rev v else none) = some m := h
    by_cases hc : (isM1 s && lo.isNone && hi.isNone) = true
    · rw [if_pos hc] at h0
      rw [Bool.and_eq_true, Bool.and_eq_true] at hc
      obtain ⟨⟨c1, c2⟩, c3⟩ := hc
      obtain rfl : lo = none := by cases lo <;> first | rfl | cases c2
      obtain rfl : hi = none := by cases hi <;> first | rfl | cases c3
      obtain ⟨x, h1, rfl⟩ := cUn_some h0
      have pv := (ih X cc ok v x h1).1
      unfold isM1 at c1
      split at c1
      · exact PE.of (pe_revL pv) fun σ H Q q => by
          rw [ok.K]
          exact q.op1.mono fun v H1 q => rev_of q
      · cases c1
    · rw [if_neg hc] at h0; cases h0
  | none =>
    cases lo with
    | none =>
      cases hi with
      | none =>
        obtain ⟨x, h1, rfl⟩ := cUn_some h
        have pv := (ih X cc ok v x h1).1
        exact PE.of (pe_slice (ks_slice ok.K) pv po_none po_none) fun σ H Q q => q.op1.mono fun v H1 q => ks_of1 q
      | some b =>
        obtain ⟨x, y, h1, h2, rfl⟩ := cBin_some h
        have pv := (ih X cc ok v x h1).1
        have pb := (ih X cc ok b y h2).1
        exact PE.of (pe_slice (ks_slice ok.K) pv po_none (po_some pb)) fun σ H Q q => q.op2.mono fun v H1 q => q.mono fun u H2 q => ks_of3 q
    | some a =>
      cases hi with
      | none =>
        obtain ⟨x, y, h1, h2, rfl⟩ := cBin_some h
        have pv := (ih X cc ok v x h1).1
        have pa := (ih X cc ok a y h2).1
        exact PE.of (pe_slice (ks_slice ok.K) pv (po_some pa) po_none) fun σ H Q q => q.op2.mono fun v H1 q => q.mono fun u H2 q => ks_of2 q
      | some b =>
        have h : (match F cc v, F cc a, F cc b with
          | some x, some a, some b => some (E.cut2 x a b)
          | _, _, _ => none) = some m := h
        cases q1 : F cc v with
        | none => rw [q1] at h; cases h
        | some x =>
          cases q2 : F cc a with
          | none => rw [q1, q2] at h; cases h
          | some y =>
            cases q3 : F cc b with
            | none => rw [q1, q2, q3] at h; cases h
            | some z =>
              rw [q1, q2, q3] at h
              cases h
              exact PE.of (pe_slice (ks_slice ok.K) (ih X cc ok v x q1).1 (po_some (ih X cc ok a y q2).1) (po_some (ih X cc ok b z q3).1)) fun σ H Q q => q.cut2
theorem cSub_ok (ih : IHe F g) (ok : Ok X cc g) {v i : Ex} {m : E} {p : Pos} (h : cSub F cc v i = some m) : PE X (.Subscript v i p) (RE g m) := by
  have gen : PlainIx i → cBin F cc .ix v i = some m → PE X (.Subscript v i p) (RE g m) := fun hp h => by
    obtain ⟨x, y, h1, h2, rfl⟩ := cBin_some h
    exact PE.of (pe_ix (ko_ix ok.K) (ih X cc ok v x h1).1 (ih X cc ok i y h2).1 hp) fun σ H Q q => op2_re q
  cases i with
  | Slice lo hi st p2 => exact cSlice_ok ih ok h
  | _ => exact gen (fun _ _ => rfl) h

theorem cNames_pgs (ok : Ok X cc g) : ∀ {es : List Ex} {is : List Nat}, cNames cc.dest es = some is → PGs X es (gNames is) ∧ (assignEach es X.env).length = is.length ∧ (assignEach es X.env).findIdx? (·.1) = none
  | [], is, h => by cases h; exact ⟨pgs_nil, rfl, rfl⟩
  | e :: es, is, h => by
    cases e with
    | Name x p =>
      have h : (match cc.dest x, cNames cc.dest es with | some i, some l => some (i :: l) | _, _ => none) = some is := h
      cases q1 : cc.dest x with
      | none => rw [q1] at h; cases h
      | some i =>
        rw [q1] at h
        cases q2 : cNames cc.dest es with
        | none => rw [q2] at h; cases h
        | some l =>
          rw [q2] at h
          cases h
          obtain ⟨h1, h2, h3⟩ := cNames_pgs ok q2
          obtain ⟨d1, d2, d3, _⟩ := dest_ok ok q1
          refine ⟨pgs_cons (pg_name ok.nd d1 d2 d3) h1 rfl, ?_, ?_⟩
          · show (assignEach es X.env).length + 1 = _
            rw [h2]; rfl
          · show ((false, assign (.Name x p) X.env) :: assignEach es X.env).findIdx? (·.1) = none
            rw [List.findIdx?_cons, h3]
            rfl
    | _ => cases h
theorem cTarget_ok (ok : Ok X cc g) {tg : Ex} {t : T} (h : cTarget cc tg = some t) : PG X tg (RG g t) := by
  cases tg with
  | Name x p =>
    have h : (cc.dest x).map T.nm = some t := h
    cases q : cc.dest x with
    | none => rw [q] at h; cases h
    | some i =>
      rw [q] at h
      cases h
      obtain ⟨d1, d2, d3, _⟩ := dest_ok ok q
      refine ⟨fun pins s σ H v u Q I r hq => ?_⟩
      obtain ⟨G, d, _, _, hq⟩ := hq
      exact (pg_name ok.nd d1 d2 d3).run pins s σ H v u Q I r hq
  | Tuple es k p =>
    have h : (cNames cc.dest es).map T.tu = some t := h
    cases q : cNames cc.dest es with
    | none => rw [q] at h; cases h
    | some is =>
      rw [q] at h
      cases h
      obtain ⟨h1, h2, h3⟩ := cNames_pgs ok q
      refine ⟨fun pins s σ H v u Q I r hq => ?_⟩
      obtain ⟨G, d, sp, hd, ds, hs, hl, hq⟩ := hq
      have tup : (∃ a vs, v = .ref a ∧ SqT g.K H a vs ∧ DgAll g.fa g.K G vs ds) → wpAny (model X.prog X.w) X.A (assign (.Tuple es k p) X.env u) (fun _ s' => ∃ σ' H', Inv X pins σ' H' s' ∧ Q σ' H') X.xe s := fun ⟨a, vs, e, k1, k2⟩ => by
        rw [← ok.K] at k1
        exact (pg_tup ok.calm h1 h2 h3).run pins s σ H v u Q I r ⟨a, vs, e, k1, by rw [k2.length, hl], gNames_ok (by rw [k2.length, hl]) (hq vs k2)⟩
      rcases hd with hd | ⟨a, vs, es', e, rfl, k1, k2⟩
      · cases hd with
        | tup k1 k2 => cases hs; exact tup ⟨_, _, rfl, sp.seqT k1.seqT, k2⟩
        | lst k1 k2 =>
          cases hs
          have k1' : SqL X.K H _ _ := .inl (.inl (sp.lst _ _ k1))
          exact (pg_lst ok.calm h1 h2 h3).run pins s σ H _ u Q I r ⟨_, _, rfl, k1', by rw [k2.length, hl], gNames_ok (by rw [k2.length, hl]) (hq _ k2)⟩
        | _ => cases hs
      · cases hs
        exact tup ⟨a, vs, e, sp.seqT k1, k2⟩
  | _ => cases h

theorem noSet_fold {it : Expr} {env : PySem.Env} {x : Value} (h : noSet it = true) : foldedSetIterable it env x = pure x := by
  cases it <;> first | rfl | cases h
theorem cI_ok (ih : IHe F g) (ok : Ok X cc g) {tg it : Ex} {k : IK} {m : E} (hk2 : (pairK k = true → ∃ es kk p, tg = .Tuple es kk p) ∧ (k = .zipS → ∃ x p, tg = .Name x p)) (h : cI F cc it = some (k, m)) : PI X tg it (RI g k m) ∧ noSet it = true := by
  obtain ⟨hk, hkz⟩ := hk2
  have gen : (F cc it).map (fun x => (IK.seq, E.cons x .nil)) = some (k, m) → PI X tg it (RI g k m) ∧ noSet it = true := fun h => by
    cases q : F cc it with
    | none => rw [q] at h; cases h
    | some x =>
      rw [q] at h
      cases h
      obtain ⟨pe, _, _, hs⟩ := ih X cc ok it x q
      exact ⟨pi_seq ok.K pe, hs⟩
  unfold cI at h
  split at h
  · rename_i f pf args pos
    unfold cIName at h
    cases q : cc.glob f with
    | none => rw [q] at h; exact gen h
    | some v =>
      rw [q] at h
      cases v with
      | bi b =>
        obtain ⟨hg, ⟨hm, y, hy, hf⟩, hp⟩ := glob_ok ok q
        have h0 : (if isIb b = true then cIb F cc b args else (F cc (.Call (.Name f pf) args [] pos)).map fun x => (IK.seq, E.cons x .nil)) = some (k, m) := h
        by_cases hi : isIb b = true
        · rw [if_pos hi] at h0
          match args, h0 with
          | [], h0 => cases h0
          | _ :: _ :: _ :: _, h0 => cases h0
          | [a], h0 =>
            have h1 : (if b = 12 then (cEs F cc [a]).map fun x => (IK.rg1, x) else if b = 13 then (cEs F cc [a]).map fun x => (IK.enum, x) else if b = 14 then cStar F cc a else none) = some (k, m) := h0
            by_cases hb : b = 12
            · rw [if_pos hb] at h1
              subst hb
              cases hy
              subst hf
              cases q2 : cEs F cc [a] with
              | none => rw [q2] at h1; cases h1
              | some x =>
                rw [q2] at h1
                cases h1
                have pl := cEs_plain q2
                exact ⟨pi_rg1 hg hm (pa_ok ih ok q2) (star1 (pl _ (by simp))), rfl⟩
            · rw [if_neg hb] at h1
              by_cases hb : b = 13
              · rw [if_pos hb] at h1
                subst hb
                cases hy
                subst hf
                cases q2 : cEs F cc [a] with
                | none => rw [q2] at h1; cases h1
                | some x =>
                  rw [q2] at h1
                  cases h1
                  have pl := cEs_plain q2
                  obtain ⟨es, kk, p, rfl⟩ := hk rfl
                  exact ⟨pi_en ok.K hg hm (pa_ok ih ok q2) (star1 (pl _ (by simp))), rfl⟩
              · rw [if_neg hb] at h1
                by_cases hb : b = 14
                · rw [if_pos hb] at h1
                  subst hb
                  cases hy
                  subst hf
                  cases a with
                  | Starred y p2 =>
                    have h1 : ((F cc y).map fun a => (IK.zipS, E.cons a .nil)) = some (k, m) := h1
                    cases q2 : F cc y with
                    | none => rw [q2] at h1; cases h1
                    | some x =>
                      rw [q2] at h1
                      cases h1
                      obtain ⟨z, tp, rfl⟩ := hkz rfl
                      exact ⟨pi_zs ok.K hg hm (ih X cc ok y x q2).1, rfl⟩
                  | _ => cases h1
                · rw [if_neg hb] at h1; cases h1
          | [a, b2], h0 =>
            have h1 : (if b = 12 then (cEs F cc [a, b2]).map fun x => (IK.rg2, x) else if b = 14 then (cEs F cc [a, b2]).map fun x => (IK.zip2, x) else none) = some (k, m) := h0
            by_cases hb : b = 12
            · rw [if_pos hb] at h1
              subst hb
              cases hy
              subst hf
              cases q2 : cEs F cc [a, b2] with
              | none => rw [q2] at h1; cases h1
              | some x =>
                rw [q2] at h1
                cases h1
                have pl := cEs_plain q2
                have s2 := star1 (es := []) (env := X.env) (pl b2 (by simp))
                exact ⟨pi_rg2 hg hm (pa_ok ih ok q2) (by rw [star1 (pl a (by simp)), s2]; rfl) s2, rfl⟩
            · rw [if_neg hb] at h1
              by_cases hb : b = 14
              · rw [if_pos hb] at h1
                subst hb
                cases hy
                subst hf
                cases q2 : cEs F cc [a, b2] with
                | none => rw [q2] at h1; cases h1
                | some x =>
                  rw [q2] at h1
                  cases h1
                  have pl := cEs_plain q2
                  obtain ⟨es, kk, p, rfl⟩ := hk rfl
                  exact ⟨pi_zp ok.K hg hm (pa_ok ih ok q2) (star1 (pl a (by simp))) (plain_back fun z hz => pl z (by simp at hz; simp [hz])), rfl⟩
              · rw [if_neg hb] at h1; cases h1
        · rw [if_neg hi] at h0
          exact gen h0
      | _ => exact gen h
  · exact gen h
end
end Ev
end
section
set_option linter.all false
set_option maxRecDepth 100000
namespace Ev
open PySem PySem.Spec PyProof.Rows L2
section
variable {X : Cx} {cc : CC} {g : Gh} {σ : L2.St} {H : Hp} {F : CC → Ex → Option E}

theorem rel_scope (ok : Ok X cc g) (scope : Scope) : relabel scope X.env = relScope scope cc.sc := by
  unfold relabel relScope PySem.Env.kindOf
  rw [ok.sc]
theorem blk_ok (ok : Ok X cc g) (scope : Scope) (s : Shared) (H : Hp) (C : Addr) (cl : List (Str × Addr)) (fp : List Addr) : Ok (X.blk s H scope (compEnvC scope cl C X.env) fp) (cc.blk scope) g :=
  ⟨ok.N, rel_scope ok scope, ok.K, ok.calm, ok.nd, fun x v h => by
    have := ok.gl x v h
    cases v with
    | fn k => exact this
    | cst d => exact this
    | bi b => exact this
    | exc k => exact this, ok.io, ok.room, ok.wno, fun x h => h⟩
theorem idxS_none {x : Str} {N : List Str} : ∀ {k : Nat}, idxS x N k = none → x ∉ N := by
  induction N with
  | nil => intro k _ h; cases h
  | cons y r ih =>
    intro k h hm
    unfold idxS at h
    by_cases hx : (x == y) = true
    · rw [if_pos hx] at h; cases h
    · rw [if_neg hx] at h
      rcases List.mem_cons.mp hm with rfl | hm
      · exact hx (by simp)
      · exact ih h hm
theorem blkOk (ok : Ok X cc g) {scope : Scope} (h : blkOkB cc scope = true) : BlkOk X.N X.env.scope scope (ownOf cc.N scope) := by
  unfold blkOkB at h
  simp only [Bool.and_eq_true] at h
  obtain ⟨⟨h1, h2⟩, _⟩ := h
  have hall := List.all_eq_true.mp h2
  refine ⟨LawfulBEq.eq_of_beq h1, fun y hy => ?_, fun p hp => ?_, fun y hy he => ?_, fun y hy he => ?_⟩
  · have := hall y hy
    simp only [Bool.and_eq_true] at this
    exact LawfulBEq.eq_of_beq this.1
  · obtain ⟨⟨n, k⟩, hy, e⟩ := List.mem_filterMap.mp hp
    have key : (idxS n cc.N 0).map (fun i => (n, i)) = some p → X.N[p.2]? = some p.1 := fun e => by
      cases q : idxS n cc.N 0 with
      | none => rw [q] at e; cases e
      | some i =>
        rw [q] at e
        cases e
        obtain ⟨j, e1, e2⟩ := lookN q
        rw [Nat.zero_add] at e1
        subst e1
        rw [ok.N]; exact e2
    cases k <;> first | exact key e | cases e
  · have := hall y hy
    simp only [Bool.and_eq_true] at this
    have h3 := this.2
    rw [he] at h3
    rw [ok.sc]
    rcases Bool.or_eq_true_iff.mp h3 with z | z
    · exact .inl (LawfulBEq.eq_of_beq z)
    · exact .inr (LawfulBEq.eq_of_beq z)
  · have hm : ∀ i, idxS y.1 cc.N 0 = some i → y.1 ∈ (ownOf cc.N scope).map (·.1) := fun i hi => by
      refine List.mem_map.mpr ⟨(y.1, i), List.mem_filterMap.mpr ⟨y, hy, ?_⟩, rfl⟩
      obtain ⟨n, k⟩ := y
      rcases he with he | he
      · have he : k = .local := he
        subst he
        show (idxS n cc.N 0).map (fun i => (n, i)) = _
        rw [hi]; rfl
      · have he : k = .cell := he
        subst he
        show (idxS n cc.N 0).map (fun i => (n, i)) = _
        rw [hi]; rfl
    cases q : idxS y.1 cc.N 0 with
    | some i => exact .inl (hm i q)
    | none => exact .inr (by rw [ok.N]; exact idxS_none q)
theorem RT.cstT {Q : Bool → Hp → Prop} (h : RT g (.cst (.bl true)) σ H Q) : Q true H := by
  obtain ⟨F, G, io, env, r0, p⟩ := h
  exact p H G r0 (.refl F G env)
theorem cT_some {e : Ex} {m : E} (h : cT F cc e = some m) : tstOk e = true ∧ F cc e = some m := by
  unfold cT at h
  by_cases ht : tstOk e = true
  · rw [if_pos ht] at h; exact ⟨ht, h⟩
  · rw [if_neg ht] at h; cases h
theorem cIfs_ok (ih : IHe F g) (ok : Ok X cc g) {ifs : List Ex} {m : E} (h : cIfs F cc ifs = some m) : PTs X ifs (RT g m) := by
  match ifs, h with
  | [], h => cases h; exact ⟨fun pins s σ H Q I hq => pts_nil.run pins s σ H Q I (RT.cstT hq)⟩
  | [e], h =>
    obtain ⟨ht, h1⟩ := cT_some h
    exact pts_one ((ih X cc ok e m h1).2.1 ht)
  | _ :: _ :: _, h => cases h
theorem tIn_ok {t : T} {own : List Nat} (h : tIn t own = true) : ∀ i ∈ tSl t, i ∈ own := by
  cases t with
  | nm i =>
    intro j hj
    have : j = i := by simpa [tSl] using hj
    subst this
    simpa [tIn] using h
  | tu is =>
    intro j hj
    have h : is.all own.contains = true := h
    have := List.all_eq_true.mp h j hj
    simpa using this
theorem cTarget_tu {tg : Ex} {k : IK} {t : T} (h : cTarget cc tg = some t) (hp : pairOk k t = true) : (pairK k = true → ∃ es kk p, tg = .Tuple es kk p) ∧ (k = .zipS → ∃ x p, tg = .Name x p) := by
  cases tg with
  | Tuple es kk p =>
    refine ⟨fun _ => ⟨es, kk, p, rfl⟩, fun e => ?_⟩
    have h : (cNames cc.dest es).map T.tu = some t := h
    cases q : cNames cc.dest es with
    | none => rw [q] at h; cases h
    | some l =>
      rw [q] at h
      cases h
      subst e
      simp [pairOk, isTu] at hp
  | Name x p =>
    refine ⟨fun hk => ?_, fun _ => ⟨x, p, rfl⟩⟩
    have h : (cc.dest x).map T.nm = some t := h
    cases q : cc.dest x with
    | none => rw [q] at h; cases h
    | some i =>
      rw [q] at h
      cases h
      simp [pairOk, hk, isTu] at hp
  | _ => cases h
structure Comp1 (F : CC → Ex → Option E) (cc : CC) (scope : Scope) (elt tg it : Ex) (ifs : List Ex) (m : E) where
  k : IK
  src : E
  t : T
  tst : E
  e : E
  blk : blkOkB cc scope = true
  hI : cI F cc it = some (k, src)
  hT : cTarget (cc.blk scope) tg = some t
  hC : cIfs F (cc.blk scope) ifs = some tst
  hE : F (cc.blk scope) elt = some e
  hi : tIn t ((ownOf cc.N scope).map (·.2)) = true
  hp : pairOk k t = true
  eq : m = .comp ((ownOf cc.N scope).map (·.2)) t k src tst e
theorem cComp1_some {scope : Scope} {elt tg it : Ex} {ifs : List Ex} {m : E} (h : cComp1 F cc scope elt tg it ifs = some m) : Nonempty (Comp1 F cc scope elt tg it ifs m) := by
  unfold cComp1 at h
  split at h
  · rename_i k src t tst e h1 h2 h3 h4 h5
    split at h
    · rename_i hc
      cases h
      exact ⟨⟨k, src, t, tst, e, h1, h2, h3, h4, h5, hc.1, hc.2, rfl⟩⟩
    · cases h
  · cases h
theorem comp1_ok (ih : IHe F g) (ok : Ok X cc g) {scope : Scope} {elt tg it : Ex} {ifs : List Ex} {m : E} {p : Pos} (c : Comp1 F cc scope elt tg it ifs m) : PE X (.ListComp elt [⟨tg, it, ifs, 0⟩] scope p) (RE g m) := by
  obtain ⟨k, src, t, tst, e, blk, hI, hT, hC, hE, hi, hp, rfl⟩ := c
  obtain ⟨pi, ns⟩ := cI_ok ih ok (tg := tg) (cTarget_tu hT hp) hI
  exact PE.of (pe_lc ok.calm ok.nd pi (blkOk ok blk) (fun s H C cl fp => cTarget_ok (blk_ok ok scope s H C cl fp) hT) (fun s H C cl fp => cIfs_ok ih (blk_ok ok scope s H C cl fp) hC)
    (fun s H C cl fp => (ih _ _ (blk_ok ok scope s H C cl fp) elt e hE).1) (fun x => noSet_fold ns)) fun σ H Q q => q.comp hp (tIn_ok hi)
structure Comp2 (F : CC → Ex → Option E) (cc : CC) (scope : Scope) (elt tg it : Ex) (ifs : List Ex) (tg1 it1 : Ex) (ifs1 : List Ex) (m : E) where
  k : IK
  src : E
  t : T
  tst : E
  k1 : IK
  src1 : E
  t1 : T
  tst1 : E
  e : E
  blk : blkOkB cc scope = true
  hI : cI F cc it = some (k, src)
  hT : cTarget (cc.blk scope) tg = some t
  hC : cIfs F (cc.blk scope) ifs = some tst
  hI1 : cI F (cc.blk scope) it1 = some (k1, src1)
  hT1 : cTarget (cc.blk scope) tg1 = some t1
  hC1 : cIfs F (cc.blk scope) ifs1 = some tst1
  hE : F (cc.blk scope) elt = some e
  hi : tIn t ((ownOf cc.N scope).map (·.2)) = true
  hi1 : tIn t1 ((ownOf cc.N scope).map (·.2)) = true
  hp : pairOk k t = true
  hp1 : pairOk k1 t1 = true
  eq : m = .comp2 ((ownOf cc.N scope).map (·.2)) (tSlots t1) t k src tst t1 k1 src1 tst1 e
theorem cComp2_some {scope : Scope} {elt tg it : Ex} {ifs : List Ex} {tg1 it1 : Ex} {ifs1 : List Ex} {m : E} (h : cComp2 F cc scope elt tg it ifs tg1 it1 ifs1 = some m) : Nonempty (Comp2 F cc scope elt tg it ifs tg1 it1 ifs1 m) := by
  unfold cComp2 at h
  split at h
  · rename_i k src t tst k1 src1 h1 h2 h3 h4 h5
    split at h
    · rename_i t1 tst1 e h6 h7 h8
      split at h
      · rename_i hc
        cases h
        exact ⟨⟨k, src, t, tst, k1, src1, t1, tst1, e, h1, h2, h3, h4, h5, h6, h7, h8, hc.1, hc.2.1, hc.2.2.1, hc.2.2.2, rfl⟩⟩
      · cases h
    · cases h
  · cases h
theorem comp2_hv {t1 : T} {own : List Nat} (h : tIn t1 own = true) : ∀ i ∈ tSlots t1, i ∈ own := by
  have e : tSlots t1 = tSl t1 := by cases t1 <;> rfl
  rw [e]
  exact tIn_ok h
theorem comp2_ok (ih : IHe F g) (ok : Ok X cc g) {scope : Scope} {elt tg it : Ex} {ifs : List Ex} {tg1 it1 : Ex} {ifs1 : List Ex} {m : E} {p : Pos} (c : Comp2 F cc scope elt tg it ifs tg1 it1 ifs1 m) : PE X (.ListComp elt [⟨tg, it, ifs, 0⟩, ⟨tg1, it1, ifs1, 0⟩] scope p) (RE g m) := by
  obtain ⟨k, src, t, tst, k1, src1, t1, tst1, e, blk, hI, hT, hC, hI1, hT1, hC1, hE, hi, hi1, hp, hp1, rfl⟩ := c
  obtain ⟨pi, ns⟩ := cI_ok ih ok (tg := tg) (cTarget_tu hT hp) hI
  have pi1 : ∀ (s : Shared) (H : Hp) (C : Addr) (cl : List (Str × Addr)) (fp : List Addr), PI (X.blk s H scope (compEnvC scope cl C X.env) fp) tg1 it1 (RI g k1 src1) ∧ noSet it1 = true := fun s H C cl fp =>
    cI_ok ih (blk_ok ok scope s H C cl fp) (tg := tg1) (cTarget_tu hT1 hp1) hI1
  refine ⟨fun pins s σ H Q I hq => ?_⟩
  have ns1 : noSet it1 = true := (pi1 s H 0 [] []).2
  refine PE.run ?_ pins s σ H Q I hq
  exact PE.of (pe_lc2 ok.calm ok.nd pi (blkOk ok blk) (comp2_hv hi1) (fun s H C cl fp => cTarget_ok (blk_ok ok scope s H C cl fp) hT) (fun s H C cl fp => cIfs_ok ih (blk_ok ok scope s H C cl fp) hC)
    (fun s H C cl fp => (pi1 s H C cl fp).1) (fun s H C cl fp => cTarget_ok (blk_ok ok scope s H C cl fp) hT1) (fun s H C cl fp => cIfs_ok ih (blk_ok ok scope s H C cl fp) hC1)
    (fun s H C cl fp => (ih _ _ (blk_ok ok scope s H C cl fp) elt e hE).1) (fun x => noSet_fold ns) (fun env x => noSet_fold ns1)) fun σ H Q q => q.comp2 hp hp1 (tIn_ok hi) (tIn_ok hi1)
theorem cComp_ok (ih : IHe F g) (ok : Ok X cc g) {scope : Scope} {elt : Ex} {gens : List Comprehension} {m : E} {p : Pos} (h : cComp F cc scope elt gens = some m) : PE X (.ListComp elt gens scope p) (RE g m) := by
  unfold cComp at h
  split at h
  · obtain ⟨c⟩ := cComp1_some h
    exact comp1_ok ih ok c
  · obtain ⟨c⟩ := cComp2_some h
    exact comp2_ok ih ok c
  · cases h

theorem cE_step (ih : IHe F g) : IHe (fun cc e => cE1 F cc e) g := by
  intro X cc ok e m h
  have val : ∀ {e : Ex}, PE X e (RE g m) → (∀ whole, isTrue e X.env whole = (do let v ← whole; standAt e.pos; holding [v] (truthy v))) → noStar e = true → noSet e = true → PE X e (RE g m) ∧ (tstOk e = true → PT X e (RT g m)) ∧ noStar e = true ∧ noSet e = true :=
    fun p ht h1 h2 => ⟨p, fun _ => pt_valR p ht, h1, h2⟩
  cases e with
  | Name x p => exact val (cName_ok ok h) (fun _ => rfl) rfl rfl
  | Constant c k p =>
    have h : (constD c).map E.cst = some m := h
    cases q : constD c with
    | none => rw [q] at h; cases h
    | some d => rw [q] at h; cases h; exact val (cConst_ok q) (fun _ => rfl) rfl rfl
  | BinOp a o b p =>
    have h : (match binO o with | some o => cBin F cc o a b | none => none) = some m := h
    cases q : binO o with
    | none => rw [q] at h; cases h
    | some op =>
      rw [q] at h
      obtain ⟨x, y, h1, h2, rfl⟩ := cBin_some h
      exact val (PE.of (pe_op (bin_op ok q) (ih X cc ok a x h1).1 (ih X cc ok b y h2).1) fun σ H Q q => op2_re q) (fun _ => rfl) rfl rfl
  | UnaryOp o a p =>
    cases o with
    | USub =>
      obtain ⟨x, h1, rfl⟩ := cUn_some (show cUn F cc .neg a = some m from h)
      exact val (PE.of (pe_un ko_neg (ih X cc ok a x h1).1) fun σ H Q q => q.op1) (fun _ => rfl) rfl rfl
    | Not =>
      have h : (F cc a).map E.not = some m := h
      cases q : F cc a with
      | none => rw [q] at h; cases h
      | some x =>
        rw [q] at h
        cases h
        obtain ⟨pe, pt, _⟩ := ih X cc ok a x q
        exact ⟨PE.of (pe_not pe) fun σ H Q q => q.not, fun ht => PT.of (pt_not (pt ht)) fun σ H Q q => RT.not q, rfl, rfl⟩
    | _ => cases h
  | BoolOp o es p =>
    obtain ⟨pe, pw⟩ := cBool_ok ih ok (p := p) (show cBool F cc o es = some m from h)
    refine ⟨pe, fun ht => ?_, rfl, rfl⟩
    have ht : (tstOk.tstAll es && !es.any isLst) = true := ht
    rw [Bool.and_eq_true] at ht
    exact (pw ht.1 (by simpa using ht.2)).pt
  | IfExp c a b p =>
    have h : (match cT F cc c, F cc a, F cc b with | some x, some y, some z => some (E.ite x y z) | _, _, _ => none) = some m := h
    cases q1 : cT F cc c with
    | none => rw [q1] at h; cases h
    | some x =>
      cases q2 : F cc a with
      | none => rw [q1, q2] at h; cases h
      | some y =>
        cases q3 : F cc b with
        | none => rw [q1, q2, q3] at h; cases h
        | some z =>
          rw [q1, q2, q3] at h
          cases h
          obtain ⟨ht, h1⟩ := cT_some q1
          exact ⟨PE.of (pe_ifExp ((ih X cc ok c x h1).2.1 ht) (ih X cc ok a y q2).1 (ih X cc ok b z q3).1) fun σ H Q q => q.ite, (fun ht => nomatch ht), rfl, rfl⟩
  | Compare a os bs p =>
    have h : cCmp F cc a os bs = some m := h
    unfold cCmp at h
    split at h
    · obtain ⟨h1, h2⟩ := cCmp1_ok ih ok (p := p) h
      exact ⟨h1, fun _ => h2, rfl, rfl⟩
    · obtain ⟨h1, h2⟩ := cCmp2_ok ih ok (p := p) h
      exact ⟨h1, fun _ => h2, rfl, rfl⟩
    · cases h
  | Tuple es k p =>
    have h : (cEs F cc es).map E.tup = some m := h
    cases q : cEs F cc es with
    | none => rw [q] at h; cases h
    | some a => rw [q] at h; cases h; exact val (PE.of (pe_tupF (pa_ok ih ok q)) fun σ H Q q => q.tup) (fun _ => rfl) rfl rfl
  | List es p =>
    have h : (cEs F cc es).map E.lst = some m := h
    cases q : cEs F cc es with
    | none => rw [q] at h; cases h
    | some a => rw [q] at h; cases h; exact val (PE.of (pe_lst (pa_ok ih ok q)) fun σ H Q q => q.lst) (fun _ => rfl) rfl rfl
  | Subscript v i p => exact val (cSub_ok ih ok h) (fun _ => rfl) rfl rfl
  | ListComp elt gens scope p => exact val (cComp_ok ih ok h) (fun _ => rfl) rfl rfl
  | Call f args kws p =>
    have nokw : kws = [] := by
      cases kws with
      | nil => rfl
      | cons a b => cases f <;> cases h
    subst nokw
    cases f with
    | Name x px => exact val (cCallN_ok ih ok h) (fun _ => rfl) rfl rfl
    | Attribute o nm ap => exact val (cMeth_ok ih ok h) (fun _ => rfl) rfl rfl
    | _ => cases h
  | _ => cases h
theorem cE_ok (g : Gh) : ∀ n, IHe (cE n) g
  | 0 => fun X cc ok e m h => by cases h
  | n + 1 => cE_step (cE_ok g n)
end
end Ev
end
section
set_option linter.all false
set_option maxRecDepth 100000
namespace Ev
open PySem PySem.Spec PyProof.Rows L2
section
variable {X : Cx} {cc : CC} {g : Gh} {σ : L2.St} {H : Hp} {F : CC → Ex → Option E} {G : CC → Stmt → S}

theorem PS.of {s : Stmt} {t t' : TS} (h : PS X s t) (k : ∀ D σ H, t' D σ H → t D σ H) : PS X s t' := ⟨fun pins s σ H D I q => h.run pins s σ H D I (k D σ H q)⟩
theorem PSs.of {s : List Stmt} {t t' : TS} (h : PSs X s t) (k : ∀ D σ H, t' D σ H → t D σ H) : PSs X s t' := ⟨fun pins s σ H D I q => h.run pins s σ H D I (k D σ H q)⟩
abbrev Own (X : Cx) : Prop := PassesOwn (model X.prog X.w) X.A X.env X.xe
def IHs (G : CC → Stmt → S) (g : Gh) : Prop := ∀ X cc, Ok X cc g → Own X → ∀ s, PS X s (RS g cc.io (G cc s))
theorem cSs_ok (ih : IHs G g) (ok : Ok X cc g) (own : Own X) : ∀ ss : List Stmt, PSs X ss (RS g cc.io (cSs G cc ss))
  | [] => PSs.of pss_nil fun D σ H q => q.nop
  | [s] => pss_one (ih X cc ok own s)
  | s :: s2 :: r => PSs.of (pss_cons (ih X cc ok own s) (cSs_ok ih ok own (s2 :: r))) fun D σ H q => RS.seq q

theorem pe_bmL {x : Str} {nm : Str} {id : String} {r : V → List V → Hp → VK → Prop} {i : Nat} {a : Ex} {y : E} {px ap cp : Pos} (slot : Slot "list" nm id) (hty : typeOf (.builtin id) = pure (.type "method_descriptor")) (hm : MtR X id r) (ok : Ok X cc g) (hs : cc.slot x = some i) (pa : PE X a (RE g y)) (hn : noStar a = true) (hl : (ap.endLine == cp.line) = true) :
    PE X (.Call (.Attribute (.Name x px) nm ap) [a] [] cp) (tBM X.K "list" r (tVar i) (tCons (RE g y) tNil)) := by
  have pl : ∀ e ∈ [a], noStar e = true := by simp [hn]
  exact pe_bm PySem.F.plainAttrs_list slot hty hm (pe_slot ok hs) (pa_cons pa pa_nil (star1 hn)) rfl (by
    rw [plain_all pl]
    rfl) hl (star1 hn) rfl
theorem cExprS_ok (ih : IHe F g) (ok : Ok X cc g) {e : Ex} {p : Pos} {t : S} (h : cExprS F cc e = some t) : PS X (.Expr e p) (RS g cc.io t) := by
  have call : ∀ {f : Ex} {args : List Ex} {kws : List Keyword} {q : Pos}, e = .Call f args kws q → (F cc e).map S.expr = some t → PS X (.Expr e p) (RS g cc.io t) := fun he h => by
    cases q : F cc e with
    | none => rw [q] at h; cases h
    | some m =>
      rw [q] at h
      cases h
      have pe := (ih X cc ok e m q).1
      subst he
      exact PS.of (ps_expr pe rfl) fun D σ H q => q.expr
  unfold cExprS at h
  split at h
  · rename_i x px nm ap a cp
    cases q : cc.slot x with
    | none => rw [q] at h; cases h
    | some i =>
      rw [q] at h
      have h : (if (ap.endLine == cp.line) = true then (if (nm == ("append" : Str)) = true then (F cc a).map (S.append i) else if (nm == ("extend" : Str)) = true then (F cc a).map (S.extend i) else none) else none) = some t := h
      by_cases hl : (ap.endLine == cp.line) = true
      · rw [if_pos hl] at h
        by_cases h1 : (nm == ("append" : Str)) = true
        · rw [if_pos h1] at h
          cases q2 : F cc a with
          | none => rw [q2] at h; cases h
          | some y =>
            rw [q2] at h
            cases h
            obtain ⟨pa, _, hn, _⟩ := ih X cc ok a y q2
            obtain rfl := LawfulBEq.eq_of_beq h1
            refine PS.of (ps_expr (pe_bmL PySem.F.slot_list_append rfl mt_append ok q pa hn hl) rfl) fun D σ H q => ?_
            obtain ⟨v, e1, e2, e3⟩ := q.append
            exact ⟨v, e1, by rw [ok.K]; exact e2, e3⟩
        · rw [if_neg h1] at h
          by_cases h2 : (nm == ("extend" : Str)) = true
          · rw [if_pos h2] at h
            cases q2 : F cc a with
            | none => rw [q2] at h; cases h
            | some y =>
              rw [q2] at h
              cases h
              obtain ⟨pa, _, hn, _⟩ := ih X cc ok a y q2
              obtain rfl := LawfulBEq.eq_of_beq h2
              refine PS.of (ps_expr (pe_bmL PySem.F.slot_list_extend rfl mt_extend ok q pa hn hl) rfl) fun D σ H q => ?_
              obtain ⟨v, e1, e2, e3⟩ := q.extend
              exact ⟨v, e1, by rw [ok.K]; exact e2, e3⟩
          · rw [if_neg h2] at h; cases h
      · rw [if_neg hl] at h; cases h
  · cases h
    exact PS.of ps_doc fun D σ H q => q.nop
  · exact call rfl h
  · cases h

theorem asg_reads {i : Nat} {m : E} (hi : cc.io = true → i ≠ 0) : ∀ D σ H, RS g cc.io (.asg i m) D σ H → tAsg (RE g m) (gName i) D σ H := fun D σ H q => RS.asg hi q
theorem cName_set {F' : CC → Ex → Option E} (ih0 : IHe F g) (ih : IHe F' g) (ok : Ok X cc g) {x : Str} {px p : Pos} {v : Ex} {i : Nat} {m : E} (hd : cc.dest x = some i) (hs : swOk v = true) (h : F cc v = some m) (hcomp : ∀ elt gens scope pos, v = .ListComp elt gens scope pos → cComp F' cc scope elt gens = some m) : PS X (.Assign [.Name x px] v p) (RS g cc.io (.asg i m)) := by
  obtain ⟨d1, d2, d3, d4⟩ := dest_ok ok hd
  have pe := (ih0 X cc ok v m h).1
  have plain : swapsWith v (some (.Name x px)) p.line X.env = pure false → PS X (.Assign [.Name x px] v p) (RS g cc.io (.asg i m)) := fun hw =>
    PS.of (ps_set ok.nd d1 d2 pe hw d3) (asg_reads d4)
  cases v <;> first | exact plain rfl | cases hs | skip
  rename_i elt gens scope pos
  have hc := hcomp elt gens scope pos rfl
  generalize hb : (X.env.blockKind == .function && X.env.kindOf x == some .local && px.line == pos.line && !(scope.names.any fun (n, k) => n == x && (k == .local || k == .cell))) = b
  have hsw : swapsWith (.ListComp elt gens scope pos) (some (.Name x px)) p.line X.env = pure b := by
    rw [← hb]
    rfl
  cases b with
  | false => exact plain hsw
  | true =>
    have hloc : X.env.scope.names.lookup x = some .local := by
      simp only [Bool.and_eq_true] at hb
      exact LawfulBEq.eq_of_beq hb.1.1.2
    unfold cComp at hc
    split at hc
    · obtain ⟨c⟩ := cComp1_some hc
      obtain ⟨k, src, t, tst, e, blk, hI, hT, hC, hE, hi, hp, rfl⟩ := c
      obtain ⟨pi, ns⟩ := cI_ok ih ok (cTarget_tu hT hp) hI
      refine PS.of (ps_setLc ok.calm ok.nd d1 hloc hsw pi (blkOk ok blk) (fun s H C cl fp => cTarget_ok (blk_ok ok scope s H C cl fp) hT) (fun s H C cl fp => cIfs_ok ih (blk_ok ok scope s H C cl fp) hC)
        (fun s H C cl fp => (ih _ _ (blk_ok ok scope s H C cl fp) elt e hE).1) (fun x => noSet_fold ns)) fun D σ H q => ?_
      exact (RS.asg d4 q).comp hp (tIn_ok hi)
    · obtain ⟨c⟩ := cComp2_some hc
      obtain ⟨k, src, t, tst, k1, src1, t1, tst1, e, blk, hI, hT, hC, hI1, hT1, hC1, hE, hi, hi1, hp, hp1, rfl⟩ := c
      obtain ⟨pi, ns⟩ := cI_ok ih ok (cTarget_tu hT hp) hI
      refine ⟨fun pins s σ H D I hq => ?_⟩
      have pi1 := fun (s : Shared) (H : Hp) (C : Addr) (cl : List (Str × Addr)) (fp : List Addr) => cI_ok ih (blk_ok ok scope s H C cl fp) (cTarget_tu hT1 hp1) hI1
      have ns1 := (pi1 s H 0 [] []).2
      refine PS.run ?_ pins s σ H D I hq
      refine PS.of (ps_setLc2 ok.calm ok.nd d1 hloc hsw pi (blkOk ok blk) (comp2_hv hi1) (fun s H C cl fp => cTarget_ok (blk_ok ok scope s H C cl fp) hT) (fun s H C cl fp => cIfs_ok ih (blk_ok ok scope s H C cl fp) hC)
        (fun s H C cl fp => (pi1 s H C cl fp).1) (fun s H C cl fp => cTarget_ok (blk_ok ok scope s H C cl fp) hT1) (fun s H C cl fp => cIfs_ok ih (blk_ok ok scope s H C cl fp) hC1)
        (fun s H C cl fp => (ih _ _ (blk_ok ok scope s H C cl fp) elt e hE).1) (fun x => noSet_fold ns) (fun env x => noSet_fold ns1)) fun D σ H q => ?_
      exact (RS.asg d4 q).comp2 hp hp1 (tIn_ok hi) (tIn_ok hi1)
    · cases hc

def namesOf (env : PySem.Env) (line : Nat) (ts : List Ex) : List Str := ts.filterMap fun
    | .Name id pos => if env.kindOf id == some .local && pos.line == line then some id else none
    | _ => none
theorem namesOf_le {env : PySem.Env} {l : Nat} : ∀ ts : List Ex, (namesOf env l ts).length ≤ ts.length := fun ts => List.length_filterMap_le _ _
theorem namesOf_cons {env : PySem.Env} {l : Nat} {x : Str} {p : Pos} {ts : List Ex} : namesOf env l (.Name x p :: ts) = if (env.kindOf x == some .local && p.line == l) = true then x :: namesOf env l ts else namesOf env l ts := by
  unfold namesOf
  rw [List.filterMap_cons]
  by_cases hc : (env.kindOf x == some .local && p.line == l) = true
  · simp only [if_pos hc]
  · simp only [if_neg hc]
theorem par_some {env : PySem.Env} {sc : Scope} {l : Nat} (hs : env.scope = sc) : ∀ {ts : List Ex} {ns : List Str}, parNames sc l ts = some ns → namesOf env l ts = ns ∧ ns.length = ts.length
  | [], ns, h => by cases h; exact ⟨rfl, rfl⟩
  | t :: ts, ns, h => by
    cases t with
    | Name x p =>
      have h : (if (sc.names.lookup x == some .local && p.line == l) = true then (parNames sc l ts).map fun y => x :: y else none) = some ns := h
      by_cases hc : (sc.names.lookup x == some .local && p.line == l) = true
      · rw [if_pos hc] at h
        cases q : parNames sc l ts with
        | none => rw [q] at h; cases h
        | some y =>
          rw [q] at h
          cases h
          obtain ⟨h1, h2⟩ := par_some hs q
          have hc' : (env.kindOf x == some .local && p.line == l) = true := by unfold PySem.Env.kindOf; rw [hs]; exact hc
          refine ⟨?_, by rw [List.length_cons, List.length_cons, h2]⟩
          rw [namesOf_cons, if_pos hc', h1]
      · rw [if_neg hc] at h; cases h
    | _ => cases h
theorem par_none {env : PySem.Env} {sc : Scope} {l : Nat} (hs : env.scope = sc) : ∀ {ts : List Ex}, (∀ t ∈ ts, ∃ x p, t = .Name x p) → parNames sc l ts = none → (namesOf env l ts).length ≠ ts.length
  | [], _, h => by cases h
  | t :: ts, hn, h => by
    obtain ⟨x, p, rfl⟩ := hn t List.mem_cons_self
    have h : (if (sc.names.lookup x == some .local && p.line == l) = true then (parNames sc l ts).map fun y => x :: y else none) = none := h
    have ke : (env.kindOf x == some .local && p.line == l) = (sc.names.lookup x == some .local && p.line == l) := by unfold PySem.Env.kindOf; rw [hs]
    by_cases hc : (sc.names.lookup x == some .local && p.line == l) = true
    · rw [if_pos hc] at h
      cases q : parNames sc l ts with
      | some y => rw [q] at h; cases h
      | none =>
        have ih := par_none hs (fun t ht => hn t (List.mem_cons_of_mem _ ht)) q
        rw [namesOf_cons, ke, if_pos hc, List.length_cons, List.length_cons]
        omega
    · rw [namesOf_cons, ke, if_neg hc, List.length_cons]
      have := namesOf_le (env := env) (l := l) ts
      omega
theorem cNames_names {f : Str → Option Nat} : ∀ {es : List Ex} {is : List Nat}, cNames f es = some is → (∀ t ∈ es, ∃ x p, t = .Name x p) ∧ is.length = es.length
  | [], is, h => by cases h; exact ⟨by simp, rfl⟩
  | e :: es, is, h => by
    cases e with
    | Name x p =>
      have h : (match f x, cNames f es with | some i, some l => some (i :: l) | _, _ => none) = some is := h
      cases q1 : f x with
      | none => rw [q1] at h; cases h
      | some i =>
        rw [q1] at h
        cases q2 : cNames f es with
        | none => rw [q2] at h; cases h
        | some l =>
          rw [q2] at h
          cases h
          obtain ⟨h1, h2⟩ := cNames_names q2
          refine ⟨fun t ht => ?_, by rw [List.length_cons, List.length_cons, h2]⟩
          rcases List.mem_cons.mp ht with rfl | ht
          · exact ⟨x, p, rfl⟩
          · exact h1 t ht
    | _ => cases h
theorem sw_eq {es vs : List Ex} {k k2 : Nat} {p p2 : Pos} {env : PySem.Env} (hk : env.scope.kind = .function) (hv : vs.all noStar = true) : swappedStores [.Tuple es k p] (.Tuple vs k2 p2) env =
    (if (!(es.length == 2 || es.length == 3) || vs.length != es.length) = true then pure none else
      if ((namesOf env (lineOf es) es).length != es.length || (namesOf env (lineOf es) es).eraseDups.length != (namesOf env (lineOf es) es).length) = true then pure none else
      if vs.all (foldedForSure 8) = true then pure none else if vs.all (constantsAlone 8) = true then (unsupported "assign.tuple-of-constant-expressions:order-of-the-stores" >>= fun (_ : Unit) => pure (some (namesOf env (lineOf es) es))) else pure (some (namesOf env (lineOf es) es))) := by
  have hb : env.blockKind = .function := by unfold PySem.Env.blockKind; rw [hk]; rfl
  have hst : (vs.any fun | .Starred .. => true | _ => false) = false := by
    rw [List.any_eq_false]
    intro x hx
    have := List.all_eq_true.mp hv x hx
    cases x <;> first | (simp; done) | cases this
  unfold swappedStores
  simp only [pure_bind, hb]
  by_cases h1 : (!(es.length == 2 || es.length == 3) || vs.length != es.length) = true
  · rw [if_pos h1, if_pos (by rw [h1]; rfl)]
  · rw [if_neg h1, if_neg (by intro z; rw [Bool.or_eq_true] at z; rcases z with z | z; exact h1 z; simp at z)]
    refine (if_neg (fun z => ?_)).trans ?_
    · rw [List.any_eq_true] at z
      obtain ⟨x, hx, z⟩ := z
      have hx' := List.all_eq_true.mp hv x hx
      cases x <;> first | (cases hx'; done) | (cases z; done)
    · rfl
theorem par0 {es vs : List Ex} {k k2 : Nat} {p p2 : Pos} {env : PySem.Env} {sc : Scope} (hs : env.scope = sc) (hk : env.scope.kind = .function) (hv : vs.all noStar = true) (hn : ∀ t ∈ es, ∃ x p, t = .Name x p) (h : parHow sc es vs = 0) : swappedStores [.Tuple es k p] (.Tuple vs k2 p2) env = pure none := by
  rw [sw_eq hk hv]
  unfold parHow at h
  by_cases h1 : (!(es.length == 2 || es.length == 3) || vs.length != es.length) = true
  · rw [if_pos h1]
  · rw [if_neg h1] at h ⊢
    cases q : parNames sc (lineOf es) es with
    | none => rw [if_pos (by simpa using Or.inl (par_none hs hn q))]
    | some ns =>
      rw [q] at h
      obtain ⟨e1, e2⟩ := par_some hs q
      rw [e1]
      have h : (if (ns.eraseDups.length != ns.length) = true then 0 else if vs.all (foldedForSure 8) = true then 0 else if vs.all (constantsAlone 8) = true then 2 else 1) = 0 := h
      by_cases h2 : (ns.eraseDups.length != ns.length) = true
      · rw [if_pos (by rw [h2, Bool.or_true])]
      · rw [if_neg h2] at h
        by_cases h3 : vs.all (foldedForSure 8) = true
        · by_cases hx : ((ns.length != es.length || ns.eraseDups.length != ns.length) = true)
          · rw [if_pos hx]
          · rw [if_neg hx, if_pos h3]
        · rw [if_neg h3] at h
          split at h <;> cases h
theorem par1 {es vs : List Ex} {k k2 : Nat} {p p2 : Pos} {env : PySem.Env} {sc : Scope} (hs : env.scope = sc) (hk : env.scope.kind = .function) (hv : vs.all noStar = true) (h : parHow sc es vs = 1) :
    ∃ ns, swappedStores [.Tuple es k p] (.Tuple vs k2 p2) env = pure (some ns) ∧ parNames sc (lineOf es) es = some ns ∧ vs.length = es.length ∧ (es.length = 2 ∨ es.length = 3) := by
  unfold parHow at h
  by_cases h1 : (!(es.length == 2 || es.length == 3) || vs.length != es.length) = true
  · rw [if_pos h1] at h; cases h
  · rw [if_neg h1] at h
    cases q : parNames sc (lineOf es) es with
    | none => rw [q] at h; cases h
    | some ns =>
      rw [q] at h
      obtain ⟨e1, e2⟩ := par_some hs q
      have h : (if (ns.eraseDups.length != ns.length) = true then 0 else if vs.all (foldedForSure 8) = true then 0 else if vs.all (constantsAlone 8) = true then 2 else 1) = 1 := h
      by_cases h2 : (ns.eraseDups.length != ns.length) = true
      · rw [if_pos h2] at h; cases h
      · rw [if_neg h2] at h
        by_cases h3 : vs.all (foldedForSure 8) = true
        · rw [if_pos h3] at h; cases h
        · rw [if_neg h3] at h
          by_cases h4 : vs.all (constantsAlone 8) = true
          · rw [if_pos h4] at h; cases h
          · refine ⟨ns, ?_, rfl, ?_, ?_⟩
            · rw [sw_eq hk hv, if_neg h1, e1, if_neg (by simpa [e2] using h2), if_neg h3, if_neg h4]
            · simp at h1; exact h1.2
            · simp at h1; omega
end
end Ev
end
section
set_option linter.all false
set_option maxRecDepth 100000
namespace Ev
open PySem PySem.Spec PyProof.Rows L2
section
variable {X : Cx} {cc : CC} {g : Gh} {σ : L2.St} {H : Hp} {F : CC → Ex → Option E} {G : CC → Stmt → S}

theorem cNames_at (ok : Ok X cc g) : ∀ {es : List Ex} {is : List Nat} {sc : Scope} {l : Nat} {ns : List Str}, cNames cc.dest es = some is → parNames sc l es = some ns → cc.sc = sc →
    Paired (fun i x => X.N[i]? = some x ∧ X.env.scope.names.lookup x = some .local) is ns ∧ Paired (fun (e : Ex) x => ∃ p, e = Expr.Name x p) es ns
  | [], is, sc, l, ns, h, h', _ => by cases h; cases h'; exact ⟨.nil, .nil⟩
  | e :: es, is, sc, l, ns, h, h', hs => by
    cases e with
    | Name x p =>
      have h : (match cc.dest x, cNames cc.dest es with | some i, some l => some (i :: l) | _, _ => none) = some is := h
      have h' : (if (sc.names.lookup x == some .local && p.line == l) = true then (parNames sc l es).map fun y => x :: y else none) = some ns := h'
      cases q1 : cc.dest x with
      | none => rw [q1] at h; cases h
      | some i =>
        rw [q1] at h
        cases q2 : cNames cc.dest es with
        | none => rw [q2] at h; cases h
        | some js =>
          rw [q2] at h
          cases h
          by_cases hc : (sc.names.lookup x == some .local && p.line == l) = true
          · rw [if_pos hc] at h'
            cases q3 : parNames sc l es with
            | none => rw [q3] at h'; cases h'
            | some ys =>
              rw [q3] at h'
              cases h'
              obtain ⟨p1, p2⟩ := cNames_at ok q2 q3 hs
              obtain ⟨d1, _⟩ := dest_ok ok q1
              rw [Bool.and_eq_true] at hc
              exact ⟨.cons ⟨d1, by rw [ok.sc, hs]; exact LawfulBEq.eq_of_beq hc.1⟩ p1, .cons ⟨p, rfl⟩ p2⟩
          · rw [if_neg hc] at h'; cases h'
    | _ => cases h
theorem cNames_io (ok : Ok X cc g) : ∀ {es : List Ex} {is : List Nat}, cNames cc.dest es = some is → cc.io = true → ∀ i ∈ is, i ≠ 0
  | [], is, h, _, i, hi => by cases h; simp at hi
  | e :: es, is, h, hio, i, hi => by
    cases e with
    | Name x p =>
      have h : (match cc.dest x, cNames cc.dest es with | some i, some l => some (i :: l) | _, _ => none) = some is := h
      cases q1 : cc.dest x with
      | none => rw [q1] at h; cases h
      | some j =>
        rw [q1] at h
        cases q2 : cNames cc.dest es with
        | none => rw [q2] at h; cases h
        | some js =>
          rw [q2] at h
          cases h
          obtain ⟨_, _, _, d4⟩ := dest_ok ok q1
          rcases List.mem_cons.mp hi with rfl | hi
          · exact d4 hio
          · exact cNames_io ok q2 hio i hi
    | _ => cases h
theorem nodup2 {i j : Nat} (h : nodupN [i, j] = true) : i ≠ j := by
  intro e
  subst e
  simp [nodupN] at h
theorem nodup3 {i j l : Nat} (h : nodupN [i, j, l] = true) : i ≠ j ∧ i ≠ l ∧ j ≠ l := by
  simp only [nodupN, List.any_cons, List.any_nil, Bool.or_false, Bool.and_true, Bool.and_eq_true, Bool.not_eq_true', Bool.or_eq_false_iff, beq_eq_false_iff_ne] at h
  refine ⟨h.1.1, h.1.2, h.2.1⟩
theorem cAssign_ok {F' : CC → Ex → Option E} (ih : IHe F g) (ih' : IHe F' g) (hcomp : ∀ cc elt gens scope pos m, F cc (.ListComp elt gens scope pos) = some m → cComp F' cc scope elt gens = some m) (ok : Ok X cc g) {tg v : Ex} {p : Pos} {t : S} (h : cAssign F cc tg v = some t) : PS X (.Assign [tg] v p) (RS g cc.io t) := by
  cases tg with
  | Name x px =>
    have h : (match cc.dest x, (if swOk v = true then F cc v else none) with | some i, some e => some (S.asg i e) | _, _ => none) = some t := h
    cases q1 : cc.dest x with
    | none => rw [q1] at h; cases h
    | some i =>
      rw [q1] at h
      by_cases hs : swOk v = true
      · rw [if_pos hs] at h
        cases q2 : F cc v with
        | none => rw [q2] at h; cases h
        | some m =>
          rw [q2] at h
          cases h
          exact cName_set ih ih' ok q1 hs q2 fun elt gens scope pos e => by subst e; exact hcomp _ _ _ _ _ _ q2
      · rw [if_neg hs] at h; cases h
  | Tuple es k pt =>
    have h : (match cNames cc.dest es with
      | some is => cTup F cc es is v
      | none => none) = some t := h
    cases q1 : cNames cc.dest es with
    | none => rw [q1] at h; cases h
    | some is =>
      rw [q1] at h
      have hT : cTarget cc (.Tuple es k pt) = some (.tu is) := by
        show (cNames cc.dest es).map T.tu = _
        rw [q1]; rfl
      have pg := cTarget_ok ok hT
      have unp : (∀ env : PySem.Env, env.scope = cc.sc → env.scope.kind = .function → swappedStores [.Tuple es k pt] v env = pure none) → (F cc v).map (S.unp (.tu is)) = some t → PS X (.Assign [.Tuple es k pt] v p) (RS g cc.io t) := fun hw h => by
        cases q2 : F cc v with
        | none => rw [q2] at h; cases h
        | some m =>
          rw [q2] at h
          cases h
          have pe := (ih X cc ok v m q2).1
          refine ⟨fun pins s σ H D I hq => ?_⟩
          exact (ps_asg pe pg (by cases v <;> rfl) (hw X.env ok.sc I.ok.kind) rfl).run pins s σ H D I (RS.unp hq)
      cases v with
      | Tuple vs k2 p2 =>
        have h : (if (vs.all noStar) = true then (match parHow cc.sc es vs with
          | 0 => (F cc (.Tuple vs k2 p2)).map (S.unp (.tu is))
          | 1 => if nodupN is = true then (cEs F cc vs).map (S.par is) else none
          | _ => none) else none) = some t := h
        by_cases hv : vs.all noStar = true
        · rw [if_pos hv] at h
          cases qh : parHow cc.sc es vs with
          | zero =>
            rw [qh] at h
            exact unp (fun env e1 e2 => par0 e1 e2 hv (cNames_names q1).1 qh) h
          | succ n =>
            cases n with
            | succ n => rw [qh] at h; cases h
            | zero =>
              rw [qh] at h
              have h : (if nodupN is = true then (cEs F cc vs).map (S.par is) else none) = some t := h
              by_cases hd : nodupN is = true
              · rw [if_pos hd] at h
                cases q2 : cEs F cc vs with
                | none => rw [q2] at h; cases h
                | some a =>
                  rw [q2] at h
                  cases h
                  have pa := pa_ok ih ok q2
                  refine ⟨fun pins s σ H D I hq => ?_⟩
                  obtain ⟨ns, sw, pn, hl, h23⟩ := par1 (k := k) (k2 := k2) (p := pt) (p2 := p2) ok.sc I.ok.kind hv qh
                  obtain ⟨at1, nm⟩ := cNames_at ok q1 pn rfl
                  have rp := RS.par (fun hio => cNames_io ok q1 hio) hq
                  have hisl := (cNames_names q1).2
                  rcases h23 with h2 | h3
                  · match es, h2, vs, hl, is, ns, at1, nm, hisl with
                    | [e1, e2], _, [a1, a2], _, [i, j], [x, y], .cons ⟨n1, l1⟩ (.cons ⟨n2, l2⟩ .nil), .cons ⟨p1, r1⟩ (.cons ⟨p2', r2⟩ .nil), _ =>
                      subst r1
                      subst r2
                      have hij := nodup2 hd
                      refine (ps_par ok.calm ok.nd n1 n2 hij l1 l2 pa sw rfl).run pins s σ H D I ?_
                      refine rp.mono fun us H1 ⟨ul, q⟩ => ?_
                      match us, ul with
                      | [u, w], _ =>
                        refine ⟨u, w, rfl, ?_⟩
                        rw [List.set_comm _ _ hij]
                        exact q
                  · match es, h3, vs, hl, is, ns, at1, nm, hisl with
                    | [e1, e2, e3], _, [a1, a2, a3], _, [i, j, l], [x, y, z], .cons ⟨n1, l1⟩ (.cons ⟨n2, l2⟩ (.cons ⟨n3, l3⟩ .nil)), .cons ⟨p1, r1⟩ (.cons ⟨p2', r2⟩ (.cons ⟨p3', r3⟩ .nil)), _ =>
                      subst r1
                      subst r2
                      subst r3
                      obtain ⟨hij, hil, hjl⟩ := nodup3 hd
                      refine (ps_par3 ok.calm ok.nd n1 n2 n3 hij hil hjl l1 l2 l3 pa sw rfl).run pins s σ H D I ?_
                      refine rp.mono fun us H1 ⟨ul, q⟩ => ?_
                      match us, ul with
                      | [u, w, r], _ =>
                        refine ⟨u, w, r, rfl, ?_⟩
                        have e : putR [i, j, l] [u, w, r] σ = ((σ.set i (some u)).set j (some w)).set l (some r) := by
                          show ((σ.set l (some r)).set j (some w)).set i (some u) = _
                          rw [List.set_comm (l := σ.set l (some r)) _ _ (Ne.symm hij), List.set_comm (l := σ) _ _ (Ne.symm hil), List.set_comm (l := σ.set i (some u)) _ _ (Ne.symm hjl)]
                        rw [e] at q
                        exact q
              · rw [if_neg hd] at h; cases h
        · rw [if_neg hv] at h; cases h
      | _ => exact unp (fun _ _ _ => rfl) h
  | Subscript o i ps =>
    obtain ⟨x, px, rfl⟩ : ∃ x px, o = .Name x px := by
      cases o <;> first | exact ⟨_, _, rfl⟩ | cases h
    have h : (if noSlc i = true then (match cc.slot x, F cc i, F cc v with | some i, some k, some e => some (S.seti i k e) | _, _, _ => none) else none) = some t := h
    by_cases hn : noSlc i = true
    · rw [if_pos hn] at h
      cases q1 : cc.slot x with
      | none => rw [q1] at h; cases h
      | some j =>
        cases q2 : F cc i with
        | none => rw [q1, q2] at h; cases h
        | some kk =>
          cases q3 : F cc v with
          | none => rw [q1, q2, q3] at h; cases h
          | some m =>
            rw [q1, q2, q3] at h
            cases h
            have pk := (ih X cc ok i kk q2).1
            have pv := (ih X cc ok v m q3).1
            have pg := pg_sub (pos := ps) (pe_slot (p := px) ok q1) pk (set_list (X := X)) (by cases i <;> first | (intro _; rfl) | cases hn)
            exact PS.of (ps_asg pv pg (by cases v <;> rfl) (by cases v <;> rfl) rfl) fun D σ H q => RS.seti q
    · rw [if_neg hn] at h; cases h
  | _ => cases h

theorem cS_step {F' : CC → Ex → Option E} (ih : IHe F g) (ih' : IHe F' g) (hcomp : ∀ cc elt gens scope pos m, F cc (.ListComp elt gens scope pos) = some m → cComp F' cc scope elt gens = some m) (ihs : IHs G g) : IHs (fun cc s => (cS1 F G cc s).getD .nev) g := by
  intro X cc ok own s
  show PS X s (RS g cc.io ((cS1 F G cc s).getD .nev))
  cases h : cS1 F G cc s with
  | none => exact PS.of ps_never fun D σ H q => RS.nev q
  | some t =>
    show PS X s (RS g cc.io t)
    cases s with
    | Expr e p => exact cExprS_ok ih ok h
    | Assign tgs v p =>
      obtain ⟨tg, rfl⟩ : ∃ tg, tgs = [tg] := by
        match tgs, h with
        | [], h => cases h
        | [a], _ => exact ⟨a, rfl⟩
        | _ :: _ :: _, h => cases h
      exact cAssign_ok ih ih' hcomp ok h
    | Return e p =>
      cases e with
      | none =>
        cases h
        exact PS.of ps_retN fun D σ H q => (RS.ret q).cst fun _ => .non
      | some e =>
        have h : (F cc e).map S.ret = some t := h
        cases q : F cc e with
        | none => rw [q] at h; cases h
        | some m =>
          rw [q] at h
          cases h
          exact PS.of (ps_ret (ih X cc ok e m q).1) fun D σ H q => RS.ret q
    | If c a b p =>
      have h : (cT F cc c).map (fun x => S.ite x (cSs G cc a) (cSs G cc b)) = some t := h
      cases q : cT F cc c with
      | none => rw [q] at h; cases h
      | some x =>
        rw [q] at h
        cases h
        obtain ⟨ht, h1⟩ := cT_some q
        exact PS.of (ps_if ((ih X cc ok c x h1).2.1 ht) (cSs_ok ihs ok own a) (cSs_ok ihs ok own b)) fun D σ H q => RS.ite q
    | While c body els p =>
      cases els with
      | cons _ _ => cases h
      | nil =>
        have h : (cT F cc c).map (fun x => S.while x (cSs G cc body)) = some t := h
        cases q : cT F cc c with
        | none => rw [q] at h; cases h
        | some x =>
          rw [q] at h
          cases h
          obtain ⟨ht, h1⟩ := cT_some q
          exact PS.of (ps_while own ((ih X cc ok c x h1).2.1 ht) (cSs_ok ihs ok own body)) fun D σ H q => RS.while q
    | For tg it body els p =>
      cases els with
      | cons _ _ => cases h
      | nil =>
        have h : (match cTarget cc tg, cI F cc it with
          | some t, some (k, src) => if pairOk k t = true then some (S.for t k src (cSs G cc body)) else none
          | _, _ => none) = some t := h
        cases q1 : cTarget cc tg with
        | none => rw [q1] at h; cases h
        | some tt =>
          rw [q1] at h
          cases q2 : cI F cc it with
          | none => rw [q2] at h; cases h
          | some ks =>
            obtain ⟨k, src⟩ := ks
            rw [q2] at h
            have h : (if pairOk k tt = true then some (S.for tt k src (cSs G cc body)) else none) = some t := h
            by_cases hp : pairOk k tt = true
            · rw [if_pos hp] at h
              cases h
              obtain ⟨pi, ns⟩ := cI_ok ih ok (tg := tg) (cTarget_tu q1 hp) q2
              exact PS.of (ps_for own ok.calm pi (cTarget_ok ok q1) (cSs_ok ihs ok own body) (fun x => noSet_fold ns)) fun D σ H q => RS.for hp q
            · rw [if_neg hp] at h; cases h
    | Break p => cases h; exact PS.of ps_break fun D σ H q => RS.brk q
    | Continue p => cases h; exact PS.of ps_continue fun D σ H q => RS.cnt q
    | Pass p => cases h; exact PS.of ps_pass fun D σ H q => RS.nop q
    | _ => cases h
theorem cS_ok (g : Gh) (m : Nat) : ∀ n, IHs (cS (m + 1) n) g
  | 0 => fun X cc ok own s => PS.of ps_never fun D σ H q => RS.nev q
  | n + 1 => cS_step (cE_ok g (m + 1)) (cE_ok g m) (fun _ _ _ _ _ _ h => h) (cS_ok g m n)
end
end Ev
end
section
set_option linter.all false
set_option maxRecDepth 100000
namespace Ev
open PySem PySem.Spec PyProof.Rows L2

structure Dat where
  name : Str
  qual : Str
  params : Arguments
  body : List Stmt
  scope : Scope
  N : List Str
  ps : List Str
  io : Bool
structure Txt where
  defs : List Dat
  gl : List (Str × GV)
  m : Nat
  wf : Nat
def Txt.ioF (T : Txt) (k : Nat) : Bool := match T.defs[k]? with
  | some d => d.io
  | none => false
def Txt.cc (T : Txt) (d : Dat) : CC := ⟨d.N, d.scope, T.gl, T.ioF, d.io, fun _ => true⟩
def Txt.fn (T : Txt) (d : Dat) : Fn := ⟨d.ps.length, d.N.length, d.io, cSs (cS (T.m + 1) T.m) (T.cc d) d.body⟩
def Txt.tab (T : Txt) : Tab := fun k => (T.defs[k]?).map fun d => .ir (T.fn d)
theorem Txt.io_eq (T : Txt) (k : Nat) : T.tab.io k = T.ioF k := by
  unfold Tab.io Txt.tab Txt.ioF
  cases T.defs[k]? with
  | none => rfl
  | some d => rfl
def Txt.ec (T : Txt) (n : Nat) : EC := ⟨evFn T.tab T.wf n, T.ioF, T.wf⟩
def Txt.gh (T : Txt) (fa : Nat → Addr) (K : PySem.W.Frag) (n : Nat) : Gh := ⟨fa, K, T.ec n, fun _ _ _ _ => False, fun _ _ _ _ _ => False⟩
structure Top (T : Txt) (fa : Nat → Addr) (K : PySem.W.Frag) (mg : Str → Option Value) : Prop where
  fn : ∀ k d, T.defs[k]? = some d → ∃ fd, FunD K d.name d.qual d.params d.body d.scope [] [] (fa k) fd ∧ Binds K fd d.ps [] ∧ FnScope d.N d.ps d.scope ∧ (d.io = true → 0 < d.ps.length)
  gl : ∀ x v, T.gl.lookup x = some v → match v with
    | .fn k => mg x = some (.ref (fa k)) ∧ k < T.defs.length
    | .cst d => ∃ u v, mg x = some u ∧ L2.RelV v u ∧ ∀ G, Dg fa K G v d
    | .bi b => mg x = none ∧ ∃ y, biNames[b]? = some y ∧ x = Str.ofString y
    | .exc _ => True
section
variable {T : Txt} {fa : Nat → Addr} {P : Program} {w : World} {K : PySem.W.Frag} {mg : Str → Option Value} {base : Heap}

theorem start_get {N : List Str} {vs : List V} {i : Nat} {v : V} (h : vs[i]? = some v) : (L2.start N vs)[i]? = some (some v) := by
  unfold L2.start
  have hi := (List.getElem?_eq_some_iff.mp h).1
  rw [List.getElem?_append_left (by rw [List.length_map]; exact hi), List.getElem?_map, h]
  rfl
theorem startE_at {F : Fn} {ds : List D} {xs : List D} {i : Nat} (h : Env.at (ds.map Sl.fz ++ List.replicate (F.sl - F.ar) .no) i ≠ .no) : ∃ d, ds[i]? = some d ∧ Env.at (ds.map Sl.fz ++ List.replicate (F.sl - F.ar) .no) i = .fz d := by
  unfold Env.at at h ⊢
  rw [List.getD_eq_getElem?_getD] at h ⊢
  by_cases hi : i < ds.length
  · rw [List.getElem?_append_left (by rw [List.length_map]; exact hi), List.getElem?_map, List.getElem?_eq_getElem hi]
    exact ⟨ds[i], rfl, rfl⟩
  · rw [List.getElem?_append_right (by rw [List.length_map]; omega), List.getElem?_replicate] at h
    split at h <;> exact absurd rfl h
theorem run_plain {g : Gh} {F : Fn} {ds : List D} {vs : List V} {N : List Str} {H G : Hp} {Q : VK} (hN : F.sl = N.length) (har : ds.length = F.ar) (hl : F.ar ≤ N.length) (hio : F.io = false) (sp : Sup G H) (dd : DgAll g.fa g.K G vs ds) (hex : ∀ k a c d H, ¬ g.ex k a c d H)
    (h : match endS F (evS g.C F.body (startE F ds)) with
      | .ok d fr _ => ∀ v H' G', Grow G H G' H' → RV g.fa g.K H G' H' (if fr then .fr d else .fz d) v → Q v H'
      | .exc _ _ _ => True
      | .stuck => False) : RS g F.io F.body { nx := fun _ H' => Q .non H', rt := Q } (L2.start N vs) H := by
  have es : startE F ds = ds.map Sl.fz ++ List.replicate (F.sl - F.ar) .no := by unfold startE; rw [hio]
  have vl := dd.length
  have noown : ∀ i, ((startE F ds).at i).own = true → False := fun i hi => by
    rw [es] at hi
    have hne : Env.at (ds.map Sl.fz ++ List.replicate (F.sl - F.ar) .no) i ≠ .no := fun e => by rw [e] at hi; cases hi
    obtain ⟨d, _, e⟩ := startE_at (F := F) (xs := []) hne
    rw [e] at hi
    cases hi
  have r : Rel g.fa g.K H G none (startE F ds) (L2.start N vs) H := by
    refine ⟨?_, sp, fun _ _ e => e, fun i d e => ?_, fun i hi => (noown i hi).elim, fun i j a hi => (noown i hi).elim, fun a e => nomatch e⟩
    · rw [es]
      unfold L2.start
      simp only [List.length_append, List.length_map, List.length_replicate]
      omega
    · rw [es] at e
      obtain ⟨d', h1, h2⟩ := startE_at (F := F) (xs := []) (i := i) (ds := ds) (by rw [e]; simp)
      rw [e] at h2
      cases h2
      obtain ⟨v, h3, h4⟩ := dd.get h1
      exact ⟨v, start_get h3, h4⟩
  refine ⟨H, G, none, startE F ds, fun z => absurd rfl z, r, ?_⟩
  have grow : ∀ {e : Env} {σ' : L2.St} {H' G' : Hp}, Rel g.fa g.K H G' none e σ' H' → Ext H G G' → Grow G H G' H' := fun r x => ⟨r.fh, x.sup, r.gh, x.new⟩
  cases q : evS g.C F.body (startE F ds) with
  | stuck => rw [q] at h; exact h
  | exc k a e => exact fun σ' H' G' r x cls dd z => absurd z (hex _ _ _ _ _)
  | ok fl e =>
    rw [q] at h
    cases fl with
    | nx =>
      have e1 : endS F (.ok .nx e) = .ok .non false [] := by unfold endS; rw [hio]; rfl
      rw [e1] at h
      exact fun σ' H' G' r x => h .non H' G' (grow r x) .non
    | rt d fr =>
      have e1 : endS F (.ok (.rt d fr) e) = .ok d fr [] := by unfold endS; rw [hio]; rfl
      rw [e1] at h
      intro v σ' H' G' r x o
      refine h v H' G' (grow r x) ?_
      cases fr with
      | false => exact o
      | true =>
        obtain ⟨p, rfl, h1, h2, h3⟩ := o
        exact ⟨p, rfl, h2.1, h2.2, h1⟩
    | bk =>
      have e1 : endS F (.ok .bk e) = .stuck := by unfold endS; rw [hio]; rfl
      rw [e1] at h
      exact h.elim
    | ct =>
      have e1 : endS F (.ok .ct e) = .stuck := by unfold endS; rw [hio]; rfl
      rw [e1] at h
      exact h.elim
theorem run_io {g : Gh} {F : Fn} {xs ds : List D} {ws us : List V} {a : Addr} {N : List Str} {H G : Hp} {Q : VK} (hN : F.sl = N.length) (har : ds.length + 1 = F.ar) (hl : F.ar ≤ N.length) (hio : F.io = true) (sp : Sup G H) (ha : H a = some (.lst ws)) (dw : DgAll g.fa g.K G ws xs) (hG : G a = none) (dd : DgAll g.fa g.K G us ds) (hex : ∀ k a c d H, ¬ g.ex k a c d H)
    (h : match endS F (evS g.C F.body (startE F (.lst xs :: ds))) with
      | .ok d fr io => ∀ v H' G' ws', GrowI a G H G' H' → H' a = some (.lst ws') → DgAll g.fa g.K G' ws' io → RV g.fa g.K H G' H' (if fr then .fr d else .fz d) v → Q v H'
      | .exc _ _ _ => True
      | .stuck => False) : RS g F.io F.body { nx := fun _ H' => Q .non H', rt := Q } (L2.start N (.ref a :: us)) H := by
  have es : startE F (.lst xs :: ds) = .ow xs :: (ds.map Sl.fz ++ List.replicate (F.sl - F.ar) .no) := by unfold startE; rw [hio]; rfl
  have vl := dd.length
  have at0 : (startE F (.lst xs :: ds)).at 0 = .ow xs := by rw [es]; rfl
  have ats : ∀ i, (startE F (.lst xs :: ds)).at (i + 1) = Env.at (ds.map Sl.fz ++ List.replicate (F.sl - F.ar) .no) i := fun i => by rw [es]; rfl
  have own0 : ∀ i, ((startE F (.lst xs :: ds)).at i).own = true → i = 0 := fun i hi => by
    cases i with
    | zero => rfl
    | succ i =>
      rw [ats] at hi
      have hne : Env.at (ds.map Sl.fz ++ List.replicate (F.sl - F.ar) .no) i ≠ .no := fun e => by rw [e] at hi; cases hi
      obtain ⟨d, _, e⟩ := startE_at (F := F) (xs := []) hne
      rw [e] at hi
      cases hi
  generalize hF0 : (fun b => if b = a then none else H b : Hp) = F0
  have f0a : F0 a = none := by rw [← hF0]; exact if_pos rfl
  have f0b : ∀ b, b ≠ a → F0 b = H b := fun b hb => by rw [← hF0]; exact if_neg hb
  have r : Rel g.fa g.K F0 G (some a) (startE F (.lst xs :: ds)) (L2.start N (.ref a :: us)) H := by
    refine ⟨?_, sp, fun b u e => ?_, fun i d e => ?_, fun i hi => ?_, fun i j b hi hj _ _ => by rw [own0 i hi, own0 j hj], fun b e _ => by cases e; rfl⟩
    · rw [es]
      unfold L2.start
      simp only [List.length_cons, List.length_append, List.length_map, List.length_replicate]
      omega
    · have hb : b ≠ a := fun z => by rw [z, f0a] at e; cases e
      rw [f0b b hb] at e
      exact e
    · cases i with
      | zero => rw [at0] at e; cases e
      | succ i =>
        rw [ats] at e
        obtain ⟨d', h1, h2⟩ := startE_at (F := F) (xs := []) (i := i) (ds := ds) (by rw [e]; simp)
        rw [e] at h2
        cases h2
        obtain ⟨v, h3, h4⟩ := dd.get h1
        exact ⟨v, start_get (vs := .ref a :: us) (i := i + 1) (by simpa using h3), h4⟩
    · have := own0 i hi
      subst this
      rw [at0]
      exact ⟨a, rfl, ⟨ws, ha, dw⟩, f0a, hG⟩
  refine ⟨F0, G, some a, startE F (.lst xs :: ds), fun _ => hio, r, ?_⟩
  have grow : ∀ {e : Env} {σ' : L2.St} {H' G' : Hp} {zs : List D}, Rel g.fa g.K F0 G' (some a) e σ' H' → Ext F0 G G' → e.at 0 = .ow zs → GrowI a G H G' H' ∧ ∃ ws', H' a = some (.lst ws') ∧ DgAll g.fa g.K G' ws' zs := fun {e σ' H' G' zs} r x e0 => by
    obtain ⟨b, h1, h2, h3⟩ := r.own 0 (by rw [e0]; rfl)
    have h4 := r.io a rfl (by rw [e0]; rfl)
    rw [h4] at h1
    cases h1
    rw [e0] at h2
    obtain ⟨ws', h5, h6⟩ := h2
    refine ⟨⟨fun c u hc e => r.fh c u (by rw [f0b c hc]; exact e), x.sup, r.gh, fun c hc hg => ?_⟩, ws', h5, h6⟩
    by_cases q : c = a
    · rw [q]; exact h3.2
    · exact x.new c (by rw [f0b c q]; exact hc) hg
  cases q : evS g.C F.body (startE F (.lst xs :: ds)) with
  | stuck => rw [q] at h; exact h
  | exc k a e => exact fun σ' H' G' r x cls dd z => absurd z (hex _ _ _ _ _)
  | ok fl e =>
    rw [q] at h
    have st : ∀ fl, (∀ zs, e.at 0 ≠ .ow zs) → endS F (.ok fl e) = .stuck := fun fl hn => by
      have e2 : endIo F.io (e.at 0) = none := by
        rw [hio]
        cases e0 : e.at 0 with
        | ow zs => exact absurd e0 (hn zs)
        | _ => rfl
      show endFl fl (endIo F.io (e.at 0)) = .stuck
      rw [e2]
      cases fl <;> rfl
    by_cases hz : ∃ zs, e.at 0 = .ow zs
    · obtain ⟨zs, e0⟩ := hz
      cases fl with
      | nx =>
        have e1 : endS F (.ok .nx e) = .ok .non false zs := by show endFl .nx (endIo F.io (e.at 0)) = _; rw [hio, e0]; rfl
        rw [e1] at h
        intro σ' H' G' r x
        obtain ⟨gr, ws', h5, h6⟩ := grow r x e0
        exact h .non H' G' ws' gr h5 h6 .non
      | rt d fr =>
        have e1 : endS F (.ok (.rt d fr) e) = .ok d fr zs := by show endFl (.rt d fr) (endIo F.io (e.at 0)) = _; rw [hio, e0]; rfl
        rw [e1] at h
        intro v σ' H' G' r x o
        obtain ⟨gr, ws', h5, h6⟩ := grow r x e0
        refine h v H' G' ws' gr h5 h6 ?_
        cases fr with
        | false => exact o
        | true =>
          obtain ⟨p, rfl, h1, h2, h3⟩ := o
          refine ⟨p, rfl, ?_, h2.2, h1⟩
          have hp : p ≠ a := fun z => h3 0 (by rw [e0]; rfl) (by rw [z]; exact r.io a rfl (by rw [e0]; rfl))
          rw [← f0b p hp]
          exact h2.1
      | bk =>
        have e1 : endS F (.ok .bk e) = .stuck := by show endFl .bk (endIo F.io (e.at 0)) = _; rw [hio, e0]; rfl
        rw [e1] at h
        exact h.elim
      | ct =>
        have e1 : endS F (.ok .ct e) = .stuck := by show endFl .ct (endIo F.io (e.at 0)) = _; rw [hio, e0]; rfl
        rw [e1] at h
        exact h.elim
    · rw [st fl fun zs e => hz ⟨zs, e⟩] at h
      exact h.elim

theorem defs_ok (top : Top T fa K mg) : ∀ (n : Nat) (k : Nat) (d : Dat), T.defs[k]? = some d → ∀ fd, FunD K d.name d.qual d.params d.body d.scope [] [] (fa k) fd → FnOk P w K mg base (L2.CX P w) n (fa k) fd d.ps (spF (T.gh fa K n) k)
  | 0, k, d, hd, fd, hf => by
    have z : ∀ vs H Q E, spF (T.gh fa K 0) k vs H Q E → False := fun vs H Q E h => by
      unfold spF at h
      split at h
      · obtain ⟨_, _, _, _, _, _, _, _, _, _, _, _, h⟩ := h
        exact h
      · obtain ⟨_, _, _, _, h⟩ := h
        exact h
    exact ⟨fun vs H Q E h => (z _ _ _ _ h).elim, fun A outer s H args us vs Q E _ _ _ _ h => (z _ _ _ _ h).elim⟩
  | n + 1, k, d, hd, fd, hf => by
    obtain ⟨fd', hf', hb', S, hpos⟩ := top.fn k d hd
    have htab : T.tab k = some (.ir (T.fn d)) := by unfold Txt.tab; rw [hd]; rfl
    have hev : ∀ ds, evFn T.tab T.wf (n + 1) k ds = if ds.length = d.ps.length then endS (T.fn d) (evS (T.ec n) (T.fn d).body (startE (T.fn d) ds)) else .stuck := fun ds => by
      have e2 : (⟨evFn T.tab T.wf n, T.tab.io, T.wf⟩ : EC) = T.ec n := by
        unfold Txt.ec
        congr 1
        funext k
        exact T.io_eq k
      rw [evFn, htab]
      show (if ds.length = d.ps.length then endS (T.fn d) (evS ⟨evFn T.tab T.wf n, T.tab.io, T.wf⟩ (T.fn d).body (startE (T.fn d) ds)) else .stuck) = _
      rw [e2]
    have hioF : T.ioF k = d.io := by unfold Txt.ioF; rw [hd]
    have hps : d.ps.length ≤ d.N.length := by
      have := congrArg List.length S.pre
      rw [List.length_take] at this
      omega
    have hlen : ∀ vs H Q E, spF (T.gh fa K (n + 1)) k vs H Q E → vs.length = d.ps.length := fun vs H Q E h => by
      unfold spF at h
      split at h
      · obtain ⟨G, a, ws, us, xs, ds, rfl, _, _, _, _, dd, h⟩ := h
        have h : (match evFn T.tab T.wf (n + 1) k (.lst xs :: ds) with | .ok d fr io => _ | .exc k x io => _ | .stuck => False) := h
        rw [hev] at h
        by_cases q : (D.lst xs :: ds).length = d.ps.length
        · rw [← q, List.length_cons, List.length_cons, dd.length]
        · rw [if_neg q] at h; exact h.elim
      · obtain ⟨G, ds, _, dd, h⟩ := h
        have h : (match evFn T.tab T.wf (n + 1) k ds with | .ok d fr io => _ | .exc k x io => _ | .stuck => False) := h
        rw [hev] at h
        by_cases q : ds.length = d.ps.length
        · rw [← q, dd.length]
        · rw [if_neg q] at h; exact h.elim
    refine hf.ok S hlen fun cdv A outer s H vs Q E room hsp => ?_
    generalize hX : cxOf (L2.CX P w) P w K mg base d.N d.qual d.scope (fa k) cdv A outer s H E = X
    have own : Own X := by
      rw [← hX]
      exact passes_of rfl
    have ok : Ok X (T.cc d) (T.gh fa K n) := by
      subst hX
      refine ⟨rfl, rfl, rfl, rfl, S.nd, fun x v hv => ?_, fun k => rfl, ?_, fun _ _ _ _ h => h, fun _ _ => rfl⟩
      · have := top.gl x v hv
        cases v with
        | fn j =>
          obtain ⟨h1, h2⟩ := this
          have hj := List.getElem?_eq_getElem h2
          obtain ⟨fd2, f2, b2, _⟩ := top.fn j _ hj
          exact ⟨h1, f2.kp, fd2, _, n, defs_ok top n j _ hj fd2 f2, room, b2⟩
        | cst d => exact this
        | bi b => exact this
        | exc k => trivial
      · have := room.un
        show (A.deeper _).units + 65 < cLine
        omega
    refine ⟨RS (T.gh fa K n) d.io (T.fn d).body, cSs_ok (cS_ok _ T.m T.m) ok own d.body, ?_⟩
    unfold spF at hsp
    by_cases hi : T.ioF k = true
    · rw [if_pos (show (T.gh fa K (n + 1)).C.io k = true from hi)] at hsp
      obtain ⟨G, a, ws, us, xs, ds, rfl, sp, ha, dw, hG, dd, h⟩ := hsp
      have h : (match evFn T.tab T.wf (n + 1) k (.lst xs :: ds) with
        | .ok d fr io => ∀ v H' G' ws', GrowI a G H G' H' → H' a = some (.lst ws') → DgAll fa K G' ws' io → RV fa K H G' H' (if fr then .fr d else .fz d) v → Q v H'
        | .exc k x io => ∀ cls dd H' G' ws', GrowI a G H G' H' → H' a = some (.lst ws') → DgAll fa K G' ws' io → False → E cls dd H'
        | .stuck => False) := h
      rw [hev] at h
      by_cases q : (D.lst xs :: ds).length = d.ps.length
      · rw [if_pos q] at h
        refine run_io (g := T.gh fa K n) (F := T.fn d) rfl q hps (show d.io = true by rw [← hioF]; exact hi) sp ha dw hG dd (fun _ _ _ _ _ h => h) ?_
        show (match endS (T.fn d) (evS (T.ec n) (T.fn d).body (startE (T.fn d) (.lst xs :: ds))) with | .ok d fr io => _ | .exc _ _ _ => True | .stuck => False)
        cases qe : endS (T.fn d) (evS (T.ec n) (T.fn d).body (startE (T.fn d) (.lst xs :: ds))) with
        | stuck => rw [qe] at h; exact h
        | exc _ _ _ => trivial
        | ok d2 fr io => rw [qe] at h; exact h
      · rw [if_neg q] at h; exact h.elim
    · rw [if_neg (show ¬ (T.gh fa K (n + 1)).C.io k = true from hi)] at hsp
      obtain ⟨G, ds, sp, dd, h⟩ := hsp
      have h : (match evFn T.tab T.wf (n + 1) k ds with
        | .ok d fr _ => ∀ v H' G', Grow G H G' H' → RV fa K H G' H' (if fr then .fr d else .fz d) v → Q v H'
        | .exc k a _ => ∀ cls dd H' G', Grow G H G' H' → False → E cls dd H'
        | .stuck => False) := h
      rw [hev] at h
      by_cases q : ds.length = d.ps.length
      · rw [if_pos q] at h
        refine run_plain (g := T.gh fa K n) (F := T.fn d) rfl q hps (show d.io = false by rw [← hioF]; simpa using hi) sp dd (fun _ _ _ _ _ h => h) ?_
        show (match endS (T.fn d) (evS (T.ec n) (T.fn d).body (startE (T.fn d) ds)) with | .ok d fr _ => _ | .exc _ _ _ => True | .stuck => False)
        cases qe : endS (T.fn d) (evS (T.ec n) (T.fn d).body (startE (T.fn d) ds)) with
        | stuck => rw [qe] at h; exact h
        | exc _ _ _ => trivial
        | ok d2 fr io => rw [qe] at h; exact h
      · rw [if_neg q] at h; exact h.elim
end
end Ev
end
section
set_option linter.all false
set_option maxRecDepth 100000
namespace Ev
open PySem PySem.Spec PyProof.Rows L2

def Dat.dd (d : Dat) : He.DefD := ⟨(d.name, none), d.name, d.qual, d.params, d.body, d.scope, [], []⟩
def Txt.ddl (T : Txt) : List He.DefD := T.defs.map Dat.dd
def faGlo (x : Str) : He.Fa → Bool
  | .glo y => x == y
  | _ => false
def faFree (x : Str) : He.Fa → Bool
  | .free y => x == y
  | _ => false
def faInt (x : Str) (i : Int) : He.Fa → Bool
  | .int y j => x == y && decide (i = j)
  | _ => false
def faStr (x z : Str) : He.Fa → Bool
  | .str y u => x == y && decide (z = u)
  | _ => false
def sameD : D → D → Bool
  | .int i, .int j => decide (i = j)
  | .str x, .str y => decide (x = y)
  | .bl a, .bl b => decide (a = b)
  | _, _ => false
def sameDs : List D → List D → Bool
  | [], [] => true
  | d :: ds, e :: es => sameD d e && sameDs ds es
  | _, _ => false
theorem sameDs_eq : ∀ {ds es : List D}, sameDs ds es = true → ds = es
  | [], [], _ => rfl
  | [], _ :: _, h => by cases h
  | _ :: _, [], h => by cases h
  | d :: ds, e :: es, h => by
    rw [sameDs, Bool.and_eq_true] at h
    rw [sameDs_eq h.2]
    congr 1
    cases d <;> cases e <;> first | (cases h.1; done) | skip
    all_goals rw [of_decide_eq_true h.1]
theorem relDs_ok {fa : Nat → Addr} {K : PySem.W.Frag} : ∀ {ds : List D} {us : List Value}, relDs ds us = true → ∃ vs, Vals vs us ∧ ∀ G, DgAll fa K G vs ds
  | [], [], _ => ⟨[], .nil, fun G => .nil⟩
  | [], _ :: _, h => by cases h
  | _ :: _, [], h => by cases h
  | d :: ds, u :: us, h => by
    rw [relDs, Bool.and_eq_true] at h
    obtain ⟨vs, h1, h2⟩ := relDs_ok (fa := fa) (K := K) h.2
    cases d <;> cases u <;> first | (cases h.1; done) | skip
    · rw [of_decide_eq_true h.1]
      exact ⟨_ :: vs, .cons (show L2.RelV (.bl _) _ from rfl) h1, fun G => .cons (.bl _) (h2 G)⟩
    · rw [of_decide_eq_true h.1]
      exact ⟨_ :: vs, .cons (show L2.RelV (.int _) _ from ⟨_, rfl⟩) h1, fun G => .cons (.int _) (h2 G)⟩
    · rw [of_decide_eq_true h.1]
      exact ⟨_ :: vs, .cons (show L2.RelV (.str _) _ from ⟨_, rfl⟩) h1, fun G => .cons (.str _) (h2 G)⟩
theorem tupK_ok {fa : Nat → Addr} {K : PySem.W.Frag} {p : Str × List D} (h : tupK K p = true) (G : Hp) : Dg fa K G (.ref (He.ga K p.1)) (.tup p.2) := by
  unfold tupK at h
  cases q : K.lookup (He.ga K p.1) with
  | none => rw [q] at h; cases h
  | some o =>
    obtain ⟨oc, od, dt, osl⟩ := o
    rw [q] at h
    cases oc with
    | type c =>
      cases od with
      | none =>
        cases dt with
        | seq its n =>
          have h : (decide (c = "tuple") && (decide (its.size ≤ sizeLine) && relDs p.2 its.toList)) = true := h
          rw [Bool.and_eq_true, Bool.and_eq_true] at h
          obtain ⟨h1, h2, h3⟩ := h
          obtain ⟨vs, v1, v2⟩ := relDs_ok (fa := fa) (K := K) h3
          exact .tup (.inr ⟨_, its, n, q, congrArg Value.type (of_decide_eq_true h1), rfl, rfl, of_decide_eq_true h2, v1⟩) (v2 G)
        | _ => cases h
      | some a => cases dt <;> cases h
    | _ => cases od <;> cases dt <;> cases h
def isFnKind : ScopeKind → Bool
  | .function => true
  | _ => false
def isLoc : Option NameKind → Bool
  | some .local => true
  | some .cell => true
  | _ => false
def isFreeK : NameKind → Bool
  | .free => true
  | _ => false
def Dat.okB (d : Dat) : Bool :=
  isFnKind d.scope.kind && !d.scope.isCoroutine && !d.scope.isGenerator && decide d.N.Nodup && decide (d.N.take d.ps.length = d.ps) &&
  d.ps.all (fun x => isLoc (d.scope.names.lookup x)) && d.scope.names.all (fun y => !isFreeK y.2) && (!d.io || decide (0 < d.ps.length))
theorem okB_scope {d : Dat} (h : d.okB = true) : FnScope d.N d.ps d.scope ∧ (d.io = true → 0 < d.ps.length) := by
  unfold Dat.okB at h
  simp only [Bool.and_eq_true, Bool.not_eq_true', decide_eq_true_eq, List.all_eq_true, Bool.or_eq_true] at h
  obtain ⟨⟨⟨⟨⟨⟨⟨h1, h2⟩, h3⟩, h4⟩, h5⟩, h6⟩, h7⟩, h8⟩ := h
  refine ⟨⟨?_, h2, h3, h4, h5, fun x hx => ?_, fun y hy e => ?_⟩, fun e => ?_⟩
  · unfold isFnKind at h1
    split at h1
    · assumption
    · cases h1
  · have := h6 x hx
    unfold isLoc at this
    split at this
    · exact .inl ‹_›
    · exact .inr ‹_›
    · cases this
  · have := h7 y hy
    rw [e] at this
    cases this
  · rcases h8 with h8 | h8
    · rw [e] at h8; cases h8
    · exact h8
def glB (fa : List He.Fa) (tc : List (Str × List D)) (T : Txt) : Str × GV → Bool
  | (x, .fn k) => (match T.defs[k]? with
    | some d => d.name == x
    | none => false) && fa.any (faGlo x)
  | (x, .cst (.int i)) => fa.any (faInt x i)
  | (x, .cst (.str z)) => fa.any (faStr x z)
  | (x, .cst (.tup ds)) => fa.any (faGlo x) && tc.any fun p => p.1 == x && sameDs p.2 ds
  | (_, .cst _) => false
  | (x, .bi b) => (match biNames[b]? with
    | some y => x == Str.ofString y
    | none => false) && fa.any (faFree x)
  | (_, .exc _) => true
def BindP (d : Dat) : Prop := ∀ (kV doc pm : Value) (an : Option Addr) (cdv ct : Value) (us : List Value), us.length = d.ps.length → bindArgs (PySem.W.fnOf d.name d.qual d.params d.body d.scope .none kV doc pm an cdv ct) ⟨us, []⟩ = pure (d.ps.zip us)
inductive AllB : List Dat → Prop
  | nil : AllB []
  | cons {d l} : BindP d → AllB l → AllB (d :: l)
theorem AllB.app {l m : List Dat} (h : AllB l) (k : AllB m) : AllB (l ++ m) := by
  induction h with
  | nil => exact k
  | cons b _ ih => exact .cons b ih
theorem AllB.mem {l : List Dat} (h : AllB l) : ∀ d ∈ l, BindP d := by
  induction h with
  | nil => exact fun _ h => nomatch h
  | cons b _ ih =>
    intro d hd
    rcases List.mem_cons.mp hd with rfl | hd
    · exact b
    · exact ih d hd
theorem any_at {α : Type} {p : α → Bool} {l : List α} (h : l.any p = true) : ∃ (i : Nat) (x : α), l[i]? = some x ∧ p x = true := by
  obtain ⟨x, h1, h2⟩ := List.any_eq_true.mp h
  obtain ⟨i, hi, e⟩ := List.getElem_of_mem h1
  exact ⟨i, x, by rw [List.getElem?_eq_getElem hi, e], h2⟩
theorem lookup_mem {α : Type} {l : List (Str × α)} {x : Str} {v : α} (h : l.lookup x = some v) : (x, v) ∈ l := by
  induction l with
  | nil => cases h
  | cons p l ih =>
    obtain ⟨y, u⟩ := p
    rw [List.lookup_cons] at h
    split at h
    · rename_i e
      cases h
      rw [LawfulBEq.eq_of_beq e]
      exact List.mem_cons_self
    · exact List.mem_cons_of_mem _ (ih h)
section
variable {T : Txt} {FA : List He.Fa} {TC : List (Str × List D)} {K : PySem.W.Frag} {h : Heap} {mg : Str → Option Value}
theorem fa_glo (X : K.In h) (G : h.Ns mainGlobals mg) (c : He.SaysD FA T.ddl K) {x : Str} (e : FA.any (faGlo x) = true) : mg x = some (.ref (He.ga K x)) := by
  obtain ⟨i, f, h1, h2⟩ := any_at e
  cases f with
  | glo y =>
    obtain rfl : x = y := LawfulBEq.eq_of_beq h2
    exact He.glo_ok X G (c.fact i h1)
  | _ => cases h2
theorem fa_free (X : K.In h) (G : h.Ns mainGlobals mg) (c : He.SaysD FA T.ddl K) {x : Str} (e : FA.any (faFree x) = true) : mg x = none := by
  obtain ⟨i, f, h1, h2⟩ := any_at e
  cases f with
  | free y =>
    obtain rfl : x = y := LawfulBEq.eq_of_beq h2
    exact He.free_ok X G (c.fact i h1)
  | _ => cases h2
theorem fa_int (X : K.In h) (G : h.Ns mainGlobals mg) (c : He.SaysD FA T.ddl K) {x : Str} {j : Int} (e : FA.any (faInt x j) = true) : ∃ t, mg x = some (.int j t) := by
  obtain ⟨i, f, h1, h2⟩ := any_at e
  cases f with
  | int y k =>
    unfold faInt at h2
    rw [Bool.and_eq_true, decide_eq_true_eq] at h2
    obtain rfl : x = y := LawfulBEq.eq_of_beq h2.1
    obtain rfl := h2.2
    exact He.int_ok X G (c.fact i h1)
  | _ => cases h2
theorem fa_str (X : K.In h) (G : h.Ns mainGlobals mg) (c : He.SaysD FA T.ddl K) {x z : Str} (e : FA.any (faStr x z) = true) : ∃ t, mg x = some (.str z t) := by
  obtain ⟨i, f, h1, h2⟩ := any_at e
  cases f with
  | str y u =>
    unfold faStr at h2
    rw [Bool.and_eq_true, decide_eq_true_eq] at h2
    obtain rfl : x = y := LawfulBEq.eq_of_beq h2.1
    obtain rfl := h2.2
    exact He.str_ok X G (c.fact i h1)
  | _ => cases h2
def Txt.fa (T : Txt) (K : PySem.W.Frag) (k : Nat) : Addr := He.ga K ((T.defs[k]?.map Dat.name).getD Str.empty)
theorem Top.of (X : K.In h) (G : h.Ns mainGlobals mg) (c : He.SaysD FA T.ddl K) (ct : TC.all (tupK K) = true) (hd : T.defs.all Dat.okB = true) (hg : T.gl.all (glB FA TC T) = true) (hb : AllB T.defs) : Top T (T.fa K) K mg := by
  refine ⟨fun k d e => ?_, fun x v e => ?_⟩
  · have e2 : T.ddl[k]? = some d.dd := by
      unfold Txt.ddl
      rw [List.getElem?_map, e]
      rfl
    obtain ⟨fd, F⟩ := c.def_ k e2
    have ea : T.fa K k = He.fAd K d.dd.at_ := by
      unfold Txt.fa
      rw [e]
      rfl
    rw [ea]
    have hm : d ∈ T.defs := by
      obtain ⟨hi, e⟩ := List.getElem?_eq_some_iff.mp e
      rw [← e]
      exact List.getElem_mem hi
    have F2 : FunD K d.name d.qual d.params d.body d.scope [] [] (He.fAd K d.dd.at_) fd := F
    obtain ⟨s1, s2⟩ := okB_scope (List.all_eq_true.mp hd d hm)
    exact ⟨fd, F2, F2.bindsN (hb.mem d hm), s1, s2⟩
  · have := List.all_eq_true.mp hg _ (lookup_mem e)
    cases v with
    | fn k =>
      simp only [glB, Bool.and_eq_true] at this
      obtain ⟨h1, h2⟩ := this
      cases q : T.defs[k]? with
      | none => rw [q] at h1; cases h1
      | some d =>
        rw [q] at h1
        have e3 : d.name = x := LawfulBEq.eq_of_beq h1
        refine ⟨?_, (List.getElem?_eq_some_iff.mp q).1⟩
        unfold Txt.fa
        rw [q]
        show mg x = some (.ref (He.ga K d.name))
        rw [e3]
        exact fa_glo X G c h2
    | cst d =>
      cases d with
      | int i =>
        obtain ⟨t, ht⟩ := fa_int X G c (j := i) this
        exact ⟨_, .int i, ht, ⟨t, rfl⟩, fun G => .int i⟩
      | str z =>
        obtain ⟨t, ht⟩ := fa_str X G c (z := z) this
        exact ⟨_, .str z, ht, ⟨t, rfl⟩, fun G => .str z⟩
      | tup ds =>
        have this : (FA.any (faGlo x) && TC.any fun p => p.1 == x && sameDs p.2 ds) = true := this
        rw [Bool.and_eq_true] at this
        obtain ⟨i, p, h1, h2⟩ := any_at this.2
        rw [Bool.and_eq_true] at h2
        obtain rfl : p.1 = x := LawfulBEq.eq_of_beq h2.1
        obtain rfl := sameDs_eq h2.2
        exact ⟨_, .ref (He.ga K p.1), fa_glo X G c this.1, rfl, fun G => tupK_ok (List.all_eq_true.mp ct p (List.mem_of_getElem? h1)) G⟩
      | _ => cases this
    | bi b =>
      simp only [glB, Bool.and_eq_true] at this
      obtain ⟨h1, h2⟩ := this
      refine ⟨fa_free X G c h2, ?_⟩
      cases q : biNames[b]? with
      | none => rw [q] at h1; cases h1
      | some y =>
        rw [q] at h1
        exact ⟨y, rfl, LawfulBEq.eq_of_beq h1⟩
    | exc _ => trivial
theorem law_F {P : Program} {w : World} {n L : Nat} {dL : Dat} {fa0 : Addr} {x : Str} (X : K.In h) (G : h.Ns mainGlobals mg) (c : He.SaysD FA T.ddl K) (ct : TC.all (tupK K) = true) (hd : T.defs.all Dat.okB = true) (hg : T.gl.all (glB FA TC T) = true) (hb : AllB T.defs)
    (hL : T.defs[L]? = some dL) (hps : dL.ps = [x]) (hio : dL.io = false) (hfa : FA.any (faGlo dL.name) = true) (hmg : mg dL.name = some (.ref fa0))
    (hev : ∀ ns : List Int, ns.length ≤ 63 → ∃ io, evFn T.tab T.wf n L [.ro ns] = .ok (.bl true) false io) :
    ∃ (K : PySem.W.Frag) (fd : FuncData) (sp : Sp), K.In h ∧ (∀ (s : Shared) (u : Value), BindsTo s fd ⟨[u], []⟩ [(x, u)]) ∧
      (∀ (H : Hp) (a : Addr) (ns : List Int), ns.length ≤ 63 → Only H → SqL K H a (ns.map V.int) → sp [.ref a] H (fun v _ => v = .bl true) fun _ _ _ => False) ∧
      ∀ base : Heap, K.In base → base.Ns mainGlobals mg → FnOk P w K mg base (L2.CX P w) n fa0 fd [x] sp := by
  have top : Top T (T.fa K) K mg := Top.of X G c ct hd hg hb
  obtain ⟨fd, F, B, S, _⟩ := top.fn L dL hL
  have e : T.fa K L = fa0 := by
    have h1 := fa_glo X G c hfa
    rw [hmg] at h1
    unfold Txt.fa
    rw [hL]
    show He.ga K dL.name = fa0
    cases h1
    rfl
  have hm : dL ∈ T.defs := by
    obtain ⟨hi, e⟩ := List.getElem?_eq_some_iff.mp hL
    rw [← e]
    exact List.getElem_mem hi
  have b := FunD.bindsA F (hb.mem dL hm)
  rw [hps] at b
  refine ⟨K, fd, spF (T.gh (T.fa K) K n) L, X, fun s u => b s [u] rfl, fun H a ns hl ho hS => ?_, fun base _ _ => ?_⟩
  · have hi : (T.gh (T.fa K) K n).C.io L = false := by
      show T.ioF L = false
      unfold Txt.ioF
      rw [hL]
      exact hio
    obtain ⟨io, hE⟩ := hev ns hl
    unfold spF
    rw [if_neg (by rw [hi]; exact Bool.false_ne_true)]
    refine ⟨H, [.ro ns], Sup.refl H, .cons (.ro hS) .nil, ?_⟩
    · show (match evFn T.tab T.wf n L [.ro ns] with | .ok d fr _ => _ | .exc k a _ => _ | .stuck => False)
      rw [hE]
      intro v H' G' _ r
      cases r
      rfl
  · rw [← hps, ← e]
    exact defs_ok top n L dL hL fd F
end
theorem law_walk {l : PySem.W.OpenLaw} {T : Txt} {FA : List He.Fa} {TC : List (Str × List D)} {q : Program} {loose : List Str}
    {XP : (Str → Option Value) → Heap → Prop} {YP : World → Heap → Prop}
    {d : DefRec} {n L : Nat} {dL : Dat} {x : Str}
    (hn : l.most = some 63) (hdf : d.params.defaults = []) (hr : Room n callerA)
    (hY : ∀ w h, YP w h → ∃ K : PySem.W.Frag, K.In h ∧ He.SaysD FA T.ddl K ∧ TC.all (tupK K) = true) (hdn : d.name = dL.name)
    (hd : T.defs.all Dat.okB = true) (hg : T.gl.all (glB FA TC T) = true) (hb : AllB T.defs)
    (hL : T.defs[L]? = some dL) (hps : dL.ps = [x]) (hio : dL.io = false) (hfa : FA.any (faGlo dL.name) = true)
    (hev : ∀ ns : List Int, ns.length ≤ 63 → ∃ io, evFn T.tab T.wf n L [.ro ns] = .ok (.bl true) false io) :
    PySem.W.WalkO q loose XP YP l.row.toRowW d [] (fun f vs => PySem.call f vs) := by
  refine Att.attach_call hn hdf ?_
  intro w s₀ s₁ mg mb fa0 o pm cd doc a vs ns Gd Y _ _ _ hmg hobj hints hlen hgens
  obtain ⟨K, KX, c, ct⟩ := hY w _ Y
  rw [hdn] at hmg
  obtain ⟨K2, fd, sp, KX2, bs, hs, hF⟩ := law_F (P := l.prog) (w := w) KX Gd.T.g c ct hd hg hb hL hps hio hfa hmg hev
  refine law_call KX2 Gd.T.g Gd.T.b Gd.T.builtins Gd.T.nolimit hgens hobj hints
    (Nat.le_trans hlen (by decide)) hr hF bs (fun H ho hS => hs H a ns hlen ho hS) ?_
  intro H e s' z
  obtain ⟨_, _, _, _, _, _, _, _, _, _, _, _, z⟩ := z
  exact z
end Ev
end
section
set_option Elab.async false
set_option linter.all false
set_option maxRecDepth 100000
set_option maxHeartbeats 0
namespace Hd
open PySem PySem.Spec PyProof.Rows L2 Ev
def d0 : Dat := ⟨(Str.ofString "is_number"), (Str.ofString "is_number"), defArgs (top 5), defBody (top 5), defScope (top 5), [(Str.ofString "thing")], [(Str.ofString "thing")], false⟩
def d1 : Dat := ⟨(Str.ofString "is_within"), (Str.ofString "is_within"), defArgs (top 6), defBody (top 6), defScope (top 6), [(Str.ofString "thing"), (Str.ofString "least"), (Str.ofString "most")], [(Str.ofString "thing"), (Str.ofString "least"), (Str.ofString "most")], false⟩
def d2 : Dat := ⟨(Str.ofString "is_long"), (Str.ofString "is_long"), defArgs (top 7), defBody (top 7), defScope (top 7), [(Str.ofString "thing"), (Str.ofString "length")], [(Str.ofString "thing"), (Str.ofString "length")], false⟩
def d3 : Dat := ⟨(Str.ofString "are_within"), (Str.ofString "are_within"), defArgs (top 8), defBody (top 8), defScope (top 8), [(Str.ofString "thing"), (Str.ofString "least"), (Str.ofString "most"), (Str.ofString "own")], [(Str.ofString "thing"), (Str.ofString "least"), (Str.ofString "most")], false⟩
def d4 : Dat := ⟨(Str.ofString "ascends"), (Str.ofString "ascends"), defArgs (top 9), defBody (top 9), defScope (top 9), [(Str.ofString "row"), (Str.ofString "one"), (Str.ofString "other")], [(Str.ofString "row")], false⟩
def d5 : Dat := ⟨(Str.ofString "tupled"), (Str.ofString "tupled"), defArgs (top 10), defBody (top 10), defScope (top 10), [(Str.ofString "value"), (Str.ofString "own")], [(Str.ofString "value")], false⟩
def d6 : Dat := ⟨(Str.ofString "are_pairs"), (Str.ofString "are_pairs"), defArgs (top 15), defBody (top 15), defScope (top 15), [(Str.ofString "thing"), (Str.ofString "many"), (Str.ofString "own"), (Str.ofString "one"), (Str.ofString "other")], [(Str.ofString "thing"), (Str.ofString "many")], false⟩
def d7 : Dat := ⟨(Str.ofString "is_order_in"), (Str.ofString "is_order_in"), defArgs (top 16), defBody (top 16), defScope (top 16), [(Str.ofString "thing"), (Str.ofString "below"), (Str.ofString "one"), (Str.ofString "two"), (Str.ofString "own")], [(Str.ofString "thing")], false⟩
def d8 : Dat := ⟨(Str.ofString "above_in"), (Str.ofString "above_in"), defArgs (top 17), defBody (top 17), defScope (top 17), [(Str.ofString "order"), (Str.ofString "thing"), (Str.ofString "one"), (Str.ofString "other")], [(Str.ofString "order"), (Str.ofString "thing")], false⟩
def d9 : Dat := ⟨(Str.ofString "under_in"), (Str.ofString "under_in"), defArgs (top 18), defBody (top 18), defScope (top 18), [(Str.ofString "order"), (Str.ofString "thing"), (Str.ofString "one"), (Str.ofString "other")], [(Str.ofString "order"), (Str.ofString "thing")], false⟩
def d10 : Dat := ⟨(Str.ofString "sure_order"), (Str.ofString "sure_order"), defArgs (top 19), defBody (top 19), defScope (top 19), [(Str.ofString "value"), (Str.ofString "own")], [(Str.ofString "value")], false⟩
def d11 : Dat := ⟨(Str.ofString "apart_in"), (Str.ofString "apart_in"), defArgs (top 20), defBody (top 20), defScope (top 20), [(Str.ofString "order"), (Str.ofString "below"), (Str.ofString "x"), (Str.ofString "y"), (Str.ofString "z"), (Str.ofString "w")], [(Str.ofString "order")], false⟩
def d12 : Dat := ⟨(Str.ofString "ranked"), (Str.ofString "ranked"), defArgs (top 21), defBody (top 21), defScope (top 21), [(Str.ofString "lots"), (Str.ofString "falling"), (Str.ofString "rows"), (Str.ofString "own"), (Str.ofString "found"), (Str.ofString "many")], [(Str.ofString "lots"), (Str.ofString "falling")], false⟩
def d13 : Dat := ⟨(Str.ofString "stretches_in"), (Str.ofString "stretches_in"), defArgs (top 22), defBody (top 22), defScope (top 22), [(Str.ofString "order"), (Str.ofString "unders"), (Str.ofString "own"), (Str.ofString "aboves"), (Str.ofString "low"), (Str.ofString "high"), (Str.ofString "one"), (Str.ofString "two")], [(Str.ofString "order")], false⟩
def d14 : Dat := ⟨(Str.ofString "are_stretches_in"), (Str.ofString "are_stretches_in"), defArgs (top 23), defBody (top 23), defScope (top 23), [(Str.ofString "thing"), (Str.ofString "own")], [(Str.ofString "thing")], false⟩
def d15 : Dat := ⟨(Str.ofString "sure_stretches"), (Str.ofString "sure_stretches"), defArgs (top 24), defBody (top 24), defScope (top 24), [(Str.ofString "value"), (Str.ofString "own")], [(Str.ofString "value")], false⟩
def d16 : Dat := ⟨(Str.ofString "order_in"), (Str.ofString "order_in"), defArgs (top 25), defBody (top 25), defScope (top 25), [(Str.ofString "stretches"), (Str.ofString "many"), (Str.ofString "rows"), (Str.ofString "x"), (Str.ofString "y")], [(Str.ofString "stretches")], false⟩
def d17 : Dat := ⟨(Str.ofString "is_tight_in"), (Str.ofString "is_tight_in"), defArgs (top 26), defBody (top 26), defScope (top 26), [(Str.ofString "stretches"), (Str.ofString "most"), (Str.ofString "own"), (Str.ofString "ends")], [(Str.ofString "stretches")], false⟩
def d18 : Dat := ⟨(Str.ofString "sure_fitting"), (Str.ofString "sure_fitting"), defArgs (top 27), defBody (top 27), defScope (top 27), [(Str.ofString "value"), (Str.ofString "own")], [(Str.ofString "value")], false⟩
def d19 : Dat := ⟨(Str.ofString "fits"), (Str.ofString "fits"), defArgs (top 28), defBody (top 28), defScope (top 28), [(Str.ofString "order")], [(Str.ofString "order")], false⟩
def d20 : Dat := ⟨(Str.ofString "stretches_of"), (Str.ofString "stretches_of"), defArgs (top 29), defBody (top 29), defScope (top 29), [(Str.ofString "order")], [(Str.ofString "order")], false⟩
def d21 : Dat := ⟨(Str.ofString "order_of"), (Str.ofString "order_of"), defArgs (top 30), defBody (top 30), defScope (top 30), [(Str.ofString "stretches"), (Str.ofString "own")], [(Str.ofString "stretches")], false⟩
def d22 : Dat := ⟨(Str.ofString "are_tight"), (Str.ofString "are_tight"), defArgs (top 31), defBody (top 31), defScope (top 31), [(Str.ofString "stretches")], [(Str.ofString "stretches")], false⟩
def d23 : Dat := ⟨(Str.ofString "tightened"), (Str.ofString "tightened"), defArgs (top 32), defBody (top 32), defScope (top 32), [(Str.ofString "stretches")], [(Str.ofString "stretches")], false⟩
def d24 : Dat := ⟨(Str.ofString "_law_box"), (Str.ofString "_law_box"), defArgs (top 34), defBody (top 34), defScope (top 34), [(Str.ofString "script"), (Str.ofString "k"), (Str.ofString "bit_so")], [(Str.ofString "script"), (Str.ofString "k")], false⟩
def d25 : Dat := ⟨(Str.ofString "_law_take"), (Str.ofString "_law_take"), defArgs (top 35), defBody (top 35), defScope (top 35), [(Str.ofString "tin"), (Str.ofString "below_so"), (Str.ofString "drawn_so"), (Str.ofString "once_so"), (Str.ofString "wide_so"), (Str.ofString "twice_so")], [(Str.ofString "tin"), (Str.ofString "below_so")], true⟩
def d26 : Dat := ⟨(Str.ofString "_law_cells"), (Str.ofString "_law_cells"), defArgs (top 36), defBody (top 36), defScope (top 36), [(Str.ofString "script"), (Str.ofString "most_so"), (Str.ofString "cells_so"), (Str.ofString "k"), (Str.ofString "bit_so"), (Str.ofString "at_so")], [(Str.ofString "script"), (Str.ofString "most_so")], false⟩
def d27 : Dat := ⟨(Str.ofString "_law_of"), (Str.ofString "_law_of"), defArgs (top 37), defBody (top 37), defScope (top 37), [(Str.ofString "tin"), (Str.ofString "goods_so")], [(Str.ofString "tin"), (Str.ofString "goods_so")], true⟩
def d28 : Dat := ⟨(Str.ofString "_law_same"), (Str.ofString "_law_same"), defArgs (top 38), defBody (top 38), defScope (top 38), [(Str.ofString "got"), (Str.ofString "due"), (Str.ofString "mine"), (Str.ofString "its")], [(Str.ofString "got"), (Str.ofString "due")], false⟩
def d29 : Dat := ⟨(Str.ofString "_law_flat"), (Str.ofString "_law_flat"), defArgs (top 39), defBody (top 39), defScope (top 39), [(Str.ofString "rows_so"), (Str.ofString "found"), (Str.ofString "own")], [(Str.ofString "rows_so")], false⟩
def d30 : Dat := ⟨(Str.ofString "_law_below"), (Str.ofString "_law_below"), defArgs (top 40), defBody (top 40), defScope (top 40), [(Str.ofString "stretches_so"), (Str.ofString "many_so"), (Str.ofString "y"), (Str.ofString "x")], [(Str.ofString "stretches_so")], false⟩
def d31 : Dat := ⟨(Str.ofString "_law_lots"), (Str.ofString "_law_lots"), defArgs (top 41), defBody (top 41), defScope (top 41), [(Str.ofString "order_so"), (Str.ofString "side_so"), (Str.ofString "own"), (Str.ofString "x")], [(Str.ofString "order_so"), (Str.ofString "side_so")], false⟩
def d32 : Dat := ⟨(Str.ofString "_law_places"), (Str.ofString "_law_places"), defArgs (top 42), defBody (top 42), defScope (top 42), [(Str.ofString "lots_so"), (Str.ofString "most_first"), (Str.ofString "sizes_so"), (Str.ofString "own")], [(Str.ofString "lots_so"), (Str.ofString "most_first")], false⟩
def d33 : Dat := ⟨(Str.ofString "_law_lap_one"), (Str.ofString "_law_lap_one"), defArgs (top 43), defBody (top 43), defScope (top 43), [(Str.ofString "tin"), (Str.ofString "many_so"), (Str.ofString "stretches_so"), (Str.ofString "wide_so"), (Str.ofString "k"), (Str.ofString "a"), (Str.ofString "order_so"), (Str.ofString "unders_so"), (Str.ofString "aboves_so"), (Str.ofString "rows_so"), (Str.ofString "kinds_so"), (Str.ofString "own"), (Str.ofString "its"), (Str.ofString "x"), (Str.ofString "due"), (Str.ofString "b"), (Str.ofString "line_so"), (Str.ofString "ends_so"), (Str.ofString "far_so")], [(Str.ofString "tin")], true⟩
def d34 : Dat := ⟨(Str.ofString "law"), (Str.ofString "law"), defArgs (top 44), defBody (top 44), defScope (top 44), [(Str.ofString "script"), (Str.ofString "tin"), (Str.ofString "lap"), (Str.ofString "got")], [(Str.ofString "script")], false⟩
theorem b0 : BindP d0 := fun _ _ _ _ _ _ us hl => match us, hl with | [_], _ => rfl
theorem b1 : BindP d1 := fun _ _ _ _ _ _ us hl => match us, hl with | [_, _, _], _ => rfl
theorem b2 : BindP d2 := fun _ _ _ _ _ _ us hl => match us, hl with | [_, _], _ => rfl
theorem b3 : BindP d3 := fun _ _ _ _ _ _ us hl => match us, hl with | [_, _, _], _ => rfl
theorem b4 : BindP d4 := fun _ _ _ _ _ _ us hl => match us, hl with | [_], _ => rfl
theorem b5 : BindP d5 := fun _ _ _ _ _ _ us hl => match us, hl with | [_], _ => rfl
theorem b6 : BindP d6 := fun _ _ _ _ _ _ us hl => match us, hl with | [_, _], _ => rfl
theorem b7 : BindP d7 := fun _ _ _ _ _ _ us hl => match us, hl with | [_], _ => rfl
theorem b8 : BindP d8 := fun _ _ _ _ _ _ us hl => match us, hl with | [_, _], _ => rfl
theorem b9 : BindP d9 := fun _ _ _ _ _ _ us hl => match us, hl with | [_, _], _ => rfl
theorem b10 : BindP d10 := fun _ _ _ _ _ _ us hl => match us, hl with | [_], _ => rfl
theorem b11 : BindP d11 := fun _ _ _ _ _ _ us hl => match us, hl with | [_], _ => rfl
theorem b12 : BindP d12 := fun _ _ _ _ _ _ us hl => match us, hl with | [_, _], _ => rfl
theorem b13 : BindP d13 := fun _ _ _ _ _ _ us hl => match us, hl with | [_], _ => rfl
theorem b14 : BindP d14 := fun _ _ _ _ _ _ us hl => match us, hl with | [_], _ => rfl
theorem b15 : BindP d15 := fun _ _ _ _ _ _ us hl => match us, hl with | [_], _ => rfl
theorem b16 : BindP d16 := fun _ _ _ _ _ _ us hl => match us, hl with | [_], _ => rfl
theorem b17 : BindP d17 := fun _ _ _ _ _ _ us hl => match us, hl with | [_], _ => rfl
theorem b18 : BindP d18 := fun _ _ _ _ _ _ us hl => match us, hl with | [_], _ => rfl
theorem b19 : BindP d19 := fun _ _ _ _ _ _ us hl => match us, hl with | [_], _ => rfl
theorem b20 : BindP d20 := fun _ _ _ _ _ _ us hl => match us, hl with | [_], _ => rfl
theorem b21 : BindP d21 := fun _ _ _ _ _ _ us hl => match us, hl with | [_], _ => rfl
theorem b22 : BindP d22 := fun _ _ _ _ _ _ us hl => match us, hl with | [_], _ => rfl
theorem b23 : BindP d23 := fun _ _ _ _ _ _ us hl => match us, hl with | [_], _ => rfl
theorem b24 : BindP d24 := fun _ _ _ _ _ _ us hl => match us, hl with | [_, _], _ => rfl
theorem b25 : BindP d25 := fun _ _ _ _ _ _ us hl => match us, hl with | [_, _], _ => rfl
theorem b26 : BindP d26 := fun _ _ _ _ _ _ us hl => match us, hl with | [_, _], _ => rfl
theorem b27 : BindP d27 := fun _ _ _ _ _ _ us hl => match us, hl with | [_, _], _ => rfl
theorem b28 : BindP d28 := fun _ _ _ _ _ _ us hl => match us, hl with | [_, _], _ => rfl
theorem b29 : BindP d29 := fun _ _ _ _ _ _ us hl => match us, hl with | [_], _ => rfl
theorem b30 : BindP d30 := fun _ _ _ _ _ _ us hl => match us, hl with | [_], _ => rfl
theorem b31 : BindP d31 := fun _ _ _ _ _ _ us hl => match us, hl with | [_, _], _ => rfl
theorem b32 : BindP d32 := fun _ _ _ _ _ _ us hl => match us, hl with | [_, _], _ => rfl
theorem b33 : BindP d33 := fun _ _ _ _ _ _ us hl => match us, hl with | [_], _ => rfl
theorem b34 : BindP d34 := fun _ _ _ _ _ _ us hl => match us, hl with | [_], _ => rfl
def dl : List Dat := ([d0, d1, d2, d3, d4, d5, d6, d7, d8, d9, d10, d11, d12, d13, d14, d15, d16, d17, d18, d19] : List Dat) ++ ([d20, d21, d22, d23, d24, d25, d26, d27, d28, d29, d30, d31, d32, d33, d34] : List Dat)
theorem bl : AllB dl := 
  AllB.app (.cons b0 (.cons b1 (.cons b2 (.cons b3 (.cons b4 (.cons b5 (.cons b6 (.cons b7 (.cons b8 (.cons b9 (.cons b10 (.cons b11 (.cons b12 (.cons b13 (.cons b14 (.cons b15 (.cons b16 (.cons b17 (.cons b18 (.cons b19 (.nil))))))))))))))))))))) (.cons b20 (.cons b21 (.cons b22 (.cons b23 (.cons b24 (.cons b25 (.cons b26 (.cons b27 (.cons b28 (.cons b29 (.cons b30 (.cons b31 (.cons b32 (.cons b33 (.cons b34 (.nil))))))))))))))))
def gl : List (Str × GV) := ([((Str.ofString "is_number"), .fn 0), ((Str.ofString "is_within"), .fn 1), ((Str.ofString "is_long"), .fn 2), ((Str.ofString "are_within"), .fn 3), ((Str.ofString "ascends"), .fn 4), ((Str.ofString "tupled"), .fn 5), ((Str.ofString "are_pairs"), .fn 6), ((Str.ofString "is_order_in"), .fn 7), ((Str.ofString "above_in"), .fn 8), ((Str.ofString "under_in"), .fn 9), ((Str.ofString "sure_order"), .fn 10), ((Str.ofString "apart_in"), .fn 11), ((Str.ofString "ranked"), .fn 12), ((Str.ofString "stretches_in"), .fn 13), ((Str.ofString "are_stretches_in"), .fn 14), ((Str.ofString "sure_stretches"), .fn 15), ((Str.ofString "order_in"), .fn 16), ((Str.ofString "is_tight_in"), .fn 17), ((Str.ofString "sure_fitting"), .fn 18), ((Str.ofString "fits"), .fn 19)] : List (Str × GV)) ++ ([((Str.ofString "stretches_of"), .fn 20), ((Str.ofString "order_of"), .fn 21), ((Str.ofString "are_tight"), .fn 22), ((Str.ofString "tightened"), .fn 23), ((Str.ofString "_law_box"), .fn 24), ((Str.ofString "_law_take"), .fn 25), ((Str.ofString "_law_cells"), .fn 26), ((Str.ofString "_law_of"), .fn 27), ((Str.ofString "_law_same"), .fn 28), ((Str.ofString "_law_flat"), .fn 29), ((Str.ofString "_law_below"), .fn 30), ((Str.ofString "_law_lots"), .fn 31), ((Str.ofString "_law_places"), .fn 32), ((Str.ofString "_law_lap_one"), .fn 33), ((Str.ofString "law"), .fn 34), ((Str.ofString "CanNot"), .exc 0), ((Str.ofString "TooMany"), .exc 1), ((Str.ofString "Unfit"), .exc 2), ((Str.ofString "MOST_THINGS"), .cst (.int (20))), ((Str.ofString "MOST_STRETCHES"), .cst (.int (60)))] : List (Str × GV)) ++ ([((Str.ofString "MOST_LINE"), .cst (.int (60))), ((Str.ofString "len"), .bi 0), ((Str.ofString "abs"), .bi 1), ((Str.ofString "int"), .bi 2), ((Str.ofString "str"), .bi 3), ((Str.ofString "sum"), .bi 4), ((Str.ofString "max"), .bi 5), ((Str.ofString "min"), .bi 6), ((Str.ofString "sorted"), .bi 7), ((Str.ofString "list"), .bi 8), ((Str.ofString "tuple"), .bi 9), ((Str.ofString "all"), .bi 10), ((Str.ofString "any"), .bi 11), ((Str.ofString "range"), .bi 12), ((Str.ofString "enumerate"), .bi 13), ((Str.ofString "zip"), .bi 14), ((Str.ofString "set"), .bi 15), ((Str.ofString "isinstance"), .bi 16), ((Str.ofString "bool"), .bi 17)] : List (Str × GV))
def tx : Txt := ⟨dl, gl, 60, 1000⟩
end Hd
end
section
set_option Elab.async false
set_option linter.all false
set_option maxRecDepth 100000
set_option maxHeartbeats 0
namespace Hd
open PySem PySem.Spec PyProof.Rows L2 Ev
theorem okd : tx.defs.all Dat.okB = true := by decide +kernel
theorem okg : tx.gl.all (glB fa tc tx) = true := by decide +kernel
theorem ddl_eq : tx.ddl = fn := by kernel_rfl
end Hd
open PySem PySem.W PySem.Calls PyProof.Rows
theorem holds_of (hev : ∀ ns : List Int, ns.length ≤ 63 → ∃ io, Ev.evFn Hd.tx.tab Hd.tx.wf 16 34 [.ro ns] = .ok (.bl true) false io) : PySem.Challenge.rw_ascentrows_k31_main_stretches_of_orders.Holds := by
  w_on; o_law
  refine HandSHeadRun.head_any (r := Hd.R) (q := view Hd.R.prog [44]) (H := Hd.hk) (ob := Hd.ob) (M := 4000) (loose := Hd.names) (d := HandSHeadRun.topDef Hd.R.prog 44) (kwd := []) Hd.ob_eq
    (by kernel_rfl) (fun s => by kernel_rfl) Hd.run (by kernel_rfl) (by kernel_rfl) (by kernel_rfl) (by rfl) (by first | assumption | decide +kernel) (by decide +kernel) ⟨rfl, rfl, rfl, rfl, rfl, by decide +kernel⟩ ?hw ?hc
  case hw => w_witness2
  case hc =>
    have e : (HandSHeadRun.topDef Hd.R.prog 44).name = Hd.d34.name := by kernel_rfl
    exact Ev.law_walk (T := Hd.tx) (FA := Hd.fa) (TC := Hd.tc) (n := 16) (L := 34) (dL := Hd.d34) (x := Str.ofString "script") rfl (by kernel_rfl)
      ⟨rfl, by decide, by decide⟩ (fun w h Y => by rw [Hd.ddl_eq]; exact Y) e Hd.okd Hd.okg Hd.bl rfl rfl rfl (by decide +kernel) hev
end
section
set_option Elab.async false
set_option linter.all false
set_option maxRecDepth 100000
set_option maxHeartbeats 0
namespace Lw
open PySem Ev
abbrev kn_is_number : Nat := 0
abbrev kn_is_within : Nat := 1
abbrev kn_is_long : Nat := 2
abbrev kn_are_within : Nat := 3
abbrev kn_ascends : Nat := 4
abbrev kn_tupled : Nat := 5
abbrev kn_are_pairs : Nat := 6
abbrev kn_is_order_in : Nat := 7
abbrev kn_above_in : Nat := 8
abbrev kn_under_in : Nat := 9
abbrev kn_sure_order : Nat := 10
abbrev kn_apart_in : Nat := 11
abbrev kn_ranked : Nat := 12
abbrev kn_stretches_in : Nat := 13
abbrev kn_are_stretches_in : Nat := 14
abbrev kn_sure_stretches : Nat := 15
abbrev kn_order_in : Nat := 16
abbrev kn_is_tight_in : Nat := 17
abbrev kn_sure_fitting : Nat := 18
abbrev kn_fits : Nat := 19
abbrev kn_stretches_of : Nat := 20
abbrev kn_order_of : Nat := 21
abbrev kn_are_tight : Nat := 22
abbrev kn_tightened : Nat := 23
abbrev kn__law_box : Nat := 24
abbrev kn__law_take : Nat := 25
abbrev kn__law_cells : Nat := 26
abbrev kn__law_of : Nat := 27
abbrev kn__law_same : Nat := 28
abbrev kn__law_flat : Nat := 29
abbrev kn__law_below : Nat := 30
abbrev kn__law_lots : Nat := 31
abbrev kn__law_places : Nat := 32
abbrev kn__law_lap_one : Nat := 33
abbrev kn_law : Nat := 34
def ir_is_number : Fn := ⟨1, 1, false,
  (.ret (.and (.op (.isi [0]) (.cons (.var 0) .nil)) (.not (.op (.isi [1]) (.cons (.var 0) .nil)))))⟩
def ir_is_within : Fn := ⟨3, 3, false,
  (.ret (.and (.call kn_is_number (.cons (.var 0) .nil)) (.chain (.le) (.le) (.var 1) (.var 0) (.var 2))))⟩
def ir_is_long : Fn := ⟨2, 2, false,
  (.ret (.and (.op (.isi [4]) (.cons (.var 0) .nil)) (.op (.eq) (.cons (.op (.len) (.cons (.var 0) .nil)) (.cons (.var 1) .nil)))))⟩
def q_are_within_1s : E := (.cons (.var 0) .nil)
def q_are_within_1t : E := (.cst (.bl true))
def q_are_within_1e : E := (.call kn_is_within (.cons (.var 3) (.cons (.var 1) (.cons (.var 2) .nil))))
def q_are_within_1 : E := .comp [3] (.nm 3) .seq q_are_within_1s q_are_within_1t q_are_within_1e
def ir_are_within : Fn := ⟨3, 4, false,
  (.ret (.and (.op (.isi [4]) (.cons (.var 0) .nil)) (.op (.all) (.cons q_are_within_1 .nil))))⟩
def q_ascends_1s : E := (.cons (.var 0) (.cons (.op (.cut true false) (.cons (.var 0) (.cons (.cst (.int 1)) .nil))) .nil))
def q_ascends_1t : E := (.cst (.bl true))
def q_ascends_1e : E := (.op (.lt) (.cons (.var 1) (.cons (.var 2) .nil)))
def q_ascends_1 : E := .comp [1, 2] (.tu [1, 2]) .zip2 q_ascends_1s q_ascends_1t q_ascends_1e
def ir_ascends : Fn := ⟨1, 3, false,
  (.ret (.op (.all) (.cons q_ascends_1 .nil)))⟩
def q_tupled_1s : E := (.cons (.var 0) .nil)
def q_tupled_1t : E := (.cst (.bl true))
def q_tupled_1e : E := (.call kn_tupled (.cons (.var 1) .nil))
def q_tupled_1 : E := .comp [1] (.nm 1) .seq q_tupled_1s q_tupled_1t q_tupled_1e
def ir_tupled : Fn := ⟨1, 2, false,
  (.ret (.ite (.op (.isi [3, 4]) (.cons (.var 0) .nil)) (.op (.tuple) (.cons q_tupled_1 .nil)) (.var 0)))⟩
def q_are_pairs_1s : E := (.cons (.var 0) .nil)
def q_are_pairs_1t : E := (.cst (.bl true))
def q_are_pairs_1e : E := (.and (.call kn_is_long (.cons (.var 2) (.cons (.cst (.int 2)) .nil))) (.call kn_are_within (.cons (.var 2) (.cons (.cst (.int 0)) (.cons (.op (.sub) (.cons (.var 1) (.cons (.cst (.int 1)) .nil))) .nil)))))
def q_are_pairs_1 : E := .comp [2] (.nm 2) .seq q_are_pairs_1s q_are_pairs_1t q_are_pairs_1e
def q_are_pairs_2s : E := (.cons (.var 0) .nil)
def q_are_pairs_2t : E := (.cst (.bl true))
def q_are_pairs_2e : E := (.op (.ne) (.cons (.var 3) (.cons (.var 4) .nil)))
def q_are_pairs_2 : E := .comp [3, 4] (.tu [3, 4]) .seq q_are_pairs_2s q_are_pairs_2t q_are_pairs_2e
def ir_are_pairs : Fn := ⟨2, 5, false,
  (.seq
    (.ite (.or (.not (.op (.isi [4]) (.cons (.var 0) .nil))) (.not (.op (.all) (.cons q_are_pairs_1 .nil))))
      (.ret (.cst (.bl false)))
      .nop)
    (.ret (.and (.call kn_ascends (.cons (.var 0) .nil)) (.op (.all) (.cons q_are_pairs_2 .nil)))))⟩
def q_is_order_in_1s : E := (.cons (.var 1) .nil)
def q_is_order_in_2s : E := (.cons (.call kn_above_in (.cons (.var 0) (.cons (.var 3) .nil))) .nil)
def q_is_order_in_2t : E := (.cst (.bl true))
def q_is_order_in_2e : E := (.op (.inn) (.cons (.tup (.cons (.var 2) (.cons (.var 4) .nil))) (.cons (.var 1) .nil)))
def q_is_order_in_2 : E := .comp [4] (.nm 4) .seq q_is_order_in_2s q_is_order_in_2t q_is_order_in_2e
def q_is_order_in_1b : S := (.ite (.not (.op (.all) (.cons q_is_order_in_2 .nil)))
    (.ret (.cst (.bl false)))
    .nop)
def q_is_order_in_1 : S := .for (.tu [2, 3]) .seq q_is_order_in_1s q_is_order_in_1b
def ir_is_order_in : Fn := ⟨1, 5, false,
  (.seq
    (.ite (.or (.not (.call kn_is_long (.cons (.var 0) (.cons (.cst (.int 2)) .nil)))) (.or (.not (.call kn_is_within (.cons (.op (.ix) (.cons (.var 0) (.cons (.cst (.int 0)) .nil))) (.cons (.cst (.int 0)) (.cons (.cst (.int 20)) .nil))))) (.not (.call kn_are_pairs (.cons (.op (.ix) (.cons (.var 0) (.cons (.cst (.int 1)) .nil))) (.cons (.op (.ix) (.cons (.var 0) (.cons (.cst (.int 0)) .nil))) .nil))))))
      (.ret (.cst (.bl false)))
      .nop)
    (.seq
      (.asg 1 (.op (.ix) (.cons (.var 0) (.cons (.cst (.int 1)) .nil))))
      (.seq
        q_is_order_in_1
        (.ret (.cst (.bl true))))))⟩
def q_above_in_1s : E := (.cons (.op (.ix) (.cons (.var 0) (.cons (.cst (.int 1)) .nil))) .nil)
def q_above_in_1t : E := (.op (.eq) (.cons (.var 2) (.cons (.var 1) .nil)))
def q_above_in_1e : E := (.var 3)
def q_above_in_1 : E := .comp [2, 3] (.tu [2, 3]) .seq q_above_in_1s q_above_in_1t q_above_in_1e
def ir_above_in : Fn := ⟨2, 4, false,
  (.ret (.op (.tuple) (.cons q_above_in_1 .nil)))⟩
def q_under_in_1s : E := (.cons (.op (.ix) (.cons (.var 0) (.cons (.cst (.int 1)) .nil))) .nil)
def q_under_in_1t : E := (.op (.eq) (.cons (.var 3) (.cons (.var 1) .nil)))
def q_under_in_1e : E := (.var 2)
def q_under_in_1 : E := .comp [2, 3] (.tu [2, 3]) .seq q_under_in_1s q_under_in_1t q_under_in_1e
def ir_under_in : Fn := ⟨2, 4, false,
  (.ret (.op (.tuple) (.cons q_under_in_1 .nil)))⟩
def ir_sure_order : Fn := ⟨1, 2, false,
  (.seq
    (.asg 1 (.call kn_tupled (.cons (.var 0) .nil)))
    (.seq
      (.ite (.not (.call kn_is_order_in (.cons (.var 1) .nil)))
        .nev
        .nop)
      (.ret (.var 1))))⟩
def q_apart_in_1s : E := (.cons (.var 1) .nil)
def q_apart_in_2s : E := (.cons (.var 1) .nil)
def q_apart_in_2b : S := (.ite (.and (.op (.nin) (.cons (.tup (.cons (.var 2) (.cons (.var 5) .nil))) (.cons (.var 1) .nil))) (.op (.nin) (.cons (.tup (.cons (.var 4) (.cons (.var 3) .nil))) (.cons (.var 1) .nil))))
    (.ret (.tup (.cons (.var 2) (.cons (.var 3) (.cons (.var 4) (.cons (.var 5) .nil))))))
    .nop)
def q_apart_in_2 : S := .for (.tu [4, 5]) .seq q_apart_in_2s q_apart_in_2b
def q_apart_in_1b : S := q_apart_in_2
def q_apart_in_1 : S := .for (.tu [2, 3]) .seq q_apart_in_1s q_apart_in_1b
def ir_apart_in : Fn := ⟨1, 6, false,
  (.seq
    (.asg 1 (.op (.ix) (.cons (.var 0) (.cons (.cst (.int 1)) .nil))))
    (.seq
      q_apart_in_1
      (.ret (.cst .non))))⟩
def q_ranked_1s : E := (.cons (.op (.sset) (.cons (.var 0) .nil)) .nil)
def q_ranked_1t : E := (.cst (.bl true))
def q_ranked_1e : E := (.tup (.cons (.op (.len) (.cons (.var 3) .nil)) (.cons (.var 3) .nil)))
def q_ranked_1 : E := .comp [3] (.nm 3) .seq q_ranked_1s q_ranked_1t q_ranked_1e
def q_ranked_2s : E := (.cons (.var 2) .nil)
def q_ranked_2t : E := (.cst (.bl true))
def q_ranked_2e : E := (.var 3)
def q_ranked_2 : E := .comp [5, 3] (.tu [5, 3]) .seq q_ranked_2s q_ranked_2t q_ranked_2e
def ir_ranked : Fn := ⟨2, 6, false,
  (.seq
    (.asg 2 (.op (.sorted) (.cons q_ranked_1 .nil)))
    (.seq
      (.asg 4 q_ranked_2)
      (.ret (.ite (.var 1) (.op (.rev) (.cons (.var 4) .nil)) (.var 4)))))⟩
def q_stretches_in_1s : E := (.cons (.op (.ix) (.cons (.var 0) (.cons (.cst (.int 0)) .nil))) .nil)
def q_stretches_in_1t : E := (.cst (.bl true))
def q_stretches_in_1e : E := (.call kn_under_in (.cons (.var 0) (.cons (.var 2) .nil)))
def q_stretches_in_1 : E := .comp [2] (.nm 2) .rg1 q_stretches_in_1s q_stretches_in_1t q_stretches_in_1e
def q_stretches_in_2s : E := (.cons (.op (.ix) (.cons (.var 0) (.cons (.cst (.int 0)) .nil))) .nil)
def q_stretches_in_2t : E := (.cst (.bl true))
def q_stretches_in_2e : E := (.call kn_above_in (.cons (.var 0) (.cons (.var 2) .nil)))
def q_stretches_in_2 : E := .comp [2] (.nm 2) .rg1 q_stretches_in_2s q_stretches_in_2t q_stretches_in_2e
def q_stretches_in_3s : E := (.cons (.var 1) (.cons (.var 3) .nil))
def q_stretches_in_3t : E := (.cst (.bl true))
def q_stretches_in_3e : E := (.tup (.cons (.op (.add) (.cons (.meth (.index) (.var 4) (.cons (.var 6) .nil)) (.cons (.cst (.int 1)) .nil))) (.cons (.op (.add) (.cons (.meth (.index) (.var 5) (.cons (.var 7) .nil)) (.cons (.cst (.int 1)) .nil))) .nil)))
def q_stretches_in_3 : E := .comp [6, 7] (.tu [6, 7]) .zip2 q_stretches_in_3s q_stretches_in_3t q_stretches_in_3e
def ir_stretches_in : Fn := ⟨1, 8, false,
  (.seq
    (.asg 1 q_stretches_in_1)
    (.seq
      (.asg 3 q_stretches_in_2)
      (.seq
        (.unp (.tu [4, 5]) (.tup (.cons (.call kn_ranked (.cons (.var 1) (.cons (.cst (.bl false)) .nil))) (.cons (.call kn_ranked (.cons (.var 3) (.cons (.cst (.bl true)) .nil))) .nil))))
        (.ret (.op (.tuple) (.cons q_stretches_in_3 .nil))))))⟩
def q_are_stretches_in_1s : E := (.cons (.var 0) .nil)
def q_are_stretches_in_1t : E := (.cst (.bl true))
def q_are_stretches_in_1e : E := (.and (.call kn_is_long (.cons (.var 1) (.cons (.cst (.int 2)) .nil))) (.and (.call kn_are_within (.cons (.var 1) (.cons (.cst (.int 1)) (.cons (.cst (.int 60)) .nil)))) (.op (.le) (.cons (.op (.ix) (.cons (.var 1) (.cons (.cst (.int 0)) .nil))) (.cons (.op (.ix) (.cons (.var 1) (.cons (.cst (.int 1)) .nil))) .nil)))))
def q_are_stretches_in_1 : E := .comp [1] (.nm 1) .seq q_are_stretches_in_1s q_are_stretches_in_1t q_are_stretches_in_1e
def ir_are_stretches_in : Fn := ⟨1, 2, false,
  (.seq
    (.ite (.or (.not (.op (.isi [4]) (.cons (.var 0) .nil))) (.op (.gt) (.cons (.op (.len) (.cons (.var 0) .nil)) (.cons (.cst (.int 60)) .nil))))
      (.ret (.cst (.bl false)))
      .nop)
    (.ret (.op (.all) (.cons q_are_stretches_in_1 .nil))))⟩
def ir_sure_stretches : Fn := ⟨1, 2, false,
  (.seq
    (.asg 1 (.call kn_tupled (.cons (.var 0) .nil)))
    (.seq
      (.ite (.not (.call kn_are_stretches_in (.cons (.var 1) .nil)))
        .nev
        .nop)
      (.ret (.var 1))))⟩
def q_order_in_1s : E := (.cons (.var 1) .nil)
def q_order_in_1t : E := (.cst (.bl true))
def q_order_in_1s1 : E := (.cons (.var 1) .nil)
def q_order_in_1t1 : E := (.op (.lt) (.cons (.op (.ix) (.cons (.op (.ix) (.cons (.var 0) (.cons (.var 3) .nil))) (.cons (.cst (.int 1)) .nil))) (.cons (.op (.ix) (.cons (.op (.ix) (.cons (.var 0) (.cons (.var 4) .nil))) (.cons (.cst (.int 0)) .nil))) .nil)))
def q_order_in_1e : E := (.tup (.cons (.var 3) (.cons (.var 4) .nil)))
def q_order_in_1 : E := .comp2 [3, 4] [4] (.nm 3) .rg1 q_order_in_1s q_order_in_1t (.nm 4) .rg1 q_order_in_1s1 q_order_in_1t1 q_order_in_1e
def ir_order_in : Fn := ⟨1, 5, false,
  (.seq
    (.asg 1 (.op (.len) (.cons (.var 0) .nil)))
    (.seq
      (.asg 2 q_order_in_1)
      (.ret (.tup (.cons (.var 1) (.cons (.op (.tuple) (.cons (.var 2) .nil)) .nil))))))⟩
def q_is_tight_in_1s : E := (.cons (.var 0) .nil)
def q_is_tight_in_1t : E := (.cst (.bl true))
def q_is_tight_in_1e : E := (.op (.ix) (.cons (.var 2) (.cons (.cst (.int 1)) .nil)))
def q_is_tight_in_1 : E := .comp [2] (.nm 2) .seq q_is_tight_in_1s q_is_tight_in_1t q_is_tight_in_1e
def q_is_tight_in_2s : E := (.cons (.var 0) .nil)
def q_is_tight_in_2t : E := (.cst (.bl true))
def q_is_tight_in_2e : E := (.op (.ix) (.cons (.var 2) (.cons (.cst (.int 0)) .nil)))
def q_is_tight_in_2 : E := .comp [2] (.nm 2) .seq q_is_tight_in_2s q_is_tight_in_2t q_is_tight_in_2e
def q_is_tight_in_3s : E := (.cons (.var 0) .nil)
def q_is_tight_in_3t : E := (.cst (.bl true))
def q_is_tight_in_3e : E := (.op (.ix) (.cons (.var 2) (.cons (.cst (.int 1)) .nil)))
def q_is_tight_in_3 : E := .comp [2] (.nm 2) .seq q_is_tight_in_3s q_is_tight_in_3t q_is_tight_in_3e
def ir_is_tight_in : Fn := ⟨1, 4, false,
  (.seq
    (.asg 1 (.op (.max1) (.cons (.op (.add) (.cons (.lst (.cons (.cst (.int 0)) .nil)) (.cons q_is_tight_in_1 .nil))) .nil)))
    (.seq
      (.asg 3 (.op (.lrg2) (.cons (.cst (.int 1)) (.cons (.op (.add) (.cons (.var 1) (.cons (.cst (.int 1)) .nil))) .nil))))
      (.ret (.and (.op (.eq) (.cons (.op (.sset) (.cons q_is_tight_in_2 .nil)) (.cons (.var 3) .nil))) (.op (.eq) (.cons (.op (.sset) (.cons q_is_tight_in_3 .nil)) (.cons (.var 3) .nil)))))))⟩
def ir_sure_fitting : Fn := ⟨1, 2, false,
  (.seq
    (.asg 1 (.call kn_sure_order (.cons (.var 0) .nil)))
    (.seq
      (.ite (.op (.isnn) (.cons (.call kn_apart_in (.cons (.var 1) .nil)) .nil))
        .nev
        .nop)
      (.ret (.var 1))))⟩
def ir_fits : Fn := ⟨1, 1, false,
  (.ret (.op (.isn) (.cons (.call kn_apart_in (.cons (.call kn_sure_order (.cons (.var 0) .nil)) .nil)) .nil)))⟩
def ir_stretches_of : Fn := ⟨1, 1, false,
  (.ret (.call kn_stretches_in (.cons (.call kn_sure_fitting (.cons (.var 0) .nil)) .nil)))⟩
def ir_order_of : Fn := ⟨1, 2, false,
  (.seq
    (.asg 1 (.call kn_sure_stretches (.cons (.var 0) .nil)))
    (.seq
      (.ite (.op (.gt) (.cons (.op (.len) (.cons (.var 1) .nil)) (.cons (.cst (.int 20)) .nil)))
        .nev
        .nop)
      (.ret (.call kn_order_in (.cons (.var 1) .nil)))))⟩
def ir_are_tight : Fn := ⟨1, 1, false,
  (.ret (.call kn_is_tight_in (.cons (.call kn_sure_stretches (.cons (.var 0) .nil)) .nil)))⟩
def ir_tightened : Fn := ⟨1, 1, false,
  (.ret (.call kn_stretches_in (.cons (.call kn_order_of (.cons (.var 0) .nil)) .nil)))⟩
def ir__law_box : Fn := ⟨2, 3, false,
  (.seq
    (.asg 2 (.ite (.op (.lt) (.cons (.var 1) (.cons (.op (.len) (.cons (.var 0) .nil)) .nil))) (.op (.ix) (.cons (.var 0) (.cons (.var 1) .nil))) (.cst (.int 0))))
    (.ret (.lst (.cons (.op (.mul) (.cons (.op (.abs) (.cons (.var 2) .nil)) (.cons (.op (.int1) (.cons (.op (.ge) (.cons (.op (.abs) (.cons (.var 2) .nil)) (.cons (.op (.pow) (.cons (.cst (.int 10)) (.cons (.cst (.int 18)) .nil))) .nil))) .nil)) .nil))) (.cons (.op (.add) (.cons (.op (.add) (.cons (.op (.mod) (.cons (.op (.int1) (.cons (.var 2) .nil)) (.cons (.cst (.int 2305843009213693951)) .nil))) (.cons (.op (.mul) (.cons (.cst (.int 39373)) (.cons (.var 1) .nil))) .nil))) (.cons (.cst (.int 25191031)) .nil))) (.cons (.cst (.int 0)) .nil))))))⟩
def ir__law_take : Fn := ⟨2, 6, true,
  (.seq
    (.ite (.op (.gt) (.cons (.op (.ix) (.cons (.var 0) (.cons (.cst (.int 0)) .nil))) (.cons (.cst (.int 0)) .nil)))
      (.seq
        (.asg 2 (.op (.mod) (.cons (.op (.int1) (.cons (.op (.ix) (.cons (.var 0) (.cons (.cst (.int 0)) .nil))) .nil)) (.cons (.var 1) .nil))))
        (.seq
          (.seti 0 (.cst (.int 0)) (.op (.fdiv) (.cons (.op (.ix) (.cons (.var 0) (.cons (.cst (.int 0)) .nil))) (.cons (.var 1) .nil))))
          (.ret (.var 2))))
      .nop)
    (.seq
      (.seti 0 (.cst (.int 2)) (.op (.add) (.cons (.op (.ix) (.cons (.var 0) (.cons (.cst (.int 2)) .nil))) (.cons (.cst (.int 1)) .nil))))
      (.seq
        (.asg 3 (.op (.mod) (.cons (.op (.int1) (.cons (.op (.mul) (.cons (.op (.add) (.cons (.op (.ix) (.cons (.var 0) (.cons (.cst (.int 1)) .nil))) (.cons (.op (.mul) (.cons (.cst (.int 48271)) (.cons (.op (.ix) (.cons (.var 0) (.cons (.cst (.int 2)) .nil))) .nil))) .nil))) (.cons (.op (.add) (.cons (.cst (.int 39373)) (.cons (.op (.ix) (.cons (.var 0) (.cons (.cst (.int 2)) .nil))) .nil))) .nil))) .nil)) (.cons (.cst (.int 2147483647)) .nil))))
        (.seq
          (.asg 4 (.op (.add) (.cons (.op (.mod) (.cons (.op (.int1) (.cons (.var 3) .nil)) (.cons (.cst (.int 40009)) .nil))) (.cons (.cst (.int 7)) .nil))))
          (.seq
            (.asg 5 (.op (.mod) (.cons (.op (.int1) (.cons (.op (.mul) (.cons (.op (.add) (.cons (.op (.add) (.cons (.var 3) (.cons (.op (.ix) (.cons (.var 0) (.cons (.cst (.int 2)) .nil))) .nil))) (.cons (.op (.fdiv) (.cons (.op (.ix) (.cons (.var 0) (.cons (.cst (.int 1)) .nil))) (.cons (.cst (.int 1000003)) .nil))) .nil))) (.cons (.var 4) .nil))) .nil)) (.cons (.cst (.int 2147483629)) .nil))))
            (.ret (.op (.mod) (.cons (.op (.int1) (.cons (.op (.fdiv) (.cons (.op (.mod) (.cons (.op (.int1) (.cons (.op (.add) (.cons (.op (.mul) (.cons (.var 5) (.cons (.cst (.int 48271)) .nil))) (.cons (.var 3) .nil))) .nil)) (.cons (.cst (.int 2147483587)) .nil))) (.cons (.cst (.int 64)) .nil))) .nil)) (.cons (.var 1) .nil)))))))))⟩
def q__law_cells_1s : E := (.cons (.cut2 (.var 0) (.var 1) (.cst (.int 63))) .nil)
def q__law_cells_1b : S := (.seq
    (.asg 5 (.op (.mod) (.cons (.op (.int1) (.cons (.var 3) .nil)) (.cons (.var 1) .nil))))
    (.seti 2 (.var 5) (.op (.add) (.cons (.op (.ix) (.cons (.var 2) (.cons (.var 5) .nil))) (.cons (.op (.mul) (.cons (.var 4) (.cons (.op (.add) (.cons (.var 3) (.cons (.cst (.int 2)) .nil))) .nil))) .nil)))))
def q__law_cells_1 : S := .for (.tu [3, 4]) .enum q__law_cells_1s q__law_cells_1b
def ir__law_cells : Fn := ⟨2, 6, false,
  (.seq
    (.asg 2 (.orL (.op (.list) (.cons (.op (.cut false true) (.cons (.var 0) (.cons (.var 1) .nil))) .nil)) (.lst (.cons (.cst (.int 0)) .nil))))
    (.seq
      q__law_cells_1
      (.ret (.var 2))))⟩
def ir__law_of : Fn := ⟨2, 2, true,
  (.ret (.op (.ix) (.cons (.var 1) (.cons (.io kn__law_take 0 (.cons (.op (.len) (.cons (.var 1) .nil)) .nil)) .nil))))⟩
def q__law_same_1s : E := (.cons (.var 0) (.cons (.var 1) .nil))
def q__law_same_1t : E := (.cst (.bl true))
def q__law_same_1e : E := (.call kn__law_same (.cons (.var 2) (.cons (.var 3) .nil)))
def q__law_same_1 : E := .comp [2, 3] (.tu [2, 3]) .zip2 q__law_same_1s q__law_same_1t q__law_same_1e
def ir__law_same : Fn := ⟨2, 4, false,
  (.seq
    (.ite (.op (.isi [3, 4]) (.cons (.var 1) .nil))
      (.seq
        (.ite (.or (.op (.ne) (.cons (.op (.isi [3]) (.cons (.var 0) .nil)) (.cons (.op (.isi [3]) (.cons (.var 1) .nil)) .nil))) (.op (.ne) (.cons (.op (.isi [4]) (.cons (.var 0) .nil)) (.cons (.op (.isi [4]) (.cons (.var 1) .nil)) .nil))))
          (.ret (.cst (.bl false)))
          .nop)
        (.ret (.and (.op (.eq) (.cons (.op (.len) (.cons (.var 0) .nil)) (.cons (.op (.len) (.cons (.var 1) .nil)) .nil))) (.op (.all) (.cons q__law_same_1 .nil)))))
      .nop)
    (.seq
      (.ite (.op (.isn) (.cons (.var 1) .nil))
        (.ret (.op (.isn) (.cons (.var 0) .nil)))
        .nop)
      (.seq
        (.ite (.op (.isi [1, 2]) (.cons (.var 1) .nil))
          (.ret (.and (.op (.eq) (.cons (.op (.isi [1]) (.cons (.var 0) .nil)) (.cons (.op (.isi [1]) (.cons (.var 1) .nil)) .nil))) (.and (.op (.eq) (.cons (.op (.isi [2]) (.cons (.var 0) .nil)) (.cons (.op (.isi [2]) (.cons (.var 1) .nil)) .nil))) (.op (.eq) (.cons (.var 0) (.cons (.var 1) .nil))))))
          .nop)
        (.ret (.and (.op (.isi [0]) (.cons (.var 0) .nil)) (.and (.not (.op (.isi [1]) (.cons (.var 0) .nil))) (.op (.eq) (.cons (.var 0) (.cons (.var 1) .nil)))))))))⟩
def q__law_flat_1s : E := (.cons (.var 0) .nil)
def q__law_flat_1b : S := (.extend 1 (.var 2))
def q__law_flat_1 : S := .for (.nm 2) .seq q__law_flat_1s q__law_flat_1b
def ir__law_flat : Fn := ⟨1, 3, false,
  (.seq
    (.asg 1 (.lst .nil))
    (.seq
      q__law_flat_1
      (.ret (.var 1))))⟩
def q__law_below_1s : E := (.cons (.var 1) .nil)
def q__law_below_1t : E := (.cst (.bl true))
def q__law_below_2s : E := (.cons (.var 1) .nil)
def q__law_below_2t : E := (.op (.lt) (.cons (.op (.ix) (.cons (.op (.ix) (.cons (.var 0) (.cons (.var 3) .nil))) (.cons (.cst (.int 1)) .nil))) (.cons (.op (.ix) (.cons (.op (.ix) (.cons (.var 0) (.cons (.var 2) .nil))) (.cons (.cst (.int 0)) .nil))) .nil)))
def q__law_below_2e : E := (.tup (.cons (.var 3) (.cons (.var 2) .nil)))
def q__law_below_2 : E := .comp [2] (.nm 2) .rg1 q__law_below_2s q__law_below_2t q__law_below_2e
def q__law_below_1e : E := q__law_below_2
def q__law_below_1 : E := .comp [3] (.nm 3) .rg1 q__law_below_1s q__law_below_1t q__law_below_1e
def ir__law_below : Fn := ⟨1, 4, false,
  (.seq
    (.asg 1 (.op (.len) (.cons (.var 0) .nil)))
    (.ret (.tup (.cons (.var 1) (.cons (.op (.tuple) (.cons (.call kn__law_flat (.cons q__law_below_1 .nil)) .nil)) .nil)))))⟩
def q__law_lots_1s : E := (.cons (.op (.ix) (.cons (.var 0) (.cons (.cst (.int 0)) .nil))) .nil)
def q__law_lots_1t : E := (.cst (.bl true))
def q__law_lots_2s : E := (.cons (.op (.ix) (.cons (.var 0) (.cons (.cst (.int 1)) .nil))) .nil)
def q__law_lots_2t : E := (.op (.eq) (.cons (.op (.ix) (.cons (.var 2) (.cons (.op (.sub) (.cons (.cst (.int 1)) (.cons (.var 1) .nil))) .nil))) (.cons (.var 3) .nil)))
def q__law_lots_2e : E := (.op (.ix) (.cons (.var 2) (.cons (.var 1) .nil)))
def q__law_lots_2 : E := .comp [2] (.nm 2) .seq q__law_lots_2s q__law_lots_2t q__law_lots_2e
def q__law_lots_1e : E := (.op (.tuple) (.cons q__law_lots_2 .nil))
def q__law_lots_1 : E := .comp [3] (.nm 3) .rg1 q__law_lots_1s q__law_lots_1t q__law_lots_1e
def ir__law_lots : Fn := ⟨2, 4, false,
  (.ret q__law_lots_1)⟩
def q__law_places_1s : E := (.cons (.var 0) .nil)
def q__law_places_1t : E := (.cst (.bl true))
def q__law_places_1e : E := (.op (.len) (.cons (.var 3) .nil))
def q__law_places_1 : E := .comp [3] (.nm 3) .seq q__law_places_1s q__law_places_1t q__law_places_1e
def q__law_places_2s : E := (.cons (.var 0) .nil)
def q__law_places_2t : E := (.cst (.bl true))
def q__law_places_2e : E := (.op (.add) (.cons (.meth (.index) (.var 2) (.cons (.op (.len) (.cons (.var 3) .nil)) .nil)) (.cons (.cst (.int 1)) .nil)))
def q__law_places_2 : E := .comp [3] (.nm 3) .seq q__law_places_2s q__law_places_2t q__law_places_2e
def ir__law_places : Fn := ⟨2, 4, false,
  (.seq
    (.asg 2 (.op (.sset) (.cons q__law_places_1 .nil)))
    (.seq
      (.ite (.var 1)
        (.asg 2 (.op (.rev) (.cons (.var 2) .nil)))
        .nop)
      (.ret q__law_places_2)))⟩
def q__law_lap_one_1s : E := (.cons (.var 1) .nil)
def q__law_lap_one_1b : S := (.seq
    (.asg 5 (.op (.add) (.cons (.cst (.int 1)) (.cons (.io kn__law_take 0 (.cons (.var 3) .nil)) .nil))))
    (.append 2 (.tup (.cons (.var 5) (.cons (.op (.add) (.cons (.var 5) (.cons (.io kn__law_take 0 (.cons (.io kn__law_of 0 (.cons (.lst (.cons (.cst (.int 1)) (.cons (.cst (.int 3)) (.cons (.cst (.int 20)) .nil)))) .nil)) .nil)) .nil))) .nil)))))
def q__law_lap_one_1 : S := .for (.nm 4) .rg1 q__law_lap_one_1s q__law_lap_one_1b
def q__law_lap_one_2s : E := (.cons (.tup (.cons (.var 7) (.cons (.var 8) .nil))) .nil)
def q__law_lap_one_3s : E := (.cons (.var 10) .nil)
def q__law_lap_one_4s : E := (.cons (.var 10) .nil)
def q__law_lap_one_5s : E := (.cons (.var 11) .nil)
def q__law_lap_one_5t : E := (.op (.nin) (.cons (.var 13) (.cons (.var 12) .nil)))
def q__law_lap_one_5e : E := (.var 13)
def q__law_lap_one_5 : E := .comp [13] (.nm 13) .seq q__law_lap_one_5s q__law_lap_one_5t q__law_lap_one_5e
def q__law_lap_one_6s : E := (.cons (.var 12) .nil)
def q__law_lap_one_6t : E := (.op (.nin) (.cons (.var 13) (.cons (.var 11) .nil)))
def q__law_lap_one_6e : E := (.var 13)
def q__law_lap_one_6 : E := .comp [13] (.nm 13) .seq q__law_lap_one_6s q__law_lap_one_6t q__law_lap_one_6e
def q__law_lap_one_4t : E := (.and (.op (.ne) (.cons q__law_lap_one_5 (.cons (.lst .nil) .nil))) (.op (.ne) (.cons q__law_lap_one_6 (.cons (.lst .nil) .nil))))
def q__law_lap_one_4e : E := (.var 12)
def q__law_lap_one_4 : E := .comp [12] (.nm 12) .seq q__law_lap_one_4s q__law_lap_one_4t q__law_lap_one_4e
def q__law_lap_one_3t : E := (.op (.ne) (.cons q__law_lap_one_4 (.cons (.lst .nil) .nil)))
def q__law_lap_one_3e : E := (.var 11)
def q__law_lap_one_3 : E := .comp [11] (.nm 11) .seq q__law_lap_one_3s q__law_lap_one_3t q__law_lap_one_3e
def q__law_lap_one_2b : S := (.seq
    (.asg 10 (.op (.sset) (.cons (.var 9) .nil)))
    (.ite (.op (.ne) (.cons q__law_lap_one_3 (.cons (.lst .nil) .nil)))
      (.ret (.cst (.bl false)))
      .nop))
def q__law_lap_one_2 : S := .for (.nm 9) .seq q__law_lap_one_2s q__law_lap_one_2b
def q__law_lap_one_7s : E := (.cons (.call kn__law_places (.cons (.var 7) (.cons (.cst (.bl false)) .nil))) (.cons (.call kn__law_places (.cons (.var 8) (.cons (.cst (.bl true)) .nil))) .nil))
def q__law_lap_one_7t : E := (.cst (.bl true))
def q__law_lap_one_7e : E := (.tup (.cons (.var 5) (.cons (.var 15) .nil)))
def q__law_lap_one_7 : E := .comp [5, 15] (.tu [5, 15]) .zip2 q__law_lap_one_7s q__law_lap_one_7t q__law_lap_one_7e
def q__law_lap_one_8s : E := (.cons (.var 2) .nil)
def q__law_lap_one_8t : E := (.cst (.bl true))
def q__law_lap_one_8e : E := (.op (.ix) (.cons (.var 11) (.cons (.cst (.int 1)) .nil)))
def q__law_lap_one_8 : E := .comp [11] (.nm 11) .seq q__law_lap_one_8s q__law_lap_one_8t q__law_lap_one_8e
def q__law_lap_one_9s : E := (.cons (.var 2) .nil)
def q__law_lap_one_9t : E := (.cst (.bl true))
def q__law_lap_one_9e : E := (.op (.ix) (.cons (.var 11) (.cons (.cst (.int 0)) .nil)))
def q__law_lap_one_9 : E := .comp [11] (.nm 11) .seq q__law_lap_one_9s q__law_lap_one_9t q__law_lap_one_9e
def q__law_lap_one_10s : E := (.cons (.var 2) .nil)
def q__law_lap_one_10t : E := (.cst (.bl true))
def q__law_lap_one_10e : E := (.op (.ix) (.cons (.var 11) (.cons (.cst (.int 1)) .nil)))
def q__law_lap_one_10 : E := .comp [11] (.nm 11) .seq q__law_lap_one_10s q__law_lap_one_10t q__law_lap_one_10e
def q__law_lap_one_11s : E := (.cons (.var 2) .nil)
def q__law_lap_one_11t : E := (.cst (.bl true))
def q__law_lap_one_11e : E := (.tup (.cons (.op (.add) (.cons (.var 5) (.cons (.cst (.int 3)) .nil))) (.cons (.op (.add) (.cons (.var 15) (.cons (.cst (.int 3)) .nil))) .nil)))
def q__law_lap_one_11 : E := .comp [5, 15] (.tu [5, 15]) .seq q__law_lap_one_11s q__law_lap_one_11t q__law_lap_one_11e
def q__law_lap_one_12s : E := (.cons (.var 18) .nil)
def q__law_lap_one_12t : E := (.cst (.bl true))
def q__law_lap_one_12e : E := (.op (.ix) (.cons (.var 11) (.cons (.cst (.int 1)) .nil)))
def q__law_lap_one_12 : E := .comp [11] (.nm 11) .seq q__law_lap_one_12s q__law_lap_one_12t q__law_lap_one_12e
def ir__law_lap_one : Fn := ⟨1, 19, true,
  (.seq
    (.asg 1 (.io kn__law_take 0 (.cons (.cst (.int 15)) .nil)))
    (.seq
      (.asg 2 (.lst .nil))
      (.seq
        (.asg 3 (.io kn__law_of 0 (.cons (.lst (.cons (.cst (.int 3)) (.cons (.cst (.int 8)) (.cons (.cst (.int 40)) .nil)))) .nil)))
        (.seq
          q__law_lap_one_1
          (.seq
            (.asg 2 (.op (.tuple) (.cons (.var 2) .nil)))
            (.seq
              (.asg 6 (.call kn_order_of (.cons (.var 2) .nil)))
              (.seq
                (.ite (.not (.call kn__law_same (.cons (.lst (.cons (.var 6) (.cons (.call kn_fits (.cons (.var 6) .nil)) .nil))) (.cons (.lst (.cons (.call kn__law_below (.cons (.var 2) .nil)) (.cons (.cst (.bl true)) .nil))) .nil))))
                  (.ret (.cst (.bl false)))
                  .nop)
                (.seq
                  (.par [7, 8] (.cons (.call kn__law_lots (.cons (.var 6) (.cons (.cst (.int 0)) .nil))) (.cons (.call kn__law_lots (.cons (.var 6) (.cons (.cst (.int 1)) .nil))) .nil)))
                  (.seq
                    q__law_lap_one_2
                    (.seq
                      (.asg 14 (.op (.tuple) (.cons q__law_lap_one_7 .nil)))
                      (.seq
                        (.ite (.not (.call kn__law_same (.cons (.lst (.cons (.call kn_stretches_of (.cons (.var 6) .nil)) (.cons (.call kn_tightened (.cons (.var 2) .nil)) (.cons (.call kn_are_tight (.cons (.var 14) .nil)) (.cons (.call kn_order_of (.cons (.var 14) .nil)) .nil))))) (.cons (.lst (.cons (.var 14) (.cons (.var 14) (.cons (.cst (.bl true)) (.cons (.var 6) .nil))))) .nil))))
                          (.ret (.cst (.bl false)))
                          .nop)
                        (.seq
                          (.ite (.op (.ne) (.cons (.op (.nset) (.cons (.var 7) .nil)) (.cons (.op (.nset) (.cons (.var 8) .nil)) .nil)))
                            (.ret (.cst (.bl false)))
                            .nop)
                          (.seq
                            (.asg 16 (.op (.lrg2) (.cons (.cst (.int 1)) (.cons (.op (.add) (.cons (.op (.max1) (.cons (.op (.add) (.cons (.lst (.cons (.cst (.int 0)) .nil)) (.cons q__law_lap_one_8 .nil))) .nil)) (.cons (.cst (.int 1)) .nil))) .nil))))
                            (.seq
                              (.asg 17 (.and (.op (.eq) (.cons (.op (.sset) (.cons q__law_lap_one_9 .nil)) (.cons (.var 16) .nil))) (.op (.eq) (.cons (.op (.sset) (.cons q__law_lap_one_10 .nil)) (.cons (.var 16) .nil)))))
                              (.seq
                                (.ite (.or (.not (.call kn__law_same (.cons (.call kn_are_tight (.cons (.var 2) .nil)) (.cons (.var 17) .nil)))) (.and (.var 17) (.op (.ne) (.cons (.var 14) (.cons (.var 2) .nil)))))
                                  (.ret (.cst (.bl false)))
                                  .nop)
                                (.seq
                                  (.asg 18 (.op (.tuple) (.cons q__law_lap_one_11 .nil)))
                                  (.ret (.or (.op (.gt) (.cons (.op (.max1) (.cons (.op (.add) (.cons (.lst (.cons (.cst (.int 0)) .nil)) (.cons q__law_lap_one_12 .nil))) .nil)) (.cons (.cst (.int 60)) .nil))) (.call kn__law_same (.cons (.lst (.cons (.call kn_order_of (.cons (.var 18) .nil)) (.cons (.call kn_tightened (.cons (.var 18) .nil)) .nil))) (.cons (.lst (.cons (.var 6) (.cons (.var 14) .nil))) .nil)))))))))))))))))))))⟩
def q_law_1s : E := (.cons (.cst (.int 6)) .nil)
def q_law_1b : S := (.ite (.not (.io kn__law_lap_one 1 .nil))
    (.ret (.cst (.bl false)))
    .nop)
def q_law_1 : S := .for (.nm 2) .rg1 q_law_1s q_law_1b
def ir_law : Fn := ⟨1, 4, false,
  (.seq
    (.asg 1 (.call kn__law_box (.cons (.call kn__law_cells (.cons (.var 0) (.cons (.cst (.int 1)) .nil))) (.cons (.cst (.int 0)) .nil))))
    (.seq
      q_law_1
      (.seq
        (.asg 3 (.lst (.cons (.call kn_order_of (.cons (.tup (.cons (.tup (.cons (.cst (.int 1)) (.cons (.cst (.int 1)) .nil))) (.cons (.tup (.cons (.cst (.int 2)) (.cons (.cst (.int 2)) .nil))) (.cons (.tup (.cons (.cst (.int 1)) (.cons (.cst (.int 2)) .nil))) .nil)))) .nil)) (.cons (.call kn_stretches_of (.cons (.tup (.cons (.cst (.int 3)) (.cons (.tup (.cons (.tup (.cons (.cst (.int 0)) (.cons (.cst (.int 1)) .nil))) .nil)) .nil))) .nil)) (.cons (.call kn_tightened (.cons (.tup (.cons (.tup (.cons (.cst (.int 1)) (.cons (.cst (.int 1)) .nil))) (.cons (.tup (.cons (.cst (.int 3)) (.cons (.cst (.int 4)) .nil))) .nil))) .nil)) (.cons (.call kn_stretches_of (.cons (.tup (.cons (.cst (.int 0)) (.cons (.tup .nil) .nil))) .nil)) (.cons (.call kn_are_tight (.cons (.tup .nil) .nil)) (.cons (.call kn_are_tight (.cons (.tup (.cons (.tup (.cons (.cst (.int 1)) (.cons (.cst (.int 1)) .nil))) (.cons (.tup (.cons (.cst (.int 3)) (.cons (.cst (.int 4)) .nil))) .nil))) .nil)) .nil))))))))
        (.ret (.call kn__law_same (.cons (.var 3) (.cons (.lst (.cons (.tup (.cons (.cst (.int 3)) (.cons (.tup (.cons (.tup (.cons (.cst (.int 0)) (.cons (.cst (.int 1)) .nil))) .nil)) .nil))) (.cons (.tup (.cons (.tup (.cons (.cst (.int 1)) (.cons (.cst (.int 1)) .nil))) (.cons (.tup (.cons (.cst (.int 2)) (.cons (.cst (.int 2)) .nil))) (.cons (.tup (.cons (.cst (.int 1)) (.cons (.cst (.int 2)) .nil))) .nil)))) (.cons (.tup (.cons (.tup (.cons (.cst (.int 1)) (.cons (.cst (.int 1)) .nil))) (.cons (.tup (.cons (.cst (.int 2)) (.cons (.cst (.int 2)) .nil))) .nil))) (.cons (.tup .nil) (.cons (.cst (.bl true)) (.cons (.cst (.bl false)) .nil))))))) .nil)))))))⟩


abbrev tb : Tab := Hd.tx.tab
theorem tb_is_number : tb kn_is_number = some (.ir ir_is_number) := by kernel_rfl
theorem io_is_number : tb.io kn_is_number = false := by kernel_rfl
theorem tb_is_within : tb kn_is_within = some (.ir ir_is_within) := by kernel_rfl
theorem io_is_within : tb.io kn_is_within = false := by kernel_rfl
theorem tb_is_long : tb kn_is_long = some (.ir ir_is_long) := by kernel_rfl
theorem io_is_long : tb.io kn_is_long = false := by kernel_rfl
theorem tb_are_within : tb kn_are_within = some (.ir ir_are_within) := by kernel_rfl
theorem io_are_within : tb.io kn_are_within = false := by kernel_rfl
theorem tb_ascends : tb kn_ascends = some (.ir ir_ascends) := by kernel_rfl
theorem io_ascends : tb.io kn_ascends = false := by kernel_rfl
theorem tb_tupled : tb kn_tupled = some (.ir ir_tupled) := by kernel_rfl
theorem io_tupled : tb.io kn_tupled = false := by kernel_rfl
theorem tb_are_pairs : tb kn_are_pairs = some (.ir ir_are_pairs) := by kernel_rfl
theorem io_are_pairs : tb.io kn_are_pairs = false := by kernel_rfl
theorem tb_is_order_in : tb kn_is_order_in = some (.ir ir_is_order_in) := by kernel_rfl
theorem io_is_order_in : tb.io kn_is_order_in = false := by kernel_rfl
theorem tb_above_in : tb kn_above_in = some (.ir ir_above_in) := by kernel_rfl
theorem io_above_in : tb.io kn_above_in = false := by kernel_rfl
theorem tb_under_in : tb kn_under_in = some (.ir ir_under_in) := by kernel_rfl
theorem io_under_in : tb.io kn_under_in = false := by kernel_rfl
theorem tb_sure_order : tb kn_sure_order = some (.ir ir_sure_order) := by kernel_rfl
theorem io_sure_order : tb.io kn_sure_order = false := by kernel_rfl
theorem tb_apart_in : tb kn_apart_in = some (.ir ir_apart_in) := by kernel_rfl
theorem io_apart_in : tb.io kn_apart_in = false := by kernel_rfl
theorem tb_ranked : tb kn_ranked = some (.ir ir_ranked) := by kernel_rfl
theorem io_ranked : tb.io kn_ranked = false := by kernel_rfl
theorem tb_stretches_in : tb kn_stretches_in = some (.ir ir_stretches_in) := by kernel_rfl
theorem io_stretches_in : tb.io kn_stretches_in = false := by kernel_rfl
theorem tb_are_stretches_in : tb kn_are_stretches_in = some (.ir ir_are_stretches_in) := by kernel_rfl
theorem io_are_stretches_in : tb.io kn_are_stretches_in = false := by kernel_rfl
theorem tb_sure_stretches : tb kn_sure_stretches = some (.ir ir_sure_stretches) := by kernel_rfl
theorem io_sure_stretches : tb.io kn_sure_stretches = false := by kernel_rfl
theorem tb_order_in : tb kn_order_in = some (.ir ir_order_in) := by kernel_rfl
theorem io_order_in : tb.io kn_order_in = false := by kernel_rfl
theorem tb_is_tight_in : tb kn_is_tight_in = some (.ir ir_is_tight_in) := by kernel_rfl
theorem io_is_tight_in : tb.io kn_is_tight_in = false := by kernel_rfl
theorem tb_sure_fitting : tb kn_sure_fitting = some (.ir ir_sure_fitting) := by kernel_rfl
theorem io_sure_fitting : tb.io kn_sure_fitting = false := by kernel_rfl
theorem tb_fits : tb kn_fits = some (.ir ir_fits) := by kernel_rfl
theorem io_fits : tb.io kn_fits = false := by kernel_rfl
theorem tb_stretches_of : tb kn_stretches_of = some (.ir ir_stretches_of) := by kernel_rfl
theorem io_stretches_of : tb.io kn_stretches_of = false := by kernel_rfl
theorem tb_order_of : tb kn_order_of = some (.ir ir_order_of) := by kernel_rfl
theorem io_order_of : tb.io kn_order_of = false := by kernel_rfl
theorem tb_are_tight : tb kn_are_tight = some (.ir ir_are_tight) := by kernel_rfl
theorem io_are_tight : tb.io kn_are_tight = false := by kernel_rfl
theorem tb_tightened : tb kn_tightened = some (.ir ir_tightened) := by kernel_rfl
theorem io_tightened : tb.io kn_tightened = false := by kernel_rfl
theorem tb__law_box : tb kn__law_box = some (.ir ir__law_box) := by kernel_rfl
theorem io__law_box : tb.io kn__law_box = false := by kernel_rfl
theorem tb__law_take : tb kn__law_take = some (.ir ir__law_take) := by kernel_rfl
theorem io__law_take : tb.io kn__law_take = true := by kernel_rfl
theorem tb__law_cells : tb kn__law_cells = some (.ir ir__law_cells) := by kernel_rfl
theorem io__law_cells : tb.io kn__law_cells = false := by kernel_rfl
theorem tb__law_of : tb kn__law_of = some (.ir ir__law_of) := by kernel_rfl
theorem io__law_of : tb.io kn__law_of = true := by kernel_rfl
theorem tb__law_same : tb kn__law_same = some (.ir ir__law_same) := by kernel_rfl
theorem io__law_same : tb.io kn__law_same = false := by kernel_rfl
theorem tb__law_flat : tb kn__law_flat = some (.ir ir__law_flat) := by kernel_rfl
theorem io__law_flat : tb.io kn__law_flat = false := by kernel_rfl
theorem tb__law_below : tb kn__law_below = some (.ir ir__law_below) := by kernel_rfl
theorem io__law_below : tb.io kn__law_below = false := by kernel_rfl
theorem tb__law_lots : tb kn__law_lots = some (.ir ir__law_lots) := by kernel_rfl
theorem io__law_lots : tb.io kn__law_lots = false := by kernel_rfl
theorem tb__law_places : tb kn__law_places = some (.ir ir__law_places) := by kernel_rfl
theorem io__law_places : tb.io kn__law_places = false := by kernel_rfl
theorem tb__law_lap_one : tb kn__law_lap_one = some (.ir ir__law_lap_one) := by kernel_rfl
theorem io__law_lap_one : tb.io kn__law_lap_one = true := by kernel_rfl
theorem tb_law : tb kn_law = some (.ir ir_law) := by kernel_rfl
theorem io_law : tb.io kn_law = false := by kernel_rfl
end Lw
end
section
set_option linter.all false
set_option Elab.async false
namespace Ev
open PySem
section
variable {α β γ δ ε : Type}
def eT (e : α → D) (xs : List α) : D := .tup (xs.map e)
def eL (e : α → D) (xs : List α) : D := .lst (xs.map e)
def eP (a : α → D) (b : β → D) (p : α × β) : D := .tup [a p.1, b p.2]
def eP3 (a : α → D) (b : β → D) (c : γ → D) (p : α × β × γ) : D := .tup [a p.1, b p.2.1, c p.2.2]
def eP4 (a : α → D) (b : β → D) (c : γ → D) (d : δ → D) (p : α × β × γ × δ) : D := .tup [a p.1, b p.2.1, c p.2.2.1, d p.2.2.2]
def eP5 (a : α → D) (b : β → D) (c : γ → D) (d : δ → D) (e : ε → D) (p : α × β × γ × δ × ε) : D := .tup [a p.1, b p.2.1, c p.2.2.1, d p.2.2.2.1, e p.2.2.2.2]
def eO (a : α → D) : Option α → D
  | none => .non
  | some x => a x
def eD : D → D := fun d => d
theorem bsome {o : Option α} {f : α → Option β} {r : β} (h : o.bind f = some r) : ∃ v, o = some v ∧ f v = some r := Option.bind_eq_some_iff.mp h
theorem osome {a b : α} (h : some a = some b) : a = b := Option.some.inj h
theorem isome {c : Bool} {a b : Option α} {r : α} (h : (if c = true then a else b) = some r) : (c = true ∧ a = some r) ∨ (c = false ∧ b = some r) := by
  cases c
  · exact .inr ⟨rfl, h⟩
  · exact .inl ⟨rfl, h⟩
def mulG (i j : Int) : Option Int := if (b64 i || b64 j) = true then some (i * j) else none
def fdivG (i j : Int) : Option Int := if (decide (0 < j) && leN j 1073741823) = true then some (i / j) else none
def modG (i j : Int) : Option Int := if decide (0 < j) = true then some (i % j) else none
def catG (xs ys : List α) : Option (List α) := if xs.length + ys.length ≤ cap then some (xs ++ ys) else none
def appG (xs : List α) (y : α) : Option (List α) := if xs.length < cap then some (xs ++ [y]) else none
def ixG (xs : List α) (i : Int) : Option α := (atN xs.length i).bind fun k => xs[k]?
def setG (xs : List α) (i : Int) (x : α) : Option (List α) := (atN xs.length i).map fun k => xs.set k x
def repG (xs : List α) (k : Int) : Option (List α) := if (leN (-k) 1152921504606846976 && leN k 1000 && decide (xs.length ≤ 1000)) = true then some (List.replicate k.toNat xs).flatten else none
def repLG (xs : List α) (k : Int) : Option (List α) := if (leN (-k) 1152921504606846976 && leN k 10000 && decide (xs.length ≤ 1000)) = true then some (List.replicate k.toNat xs).flatten else none
def rgG (n : Int) : Option (List Int) := if rngOk n = true then some (upto 0 n.toNat) else none
def rg2G (a b : Int) : Option (List Int) := if (rngOk a && rngOk b) = true then some (upto a (b - a).toNat) else none
def lrgG (n : Int) : Option (List Int) := if (leN n 10000000 && rngOk n) = true then some (upto 0 n.toNat) else none
def lrg2G (a b : Int) : Option (List Int) := if (leN (b - a) 10000000 && rngOk a && rngOk b) = true then some (upto a (b - a).toNat) else none
def enumP (xs : List α) : List (Int × α) := xs.zipIdx.map fun p => ((p.2 : Int), p.1)
def idxG [DecidableEq α] (x : α) : List α → Nat → Option Nat
  | [], _ => none
  | y :: r, n => if y = x then some n else idxG x r (n + 1)
def idxI [DecidableEq α] (xs : List α) (x : α) : Option Int := (idxG x xs 0).map fun n => (n : Int)
def popG (xs : List α) (j : Int) : Option (α × List α) := (atN xs.length j).bind fun k => xs[k]?.bind fun x => if (leN (-j) 1152921504606846976 && leN j 1152921504606846976) = true then some (x, xs.eraseIdx k) else none
def bestI (f : Int → Int → Bool) : List Int → Option Int
  | [] => none
  | x :: xs => some (xs.foldl (fun a y => if f a y = true then y else a) x)
def maxG : List Int → Option Int := bestI fun a y => decide (a < y)
def minG : List Int → Option Int := bestI fun a y => decide (y < a)
def memB [DecidableEq α] (x : α) (xs : List α) : Bool := decide (x ∈ xs)
theorem memB_iff [DecidableEq α] {x : α} {xs : List α} : memB x xs = true ↔ x ∈ xs := decide_eq_true_iff
def cntT [DecidableEq α] (x : α) (xs : List α) : Nat := xs.countP fun y => decide (y = x)
def andO (b : Bool) (c : Option Bool) : Option Bool := if b = true then c else some false
def orO (b : Bool) (c : Option Bool) : Option Bool := if b = true then some true else c
def comp0 (p : α → Option Bool) (f : α → Option β) : List α → Option (List β)
  | [] => some []
  | x :: r => (p x).bind fun b => if b = true then (f x).bind fun y => (comp0 p f r).map fun ys => y :: ys else comp0 p f r
def compM (p : α → Option Bool) (f : α → Option β) (xs : List α) : Option (List β) := if xs.length ≤ cap then comp0 p f xs else none
def comp0S {σ : Type} (p : σ → α → Option (Bool × σ)) (f : σ → α → Option (β × σ)) : List α → σ → Option (List β × σ)
  | [], s => some ([], s)
  | x :: r, s => (p s x).bind fun b => if b.1 = true then (f b.2 x).bind fun y => (comp0S p f r y.2).map fun ys => (y.1 :: ys.1, ys.2) else comp0S p f r b.2
def compS {σ : Type} (p : σ → α → Option (Bool × σ)) (f : σ → α → Option (β × σ)) (xs : List α) (s : σ) : Option (List β × σ) := if xs.length ≤ cap then comp0S p f xs s else none
inductive Ctl (σ ρ : Type) where
  | nx (s : σ) | bk (s : σ) | rt (r : ρ)
def forN {σ : Type} (step : σ → α → Option σ) : List α → σ → Option σ
  | [], s => some s
  | x :: r, s => (step s x).bind fun s' => forN step r s'
def forR {σ ρ : Type} (step : σ → α → Option (Ctl σ ρ)) : List α → σ → Option (σ ⊕ ρ)
  | [], s => some (.inl s)
  | x :: r, s => (step s x).bind fun c => match c with
    | .nx s' => forR step r s'
    | .bk s' => some (.inl s')
    | .rt v => some (.inr v)
def whileN {σ : Type} (c : σ → Option Bool) (step : σ → Option σ) : Nat → σ → Option σ
  | 0, _ => none
  | n + 1, s => (c s).bind fun b => if b = true then (step s).bind fun s' => whileN c step n s' else some s
end
section
variable {α β γ δ ε : Type}
class Dt (k : Nat) (e : α → D) [DecidableEq α] : Prop where
  eqv : ∀ x y, eqD (e x) (e y) = true ↔ x = y
  dat : ∀ x, isData k (e x) = true
theorem Dt.eq {k : Nat} {e : α → D} [DecidableEq α] [Dt k e] (x y : α) : eqD (e x) (e y) = decide (x = y) := by
  rw [Bool.eq_iff_iff, Dt.eqv (k := k) x y, decide_eq_true_iff]
instance (k : Nat) : Dt k D.int := ⟨fun x y => by simp [eqD], fun x => by cases k <;> rfl⟩
instance (k : Nat) : Dt k D.bl := ⟨fun x y => by simp [eqD], fun x => by cases k <;> rfl⟩
theorem eqDs_map [DecidableEq α] {e : α → D} (k : Nat) [Dt k e] : ∀ xs ys : List α, eqDs (xs.map e) (ys.map e) = decide (xs = ys)
  | [], [] => by simp [eqDs]
  | [], y :: ys => by simp [eqDs]
  | x :: xs, [] => by simp [eqDs]
  | x :: xs, y :: ys => by
    rw [List.map_cons, List.map_cons, eqDs, eqDs_map k xs ys, Dt.eq (k := k) x y]
    by_cases h : x = y <;> simp [h]
theorem isDatas_map [DecidableEq α] {e : α → D} {k : Nat} [Dt k e] : ∀ xs : List α, isDatas k (xs.map e) = true
  | [] => by cases k <;> rfl
  | x :: xs => by rw [List.map_cons]; simp [isDatas, Dt.dat (k := k) x, isDatas_map (k := k) xs]
instance [DecidableEq α] {e : α → D} (k : Nat) [Dt k e] : Dt (k + 1) (eT e) := ⟨fun x y => by rw [eT, eT, eqD, eqDs_map k, decide_eq_true_iff], fun x => by rw [eT, isData, isDatas_map]⟩
instance [DecidableEq α] {e : α → D} (k : Nat) [Dt k e] : Dt (k + 1) (eL e) := ⟨fun x y => by rw [eL, eL, eqD, eqDs_map k, decide_eq_true_iff], fun x => by rw [eL, isData, isDatas_map]⟩
instance [DecidableEq α] [DecidableEq β] {a : α → D} {b : β → D} (k : Nat) [Dt k a] [Dt k b] : Dt (k + 1) (eP a b) := ⟨fun x y => by
    obtain ⟨x1, x2⟩ := x
    obtain ⟨y1, y2⟩ := y
    simp [eP, eqD, eqDs, Dt.eqv (k := k), Bool.and_eq_true], fun x => by rw [eP, isData, isDatas, isDatas, isDatas, Dt.dat, Dt.dat]; rfl⟩
instance [DecidableEq α] [DecidableEq β] [DecidableEq γ] {a : α → D} {b : β → D} {c : γ → D} (k : Nat) [Dt k a] [Dt k b] [Dt k c] : Dt (k + 1) (eP3 a b c) := ⟨fun x y => by
    obtain ⟨x1, x2, x3⟩ := x
    obtain ⟨y1, y2, y3⟩ := y
    simp [eP3, eqD, eqDs, Dt.eqv (k := k), Bool.and_eq_true], fun x => by rw [eP3, isData, isDatas, isDatas, isDatas, isDatas, Dt.dat, Dt.dat, Dt.dat]; rfl⟩
instance [DecidableEq α] [DecidableEq β] [DecidableEq γ] [DecidableEq δ] {a : α → D} {b : β → D} {c : γ → D} {d : δ → D} (k : Nat) [Dt k a] [Dt k b] [Dt k c] [Dt k d] : Dt (k + 1) (eP4 a b c d) := ⟨fun x y => by
    obtain ⟨x1, x2, x3, x4⟩ := x
    obtain ⟨y1, y2, y3, y4⟩ := y
    simp [eP4, eqD, eqDs, Dt.eqv (k := k), Bool.and_eq_true], fun x => by rw [eP4, isData, isDatas, isDatas, isDatas, isDatas, isDatas, Dt.dat, Dt.dat, Dt.dat, Dt.dat]; rfl⟩

variable {i j : Int} {b : Bool} {ds : List D} {xs ys : List α} {e : α → D}
theorem t_add : opSem .add [.int i, .int j] = some (.int (i + j)) := rfl
theorem t_sub : opSem .sub [.int i, .int j] = some (.int (i - j)) := rfl
theorem t_mul {r : Int} (h : mulG i j = some r) : opSem .mul [.int i, .int j] = some (.int r) := by
  show (if (b64 i || b64 j) = true then some (D.int (i * j)) else none) = _
  unfold mulG at h
  split at h
  · next q => rw [if_pos q, osome h]
  · cases h
theorem t_mulL (h : b64 i = true) : opSem .mul [.int i, .int j] = some (.int (i * j)) := by
  show (if (b64 i || b64 j) = true then some (D.int (i * j)) else none) = _
  rw [h]; rfl
theorem t_mulR (h : b64 j = true) : opSem .mul [.int i, .int j] = some (.int (i * j)) := by
  show (if (b64 i || b64 j) = true then some (D.int (i * j)) else none) = _
  rw [h, Bool.or_true]; rfl
theorem t_fdiv {r : Int} (h : fdivG i j = some r) : opSem .fdiv [.int i, .int j] = some (.int r) := by
  show (if (decide (0 < j) && leN j 1073741823) = true then some (D.int (i / j)) else none) = _
  unfold fdivG at h
  split at h
  · next q => rw [if_pos q, osome h]
  · cases h
theorem t_mod {r : Int} (h : modG i j = some r) : opSem .mod [.int i, .int j] = some (.int r) := by
  show (if decide (0 < j) = true then some (D.int (i % j)) else none) = _
  unfold modG at h
  split at h
  · next q => rw [if_pos q, osome h]
  · cases h
theorem t_lt : opSem .lt [.int i, .int j] = some (.bl (decide (i < j))) := rfl
theorem t_le : opSem .le [.int i, .int j] = some (.bl (decide (i ≤ j))) := rfl
theorem t_gt : opSem .gt [.int i, .int j] = some (.bl (decide (i > j))) := rfl
theorem t_ge : opSem .ge [.int i, .int j] = some (.bl (decide (i ≥ j))) := rfl
theorem t_max2 : opSem .max2 [.int i, .int j] = some (.int (if j > i then j else i)) := rfl
theorem t_min2 : opSem .min2 [.int i, .int j] = some (.int (if j < i then j else i)) := rfl
theorem t_neg : opSem .neg [.int i] = some (.int (-i)) := rfl
theorem t_abs : opSem .abs [.int i] = some (.int (if i < 0 then -i else i)) := rfl
theorem t_int : opSem .int1 [.int i] = some (.int i) := rfl
theorem t_intb : opSem .int1 [.bl b] = some (.int (if b = true then 1 else 0)) := rfl
theorem t_lenT : opSem .len [eT e xs] = some (.int (xs.length : Nat)) := by
  show some (D.int ((xs.map e).length : Nat)) = _; rw [List.length_map]
theorem t_lenL : opSem .len [eL e xs] = some (.int (xs.length : Nat)) := by
  show some (D.int ((xs.map e).length : Nat)) = _; rw [List.length_map]
theorem t_lenR {ns : List Int} : opSem .len [.ro ns] = some (.int (ns.length : Nat)) := rfl
theorem t_catT {zs : List α} (h : catG xs ys = some zs) : opSem .add [eT e xs, eT e ys] = some (eT e zs) := by
  show (if (xs.map e).length + (ys.map e).length ≤ cap then some (D.tup (xs.map e ++ ys.map e)) else none) = _
  unfold catG at h
  rw [List.length_map, List.length_map]
  split at h
  · next q => rw [if_pos q, ← osome h, ← List.map_append]; rfl
  · cases h
theorem t_catL {zs : List α} (h : catG xs ys = some zs) : opSem .add [eL e xs, eL e ys] = some (eL e zs) := by
  show (if (xs.map e).length + (ys.map e).length ≤ cap then some (D.lst (xs.map e ++ ys.map e)) else none) = _
  unfold catG at h
  rw [List.length_map, List.length_map]
  split at h
  · next q => rw [if_pos q, ← osome h, ← List.map_append]; rfl
  · cases h
theorem t_repT {zs : List α} {k : Int} (h : repG xs k = some zs) : opSem .mul [eT e xs, .int k] = some (eT e zs) := by
  show (if (leN (-k) 1152921504606846976 && leN k 1000 && decide ((xs.map e).length ≤ 1000)) = true then some (D.tup (List.replicate k.toNat (xs.map e)).flatten) else none) = _
  unfold repG at h
  rw [List.length_map]
  split at h
  · next q => rw [if_pos q, ← osome h]; show _ = some (D.tup _); rw [List.map_flatten, List.map_replicate]
  · cases h
theorem t_repL {zs : List α} {k : Int} (h : repLG xs k = some zs) : opSem .mul [eL e xs, .int k] = some (eL e zs) := by
  show (if (leN (-k) 1152921504606846976 && leN k 10000 && decide ((xs.map e).length ≤ 1000)) = true then some (D.lst (List.replicate k.toNat (xs.map e)).flatten) else none) = _
  unfold repLG at h
  rw [List.length_map]
  split at h
  · next q => rw [if_pos q, ← osome h]; show _ = some (D.lst _); rw [List.map_flatten, List.map_replicate]
  · cases h
theorem ix_map {x : α} (h : ixG xs i = some x) : ((atN (xs.map e).length i).bind fun k => (xs.map e)[k]?) = some (e x) := by
  unfold ixG at h
  rw [List.length_map]
  obtain ⟨k, hk, h⟩ := bsome h
  rw [hk]
  show (xs.map e)[k]? = _
  rw [List.getElem?_map, h]; rfl
theorem t_ixT {x : α} (h : ixG xs i = some x) : opSem .ix [eT e xs, .int i] = some (e x) := ix_map h
theorem t_ixL {x : α} (h : ixG xs i = some x) : opSem .ix [eL e xs, .int i] = some (e x) := ix_map h
theorem cutL_map' (f : α → β) (xs : List α) (lo hi : Option Int) : cutL (xs.map f) lo hi = (cutL xs lo hi).map f := by
  unfold cutL
  rw [List.length_map, List.map_take, List.map_drop]
theorem t_cutLoT : opSem (.cut true false) [eT e xs, .int i] = some (eT e (cutL xs (some i) none)) := by
  show some (D.tup (cutL (xs.map e) (some i) none)) = _; rw [cutL_map']; rfl
theorem t_cutHiT : opSem (.cut false true) [eT e xs, .int i] = some (eT e (cutL xs none (some i))) := by
  show some (D.tup (cutL (xs.map e) none (some i))) = _; rw [cutL_map']; rfl
theorem t_cutLoL : opSem (.cut true false) [eL e xs, .int i] = some (eL e (cutL xs (some i) none)) := by
  show some (D.lst (cutL (xs.map e) (some i) none)) = _; rw [cutL_map']; rfl
theorem t_cutHiL : opSem (.cut false true) [eL e xs, .int i] = some (eL e (cutL xs none (some i))) := by
  show some (D.lst (cutL (xs.map e) none (some i))) = _; rw [cutL_map']; rfl
theorem t_cut2T : cutD (eT e xs) (some i) (some j) = some (eT e (cutL xs (some i) (some j))) := by
  show some (D.tup (cutL (xs.map e) (some i) (some j))) = _; rw [cutL_map']; rfl
theorem t_cut2L : cutD (eL e xs) (some i) (some j) = some (eL e (cutL xs (some i) (some j))) := by
  show some (D.lst (cutL (xs.map e) (some i) (some j))) = _; rw [cutL_map']; rfl
theorem t_revL : opSem .rev [eL e xs] = some (eL e xs.reverse) := by
  show some (D.lst (xs.map e).reverse) = _; rw [← List.map_reverse]; rfl
theorem tyInts_map : ∀ xs : List Int, intsOf (xs.map D.int) = some xs
  | [] => rfl
  | x :: xs => by show (intsOf (xs.map D.int)).map _ = _; rw [tyInts_map xs]; rfl
theorem t_sumL {xs : List Int} : opSem .sum [eL D.int xs] = some (.int xs.sum) := by
  show ((intsOf (xs.map D.int)).map fun l => D.int l.sum) = _; rw [tyInts_map]; rfl
theorem t_sumT {xs : List Int} : opSem .sum [eT D.int xs] = some (.int xs.sum) := by
  show ((intsOf (xs.map D.int)).map fun l => D.int l.sum) = _; rw [tyInts_map]; rfl
theorem blsOf_mapB : ∀ bs : List Bool, blsOf (bs.map D.bl) = some bs
  | [] => rfl
  | x :: xs => by show (blsOf (xs.map D.bl)).map _ = _; rw [blsOf_mapB xs]; rfl
theorem t_all {xs : List Bool} : opSem .all [eL D.bl xs] = some (.bl (xs.all id)) := by
  show ((blsOf (xs.map D.bl)).map fun l => D.bl (l.all id)) = _; rw [blsOf_mapB]; rfl
theorem t_any {xs : List Bool} : opSem .any [eL D.bl xs] = some (.bl (xs.any id)) := by
  show ((blsOf (xs.map D.bl)).map fun l => D.bl (l.any id)) = _; rw [blsOf_mapB]; rfl
theorem t_tupL : opSem .tuple [eL e xs] = some (eT e xs) := rfl
theorem t_tupT : opSem .tuple [eT e xs] = some (eT e xs) := rfl
theorem t_lstL : opSem .list [eL e xs] = some (eL e xs) := rfl
theorem t_lstT : opSem .list [eT e xs] = some (eL e xs) := rfl
theorem t_eq [DecidableEq α] [Dt depthLine e] {x y : α} : opSem .eq [e x, e y] = some (.bl (decide (x = y))) := by
  show (if (isData depthLine (e x) && isData depthLine (e y)) = true then some (D.bl (eqD (e x) (e y))) else none) = _
  rw [Dt.dat, Dt.dat, Dt.eq (k := depthLine)]; rfl
theorem t_ne [DecidableEq α] [Dt depthLine e] {x y : α} : opSem .ne [e x, e y] = some (.bl (!decide (x = y))) := by
  show (if (isData depthLine (e x) && isData depthLine (e y)) = true then some (D.bl (!eqD (e x) (e y))) else none) = _
  rw [Dt.dat, Dt.dat, Dt.eq (k := depthLine)]; rfl
theorem any_eqD [DecidableEq α] {k : Nat} [Dt k e] (x : α) : ∀ xs : List α, ((xs.map e).any fun d => eqD d (e x)) = decide (x ∈ xs)
  | [] => by simp
  | y :: ys => by
    rw [List.map_cons, List.any_cons, any_eqD (k := k) x ys, Dt.eq (k := k) y x]
    by_cases h : y = x
    · simp [h]
    · simp [h, Ne.symm h]
theorem inn_eq {x : D} {es : List D} (h1 : isData depthLine x = true) (h2 : isDatas depthLine es = true) (h3 : ∀ z, x ≠ .str z) : op2 .inn x (.tup es) = some (.bl (es.any fun d => eqD d x)) ∧ op2 .inn x (.lst es) = some (.bl (es.any fun d => eqD d x)) ∧
    op2 .nin x (.tup es) = some (.bl (!es.any fun d => eqD d x)) ∧ op2 .nin x (.lst es) = some (.bl (!es.any fun d => eqD d x)) := by
  cases x with
  | str z => exact absurd rfl (h3 z)
  | _ => simp [op2, seqOf, h1, h2]
class NoStr (e : α → D) : Prop where
  ns : ∀ x z, e x ≠ .str z
instance : NoStr D.int := ⟨fun x z h => by cases h⟩
instance : NoStr D.bl := ⟨fun x z h => by cases h⟩
instance {e : α → D} : NoStr (eT e) := ⟨fun x z h => by cases h⟩
instance {e : α → D} : NoStr (eL e) := ⟨fun x z h => by cases h⟩
instance {a : α → D} {b : β → D} : NoStr (eP a b) := ⟨fun x z h => by cases h⟩
instance {a : α → D} {b : β → D} {c : γ → D} : NoStr (eP3 a b c) := ⟨fun x z h => by cases h⟩
instance {a : α → D} {b : β → D} {c : γ → D} {d : δ → D} : NoStr (eP4 a b c d) := ⟨fun x z h => by cases h⟩
theorem t_inT [DecidableEq α] [Dt depthLine e] [NoStr e] {x : α} : opSem .inn [e x, eT e xs] = some (.bl (memB x xs)) := by
  refine (inn_eq (Dt.dat x) (isDatas_map (k := depthLine) xs) (NoStr.ns x)).1.trans ?_
  rw [any_eqD (k := depthLine)]; rfl
theorem t_inL [DecidableEq α] [Dt depthLine e] [NoStr e] {x : α} : opSem .inn [e x, eL e xs] = some (.bl (memB x xs)) := by
  refine (inn_eq (Dt.dat x) (isDatas_map (k := depthLine) xs) (NoStr.ns x)).2.1.trans ?_
  rw [any_eqD (k := depthLine)]; rfl
theorem t_ninT [DecidableEq α] [Dt depthLine e] [NoStr e] {x : α} : opSem .nin [e x, eT e xs] = some (.bl (!memB x xs)) := by
  refine (inn_eq (Dt.dat x) (isDatas_map (k := depthLine) xs) (NoStr.ns x)).2.2.1.trans ?_
  rw [any_eqD (k := depthLine)]; rfl
theorem t_ninL [DecidableEq α] [Dt depthLine e] [NoStr e] {x : α} : opSem .nin [e x, eL e xs] = some (.bl (!memB x xs)) := by
  refine (inn_eq (Dt.dat x) (isDatas_map (k := depthLine) xs) (NoStr.ns x)).2.2.2.trans ?_
  rw [any_eqD (k := depthLine)]; rfl
theorem countP_map [DecidableEq α] {k : Nat} [Dt k e] (x : α) : ∀ xs : List α, (xs.map e).countP (fun d => eqD d (e x)) = cntT x xs
  | [] => rfl
  | y :: ys => by
    rw [List.map_cons, List.countP_cons, countP_map (k := k) x ys, Dt.eq (k := k) y x, cntT, cntT, List.countP_cons]
theorem t_countT [DecidableEq α] [Dt depthLine e] {x : α} : opSem .count [eT e xs, e x] = some (.int (cntT x xs : Nat)) := by
  show (if (isDatas depthLine (xs.map e) && isData depthLine (e x)) = true then some (D.int (((xs.map e).countP fun d => eqD d (e x) : Nat) : Int)) else none) = _
  rw [isDatas_map, Dt.dat, countP_map (k := depthLine)]; rfl
theorem t_countL [DecidableEq α] [Dt depthLine e] {x : α} : opSem .count [eL e xs, e x] = some (.int (cntT x xs : Nat)) := t_countT
theorem idx_map [DecidableEq α] {k : Nat} [Dt k e] (x : α) : ∀ (xs : List α) (n : Nat), idx (e x) (xs.map e) n = idxG x xs n
  | [], _ => rfl
  | y :: r, n => by
    show (if eqD (e y) (e x) = true then some n else idx (e x) (r.map e) (n + 1)) = _
    rw [idx_map (k := k) x r (n + 1), Dt.eq (k := k) y x, idxG]
    by_cases h : y = x <;> simp [h]
theorem t_indexT [DecidableEq α] [Dt depthLine e] {x : α} (h : idxI xs x = some i) : opSem .index [eT e xs, e x] = some (.int i) := by
  show (if (isDatas depthLine (xs.map e) && isData depthLine (e x)) = true then (idx (e x) (xs.map e) 0).map (fun n => D.int n) else none) = _
  rw [isDatas_map, Dt.dat, idx_map (k := depthLine)]
  unfold idxI at h
  cases q : idxG x xs 0 with
  | none => rw [q] at h; cases h
  | some n => rw [q] at h; cases h; rfl
theorem t_indexL [DecidableEq α] [Dt depthLine e] {x : α} (h : idxI xs x = some i) : opSem .index [eL e xs, e x] = some (.int i) := t_indexT h
theorem t_isnO {x : Option α} (h : ∀ y, isNonD (e y) = false) : opSem .isn [eO e x] = some (.bl x.isNone) := by
  cases x with
  | none => rfl
  | some y => show some (D.bl (isNonD (e y))) = _; rw [h]; rfl
theorem t_isnnO {x : Option α} (h : ∀ y, isNonD (e y) = false) : opSem .isnn [eO e x] = some (.bl x.isSome) := by
  cases x with
  | none => rfl
  | some y => show some (D.bl (!isNonD (e y))) = _; rw [h]; rfl
theorem t_lrg {l : List Int} (h : lrgG i = some l) : opSem .lrg1 [.int i] = some (eL D.int l) := by
  show (if (leN i 10000000 && rngOk i) = true then some (D.lst ((upto 0 i.toNat).map D.int)) else none) = _
  unfold lrgG at h
  split at h
  · next q => rw [if_pos q, ← osome h]; rfl
  · cases h
theorem t_lrg2 {l : List Int} (h : lrg2G i j = some l) : opSem .lrg2 [.int i, .int j] = some (eL D.int l) := by
  show (if (leN (j - i) 10000000 && rngOk i && rngOk j) = true then some (D.lst ((upto i (j - i).toNat).map D.int)) else none) = _
  unfold lrg2G at h
  split at h
  · next q => rw [if_pos q, ← osome h]; rfl
  · cases h
theorem alike_ints (x : Int) : ∀ xs : List Int, (xs.map D.int).all (alikeD (.int x)) = true
  | [] => rfl
  | y :: ys => by rw [List.map_cons, List.all_cons, alike_ints x ys]; rfl
theorem allAlike_ints : ∀ xs : List Int, allAlike (xs.map D.int) = true
  | [] => rfl
  | x :: xs => by rw [List.map_cons, allAlike, alike_ints, allAlike_ints xs]; rfl
theorem bestD_ints (f : D → D → Bool) (g : Int → Int → Bool) (h : ∀ a b, f (.int a) (.int b) = g a b) : ∀ (xs : List Int) (x : Int), bestD f (.int x) (xs.map D.int) = .int (xs.foldl (fun a y => if g a y = true then y else a) x)
  | [], x => rfl
  | y :: ys, x => by
    have := bestD_ints f g h ys (if g x y = true then y else x)
    rw [List.foldl_cons, ← this]
    unfold bestD
    rw [List.map_cons, List.foldl_cons, h]
    by_cases q : g x y = true <;> simp [q]
theorem best_ok {f : D → D → Bool} {g : Int → Int → Bool} (h : ∀ a b, f (.int a) (.int b) = g a b) {xs : List Int} {r : Int} (hr : bestI g xs = some r) : bestOk f (xs.map D.int) = some (.int r) := by
  cases xs with
  | nil => cases hr
  | cons x r =>
    show (if (allAlike ((x :: r).map D.int) && isDatas depthLine ((x :: r).map D.int)) = true then some (bestD f (.int x) (r.map D.int)) else none) = _
    rw [allAlike_ints, isDatas_map, bestD_ints f g h, ← osome hr]
    rfl
theorem t_maxL {xs : List Int} {r : Int} (h : maxG xs = some r) : opSem .max1 [eL D.int xs] = some (.int r) := best_ok (fun a b => rfl) h
theorem t_maxT {xs : List Int} {r : Int} (h : maxG xs = some r) : opSem .max1 [eT D.int xs] = some (.int r) := best_ok (fun a b => rfl) h
theorem t_minL {xs : List Int} {r : Int} (h : minG xs = some r) : opSem .min1 [eL D.int xs] = some (.int r) := best_ok (fun a b => rfl) h
theorem t_minT {xs : List Int} {r : Int} (h : minG xs = some r) : opSem .min1 [eT D.int xs] = some (.int r) := best_ok (fun a b => rfl) h
theorem it_T : itSem .seq [eT e xs] = some (xs.map e) := rfl
theorem it_L : itSem .seq [eL e xs] = some (xs.map e) := rfl
theorem it_R {ns : List Int} : itSem .seq [.ro ns] = some (ns.map D.int) := rfl
theorem iy_rg1 {l : List Int} (h : rgG i = some l) : itSem .rg1 [.int i] = some (l.map D.int) := by
  show (if rngOk i = true then some ((upto 0 i.toNat).map D.int) else none) = _
  unfold rgG at h
  split at h
  · next q => rw [if_pos q, ← osome h]
  · cases h
theorem iy_rg2 {l : List Int} (h : rg2G i j = some l) : itSem .rg2 [.int i, .int j] = some (l.map D.int) := by
  show (if (rngOk i && rngOk j) = true then some ((upto i (j - i).toNat).map D.int) else none) = _
  unfold rg2G at h
  split at h
  · next q => rw [if_pos q, ← osome h]
  · cases h
theorem enumD_map : ∀ (xs : List α) (n : Nat), enumD n (xs.map e) = (xs.zipIdx n).map fun p => eP D.int e ((p.2 : Int), p.1)
  | [], n => rfl
  | x :: xs, n => by rw [List.map_cons, enumD, enumD_map xs (n + 1), List.zipIdx_cons, List.map_cons]; rfl
theorem enum_items : enumD 0 (xs.map e) = (enumP xs).map (eP D.int e) := by
  rw [enumD_map, enumP, List.map_map]; rfl
theorem it_enT : itSem .enum [eT e xs] = some ((enumP xs).map (eP D.int e)) := by
  show some (enumD 0 (xs.map e)) = _; rw [enum_items]
theorem it_enL : itSem .enum [eL e xs] = some ((enumP xs).map (eP D.int e)) := by
  show some (enumD 0 (xs.map e)) = _; rw [enum_items]
theorem zipD_map {g : β → D} : ∀ (xs : List α) (ys : List β), zipD (xs.map e) (ys.map g) = (xs.zip ys).map (eP e g)
  | [], _ => rfl
  | _ :: _, [] => rfl
  | x :: xs, y :: ys => by rw [List.map_cons, List.map_cons, zipD, zipD_map xs ys]; rfl
theorem it_zipT {g : β → D} {ys : List β} : itSem .zip2 [eT e xs, eT g ys] = some ((xs.zip ys).map (eP e g)) := by
  show some (zipD (xs.map e) (ys.map g)) = _; rw [zipD_map]
theorem it_zipL {g : β → D} {ys : List β} : itSem .zip2 [eL e xs, eL g ys] = some ((xs.zip ys).map (eP e g)) := by
  show some (zipD (xs.map e) (ys.map g)) = _; rw [zipD_map]
end
end Ev
end
section
set_option linter.all false
set_option Elab.async false
namespace Ev
open PySem
variable {C : EC} {env e1 e2 e3 : Env} {os : List O} {o o1 o2 : O}
theorem b_le {n m : Nat} (h : Nat.ble n m = true) : n ≤ m := Nat.ble_eq.mp h
theorem x_var {i : Nat} {d : D} (h : env.at i = .fz d) : evE C (.var i) env = .ok [.fz d] env := by rw [evE, h]
theorem x_own {i : Nat} {ds : List D} (h : env.at i = .ow ds) : evE C (.var i) env = .ok [.sl i] env := by rw [evE, h]
theorem x_cst {d : D} : evE C (.cst d) env = .ok [.fz d] env := rfl
theorem x_nil : evE C .nil env = .ok [] env := rfl
theorem x_cons {a r : E} (h : evE C a env = .ok [o] e1) (h2 : evE C r e1 = .ok os e2) : evE C (.cons a r) env = .ok (o :: os) e2 := by
  rw [evE, h]
  show (match evE C r e1 with | .ok os e2 => R.ok (o :: os) e2 | .exc k a e => .exc k a e | .stuck => .stuck) = _
  rw [h2]
theorem x_op {op : Op} {a : E} {d : D} {ds : List D} (h : evE C a env = .ok os e1) (hv : os.map (O.view e1) = ds) (hd : opSem op ds = some d) (hr : resO op d = o) : evE C (.op op a) env = .ok [o] e1 := by
  rw [evE, h]
  show (match opSem op (os.map (O.view e1)) with | some d => R.ok [resO op d] e1 | none => .stuck) = _
  rw [hv, hd, ← hr]
theorem x_tup {a : E} {ds : List D} (h : evE C a env = .ok os e1) (hv : os.map (O.view e1) = ds) (hc : Nat.ble os.length cap = true) (hf : freezeO e1 os = e2) : evE C (.tup a) env = .ok [.fz (.tup ds)] e2 := by
  rw [evE, h]
  show (if os.length ≤ cap then R.ok [O.fz (.tup (os.map (O.view e1)))] (freezeO e1 os) else .stuck) = _
  rw [if_pos (b_le hc), hv, hf]
theorem x_lst {a : E} {ds : List D} (h : evE C a env = .ok os e1) (hv : os.map (O.view e1) = ds) (hc : Nat.ble os.length cap = true) (hf : freezeO e1 os = e2) : evE C (.lst a) env = .ok [.fr (.lst ds)] e2 := by
  rw [evE, h]
  show (if os.length ≤ cap then R.ok [O.fr (.lst (os.map (O.view e1)))] (freezeO e1 os) else .stuck) = _
  rw [if_pos (b_le hc), hv, hf]
theorem tst_bl {β : Type} {a : E} {b : Bool} {g : Bool → Env → R β} (h : evE C a env = .ok [o] e1) (hv : o.view e1 = .bl b) : (evE C a env).tst g = g b e1 := by
  rw [h]
  show (match o.view e1 with | .bl b => g b e1 | _ => .stuck) = _
  rw [hv]
theorem x_and {a c : E} {b b2 : Bool} (h : evE C a env = .ok [.fz (.bl b)] e1) (h2 : evE C c e1 = .ok [.fz (.bl b2)] e1) : evE C (.and a c) env = .ok [.fz (.bl (b && b2))] e1 := by
  rw [evE, tst_bl h rfl]
  cases b
  · rfl
  · exact h2
theorem x_or {a c : E} {b b2 : Bool} (h : evE C a env = .ok [.fz (.bl b)] e1) (h2 : evE C c e1 = .ok [.fz (.bl b2)] e1) : evE C (.or a c) env = .ok [.fz (.bl (b || b2))] e1 := by
  rw [evE, tst_bl h rfl]
  cases b
  · exact h2
  · rfl
theorem x_andO {a c : E} {b v : Bool} {oc : Option Bool} (h : evE C a env = .ok [.fz (.bl b)] e1) (hv : andO b oc = some v) (h2 : b = true → ∀ b2, oc = some b2 → evE C c e1 = .ok [.fz (.bl b2)] e1) : evE C (.and a c) env = .ok [.fz (.bl v)] e1 := by
  rw [evE, tst_bl h rfl]
  cases b
  · cases hv; rfl
  · exact h2 rfl v hv
theorem x_orO {a c : E} {b v : Bool} {oc : Option Bool} (h : evE C a env = .ok [.fz (.bl b)] e1) (hv : orO b oc = some v) (h2 : b = false → ∀ b2, oc = some b2 → evE C c e1 = .ok [.fz (.bl b2)] e1) : evE C (.or a c) env = .ok [.fz (.bl v)] e1 := by
  rw [evE, tst_bl h rfl]
  cases b
  · exact h2 rfl v hv
  · cases hv; rfl
theorem x_not {a : E} {b : Bool} (h : evE C a env = .ok [.fz (.bl b)] e1) : evE C (.not a) env = .ok [.fz (.bl (!b))] e1 := by
  rw [evE, tst_bl h rfl]
theorem x_iteO {α : Type} {c a a2 : E} {b : Bool} {oa ob : Option α} {v : α} {g : α → O} (h : evE C c env = .ok [.fz (.bl b)] e1) (hv : (if b = true then oa else ob) = some v)
    (h1 : b = true → ∀ v, oa = some v → evE C a e1 = .ok [g v] e2) (h2 : b = false → ∀ v, ob = some v → evE C a2 e1 = .ok [g v] e2) : evE C (.ite c a a2) env = .ok [g v] e2 := by
  rw [evE, tst_bl h rfl]
  cases b
  · exact h2 rfl v hv
  · exact h1 rfl v hv
theorem x_chain {p q : Op} {a b c : E} {i j k : Int} (h1 : evE C a env = .ok [.fz (.int i)] env) (h2 : evE C b env = .ok [.fz (.int j)] env) (h3 : evE C c env = .ok [.fz (.int k)] env) :
    evE C (.chain p q a b c) env = .ok [.fz (.bl (cmpI p i j && cmpI q j k))] env := by
  rw [evE, h1]
  show (evE C b env).one _ = _
  rw [h2]
  show (if cmpI p i j = true then (evE C c env).one fun oc e3 => ifI (oc.view e3) fun l => R.ok [O.fz (.bl (cmpI q j l))] e3 else .ok [.fz (.bl false)] env) = _
  rw [h3]
  cases cmpI p i j <;> rfl
theorem x_call {f : Nat} {a : E} {d : D} {fr : Bool} {io ds : List D} (h : evE C a env = .ok os e1) (hio : C.io f = false) (hv : os.map (O.view e1) = ds) (hc : C.call f ds = .ok d fr io)
    (ho : (if scalar d = true then O.fz d else if fr = true then O.fr d else O.fz d) = o) (hf : (if scalar d = true then e1 else freezeO e1 os) = e2) : evE C (.call f a) env = .ok [o] e2 := by
  rw [evE, h]
  show (if C.io f = true then .stuck else afterCall os e1 (C.call f (os.map (O.view e1)))) = _
  rw [hio, hv, hc, ← ho, ← hf]
  show (if scalar d = true then R.ok [O.fz d] e1 else .ok [if fr = true then .fr d else .fz d] (freezeO e1 os)) = _
  cases scalar d <;> rfl
theorem x_call0 {f : Nat} {a : E} {d : D} {io ds : List D} (h : evE C a env = .ok os e1) (hio : C.io f = false) (hv : os.map (O.view e1) = ds) (hc : C.call f ds = .ok d false io) (hf : freezeO e1 os = e1) : evE C (.call f a) env = .ok [.fz d] e1 := by
  refine x_call h hio hv hc ?_ ?_
  · cases scalar d <;> rfl
  · rw [hf]; cases scalar d <;> rfl
theorem x_io {f i : Nat} {a : E} {d : D} {fr : Bool} {io ds us xs : List D} (h0 : env.at i = .ow xs) (h : evE C a env = .ok os e1) (hio : C.io f = true) (h1 : e1.at i = .ow ds) (ha : os.any (O.isSl i) = false)
    (hv : os.map (O.view e1) = us) (hc : C.call f (.lst ds :: us) = .ok d fr io) (ho : (if fr = true then O.fr d else .fz d) = o) (hf : (freezeO e1 os).set i (.ow io) = e2) : evE C (.io f i a) env = .ok [o] e2 := by
  rw [evE, h0]
  show (evE C a env).all _ = _
  rw [h]
  show (if C.io f = true then ifL (e1.at i) fun ds => if os.any (O.isSl i) = true then .stuck else afterIo os i e1 (C.call f (.lst ds :: os.map (O.view e1))) else .stuck) = _
  rw [hio, h1]
  show (if os.any (O.isSl i) = true then .stuck else afterIo os i e1 (C.call f (.lst ds :: os.map (O.view e1)))) = _
  rw [ha, hv, hc, ← hf, ← ho]
  rfl
theorem x_meth {op : Op} {x a : E} {d : D} {ds : List D} (h : evE C x env = .ok [o1] e1) (hm : mtOk op (o1.view e1) = true) (h2 : evE C a e1 = .ok os e2) (hk : kindD (o1.view e2) = kindD (o1.view e1))
    (hv : (o1.view e2 :: os.map (O.view e2)) = ds) (hd : opSem op ds = some d) (hr : resO op d = o) : evE C (.meth op x a) env = .ok [o] e2 := by
  rw [evE, h]
  show (if mtOk op (o1.view e1) = true then (evE C a e1).all fun os e2 => if kindD (o1.view e2) = kindD (o1.view e1) then ifS (opSem op (o1.view e2 :: os.map (O.view e2))) fun d => R.ok [resO op d] e2 else .stuck else .stuck) = _
  rw [hm, h2]
  show (if kindD (o1.view e2) = kindD (o1.view e1) then ifS (opSem op (o1.view e2 :: os.map (O.view e2))) fun d => R.ok [resO op d] e2 else .stuck) = _
  rw [if_pos hk, hv, hd, ← hr]
  rfl
theorem erase_map {α β : Type} (f : α → β) : ∀ (xs : List α) (k : Nat), (xs.map f).eraseIdx k = (xs.eraseIdx k).map f
  | [], k => rfl
  | x :: r, 0 => rfl
  | x :: r, k + 1 => congrArg (f x :: ·) (erase_map f r k)
theorem x_pop {α : Type} {e : α → D} {i : Nat} {a : E} {j : Int} {ds : List D} {xs ys : List α} {x : α} (h0 : env.at i = .ow ds) (h : evE C a env = .ok [o1] e1) (hj : o1.view e1 = .int j) (h1 : e1.at i = .ow (xs.map e)) (hp : popG xs j = some (x, ys))
    (hs : e1.set i (.ow (ys.map e)) = e2) : evE C (.pop i a) env = .ok [.fz (e x)] e2 := by
  rw [evE, h0]
  show (evE C a env).one _ = _
  rw [h]
  show ifI (o1.view e1) _ = _
  rw [hj]
  show ifL (e1.at i) _ = _
  rw [h1]
  unfold popG at hp
  obtain ⟨k, hk, hp⟩ := bsome hp
  obtain ⟨x', hx, hp⟩ := bsome hp
  show ifS (atN (xs.map e).length j) _ = _
  rw [List.length_map, hk]
  show ifS (xs.map e)[k]? _ = _
  rw [List.getElem?_map, hx]
  show (if (leN (-j) 1152921504606846976 && leN j 1152921504606846976) = true then R.ok [O.fz (e x')] (e1.set i (.ow ((xs.map e).eraseIdx k))) else .stuck) = _
  split at hp
  · next q =>
    cases hp
    rw [if_pos q, ← hs, erase_map]
  · cases hp
theorem x_cut2 {x a b : E} {i j : Int} {d dx : D} (h : evE C x env = .ok [o1] e1) (h1 : evE C a e1 = .ok [.fz (.int i)] e1) (h2 : evE C b e1 = .ok [.fz (.int j)] e1) (hv : o1.view e1 = dx) (hd : cutD dx (some i) (some j) = some d) (hr : resO .len d = o) : evE C (.cut2 x a b) env = .ok [o] e1 := by
  rw [evE, h]
  show (evE C a e1).one _ = _
  rw [h1]
  show (evE C b e1).one _ = _
  rw [h2]
  show ifS (cutD (o1.view e1) (some i) (some j)) _ = _
  rw [hv, hd, ← hr]
  rfl
def frzS : Sl → Sl
  | .ow ds => .fz (.lst ds)
  | .od kvs => .fz (.dic kvs)
  | s => s
def frzL (env : Env) : List Nat → Env
  | [] => env
  | i :: r => frzL (env.set i (frzS (env.at i))) r
theorem set_same : ∀ (env : Env) (i : Nat), env.set i (env.at i) = env
  | [], i => rfl
  | x :: r, 0 => rfl
  | x :: r, i + 1 => congrArg (x :: ·) (set_same r i)
theorem freeze_set (env : Env) (i : Nat) : env.freeze i = env.set i (frzS (env.at i)) := by
  unfold Env.freeze
  have h := set_same env i
  cases q : env.at i <;> rw [q] at h <;> first | rfl | exact h.symm
theorem freezeL_eq : ∀ (own : List Nat) (env : Env), freezeL env own = frzL env own
  | [], env => rfl
  | i :: r, env => by rw [freezeL, frzL, freeze_set, freezeL_eq r]

theorem compLoop_typed {α β : Type} {own : List Nat} {t : T} {tst elt : Env → R (List O)} {ea : α → D} {eb : β → D} {p : α → Option Bool} {f : α → Option β} {ew : Env} {E1 : α → Env}
    (hb : ∀ x, bind1 t (ea x) ew = some (E1 x)) (hw : ∀ x, wipeE (E1 x) own = ew) (ht : ∀ x b, p x = some b → tst (E1 x) = .ok [.fz (.bl b)] (E1 x))
    (he : ∀ x y, f x = some y → ∃ o, elt (E1 x) = .ok [o] (E1 x) ∧ o.view (E1 x) = eb y ∧ freezeO (E1 x) [o] = E1 x) :
    ∀ (xs : List α) (ys : List β) (acc : List D), comp0 p f xs = some ys → acc.length + xs.length ≤ cap → compLoop own t tst elt (xs.map ea) ew acc = .ok (acc.reverse ++ ys.map eb) ew
  | [], ys, acc, h, _ => by cases h; rw [List.map_nil, compLoop]; simp
  | x :: r, ys, acc, h, hc => by
    rw [comp0] at h
    obtain ⟨b, h1, h⟩ := bsome h
    rw [List.length_cons] at hc
    rw [List.map_cons, compLoop, hb]
    show (tst (E1 x)).tst _ = _
    rw [ht x b h1]
    cases b with
    | false =>
      show compLoop own t tst elt (r.map ea) (wipeE (E1 x) own) acc = _
      rw [hw]
      exact compLoop_typed hb hw ht he r ys acc h (by omega)
    | true =>
      obtain ⟨y, h2, h⟩ := bsome h
      cases h3 : comp0 p f r with
      | none => rw [h3] at h; cases h
      | some zs =>
        rw [h3] at h
        cases h
        obtain ⟨o, g1, g2, g3⟩ := he x y h2
        show (elt (E1 x)).one _ = _
        rw [g1]
        show (if acc.length < cap then compLoop own t tst elt (r.map ea) (wipeE (freezeO (E1 x) [o]) own) (o.view (E1 x) :: acc) else .stuck) = _
        rw [if_pos (by omega), g3, hw, g2, compLoop_typed hb hw ht he r zs (eb y :: acc) h3 (by rw [List.length_cons]; omega)]
        simp
theorem x_comp {α β : Type} {own : List Nat} {t : T} {k : IK} {src tst elt : E} {xs : List α} {ys : List β} {ds : List D} (ea : α → D) (eb : β → D) {p : α → Option Bool} {f : α → Option β} (ew : Env) (E1 : α → Env)
    (h1 : evE C src env = .ok os e1) (hv : os.map (O.view e1) = ds) (h2 : itSem k ds = some (xs.map ea)) (hf0 : frzL (freezeO e1 os) own = e2) (hw0 : wipeE e2 own = ew)
    (hb : ∀ x, bind1 t (ea x) ew = some (E1 x)) (hw : ∀ x, wipeE (E1 x) own = ew) (hr : compM p f xs = some ys) (hl : Nat.beq ew.length e2.length = true) (hk : backE e2 ew own = e3)
    (ht : ∀ x b, p x = some b → evE C tst (E1 x) = .ok [.fz (.bl b)] (E1 x))
    (he : ∀ x y, f x = some y → ∃ o, evE C elt (E1 x) = .ok [o] (E1 x) ∧ o.view (E1 x) = eb y ∧ freezeO (E1 x) [o] = E1 x) :
    evE C (.comp own t k src tst elt) env = .ok [.fr (eL eb ys)] e3 := by
  have hf := (freezeL_eq own (freezeO e1 os)).trans hf0
  rw [evE, h1]
  show ifS (itSem k (os.map (O.view e1))) _ = _
  rw [hv, h2]
  unfold compM at hr
  split at hr
  · next hc =>
    show compEnd _ _ _ = _
    rw [hf, hw0, compLoop_typed hb hw ht he xs ys [] hr (by rw [List.length_nil]; omega)]
    show (if ew.length = e2.length then R.ok [O.fr (.lst ([].reverse ++ ys.map eb))] (backE e2 ew own) else .stuck) = _
    rw [if_pos (Nat.eq_of_beq_eq_true hl), hk]
    rfl
  · cases hr
theorem compLoop_typedS {α β σ : Type} {own : List Nat} {t : T} {tst elt : Env → R (List O)} {ea : α → D} {eb : β → D} {p : σ → α → Option (Bool × σ)} {f : σ → α → Option (β × σ)} {ew : σ → Env} {E1 : σ → α → Env}
    (hb : ∀ s x, bind1 t (ea x) (ew s) = some (E1 s x)) (hw : ∀ s x, wipeE (E1 s x) own = ew s) (ht : ∀ s x b s', p s x = some (b, s') → tst (E1 s x) = .ok [.fz (.bl b)] (E1 s' x))
    (he : ∀ s x y s', f s x = some (y, s') → ∃ o, elt (E1 s x) = .ok [o] (E1 s' x) ∧ o.view (E1 s' x) = eb y ∧ freezeO (E1 s' x) [o] = E1 s' x) :
    ∀ (xs : List α) (s : σ) (ys : List β) (s' : σ) (acc : List D), comp0S p f xs s = some (ys, s') → acc.length + xs.length ≤ cap → compLoop own t tst elt (xs.map ea) (ew s) acc = .ok (acc.reverse ++ ys.map eb) (ew s')
  | [], s, ys, s', acc, h, _ => by cases h; rw [List.map_nil, compLoop]; simp
  | x :: r, s, ys, s', acc, h, hc => by
    rw [comp0S] at h
    obtain ⟨⟨b, s1⟩, h1, h⟩ := bsome h
    rw [List.length_cons] at hc
    rw [List.map_cons, compLoop, hb]
    show (tst (E1 s x)).tst _ = _
    rw [ht s x b s1 h1]
    cases b with
    | false =>
      show compLoop own t tst elt (r.map ea) (wipeE (E1 s1 x) own) acc = _
      rw [hw]
      exact compLoop_typedS hb hw ht he r s1 ys s' acc h (by omega)
    | true =>
      obtain ⟨⟨y, s2⟩, h2, h⟩ := bsome h
      cases h3 : comp0S p f r s2 with
      | none => rw [h3] at h; cases h
      | some zs =>
        obtain ⟨zs, s3⟩ := zs
        rw [h3] at h
        cases h
        obtain ⟨o, g1, g2, g3⟩ := he s1 x y s2 h2
        show (elt (E1 s1 x)).one _ = _
        rw [g1]
        show (if acc.length < cap then compLoop own t tst elt (r.map ea) (wipeE (freezeO (E1 s2 x) [o]) own) (o.view (E1 s2 x) :: acc) else .stuck) = _
        rw [if_pos (by omega), g3, hw, g2, compLoop_typedS hb hw ht he r s2 zs s3 (eb y :: acc) h3 (by rw [List.length_cons]; omega)]
        simp
theorem x_compS {α β σ : Type} {own : List Nat} {t : T} {k : IK} {src tst elt : E} {xs : List α} {ys : List β} {ds : List D} {s s' : σ} (ea : α → D) (eb : β → D) {p : σ → α → Option (Bool × σ)} {f : σ → α → Option (β × σ)} (ew : σ → Env) (E1 : σ → α → Env)
    (h1 : evE C src env = .ok os e1) (hv : os.map (O.view e1) = ds) (h2 : itSem k ds = some (xs.map ea)) (hf0 : frzL (freezeO e1 os) own = e2) (hw0 : wipeE e2 own = ew s)
    (hb : ∀ s x, bind1 t (ea x) (ew s) = some (E1 s x)) (hw : ∀ s x, wipeE (E1 s x) own = ew s) (hr : compS p f xs s = some (ys, s')) (hl : Nat.beq (ew s').length e2.length = true) (hk : backE e2 (ew s') own = e3)
    (ht : ∀ s x b s', p s x = some (b, s') → evE C tst (E1 s x) = .ok [.fz (.bl b)] (E1 s' x))
    (he : ∀ s x y s', f s x = some (y, s') → ∃ o, evE C elt (E1 s x) = .ok [o] (E1 s' x) ∧ o.view (E1 s' x) = eb y ∧ freezeO (E1 s' x) [o] = E1 s' x) :
    evE C (.comp own t k src tst elt) env = .ok [.fr (eL eb ys)] e3 := by
  have hf := (freezeL_eq own (freezeO e1 os)).trans hf0
  rw [evE, h1]
  show ifS (itSem k (os.map (O.view e1))) _ = _
  rw [hv, h2]
  unfold compS at hr
  split at hr
  · next hc =>
    show compEnd _ _ _ = _
    rw [hf, hw0, compLoop_typedS hb hw ht he xs s ys s' [] hr (by rw [List.length_nil]; omega)]
    show (if (ew s').length = e2.length then R.ok [O.fr (.lst ([].reverse ++ ys.map eb))] (backE e2 (ew s') own) else .stuck) = _
    rw [if_pos (Nat.eq_of_beq_eq_true hl), hk]
    rfl
  · cases hr
def Out (r : R Fl) (Q : Fl → Env → Prop) : Prop := ∃ fl e, r = .ok fl e ∧ Q fl e
theorem s_asg {e : E} {i : Nat} (h : evE C e env = .ok [o] e1) (hs : store e1 i o = e2) : evS C (.asg i e) env = .ok .nx e2 := by
  rw [evS, h, ← hs]; rfl
theorem s_par {e : E} {is : List Nat} (h : evE C e env = .ok os e1) (hl : Nat.beq os.length is.length = true) (hs : parStore is (os.map (O.still e1)) (freezeO e1 os) = e2) : evS C (.par is e) env = .ok .nx e2 := by
  rw [evS, h, ← hs]
  show (if os.length = is.length then _ else _) = _
  rw [if_pos (Nat.eq_of_beq_eq_true hl)]
theorem s_unp {e : E} {t : T} (h : evE C e env = .ok [o] e1) (hs : bind1 t (o.view e1) (freezeO e1 [o]) = some e2) : evS C (.unp t e) env = .ok .nx e2 := by
  rw [evS, h]
  show ifS (bind1 t (o.view e1) (freezeO e1 [o])) _ = _
  rw [hs]; rfl
theorem s_expr {e : E} (h : evE C e env = .ok [o] e1) : evS C (.expr e) env = .ok .nx e1 := by rw [evS, h]; rfl
theorem s_app {α : Type} {a : α → D} {e : E} {i : Nat} {ds : List D} {xs zs : List α} {y : α} (h0 : env.at i = .ow ds) (h : evE C e env = .ok [o] e1) (h1 : (freezeO e1 [o]).at i = .ow (xs.map a)) (hv : o.view e1 = a y)
    (hg : appG xs y = some zs) (hs : (freezeO e1 [o]).set i (.ow (zs.map a)) = e2) : evS C (.append i e) env = .ok .nx e2 := by
  rw [evS, h0]
  show (evE C e env).one _ = _
  rw [h]
  show ifL ((freezeO e1 [o]).at i) _ = _
  rw [h1]
  unfold appG at hg
  split at hg
  · next q =>
    cases hg
    show (if (xs.map a).length < cap then R.ok Fl.nx ((freezeO e1 [o]).set i (.ow (xs.map a ++ [o.view e1]))) else .stuck) = _
    rw [List.length_map, if_pos q, hv, ← hs, List.map_append]
    rfl
  · cases hg
theorem s_ext {α : Type} {a : α → D} {e : E} {i : Nat} {ds : List D} {xs ys zs : List α} (h0 : env.at i = .ow ds) (h : evE C e env = .ok [o] e1) (hn : o.isSl i = false) (h1 : (freezeO e1 [o]).at i = .ow (xs.map a)) (hv : o.view e1 = eL a ys)
    (hg : catG xs ys = some zs) (hs : (freezeO e1 [o]).set i (.ow (zs.map a)) = e2) : evS C (.extend i e) env = .ok .nx e2 := by
  rw [evS, h0]
  show (evE C e env).one _ = _
  rw [h]
  show (if o.isSl i = true then .stuck else ifL ((freezeO e1 [o]).at i) _) = _
  rw [hn]
  show ifL ((freezeO e1 [o]).at i) _ = _
  rw [h1]
  show (match o.view e1 with | .lst xs' => if (xs.map a).length + xs'.length ≤ cap then R.ok Fl.nx ((freezeO e1 [o]).set i (.ow (xs.map a ++ xs'))) else .stuck | _ => .stuck) = _
  rw [hv]
  unfold catG at hg
  split at hg
  · next q =>
    cases hg
    show (if (xs.map a).length + (ys.map a).length ≤ cap then R.ok Fl.nx ((freezeO e1 [o]).set i (.ow (xs.map a ++ ys.map a))) else .stuck) = _
    rw [List.length_map, List.length_map, if_pos q, ← hs, List.map_append]
  · cases hg
theorem s_set {α : Type} {a : α → D} {k e : E} {i : Nat} {ds : List D} {j : Int} {xs zs : List α} {y : α} (h : evE C e env = .ok [o] e1) (h0 : (freezeO e1 [o]).at i = .ow ds) (hk : evE C k (freezeO e1 [o]) = .ok [o1] e2) (h1 : e2.at i = .ow (xs.map a)) (hj : o1.view e2 = .int j)
    (hv : o.view e1 = a y) (hg : setG xs j y = some zs) (hs : e2.set i (.ow (zs.map a)) = e3) : evS C (.seti i k e) env = .ok .nx e3 := by
  rw [evS, h]
  show ifL ((freezeO e1 [o]).at i) _ = _
  rw [h0]
  show (evE C k (freezeO e1 [o])).one _ = _
  rw [hk]
  show ifL (e2.at i) _ = _
  rw [h1]
  show ifI (o1.view e2) _ = _
  rw [hj]
  show ifS (setAt (xs.map a) (o.view e1) j) _ = _
  unfold setG at hg
  unfold setAt
  rw [List.length_map, hv]
  cases q : atN xs.length j with
  | none => rw [q] at hg; cases hg
  | some n =>
    rw [q] at hg
    cases hg
    rw [← hs, List.map_set]
    rfl
variable {Q : Fl → Env → Prop}
theorem o_seq {a b : S} (h : evS C a env = .ok .nx e1) (h2 : Out (evS C b e1) Q) : Out (evS C (.seq a b) env) Q := by
  rw [evS, h]; exact h2
theorem o_one {a : S} (h : evS C a env = .ok .nx e1) (hq : Q .nx e1) : Out (evS C a env) Q := ⟨_, _, h, hq⟩
theorem o_nop (hq : Q .nx env) : Out (evS C .nop env) Q := ⟨_, _, rfl, hq⟩
theorem o_ret {e : E} {d : D} {fr : Bool} (h : evE C e env = .ok [o] e1) (hv : o.view e1 = d) (ho : (match o with | .fz _ => (false, e1) | .fr _ => (true, e1) | .sl j => ((e1.at j).own, if (e1.at j).own = true then e1.set j .no else e1)) = (fr, e2)) (hq : Q (.rt d fr) e2) : Out (evS C (.ret e) env) Q := by
  refine ⟨.rt d fr, e2, ?_, hq⟩
  rw [evS, h]
  cases o <;> (cases ho; rw [← hv]; rfl)
theorem o_brk (hq : Q .bk env) : Out (evS C .brk env) Q := ⟨_, _, rfl, hq⟩
theorem o_cnt (hq : Q .ct env) : Out (evS C .cnt env) Q := ⟨_, _, rfl, hq⟩
theorem o_ite_t {c : E} {a b : S} {v : Bool} (h : evE C c env = .ok [.fz (.bl v)] e1) (hv : v = true) (h2 : Out (evS C a e1) Q) : Out (evS C (.ite c a b) env) Q := by
  subst hv
  rw [evS, tst_bl h rfl]; exact h2
theorem o_ite_f {c : E} {a b : S} {v : Bool} (h : evE C c env = .ok [.fz (.bl v)] e1) (hv : v = false) (h2 : Out (evS C b e1) Q) : Out (evS C (.ite c a b) env) Q := by
  subst hv
  rw [evS, tst_bl h rfl]; exact h2
def Then (C : EC) (b : S) (Q : Fl → Env → Prop) : Fl → Env → Prop
  | .nx, e => Out (evS C b e) Q
  | fl, e => Q fl e
theorem o_seqO {a b : S} (h : Out (evS C a env) (Then C b Q)) : Out (evS C (.seq a b) env) Q := by
  obtain ⟨fl, e, h, q⟩ := h
  rw [evS, h]
  cases fl with
  | nx => exact q
  | _ => exact ⟨_, _, rfl, q⟩
theorem o_mono {r : R Fl} {Q Q' : Fl → Env → Prop} (h : Out r Q) (k : ∀ fl e, Q fl e → Q' fl e) : Out r Q' := by
  obtain ⟨fl, e, h, q⟩ := h
  exact ⟨fl, e, h, k _ _ q⟩
theorem for_typed {α σ : Type} {t : T} {body : Env → R Fl} {ea : α → D} {step : σ → α → Option σ} {I : σ → Env → Prop}
    (hb : ∀ s x s' env, I s env → step s x = some s' → ∃ e1, bind1 t (ea x) env = some e1 ∧ Out (body e1) fun fl e => (fl = .nx ∨ fl = .ct) ∧ I s' e) :
    ∀ (xs : List α) (s s' : σ) (env : Env), I s env → forN step xs s = some s' → Out (forLoop t body (xs.map ea) env) fun fl e => fl = .nx ∧ I s' e
  | [], s, s', env, i, h => by cases h; exact ⟨_, _, rfl, rfl, i⟩
  | x :: r, s, s', env, i, h => by
    obtain ⟨s1, h1, h⟩ := bsome h
    obtain ⟨e1, g1, fl, e2, g2, g3, g4⟩ := hb s x s1 env i h1
    rw [List.map_cons, forLoop, g1]
    show Out (turnF (forLoop t body (r.map ea)) (body e1)) _
    rw [g2]
    have := for_typed hb r s1 s' e2 g4 h
    rcases g3 with rfl | rfl <;> exact this
theorem o_for {α σ : Type} {t : T} {k : IK} {src : E} {body : S} {ds : List D} {xs : List α} {s s' : σ} {step : σ → α → Option σ} (ea : α → D) (I : σ → Env → Prop)
    (h1 : evE C src env = .ok os e1) (hv : os.map (O.view e1) = ds) (h2 : itSem k ds = some (xs.map ea)) (hi : I s (freezeO e1 os)) (hr : forN step xs s = some s')
    (hb : ∀ s x s' env, I s env → step s x = some s' → ∃ e1, bind1 t (ea x) env = some e1 ∧ Out (evS C body e1) fun fl e => (fl = .nx ∨ fl = .ct) ∧ I s' e)
    (hq : ∀ e, I s' e → Q .nx e) : Out (evS C (.for t k src body) env) Q := by
  rw [evS, h1]
  show Out (ifS (itSem k (os.map (O.view e1))) _) Q
  rw [hv, h2]
  obtain ⟨fl, e, g1, g2, g3⟩ := for_typed hb xs s s' _ hi hr
  exact ⟨fl, e, g1, by rw [g2]; exact hq e g3⟩
def CtlQ {σ ρ : Type} (er : ρ → D) (fr : Bool) (I : σ → Env → Prop) (J : ρ → Env → Prop) : Ctl σ ρ → Fl → Env → Prop
  | .nx s, fl, e => (fl = .nx ∨ fl = .ct) ∧ I s e
  | .bk s, fl, e => fl = .bk ∧ I s e
  | .rt r, fl, e => fl = .rt (er r) fr ∧ J r e
def SumQ {σ ρ : Type} (er : ρ → D) (fr : Bool) (I : σ → Env → Prop) (J : ρ → Env → Prop) : σ ⊕ ρ → Fl → Env → Prop
  | .inl s, fl, e => fl = .nx ∧ I s e
  | .inr r, fl, e => fl = .rt (er r) fr ∧ J r e
theorem forR_typed {α σ ρ : Type} {t : T} {body : Env → R Fl} {ea : α → D} {step : σ → α → Option (Ctl σ ρ)} {er : ρ → D} {fr : Bool} {I : σ → Env → Prop} {J : ρ → Env → Prop}
    (hb : ∀ s x c env, I s env → step s x = some c → ∃ e1, bind1 t (ea x) env = some e1 ∧ Out (body e1) (CtlQ er fr I J c)) :
    ∀ (xs : List α) (s : σ) (c : σ ⊕ ρ) (env : Env), I s env → forR step xs s = some c → Out (forLoop t body (xs.map ea) env) (SumQ er fr I J c)
  | [], s, c, env, i, h => by cases h; exact ⟨_, _, rfl, rfl, i⟩
  | x :: r, s, c, env, i, h => by
    obtain ⟨s1, h1, h⟩ := bsome h
    obtain ⟨e1, g1, fl, e2, g2, g3⟩ := hb s x s1 env i h1
    rw [List.map_cons, forLoop, g1]
    show Out (turnF (forLoop t body (r.map ea)) (body e1)) _
    rw [g2]
    cases s1 with
    | nx s1 =>
      obtain ⟨g3, g4⟩ := g3
      have := forR_typed hb r s1 c e2 g4 h
      rcases g3 with rfl | rfl <;> exact this
    | bk s1 =>
      obtain ⟨rfl, g4⟩ := g3
      cases h
      exact ⟨_, _, rfl, rfl, g4⟩
    | rt v =>
      obtain ⟨rfl, g4⟩ := g3
      cases h
      exact ⟨_, _, rfl, rfl, g4⟩
theorem o_forR {α σ ρ : Type} {t : T} {k : IK} {src : E} {body : S} {ds : List D} {xs : List α} {s : σ} {c : σ ⊕ ρ} {step : σ → α → Option (Ctl σ ρ)} (ea : α → D) (er : ρ → D) (fr : Bool) (I : σ → Env → Prop) (J : ρ → Env → Prop)
    (h1 : evE C src env = .ok os e1) (hv : os.map (O.view e1) = ds) (h2 : itSem k ds = some (xs.map ea)) (hi : I s (freezeO e1 os)) (hr : forR step xs s = some c)
    (hb : ∀ s x c env, I s env → step s x = some c → ∃ e1, bind1 t (ea x) env = some e1 ∧ Out (evS C body e1) (CtlQ er fr I J c))
    (hq : ∀ fl e, SumQ er fr I J c fl e → Q fl e) : Out (evS C (.for t k src body) env) Q := by
  rw [evS, h1]
  show Out (ifS (itSem k (os.map (O.view e1))) _) Q
  rw [hv, h2]
  exact o_mono (forR_typed hb xs s c _ hi hr) hq
theorem while_typed {σ : Type} {cc : Env → R (List O)} {body : Env → R Fl} {c : σ → Option Bool} {step : σ → Option σ} {I : σ → Env → Prop}
    (hc : ∀ s b env, I s env → c s = some b → cc env = .ok [.fz (.bl b)] env)
    (hb : ∀ s s' env, I s env → c s = some true → step s = some s' → Out (body env) fun fl e => (fl = .nx ∨ fl = .ct) ∧ I s' e) :
    ∀ (n : Nat) (s s' : σ) (env : Env), I s env → whileN c step n s = some s' → Out (whileLoop cc body n env) fun fl e => fl = .nx ∧ I s' e
  | 0, s, s', env, i, h => by cases h
  | n + 1, s, s', env, i, h => by
    obtain ⟨b, h1, h⟩ := bsome h
    rw [whileLoop, hc s b env i h1]
    show Out (if b = true then turnF (whileLoop cc body n) (body env) else .ok .nx env) _
    cases b with
    | false => cases h; exact ⟨_, _, rfl, rfl, i⟩
    | true =>
      obtain ⟨s1, h2, h⟩ := bsome h
      obtain ⟨fl, e2, g2, g3, g4⟩ := hb s s1 env i h1 h2
      rw [if_pos rfl, g2]
      have := while_typed hc hb n s1 s' e2 g4 h
      rcases g3 with rfl | rfl <;> exact this
theorem o_while {σ : Type} {c : E} {body : S} {s s' : σ} {cf : σ → Option Bool} {step : σ → Option σ} (I : σ → Env → Prop) (hi : I s env) (hr : whileN cf step C.wf s = some s')
    (hc : ∀ s b env, I s env → cf s = some b → evE C c env = .ok [.fz (.bl b)] env)
    (hb : ∀ s s' env, I s env → cf s = some true → step s = some s' → Out (evS C body env) fun fl e => (fl = .nx ∨ fl = .ct) ∧ I s' e)
    (hq : ∀ e, I s' e → Q .nx e) : Out (evS C (.while c body) env) Q := by
  rw [evS]
  obtain ⟨fl, e, g1, g2, g3⟩ := while_typed hc hb C.wf s s' env hi hr
  exact ⟨fl, e, g1, by rw [g2]; exact hq e g3⟩
theorem fn_pure {T : Tab} {wf m k : Nat} {F : Fn} {ds : List D} {d : D} {fr : Bool} {e0 : Env} (h : T k = some (.ir F)) (hl : Nat.beq ds.length F.ar = true) (hio : F.io = false) (hs : startE F ds = e0)
    (ho : Out (evS ⟨evFn T wf m, T.io, wf⟩ F.body e0) fun fl e => fl = .rt d fr) : evFn T wf (m + 1) k ds = .ok d fr [] := by
  rw [evFn, h]
  show (if ds.length = F.ar then _ else _) = _
  rw [if_pos (Nat.eq_of_beq_eq_true hl), hs]
  obtain ⟨fl, e, g, rfl⟩ := ho
  rw [g, endS, hio]
  rfl
theorem fn_io {T : Tab} {wf m k : Nat} {F : Fn} {ds io : List D} {d : D} {fr : Bool} {e0 : Env} (h : T k = some (.ir F)) (hl : Nat.beq ds.length F.ar = true) (hio : F.io = true) (hs : startE F ds = e0)
    (ho : Out (evS ⟨evFn T wf m, T.io, wf⟩ F.body e0) fun fl e => fl = .rt d fr ∧ e.at 0 = .ow io) : evFn T wf (m + 1) k ds = .ok d fr io := by
  rw [evFn, h]
  show (if ds.length = F.ar then _ else _) = _
  rw [if_pos (Nat.eq_of_beq_eq_true hl), hs]
  obtain ⟨fl, e, g, rfl, ge⟩ := ho
  rw [g, endS, hio, ge]
  rfl
end Ev
end
section
set_option linter.all false
set_option Elab.async false
namespace Ev
open PySem
variable {C : EC} {env e1 e2 e3 : Env} {os : List O} {o o1 o2 : O}
theorem x_tup0 {a : E} {ds : List D} (h : evE C a env = .ok os e1) (hv : os.map (O.view e1) = ds) (hc : Nat.ble os.length cap = true) (hf : freezeO e1 os = e1) : evE C (.tup a) env = .ok [.fz (.tup ds)] e1 := x_tup h hv hc hf
theorem x_lst0 {a : E} {ds : List D} (h : evE C a env = .ok os e1) (hv : os.map (O.view e1) = ds) (hc : Nat.ble os.length cap = true) (hf : freezeO e1 os = e1) : evE C (.lst a) env = .ok [.fr (.lst ds)] e1 := x_lst h hv hc hf
theorem x_callS {f : Nat} {a : E} {d : D} {fr : Bool} {io ds : List D} (h : evE C a env = .ok os e1) (hio : C.io f = false) (hv : os.map (O.view e1) = ds) (hc : C.call f ds = .ok d fr io) (hs : scalar d = true) : evE C (.call f a) env = .ok [.fz d] e1 :=
  x_call h hio hv hc (by rw [hs]; rfl) (by rw [hs]; rfl)
theorem x_ite_t {c a a2 : E} {b : Bool} (h : evE C c env = .ok [.fz (.bl b)] e1) (hb : b = true) (h1 : evE C a e1 = .ok [o] e2) : evE C (.ite c a a2) env = .ok [o] e2 := by
  subst hb; rw [evE, tst_bl h rfl]; exact h1
theorem x_ite_f {c a a2 : E} {b : Bool} (h : evE C c env = .ok [.fz (.bl b)] e1) (hb : b = false) (h1 : evE C a2 e1 = .ok [o] e2) : evE C (.ite c a a2) env = .ok [o] e2 := by
  subst hb; rw [evE, tst_bl h rfl]; exact h1
theorem res_ix {d : D} : resO .ix d = .fz d := by cases d <;> rfl
theorem o_seqW {a b : S} {Q : Fl → Env → Prop} {W : Env → Prop} (h : Out (evS C a env) fun fl e => fl = .nx ∧ W e) (h2 : ∀ e, W e → Out (evS C b e) Q) : Out (evS C (.seq a b) env) Q := by
  obtain ⟨fl, e, h, rfl, w⟩ := h
  rw [evS, h]; exact h2 e w
def comp1M {α β : Type} (p : α → Option Bool) (f : α → Option β) : List α → Option (List β) := comp0 p f
def comp2L {α β γ : Type} (p : α → Option Bool) (g : α → Option (List β)) (p1 : α → β → Option Bool) (f : α → β → Option γ) : List α → Option (List γ)
  | [] => some []
  | x :: r => (p x).bind fun b => if b = true then (g x).bind fun l => (comp0 (p1 x) (f x) l).bind fun ys => (comp2L p g p1 f r).map fun zs => ys ++ zs else comp2L p g p1 f r
def comp2N {α β : Type} (p : α → Option Bool) (g : α → Option (List β)) : List α → Nat
  | [] => 0
  | x :: r => (match p x, g x with | some true, some l => l.length | _, _ => 0) + comp2N p g r
def comp2M {α β γ : Type} (p : α → Option Bool) (g : α → Option (List β)) (p1 : α → β → Option Bool) (f : α → β → Option γ) (xs : List α) : Option (List γ) := if comp2N p g xs ≤ cap then comp2L p g p1 f xs else none
theorem comp0_len {α β : Type} {p : α → Option Bool} {f : α → Option β} : ∀ {xs : List α} {ys : List β}, comp0 p f xs = some ys → ys.length ≤ xs.length
  | [], ys, h => by cases h; exact Nat.le_refl _
  | x :: r, ys, h => by
    rw [comp0] at h
    obtain ⟨b, h1, h⟩ := bsome h
    cases b with
    | false => have := comp0_len (xs := r) (ys := ys) h; rw [List.length_cons]; omega
    | true =>
      obtain ⟨y, h2, h⟩ := bsome h
      cases h3 : comp0 p f r with
      | none => rw [h3] at h; cases h
      | some zs => rw [h3] at h; cases h; have := comp0_len h3; rw [List.length_cons, List.length_cons]; omega
theorem compLoop2_typed {α β γ : Type} {own vs : List Nat} {t t1 : T} {k1 : IK} {tst src1 tst1 elt : E} {ea : α → D} {eb : β → D} {eg : γ → D} {p : α → Option Bool} {g : α → Option (List β)} {p1 : α → β → Option Bool} {f : α → β → Option γ} {ew : Env} {E1 : α → Env} {E2 : α → β → Env}
    (hb : ∀ x, bind1 t (ea x) ew = some (E1 x)) (hw : ∀ x, wipeE (E1 x) vs = E1 x) (hww : ∀ x, wipeE (E1 x) own = ew)
    (hb2 : ∀ x y, bind1 t1 (eb y) (E1 x) = some (E2 x y)) (hw2 : ∀ x y, wipeE (E2 x y) vs = E1 x)
    (ht : ∀ x b, p x = some b → evE C tst (E1 x) = .ok [.fz (.bl b)] (E1 x))
    (hs : ∀ x l, g x = some l → ∃ os ds, evE C src1 (E1 x) = .ok os (E1 x) ∧ os.map (O.view (E1 x)) = ds ∧ freezeO (E1 x) os = E1 x ∧ itSem k1 ds = some (l.map eb))
    (ht1 : ∀ x y b, p1 x y = some b → evE C tst1 (E2 x y) = .ok [.fz (.bl b)] (E2 x y))
    (he : ∀ x y z, f x y = some z → ∃ o, evE C elt (E2 x y) = .ok [o] (E2 x y) ∧ o.view (E2 x y) = eg z ∧ freezeO (E2 x y) [o] = E2 x y) :
    ∀ (xs : List α) (zs : List γ) (acc : List D), comp2L p g p1 f xs = some zs → acc.length + comp2N p g xs ≤ cap →
      compLoop2 own t (evE C tst) (fun env acc => (evE C src1 env).all fun os1 e1 => ifS (itSem k1 (os1.map (O.view e1))) fun items1 => compLoop vs t1 (evE C tst1) (evE C elt) items1 (wipeE (freezeO e1 os1) vs) acc.reverse) (xs.map ea) ew acc = .ok (acc ++ zs.map eg) ew
  | [], zs, acc, h, _ => by cases h; rw [List.map_nil, compLoop2]; simp
  | x :: r, zs, acc, h, hc => by
    rw [comp2L] at h
    obtain ⟨b, h1, h⟩ := bsome h
    rw [comp2N, h1] at hc
    rw [List.map_cons, compLoop2, hb]
    show (evE C tst (E1 x)).tst _ = _
    rw [ht x b h1]
    cases b with
    | false =>
      show compLoop2 own t _ _ (r.map ea) (wipeE (E1 x) own) acc = _
      rw [hww]
      exact compLoop2_typed hb hw hww hb2 hw2 ht hs ht1 he r zs acc h (by omega)
    | true =>
      obtain ⟨l, h2, h⟩ := bsome h
      obtain ⟨ys, h3, h⟩ := bsome h
      cases h4 : comp2L p g p1 f r with
      | none => rw [h4] at h; cases h
      | some ws =>
        rw [h4] at h
        cases h
        rw [h2] at hc
        have hc : acc.length + (l.length + comp2N p g r) ≤ cap := hc
        obtain ⟨os, ds, g1, g2, g3, g4⟩ := hs x l h2
        show ((evE C src1 (E1 x)).all _).bind _ = _
        rw [g1]
        show (ifS (itSem k1 (os.map (O.view (E1 x)))) _).bind _ = _
        rw [g2, g4]
        show (compLoop vs t1 (evE C tst1) (evE C elt) (l.map eb) (wipeE (freezeO (E1 x) os) vs) acc.reverse).bind _ = _
        rw [g3, hw, compLoop_typed (hb2 x) (hw2 x) (ht1 x) (he x) l ys acc.reverse h3 (by rw [List.length_reverse]; omega)]
        show compLoop2 own t _ _ (r.map ea) (wipeE (E1 x) own) (acc.reverse.reverse ++ ys.map eg) = _
        have hl := comp0_len h3
        rw [hww, compLoop2_typed hb hw hww hb2 hw2 ht hs ht1 he r ws _ h4 (by rw [List.length_append, List.length_reverse, List.length_reverse, List.length_map]; omega)]
        simp
theorem x_comp2 {α β γ : Type} {own vs : List Nat} {t t1 : T} {k k1 : IK} {src tst src1 tst1 elt : E} {xs : List α} {zs : List γ} {ds : List D} (ea : α → D) (eb : β → D) (eg : γ → D) {p : α → Option Bool} {g : α → Option (List β)} {p1 : α → β → Option Bool} {f : α → β → Option γ} (ew : Env) (E1 : α → Env) (E2 : α → β → Env)
    (h1 : evE C src env = .ok os e1) (hv : os.map (O.view e1) = ds) (h2 : itSem k ds = some (xs.map ea)) (hf0 : frzL (freezeO e1 os) own = e2) (hw0 : wipeE e2 own = ew)
    (hb : ∀ x, bind1 t (ea x) ew = some (E1 x)) (hww : ∀ x, wipeE (E1 x) own = ew)
    (hb2 : ∀ x y, bind1 t1 (eb y) (E1 x) = some (E2 x y)) (hw2 : ∀ x y, wipeE (E2 x y) vs = E1 x)
    (hr : comp2M p g p1 f xs = some zs) (hl : Nat.beq ew.length e2.length = true) (hk : backE e2 ew own = e3)
    (ht : ∀ x b, p x = some b → evE C tst (E1 x) = .ok [.fz (.bl b)] (E1 x))
    (hs : ∀ x l, g x = some l → ∃ os ds, evE C src1 (E1 x) = .ok os (E1 x) ∧ os.map (O.view (E1 x)) = ds ∧ freezeO (E1 x) os = E1 x ∧ itSem k1 ds = some (l.map eb))
    (ht1 : ∀ x y b, p1 x y = some b → evE C tst1 (E2 x y) = .ok [.fz (.bl b)] (E2 x y))
    (he : ∀ x y z, f x y = some z → ∃ o, evE C elt (E2 x y) = .ok [o] (E2 x y) ∧ o.view (E2 x y) = eg z ∧ freezeO (E2 x y) [o] = E2 x y)
    (hw : ∀ x, wipeE (E1 x) vs = E1 x := by intros; rfl) :
    evE C (.comp2 own vs t k src tst t1 k1 src1 tst1 elt) env = .ok [.fr (eL eg zs)] e3 := by
  have hf := (freezeL_eq own (freezeO e1 os)).trans hf0
  rw [evE, h1]
  show ifS (itSem k (os.map (O.view e1))) _ = _
  rw [hv, h2]
  unfold comp2M at hr
  split at hr
  · next hc =>
    show compEnd _ _ _ = _
    rw [hf, hw0, compLoop2_typed hb hw hww hb2 hw2 ht hs ht1 he xs zs [] hr (by rw [List.length_nil]; omega)]
    show (if ew.length = e2.length then R.ok [O.fr (.lst ([] ++ zs.map eg))] (backE e2 ew own) else .stuck) = _
    rw [if_pos (Nat.eq_of_beq_eq_true hl), hk]
    rfl
  · cases hr
structure Mx {α : Type} (e : α → D) where
  d : D
  x : α
def mx0 {α : Type} (e : α → D) (x : α) : Mx e := ⟨e x, x⟩
def Tin (N : Nat) (t : List D) : Prop := ∃ x y z : Int, t = [.int x, .int y, .int z] ∧ 0 ≤ z ∧ z ≤ N
structure St where
  l : List D
  n : Nat
  ok : Tin n l
theorem Tin.mono {N M : Nat} {t : List D} (h : Tin N t) (k : N ≤ M) : Tin M t := by
  obtain ⟨x, y, z, e, h1, h2⟩ := h
  exact ⟨x, y, z, e, h1, by omega⟩
end Ev
end
section
set_option linter.all false
set_option Elab.async false
namespace Ev
open PySem
section
variable {α β : Type}
def ltI (i j : Int) : Bool := decide (i < j)
def ltL [DecidableEq α] (lt : α → α → Bool) : List α → List α → Bool
  | [], [] => false
  | [], _ :: _ => true
  | _ :: _, [] => false
  | x :: xs, y :: ys => if x = y then ltL lt xs ys else lt x y
def ltP [DecidableEq α] [DecidableEq β] (l1 : α → α → Bool) (l2 : β → β → Bool) (p q : α × β) : Bool := if p.1 = q.1 then (if p.2 = q.2 then false else l2 p.2 q.2) else l1 p.1 q.1
def insT (lt : α → α → Bool) (x : α) : List α → List α
  | [] => [x]
  | y :: ys => if lt y x = true then y :: insT lt x ys else x :: y :: ys
def srtT (lt : α → α → Bool) : List α → List α
  | [] => []
  | x :: xs => insT lt x (srtT lt xs)
def ddT [DecidableEq α] : List α → List α → List α
  | [], acc => acc.reverse
  | x :: xs, acc => if x ∈ acc then ddT xs acc else ddT xs (x :: acc)
class Od (e : α → D) (lt : α → α → Bool) : Prop where
  lts : ∀ x y, ltD (e x) (e y) = lt x y
  al : ∀ x y, alikeD (e x) (e y) = true
  tp : (∀ x, isTup1 (e x) = true) ∨ (∀ x, noTup (e x) = true)
instance : Od D.int ltI := ⟨fun _ _ => rfl, fun _ _ => rfl, .inr fun _ => rfl⟩
theorem ltDs_map [DecidableEq α] {e : α → D} {lt : α → α → Bool} {k : Nat} [Dt k e] [Od e lt] : ∀ xs ys : List α, ltDs (xs.map e) (ys.map e) = ltL lt xs ys
  | [], [] => rfl
  | [], _ :: _ => rfl
  | _ :: _, [] => rfl
  | x :: xs, y :: ys => by
    rw [List.map_cons, List.map_cons, ltDs, ltL, Dt.eq (k := k) x y, Od.lts (lt := lt) x y, ltDs_map (k := k) (lt := lt) xs ys]
    by_cases h : x = y <;> simp [h]
theorem alikeDs_map {e : α → D} {lt : α → α → Bool} [Od e lt] : ∀ xs ys : List α, alikeDs (xs.map e) (ys.map e) = true
  | [], _ => by cases ‹List α› <;> rfl
  | _ :: _, [] => rfl
  | x :: xs, y :: ys => by rw [List.map_cons, List.map_cons, alikeDs, Od.al (lt := lt) x y, alikeDs_map (lt := lt) xs ys]; rfl
instance [DecidableEq α] {e : α → D} {lt : α → α → Bool} [Dt depthLine e] [Od e lt] : Od (eT e) (ltL lt) := ⟨fun x y => ltDs_map (k := depthLine) x y, fun x y => alikeDs_map (lt := lt) x y, .inl fun _ => rfl⟩
instance [DecidableEq α] [DecidableEq β] {a : α → D} {b : β → D} {l1 : α → α → Bool} {l2 : β → β → Bool} [Dt depthLine a] [Dt depthLine b] [Od a l1] [Od b l2] : Od (eP a b) (ltP l1 l2) := ⟨fun x y => by
    show ltDs [a x.1, b x.2] [a y.1, b y.2] = _
    rw [ltDs, ltDs, ltDs, Dt.eq (k := depthLine) x.1 y.1, Dt.eq (k := depthLine) x.2 y.2, Od.lts (lt := l1) x.1 y.1, Od.lts (lt := l2) x.2 y.2, ltP]
    by_cases h : x.1 = y.1 <;> by_cases h2 : x.2 = y.2 <;> simp [h, h2], fun x y => by
    show alikeDs [a x.1, b x.2] [a y.1, b y.2] = true
    rw [alikeDs, alikeDs, alikeDs, Od.al (lt := l1), Od.al (lt := l2)]; rfl, .inl fun _ => rfl⟩
theorem insD_map {e : α → D} {lt : α → α → Bool} [Od e lt] (x : α) : ∀ ys : List α, insD (e x) (ys.map e) = (insT lt x ys).map e
  | [] => rfl
  | y :: ys => by
    rw [List.map_cons, insD, insT, Od.lts (lt := lt) y x, insD_map (lt := lt) x ys]
    by_cases h : lt y x = true <;> simp [h]
theorem sortD_map {e : α → D} {lt : α → α → Bool} [Od e lt] : ∀ ys : List α, sortD (ys.map e) = (srtT lt ys).map e
  | [] => rfl
  | y :: ys => by rw [List.map_cons, sortD, srtT, sortD_map (lt := lt) ys, insD_map (lt := lt)]
theorem allAlike_map {e : α → D} {lt : α → α → Bool} [Od e lt] : ∀ ys : List α, allAlike (ys.map e) = true
  | [] => rfl
  | y :: ys => by
    rw [List.map_cons, allAlike, Od.al (lt := lt) y y, allAlike_map (lt := lt) ys, List.all_eq_true.mpr fun d hd => by
      obtain ⟨z, _, rfl⟩ := List.mem_map.mp hd
      exact Od.al (lt := lt) y z]
    rfl
theorem srtOk_map {e : α → D} {lt : α → α → Bool} [Od e lt] (ys : List α) : srtOk (ys.map e) = true := by
  unfold srtOk
  rcases Od.tp (e := e) (lt := lt) with h | h
  · rw [List.all_eq_true.mpr fun d hd => by obtain ⟨z, _, rfl⟩ := List.mem_map.mp hd; exact h z]; rfl
  · rw [Bool.or_eq_true]; exact .inr (List.all_eq_true.mpr fun d hd => by obtain ⟨z, _, rfl⟩ := List.mem_map.mp hd; exact h z)
theorem t_srtL [DecidableEq α] {e : α → D} {lt : α → α → Bool} [Dt depthLine e] [Od e lt] {xs : List α} : opSem .sorted [eL e xs] = some (eL e (srtT lt xs)) := by
  show (if (allAlike (xs.map e) && srtOk (xs.map e) && isDatas depthLine (xs.map e)) = true then some (D.lst (sortD (xs.map e))) else none) = _
  rw [allAlike_map (lt := lt), srtOk_map (lt := lt), isDatas_map (k := depthLine), sortD_map (lt := lt)]; rfl
theorem t_srtT [DecidableEq α] {e : α → D} {lt : α → α → Bool} [Dt depthLine e] [Od e lt] {xs : List α} : opSem .sorted [eT e xs] = some (eL e (srtT lt xs)) := t_srtL
section
variable [DecidableEq α] [DecidableEq β] {e : α → D} {lt : α → α → Bool} [Dt depthLine e] [Dt 19 e] [Od e lt] {xs ys : List α}
theorem cmpT {x y : D} {as bs : List D} (hx : x = .tup as) (hy : y = .tup bs) (h1 : isData 20 x = true) (h2 : isData 20 y = true) (h3 : alikeD x y = true) :
    opSem .lt [x, y] = some (.bl (ltD x y)) ∧ opSem .gt [x, y] = some (.bl (ltD y x)) ∧ opSem .le [x, y] = some (.bl (!ltD y x)) ∧ opSem .ge [x, y] = some (.bl (!ltD x y)) := by
  subst hx; subst hy
  have h1 : isDatas 19 as = true := h1
  have h2 : isDatas 19 bs = true := h2
  have h3 : alikeDs as bs = true := h3
  refine ⟨?_, ?_, ?_, ?_⟩ <;> (simp only [opSem, op2, h1, h2, h3]; rfl)
theorem t_ltT : opSem .lt [eT e xs, eT e ys] = some (.bl (ltL lt xs ys)) := by
  refine ((cmpT rfl rfl (Dt.dat (e := eT e) (k := 20) xs) (Dt.dat (e := eT e) (k := 20) ys) (Od.al (e := eT e) (lt := ltL lt) xs ys)).1).trans ?_
  exact congrArg (fun b => some (D.bl b)) (Od.lts (e := eT e) (lt := ltL lt) _ _)
theorem t_gtT : opSem .gt [eT e xs, eT e ys] = some (.bl (ltL lt ys xs)) := by
  refine ((cmpT rfl rfl (Dt.dat (e := eT e) (k := 20) xs) (Dt.dat (e := eT e) (k := 20) ys) (Od.al (e := eT e) (lt := ltL lt) xs ys)).2.1).trans ?_
  exact congrArg (fun b => some (D.bl b)) (Od.lts (e := eT e) (lt := ltL lt) _ _)
theorem t_leT : opSem .le [eT e xs, eT e ys] = some (.bl (!ltL lt ys xs)) := by
  refine ((cmpT rfl rfl (Dt.dat (e := eT e) (k := 20) xs) (Dt.dat (e := eT e) (k := 20) ys) (Od.al (e := eT e) (lt := ltL lt) xs ys)).2.2.1).trans ?_
  exact congrArg (fun b => some (D.bl (!b))) (Od.lts (e := eT e) (lt := ltL lt) _ _)
theorem t_geT : opSem .ge [eT e xs, eT e ys] = some (.bl (!ltL lt xs ys)) := by
  refine ((cmpT rfl rfl (Dt.dat (e := eT e) (k := 20) xs) (Dt.dat (e := eT e) (k := 20) ys) (Od.al (e := eT e) (lt := ltL lt) xs ys)).2.2.2).trans ?_
  exact congrArg (fun b => some (D.bl (!b))) (Od.lts (e := eT e) (lt := ltL lt) _ _)
variable {g : β → D} {l2 : β → β → Bool} [Dt depthLine g] [Dt 19 g] [Od g l2] {p q : α × β}
theorem t_ltP : opSem .lt [eP e g p, eP e g q] = some (.bl (ltP lt l2 p q)) := by
  refine ((cmpT rfl rfl (Dt.dat (e := eP e g) (k := 20) p) (Dt.dat (e := eP e g) (k := 20) q) (Od.al (e := eP e g) (lt := ltP lt l2) p q)).1).trans ?_
  exact congrArg (fun b => some (D.bl b)) (Od.lts (e := eP e g) (lt := ltP lt l2) _ _)
theorem t_gtP : opSem .gt [eP e g p, eP e g q] = some (.bl (ltP lt l2 q p)) := by
  refine ((cmpT rfl rfl (Dt.dat (e := eP e g) (k := 20) p) (Dt.dat (e := eP e g) (k := 20) q) (Od.al (e := eP e g) (lt := ltP lt l2) p q)).2.1).trans ?_
  exact congrArg (fun b => some (D.bl b)) (Od.lts (e := eP e g) (lt := ltP lt l2) _ _)
end
class Se (e : α → D) (n : outParam Nat) : Prop where
  ok : ∀ xs : List α, xs.length ≤ n → setOk (xs.map e) = true
instance : Se D.int 4000 := ⟨fun xs h => by
  unfold setOk
  rw [tyInts_map, List.length_map, Nat.ble_eq_true_of_le h]; rfl⟩
theorem itupOf_mapL : ∀ xs : List (List Int), itupOf (xs.map (eT D.int)) = some xs
  | [] => rfl
  | x :: xs => by
    show (match intsOf (x.map D.int), itupOf (xs.map (eT D.int)) with | some l, some m => some (l :: m) | _, _ => none) = _
    rw [tyInts_map, itupOf_mapL xs]
theorem itupOf_mapP : ∀ xs : List (Int × Int), itupOf (xs.map (eP D.int D.int)) = some (xs.map fun p => [p.1, p.2])
  | [] => rfl
  | x :: xs => by
    show (match intsOf [.int x.1, .int x.2], itupOf (xs.map (eP D.int D.int)) with | some l, some m => some (l :: m) | _, _ => none) = _
    rw [itupOf_mapP xs]; rfl
instance : Se (eT D.int) 63 := ⟨fun xs h => by
  unfold setOk
  rw [itupOf_mapL, List.length_map, Nat.ble_eq_true_of_le h]; simp⟩
instance : Se (eP D.int D.int) 63 := ⟨fun xs h => by
  unfold setOk
  rw [itupOf_mapP, List.length_map, Nat.ble_eq_true_of_le h]; simp⟩
theorem anyE [DecidableEq α] {e : α → D} {k : Nat} [Dt k e] (x : α) : ∀ xs : List α, ((xs.map e).any fun d => eqD (e x) d) = decide (x ∈ xs)
  | [] => by simp
  | y :: ys => by
    rw [List.map_cons, List.any_cons, anyE (k := k) x ys, Dt.eq (k := k) x y]
    by_cases h : x = y
    · simp [h]
    · simp [h]
theorem dedup_map [DecidableEq α] {e : α → D} {k : Nat} [Dt k e] : ∀ (xs acc : List α), dedup (xs.map e) (acc.map e) = (ddT xs acc).map e
  | [], acc => by rw [List.map_nil, dedup, ddT, List.map_reverse]
  | x :: xs, acc => by
    have h1 := dedup_map (k := k) (e := e) xs acc
    have h2 := dedup_map (k := k) (e := e) xs (x :: acc)
    rw [List.map_cons] at h2
    have h3 : (acc.map e).any (eqD (e x)) = decide (x ∈ acc) := anyE (k := k) (e := e) x acc
    rw [List.map_cons, dedup, ddT, h1, h2, h3]
    by_cases h : x ∈ acc <;> simp [h]
def ssetG [DecidableEq α] (lt : α → α → Bool) (n : Nat) (xs : List α) : Option (List α) := if xs.length ≤ n then some (srtT lt (ddT xs [])) else none
def nsetG [DecidableEq α] (n : Nat) (xs : List α) : Option Int := if xs.length ≤ n then some ((ddT xs []).length : Nat) else none
theorem t_ssetL [DecidableEq α] {e : α → D} {lt : α → α → Bool} {n : Nat} [Dt depthLine e] [Od e lt] [Se e n] {xs zs : List α} (h : ssetG lt n xs = some zs) : opSem .sset [eL e xs] = some (eL e zs) := by
  unfold ssetG at h
  split at h
  · next q =>
    cases h
    show (if setOk (xs.map e) = true then some (D.lst (sortD (dedup (xs.map e) []))) else none) = _
    rw [Se.ok xs q, show dedup (xs.map e) [] = _ from dedup_map (k := depthLine) xs [], sortD_map (lt := lt)]; rfl
  · cases h
theorem t_ssetT [DecidableEq α] {e : α → D} {lt : α → α → Bool} {n : Nat} [Dt depthLine e] [Od e lt] [Se e n] {xs zs : List α} (h : ssetG lt n xs = some zs) : opSem .sset [eT e xs] = some (eL e zs) := t_ssetL h
theorem t_nsetL [DecidableEq α] {e : α → D} {n : Nat} [Dt depthLine e] [Se e n] {xs : List α} {r : Int} (h : nsetG n xs = some r) : opSem .nset [eL e xs] = some (.int r) := by
  unfold nsetG at h
  split at h
  · next q =>
    cases h
    show (if setOk (xs.map e) = true then some (D.int ((dedup (xs.map e) []).length : Nat)) else none) = _
    rw [Se.ok xs q, show dedup (xs.map e) [] = _ from dedup_map (k := depthLine) xs [], List.length_map]; rfl
  · cases h
theorem t_nsetT [DecidableEq α] {e : α → D} {n : Nat} [Dt depthLine e] [Se e n] {xs : List α} {r : Int} (h : nsetG n xs = some r) : opSem .nset [eT e xs] = some (.int r) := t_nsetL h
end
end Ev
end
section
set_option linter.all false
set_option Elab.async false
namespace Ev
open PySem
section
variable {α β γ : Type}
theorem len_cap {n : Nat} (h : n ≤ 1000000) : n ≤ cap := Nat.le_trans h (by decide)
theorem comp0_eq {P : α → Option Bool} {F : α → Option β} (p : α → Bool) (f : α → β) : ∀ xs : List α, (∀ x ∈ xs, P x = some (p x)) → (∀ x ∈ xs, p x = true → F x = some (f x)) → comp0 P F xs = some ((xs.filter p).map f)
  | [], _, _ => rfl
  | x :: r, h1, h2 => by
    have ih := comp0_eq p f r (fun y hy => h1 y (List.mem_cons_of_mem _ hy)) fun y hy => h2 y (List.mem_cons_of_mem _ hy)
    rw [comp0, h1 x List.mem_cons_self]
    show (if p x = true then _ else _) = _
    by_cases q : p x = true
    · rw [if_pos q, h2 x List.mem_cons_self q]
      show (comp0 P F r).map _ = _
      rw [ih, List.filter_cons_of_pos q]; rfl
    · rw [if_neg q, ih, List.filter_cons_of_neg q]
theorem compM_eq {P : α → Option Bool} {F : α → Option β} (p : α → Bool) (f : α → β) {xs : List α} (hl : xs.length ≤ 1000000) (h1 : ∀ x ∈ xs, P x = some (p x)) (h2 : ∀ x ∈ xs, p x = true → F x = some (f x)) : compM P F xs = some ((xs.filter p).map f) := by
  unfold compM; rw [if_pos (len_cap hl), comp0_eq p f xs h1 h2]
theorem compM_map {F : α → Option β} (f : α → β) {xs : List α} (hl : xs.length ≤ 1000000) (h2 : ∀ x ∈ xs, F x = some (f x)) : compM (fun _ => some true) F xs = some (xs.map f) := by
  rw [compM_eq (fun _ => true) f hl (fun _ _ => rfl) fun x hx _ => h2 x hx, List.filter_eq_self.mpr fun _ _ => rfl]
theorem compM_mapf (f : α → β) {xs : List α} (hl : xs.length ≤ 1000000) : compM (fun _ => some true) (fun x => some (f x)) xs = some (xs.map f) := compM_map f hl fun _ _ => rfl
theorem compM_flt (p : α → Bool) (f : α → β) {xs : List α} (hl : xs.length ≤ 1000000) : compM (fun x => some (p x)) (fun x => some (f x)) xs = some ((xs.filter p).map f) := compM_eq p f hl (fun _ _ => rfl) fun _ _ _ => rfl
theorem comp2N_le {P : α → Option Bool} {Gg : α → Option (List β)} {k : Nat} : ∀ xs : List α, (∀ x ∈ xs, ∀ l, Gg x = some l → l.length ≤ k) → comp2N P Gg xs ≤ xs.length * k
  | [], _ => Nat.zero_le _
  | x :: r, h => by
    have ih := comp2N_le (P := P) r fun y hy => h y (List.mem_cons_of_mem _ hy)
    rw [comp2N, List.length_cons, Nat.succ_mul, Nat.add_comm]
    refine Nat.add_le_add ih ?_
    split
    · exact h x List.mem_cons_self _ (by assumption)
    · exact Nat.zero_le _
theorem comp2L_eq {Gg : α → Option (List β)} {P1 : α → β → Option Bool} {F : α → β → Option γ} (g : α → List β) (p : α → β → Bool) (f : α → β → γ) : ∀ xs : List α, (∀ x ∈ xs, Gg x = some (g x)) → (∀ x ∈ xs, ∀ y ∈ g x, P1 x y = some (p x y)) → (∀ x ∈ xs, ∀ y ∈ g x, p x y = true → F x y = some (f x y)) →
    comp2L (fun _ => some true) Gg P1 F xs = some (xs.flatMap fun x => ((g x).filter (p x)).map (f x))
  | [], _, _, _ => rfl
  | x :: r, h0, h1, h2 => by
    have ih := comp2L_eq g p f r (fun y hy => h0 y (List.mem_cons_of_mem _ hy)) (fun y hy => h1 y (List.mem_cons_of_mem _ hy)) fun y hy => h2 y (List.mem_cons_of_mem _ hy)
    rw [comp2L, Option.bind_some, if_pos rfl, h0 x List.mem_cons_self, Option.bind_some, comp0_eq (p x) (f x) (g x) (h1 x List.mem_cons_self) (h2 x List.mem_cons_self), Option.bind_some, ih]; rfl
theorem comp2M_eq {Gg : α → Option (List β)} {P1 : α → β → Option Bool} {F : α → β → Option γ} (g : α → List β) (p : α → β → Bool) (f : α → β → γ) {xs : List α} (k : Nat) (hl : xs.length * k ≤ 1000000) (hk : ∀ x ∈ xs, (g x).length ≤ k) (h0 : ∀ x ∈ xs, Gg x = some (g x)) (h1 : ∀ x ∈ xs, ∀ y ∈ g x, P1 x y = some (p x y)) (h2 : ∀ x ∈ xs, ∀ y ∈ g x, p x y = true → F x y = some (f x y)) :
    comp2M (fun _ => some true) Gg P1 F xs = some (xs.flatMap fun x => ((g x).filter (p x)).map (f x)) := by
  unfold comp2M
  rw [if_pos (len_cap (Nat.le_trans (comp2N_le xs fun x hx l hq => by rw [h0 x hx] at hq; rw [← osome hq]; exact hk x hx) hl)), comp2L_eq g p f xs h0 h1 h2]
theorem upto_range : ∀ (n : Nat) (lo : Int), upto lo n = (List.range n).map fun k : Nat => lo + (k : Int)
  | 0, lo => rfl
  | n + 1, lo => by
    rw [upto, upto_range n (lo + 1), List.range_succ_eq_map, List.map_cons, List.map_map]
    congr 1
    · simp
    · refine List.map_congr_left fun k _ => ?_
      show lo + 1 + (k : Int) = lo + ((k + 1 : Nat) : Int)
      omega
def iR (n : Nat) : List Int := (List.range n).map fun k : Nat => (k : Int)
theorem iR_len (n : Nat) : (iR n).length = n := by rw [iR, List.length_map, List.length_range]
theorem mem_iR {n : Nat} {x : Int} : x ∈ iR n ↔ 0 ≤ x ∧ x < n := by
  unfold iR
  rw [List.mem_map]
  constructor
  · rintro ⟨k, hk, rfl⟩
    have := List.mem_range.mp hk
    omega
  · rintro ⟨h1, h2⟩
    exact ⟨x.toNat, List.mem_range.mpr (by omega), by omega⟩
theorem upto0 (n : Nat) : upto 0 n = iR n := by
  rw [upto_range, iR]
  exact List.map_congr_left fun k _ => Int.zero_add _
theorem rgG_nat {i : Int} {n : Nat} (e : i.toNat = n) (h : n ≤ 1000000) (h2 : -1000000 ≤ i) : rgG i = some (iR n) := by
  unfold rgG
  rw [if_pos (rngOk_iff.mpr ⟨by omega, by omega⟩), e, upto0]
theorem lrgG_nat {i : Int} {n : Nat} (e : i.toNat = n) (h : n ≤ 1000000) (h2 : -1000000 ≤ i) : lrgG i = some (iR n) := by
  unfold lrgG
  rw [if_pos (by rw [Bool.and_eq_true, leN_iff, rngOk_iff]; omega), e, upto0]
theorem rg2G_nat {a b : Int} {n : Nat} (e : (b - a).toNat = n) (h : -1000000 ≤ a) (h1 : a ≤ 1000000) (h2 : -1000000 ≤ b) (h3 : b ≤ 1000000) : rg2G a b = some ((List.range n).map fun k : Nat => a + (k : Int)) := by
  unfold rg2G
  rw [if_pos (by rw [Bool.and_eq_true, rngOk_iff, rngOk_iff]; omega), e, upto_range]
theorem lrg2G_nat {a b : Int} {n : Nat} (e : (b - a).toNat = n) (h : -1000000 ≤ a) (h1 : a ≤ 1000000) (h2 : -1000000 ≤ b) (h3 : b ≤ 1000000) : lrg2G a b = some ((List.range n).map fun k : Nat => a + (k : Int)) := by
  unfold lrg2G
  rw [if_pos (by rw [Bool.and_eq_true, Bool.and_eq_true, leN_iff, rngOk_iff, rngOk_iff]; omega), e, upto_range]
theorem atN_nat {n k : Nat} (h : k < n) : atN n (k : Int) = some k := by
  unfold atN
  rw [if_pos (by omega), if_pos (by omega), Int.toNat_natCast]
theorem ixG_nat {xs : List α} {k : Nat} {x : α} (h : xs[k]? = some x) : ixG xs (k : Int) = some x := by
  unfold ixG
  rw [atN_nat (List.getElem?_eq_some_iff.mp h).1]
  exact h
theorem ixG_int {xs : List α} {i : Int} (h0 : 0 ≤ i) {x : α} (h : xs[i.toNat]? = some x) : ixG xs i = some x := by
  have := ixG_nat h
  rwa [Int.toNat_of_nonneg h0] at this
theorem ixG_last {xs : List α} {x : α} (h : xs.getLast? = some x) : ixG xs (-1) = some x := by
  obtain ⟨l, rfl⟩ := List.getLast?_eq_some_iff.mp h
  unfold ixG atN
  rw [if_neg (by omega), if_pos (by rw [List.length_append, List.length_singleton]; omega)]
  show (l ++ [x])[((-1 : Int) + ((l ++ [x]).length : Nat)).toNat]? = _
  rw [List.length_append, List.length_singleton, show ((-1 : Int) + ((l.length + 1 : Nat) : Int)).toNat = l.length by omega, List.getElem?_append_right (Nat.le_refl _)]
  simp
theorem catG_ok {xs ys : List α} (h : xs.length + ys.length ≤ 1000000) : catG xs ys = some (xs ++ ys) := by
  unfold catG; rw [if_pos (len_cap h)]
theorem appG_ok {xs : List α} {y : α} (h : xs.length ≤ 1000000) : appG xs y = some (xs ++ [y]) := by
  unfold appG; rw [if_pos (Nat.lt_of_le_of_lt h (by decide))]
theorem modG_ok {i j : Int} (h : 0 < j) : modG i j = some (i % j) := by unfold modG; rw [if_pos (decide_eq_true h)]
theorem fdivG_ok {i j : Int} (h : 0 < j) (h2 : j < 1073741824) : fdivG i j = some (i / j) := by
  unfold fdivG; rw [if_pos (by rw [Bool.and_eq_true, leN_iff, decide_eq_true_iff]; omega)]
theorem atN_ge {n : Nat} {i : Int} (h : (n : Int) ≤ i) : atN n i = none := by
  unfold atN; rw [if_pos (by omega), if_neg (by omega)]
theorem cutL_drop (xs : List α) (i : Nat) : cutL xs (some (i : Int)) none = xs.drop i := by
  have e : cutN xs.length 0 (some (i : Int)) = min i xs.length := by
    show (if (i : Int) < 0 then ((i : Int) + xs.length).toNat else min (i : Int).toNat xs.length) = _
    rw [if_neg (by omega), Int.toNat_natCast]
  unfold cutL
  rw [e]
  show (xs.drop (min i xs.length)).take (xs.length - min i xs.length) = _
  by_cases h : i ≤ xs.length
  · rw [Nat.min_eq_left h, List.take_of_length_le (by rw [List.length_drop]; exact Nat.le_refl _)]
  · rw [Nat.min_eq_right (by omega), List.drop_of_length_le (Nat.le_refl _), List.drop_of_length_le (by omega), List.take_nil]
theorem cutL_take (xs : List α) (i : Nat) : cutL xs none (some (i : Int)) = xs.take i := by
  unfold cutL cutN
  show (xs.drop 0).take ((if (i : Int) < 0 then ((i : Int) + xs.length).toNat else min (i : Int).toNat xs.length) - 0) = _
  rw [if_neg (by omega), Int.toNat_natCast, List.drop_zero, Nat.sub_zero]
  by_cases h : i ≤ xs.length
  · rw [Nat.min_eq_left h]
  · rw [Nat.min_eq_right (by omega), List.take_of_length_le (Nat.le_refl _), List.take_of_length_le (by omega)]
theorem cutL_1 (xs : List α) : cutL xs (some 1) none = xs.tail := by
  have := cutL_drop xs 1
  rw [List.drop_one] at this; exact this
theorem enumP_get {xs : List α} {k : Nat} : (enumP xs)[k]? = xs[k]?.map fun x => ((k : Int), x) := by
  unfold enumP
  rw [List.getElem?_map, List.getElem?_zipIdx]
  cases xs[k]? <;> simp
theorem enumP_len (xs : List α) : (enumP xs).length = xs.length := by rw [enumP, List.length_map, List.length_zipIdx]
theorem forN_inv {σ : Type} {step : σ → α → Option σ} (I : List α → σ → Prop) (xs : List α) (h : ∀ pre x post s, xs = pre ++ x :: post → I pre s → ∃ s', step s x = some s' ∧ I (pre ++ [x]) s') {s : σ} (h0 : I [] s) :
    ∃ s', forN step xs s = some s' ∧ I xs s' := by
  have key : ∀ (post pre : List α) (s : σ), xs = pre ++ post → I pre s → ∃ s', forN step post s = some s' ∧ I xs s' := by
    intro post
    induction post with
    | nil => intro pre s e i; rw [List.append_nil] at e; exact ⟨s, rfl, e ▸ i⟩
    | cons x r ih =>
      intro pre s e i
      obtain ⟨s', h1, h2⟩ := h pre x r s e i
      obtain ⟨s2, h3, h4⟩ := ih (pre ++ [x]) s' (by rw [e, List.append_assoc]; rfl) h2
      exact ⟨s2, by rw [forN, h1]; exact h3, h4⟩
  exact key xs [] s rfl h0
theorem forR_all {σ ρ : Type} {step : σ → α → Option (Ctl σ ρ)} {s : σ} : ∀ xs : List α, (∀ x ∈ xs, step s x = some (.nx s)) → forR step xs s = some (.inl s)
  | [], _ => rfl
  | x :: r, h => by
    rw [forR, h x List.mem_cons_self]
    exact forR_all r fun y hy => h y (List.mem_cons_of_mem _ hy)
structure SL (lt : α → α → Bool) : Prop where
  ir : ∀ x, lt x x = false
  tr : ∀ x y z, lt x y = true → lt y z = true → lt x z = true
  tot : ∀ x y, lt x y = true ∨ x = y ∨ lt y x = true
theorem SL.as {lt : α → α → Bool} (h : SL lt) {x y : α} (a : lt x y = true) : lt y x = false := by
  cases q : lt y x with
  | false => rfl
  | true => have := h.tr x y x a q; rw [h.ir] at this; cases this
theorem sl_I : SL ltI := ⟨fun x => by simp [ltI], fun x y z => by simp only [ltI, decide_eq_true_iff]; omega, fun x y => by simp only [ltI, decide_eq_true_iff]; omega⟩
theorem sl_L [DecidableEq α] {lt : α → α → Bool} (h : SL lt) : SL (ltL lt) := by
  refine ⟨?_, ?_, ?_⟩
  · intro xs; induction xs with
    | nil => rfl
    | cons x r ih => rw [ltL, if_pos rfl, ih]
  · intro xs; induction xs with
    | nil => intro ys zs a b; cases ys with
      | nil => cases a
      | cons y r => cases zs with
        | nil => cases b
        | cons z t => rfl
    | cons x r ih => intro ys zs a b; cases ys with
      | nil => cases a
      | cons y t => cases zs with
        | nil => cases b
        | cons z u =>
          rw [ltL] at a b ⊢
          by_cases q1 : x = y
          · subst q1
            rw [if_pos rfl] at a
            by_cases q2 : x = z
            · rw [if_pos q2] at b ⊢; exact ih t u a b
            · rw [if_neg q2] at b ⊢; exact b
          · rw [if_neg q1] at a
            by_cases q2 : y = z
            · subst q2; rw [if_neg q1]; exact a
            · rw [if_neg q2] at b
              have c := h.tr _ _ _ a b
              rw [if_neg (fun e => by subst e; rw [h.ir] at c; cases c)]; exact c
  · intro xs; induction xs with
    | nil => intro ys; cases ys with
      | nil => exact .inr (.inl rfl)
      | cons y t => exact .inl rfl
    | cons x r ih => intro ys; cases ys with
      | nil => exact .inr (.inr rfl)
      | cons y t =>
        rw [ltL, ltL]
        by_cases q : x = y
        · subst q
          rw [if_pos rfl, if_pos rfl]
          rcases ih t with a | a | a
          · exact .inl a
          · exact .inr (.inl (by rw [a]))
          · exact .inr (.inr a)
        · rw [if_neg q, if_neg (Ne.symm q)]
          rcases h.tot x y with a | a | a
          · exact .inl a
          · exact absurd a q
          · exact .inr (.inr a)
theorem sl_P [DecidableEq α] [DecidableEq β] {l1 : α → α → Bool} {l2 : β → β → Bool} (h1 : SL l1) (h2 : SL l2) : SL (ltP l1 l2) := by
  refine ⟨fun x => by simp [ltP], ?_, ?_⟩
  · rintro ⟨x1, x2⟩ ⟨y1, y2⟩ ⟨z1, z2⟩ a b
    simp only [ltP] at a b ⊢
    by_cases q1 : x1 = y1
    · subst q1
      rw [if_pos rfl] at a
      by_cases q2 : x2 = y2
      · rw [if_pos q2] at a; cases a
      · rw [if_neg q2] at a
        by_cases q3 : x1 = z1
        · rw [if_pos q3] at b ⊢
          by_cases q4 : y2 = z2
          · rw [if_pos q4] at b; cases b
          · rw [if_neg q4] at b
            have c := h2.tr _ _ _ a b
            rw [if_neg (fun e => by subst e; rw [h2.ir] at c; cases c)]; exact c
        · rw [if_neg q3] at b ⊢; exact b
    · rw [if_neg q1] at a
      by_cases q3 : y1 = z1
      · subst q3; rw [if_neg q1]; exact a
      · rw [if_neg q3] at b
        have c := h1.tr _ _ _ a b
        rw [if_neg (fun e => by subst e; rw [h1.ir] at c; cases c)]; exact c
  · rintro ⟨x1, x2⟩ ⟨y1, y2⟩
    simp only [ltP]
    by_cases q : x1 = y1
    · subst q
      rw [if_pos rfl, if_pos rfl]
      by_cases q2 : x2 = y2
      · exact .inr (.inl (by rw [q2]))
      · rw [if_neg q2, if_neg (Ne.symm q2)]
        rcases h2.tot x2 y2 with a | a | a
        · exact .inl a
        · exact absurd a q2
        · exact .inr (.inr a)
    · rw [if_neg q, if_neg (Ne.symm q)]
      rcases h1.tot x1 y1 with a | a | a
      · exact .inl a
      · exact absurd a q
      · exact .inr (.inr a)
variable {lt : α → α → Bool}
theorem insT_mem {x y : α} : ∀ {ys : List α}, y ∈ insT lt x ys ↔ y = x ∨ y ∈ ys
  | [] => by simp [insT]
  | z :: zs => by
    rw [insT]
    by_cases h : lt z x = true
    · rw [if_pos h, List.mem_cons, insT_mem (ys := zs), List.mem_cons]
      constructor <;> (rintro (a | a | a) <;> simp [a])
    · rw [if_neg h, List.mem_cons]
theorem srtT_mem {y : α} : ∀ {ys : List α}, y ∈ srtT lt ys ↔ y ∈ ys
  | [] => Iff.rfl
  | z :: zs => by rw [srtT, insT_mem, srtT_mem (ys := zs), List.mem_cons]
def Up (lt : α → α → Bool) (xs : List α) : Prop := xs.Pairwise fun a b => lt a b = true
theorem insT_up (h : SL lt) {x : α} : ∀ {ys : List α}, Up lt ys → x ∉ ys → Up lt (insT lt x ys)
  | [], _, _ => List.pairwise_singleton _ _
  | z :: zs, u, n => by
    obtain ⟨u1, u2⟩ := List.pairwise_cons.mp u
    rw [insT]
    by_cases q : lt z x = true
    · rw [if_pos q]
      refine List.pairwise_cons.mpr ⟨fun y hy => ?_, insT_up h u2 fun e => n (List.mem_cons_of_mem _ e)⟩
      rcases insT_mem.mp hy with rfl | hy
      · exact q
      · exact u1 y hy
    · rw [if_neg q]
      have q2 : lt x z = true := by
        rcases h.tot x z with a | a | a
        · exact a
        · exact absurd (a ▸ List.mem_cons_self) n
        · exact absurd a q
      refine List.pairwise_cons.mpr ⟨fun y hy => ?_, u⟩
      rcases List.mem_cons.mp hy with rfl | hy
      · exact q2
      · exact h.tr _ _ _ q2 (u1 y hy)
theorem srtT_up (h : SL lt) : ∀ {ys : List α}, ys.Nodup → Up lt (srtT lt ys)
  | [], _ => .nil
  | z :: zs, n => by
    obtain ⟨n1, n2⟩ := List.nodup_cons.mp n
    rw [srtT]
    exact insT_up h (srtT_up h n2) fun e => n1 (srtT_mem.mp e)
theorem up_ext (h : SL lt) : ∀ {xs ys : List α}, Up lt xs → Up lt ys → (∀ z, z ∈ xs ↔ z ∈ ys) → xs = ys
  | [], [], _, _, _ => rfl
  | [], y :: ys, _, _, e => by have := (e y).mpr List.mem_cons_self; cases this
  | x :: xs, [], _, _, e => by have := (e x).mp List.mem_cons_self; cases this
  | x :: xs, y :: ys, u, v, e => by
    obtain ⟨u1, u2⟩ := List.pairwise_cons.mp u
    obtain ⟨v1, v2⟩ := List.pairwise_cons.mp v
    have exy : x = y := by
      rcases List.mem_cons.mp ((e x).mp List.mem_cons_self) with a | a
      · exact a
      · rcases List.mem_cons.mp ((e y).mpr List.mem_cons_self) with b | b
        · exact b.symm
        · have c := h.as (u1 y b)
          rw [v1 x a] at c; cases c
    subst exy
    congr 1
    refine up_ext h u2 v2 fun z => ?_
    constructor
    · intro hz
      rcases List.mem_cons.mp ((e z).mp (List.mem_cons_of_mem _ hz)) with a | a
      · subst a; have := u1 z hz; rw [h.ir] at this; cases this
      · exact a
    · intro hz
      rcases List.mem_cons.mp ((e z).mpr (List.mem_cons_of_mem _ hz)) with a | a
      · subst a; have := v1 z hz; rw [h.ir] at this; cases this
      · exact a
theorem up_nodup (h : SL lt) {xs : List α} (u : Up lt xs) : xs.Nodup := List.Pairwise.imp (fun {a b} q e => by subst e; rw [h.ir] at q; cases q) u
theorem ddT_mem [DecidableEq α] {y : α} : ∀ {xs acc : List α}, y ∈ ddT xs acc ↔ y ∈ xs ∨ y ∈ acc
  | [], acc => by rw [ddT, List.mem_reverse]; simp
  | x :: xs, acc => by
    rw [ddT]
    by_cases h : x ∈ acc
    · rw [if_pos h, ddT_mem (xs := xs), List.mem_cons]
      constructor
      · rintro (a | a) <;> simp [a]
      · rintro ((a | a) | a)
        · subst a; exact .inr h
        · exact .inl a
        · exact .inr a
    · rw [if_neg h, ddT_mem (xs := xs), List.mem_cons, List.mem_cons]
      constructor
      · rintro (a | a | a) <;> simp [a]
      · rintro ((a | a) | a) <;> simp [a]
theorem ddT_nodup [DecidableEq α] : ∀ {xs acc : List α}, acc.Nodup → (ddT xs acc).Nodup
  | [], acc, n => by rw [ddT]; exact List.pairwise_reverse.mpr (List.Pairwise.imp (fun q e => q e.symm) n)
  | x :: xs, acc, n => by
    rw [ddT]
    by_cases h : x ∈ acc
    · rw [if_pos h]; exact ddT_nodup n
    · rw [if_neg h]; exact ddT_nodup (List.nodup_cons.mpr ⟨h, n⟩)
theorem sset_eq [DecidableEq α] (h : SL lt) {xs zs : List α} {n : Nat} (hl : xs.length ≤ n) (u : Up lt zs) (e : ∀ z, z ∈ zs ↔ z ∈ xs) : ssetG lt n xs = some zs := by
  unfold ssetG
  rw [if_pos hl]
  congr 1
  refine up_ext h (srtT_up h (ddT_nodup .nil)) u fun z => ?_
  rw [srtT_mem, ddT_mem, e]; simp
theorem sort_eq (h : SL lt) {xs zs : List α} (n : xs.Nodup) (u : Up lt zs) (e : ∀ z, z ∈ zs ↔ z ∈ xs) : srtT lt xs = zs := by
  refine up_ext h (srtT_up h n) u fun z => ?_
  rw [srtT_mem, e]
theorem nset_eq [DecidableEq α] (h : SL lt) {xs zs : List α} {n : Nat} (hl : xs.length ≤ n) (u : Up lt zs) (e : ∀ z, z ∈ zs ↔ z ∈ xs) : nsetG n xs = some ((zs.length : Nat) : Int) := by
  unfold nsetG
  rw [if_pos hl]
  congr 2
  have p : (ddT xs []).Perm zs := by
    refine (List.perm_ext_iff_of_nodup (ddT_nodup .nil) (up_nodup h u)).mpr fun z => ?_
    rw [ddT_mem, e]; simp
  exact p.length_eq
theorem idxG_at [DecidableEq α] {x : α} : ∀ {xs : List α} {k n : Nat}, xs[k]? = some x → xs.Nodup → idxG x xs n = some (n + k)
  | [], k, n, h, _ => by cases h
  | y :: r, 0, n, h, _ => by cases h; rw [idxG, if_pos rfl]; rfl
  | y :: r, k + 1, n, h, nd => by
    obtain ⟨n1, n2⟩ := List.nodup_cons.mp nd
    have h : r[k]? = some x := h
    rw [idxG, if_neg (fun e : y = x => n1 (by rw [e]; exact List.mem_of_getElem? h)), idxG_at h n2]
    congr 1; omega
theorem idxI_at [DecidableEq α] {x : α} {xs : List α} {k : Nat} (h : xs[k]? = some x) (nd : xs.Nodup) : idxI xs x = some (k : Int) := by
  unfold idxI
  rw [idxG_at h nd, Nat.zero_add]; rfl
theorem insT_len {x : α} : ∀ ys : List α, (insT lt x ys).length = ys.length + 1
  | [] => rfl
  | y :: ys => by
    rw [insT]
    split
    · rw [List.length_cons, insT_len ys, List.length_cons]
    · rfl
theorem srtT_len : ∀ ys : List α, (srtT lt ys).length = ys.length
  | [] => rfl
  | y :: ys => by rw [srtT, insT_len, srtT_len ys, List.length_cons]
theorem ddT_len [DecidableEq α] : ∀ xs acc : List α, (ddT xs acc).length ≤ xs.length + acc.length
  | [], acc => by rw [ddT, List.length_reverse]; omega
  | x :: xs, acc => by
    rw [ddT, List.length_cons]
    split
    · have := ddT_len xs acc; omega
    · have := ddT_len xs (x :: acc); rw [List.length_cons] at this; omega
theorem maxG_le {xs : List Int} {x : Int} : ∀ {r : Int}, maxG (x :: xs) = some r → (∀ y ∈ x :: xs, y ≤ r) ∧ r ∈ x :: xs := by
  intro r h
  have h := osome (show some _ = some r from h)
  subst h
  have key : ∀ (xs : List Int) (a : Int), (∀ y ∈ a :: xs, y ≤ xs.foldl (fun a y => if decide (a < y) = true then y else a) a) ∧ xs.foldl (fun a y => if decide (a < y) = true then y else a) a ∈ a :: xs := by
    intro xs
    induction xs with
    | nil => intro a; simp
    | cons y ys ih =>
      intro a
      rw [List.foldl_cons]
      obtain ⟨i1, i2⟩ := ih (if decide (a < y) = true then y else a)
      have hm : a ≤ (if decide (a < y) = true then y else a) ∧ y ≤ (if decide (a < y) = true then y else a) ∧ ((if decide (a < y) = true then y else a) = a ∨ (if decide (a < y) = true then y else a) = y) := by
        by_cases q : a < y <;> simp [q] <;> omega
      have i0 := i1 _ List.mem_cons_self
      refine ⟨fun z hz => ?_, ?_⟩
      · rcases List.mem_cons.mp hz with rfl | hz
        · omega
        · rcases List.mem_cons.mp hz with rfl | hz
          · omega
          · exact i1 z (List.mem_cons_of_mem _ hz)
      · rcases List.mem_cons.mp i2 with e | e
        · rw [e]; rcases hm.2.2 with q | q <;> rw [q] <;> simp
        · exact List.mem_cons_of_mem _ (List.mem_cons_of_mem _ e)
  exact key xs x
theorem maxG_some {xs : List Int} (h : xs ≠ []) : ∃ r, maxG xs = some r ∧ (∀ y ∈ xs, y ≤ r) ∧ r ∈ xs := by
  cases xs with
  | nil => exact absurd rfl h
  | cons x xs => exact ⟨_, rfl, maxG_le rfl⟩
end
end Ev
end
section
set_option linter.all false
set_option Elab.async false
namespace Mo
open Ev
abbrev Str2 := List (Int × Int)
def lo (S : Str2) (x : Int) : Int := (S.getD x.toNat (0, 0)).1
def hi (S : Str2) (x : Int) : Int := (S.getD x.toNat (0, 0)).2
def bl (S : Str2) (x y : Int) : Bool := decide (hi S x < lo S y)
def prs (S : Str2) : List (Int × Int) := (iR S.length).flatMap fun x => ((iR S.length).filter fun y => bl S x y).map fun y => (x, y)
theorem get_in {S : Str2} {x : Int} (h : x ∈ iR S.length) : S[x.toNat]? = some (lo S x, hi S x) ∧ (lo S x, hi S x) ∈ S := by
  have := mem_iR.mp h
  have hx : x.toNat < S.length := by omega
  have e : S[x.toNat]? = some (lo S x, hi S x) := by
    unfold lo hi
    rw [List.getD_eq_getElem?_getD, List.getElem?_eq_getElem hx]; rfl
  exact ⟨e, List.mem_of_getElem? e⟩
theorem in_get {S : Str2} {p : Int × Int} (h : p ∈ S) : ∃ x ∈ iR S.length, lo S x = p.1 ∧ hi S x = p.2 := by
  obtain ⟨k, hk⟩ := List.getElem?_of_mem h
  refine ⟨(k : Int), mem_iR.mpr ⟨by omega, by have := (List.getElem?_eq_some_iff.mp hk).1; omega⟩, ?_⟩
  unfold lo hi
  rw [Int.toNat_natCast, List.getD_eq_getElem?_getD, hk]
  exact ⟨rfl, rfl⟩
theorem mem_prs {S : Str2} {x y : Int} : (x, y) ∈ prs S ↔ x ∈ iR S.length ∧ y ∈ iR S.length ∧ bl S x y = true := by
  unfold prs
  rw [List.mem_flatMap]
  constructor
  · rintro ⟨a, ha, h⟩
    obtain ⟨b, hb, e⟩ := List.mem_map.mp h
    cases e
    obtain ⟨hb, q⟩ := List.mem_filter.mp hb
    exact ⟨ha, hb, q⟩
  · rintro ⟨h1, h2, h3⟩
    exact ⟨x, h1, List.mem_map.mpr ⟨y, List.mem_filter.mpr ⟨h2, h3⟩, rfl⟩⟩
theorem iR_up (n : Nat) : Up ltI (iR n) := by
  unfold iR Up
  rw [List.pairwise_map]
  exact List.Pairwise.imp (fun {a b} h => by simp only [ltI, decide_eq_true_iff]; omega) List.pairwise_lt_range
theorem prs_up (S : Str2) : Up (ltP ltI ltI) (prs S) := by
  have key : ∀ l : List Int, Up ltI l → Up (ltP ltI ltI) (l.flatMap fun x => ((iR S.length).filter fun y => bl S x y).map fun y => (x, y)) := by
    intro l
    induction l with
    | nil => intro _; exact .nil
    | cons x r ih =>
      intro u
      obtain ⟨u1, u2⟩ := List.pairwise_cons.mp u
      rw [List.flatMap_cons]
      refine List.pairwise_append.mpr ⟨?_, ih u2, ?_⟩
      · rw [List.pairwise_map]
        refine List.Pairwise.imp (fun {a b} h => ?_) (List.Pairwise.filter _ (iR_up S.length))
        have h : decide (a < b) = true := h
        rw [decide_eq_true_iff] at h
        simp only [ltP]
        rw [if_pos trivial, if_neg (by omega)]
        exact decide_eq_true h
      · intro p hp q hq
        obtain ⟨y, _, rfl⟩ := List.mem_map.mp hp
        obtain ⟨a, ha, hq⟩ := List.mem_flatMap.mp hq
        obtain ⟨z, _, rfl⟩ := List.mem_map.mp hq
        have := u1 a ha
        simp only [ltI, decide_eq_true_iff] at this
        simp only [ltP]
        rw [if_neg (by omega)]
        exact decide_eq_true this
  exact key _ (iR_up _)
theorem prs_map {S : Str2} {F : Int × Int → Int × Int} (h : ∀ p ∈ S, ∀ q ∈ S, p.2 < q.1 ↔ (F p).2 < (F q).1) : prs (S.map F) = prs S := by
  refine up_ext (sl_P sl_I sl_I) (prs_up _) (prs_up _) fun z => ?_
  obtain ⟨x, y⟩ := z
  rw [mem_prs, mem_prs, List.length_map]
  refine and_congr_right fun hx => and_congr_right fun hy => ?_
  have e : ∀ {x : Int}, x ∈ iR S.length → lo (S.map F) x = (F (lo S x, hi S x)).1 ∧ hi (S.map F) x = (F (lo S x, hi S x)).2 := by
    intro x hx
    have g := (get_in hx).1
    unfold lo hi at g ⊢
    rw [List.getD_eq_getElem?_getD, List.getElem?_map, g]
    exact ⟨rfl, rfl⟩
  unfold bl
  rw [(e hx).2, (e hy).1, decide_eq_true_iff, decide_eq_true_iff]
  exact (h _ (get_in hx).2 _ (get_in hy).2).symm
def Ul (S : Str2) (t : Int) : List Int := (iR S.length).filter fun x => decide (hi S x < t)
def Al (S : Str2) (t : Int) : List Int := (iR S.length).filter fun y => decide (t < lo S y)
theorem und_eq (S : Str2) {y : Int} (hy : y ∈ iR S.length) : ((prs S).filter fun p => decide (p.2 = y)).map (fun p => p.1) = Ul S (lo S y) := by
  refine up_ext sl_I ?_ (List.Pairwise.filter _ (iR_up _)) fun z => ?_
  · unfold Up
    rw [List.pairwise_map]
    refine List.Pairwise.imp_of_mem (fun {a b} ha hb h => ?_) (List.Pairwise.filter _ (prs_up S))
    have e1 := of_decide_eq_true (List.mem_filter.mp ha).2
    have e2 := of_decide_eq_true (List.mem_filter.mp hb).2
    have h : ltP ltI ltI a b = true := h
    simp only [ltP] at h
    by_cases q : a.1 = b.1
    · rw [if_pos q, if_pos (by rw [e1, e2])] at h; cases h
    · rwa [if_neg q] at h
  · rw [List.mem_map]
    unfold Ul
    rw [List.mem_filter]
    constructor
    · rintro ⟨p, hp, rfl⟩
      obtain ⟨h1, h2⟩ := List.mem_filter.mp hp
      have h2 := of_decide_eq_true h2
      obtain ⟨g1, g2, g3⟩ := mem_prs.mp (show (p.1, p.2) ∈ prs S from h1)
      exact ⟨g1, by rw [← h2]; exact g3⟩
    · rintro ⟨h1, h2⟩
      exact ⟨(z, y), List.mem_filter.mpr ⟨mem_prs.mpr ⟨h1, hy, h2⟩, decide_eq_true rfl⟩, rfl⟩
theorem abv_eq (S : Str2) {x : Int} (hx : x ∈ iR S.length) : ((prs S).filter fun p => decide (p.1 = x)).map (fun p => p.2) = Al S (hi S x) := by
  refine up_ext sl_I ?_ (List.Pairwise.filter _ (iR_up _)) fun z => ?_
  · unfold Up
    rw [List.pairwise_map]
    refine List.Pairwise.imp_of_mem (fun {a b} ha hb h => ?_) (List.Pairwise.filter _ (prs_up S))
    have e1 := of_decide_eq_true (List.mem_filter.mp ha).2
    have e2 := of_decide_eq_true (List.mem_filter.mp hb).2
    have h : ltP ltI ltI a b = true := h
    simp only [ltP] at h
    rw [if_pos (by rw [e1, e2])] at h
    by_cases q : a.2 = b.2
    · rw [if_pos q] at h; cases h
    · rwa [if_neg q] at h
  · rw [List.mem_map]
    unfold Al
    rw [List.mem_filter]
    constructor
    · rintro ⟨p, hp, rfl⟩
      obtain ⟨h1, h2⟩ := List.mem_filter.mp hp
      have h2 := of_decide_eq_true h2
      obtain ⟨g1, g2, g3⟩ := mem_prs.mp (show (p.1, p.2) ∈ prs S from h1)
      exact ⟨g2, by rw [← h2]; exact g3⟩
    · rintro ⟨h1, h2⟩
      exact ⟨(x, z), List.mem_filter.mpr ⟨mem_prs.mpr ⟨hx, h1, h2⟩, decide_eq_true rfl⟩, rfl⟩
def Vs (m : Nat) (S : Str2) : Prop := ∀ p ∈ S, 1 ≤ p.1 ∧ p.1 ≤ p.2 ∧ p.2 ≤ m
def Ti (m : Nat) (S : Str2) : Prop := Vs m S ∧ ∀ t : Int, 1 ≤ t → t ≤ m → (∃ p ∈ S, p.1 = t) ∧ ∃ p ∈ S, p.2 = t
theorem tight_ex : ∀ (m : Nat) (S : Str2), Vs m S → ∃ (m' : Nat) (F : Int × Int → Int × Int), m' ≤ m ∧ Ti m' (S.map F) ∧ ∀ p ∈ S, ∀ q ∈ S, p.2 < q.1 ↔ (F p).2 < (F q).1
  | m, S, v => by
    by_cases h : ∀ t : Int, 1 ≤ t → t ≤ m → (∃ p ∈ S, p.1 = t) ∧ ∃ p ∈ S, p.2 = t
    · exact ⟨m, id, Nat.le_refl _, by rw [List.map_id]; exact ⟨v, h⟩, fun p _ q _ => Iff.rfl⟩
    · have h : ∃ t : Int, 1 ≤ t ∧ t ≤ m ∧ ((∀ p ∈ S, p.1 ≠ t) ∨ ∀ p ∈ S, p.2 ≠ t) := by
        refine Classical.byContradiction fun c => h fun t h1 h2 => ⟨?_, ?_⟩
        · exact Classical.byContradiction fun d => c ⟨t, h1, h2, .inl fun p hp e => d ⟨p, hp, e⟩⟩
        · exact Classical.byContradiction fun d => c ⟨t, h1, h2, .inr fun p hp e => d ⟨p, hp, e⟩⟩
      obtain ⟨t, h1, h2, h3⟩ := h
      obtain ⟨m, rfl⟩ : ∃ k, m = k + 1 := ⟨m - 1, by omega⟩
      have step : ∃ F : Int × Int → Int × Int, Vs m (S.map F) ∧ ∀ p ∈ S, ∀ q ∈ S, p.2 < q.1 ↔ (F p).2 < (F q).1 := by
        rcases h3 with h3 | h3
        · refine ⟨fun p => (if t < p.1 then p.1 - 1 else p.1, if t ≤ p.2 then p.2 - 1 else p.2), ?_, ?_⟩
          · intro q hq
            obtain ⟨p, hp, rfl⟩ := List.mem_map.mp hq
            have := v p hp; have := h3 p hp
            dsimp only
            split <;> split <;> omega
          · intro p hp q hq
            have := v p hp; have := h3 p hp; have := v q hq; have := h3 q hq
            dsimp only
            split <;> split <;> omega
        · refine ⟨fun p => (if t < p.1 then p.1 - 1 else p.1, if t < p.2 then p.2 - 1 else p.2), ?_, ?_⟩
          · intro q hq
            obtain ⟨p, hp, rfl⟩ := List.mem_map.mp hq
            have := v p hp; have := h3 p hp
            dsimp only
            split <;> split <;> omega
          · intro p hp q hq
            have := v p hp; have := h3 p hp; have := v q hq; have := h3 q hq
            dsimp only
            split <;> split <;> omega
      obtain ⟨F, f1, f2⟩ := step
      obtain ⟨m', F', g1, g2, g3⟩ := tight_ex m (S.map F) f1
      refine ⟨m', F' ∘ F, by omega, by rw [← List.map_map]; exact g2, fun p hp q hq => (f2 p hp q hq).trans (g3 _ (List.mem_map_of_mem hp) _ (List.mem_map_of_mem hq))⟩
theorem filter_lt {p q : Int → Bool} : ∀ {l : List Int}, (∀ x ∈ l, p x = true → q x = true) → (∃ x ∈ l, q x = true ∧ p x = false) → (l.filter p).length < (l.filter q).length
  | [], _, ⟨x, hx, _⟩ => by cases hx
  | y :: r, h, ⟨x, hx, h1, h2⟩ => by
    have hr : (r.filter p).length ≤ (r.filter q).length := by
      rw [← List.countP_eq_length_filter, ← List.countP_eq_length_filter]
      exact List.countP_mono_left fun z hz => h z (List.mem_cons_of_mem _ hz)
    rw [List.filter_cons, List.filter_cons]
    by_cases e : p y = true
    · rw [if_pos e, if_pos (h y List.mem_cons_self e), List.length_cons, List.length_cons]
      rcases List.mem_cons.mp hx with rfl | hx
      · rw [e] at h2; cases h2
      · have := filter_lt (fun z hz => h z (List.mem_cons_of_mem _ hz)) ⟨x, hx, h1, h2⟩; omega
    · rw [if_neg e]
      by_cases e2 : q y = true
      · rw [if_pos e2, List.length_cons]; omega
      · rw [if_neg e2]
        rcases List.mem_cons.mp hx with rfl | hx
        · exact absurd h1 e2
        · exact filter_lt (fun z hz => h z (List.mem_cons_of_mem _ hz)) ⟨x, hx, h1, h2⟩
variable {m : Nat} {S : Str2}
theorem Ul_lt (h : Ti m S) {t u : Int} (h1 : 1 ≤ t) (h2 : t < u) (h3 : u ≤ m) : (Ul S t).length < (Ul S u).length := by
  refine filter_lt (fun x _ q => ?_) ?_
  · rw [decide_eq_true_iff] at q ⊢; omega
  · obtain ⟨p, hp, e⟩ := (h.2 t h1 (by omega)).2
    obtain ⟨x, hx, e1, e2⟩ := in_get hp
    exact ⟨x, hx, decide_eq_true (by omega), decide_eq_false (by omega)⟩
theorem Al_lt (h : Ti m S) {t u : Int} (h1 : 1 ≤ t) (h2 : t < u) (h3 : u ≤ m) : (Al S u).length < (Al S t).length := by
  refine filter_lt (fun x _ q => ?_) ?_
  · rw [decide_eq_true_iff] at q ⊢; omega
  · obtain ⟨p, hp, e⟩ := (h.2 u (by omega) h3).1
    obtain ⟨x, hx, e1, e2⟩ := in_get hp
    exact ⟨x, hx, decide_eq_true (by omega), decide_eq_false (by omega)⟩
def pl (m : Nat) : List Int := (List.range m).map fun k : Nat => 1 + (k : Int)
theorem mem_pl {t : Int} : t ∈ pl m ↔ 1 ≤ t ∧ t ≤ m := by
  unfold pl
  rw [List.mem_map]
  constructor
  · rintro ⟨k, hk, rfl⟩; have := List.mem_range.mp hk; omega
  · rintro ⟨h1, h2⟩; exact ⟨(t - 1).toNat, List.mem_range.mpr (by omega), by omega⟩
theorem pl_pw : (pl m).Pairwise fun a b => a < b := by
  unfold pl
  rw [List.pairwise_map]
  exact List.Pairwise.imp (fun {a b} h => by omega) List.pairwise_lt_range
theorem pl_at {t : Int} (h : t ∈ pl m) : (pl m)[(t - 1).toNat]? = some t := by
  obtain ⟨h1, h2⟩ := mem_pl.mp h
  unfold pl
  rw [List.getElem?_map, List.getElem?_range (by omega)]
  show some (1 + ((t - 1).toNat : Int)) = some _
  congr 1; omega
theorem pl_len : (pl m).length = m := by rw [pl, List.length_map, List.length_range]
theorem lo_pl (h : Vs m S) {x : Int} (hx : x ∈ iR S.length) : lo S x ∈ pl m ∧ hi S x ∈ pl m := by
  have := h _ (get_in hx).2
  exact ⟨mem_pl.mpr (by dsimp only at this; omega), mem_pl.mpr (by dsimp only at this; omega)⟩
theorem pl_lo (h : Ti m S) {t : Int} (ht : t ∈ pl m) : (∃ x ∈ iR S.length, lo S x = t) ∧ ∃ x ∈ iR S.length, hi S x = t := by
  obtain ⟨h1, h2⟩ := mem_pl.mp ht
  obtain ⟨⟨p, hp, e⟩, ⟨q, hq, e'⟩⟩ := h.2 t h1 h2
  obtain ⟨x, hx, e1, _⟩ := in_get hp
  obtain ⟨y, hy, _, e2⟩ := in_get hq
  exact ⟨⟨x, hx, by omega⟩, ⟨y, hy, by omega⟩⟩
end Mo
end
section
set_option Elab.async false
set_option linter.all false
set_option maxRecDepth 100000
set_option maxHeartbeats 0
namespace Ev
open PySem
abbrev nI (xs : List Int) : List D := xs.map D.int
abbrev tI (xs : List Int) : D := .tup (nI xs)
abbrev lI (xs : List Int) : D := .lst (nI xs)

theorem forLoop_run {t : T} {body : Env → R Fl} (I : Nat → Env → Prop) : ∀ (items : List D) (k0 : Nat)
    (h : ∀ k d env, items[k]? = some d → I (k0 + k) env → ∃ e1 e2, bind1 t d env = some e1 ∧ body e1 = .ok .nx e2 ∧ I (k0 + k + 1) e2)
    (env : Env), I k0 env → ∃ env', forLoop t body items env = .ok .nx env' ∧ I (k0 + items.length) env'
  | [], k0, h, env, i0 => ⟨env, rfl, i0⟩
  | d :: r, k0, h, env, i0 => by
    obtain ⟨e1, e2, h1, h2, h3⟩ := h 0 d env rfl i0
    obtain ⟨env', h4, h5⟩ := forLoop_run I r (k0 + 1) (fun k d env e i => by
      obtain ⟨e1, e2, a, b, c⟩ := h (k + 1) d env (by simpa using e) (by rw [show k0 + (k + 1) = k0 + 1 + k by omega]; exact i)
      exact ⟨e1, e2, a, b, by rw [show k0 + 1 + k + 1 = k0 + (k + 1) + 1 by omega]; exact c⟩) e2 h3
    refine ⟨env', ?_, by rw [List.length_cons, show k0 + (r.length + 1) = k0 + 1 + r.length by omega]; exact h5⟩
    rw [forLoop, h1]
    show turnF (forLoop t body r) (body e1) = _
    rw [h2]
    exact h4
theorem forLoop_ret {t : T} {body : Env → R Fl} (I : Nat → Env → Prop) {v : D} {fr : Bool} {m : Nat} : ∀ (items : List D) (k0 : Nat) (k1 : Nat) (Q : Env → Prop)
    (h : ∀ k d env, k < k1 → items[k]? = some d → I (k0 + k) env → ∃ e1 e2, bind1 t d env = some e1 ∧ body e1 = .ok .nx e2 ∧ I (k0 + k + 1) e2)
    (hr : ∃ d, items[k1]? = some d ∧ ∀ env, I (k0 + k1) env → ∃ e1 e2, bind1 t d env = some e1 ∧ body e1 = .ok (.rt v fr) e2 ∧ Q e2)
    (env : Env), I k0 env → ∃ env', forLoop t body items env = .ok (.rt v fr) env' ∧ Q env'
  | [], k0, k1, Q, h, ⟨d, hd, _⟩, env, i0 => by cases hd
  | d :: r, k0, 0, Q, h, ⟨d', hd, hr⟩, env, i0 => by
    cases hd
    obtain ⟨e1, e2, h1, h2, h3⟩ := hr env i0
    refine ⟨e2, ?_, h3⟩
    rw [forLoop, h1]
    show turnF (forLoop t body r) (body e1) = _
    rw [h2]
    rfl
  | d :: r, k0, k1 + 1, Q, h, ⟨d', hd, hr⟩, env, i0 => by
    obtain ⟨e1, e2, h1, h2, h3⟩ := h 0 d env (by omega) rfl i0
    obtain ⟨env', h4, h5⟩ := forLoop_ret (m := m) I r (k0 + 1) k1 Q (fun k d env hk e i => by
      obtain ⟨e1, e2, a, b, c⟩ := h (k + 1) d env (by omega) (by simpa using e) (by rw [show k0 + (k + 1) = k0 + 1 + k by omega]; exact i)
      exact ⟨e1, e2, a, b, by rw [show k0 + 1 + k + 1 = k0 + (k + 1) + 1 by omega]; exact c⟩)
      ⟨d', by simpa using hd, fun env i => hr env (by rw [show k0 + (k1 + 1) = k0 + 1 + k1 by omega]; exact i)⟩ e2 h3
    refine ⟨env', ?_, h5⟩
    rw [forLoop, h1]
    show turnF (forLoop t body r) (body e1) = _
    rw [h2]
    exact h4
theorem compLoop_run {vs : List Nat} {t : T} {tst elt : Env → R (List O)} {env : Env} (p : D → Bool) (f : D → D) : ∀ (items acc : List D)
    (h : ∀ d ∈ items, ∃ e1, bind1 t d env = some e1 ∧ tst e1 = .ok [.fz (.bl (p d))] e1 ∧ (p d = true → ∃ o, elt e1 = .ok [o] e1 ∧ o.view e1 = f d ∧ freezeO e1 [o] = e1) ∧ wipeE e1 vs = env)
    (hc : acc.length + items.length ≤ cap), compLoop vs t tst elt items env acc = .ok (acc.reverse ++ (items.filter p).map f) env
  | [], acc, h, hc => by rw [compLoop]; simp
  | d :: r, acc, h, hc => by
    obtain ⟨e1, h1, h2, h3, h4⟩ := h d List.mem_cons_self
    rw [compLoop, h1]
    show (tst e1).tst _ = _
    rw [h2]
    rw [List.length_cons] at hc
    show (if p d = true then _ else _) = _
    by_cases hp : p d = true
    · obtain ⟨o, h5, h6, h7⟩ := h3 hp
      rw [if_pos hp, h5]
      show (if acc.length < cap then compLoop vs t tst elt r (wipeE (freezeO e1 [o]) vs) (o.view e1 :: acc) else .stuck) = _
      rw [if_pos (show acc.length < cap by omega), h7, h4, h6, compLoop_run p f r (f d :: acc) (fun d hd => h d (List.mem_cons_of_mem _ hd)) (by rw [List.length_cons]; omega)]
      simp [hp]
    · rw [if_neg hp, h4, compLoop_run p f r acc (fun d hd => h d (List.mem_cons_of_mem _ hd)) (by omega)]
      simp [hp]
theorem enumD_get (n : Nat) : ∀ (ds : List D) (k : Nat), (enumD n ds)[k]? = ds[k]?.map fun d => D.tup [.int ((n + k : Nat) : Int), d]
  | [], k => rfl
  | d :: r, 0 => rfl
  | d :: r, k + 1 => by
    rw [enumD, List.getElem?_cons_succ, enumD_get (n + 1) r k, List.getElem?_cons_succ]
    congr 2
    funext d
    rw [show n + 1 + k = n + (k + 1) by omega]
theorem enumD_len (n : Nat) : ∀ ds : List D, (enumD n ds).length = ds.length
  | [] => rfl
  | d :: r => by rw [enumD, List.length_cons, List.length_cons, enumD_len]
theorem intsOf_nI : ∀ xs : List Int, intsOf (nI xs) = some xs
  | [] => rfl
  | x :: xs => by
    show (intsOf (nI xs)).map _ = _
    rw [intsOf_nI xs]
    rfl
theorem isDatas_nI (n : Nat) : ∀ xs : List Int, isDatas n (nI xs) = true
  | [] => by cases n <;> rfl
  | x :: xs => by
    show isDatas n (.int x :: nI xs) = true
    cases n <;> simp [isDatas, isData, isDatas_nI _ xs]
theorem eqDs_nI : ∀ xs ys : List Int, eqDs (nI xs) (nI ys) = decide (xs = ys)
  | [], [] => by simp [eqDs]
  | [], y :: ys => by simp [eqDs]
  | x :: xs, [] => by simp [eqDs]
  | x :: xs, y :: ys => by
    show (eqD (.int x) (.int y) && eqDs (nI xs) (nI ys)) = _
    rw [eqDs_nI xs ys]
    by_cases h : x = y <;> simp [eqD, h]
theorem cutL_map {α β : Type} (f : α → β) (xs : List α) (lo hi : Option Int) : cutL (xs.map f) lo hi = (cutL xs lo hi).map f := by
  unfold cutL
  rw [List.length_map, List.map_take, List.map_drop]
theorem op_ix (xs : List Int) (i : Nat) (h : i < xs.length) : op2 .ix (tI xs) (.int i) = some (.int xs[i]) := by
  show (atN (nI xs).length i).bind (fun k => (nI xs)[k]?) = _
  rw [show atN (nI xs).length i = some i by
    unfold atN
    rw [if_pos (by omega), if_pos (by rw [List.length_map]; omega), Int.toNat_natCast]]
  show (nI xs)[i]? = _
  rw [List.getElem?_map, List.getElem?_eq_getElem h]
  rfl
theorem op_ixl (xs : List Int) (i : Nat) (h : i < xs.length) : op2 .ix (lI xs) (.int i) = some (.int xs[i]) := by
  show (atN (nI xs).length i).bind (fun k => (nI xs)[k]?) = _
  rw [show atN (nI xs).length i = some i by
    unfold atN
    rw [if_pos (by omega), if_pos (by rw [List.length_map]; omega), Int.toNat_natCast]]
  show (nI xs)[i]? = _
  rw [List.getElem?_map, List.getElem?_eq_getElem h]
  rfl
theorem cutN_nat (n d i : Nat) : cutN n d (some (i : Int)) = min i n := by
  show (if (i : Int) < 0 then ((i : Int) + n).toNat else min (i : Int).toNat n) = _
  rw [if_neg (by omega), Int.toNat_natCast]
theorem cutL_to {α : Type} (xs : List α) (i : Nat) : cutL xs none (some (i : Int)) = xs.take i := by
  unfold cutL
  rw [cutN_nat]
  show (xs.drop 0).take (min i xs.length - 0) = _
  rw [List.drop_zero, Nat.sub_zero]
  by_cases h : i ≤ xs.length
  · rw [Nat.min_eq_left h]
  · rw [Nat.min_eq_right (by omega), List.take_of_length_le (Nat.le_refl _), List.take_of_length_le (by omega)]
theorem cutL_from {α : Type} (xs : List α) (i : Nat) : cutL xs (some (i : Int)) none = xs.drop i := by
  unfold cutL
  rw [cutN_nat]
  show (xs.drop (min i xs.length)).take (xs.length - min i xs.length) = _
  by_cases h : i ≤ xs.length
  · rw [Nat.min_eq_left h, List.take_of_length_le (by rw [List.length_drop]; exact Nat.le_refl _)]
  · rw [Nat.min_eq_right (by omega), List.drop_of_length_le (Nat.le_refl _), List.drop_of_length_le (by omega), List.take_nil]
theorem cut_to (xs : List Int) (i : Nat) : op2 (.cut false true) (tI xs) (.int i) = some (tI (xs.take i)) := by
  show some (D.tup (cutL (nI xs) none (some (i : Int)))) = _
  rw [cutL_map, cutL_to]
theorem cut_from (xs : List Int) (i : Nat) : op2 (.cut true false) (tI xs) (.int i) = some (tI (xs.drop i)) := by
  show some (D.tup (cutL (nI xs) (some (i : Int)) none)) = _
  rw [cutL_map, cutL_from]
theorem cut_froml (xs : List Int) (i : Nat) : op2 (.cut true false) (lI xs) (.int i) = some (lI (xs.drop i)) := by
  show some (D.lst (cutL (nI xs) (some (i : Int)) none)) = _
  rw [cutL_map, cutL_from]
theorem op_cat (xs ys : List Int) (h : xs.length + ys.length ≤ cap) : op2 .add (tI xs) (tI ys) = some (tI (xs ++ ys)) := by
  show capd _ (D.tup (nI xs ++ nI ys)) = _
  unfold capd
  rw [if_pos (by rw [List.length_map, List.length_map]; exact h), ← List.map_append]
theorem zipD_nI : ∀ xs ys : List Int, zipD (nI xs) (nI ys) = (xs.zip ys).map fun p => D.tup [.int p.1, .int p.2]
  | [], _ => rfl
  | _ :: _, [] => rfl
  | x :: xs, y :: ys => by
    show D.tup [.int x, .int y] :: zipD (nI xs) (nI ys) = _
    rw [zipD_nI xs ys]
    rfl
theorem idx_nI (x : Int) : ∀ (xs : List Int) (n : Nat), idx (.int x) (nI xs) n = (xs.findIdx? (· == x)).map (· + n)
  | [], n => rfl
  | y :: ys, n => by
    show (if eqD (.int y) (.int x) = true then some n else idx (.int x) (nI ys) (n + 1)) = _
    rw [idx_nI x ys (n + 1), List.findIdx?_cons]
    show (if (y == x) = true then some n else _) = _
    by_cases h : (y == x) = true
    · rw [if_pos h, if_pos h]
      simp
    · rw [if_neg h, if_neg h]
      cases ys.findIdx? (· == x) with
      | none => rfl
      | some k =>
        show some (k + (n + 1)) = some (k + 1 + n)
        congr 1
        omega
theorem op_index (xs : List Int) (x : Int) {k : Nat} (h : xs.findIdx? (· == x) = some k) : op2 .index (tI xs) (.int x) = some (.int k) := by
  have e := idx_nI x xs 0
  rw [h] at e
  show (if (isDatas depthLine (nI xs) && isData depthLine (D.int x)) = true then _ else none) = _
  rw [isDatas_nI, e]
  rfl
theorem op_indexl (xs : List Int) (x : Int) {k : Nat} (h : xs.findIdx? (· == x) = some k) : op2 .index (lI xs) (.int x) = some (.int k) := by
  have e := idx_nI x xs 0
  rw [h] at e
  show (if (isDatas depthLine (nI xs) && isData depthLine (D.int x)) = true then _ else none) = _
  rw [isDatas_nI, e]
  rfl
theorem upto_eq : ∀ (n : Nat) (lo : Int), upto lo n = (List.range n).map fun k : Nat => lo + (k : Int)
  | 0, lo => rfl
  | n + 1, lo => by
    rw [upto, upto_eq n (lo + 1), List.range_succ_eq_map, List.map_cons, List.map_map]
    congr 1
    · simp
    · refine List.map_congr_left fun k _ => ?_
      show lo + 1 + (k : Int) = lo + ((k + 1 : Nat) : Int)
      omega
theorem blsOf_map : ∀ bs : List Bool, blsOf (bs.map D.bl) = some bs
  | [] => rfl
  | b :: bs => by
    show (blsOf (bs.map D.bl)).map _ = _
    rw [blsOf_map bs]
    rfl
end Ev
end
section
set_option linter.all false
set_option maxRecDepth 100000
namespace Ev
open PySem
variable {s0 s1 s2 s3 s4 s5 s6 : Sl} {e : Ev.Env}
theorem at0 : Env.at (s0 :: e) 0 = s0 := rfl
theorem at1 : Env.at (s0 :: s1 :: e) 1 = s1 := rfl
theorem at2 : Env.at (s0 :: s1 :: s2 :: e) 2 = s2 := rfl
theorem at3 : Env.at (s0 :: s1 :: s2 :: s3 :: e) 3 = s3 := rfl
theorem at4 : Env.at (s0 :: s1 :: s2 :: s3 :: s4 :: e) 4 = s4 := rfl
theorem at5 : Env.at (s0 :: s1 :: s2 :: s3 :: s4 :: s5 :: e) 5 = s5 := rfl
theorem at6 : Env.at (s0 :: s1 :: s2 :: s3 :: s4 :: s5 :: s6 :: e) 6 = s6 := rfl
variable {i j : Int} {b : Bool} {ds es : List D} {xs ys : List Int}
theorem o_add : op2 .add (.int i) (.int j) = some (.int (i + j)) := rfl
theorem o_sub : op2 .sub (.int i) (.int j) = some (.int (i - j)) := rfl
theorem o_mulr (h : b64 j = true) : op2 .mul (.int i) (.int j) = some (.int (i * j)) := by
  show (if (b64 i || b64 j) = true then some (D.int (i * j)) else none) = _
  rw [h, Bool.or_true]
  rfl
theorem o_lt : op2 .lt (.int i) (.int j) = some (.bl (decide (i < j))) := rfl
theorem o_le : op2 .le (.int i) (.int j) = some (.bl (decide (i ≤ j))) := rfl
theorem o_gt : op2 .gt (.int i) (.int j) = some (.bl (decide (j < i))) := rfl
theorem o_ge : op2 .ge (.int i) (.int j) = some (.bl (decide (j ≤ i))) := rfl
theorem o_len_t : op1 .len (.tup ds) = some (.int ds.length) := rfl
theorem o_len_l : op1 .len (.lst ds) = some (.int ds.length) := rfl
theorem o_len_r {ns : List Int} : op1 .len (.ro ns) = some (.int ns.length) := rfl
theorem o_abs : op1 .abs (.int i) = some (.int (if i < 0 then -i else i)) := rfl
theorem o_int : op1 .int1 (.int i) = some (.int i) := rfl
theorem o_intb : op1 .int1 (.bl b) = some (.int (if b then 1 else 0)) := rfl
theorem o_min : op2 .min2 (.int i) (.int j) = some (.int (if j < i then j else i)) := rfl
theorem o_neg : op1 .neg (.int i) = some (.int (-i)) := rfl
theorem o_isn {x : D} : op1 .isn x = some (.bl (isNonD x)) := by cases x <;> rfl
theorem o_isnn {x : D} : op1 .isnn x = some (.bl (!isNonD x)) := by cases x <;> rfl
theorem o_isi {ts : List Nat} {x : D} (h : tyKnown x = true) : op1 (.isi ts) x = some (.bl (ts.any (tyIs x))) := by
  show (if tyKnown x = true then some (D.bl (ts.any (tyIs x))) else none) = _
  rw [if_pos h]
theorem i_int_0 : op1 (.isi [0]) (.int i) = some (.bl true) := rfl
theorem i_int_1 : op1 (.isi [1]) (.int i) = some (.bl false) := rfl
theorem i_int_3 : op1 (.isi [3]) (.int i) = some (.bl false) := rfl
theorem i_int_4 : op1 (.isi [4]) (.int i) = some (.bl false) := rfl
theorem i_int_34 : op1 (.isi [3, 4]) (.int i) = some (.bl false) := rfl
theorem i_int_12 : op1 (.isi [1, 2]) (.int i) = some (.bl false) := rfl
theorem i_int_2 : op1 (.isi [2]) (.int i) = some (.bl false) := rfl
theorem i_bl_0 : op1 (.isi [0]) (.bl b) = some (.bl true) := rfl
theorem i_bl_1 : op1 (.isi [1]) (.bl b) = some (.bl true) := rfl
theorem i_bl_3 : op1 (.isi [3]) (.bl b) = some (.bl false) := rfl
theorem i_bl_4 : op1 (.isi [4]) (.bl b) = some (.bl false) := rfl
theorem i_bl_34 : op1 (.isi [3, 4]) (.bl b) = some (.bl false) := rfl
theorem i_bl_12 : op1 (.isi [1, 2]) (.bl b) = some (.bl true) := rfl
theorem i_bl_2 : op1 (.isi [2]) (.bl b) = some (.bl false) := rfl
theorem i_tup_0 : op1 (.isi [0]) (.tup ds) = some (.bl false) := rfl
theorem i_tup_1 : op1 (.isi [1]) (.tup ds) = some (.bl false) := rfl
theorem i_tup_3 : op1 (.isi [3]) (.tup ds) = some (.bl false) := rfl
theorem i_tup_4 : op1 (.isi [4]) (.tup ds) = some (.bl true) := rfl
theorem i_tup_34 : op1 (.isi [3, 4]) (.tup ds) = some (.bl true) := rfl
theorem i_tup_12 : op1 (.isi [1, 2]) (.tup ds) = some (.bl false) := rfl
theorem i_tup_2 : op1 (.isi [2]) (.tup ds) = some (.bl false) := rfl
theorem i_lst_0 : op1 (.isi [0]) (.lst ds) = some (.bl false) := rfl
theorem i_lst_1 : op1 (.isi [1]) (.lst ds) = some (.bl false) := rfl
theorem i_lst_3 : op1 (.isi [3]) (.lst ds) = some (.bl true) := rfl
theorem i_lst_4 : op1 (.isi [4]) (.lst ds) = some (.bl false) := rfl
theorem i_lst_34 : op1 (.isi [3, 4]) (.lst ds) = some (.bl true) := rfl
theorem i_lst_12 : op1 (.isi [1, 2]) (.lst ds) = some (.bl false) := rfl
theorem i_lst_2 : op1 (.isi [2]) (.lst ds) = some (.bl false) := rfl
theorem i_non_0 : op1 (.isi [0]) .non = some (.bl false) := rfl
theorem i_non_1 : op1 (.isi [1]) .non = some (.bl false) := rfl
theorem i_non_3 : op1 (.isi [3]) .non = some (.bl false) := rfl
theorem i_non_4 : op1 (.isi [4]) .non = some (.bl false) := rfl
theorem i_non_34 : op1 (.isi [3, 4]) .non = some (.bl false) := rfl
theorem i_non_12 : op1 (.isi [1, 2]) .non = some (.bl false) := rfl
theorem i_non_2 : op1 (.isi [2]) .non = some (.bl false) := rfl
theorem o_eqi : op2 .eq (.int i) (.int j) = some (.bl (i == j)) := rfl
theorem o_nei : op2 .ne (.int i) (.int j) = some (.bl (!(i == j))) := rfl
theorem o_eq {x y : D} (h1 : isData depthLine x = true) (h2 : isData depthLine y = true) : op2 .eq x y = some (.bl (eqD x y)) := by
  show (if (isData depthLine x && isData depthLine y) = true then some (D.bl (eqD x y)) else none) = _
  rw [h1, h2]
  rfl
theorem o_ne {x y : D} (h1 : isData depthLine x = true) (h2 : isData depthLine y = true) : op2 .ne x y = some (.bl (!eqD x y)) := by
  show (if (isData depthLine x && isData depthLine y) = true then some (D.bl (!eqD x y)) else none) = _
  rw [h1, h2]
  rfl
theorem o_mod (h : 0 < j) : op2 .mod (.int i) (.int j) = some (.int (i % j)) := by
  show (if decide (0 < j) = true then some (D.int (i % j)) else none) = _
  rw [if_pos (decide_eq_true h)]
theorem o_fdiv (h : 0 < j) (h2 : j < 1073741824) : op2 .fdiv (.int i) (.int j) = some (.int (i / j)) := by
  show (if (decide (0 < j) && leN j 1073741823) = true then some (D.int (i / j)) else none) = _
  rw [decide_eq_true h, leN_iff.mpr (by omega)]
  rfl
theorem o_all {bs : List Bool} : op1 .all (.lst (bs.map D.bl)) = some (.bl (bs.all id)) := by
  show (blsOf (bs.map D.bl)).map (fun l => D.bl (l.all id)) = _
  rw [blsOf_map]
  rfl
theorem o_sum : op1 .sum (lI xs) = some (.int xs.sum) := by
  show ((intsOf (nI xs)).map fun l => D.int l.sum) = _
  rw [intsOf_nI]
  rfl
theorem o_tup : op1 .tuple (.lst ds) = some (.tup ds) := rfl
theorem o_list : op1 .list (.lst ds) = some (.lst ds) := rfl
theorem o_rev : op1 .rev (.lst ds) = some (.lst ds.reverse) := rfl
theorem cut_1 : op2 (.cut true false) (tI xs) (.int 1) = some (tI xs.tail) := by
  have := cut_from xs 1
  rw [List.drop_one] at this
  exact this
theorem cut_1l : op2 (.cut true false) (lI xs) (.int 1) = some (lI xs.tail) := by
  have := cut_froml xs 1
  rw [List.drop_one] at this
  exact this
theorem comp_at {C : EC} {own : List Nat} {t : T} {k : IK} {src tst elt : E} {env e1 : Ev.Env} {os : List O} {items out : List D}
    (h1 : evE C src env = .ok os e1) (h2 : itSem k (os.map (O.view e1)) = some items)
    (h3 : compLoop own t (evE C tst) (evE C elt) items (wipeE (freezeL (freezeO e1 os) own) own) [] = .ok out (wipeE (freezeL (freezeO e1 os) own) own))
    (h4 : (wipeE (freezeL (freezeO e1 os) own) own).length = (freezeL (freezeO e1 os) own).length) :
    evE C (.comp own t k src tst elt) env = .ok [.fr (.lst out)] (backE (freezeL (freezeO e1 os) own) (wipeE (freezeL (freezeO e1 os) own) own) own) := by
  rw [evE, h1]
  show ifS (itSem k (os.map (O.view e1))) _ = _
  rw [h2]
  show compEnd _ _ _ = _
  rw [h3]
  show (if _ = _ then _ else _) = _
  rw [if_pos h4]
theorem for_at {C : EC} {t : T} {k : IK} {src : E} {body : S} {env e1 : Ev.Env} {os : List O} {items : List D} {r : R Fl}
    (h1 : evE C src env = .ok os e1) (h2 : itSem k (os.map (O.view e1)) = some items) (h3 : forLoop t (evS C body) items (freezeO e1 os) = r) :
    evS C (.for t k src body) env = r := by
  rw [evS, h1]
  show ifS (itSem k (os.map (O.view e1))) _ = _
  rw [h2]
  exact h3
theorem comp_fm {C : EC} {own : List Nat} {t : T} {k : IK} {src tst elt : E} {env ew e2 : Ev.Env} {os : List O} {items : List D} (p : D → Bool) (f : D → D)
    (h1 : evE C src env = .ok os env) (h2 : itSem k (os.map (O.view env)) = some items) (hf : freezeL (freezeO env os) own = env) (hw : wipeE env own = ew) (hb : backE env ew own = e2)
    (h : ∀ d ∈ items, ∃ e1, bind1 t d ew = some e1 ∧ evE C tst e1 = .ok [.fz (.bl (p d))] e1 ∧ (p d = true → ∃ o, evE C elt e1 = .ok [o] e1 ∧ o.view e1 = f d ∧ freezeO e1 [o] = e1) ∧ wipeE e1 own = ew)
    (hl : ew.length = env.length) (hc : items.length ≤ cap) {out : List D} (ho : (items.filter p).map f = out) :
    evE C (.comp own t k src tst elt) env = .ok [.fr (.lst out)] e2 := by
  subst ho
  subst hw
  subst hb
  have := comp_at (C := C) (own := own) (t := t) (k := k) (src := src) (tst := tst) (elt := elt) (out := (items.filter p).map f) h1 h2 (by
    rw [hf, compLoop_run p f items [] h (by simpa using hc)]
    rfl) (by rw [hf]; exact hl)
  rw [this, hf]
theorem comp_m {C : EC} {own : List Nat} {t : T} {k : IK} {src elt : E} {env ew e2 : Ev.Env} {os : List O} {items : List D} (f : D → D)
    (h1 : evE C src env = .ok os env) (h2 : itSem k (os.map (O.view env)) = some items) (hf : freezeL (freezeO env os) own = env) (hw : wipeE env own = ew) (hb : backE env ew own = e2)
    (h : ∀ d ∈ items, ∃ e1, bind1 t d ew = some e1 ∧ (∃ o, evE C elt e1 = .ok [o] e1 ∧ o.view e1 = f d ∧ freezeO e1 [o] = e1) ∧ wipeE e1 own = ew)
    (hl : ew.length = env.length) (hc : items.length ≤ cap) {out : List D} (ho : items.map f = out) :
    evE C (.comp own t k src (.cst (.bl true)) elt) env = .ok [.fr (.lst out)] e2 := by
  subst ho
  have := comp_fm (C := C) (own := own) (t := t) (k := k) (src := src) (tst := .cst (.bl true)) (elt := elt) (fun _ => true) f h1 h2 hf hw hb (fun d hd => by
    obtain ⟨e1, a, b, c⟩ := h d hd
    exact ⟨e1, a, rfl, fun _ => b, c⟩) hl hc rfl
  rw [this, List.filter_eq_self.mpr fun _ _ => rfl]
theorem cut_to1 {k : Nat} : op2 (.cut false true) (tI xs) (.int ((k : Int) + 1)) = some (tI (xs.take (k + 1))) := by
  have := cut_to xs (k + 1)
  rw [← this]
  rfl
theorem for_run {t : T} {body : Ev.Env → R Fl} (I : Nat → Ev.Env → Prop) {items : List D}
    (h : ∀ k d env, items[k]? = some d → I k env → ∃ e1 e2, bind1 t d env = some e1 ∧ body e1 = .ok .nx e2 ∧ I (k + 1) e2) {env : Ev.Env} (i0 : I 0 env) :
    ∃ env', forLoop t body items env = .ok .nx env' ∧ I items.length env' := by
  have := forLoop_run I items 0 (fun k d env e i => by
    rw [Nat.zero_add] at i ⊢
    exact h k d env e i) env i0
  rwa [Nat.zero_add] at this
theorem for_ret {t : T} {body : Ev.Env → R Fl} (I : Nat → Ev.Env → Prop) {items : List D} {v : D} {fr : Bool} {k1 : Nat} (Q : Ev.Env → Prop)
    (h : ∀ k d env, k < k1 → items[k]? = some d → I k env → ∃ e1 e2, bind1 t d env = some e1 ∧ body e1 = .ok .nx e2 ∧ I (k + 1) e2)
    (hr : ∃ d, items[k1]? = some d ∧ ∀ env, I k1 env → ∃ e1 e2, bind1 t d env = some e1 ∧ body e1 = .ok (.rt v fr) e2 ∧ Q e2) {env : Ev.Env} (i0 : I 0 env) :
    ∃ env', forLoop t body items env = .ok (.rt v fr) env' ∧ Q env' := by
  exact forLoop_ret (m := 0) I items 0 k1 Q (fun k d env hk e i => by
    rw [Nat.zero_add] at i ⊢
    exact h k d env hk e i) (by rwa [Nat.zero_add]) env i0
theorem nI_get {k : Nat} {d : D} (h : (nI xs)[k]? = some d) : ∃ x, xs[k]? = some x ∧ d = .int x := by
  rw [List.getElem?_map] at h
  cases q : xs[k]? with
  | none => rw [q] at h; cases h
  | some x => rw [q] at h; cases h; exact ⟨x, rfl, rfl⟩
theorem enumI_get {k : Nat} {d : D} (h : (enumD 0 (nI xs))[k]? = some d) : ∃ x, xs[k]? = some x ∧ d = .tup [.int (k : Int), .int x] := by
  rw [enumD_get, List.getElem?_map] at h
  cases q : xs[k]? with
  | none => rw [q] at h; cases h
  | some x => rw [q] at h; cases h; exact ⟨x, rfl, by rw [Nat.zero_add]⟩
theorem uptoI_get {lo : Int} {n k : Nat} {d : D} (h : ((upto lo n).map D.int)[k]? = some d) : k < n ∧ d = .int (lo + (k : Int)) := by
  rw [upto_eq, List.map_map, List.getElem?_map] at h
  by_cases q : k < n
  · rw [List.getElem?_range q] at h
    cases h
    exact ⟨q, rfl⟩
  · rw [List.getElem?_eq_none (by rw [List.length_range]; omega)] at h
    cases h
theorem nI_len : (nI xs).length = xs.length := List.length_map ..
theorem enumI_len {n : Nat} : (enumD n (nI xs)).length = xs.length := by rw [enumD_len, nI_len]
theorem le_cap {n : Nat} (h : n ≤ 1000) : n ≤ cap := Nat.le_trans h (by decide)
end Ev
end
section
set_option linter.all false
set_option maxRecDepth 100000
namespace Ev
open PySem
abbrev iN : Nat → D := fun k => .int (k : Int)
abbrev nN (ks : List Nat) : List D := ks.map fun k : Nat => D.int (k : Int)
theorem upto_iN (n : Nat) : (upto 0 n).map D.int = (List.range n).map iN := by
  rw [upto_eq, List.map_map]
  refine List.map_congr_left fun k _ => ?_
  show D.int (0 + (k : Int)) = _
  rw [Int.zero_add]
theorem upto_lo (lo n : Nat) : (upto (lo : Int) n).map D.int = (List.range n).map fun k => iN (lo + k) := by
  rw [upto_eq, List.map_map]
  refine List.map_congr_left fun k _ => ?_
  show D.int ((lo : Int) + (k : Int)) = .int ((lo + k : Nat) : Int)
  congr 1
theorem it_rg (n : Nat) (h : n ≤ 100000) : itSem .rg1 [iN n] = some ((List.range n).map iN) := by
  show (if rngOk n = true then some ((upto 0 (n : Int).toNat).map D.int) else none) = _
  rw [if_pos (rngOk_iff.mpr ⟨by omega, by omega⟩), Int.toNat_natCast, upto_iN]
theorem it_rgI (i : Int) (n : Nat) (e : i.toNat = n) (h : n ≤ 100000) (h2 : -100000 ≤ i) : itSem .rg1 [.int i] = some ((List.range n).map iN) := by
  show (if rngOk i = true then some ((upto 0 i.toNat).map D.int) else none) = _
  rw [if_pos (rngOk_iff.mpr ⟨by omega, by omega⟩), e, upto_iN]
theorem it_rg2 (a b : Int) (lo n : Nat) (e : a = lo) (e2 : (b - a).toNat = n) (h : lo ≤ 100000) (h2 : -100000 ≤ b) (h3 : b ≤ 100000) : itSem .rg2 [.int a, .int b] = some ((List.range n).map fun k => iN (lo + k)) := by
  subst e
  show (if (rngOk lo && rngOk b) = true then some ((upto lo (b - lo).toNat).map D.int) else none) = _
  rw [if_pos (by rw [Bool.and_eq_true, rngOk_iff, rngOk_iff]; omega), e2, upto_lo]
theorem comp_t {α : Type} {C : EC} {own : List Nat} {t : T} {k : IK} {src tst elt : E} {env ew e2 : Ev.Env} {os : List O} (xs : List α) (enc : α → D) (p : α → Bool) (f : α → D)
    (h1 : evE C src env = .ok os env) (h2 : itSem k (os.map (O.view env)) = some (xs.map enc)) (hf : freezeL (freezeO env os) own = env) (hw : wipeE env own = ew) (hb : backE env ew own = e2)
    (h : ∀ x ∈ xs, ∃ e1, bind1 t (enc x) ew = some e1 ∧ evE C tst e1 = .ok [.fz (.bl (p x))] e1 ∧ (p x = true → ∃ o, evE C elt e1 = .ok [o] e1 ∧ o.view e1 = f x ∧ freezeO e1 [o] = e1) ∧ wipeE e1 own = ew)
    (hl : ew.length = env.length) (hc : xs.length ≤ cap) :
    evE C (.comp own t k src tst elt) env = .ok [.fr (.lst ((xs.filter p).map f))] e2 := by
  subst hw
  subst hb
  have key : ∀ (xs : List α) (acc : List D), (∀ x ∈ xs, ∃ e1, bind1 t (enc x) (wipeE env own) = some e1 ∧ evE C tst e1 = .ok [.fz (.bl (p x))] e1 ∧ (p x = true → ∃ o, evE C elt e1 = .ok [o] e1 ∧ o.view e1 = f x ∧ freezeO e1 [o] = e1) ∧ wipeE e1 own = wipeE env own) → acc.length + xs.length ≤ cap →
      compLoop own t (evE C tst) (evE C elt) (xs.map enc) (wipeE env own) acc = .ok (acc.reverse ++ (xs.filter p).map f) (wipeE env own) := by
    intro xs
    induction xs with
    | nil => intro acc _ _; rw [List.map_nil, compLoop]; simp
    | cons x r ih =>
      intro acc h hc
      obtain ⟨e1, h1, h2, h3, h4⟩ := h x List.mem_cons_self
      rw [List.map_cons, compLoop, h1]
      show (evE C tst e1).tst _ = _
      rw [h2]
      rw [List.length_cons] at hc
      show (if p x = true then _ else _) = _
      by_cases hp : p x = true
      · obtain ⟨o, h5, h6, h7⟩ := h3 hp
        rw [if_pos hp, h5]
        show (if acc.length < cap then compLoop own t (evE C tst) (evE C elt) (r.map enc) (wipeE (freezeO e1 [o]) own) (o.view e1 :: acc) else .stuck) = _
        rw [if_pos (show acc.length < cap by omega), h7, h4, h6, ih (f x :: acc) (fun d hd => h d (List.mem_cons_of_mem _ hd)) (by rw [List.length_cons]; omega)]
        simp [hp]
      · rw [if_neg hp, h4, ih acc (fun d hd => h d (List.mem_cons_of_mem _ hd)) (by omega)]
        simp [hp]
  have := comp_at (C := C) (own := own) (t := t) (k := k) (src := src) (tst := tst) (elt := elt) (out := (xs.filter p).map f) h1 h2 (by
    rw [hf, key xs [] h (by simpa using hc)]
    rfl) (by rw [hf]; exact hl)
  rw [this, hf]
theorem comp_tm {α : Type} {C : EC} {own : List Nat} {t : T} {k : IK} {src elt : E} {env ew e2 : Ev.Env} {os : List O} (xs : List α) (enc : α → D) (f : α → D)
    (h1 : evE C src env = .ok os env) (h2 : itSem k (os.map (O.view env)) = some (xs.map enc)) (hf : freezeL (freezeO env os) own = env) (hw : wipeE env own = ew) (hb : backE env ew own = e2)
    (h : ∀ x ∈ xs, ∃ e1, bind1 t (enc x) ew = some e1 ∧ (∃ o, evE C elt e1 = .ok [o] e1 ∧ o.view e1 = f x ∧ freezeO e1 [o] = e1) ∧ wipeE e1 own = ew)
    (hl : ew.length = env.length) (hc : xs.length ≤ cap) :
    evE C (.comp own t k src (.cst (.bl true)) elt) env = .ok [.fr (.lst (xs.map f))] e2 := by
  have := comp_t (C := C) (own := own) (t := t) (k := k) (src := src) (tst := .cst (.bl true)) (elt := elt) xs enc (fun _ => true) f h1 h2 hf hw hb (fun d hd => by
    obtain ⟨e1, a, b, c⟩ := h d hd
    exact ⟨e1, a, rfl, fun _ => b, c⟩) hl hc
  rw [this, List.filter_eq_self.mpr fun _ _ => rfl]
theorem for_t {α : Type} {t : T} {body : Ev.Env → R Fl} (enc : α → D) (I : List α → Ev.Env → Prop) (xs : List α)
    (h : ∀ pre x post env, xs = pre ++ x :: post → I pre env → ∃ e1 e2, bind1 t (enc x) env = some e1 ∧ body e1 = .ok .nx e2 ∧ I (pre ++ [x]) e2) {env : Ev.Env} (i0 : I [] env) :
    ∃ env', forLoop t body (xs.map enc) env = .ok .nx env' ∧ I xs env' := by
  have key : ∀ (post pre : List α) (env : Ev.Env), xs = pre ++ post → I pre env → ∃ env', forLoop t body (post.map enc) env = .ok .nx env' ∧ I xs env' := by
    intro post
    induction post with
    | nil => intro pre env e i; rw [List.append_nil] at e; exact ⟨env, rfl, e ▸ i⟩
    | cons x r ih =>
      intro pre env e i
      obtain ⟨e1, e2, h1, h2, h3⟩ := h pre x r env e i
      obtain ⟨env', h4, h5⟩ := ih (pre ++ [x]) e2 (by rw [e, List.append_assoc]; rfl) h3
      refine ⟨env', ?_, h5⟩
      rw [List.map_cons, forLoop, h1]
      show turnF (forLoop t body (r.map enc)) (body e1) = _
      rw [h2]
      exact h4
  exact key xs [] env rfl i0
theorem for_t2 {α : Type} {t : T} {body : Ev.Env → R Fl} (enc : α → D) (I : List α → Ev.Env → Prop) (W : Fl → Ev.Env → Prop) (xs : List α)
    (h : ∀ pre x post env, xs = pre ++ x :: post → I pre env → ∃ e1 fl e2, bind1 t (enc x) env = some e1 ∧ body e1 = .ok fl e2 ∧ ((fl = .nx ∧ I (pre ++ [x]) e2) ∨ (fl = .ct ∧ I (pre ++ [x]) e2) ∨ (∃ d fr, fl = .rt d fr ∧ W (.rt d fr) e2) ∨ (fl = .bk ∧ W .nx e2)))
    (hd : ∀ env, I xs env → W .nx env) {env : Ev.Env} (i0 : I [] env) :
    ∃ fl env', forLoop t body (xs.map enc) env = .ok fl env' ∧ W fl env' := by
  have key : ∀ (post pre : List α) (env : Ev.Env), xs = pre ++ post → I pre env → ∃ fl env', forLoop t body (post.map enc) env = .ok fl env' ∧ W fl env' := by
    intro post
    induction post with
    | nil => intro pre env e i; rw [List.append_nil] at e; exact ⟨.nx, env, rfl, hd _ (e ▸ i)⟩
    | cons x r ih =>
      intro pre env e i
      obtain ⟨e1, fl, e2, h1, h2, h3⟩ := h pre x r env e i
      have st : forLoop t body ((x :: r).map enc) env = turnF (forLoop t body (r.map enc)) (.ok fl e2) := by
        rw [List.map_cons, forLoop, h1]
        show turnF (forLoop t body (r.map enc)) (body e1) = _
        rw [h2]
      rw [st]
      rcases h3 with ⟨rfl, i⟩ | ⟨rfl, i⟩ | ⟨d, fr, rfl, w⟩ | ⟨rfl, w⟩
      · exact ih (pre ++ [x]) e2 (by rw [e, List.append_assoc]; rfl) i
      · exact ih (pre ++ [x]) e2 (by rw [e, List.append_assoc]; rfl) i
      · exact ⟨_, _, rfl, w⟩
      · exact ⟨_, _, rfl, w⟩
  exact key xs [] env rfl i0
theorem enum_t (xs : List Int) : enumD 0 (nI xs) = xs.zipIdx.map fun p : Int × Nat => D.tup [.int (p.2 : Int), .int p.1] := by
  refine List.ext_getElem? fun k => ?_
  rw [enumD_get, List.getElem?_map, List.getElem?_map, List.getElem?_zipIdx]
  cases xs[k]? <;> simp
end Ev
end
section
set_option Elab.async false
set_option linter.all false
set_option maxRecDepth 100000
set_option maxHeartbeats 1000000
namespace Lw
open PySem Ev
abbrev ev (n : Nat) (f : Nat) (ds : List D) : CR := evFn tb 1000 n f ds
abbrev C (n : Nat) : EC := ⟨evFn tb 1000 n, tb.io, 1000⟩
theorem ev_step {n k : Nat} {F : Fn} {ds : List D} (h : tb k = some (.ir F)) (hl : ds.length = F.ar) : ev (n + 1) k ds = endS F (evS (C n) F.body (startE F ds)) := by
  show evFn tb 1000 (n + 1) k ds = _
  rw [evFn, h]
  exact if_pos hl
section
variable {a b c x : D}
theorem ix30 : op2 .ix (.lst [a, b, c]) (.int 0) = some a := rfl
theorem ix31 : op2 .ix (.lst [a, b, c]) (.int 1) = some b := rfl
theorem ix32 : op2 .ix (.lst [a, b, c]) (.int 2) = some c := rfl
theorem set30 : setAt [a, b, c] x 0 = some [x, b, c] := rfl
theorem set32 : setAt [a, b, c] x 2 = some [a, b, x] := rfl
end
theorem o_mull {i j : Int} (h : b64 i = true) : op2 .mul (.int i) (.int j) = some (.int (i * j)) := by
  show (if (b64 i || b64 j) = true then some (D.int (i * j)) else none) = _
  rw [h]
  rfl
theorem b64_of {i : Int} (h1 : -(2 ^ 64) < i) (h2 : i < 2 ^ 64) : b64 i = true := by
  exact b64_iff.mpr ⟨h1, h2⟩
theorem ev_take (n N : Nat) (t : List D) (h : Tin N t) (hN : N ≤ 1000000) (b : Int) (h1 : 0 < b) (h2 : b < 1000000) :
    ∃ r t', ev (n + 1) kn__law_take [.lst t, .int b] = .ok (.int r) false t' ∧ Tin (N + 1) t' ∧ 0 ≤ r ∧ r < b := by
  obtain ⟨x, y, z, rfl, z0, z1⟩ := h
  by_cases hx : 0 < x
  · refine ⟨x % b, [.int (x / b), .int y, .int z], ?_, ⟨_, _, _, rfl, z0, by omega⟩, Int.emod_nonneg _ (by omega), Int.emod_lt_of_pos _ h1⟩
    rw [ev_step tb__law_take rfl]
    have e1 := o_mod (i := x) h1
    have e2 := o_fdiv (i := x) h1 (by omega)
    simp [ir__law_take, evS, evE, startE, endS, endFl, endIo, R.one, R.all, R.tst, R.bind, ifI, ifL, ifS, O.view, O.still, Sl.d, Sl.own, freezeO, Env.freeze, freezeL, wipeE, backE, store, ownD, afterCall, afterIo, resO, newOp, scalar, thenF, opSem, compEnd, bind1, seqOf, cmpI, kindD, mtOk, O.isSl, O.anySl, parStore, itSem, it1, it2, anyOf, cap, at0, at1, at2, at3, at4, at5, at6, o_add, o_sub, o_mulr, o_lt, o_le, o_gt, o_ge, o_len_t, o_len_l, o_len_r, o_abs, o_int, o_intb, o_min, o_isn, o_isnn, o_neg, i_int_0, i_int_1, i_int_3, i_int_4, i_int_34, i_int_12, i_int_2, i_bl_0, i_bl_1, i_bl_3, i_bl_4, i_bl_34, i_bl_12, i_bl_2, i_tup_0, i_tup_1, i_tup_3, i_tup_4, i_tup_34, i_tup_12, i_tup_2, i_lst_0, i_lst_1, i_lst_3, i_lst_4, i_lst_34, i_lst_12, i_lst_2, i_non_0, i_non_1, i_non_3, i_non_4, i_non_34, i_non_12, i_non_2, o_eqi, o_nei, ix30, ix31, ix32, set30, hx, e1, e2]
  · generalize hA : (y + 48271 * (z + 1)) * (39373 + (z + 1)) % 2147483647 = A
    generalize hB : A % 40009 + 7 = B
    generalize hC : (A + (z + 1) + y / 1000003) * B % 2147483629 = Cc
    refine ⟨(Cc * 48271 + A) % 2147483587 / 64 % b, [.int x, .int y, .int (z + 1)], ?_, ⟨_, _, _, rfl, by omega, by omega⟩, Int.emod_nonneg _ (by omega), Int.emod_lt_of_pos _ h1⟩
    rw [ev_step tb__law_take rfl]
    have m1 : op2 .mul (.int 48271) (.int (z + 1)) = some (.int (48271 * (z + 1))) := o_mull rfl
    have m2 : op2 .mul (.int (y + 48271 * (z + 1))) (.int (39373 + (z + 1))) = some (.int ((y + 48271 * (z + 1)) * (39373 + (z + 1)))) := o_mulr (b64_of (by omega) (by omega))
    have m3 : op2 .mod (.int ((y + 48271 * (z + 1)) * (39373 + (z + 1)))) (.int 2147483647) = some (.int A) := by rw [o_mod (by omega), hA]
    have m4 : op2 .mod (.int A) (.int 40009) = some (.int (A % 40009)) := o_mod (by omega)
    have m5 : op2 .fdiv (.int y) (.int 1000003) = some (.int (y / 1000003)) := o_fdiv (by omega) (by omega)
    have hBb : 7 ≤ B ∧ B < 40016 := by omega
    have m6 : op2 .mul (.int (A + (z + 1) + y / 1000003)) (.int B) = some (.int ((A + (z + 1) + y / 1000003) * B)) := o_mulr (b64_of (by omega) (by omega))
    have m7 : op2 .mod (.int ((A + (z + 1) + y / 1000003) * B)) (.int 2147483629) = some (.int Cc) := by rw [o_mod (by omega), hC]
    have m8 : op2 .mul (.int Cc) (.int 48271) = some (.int (Cc * 48271)) := o_mulr rfl
    have m9 : op2 .mod (.int (Cc * 48271 + A)) (.int 2147483587) = some (.int ((Cc * 48271 + A) % 2147483587)) := o_mod (by omega)
    have m10 : op2 .fdiv (.int ((Cc * 48271 + A) % 2147483587)) (.int 64) = some (.int ((Cc * 48271 + A) % 2147483587 / 64)) := o_fdiv (by omega) (by omega)
    have m11 := o_mod (i := (Cc * 48271 + A) % 2147483587 / 64) h1
    simp [ir__law_take, evS, evE, startE, endS, endFl, endIo, R.one, R.all, R.tst, R.bind, ifI, ifL, ifS, O.view, O.still, Sl.d, Sl.own, freezeO, Env.freeze, freezeL, wipeE, backE, store, ownD, afterCall, afterIo, resO, newOp, scalar, thenF, opSem, compEnd, bind1, seqOf, cmpI, kindD, mtOk, O.isSl, O.anySl, parStore, itSem, it1, it2, anyOf, cap, at0, at1, at2, at3, at4, at5, at6, o_add, o_sub, o_mulr, o_lt, o_le, o_gt, o_ge, o_len_t, o_len_l, o_len_r, o_abs, o_int, o_intb, o_min, o_isn, o_isnn, o_neg, i_int_0, i_int_1, i_int_3, i_int_4, i_int_34, i_int_12, i_int_2, i_bl_0, i_bl_1, i_bl_3, i_bl_4, i_bl_34, i_bl_12, i_bl_2, i_tup_0, i_tup_1, i_tup_3, i_tup_4, i_tup_34, i_tup_12, i_tup_2, i_lst_0, i_lst_1, i_lst_3, i_lst_4, i_lst_34, i_lst_12, i_lst_2, i_non_0, i_non_1, i_non_3, i_non_4, i_non_34, i_non_12, i_non_2, o_eqi, o_nei, ix30, ix31, ix32, set32, hx, m1, m2, m3, m4, hB, m5, m6, m7, m8, m9, m10, m11]
theorem ev_box (n : Nat) (x : Int) : ∃ t, ev (n + 1) kn__law_box [.lst [.int x], .int 0] = .ok (.lst t) true [] ∧ Tin 0 t := by
  generalize hA : (if x < 0 then -x else x) = A
  have p : op2 .pow (.int 10) (.int 18) = some (.int 1000000000000000000) := rfl
  have i0 : op2 .ix (.lst [.int x]) (.int 0) = some (.int x) := rfl
  have m1 : op2 .mul (.int A) (.int (if (1000000000000000000 : Int) ≤ A then 1 else 0)) = some (.int (A * (if (1000000000000000000 : Int) ≤ A then 1 else 0))) := o_mulr (by by_cases h : (1000000000000000000 : Int) ≤ A <;> simp [h] <;> rfl)
  have m2 : op2 .mod (.int x) (.int 2305843009213693951) = some (.int (x % 2305843009213693951)) := o_mod (by omega)
  have m3 : op2 .mul (.int 39373) (.int 0) = some (.int 0) := rfl
  refine ⟨_, ?_, ⟨A * (if (1000000000000000000 : Int) ≤ A then 1 else 0), x % 2305843009213693951 + 0 + 25191031, 0, rfl, by omega, by omega⟩⟩
  rw [ev_step tb__law_box rfl]
  simp [ir__law_box, evS, evE, startE, endS, endFl, endIo, R.one, R.all, R.tst, R.bind, ifI, ifL, ifS, O.view, O.still, Sl.d, Sl.own, freezeO, Env.freeze, freezeL, wipeE, backE, store, ownD, afterCall, afterIo, resO, newOp, scalar, thenF, opSem, compEnd, bind1, seqOf, cmpI, kindD, mtOk, O.isSl, O.anySl, parStore, itSem, it1, it2, anyOf, cap, at0, at1, at2, at3, at4, at5, at6, o_add, o_sub, o_mulr, o_lt, o_le, o_gt, o_ge, o_len_t, o_len_l, o_len_r, o_abs, o_int, o_intb, o_min, o_isn, o_isnn, o_neg, i_int_0, i_int_1, i_int_3, i_int_4, i_int_34, i_int_12, i_int_2, i_bl_0, i_bl_1, i_bl_3, i_bl_4, i_bl_34, i_bl_12, i_bl_2, i_tup_0, i_tup_1, i_tup_3, i_tup_4, i_tup_34, i_tup_12, i_tup_2, i_lst_0, i_lst_1, i_lst_3, i_lst_4, i_lst_34, i_lst_12, i_lst_2, i_non_0, i_non_1, i_non_3, i_non_4, i_non_34, i_non_12, i_non_2, o_eqi, o_nei, i0, hA, p, m1, m2, m3]
theorem ev_cells1 (n : Nat) (ns : List Int) : ∃ x : Int, ev (n + 1) kn__law_cells [.ro ns, .int 1] = .ok (.lst [.int x]) true [] := by
  have hc : ∃ c : Int, evE (C n) (.orL (.op (.list) (.cons (.op (.cut false true) (.cons (.var 0) (.cons (.var 1) .nil))) .nil)) (.lst (.cons (.cst (.int 0)) .nil))) [.fz (.ro ns), .fz (.int 1), .no, .no, .no, .no] = .ok [.fr (.lst [.int c])] [.fz (.ro ns), .fz (.int 1), .no, .no, .no, .no] := by
    cases ns with
    | nil =>
      have e1 : op2 (.cut false true) (.ro []) (.int 1) = some (.lst []) := rfl
      exact ⟨0, by simp [evS, evE, startE, endS, endFl, endIo, R.one, R.all, R.tst, R.bind, ifI, ifL, ifS, O.view, O.still, Sl.d, Sl.own, freezeO, Env.freeze, freezeL, wipeE, backE, store, ownD, afterCall, afterIo, resO, newOp, scalar, thenF, opSem, compEnd, bind1, seqOf, cmpI, kindD, mtOk, O.isSl, O.anySl, parStore, itSem, it1, it2, anyOf, cap, at0, at1, at2, at3, at4, at5, at6, o_add, o_sub, o_mulr, o_lt, o_le, o_gt, o_ge, o_len_t, o_len_l, o_len_r, o_abs, o_int, o_intb, o_min, o_isn, o_isnn, o_neg, i_int_0, i_int_1, i_int_3, i_int_4, i_int_34, i_int_12, i_int_2, i_bl_0, i_bl_1, i_bl_3, i_bl_4, i_bl_34, i_bl_12, i_bl_2, i_tup_0, i_tup_1, i_tup_3, i_tup_4, i_tup_34, i_tup_12, i_tup_2, i_lst_0, i_lst_1, i_lst_3, i_lst_4, i_lst_34, i_lst_12, i_lst_2, i_non_0, i_non_1, i_non_3, i_non_4, i_non_34, i_non_12, i_non_2, o_eqi, o_nei, e1, o_list]⟩
    | cons x r =>
      have e1 : op2 (.cut false true) (.ro (x :: r)) (.int 1) = some (.lst [.int x]) := by
        show some (D.lst ((cutL (x :: r) none (some ((1 : Nat) : Int))).map D.int)) = _
        rw [cutL_to]
        rfl
      exact ⟨x, by simp [evS, evE, startE, endS, endFl, endIo, R.one, R.all, R.tst, R.bind, ifI, ifL, ifS, O.view, O.still, Sl.d, Sl.own, freezeO, Env.freeze, freezeL, wipeE, backE, store, ownD, afterCall, afterIo, resO, newOp, scalar, thenF, opSem, compEnd, bind1, seqOf, cmpI, kindD, mtOk, O.isSl, O.anySl, parStore, itSem, it1, it2, anyOf, cap, at0, at1, at2, at3, at4, at5, at6, o_add, o_sub, o_mulr, o_lt, o_le, o_gt, o_ge, o_len_t, o_len_l, o_len_r, o_abs, o_int, o_intb, o_min, o_isn, o_isnn, o_neg, i_int_0, i_int_1, i_int_3, i_int_4, i_int_34, i_int_12, i_int_2, i_bl_0, i_bl_1, i_bl_3, i_bl_4, i_bl_34, i_bl_12, i_bl_2, i_tup_0, i_tup_1, i_tup_3, i_tup_4, i_tup_34, i_tup_12, i_tup_2, i_lst_0, i_lst_1, i_lst_3, i_lst_4, i_lst_34, i_lst_12, i_lst_2, i_non_0, i_non_1, i_non_3, i_non_4, i_non_34, i_non_12, i_non_2, o_eqi, o_nei, e1, o_list]⟩
  obtain ⟨c0, hc⟩ := hc
  rw [ev_step tb__law_cells rfl]
  have e : ∃ (x : Int) (a b c : Sl), evS (C n) q__law_cells_1 [.fz (.ro ns), .fz (.int 1), .ow [.int c0], .no, .no, .no] = .ok .nx [.fz (.ro ns), .fz (.int 1), .ow [.int x], a, b, c] := by
    obtain ⟨env', h1, h2⟩ := for_run (t := .tu [3, 4]) (body := evS (C n) q__law_cells_1b) (items := enumD 0 (nI (cutL ns (some 1) (some 63)))) (fun k env => ∃ (x : Int) (a b c : Sl), env = [.fz (.ro ns), .fz (.int 1), .ow [.int x], a, b, c]) (fun k d env hk i => by
      obtain ⟨x, a, b, c, rfl⟩ := i
      obtain ⟨v, q, rfl⟩ := enumI_get hk
      have hkl := (List.getElem?_eq_some_iff.mp q).1
      have hl : (cutL ns (some 1) (some 63)).length ≤ 63 := by
        have e63 : cutN ns.length ns.length (some 63) = min 63 ns.length := cutN_nat _ _ 63
        unfold cutL
        rw [List.length_take, e63]
        omega
      have m1 : op2 .mod (.int (k : Int)) (.int 1) = some (.int 0) := by rw [o_mod (by omega)]; congr 2; omega
      have m2 : op2 .mul (.int v) (.int ((k : Int) + 2)) = some (.int (v * ((k : Int) + 2))) := o_mulr (b64_of (by omega) (by omega))
      have i0 : op2 .ix (.lst [.int x]) (.int 0) = some (.int x) := rfl
      have s0 : ∀ y : D, setAt [.int x] y 0 = some [y] := fun y => rfl
      refine ⟨_, [.fz (.ro ns), .fz (.int 1), .ow [.int (x + v * ((k : Int) + 2))], .fz (.int (k : Int)), .fz (.int v), .fz (.int 0)], rfl, ?_, _, _, _, _, rfl⟩
      simp [q__law_cells_1b, evS, evE, startE, endS, endFl, endIo, R.one, R.all, R.tst, R.bind, ifI, ifL, ifS, O.view, O.still, Sl.d, Sl.own, freezeO, Env.freeze, freezeL, wipeE, backE, store, ownD, afterCall, afterIo, resO, newOp, scalar, thenF, opSem, compEnd, bind1, seqOf, cmpI, kindD, mtOk, O.isSl, O.anySl, parStore, itSem, it1, it2, anyOf, cap, at0, at1, at2, at3, at4, at5, at6, o_add, o_sub, o_mulr, o_lt, o_le, o_gt, o_ge, o_len_t, o_len_l, o_len_r, o_abs, o_int, o_intb, o_min, o_isn, o_isnn, o_neg, i_int_0, i_int_1, i_int_3, i_int_4, i_int_34, i_int_12, i_int_2, i_bl_0, i_bl_1, i_bl_3, i_bl_4, i_bl_34, i_bl_12, i_bl_2, i_tup_0, i_tup_1, i_tup_3, i_tup_4, i_tup_34, i_tup_12, i_tup_2, i_lst_0, i_lst_1, i_lst_3, i_lst_4, i_lst_34, i_lst_12, i_lst_2, i_non_0, i_non_1, i_non_3, i_non_4, i_non_34, i_non_12, i_non_2, o_eqi, o_nei, m1, m2, i0, s0]) (env := [.fz (.ro ns), .fz (.int 1), .ow [.int c0], .no, .no, .no]) ⟨c0, .no, .no, .no, rfl⟩
    obtain ⟨x, a, b, c, rfl⟩ := h2
    refine ⟨x, a, b, c, for_at (os := [.fr (.lst (nI (cutL ns (some 1) (some 63))))]) (e1 := [.fz (.ro ns), .fz (.int 1), .ow [.int c0], .no, .no, .no]) ?_ rfl h1⟩
    have e1 : cutD (.ro ns) (some 1) (some 63) = some (.lst (nI (cutL ns (some 1) (some 63)))) := rfl
    simp [q__law_cells_1s, evS, evE, startE, endS, endFl, endIo, R.one, R.all, R.tst, R.bind, ifI, ifL, ifS, O.view, O.still, Sl.d, Sl.own, freezeO, Env.freeze, freezeL, wipeE, backE, store, ownD, afterCall, afterIo, resO, newOp, scalar, thenF, opSem, compEnd, bind1, seqOf, cmpI, kindD, mtOk, O.isSl, O.anySl, parStore, itSem, it1, it2, anyOf, cap, at0, at1, at2, at3, at4, at5, at6, o_add, o_sub, o_mulr, o_lt, o_le, o_gt, o_ge, o_len_t, o_len_l, o_len_r, o_abs, o_int, o_intb, o_min, o_isn, o_isnn, o_neg, i_int_0, i_int_1, i_int_3, i_int_4, i_int_34, i_int_12, i_int_2, i_bl_0, i_bl_1, i_bl_3, i_bl_4, i_bl_34, i_bl_12, i_bl_2, i_tup_0, i_tup_1, i_tup_3, i_tup_4, i_tup_34, i_tup_12, i_tup_2, i_lst_0, i_lst_1, i_lst_3, i_lst_4, i_lst_34, i_lst_12, i_lst_2, i_non_0, i_non_1, i_non_3, i_non_4, i_non_34, i_non_12, i_non_2, o_eqi, o_nei, e1]
  obtain ⟨x, a, b, c, e⟩ := e
  refine ⟨x, ?_⟩
  simp only [ir__law_cells, startE, evS]
  have hs : (match false, [D.ro ns, D.int 1] with
      | true, .lst xs :: r => Sl.ow xs :: r.map Sl.fz
      | _, _ => [D.ro ns, D.int 1].map Sl.fz) ++ List.replicate (6 - 2) Sl.no = [.fz (.ro ns), .fz (.int 1), .no, .no, .no, .no] := rfl
  rw [hs, hc]
  simp [evS, evE, startE, endS, endFl, endIo, R.one, R.all, R.tst, R.bind, ifI, ifL, ifS, O.view, O.still, Sl.d, Sl.own, freezeO, Env.freeze, freezeL, wipeE, backE, store, ownD, afterCall, afterIo, resO, newOp, scalar, thenF, opSem, compEnd, bind1, seqOf, cmpI, kindD, mtOk, O.isSl, O.anySl, parStore, itSem, it1, it2, anyOf, cap, at0, at1, at2, at3, at4, at5, at6, o_add, o_sub, o_mulr, o_lt, o_le, o_gt, o_ge, o_len_t, o_len_l, o_len_r, o_abs, o_int, o_intb, o_min, o_isn, o_isnn, o_neg, i_int_0, i_int_1, i_int_3, i_int_4, i_int_34, i_int_12, i_int_2, i_bl_0, i_bl_1, i_bl_3, i_bl_4, i_bl_34, i_bl_12, i_bl_2, i_tup_0, i_tup_1, i_tup_3, i_tup_4, i_tup_34, i_tup_12, i_tup_2, i_lst_0, i_lst_1, i_lst_3, i_lst_4, i_lst_34, i_lst_12, i_lst_2, i_non_0, i_non_1, i_non_3, i_non_4, i_non_34, i_non_12, i_non_2, o_eqi, o_nei, e]
mutual
def sd : Nat → D → Bool
  | _, .non => true
  | _, .bl _ => true
  | _, .int _ => true
  | _, .str _ => true
  | n + 1, .tup ds => Nat.ble ds.length cap && sds n ds
  | n + 1, .lst ds => Nat.ble ds.length cap && sds n ds
  | _, _ => false
def sds : Nat → List D → Bool
  | _, [] => true
  | n, d :: ds => sd n d && sds n ds
end
theorem sds_mem {m : Nat} : ∀ {ds : List D}, sds m ds = true → ∀ d ∈ ds, sd m d = true
  | [], _, d, h => by cases h
  | x :: xs, h, d, hd => by
    rw [sds, Bool.and_eq_true] at h
    rcases List.mem_cons.mp hd with rfl | hd
    · exact h.1
    · exact sds_mem h.2 d hd
theorem sds_of {m : Nat} : ∀ {ds : List D}, (∀ d ∈ ds, sd m d = true) → sds m ds = true
  | [], _ => by cases m <;> rfl
  | x :: xs, h => by
    rw [sds, h x List.mem_cons_self, sds_of fun d hd => h d (List.mem_cons_of_mem _ hd)]
    rfl
theorem zip_self : ∀ ds : List D, zipD ds ds = ds.map fun d => D.tup [d, d]
  | [] => rfl
  | d :: ds => by rw [zipD, zip_self ds]; rfl
theorem i_str_0 {x : Str} : op1 (.isi [0]) (.str x) = some (.bl false) := rfl
theorem i_str_1 {x : Str} : op1 (.isi [1]) (.str x) = some (.bl false) := rfl
theorem i_str_2 {x : Str} : op1 (.isi [2]) (.str x) = some (.bl true) := rfl
theorem i_str_12 {x : Str} : op1 (.isi [1, 2]) (.str x) = some (.bl true) := rfl
theorem i_str_34 {x : Str} : op1 (.isi [3, 4]) (.str x) = some (.bl false) := rfl
theorem o_eqb {a b : Bool} : op2 .eq (.bl a) (.bl b) = some (.bl (a == b)) := rfl
theorem o_neb {a b : Bool} : op2 .ne (.bl a) (.bl b) = some (.bl (!(a == b))) := rfl
theorem o_eqs {x : Str} : op2 .eq (.str x) (.str x) = some (.bl true) := by
  rw [o_eq rfl rfl]
  show some (D.bl (decide (x = x))) = _
  rw [decide_eq_true rfl]
theorem all_true (k : Nat) : op1 .all (.lst (List.replicate k (.bl true))) = some (.bl true) := by
  have := o_all (bs := List.replicate k true)
  rw [List.map_replicate] at this
  rw [this]
  congr 2
  rw [List.all_eq_true]
  intro b hb
  exact (List.mem_replicate.mp hb).2
theorem ev_same : ∀ (m : Nat) (d : D), sd m d = true → ∀ n, ev (n + m + 1) kn__law_same [d, d] = .ok (.bl true) false []
  | m, .non, h, n => by rw [ev_step tb__law_same rfl]; simp [ir__law_same, evS, evE, startE, endS, endFl, endIo, R.one, R.all, R.tst, R.bind, ifI, ifL, ifS, O.view, O.still, Sl.d, Sl.own, freezeO, Env.freeze, freezeL, wipeE, backE, store, ownD, afterCall, afterIo, resO, newOp, scalar, thenF, opSem, compEnd, bind1, seqOf, cmpI, kindD, mtOk, O.isSl, O.anySl, parStore, itSem, it1, it2, anyOf, cap, at0, at1, at2, at3, at4, at5, at6, o_add, o_sub, o_mulr, o_lt, o_le, o_gt, o_ge, o_len_t, o_len_l, o_len_r, o_abs, o_int, o_intb, o_min, o_isn, o_isnn, o_neg, i_int_0, i_int_1, i_int_3, i_int_4, i_int_34, i_int_12, i_int_2, i_bl_0, i_bl_1, i_bl_3, i_bl_4, i_bl_34, i_bl_12, i_bl_2, i_tup_0, i_tup_1, i_tup_3, i_tup_4, i_tup_34, i_tup_12, i_tup_2, i_lst_0, i_lst_1, i_lst_3, i_lst_4, i_lst_34, i_lst_12, i_lst_2, i_non_0, i_non_1, i_non_3, i_non_4, i_non_34, i_non_12, i_non_2, o_eqi, o_nei, isNonD]
  | m, .bl b, h, n => by rw [ev_step tb__law_same rfl]; simp [ir__law_same, evS, evE, startE, endS, endFl, endIo, R.one, R.all, R.tst, R.bind, ifI, ifL, ifS, O.view, O.still, Sl.d, Sl.own, freezeO, Env.freeze, freezeL, wipeE, backE, store, ownD, afterCall, afterIo, resO, newOp, scalar, thenF, opSem, compEnd, bind1, seqOf, cmpI, kindD, mtOk, O.isSl, O.anySl, parStore, itSem, it1, it2, anyOf, cap, at0, at1, at2, at3, at4, at5, at6, o_add, o_sub, o_mulr, o_lt, o_le, o_gt, o_ge, o_len_t, o_len_l, o_len_r, o_abs, o_int, o_intb, o_min, o_isn, o_isnn, o_neg, i_int_0, i_int_1, i_int_3, i_int_4, i_int_34, i_int_12, i_int_2, i_bl_0, i_bl_1, i_bl_3, i_bl_4, i_bl_34, i_bl_12, i_bl_2, i_tup_0, i_tup_1, i_tup_3, i_tup_4, i_tup_34, i_tup_12, i_tup_2, i_lst_0, i_lst_1, i_lst_3, i_lst_4, i_lst_34, i_lst_12, i_lst_2, i_non_0, i_non_1, i_non_3, i_non_4, i_non_34, i_non_12, i_non_2, o_eqi, o_nei, isNonD, o_eqb]
  | m, .int i, h, n => by rw [ev_step tb__law_same rfl]; simp [ir__law_same, evS, evE, startE, endS, endFl, endIo, R.one, R.all, R.tst, R.bind, ifI, ifL, ifS, O.view, O.still, Sl.d, Sl.own, freezeO, Env.freeze, freezeL, wipeE, backE, store, ownD, afterCall, afterIo, resO, newOp, scalar, thenF, opSem, compEnd, bind1, seqOf, cmpI, kindD, mtOk, O.isSl, O.anySl, parStore, itSem, it1, it2, anyOf, cap, at0, at1, at2, at3, at4, at5, at6, o_add, o_sub, o_mulr, o_lt, o_le, o_gt, o_ge, o_len_t, o_len_l, o_len_r, o_abs, o_int, o_intb, o_min, o_isn, o_isnn, o_neg, i_int_0, i_int_1, i_int_3, i_int_4, i_int_34, i_int_12, i_int_2, i_bl_0, i_bl_1, i_bl_3, i_bl_4, i_bl_34, i_bl_12, i_bl_2, i_tup_0, i_tup_1, i_tup_3, i_tup_4, i_tup_34, i_tup_12, i_tup_2, i_lst_0, i_lst_1, i_lst_3, i_lst_4, i_lst_34, i_lst_12, i_lst_2, i_non_0, i_non_1, i_non_3, i_non_4, i_non_34, i_non_12, i_non_2, o_eqi, o_nei, isNonD]
  | m, .str x, h, n => by rw [ev_step tb__law_same rfl]; simp [ir__law_same, evS, evE, startE, endS, endFl, endIo, R.one, R.all, R.tst, R.bind, ifI, ifL, ifS, O.view, O.still, Sl.d, Sl.own, freezeO, Env.freeze, freezeL, wipeE, backE, store, ownD, afterCall, afterIo, resO, newOp, scalar, thenF, opSem, compEnd, bind1, seqOf, cmpI, kindD, mtOk, O.isSl, O.anySl, parStore, itSem, it1, it2, anyOf, cap, at0, at1, at2, at3, at4, at5, at6, o_add, o_sub, o_mulr, o_lt, o_le, o_gt, o_ge, o_len_t, o_len_l, o_len_r, o_abs, o_int, o_intb, o_min, o_isn, o_isnn, o_neg, i_int_0, i_int_1, i_int_3, i_int_4, i_int_34, i_int_12, i_int_2, i_bl_0, i_bl_1, i_bl_3, i_bl_4, i_bl_34, i_bl_12, i_bl_2, i_tup_0, i_tup_1, i_tup_3, i_tup_4, i_tup_34, i_tup_12, i_tup_2, i_lst_0, i_lst_1, i_lst_3, i_lst_4, i_lst_34, i_lst_12, i_lst_2, i_non_0, i_non_1, i_non_3, i_non_4, i_non_34, i_non_12, i_non_2, o_eqi, o_nei, isNonD, i_str_0, i_str_1, i_str_2, i_str_12, i_str_34, o_eqb, o_eqs]
  | 0, .tup ds, h, n => by cases h
  | 0, .lst ds, h, n => by cases h
  | m + 1, .tup ds, h, n => by
    rw [sd, Bool.and_eq_true, Nat.ble_eq] at h
    rw [ev_step tb__law_same rfl]
    have e : evE (C (n + (m + 1))) q__law_same_1 [.fz (.tup ds), .fz (.tup ds), .no, .no] = .ok [.fr (.lst (ds.map fun _ => .bl true))] [.fz (.tup ds), .fz (.tup ds), .no, .no] :=
      comp_tm (own := [2, 3]) (os := [.fz (.tup ds), .fz (.tup ds)]) ds (fun d => D.tup [d, d]) (fun _ => .bl true) (by simp [q__law_same_1s, evS, evE, startE, endS, endFl, endIo, R.one, R.all, R.tst, R.bind, ifI, ifL, ifS, O.view, O.still, Sl.d, Sl.own, freezeO, Env.freeze, freezeL, wipeE, backE, store, ownD, afterCall, afterIo, resO, newOp, scalar, thenF, opSem, compEnd, bind1, seqOf, cmpI, kindD, mtOk, O.isSl, O.anySl, parStore, itSem, it1, it2, anyOf, cap, at0, at1, at2, at3, at4, at5, at6, o_add, o_sub, o_mulr, o_lt, o_le, o_gt, o_ge, o_len_t, o_len_l, o_len_r, o_abs, o_int, o_intb, o_min, o_isn, o_isnn, o_neg, i_int_0, i_int_1, i_int_3, i_int_4, i_int_34, i_int_12, i_int_2, i_bl_0, i_bl_1, i_bl_3, i_bl_4, i_bl_34, i_bl_12, i_bl_2, i_tup_0, i_tup_1, i_tup_3, i_tup_4, i_tup_34, i_tup_12, i_tup_2, i_lst_0, i_lst_1, i_lst_3, i_lst_4, i_lst_34, i_lst_12, i_lst_2, i_non_0, i_non_1, i_non_3, i_non_4, i_non_34, i_non_12, i_non_2, o_eqi, o_nei]) (by show some (zipD ds ds) = _; rw [zip_self]) rfl rfl rfl (fun d hd => by
        have ih := ev_same m d (sds_mem h.2 d hd) n
        exact ⟨[.fz (.tup ds), .fz (.tup ds), .fz d, .fz d], rfl, ⟨.fz (.bl true), by simp [q__law_same_1e, evS, evE, startE, endS, endFl, endIo, R.one, R.all, R.tst, R.bind, ifI, ifL, ifS, O.view, O.still, Sl.d, Sl.own, freezeO, Env.freeze, freezeL, wipeE, backE, store, ownD, afterCall, afterIo, resO, newOp, scalar, thenF, opSem, compEnd, bind1, seqOf, cmpI, kindD, mtOk, O.isSl, O.anySl, parStore, itSem, it1, it2, anyOf, cap, at0, at1, at2, at3, at4, at5, at6, o_add, o_sub, o_mulr, o_lt, o_le, o_gt, o_ge, o_len_t, o_len_l, o_len_r, o_abs, o_int, o_intb, o_min, o_isn, o_isnn, o_neg, i_int_0, i_int_1, i_int_3, i_int_4, i_int_34, i_int_12, i_int_2, i_bl_0, i_bl_1, i_bl_3, i_bl_4, i_bl_34, i_bl_12, i_bl_2, i_tup_0, i_tup_1, i_tup_3, i_tup_4, i_tup_34, i_tup_12, i_tup_2, i_lst_0, i_lst_1, i_lst_3, i_lst_4, i_lst_34, i_lst_12, i_lst_2, i_non_0, i_non_1, i_non_3, i_non_4, i_non_34, i_non_12, i_non_2, o_eqi, o_nei, io__law_same, ← Nat.add_assoc, ih], rfl, rfl⟩, rfl⟩) rfl h.1
    rw [List.map_const'] at e
    have e2 := all_true ds.length
    simp [ir__law_same, evS, evE, startE, endS, endFl, endIo, R.one, R.all, R.tst, R.bind, ifI, ifL, ifS, O.view, O.still, Sl.d, Sl.own, freezeO, Env.freeze, freezeL, wipeE, backE, store, ownD, afterCall, afterIo, resO, newOp, scalar, thenF, opSem, compEnd, bind1, seqOf, cmpI, kindD, mtOk, O.isSl, O.anySl, parStore, itSem, it1, it2, anyOf, cap, at0, at1, at2, at3, at4, at5, at6, o_add, o_sub, o_mulr, o_lt, o_le, o_gt, o_ge, o_len_t, o_len_l, o_len_r, o_abs, o_int, o_intb, o_min, o_isn, o_isnn, o_neg, i_int_0, i_int_1, i_int_3, i_int_4, i_int_34, i_int_12, i_int_2, i_bl_0, i_bl_1, i_bl_3, i_bl_4, i_bl_34, i_bl_12, i_bl_2, i_tup_0, i_tup_1, i_tup_3, i_tup_4, i_tup_34, i_tup_12, i_tup_2, i_lst_0, i_lst_1, i_lst_3, i_lst_4, i_lst_34, i_lst_12, i_lst_2, i_non_0, i_non_1, i_non_3, i_non_4, i_non_34, i_non_12, i_non_2, o_eqi, o_nei, e, e2, o_neb]
  | m + 1, .lst ds, h, n => by
    rw [sd, Bool.and_eq_true, Nat.ble_eq] at h
    rw [ev_step tb__law_same rfl]
    have e : evE (C (n + (m + 1))) q__law_same_1 [.fz (.lst ds), .fz (.lst ds), .no, .no] = .ok [.fr (.lst (ds.map fun _ => .bl true))] [.fz (.lst ds), .fz (.lst ds), .no, .no] :=
      comp_tm (own := [2, 3]) (os := [.fz (.lst ds), .fz (.lst ds)]) ds (fun d => D.tup [d, d]) (fun _ => .bl true) (by simp [q__law_same_1s, evS, evE, startE, endS, endFl, endIo, R.one, R.all, R.tst, R.bind, ifI, ifL, ifS, O.view, O.still, Sl.d, Sl.own, freezeO, Env.freeze, freezeL, wipeE, backE, store, ownD, afterCall, afterIo, resO, newOp, scalar, thenF, opSem, compEnd, bind1, seqOf, cmpI, kindD, mtOk, O.isSl, O.anySl, parStore, itSem, it1, it2, anyOf, cap, at0, at1, at2, at3, at4, at5, at6, o_add, o_sub, o_mulr, o_lt, o_le, o_gt, o_ge, o_len_t, o_len_l, o_len_r, o_abs, o_int, o_intb, o_min, o_isn, o_isnn, o_neg, i_int_0, i_int_1, i_int_3, i_int_4, i_int_34, i_int_12, i_int_2, i_bl_0, i_bl_1, i_bl_3, i_bl_4, i_bl_34, i_bl_12, i_bl_2, i_tup_0, i_tup_1, i_tup_3, i_tup_4, i_tup_34, i_tup_12, i_tup_2, i_lst_0, i_lst_1, i_lst_3, i_lst_4, i_lst_34, i_lst_12, i_lst_2, i_non_0, i_non_1, i_non_3, i_non_4, i_non_34, i_non_12, i_non_2, o_eqi, o_nei]) (by show some (zipD ds ds) = _; rw [zip_self]) rfl rfl rfl (fun d hd => by
        have ih := ev_same m d (sds_mem h.2 d hd) n
        exact ⟨[.fz (.lst ds), .fz (.lst ds), .fz d, .fz d], rfl, ⟨.fz (.bl true), by simp [q__law_same_1e, evS, evE, startE, endS, endFl, endIo, R.one, R.all, R.tst, R.bind, ifI, ifL, ifS, O.view, O.still, Sl.d, Sl.own, freezeO, Env.freeze, freezeL, wipeE, backE, store, ownD, afterCall, afterIo, resO, newOp, scalar, thenF, opSem, compEnd, bind1, seqOf, cmpI, kindD, mtOk, O.isSl, O.anySl, parStore, itSem, it1, it2, anyOf, cap, at0, at1, at2, at3, at4, at5, at6, o_add, o_sub, o_mulr, o_lt, o_le, o_gt, o_ge, o_len_t, o_len_l, o_len_r, o_abs, o_int, o_intb, o_min, o_isn, o_isnn, o_neg, i_int_0, i_int_1, i_int_3, i_int_4, i_int_34, i_int_12, i_int_2, i_bl_0, i_bl_1, i_bl_3, i_bl_4, i_bl_34, i_bl_12, i_bl_2, i_tup_0, i_tup_1, i_tup_3, i_tup_4, i_tup_34, i_tup_12, i_tup_2, i_lst_0, i_lst_1, i_lst_3, i_lst_4, i_lst_34, i_lst_12, i_lst_2, i_non_0, i_non_1, i_non_3, i_non_4, i_non_34, i_non_12, i_non_2, o_eqi, o_nei, io__law_same, ← Nat.add_assoc, ih], rfl, rfl⟩, rfl⟩) rfl h.1
    rw [List.map_const'] at e
    have e2 := all_true ds.length
    simp [ir__law_same, evS, evE, startE, endS, endFl, endIo, R.one, R.all, R.tst, R.bind, ifI, ifL, ifS, O.view, O.still, Sl.d, Sl.own, freezeO, Env.freeze, freezeL, wipeE, backE, store, ownD, afterCall, afterIo, resO, newOp, scalar, thenF, opSem, compEnd, bind1, seqOf, cmpI, kindD, mtOk, O.isSl, O.anySl, parStore, itSem, it1, it2, anyOf, cap, at0, at1, at2, at3, at4, at5, at6, o_add, o_sub, o_mulr, o_lt, o_le, o_gt, o_ge, o_len_t, o_len_l, o_len_r, o_abs, o_int, o_intb, o_min, o_isn, o_isnn, o_neg, i_int_0, i_int_1, i_int_3, i_int_4, i_int_34, i_int_12, i_int_2, i_bl_0, i_bl_1, i_bl_3, i_bl_4, i_bl_34, i_bl_12, i_bl_2, i_tup_0, i_tup_1, i_tup_3, i_tup_4, i_tup_34, i_tup_12, i_tup_2, i_lst_0, i_lst_1, i_lst_3, i_lst_4, i_lst_34, i_lst_12, i_lst_2, i_non_0, i_non_1, i_non_3, i_non_4, i_non_34, i_non_12, i_non_2, o_eqi, o_nei, e, e2, o_neb]

open Classical in
noncomputable def f__law_take (s : St) (b : Int) : Option (Int × St) :=
  if h : s.n ≤ 1000000 ∧ 0 < b ∧ b < 1000000 then
    some (choose (ev_take 0 s.n s.l s.ok h.1 b h.2.1 h.2.2), ⟨choose (choose_spec (ev_take 0 s.n s.l s.ok h.1 b h.2.1 h.2.2)), s.n + 1, (choose_spec (choose_spec (ev_take 0 s.n s.l s.ok h.1 b h.2.1 h.2.2))).2.1⟩)
  else none
theorem take_n {n : Nat} {t : List D} {b : Int} (hn : 1 ≤ n) {r : CR} (h : ev 1 kn__law_take [.lst t, .int b] = r) (hT : ∃ N, Tin N t ∧ N ≤ 1000000) (h1 : 0 < b) (h2 : b < 1000000) : ev n kn__law_take [.lst t, .int b] = r := by
  obtain ⟨n, rfl⟩ : ∃ k, n = k + 1 := ⟨n - 1, by omega⟩
  rw [← h, ev_step tb__law_take rfl, ev_step tb__law_take rfl]
  obtain ⟨N, ⟨x, y, z, rfl, z0, z1⟩, hN⟩ := hT
  by_cases hx : 0 < x
  · have e1 := o_mod (i := x) h1
    have e2 := o_fdiv (i := x) h1 (by omega)
    simp [ir__law_take, evS, evE, startE, endS, endFl, endIo, R.one, R.all, R.tst, R.bind, ifI, ifL, ifS, O.view, O.still, Sl.d, Sl.own, freezeO, Env.freeze, freezeL, wipeE, backE, store, ownD, afterCall, afterIo, resO, newOp, scalar, thenF, opSem, compEnd, bind1, seqOf, cmpI, kindD, mtOk, O.isSl, O.anySl, parStore, itSem, it1, it2, anyOf, cap, at0, at1, at2, at3, at4, at5, at6, o_add, o_sub, o_mulr, o_lt, o_le, o_gt, o_ge, o_len_t, o_len_l, o_len_r, o_abs, o_int, o_intb, o_min, o_isn, o_isnn, o_neg, i_int_0, i_int_1, i_int_3, i_int_4, i_int_34, i_int_12, i_int_2, i_bl_0, i_bl_1, i_bl_3, i_bl_4, i_bl_34, i_bl_12, i_bl_2, i_tup_0, i_tup_1, i_tup_3, i_tup_4, i_tup_34, i_tup_12, i_tup_2, i_lst_0, i_lst_1, i_lst_3, i_lst_4, i_lst_34, i_lst_12, i_lst_2, i_non_0, i_non_1, i_non_3, i_non_4, i_non_34, i_non_12, i_non_2, o_eqi, o_nei, ix30, ix31, ix32, set30, hx, e1, e2]
  · generalize hA : (y + 48271 * (z + 1)) * (39373 + (z + 1)) % 2147483647 = A
    generalize hB : A % 40009 + 7 = B
    generalize hC : (A + (z + 1) + y / 1000003) * B % 2147483629 = Cc
    have m1 : op2 .mul (.int 48271) (.int (z + 1)) = some (.int (48271 * (z + 1))) := o_mull rfl
    have m2 : op2 .mul (.int (y + 48271 * (z + 1))) (.int (39373 + (z + 1))) = some (.int ((y + 48271 * (z + 1)) * (39373 + (z + 1)))) := o_mulr (b64_of (by omega) (by omega))
    have m3 : op2 .mod (.int ((y + 48271 * (z + 1)) * (39373 + (z + 1)))) (.int 2147483647) = some (.int A) := by rw [o_mod (by omega), hA]
    have m4 : op2 .mod (.int A) (.int 40009) = some (.int (A % 40009)) := o_mod (by omega)
    have m5 : op2 .fdiv (.int y) (.int 1000003) = some (.int (y / 1000003)) := o_fdiv (by omega) (by omega)
    have hBb : 7 ≤ B ∧ B < 40016 := by omega
    have m6 : op2 .mul (.int (A + (z + 1) + y / 1000003)) (.int B) = some (.int ((A + (z + 1) + y / 1000003) * B)) := o_mulr (b64_of (by omega) (by omega))
    have m7 : op2 .mod (.int ((A + (z + 1) + y / 1000003) * B)) (.int 2147483629) = some (.int Cc) := by rw [o_mod (by omega), hC]
    have m8 : op2 .mul (.int Cc) (.int 48271) = some (.int (Cc * 48271)) := o_mulr rfl
    have m9 : op2 .mod (.int (Cc * 48271 + A)) (.int 2147483587) = some (.int ((Cc * 48271 + A) % 2147483587)) := o_mod (by omega)
    have m10 : op2 .fdiv (.int ((Cc * 48271 + A) % 2147483587)) (.int 64) = some (.int ((Cc * 48271 + A) % 2147483587 / 64)) := o_fdiv (by omega) (by omega)
    have m11 := o_mod (i := (Cc * 48271 + A) % 2147483587 / 64) h1
    simp [ir__law_take, evS, evE, startE, endS, endFl, endIo, R.one, R.all, R.tst, R.bind, ifI, ifL, ifS, O.view, O.still, Sl.d, Sl.own, freezeO, Env.freeze, freezeL, wipeE, backE, store, ownD, afterCall, afterIo, resO, newOp, scalar, thenF, opSem, compEnd, bind1, seqOf, cmpI, kindD, mtOk, O.isSl, O.anySl, parStore, itSem, it1, it2, anyOf, cap, at0, at1, at2, at3, at4, at5, at6, o_add, o_sub, o_mulr, o_lt, o_le, o_gt, o_ge, o_len_t, o_len_l, o_len_r, o_abs, o_int, o_intb, o_min, o_isn, o_isnn, o_neg, i_int_0, i_int_1, i_int_3, i_int_4, i_int_34, i_int_12, i_int_2, i_bl_0, i_bl_1, i_bl_3, i_bl_4, i_bl_34, i_bl_12, i_bl_2, i_tup_0, i_tup_1, i_tup_3, i_tup_4, i_tup_34, i_tup_12, i_tup_2, i_lst_0, i_lst_1, i_lst_3, i_lst_4, i_lst_34, i_lst_12, i_lst_2, i_non_0, i_non_1, i_non_3, i_non_4, i_non_34, i_non_12, i_non_2, o_eqi, o_nei, ix30, ix31, ix32, set32, hx, m1, m2, m3, m4, hB, m5, m6, m7, m8, m9, m10, m11]
open Classical in
theorem w__law_take (m : Nat) (hm : 1 ≤ m) (tin : St) (b : Int) {r : Int × St} (h : f__law_take tin b = some r) : evFn tb 1000 m kn__law_take [.lst tin.l, .int b] = .ok (.int r.1) false r.2.l := by
  unfold f__law_take at h
  split at h
  · next q =>
    cases h
    exact take_n hm (choose_spec (choose_spec (ev_take 0 tin.n tin.l tin.ok q.1 b q.2.1 q.2.2))).1 ⟨_, tin.ok, q.1⟩ q.2.1 q.2.2
  · cases h
open Classical in
theorem take_some (s : St) (b : Int) (h : s.n ≤ 1000000) (h1 : 0 < b) (h2 : b < 1000000) : ∃ v s', f__law_take s b = some (v, s') ∧ 0 ≤ v ∧ v < b ∧ s'.n = s.n + 1 := by
  unfold f__law_take
  rw [dif_pos ⟨h, h1, h2⟩]
  have q := choose_spec (choose_spec (ev_take 0 s.n s.l s.ok h b h1 h2))
  exact ⟨_, _, rfl, q.2.2.1, q.2.2.2, rfl⟩
theorem box_lv (m n : Nat) (x : Int) : endS ir__law_box (evS (C m) ir__law_box.body (startE ir__law_box [.lst [.int x], .int 0])) = ev (n + 1) kn__law_box [.lst [.int x], .int 0] := by
  rw [ev_step tb__law_box rfl]
  generalize hA : (if x < 0 then -x else x) = A
  have p : op2 .pow (.int 10) (.int 18) = some (.int 1000000000000000000) := rfl
  have i0 : op2 .ix (.lst [.int x]) (.int 0) = some (.int x) := rfl
  have m1 : op2 .mul (.int A) (.int (if (1000000000000000000 : Int) ≤ A then 1 else 0)) = some (.int (A * (if (1000000000000000000 : Int) ≤ A then 1 else 0))) := o_mulr (by by_cases h : (1000000000000000000 : Int) ≤ A <;> simp [h] <;> rfl)
  have m2 : op2 .mod (.int x) (.int 2305843009213693951) = some (.int (x % 2305843009213693951)) := o_mod (by omega)
  have m3 : op2 .mul (.int 39373) (.int 0) = some (.int 0) := rfl
  simp [ir__law_box, evS, evE, startE, endS, endFl, endIo, R.one, R.all, R.tst, R.bind, ifI, ifL, ifS, O.view, O.still, Sl.d, Sl.own, freezeO, Env.freeze, freezeL, wipeE, backE, store, ownD, afterCall, afterIo, resO, newOp, scalar, thenF, opSem, compEnd, bind1, seqOf, cmpI, kindD, mtOk, O.isSl, O.anySl, parStore, itSem, it1, it2, anyOf, cap, at0, at1, at2, at3, at4, at5, at6, o_add, o_sub, o_mulr, o_lt, o_le, o_gt, o_ge, o_len_t, o_len_l, o_len_r, o_abs, o_int, o_intb, o_min, o_isn, o_isnn, o_neg, i_int_0, i_int_1, i_int_3, i_int_4, i_int_34, i_int_12, i_int_2, i_bl_0, i_bl_1, i_bl_3, i_bl_4, i_bl_34, i_bl_12, i_bl_2, i_tup_0, i_tup_1, i_tup_3, i_tup_4, i_tup_34, i_tup_12, i_tup_2, i_lst_0, i_lst_1, i_lst_3, i_lst_4, i_lst_34, i_lst_12, i_lst_2, i_non_0, i_non_1, i_non_3, i_non_4, i_non_34, i_non_12, i_non_2, o_eqi, o_nei, i0, hA, p, m1, m2, m3]
open Classical in
noncomputable def f__law_box (cells : List Int) (k : Int) : Option St := match cells with
  | [x] => if k = 0 then some ⟨choose (ev_box 0 x), 0, (choose_spec (ev_box 0 x)).2⟩ else none
  | _ => none
open Classical in
theorem w__law_box (m : Nat) (hm : 1 ≤ m) (cells : List Int) (k : Int) {r : St} (h : f__law_box cells k = some r) : evFn tb 1000 m kn__law_box [eL D.int cells, .int k] = .ok (.lst r.l) true [] := by
  obtain ⟨m, rfl⟩ : ∃ k, m = k + 1 := ⟨m - 1, by omega⟩
  match cells, h with
  | [x], h =>
    have h : (if k = 0 then some (⟨choose (ev_box 0 x), 0, (choose_spec (ev_box 0 x)).2⟩ : St) else none) = some r := h
    split at h
    · next q =>
      subst q
      have e := (choose_spec (ev_box 0 x)).1
      cases h
      rw [← e]
      exact (ev_step tb__law_box rfl).trans (box_lv _ _ _)
    · cases h
open Classical in
theorem box_some (x : Int) : ∃ s, f__law_box [x] 0 = some s ∧ s.n = 0 := ⟨_, (if_pos rfl : (if (0 : Int) = 0 then some (⟨choose (ev_box 0 x), 0, (choose_spec (ev_box 0 x)).2⟩ : St) else none) = _), rfl⟩
theorem cells_lv (m : Nat) (ns : List Int) : evS (C m) ir__law_cells.body (startE ir__law_cells [.ro ns, .int 1]) = evS (C 0) ir__law_cells.body (startE ir__law_cells [.ro ns, .int 1]) := rfl
open Classical in
noncomputable def f__law_cells (ns : List Int) (k : Int) : Option (List Int) := if k = 1 then some [choose (ev_cells1 0 ns)] else none
open Classical in
theorem w__law_cells (m : Nat) (hm : 1 ≤ m) (ns : List Int) (k : Int) {r : List Int} (h : f__law_cells ns k = some r) : evFn tb 1000 m kn__law_cells [.ro ns, .int k] = .ok (eL D.int r) true [] := by
  unfold f__law_cells at h
  split at h
  · next q =>
    subst q
    cases h
    have e := choose_spec (ev_cells1 0 ns)
    obtain ⟨m, rfl⟩ : ∃ k, m = k + 1 := ⟨m - 1, by omega⟩
    show _ = CR.ok (.lst [.int (choose (ev_cells1 0 ns))]) true []
    rw [← e]
    refine (ev_step tb__law_cells rfl).trans (Eq.trans ?_ (ev_step tb__law_cells rfl).symm)
    exact congrArg (endS ir__law_cells) (cells_lv m ns)
  · cases h
theorem cells_some (ns : List Int) : ∃ x, f__law_cells ns 1 = some [x] := ⟨_, rfl⟩
open Classical in
noncomputable def f__law_same (x y : D) : Option Bool := if x = y ∧ sd 8 x = true then some true else none
theorem w__law_same (m : Nat) (hm : 9 ≤ m) (x y : D) {r : Bool} (h : f__law_same x y = some r) : evFn tb 1000 m kn__law_same [eD x, eD y] = .ok (.bl r) false [] := by
  unfold f__law_same at h
  split at h
  · next q =>
    obtain ⟨rfl, q⟩ := q
    cases h
    have e := ev_same 8 x q (m - 9)
    rw [show m - 9 + 8 + 1 = m by omega] at e
    exact e
  · cases h
theorem same_some {x y : D} (h : x = y) (h2 : sd 8 x = true) : f__law_same x y = some true := by
  unfold f__law_same
  rw [if_pos ⟨h, h2⟩]
def tupD : Nat → D → Option D
  | 0, d => if scalar d = true then some d else none
  | n + 1, .tup ds => (compM (fun _ => some true) (tupD n) ds).map D.tup
  | n + 1, .lst ds => (compM (fun _ => some true) (tupD n) ds).map D.tup
  | n + 1, d => if scalar d = true then some d else none
theorem tupled_sc (m : Nat) (hm : 1 ≤ m) (d : D) (h : scalar d = true) : evFn tb 1000 m kn_tupled [d] = .ok d false [] := by
  obtain ⟨m, rfl⟩ : ∃ k, m = k + 1 := ⟨m - 1, by omega⟩
  refine (ev_step tb_tupled rfl).trans ?_
  cases d <;> first | cases h | skip
  all_goals simp [ir_tupled, evS, evE, startE, endS, endFl, endIo, R.one, R.all, R.tst, R.bind, ifI, ifL, ifS, O.view, O.still, Sl.d, Sl.own, freezeO, Env.freeze, freezeL, wipeE, backE, store, ownD, afterCall, afterIo, resO, newOp, scalar, thenF, opSem, compEnd, bind1, seqOf, cmpI, kindD, mtOk, O.isSl, O.anySl, parStore, itSem, it1, it2, anyOf, cap, at0, at1, at2, at3, at4, at5, at6, o_add, o_sub, o_mulr, o_lt, o_le, o_gt, o_ge, o_len_t, o_len_l, o_len_r, o_abs, o_int, o_intb, o_min, o_isn, o_isnn, o_neg, i_int_0, i_int_1, i_int_3, i_int_4, i_int_34, i_int_12, i_int_2, i_bl_0, i_bl_1, i_bl_3, i_bl_4, i_bl_34, i_bl_12, i_bl_2, i_tup_0, i_tup_1, i_tup_3, i_tup_4, i_tup_34, i_tup_12, i_tup_2, i_lst_0, i_lst_1, i_lst_3, i_lst_4, i_lst_34, i_lst_12, i_lst_2, i_non_0, i_non_1, i_non_3, i_non_4, i_non_34, i_non_12, i_non_2, o_eqi, o_nei, i_str_34]
theorem tupled_ok : ∀ (n m : Nat), n + 1 ≤ m → ∀ d v, tupD n d = some v → evFn tb 1000 m kn_tupled [d] = .ok v false []
  | 0, m, hm, d, v, h => by
    unfold tupD at h
    split at h
    · next q => cases h; exact tupled_sc m (by omega) d q
    · cases h
  | n + 1, m, hm, d, v, h => by
    by_cases q : scalar d = true
    · have e : v = d := by cases d <;> simp_all [tupD, scalar]
      rw [e]
      exact tupled_sc m (by omega) d q
    · obtain ⟨m, rfl⟩ : ∃ k, m = k + 1 := ⟨m - 1, by omega⟩
      refine (ev_step tb_tupled rfl).trans ?_
      have key : ∀ (d0 : D) (ds : List D) (ws : List D), itSem .seq [d0] = some (ds.map eD) → compM (fun _ => some true) (tupD n) ds = some ws →
          evE (C m) q_tupled_1 [.fz d0, .no] = .ok [.fr (eL eD ws)] [.fz d0, .no] := fun d0 ds ws hi hw =>
        x_comp eD eD [.fz d0, .no] (fun x => [.fz d0, .fz x]) (x_cons (x_var rfl) x_nil) (ds := [d0]) rfl hi (e2 := [.fz d0, .no]) rfl rfl (fun _ => rfl) (fun _ => rfl) hw rfl (e3 := [.fz d0, .no]) rfl
          (fun x b h => by obtain rfl := osome h; exact x_cst)
          (fun x y h => ⟨_, x_call0 (x_cons (x_var rfl) x_nil) io_tupled (ds := [x]) rfl (tupled_ok n m (by omega) x y h) rfl, rfl, rfl⟩)
      cases d with
      | tup ds =>
        rw [tupD] at h
        cases hw : compM (fun _ => some true) (tupD n) ds with
        | none => rw [hw] at h; cases h
        | some ws =>
          rw [hw] at h; cases h
          have e := key (.tup ds) ds ws (by show some ds = some (ds.map fun d => d); rw [List.map_id']) hw
          have e : evE (C m) q_tupled_1 [.fz (.tup ds), .no] = .ok [.fr (.lst ws)] [.fz (.tup ds), .no] := by rw [e]; show R.ok [O.fr (.lst (ws.map fun d => d))] _ = _; rw [List.map_id']
          simp [ir_tupled, evS, evE, startE, endS, endFl, endIo, R.one, R.all, R.tst, R.bind, ifI, ifL, ifS, O.view, O.still, Sl.d, Sl.own, freezeO, Env.freeze, freezeL, wipeE, backE, store, ownD, afterCall, afterIo, resO, newOp, scalar, thenF, opSem, compEnd, bind1, seqOf, cmpI, kindD, mtOk, O.isSl, O.anySl, parStore, itSem, it1, it2, anyOf, cap, at0, at1, at2, at3, at4, at5, at6, o_add, o_sub, o_mulr, o_lt, o_le, o_gt, o_ge, o_len_t, o_len_l, o_len_r, o_abs, o_int, o_intb, o_min, o_isn, o_isnn, o_neg, i_int_0, i_int_1, i_int_3, i_int_4, i_int_34, i_int_12, i_int_2, i_bl_0, i_bl_1, i_bl_3, i_bl_4, i_bl_34, i_bl_12, i_bl_2, i_tup_0, i_tup_1, i_tup_3, i_tup_4, i_tup_34, i_tup_12, i_tup_2, i_lst_0, i_lst_1, i_lst_3, i_lst_4, i_lst_34, i_lst_12, i_lst_2, i_non_0, i_non_1, i_non_3, i_non_4, i_non_34, i_non_12, i_non_2, o_eqi, o_nei, e, o_tup]
      | lst ds =>
        rw [tupD] at h
        cases hw : compM (fun _ => some true) (tupD n) ds with
        | none => rw [hw] at h; cases h
        | some ws =>
          rw [hw] at h; cases h
          have e := key (.lst ds) ds ws (by show some ds = some (ds.map fun d => d); rw [List.map_id']) hw
          have e : evE (C m) q_tupled_1 [.fz (.lst ds), .no] = .ok [.fr (.lst ws)] [.fz (.lst ds), .no] := by rw [e]; show R.ok [O.fr (.lst (ws.map fun d => d))] _ = _; rw [List.map_id']
          simp [ir_tupled, evS, evE, startE, endS, endFl, endIo, R.one, R.all, R.tst, R.bind, ifI, ifL, ifS, O.view, O.still, Sl.d, Sl.own, freezeO, Env.freeze, freezeL, wipeE, backE, store, ownD, afterCall, afterIo, resO, newOp, scalar, thenF, opSem, compEnd, bind1, seqOf, cmpI, kindD, mtOk, O.isSl, O.anySl, parStore, itSem, it1, it2, anyOf, cap, at0, at1, at2, at3, at4, at5, at6, o_add, o_sub, o_mulr, o_lt, o_le, o_gt, o_ge, o_len_t, o_len_l, o_len_r, o_abs, o_int, o_intb, o_min, o_isn, o_isnn, o_neg, i_int_0, i_int_1, i_int_3, i_int_4, i_int_34, i_int_12, i_int_2, i_bl_0, i_bl_1, i_bl_3, i_bl_4, i_bl_34, i_bl_12, i_bl_2, i_tup_0, i_tup_1, i_tup_3, i_tup_4, i_tup_34, i_tup_12, i_tup_2, i_lst_0, i_lst_1, i_lst_3, i_lst_4, i_lst_34, i_lst_12, i_lst_2, i_non_0, i_non_1, i_non_3, i_non_4, i_non_34, i_non_12, i_non_2, o_eqi, o_nei, e, o_tup]
      | _ => simp_all [tupD, scalar]
open Classical in
noncomputable def f_tupled {α : Type} {e : α → D} (x : Mx e) : Option α := if tupD 6 x.d = some (e x.x) then some x.x else none
theorem w_tupled (m : Nat) (hm : 7 ≤ m) {α : Type} {e : α → D} (x : Mx e) {r : α} (h : f_tupled x = some r) : evFn tb 1000 m kn_tupled [x.d] = .ok (e r) false [] := by
  unfold f_tupled at h
  split at h
  · next q => cases h; exact tupled_ok 6 m (by omega) _ _ q
  · cases h
theorem tupled_some {α : Type} {e : α → D} {x : Mx e} (h : tupD 6 x.d = some (e x.x)) : f_tupled x = some x.x := by
  unfold f_tupled
  rw [if_pos h]
end Lw
end
section
set_option Elab.async false
set_option linter.all false
set_option maxRecDepth 100000
set_option maxHeartbeats 1000000
namespace Lw
open PySem Ev
noncomputable section

def f_is_number (p_thing : Int) : Option (Bool) :=
  some (true && (!false))
theorem w_is_number (m : Nat) (hm : 1 ≤ m) (p_thing : Int) {r : Bool} (h : f_is_number p_thing = some r) : evFn tb 1000 m kn_is_number [D.int p_thing] = .ok (D.bl r) false [] := by
  obtain ⟨m, rfl⟩ : ∃ k, m = k + 1 := ⟨m - 1, by omega⟩
  unfold f_is_number at h
  refine fn_pure tb_is_number rfl rfl (e0 := [.fz (D.int p_thing)]) rfl ?_
  show Out (evS (C m) _ _) _
  obtain rfl := osome h
  exact o_ret (o := _) (x_and (x_op (x_cons (x_var rfl) x_nil) (ds := [D.int p_thing]) rfl rfl rfl) (x_not (x_op (x_cons (x_var rfl) x_nil) (ds := [D.int p_thing]) rfl rfl rfl))) rfl rfl rfl

def f_is_within (p_thing : Int) (p_least : Int) (p_most : Int) : Option (Bool) :=
  (f_is_number p_thing).bind fun is_number1 =>
  some (is_number1 && (decide (p_least ≤ p_thing) && decide (p_thing ≤ p_most)))
theorem w_is_within (m : Nat) (hm : 2 ≤ m) (p_thing : Int) (p_least : Int) (p_most : Int) {r : Bool} (h : f_is_within p_thing p_least p_most = some r) : evFn tb 1000 m kn_is_within [D.int p_thing, D.int p_least, D.int p_most] = .ok (D.bl r) false [] := by
  obtain ⟨m, rfl⟩ : ∃ k, m = k + 1 := ⟨m - 1, by omega⟩
  unfold f_is_within at h
  refine fn_pure tb_is_within rfl rfl (e0 := [.fz (D.int p_thing), .fz (D.int p_least), .fz (D.int p_most)]) rfl ?_
  show Out (evS (C m) _ _) _
  obtain ⟨is_number1, his_number1, h⟩ := bsome h
  obtain rfl := osome h
  exact o_ret (o := _) (x_and (x_callS (x_cons (x_var rfl) x_nil) io_is_number (ds := [D.int p_thing]) rfl (w_is_number _ (by omega) _ his_number1) rfl) (x_chain (x_var rfl) (x_var rfl) (x_var rfl))) rfl rfl rfl

def f_is_long_P (p_thing : (Int × Int)) (p_length : Int) : Option (Bool) :=
  some (true && (decide (2 = p_length)))
theorem w_is_long_P (m : Nat) (hm : 1 ≤ m) (p_thing : (Int × Int)) (p_length : Int) {r : Bool} (h : f_is_long_P p_thing p_length = some r) : evFn tb 1000 m kn_is_long [(eP D.int D.int) p_thing, D.int p_length] = .ok (D.bl r) false [] := by
  obtain ⟨m, rfl⟩ : ∃ k, m = k + 1 := ⟨m - 1, by omega⟩
  unfold f_is_long_P at h
  refine fn_pure tb_is_long rfl rfl (e0 := [.fz ((eP D.int D.int) p_thing), .fz (D.int p_length)]) rfl ?_
  show Out (evS (C m) _ _) _
  obtain rfl := osome h
  exact o_ret (o := _) (x_and (x_op (x_cons (x_var rfl) x_nil) (ds := [(eP D.int D.int) p_thing]) rfl rfl rfl) (x_op (x_cons (x_op (x_cons (x_var rfl) x_nil) (ds := [(eP D.int D.int) p_thing]) rfl rfl rfl) (x_cons (x_var rfl) x_nil)) (ds := [D.int 2, D.int p_length]) rfl (t_eq (e := D.int)) rfl)) rfl rfl rfl

def f_is_long_O (p_thing : (Int × List ((Int × Int)))) (p_length : Int) : Option (Bool) :=
  some (true && (decide (2 = p_length)))
theorem w_is_long_O (m : Nat) (hm : 1 ≤ m) (p_thing : (Int × List ((Int × Int)))) (p_length : Int) {r : Bool} (h : f_is_long_O p_thing p_length = some r) : evFn tb 1000 m kn_is_long [(eP D.int (eT (eP D.int D.int))) p_thing, D.int p_length] = .ok (D.bl r) false [] := by
  obtain ⟨m, rfl⟩ : ∃ k, m = k + 1 := ⟨m - 1, by omega⟩
  unfold f_is_long_O at h
  refine fn_pure tb_is_long rfl rfl (e0 := [.fz ((eP D.int (eT (eP D.int D.int))) p_thing), .fz (D.int p_length)]) rfl ?_
  show Out (evS (C m) _ _) _
  obtain rfl := osome h
  exact o_ret (o := _) (x_and (x_op (x_cons (x_var rfl) x_nil) (ds := [(eP D.int (eT (eP D.int D.int))) p_thing]) rfl rfl rfl) (x_op (x_cons (x_op (x_cons (x_var rfl) x_nil) (ds := [(eP D.int (eT (eP D.int D.int))) p_thing]) rfl rfl rfl) (x_cons (x_var rfl) x_nil)) (ds := [D.int 2, D.int p_length]) rfl (t_eq (e := D.int)) rfl)) rfl rfl rfl

def f_are_within_P (p_thing : List (Int)) (p_least : Int) (p_most : Int) : Option (Bool) :=
  (andO true ((compM (fun x1 => some true) (fun x1 => (f_is_within x1 p_least p_most).bind fun is_within2 => some is_within2) p_thing).bind fun l3 => some (l3.all id))).bind fun v4 =>
  some v4
theorem w_are_within_P (m : Nat) (hm : 3 ≤ m) (p_thing : List (Int)) (p_least : Int) (p_most : Int) {r : Bool} (h : f_are_within_P p_thing p_least p_most = some r) : evFn tb 1000 m kn_are_within [(eT D.int) p_thing, D.int p_least, D.int p_most] = .ok (D.bl r) false [] := by
  obtain ⟨m, rfl⟩ : ∃ k, m = k + 1 := ⟨m - 1, by omega⟩
  unfold f_are_within_P at h
  refine fn_pure tb_are_within rfl rfl (e0 := [.fz ((eT D.int) p_thing), .fz (D.int p_least), .fz (D.int p_most), .no]) rfl ?_
  show Out (evS (C m) _ _) _
  obtain ⟨v4, hv4, h⟩ := bsome h
  obtain rfl := osome h
  exact o_ret (o := _) (x_andO (x_op (x_cons (x_var rfl) x_nil) (ds := [(eT D.int) p_thing]) rfl rfl rfl) hv4 fun _ b2 h => by obtain ⟨l3, hl3, h⟩ := bsome h; obtain rfl := osome h; exact (x_op (x_cons (x_comp D.int D.bl [.fz ((eT D.int) p_thing), .fz (D.int p_least), .fz (D.int p_most), .no] (fun x1 => [.fz ((eT D.int) p_thing), .fz (D.int p_least), .fz (D.int p_most), .fz (D.int x1)]) (x_cons (x_var rfl) x_nil) (ds := [(eT D.int) p_thing]) rfl it_T (e2 := [.fz ((eT D.int) p_thing), .fz (D.int p_least), .fz (D.int p_most), .no]) rfl rfl (fun _ => rfl) (fun _ => rfl) hl3 rfl (e3 := [.fz ((eT D.int) p_thing), .fz (D.int p_least), .fz (D.int p_most), .no]) rfl (fun x1 b h => by obtain rfl := osome h; exact x_cst) (fun x1 y h => by obtain ⟨is_within2, his_within2, h⟩ := bsome h; obtain rfl := osome h; exact ⟨_, (x_callS (x_cons (x_var rfl) (x_cons (x_var rfl) (x_cons (x_var rfl) x_nil))) io_is_within (ds := [D.int x1, D.int p_least, D.int p_most]) rfl (w_is_within _ (by omega) _ _ _ his_within2) rfl), rfl, rfl⟩)) x_nil) (ds := [(eL D.bl) l3]) rfl t_all rfl)) rfl rfl rfl

def f_ascends_P (p_row : List ((Int × Int))) : Option (Bool) :=
  (compM (fun x1 => some true) (fun x1 => some ((ltP ltI ltI) x1.1 x1.2)) (p_row.zip (cutL p_row (some 1) none))).bind fun l2 =>
  some (l2.all id)
theorem w_ascends_P (m : Nat) (hm : 1 ≤ m) (p_row : List ((Int × Int))) {r : Bool} (h : f_ascends_P p_row = some r) : evFn tb 1000 m kn_ascends [(eT (eP D.int D.int)) p_row] = .ok (D.bl r) false [] := by
  obtain ⟨m, rfl⟩ : ∃ k, m = k + 1 := ⟨m - 1, by omega⟩
  unfold f_ascends_P at h
  refine fn_pure tb_ascends rfl rfl (e0 := [.fz ((eT (eP D.int D.int)) p_row), .no, .no]) rfl ?_
  show Out (evS (C m) _ _) _
  obtain ⟨l2, hl2, h⟩ := bsome h
  obtain rfl := osome h
  exact o_ret (o := _) (x_op (x_cons (x_comp (eP (eP D.int D.int) (eP D.int D.int)) D.bl [.fz ((eT (eP D.int D.int)) p_row), .no, .no] (fun x1 => [.fz ((eT (eP D.int D.int)) p_row), .fz ((eP D.int D.int) x1.1), .fz ((eP D.int D.int) x1.2)]) (x_cons (x_var rfl) (x_cons (x_op (x_cons (x_var rfl) (x_cons x_cst x_nil)) (ds := [(eT (eP D.int D.int)) p_row, D.int 1]) rfl t_cutLoT rfl) x_nil)) (ds := [(eT (eP D.int D.int)) p_row, (eT (eP D.int D.int)) (cutL p_row (some 1) none)]) rfl it_zipT (e2 := [.fz ((eT (eP D.int D.int)) p_row), .no, .no]) rfl rfl (fun _ => rfl) (fun _ => rfl) hl2 rfl (e3 := [.fz ((eT (eP D.int D.int)) p_row), .no, .no]) rfl (fun x1 b h => by obtain rfl := osome h; exact x_cst) (fun x1 y h => by obtain rfl := osome h; exact ⟨_, (x_op (x_cons (x_var rfl) (x_cons (x_var rfl) x_nil)) (ds := [(eP D.int D.int) x1.1, (eP D.int D.int) x1.2]) rfl (t_ltP) rfl), rfl, rfl⟩)) x_nil) (ds := [(eL D.bl) l2]) rfl t_all rfl) rfl rfl rfl

def f_are_pairs (p_thing : List ((Int × Int))) (p_many : Int) : Option (Bool) :=
  (orO (!true) ((compM (fun x1 => some true) (fun x1 => (f_is_long_P x1 2).bind fun is_long2 => (andO is_long2 ((f_are_within_P [x1.1, x1.2] 0 (p_many - 1)).bind fun are_within3 => some are_within3)).bind fun v4 => some v4) p_thing).bind fun l5 => some (!(l5.all id)))).bind fun v6 =>
  if v6 = true then
    some false
  else
    (f_ascends_P p_thing).bind fun ascends8 =>
    (andO ascends8 ((compM (fun x9 => some true) (fun x9 => some (!decide (x9.1 = x9.2))) p_thing).bind fun l10 => some (l10.all id))).bind fun v11 =>
    some v11
theorem w_are_pairs (m : Nat) (hm : 4 ≤ m) (p_thing : List ((Int × Int))) (p_many : Int) {r : Bool} (h : f_are_pairs p_thing p_many = some r) : evFn tb 1000 m kn_are_pairs [(eT (eP D.int D.int)) p_thing, D.int p_many] = .ok (D.bl r) false [] := by
  obtain ⟨m, rfl⟩ : ∃ k, m = k + 1 := ⟨m - 1, by omega⟩
  unfold f_are_pairs at h
  refine fn_pure tb_are_pairs rfl rfl (e0 := [.fz ((eT (eP D.int D.int)) p_thing), .fz (D.int p_many), .no, .no, .no]) rfl ?_
  show Out (evS (C m) _ _) _
  obtain ⟨v6, hv6, h⟩ := bsome h
  rcases isome h with ⟨c7, h⟩ | ⟨c7, h⟩
  · refine o_seqO (o_ite_t (x_orO (x_not (x_op (x_cons (x_var rfl) x_nil) (ds := [(eT (eP D.int D.int)) p_thing]) rfl rfl rfl)) hv6 fun _ b2 h => by obtain ⟨l5, hl5, h⟩ := bsome h; obtain rfl := osome h; exact (x_not (x_op (x_cons (x_comp (eP D.int D.int) D.bl [.fz ((eT (eP D.int D.int)) p_thing), .fz (D.int p_many), .no, .no, .no] (fun x1 => [.fz ((eT (eP D.int D.int)) p_thing), .fz (D.int p_many), .fz ((eP D.int D.int) x1), .no, .no]) (x_cons (x_var rfl) x_nil) (ds := [(eT (eP D.int D.int)) p_thing]) rfl it_T (e2 := [.fz ((eT (eP D.int D.int)) p_thing), .fz (D.int p_many), .no, .no, .no]) rfl rfl (fun _ => rfl) (fun _ => rfl) hl5 rfl (e3 := [.fz ((eT (eP D.int D.int)) p_thing), .fz (D.int p_many), .no, .no, .no]) rfl (fun x1 b h => by obtain rfl := osome h; exact x_cst) (fun x1 y h => by obtain ⟨is_long2, his_long2, h⟩ := bsome h; obtain ⟨v4, hv4, h⟩ := bsome h; obtain rfl := osome h; exact ⟨_, (x_andO (x_callS (x_cons (x_var rfl) (x_cons x_cst x_nil)) io_is_long (ds := [(eP D.int D.int) x1, D.int 2]) rfl (w_is_long_P _ (by omega) _ _ his_long2) rfl) hv4 fun _ b2 h => by obtain ⟨are_within3, hare_within3, h⟩ := bsome h; obtain rfl := osome h; exact (x_callS (x_cons (x_var rfl) (x_cons x_cst (x_cons (x_op (x_cons (x_var rfl) (x_cons x_cst x_nil)) (ds := [D.int p_many, D.int 1]) rfl t_sub rfl) x_nil))) io_are_within (ds := [(eT D.int) [x1.1, x1.2], D.int 0, D.int (p_many - 1)]) rfl (w_are_within_P _ (by omega) _ _ _ hare_within3) rfl)), rfl, rfl⟩)) x_nil) (ds := [(eL D.bl) l5]) rfl t_all rfl))) c7 ?_)
    obtain rfl := osome h
    exact o_ret (o := _) x_cst rfl rfl rfl
  · refine o_seqO (o_ite_f (x_orO (x_not (x_op (x_cons (x_var rfl) x_nil) (ds := [(eT (eP D.int D.int)) p_thing]) rfl rfl rfl)) hv6 fun _ b2 h => by obtain ⟨l5, hl5, h⟩ := bsome h; obtain rfl := osome h; exact (x_not (x_op (x_cons (x_comp (eP D.int D.int) D.bl [.fz ((eT (eP D.int D.int)) p_thing), .fz (D.int p_many), .no, .no, .no] (fun x1 => [.fz ((eT (eP D.int D.int)) p_thing), .fz (D.int p_many), .fz ((eP D.int D.int) x1), .no, .no]) (x_cons (x_var rfl) x_nil) (ds := [(eT (eP D.int D.int)) p_thing]) rfl it_T (e2 := [.fz ((eT (eP D.int D.int)) p_thing), .fz (D.int p_many), .no, .no, .no]) rfl rfl (fun _ => rfl) (fun _ => rfl) hl5 rfl (e3 := [.fz ((eT (eP D.int D.int)) p_thing), .fz (D.int p_many), .no, .no, .no]) rfl (fun x1 b h => by obtain rfl := osome h; exact x_cst) (fun x1 y h => by obtain ⟨is_long2, his_long2, h⟩ := bsome h; obtain ⟨v4, hv4, h⟩ := bsome h; obtain rfl := osome h; exact ⟨_, (x_andO (x_callS (x_cons (x_var rfl) (x_cons x_cst x_nil)) io_is_long (ds := [(eP D.int D.int) x1, D.int 2]) rfl (w_is_long_P _ (by omega) _ _ his_long2) rfl) hv4 fun _ b2 h => by obtain ⟨are_within3, hare_within3, h⟩ := bsome h; obtain rfl := osome h; exact (x_callS (x_cons (x_var rfl) (x_cons x_cst (x_cons (x_op (x_cons (x_var rfl) (x_cons x_cst x_nil)) (ds := [D.int p_many, D.int 1]) rfl t_sub rfl) x_nil))) io_are_within (ds := [(eT D.int) [x1.1, x1.2], D.int 0, D.int (p_many - 1)]) rfl (w_are_within_P _ (by omega) _ _ _ hare_within3) rfl)), rfl, rfl⟩)) x_nil) (ds := [(eL D.bl) l5]) rfl t_all rfl))) c7 (o_nop ?_))
    show Out _ _
    obtain ⟨ascends8, hascends8, h⟩ := bsome h
    obtain ⟨v11, hv11, h⟩ := bsome h
    obtain rfl := osome h
    exact o_ret (o := _) (x_andO (x_callS (x_cons (x_var rfl) x_nil) io_ascends (ds := [(eT (eP D.int D.int)) p_thing]) rfl (w_ascends_P _ (by omega) _ hascends8) rfl) hv11 fun _ b2 h => by obtain ⟨l10, hl10, h⟩ := bsome h; obtain rfl := osome h; exact (x_op (x_cons (x_comp (eP D.int D.int) D.bl [.fz ((eT (eP D.int D.int)) p_thing), .fz (D.int p_many), .no, .no, .no] (fun x9 => [.fz ((eT (eP D.int D.int)) p_thing), .fz (D.int p_many), .no, .fz (D.int x9.1), .fz (D.int x9.2)]) (x_cons (x_var rfl) x_nil) (ds := [(eT (eP D.int D.int)) p_thing]) rfl it_T (e2 := [.fz ((eT (eP D.int D.int)) p_thing), .fz (D.int p_many), .no, .no, .no]) rfl rfl (fun _ => rfl) (fun _ => rfl) hl10 rfl (e3 := [.fz ((eT (eP D.int D.int)) p_thing), .fz (D.int p_many), .no, .no, .no]) rfl (fun x9 b h => by obtain rfl := osome h; exact x_cst) (fun x9 y h => by obtain rfl := osome h; exact ⟨_, (x_op (x_cons (x_var rfl) (x_cons (x_var rfl) x_nil)) (ds := [D.int x9.1, D.int x9.2]) rfl (t_ne (e := D.int)) rfl), rfl, rfl⟩)) x_nil) (ds := [(eL D.bl) l10]) rfl t_all rfl)) rfl rfl rfl

def f_above_in (p_order : (Int × List ((Int × Int)))) (p_thing : Int) : Option (List (Int)) :=
  (compM (fun x1 => some (decide (x1.1 = p_thing))) (fun x1 => some x1.2) p_order.2).bind fun l2 =>
  some l2
theorem w_above_in (m : Nat) (hm : 1 ≤ m) (p_order : (Int × List ((Int × Int)))) (p_thing : Int) {r : List (Int)} (h : f_above_in p_order p_thing = some r) : evFn tb 1000 m kn_above_in [(eP D.int (eT (eP D.int D.int))) p_order, D.int p_thing] = .ok ((eT D.int) r) false [] := by
  obtain ⟨m, rfl⟩ : ∃ k, m = k + 1 := ⟨m - 1, by omega⟩
  unfold f_above_in at h
  refine fn_pure tb_above_in rfl rfl (e0 := [.fz ((eP D.int (eT (eP D.int D.int))) p_order), .fz (D.int p_thing), .no, .no]) rfl ?_
  show Out (evS (C m) _ _) _
  obtain ⟨l2, hl2, h⟩ := bsome h
  obtain rfl := osome h
  exact o_ret (o := _) (x_op (x_cons (x_comp (eP D.int D.int) D.int [.fz ((eP D.int (eT (eP D.int D.int))) p_order), .fz (D.int p_thing), .no, .no] (fun x1 => [.fz ((eP D.int (eT (eP D.int D.int))) p_order), .fz (D.int p_thing), .fz (D.int x1.1), .fz (D.int x1.2)]) (x_cons (x_op (x_cons (x_var rfl) (x_cons x_cst x_nil)) (ds := [(eP D.int (eT (eP D.int D.int))) p_order, D.int 1]) rfl (show _ = some ((eT (eP D.int D.int)) p_order.2) from rfl) res_ix) x_nil) (ds := [(eT (eP D.int D.int)) p_order.2]) rfl it_T (e2 := [.fz ((eP D.int (eT (eP D.int D.int))) p_order), .fz (D.int p_thing), .no, .no]) rfl rfl (fun _ => rfl) (fun _ => rfl) hl2 rfl (e3 := [.fz ((eP D.int (eT (eP D.int D.int))) p_order), .fz (D.int p_thing), .no, .no]) rfl (fun x1 b h => by obtain rfl := osome h; exact (x_op (x_cons (x_var rfl) (x_cons (x_var rfl) x_nil)) (ds := [D.int x1.1, D.int p_thing]) rfl (t_eq (e := D.int)) rfl)) (fun x1 y h => by obtain rfl := osome h; exact ⟨_, (x_var rfl), rfl, rfl⟩)) x_nil) (ds := [(eL D.int) l2]) rfl t_tupL rfl) rfl rfl rfl

def f_is_order_in (p_thing : (Int × List ((Int × Int)))) : Option (Bool) :=
  (f_is_long_O p_thing 2).bind fun is_long1 =>
  (orO (!is_long1) ((f_is_within p_thing.1 0 20).bind fun is_within2 => (orO (!is_within2) ((f_are_pairs p_thing.2 p_thing.1).bind fun are_pairs3 => some (!are_pairs3))).bind fun v4 => some v4)).bind fun v5 =>
  if v5 = true then
    some false
  else
    (forR (ρ := Bool) (fun (s7 : Unit) (x8 : (Int × Int)) =>
      (f_above_in p_thing x8.2).bind fun above_in11 =>
      (compM (fun x12 => some true) (fun x12 => some (memB (x8.1, x12) p_thing.2)) above_in11).bind fun l13 =>
      if (!(l13.all id)) = true then
        some (.rt false)
      else
        some (.nx ())) p_thing.2 ()).bind fun c18 =>
    match c18 with
    | .inl s15 =>
      some true
    | .inr r19 =>
      some r19
theorem w_is_order_in (m : Nat) (hm : 5 ≤ m) (p_thing : (Int × List ((Int × Int)))) {r : Bool} (h : f_is_order_in p_thing = some r) : evFn tb 1000 m kn_is_order_in [(eP D.int (eT (eP D.int D.int))) p_thing] = .ok (D.bl r) false [] := by
  obtain ⟨m, rfl⟩ : ∃ k, m = k + 1 := ⟨m - 1, by omega⟩
  unfold f_is_order_in at h
  refine fn_pure tb_is_order_in rfl rfl (e0 := [.fz ((eP D.int (eT (eP D.int D.int))) p_thing), .no, .no, .no, .no]) rfl ?_
  show Out (evS (C m) _ _) _
  obtain ⟨is_long1, his_long1, h⟩ := bsome h
  obtain ⟨v5, hv5, h⟩ := bsome h
  rcases isome h with ⟨c6, h⟩ | ⟨c6, h⟩
  · refine o_seqO (o_ite_t (x_orO (x_not (x_callS (x_cons (x_var rfl) (x_cons x_cst x_nil)) io_is_long (ds := [(eP D.int (eT (eP D.int D.int))) p_thing, D.int 2]) rfl (w_is_long_O _ (by omega) _ _ his_long1) rfl)) hv5 fun _ b2 h => by obtain ⟨is_within2, his_within2, h⟩ := bsome h; obtain ⟨v4, hv4, h⟩ := bsome h; obtain rfl := osome h; exact (x_orO (x_not (x_callS (x_cons (x_op (x_cons (x_var rfl) (x_cons x_cst x_nil)) (ds := [(eP D.int (eT (eP D.int D.int))) p_thing, D.int 0]) rfl (show _ = some (D.int p_thing.1) from rfl) res_ix) (x_cons x_cst (x_cons x_cst x_nil))) io_is_within (ds := [D.int p_thing.1, D.int 0, D.int 20]) rfl (w_is_within _ (by omega) _ _ _ his_within2) rfl)) hv4 fun _ b2 h => by obtain ⟨are_pairs3, hare_pairs3, h⟩ := bsome h; obtain rfl := osome h; exact (x_not (x_callS (x_cons (x_op (x_cons (x_var rfl) (x_cons x_cst x_nil)) (ds := [(eP D.int (eT (eP D.int D.int))) p_thing, D.int 1]) rfl (show _ = some ((eT (eP D.int D.int)) p_thing.2) from rfl) res_ix) (x_cons (x_op (x_cons (x_var rfl) (x_cons x_cst x_nil)) (ds := [(eP D.int (eT (eP D.int D.int))) p_thing, D.int 0]) rfl (show _ = some (D.int p_thing.1) from rfl) res_ix) x_nil)) io_are_pairs (ds := [(eT (eP D.int D.int)) p_thing.2, D.int p_thing.1]) rfl (w_are_pairs _ (by omega) _ _ hare_pairs3) rfl)))) c6 ?_)
    obtain rfl := osome h
    exact o_ret (o := _) x_cst rfl rfl rfl
  · refine o_seqO (o_ite_f (x_orO (x_not (x_callS (x_cons (x_var rfl) (x_cons x_cst x_nil)) io_is_long (ds := [(eP D.int (eT (eP D.int D.int))) p_thing, D.int 2]) rfl (w_is_long_O _ (by omega) _ _ his_long1) rfl)) hv5 fun _ b2 h => by obtain ⟨is_within2, his_within2, h⟩ := bsome h; obtain ⟨v4, hv4, h⟩ := bsome h; obtain rfl := osome h; exact (x_orO (x_not (x_callS (x_cons (x_op (x_cons (x_var rfl) (x_cons x_cst x_nil)) (ds := [(eP D.int (eT (eP D.int D.int))) p_thing, D.int 0]) rfl (show _ = some (D.int p_thing.1) from rfl) res_ix) (x_cons x_cst (x_cons x_cst x_nil))) io_is_within (ds := [D.int p_thing.1, D.int 0, D.int 20]) rfl (w_is_within _ (by omega) _ _ _ his_within2) rfl)) hv4 fun _ b2 h => by obtain ⟨are_pairs3, hare_pairs3, h⟩ := bsome h; obtain rfl := osome h; exact (x_not (x_callS (x_cons (x_op (x_cons (x_var rfl) (x_cons x_cst x_nil)) (ds := [(eP D.int (eT (eP D.int D.int))) p_thing, D.int 1]) rfl (show _ = some ((eT (eP D.int D.int)) p_thing.2) from rfl) res_ix) (x_cons (x_op (x_cons (x_var rfl) (x_cons x_cst x_nil)) (ds := [(eP D.int (eT (eP D.int D.int))) p_thing, D.int 0]) rfl (show _ = some (D.int p_thing.1) from rfl) res_ix) x_nil)) io_are_pairs (ds := [(eT (eP D.int D.int)) p_thing.2, D.int p_thing.1]) rfl (w_are_pairs _ (by omega) _ _ hare_pairs3) rfl)))) c6 (o_nop ?_))
    show Out _ _
    refine o_seq (e1 := [.fz ((eP D.int (eT (eP D.int D.int))) p_thing), .fz ((eT (eP D.int D.int)) p_thing.2), .no, .no, .no]) (s_asg (x_op (x_cons (x_var rfl) (x_cons x_cst x_nil)) (ds := [(eP D.int (eT (eP D.int D.int))) p_thing, D.int 1]) rfl (show _ = some ((eT (eP D.int D.int)) p_thing.2) from rfl) res_ix) rfl) ?_
    obtain ⟨c18, hc18, h⟩ := bsome h
    refine o_seqO (o_forR (eP D.int D.int) (fun r => D.bl r) false (fun s7 e => ∃ u9, ∃ u10, e = [.fz ((eP D.int (eT (eP D.int D.int))) p_thing), .fz ((eT (eP D.int D.int)) p_thing.2), u9, u10, .no]) (fun _ _ => True) (x_cons (x_var rfl) x_nil) (ds := [(eT (eP D.int D.int)) p_thing.2]) rfl it_T (by exact ⟨_, _, rfl⟩) hc18 ?_ ?_)
    · intro s7 x8 cc env hI h
      obtain ⟨u9, u10, rfl⟩ := hI
      refine ⟨[.fz ((eP D.int (eT (eP D.int D.int))) p_thing), .fz ((eT (eP D.int D.int)) p_thing.2), .fz (D.int x8.1), .fz (D.int x8.2), .no], rfl, ?_⟩
      obtain ⟨above_in11, habove_in11, h⟩ := bsome h
      obtain ⟨l13, hl13, h⟩ := bsome h
      rcases isome h with ⟨c14, h⟩ | ⟨c14, h⟩
      · refine o_ite_t (x_not (x_op (x_cons (x_comp D.int D.bl [.fz ((eP D.int (eT (eP D.int D.int))) p_thing), .fz ((eT (eP D.int D.int)) p_thing.2), .fz (D.int x8.1), .fz (D.int x8.2), .no] (fun x12 => [.fz ((eP D.int (eT (eP D.int D.int))) p_thing), .fz ((eT (eP D.int D.int)) p_thing.2), .fz (D.int x8.1), .fz (D.int x8.2), .fz (D.int x12)]) (x_cons (x_call0 (x_cons (x_var rfl) (x_cons (x_var rfl) x_nil)) io_above_in (ds := [(eP D.int (eT (eP D.int D.int))) p_thing, D.int x8.2]) rfl (w_above_in _ (by omega) _ _ habove_in11) rfl) x_nil) (ds := [(eT D.int) above_in11]) rfl it_T (e2 := [.fz ((eP D.int (eT (eP D.int D.int))) p_thing), .fz ((eT (eP D.int D.int)) p_thing.2), .fz (D.int x8.1), .fz (D.int x8.2), .no]) rfl rfl (fun _ => rfl) (fun _ => rfl) hl13 rfl (e3 := [.fz ((eP D.int (eT (eP D.int D.int))) p_thing), .fz ((eT (eP D.int D.int)) p_thing.2), .fz (D.int x8.1), .fz (D.int x8.2), .no]) rfl (fun x12 b h => by obtain rfl := osome h; exact x_cst) (fun x12 y h => by obtain rfl := osome h; exact ⟨_, (x_op (x_cons (x_tup0 (x_cons (x_var rfl) (x_cons (x_var rfl) x_nil)) (ds := [D.int x8.1, D.int x12]) rfl rfl rfl) (x_cons (x_var rfl) x_nil)) (ds := [(eP D.int D.int) (x8.1, x12), (eT (eP D.int D.int)) p_thing.2]) rfl (t_inT (e := (eP D.int D.int))) rfl), rfl, rfl⟩)) x_nil) (ds := [(eL D.bl) l13]) rfl t_all rfl)) c14 ?_
        obtain rfl := osome h
        exact o_ret x_cst rfl rfl ⟨rfl, trivial⟩
      · refine o_ite_f (x_not (x_op (x_cons (x_comp D.int D.bl [.fz ((eP D.int (eT (eP D.int D.int))) p_thing), .fz ((eT (eP D.int D.int)) p_thing.2), .fz (D.int x8.1), .fz (D.int x8.2), .no] (fun x12 => [.fz ((eP D.int (eT (eP D.int D.int))) p_thing), .fz ((eT (eP D.int D.int)) p_thing.2), .fz (D.int x8.1), .fz (D.int x8.2), .fz (D.int x12)]) (x_cons (x_call0 (x_cons (x_var rfl) (x_cons (x_var rfl) x_nil)) io_above_in (ds := [(eP D.int (eT (eP D.int D.int))) p_thing, D.int x8.2]) rfl (w_above_in _ (by omega) _ _ habove_in11) rfl) x_nil) (ds := [(eT D.int) above_in11]) rfl it_T (e2 := [.fz ((eP D.int (eT (eP D.int D.int))) p_thing), .fz ((eT (eP D.int D.int)) p_thing.2), .fz (D.int x8.1), .fz (D.int x8.2), .no]) rfl rfl (fun _ => rfl) (fun _ => rfl) hl13 rfl (e3 := [.fz ((eP D.int (eT (eP D.int D.int))) p_thing), .fz ((eT (eP D.int D.int)) p_thing.2), .fz (D.int x8.1), .fz (D.int x8.2), .no]) rfl (fun x12 b h => by obtain rfl := osome h; exact x_cst) (fun x12 y h => by obtain rfl := osome h; exact ⟨_, (x_op (x_cons (x_tup0 (x_cons (x_var rfl) (x_cons (x_var rfl) x_nil)) (ds := [D.int x8.1, D.int x12]) rfl rfl rfl) (x_cons (x_var rfl) x_nil)) (ds := [(eP D.int D.int) (x8.1, x12), (eT (eP D.int D.int)) p_thing.2]) rfl (t_inT (e := (eP D.int D.int))) rfl), rfl, rfl⟩)) x_nil) (ds := [(eL D.bl) l13]) rfl t_all rfl)) c14 (o_nop ?_)
        obtain rfl := osome h
        exact ⟨.inl rfl, _, _, rfl⟩
    · intro fl e hq
      cases c18 with
      | inl s15 =>
        obtain ⟨rfl, u16, u17, rfl⟩ := hq
        show Out _ _
        obtain rfl := osome h
        exact o_ret (o := _) x_cst rfl rfl rfl
      | inr r19 =>
        obtain ⟨rfl, hq⟩ := hq
        obtain rfl := osome h
        exact rfl

def f_under_in (p_order : (Int × List ((Int × Int)))) (p_thing : Int) : Option (List (Int)) :=
  (compM (fun x1 => some (decide (x1.2 = p_thing))) (fun x1 => some x1.1) p_order.2).bind fun l2 =>
  some l2
theorem w_under_in (m : Nat) (hm : 1 ≤ m) (p_order : (Int × List ((Int × Int)))) (p_thing : Int) {r : List (Int)} (h : f_under_in p_order p_thing = some r) : evFn tb 1000 m kn_under_in [(eP D.int (eT (eP D.int D.int))) p_order, D.int p_thing] = .ok ((eT D.int) r) false [] := by
  obtain ⟨m, rfl⟩ : ∃ k, m = k + 1 := ⟨m - 1, by omega⟩
  unfold f_under_in at h
  refine fn_pure tb_under_in rfl rfl (e0 := [.fz ((eP D.int (eT (eP D.int D.int))) p_order), .fz (D.int p_thing), .no, .no]) rfl ?_
  show Out (evS (C m) _ _) _
  obtain ⟨l2, hl2, h⟩ := bsome h
  obtain rfl := osome h
  exact o_ret (o := _) (x_op (x_cons (x_comp (eP D.int D.int) D.int [.fz ((eP D.int (eT (eP D.int D.int))) p_order), .fz (D.int p_thing), .no, .no] (fun x1 => [.fz ((eP D.int (eT (eP D.int D.int))) p_order), .fz (D.int p_thing), .fz (D.int x1.1), .fz (D.int x1.2)]) (x_cons (x_op (x_cons (x_var rfl) (x_cons x_cst x_nil)) (ds := [(eP D.int (eT (eP D.int D.int))) p_order, D.int 1]) rfl (show _ = some ((eT (eP D.int D.int)) p_order.2) from rfl) res_ix) x_nil) (ds := [(eT (eP D.int D.int)) p_order.2]) rfl it_T (e2 := [.fz ((eP D.int (eT (eP D.int D.int))) p_order), .fz (D.int p_thing), .no, .no]) rfl rfl (fun _ => rfl) (fun _ => rfl) hl2 rfl (e3 := [.fz ((eP D.int (eT (eP D.int D.int))) p_order), .fz (D.int p_thing), .no, .no]) rfl (fun x1 b h => by obtain rfl := osome h; exact (x_op (x_cons (x_var rfl) (x_cons (x_var rfl) x_nil)) (ds := [D.int x1.2, D.int p_thing]) rfl (t_eq (e := D.int)) rfl)) (fun x1 y h => by obtain rfl := osome h; exact ⟨_, (x_var rfl), rfl, rfl⟩)) x_nil) (ds := [(eL D.int) l2]) rfl t_tupL rfl) rfl rfl rfl

def f_sure_order (p_value : Mx (eP D.int (eT (eP D.int D.int)))) : Option ((Int × List ((Int × Int)))) :=
  (f_tupled p_value).bind fun tupled1 =>
  (f_is_order_in tupled1).bind fun is_order_in2 =>
  if (!is_order_in2) = true then
    none
  else
    some tupled1
theorem w_sure_order (m : Nat) (hm : 8 ≤ m) (p_value : Mx (eP D.int (eT (eP D.int D.int)))) {r : (Int × List ((Int × Int)))} (h : f_sure_order p_value = some r) : evFn tb 1000 m kn_sure_order [Mx.d p_value] = .ok ((eP D.int (eT (eP D.int D.int))) r) false [] := by
  obtain ⟨m, rfl⟩ : ∃ k, m = k + 1 := ⟨m - 1, by omega⟩
  unfold f_sure_order at h
  refine fn_pure tb_sure_order rfl rfl (e0 := [.fz (Mx.d p_value), .no]) rfl ?_
  show Out (evS (C m) _ _) _
  obtain ⟨tupled1, htupled1, h⟩ := bsome h
  refine o_seq (e1 := [.fz (Mx.d p_value), .fz ((eP D.int (eT (eP D.int D.int))) tupled1)]) (s_asg (x_call0 (x_cons (x_var rfl) x_nil) io_tupled (ds := [Mx.d p_value]) rfl (w_tupled _ (by omega) _ htupled1) rfl) rfl) ?_
  obtain ⟨is_order_in2, his_order_in2, h⟩ := bsome h
  rcases isome h with ⟨c3, h⟩ | ⟨c3, h⟩
  · refine o_seqO (o_ite_t (x_not (x_callS (x_cons (x_var rfl) x_nil) io_is_order_in (ds := [(eP D.int (eT (eP D.int D.int))) tupled1]) rfl (w_is_order_in _ (by omega) _ his_order_in2) rfl)) c3 ?_)
    cases h
  · refine o_seqO (o_ite_f (x_not (x_callS (x_cons (x_var rfl) x_nil) io_is_order_in (ds := [(eP D.int (eT (eP D.int D.int))) tupled1]) rfl (w_is_order_in _ (by omega) _ his_order_in2) rfl)) c3 (o_nop ?_))
    show Out _ _
    obtain rfl := osome h
    exact o_ret (o := _) (x_var rfl) rfl rfl rfl

def f_apart_in (p_order : (Int × List ((Int × Int)))) : Option (Option ((Int × Int × Int × Int))) :=
  (forR (ρ := Option ((Int × Int × Int × Int))) (fun (s1 : Unit) (x2 : (Int × Int)) =>
    (forR (ρ := Option ((Int × Int × Int × Int))) (fun (s7 : Unit) (x8 : (Int × Int)) =>
      if ((!memB (x2.1, x8.2) p_order.2) && (!memB (x8.1, x2.2) p_order.2)) = true then
        some (.rt (some (x2.1, x2.2, x8.1, x8.2)))
      else
        some (.nx ())) p_order.2 ()).bind fun c15 =>
    match c15 with
    | .inl s12 =>
      some (.nx ())
    | .inr r16 =>
      some (.rt r16)) p_order.2 ()).bind fun c22 =>
  match c22 with
  | .inl s17 =>
    some none
  | .inr r23 =>
    some r23
theorem w_apart_in (m : Nat) (hm : 1 ≤ m) (p_order : (Int × List ((Int × Int)))) {r : Option ((Int × Int × Int × Int))} (h : f_apart_in p_order = some r) : evFn tb 1000 m kn_apart_in [(eP D.int (eT (eP D.int D.int))) p_order] = .ok ((eO (eP4 D.int D.int D.int D.int)) r) false [] := by
  obtain ⟨m, rfl⟩ : ∃ k, m = k + 1 := ⟨m - 1, by omega⟩
  unfold f_apart_in at h
  refine fn_pure tb_apart_in rfl rfl (e0 := [.fz ((eP D.int (eT (eP D.int D.int))) p_order), .no, .no, .no, .no, .no]) rfl ?_
  show Out (evS (C m) _ _) _
  refine o_seq (e1 := [.fz ((eP D.int (eT (eP D.int D.int))) p_order), .fz ((eT (eP D.int D.int)) p_order.2), .no, .no, .no, .no]) (s_asg (x_op (x_cons (x_var rfl) (x_cons x_cst x_nil)) (ds := [(eP D.int (eT (eP D.int D.int))) p_order, D.int 1]) rfl (show _ = some ((eT (eP D.int D.int)) p_order.2) from rfl) res_ix) rfl) ?_
  obtain ⟨c22, hc22, h⟩ := bsome h
  refine o_seqO (o_forR (eP D.int D.int) (fun r => (eO (eP4 D.int D.int D.int D.int)) r) false (fun s1 e => ∃ u3, ∃ u4, ∃ u5, ∃ u6, e = [.fz ((eP D.int (eT (eP D.int D.int))) p_order), .fz ((eT (eP D.int D.int)) p_order.2), u3, u4, u5, u6]) (fun _ _ => True) (x_cons (x_var rfl) x_nil) (ds := [(eT (eP D.int D.int)) p_order.2]) rfl it_T (by exact ⟨_, _, _, _, rfl⟩) hc22 ?_ ?_)
  · intro s1 x2 cc env hI h
    obtain ⟨u3, u4, u5, u6, rfl⟩ := hI
    refine ⟨[.fz ((eP D.int (eT (eP D.int D.int))) p_order), .fz ((eT (eP D.int D.int)) p_order.2), .fz (D.int x2.1), .fz (D.int x2.2), u5, u6], rfl, ?_⟩
    obtain ⟨c15, hc15, h⟩ := bsome h
    refine o_forR (eP D.int D.int) (fun r => (eO (eP4 D.int D.int D.int D.int)) r) false (fun s7 e => ∃ u9, ∃ u10, e = [.fz ((eP D.int (eT (eP D.int D.int))) p_order), .fz ((eT (eP D.int D.int)) p_order.2), .fz (D.int x2.1), .fz (D.int x2.2), u9, u10]) (fun _ _ => True) (x_cons (x_var rfl) x_nil) (ds := [(eT (eP D.int D.int)) p_order.2]) rfl it_T (by exact ⟨_, _, rfl⟩) hc15 ?_ ?_
    · intro s7 x8 cc env hI h
      obtain ⟨u9, u10, rfl⟩ := hI
      refine ⟨[.fz ((eP D.int (eT (eP D.int D.int))) p_order), .fz ((eT (eP D.int D.int)) p_order.2), .fz (D.int x2.1), .fz (D.int x2.2), .fz (D.int x8.1), .fz (D.int x8.2)], rfl, ?_⟩
      rcases isome h with ⟨c11, h⟩ | ⟨c11, h⟩
      · refine o_ite_t (x_and (x_op (x_cons (x_tup0 (x_cons (x_var rfl) (x_cons (x_var rfl) x_nil)) (ds := [D.int x2.1, D.int x8.2]) rfl rfl rfl) (x_cons (x_var rfl) x_nil)) (ds := [(eP D.int D.int) (x2.1, x8.2), (eT (eP D.int D.int)) p_order.2]) rfl (t_ninT (e := (eP D.int D.int))) rfl) (x_op (x_cons (x_tup0 (x_cons (x_var rfl) (x_cons (x_var rfl) x_nil)) (ds := [D.int x8.1, D.int x2.2]) rfl rfl rfl) (x_cons (x_var rfl) x_nil)) (ds := [(eP D.int D.int) (x8.1, x2.2), (eT (eP D.int D.int)) p_order.2]) rfl (t_ninT (e := (eP D.int D.int))) rfl)) c11 ?_
        obtain rfl := osome h
        exact o_ret (x_tup0 (x_cons (x_var rfl) (x_cons (x_var rfl) (x_cons (x_var rfl) (x_cons (x_var rfl) x_nil)))) (ds := [D.int x2.1, D.int x2.2, D.int x8.1, D.int x8.2]) rfl rfl rfl) rfl rfl ⟨rfl, trivial⟩
      · refine o_ite_f (x_and (x_op (x_cons (x_tup0 (x_cons (x_var rfl) (x_cons (x_var rfl) x_nil)) (ds := [D.int x2.1, D.int x8.2]) rfl rfl rfl) (x_cons (x_var rfl) x_nil)) (ds := [(eP D.int D.int) (x2.1, x8.2), (eT (eP D.int D.int)) p_order.2]) rfl (t_ninT (e := (eP D.int D.int))) rfl) (x_op (x_cons (x_tup0 (x_cons (x_var rfl) (x_cons (x_var rfl) x_nil)) (ds := [D.int x8.1, D.int x2.2]) rfl rfl rfl) (x_cons (x_var rfl) x_nil)) (ds := [(eP D.int D.int) (x8.1, x2.2), (eT (eP D.int D.int)) p_order.2]) rfl (t_ninT (e := (eP D.int D.int))) rfl)) c11 (o_nop ?_)
        obtain rfl := osome h
        exact ⟨.inl rfl, _, _, rfl⟩
    · intro fl e hq
      cases c15 with
      | inl s12 =>
        obtain ⟨rfl, u13, u14, rfl⟩ := hq
        obtain rfl := osome h
        exact ⟨.inl rfl, _, _, _, _, rfl⟩
      | inr r16 =>
        obtain ⟨rfl, hq⟩ := hq
        obtain rfl := osome h
        exact ⟨rfl, hq⟩
  · intro fl e hq
    cases c22 with
    | inl s17 =>
      obtain ⟨rfl, u18, u19, u20, u21, rfl⟩ := hq
      show Out _ _
      obtain rfl := osome h
      exact o_ret (o := _) x_cst rfl rfl rfl
    | inr r23 =>
      obtain ⟨rfl, hq⟩ := hq
      obtain rfl := osome h
      exact rfl

def f_ranked (p_lots : List (List (Int))) (p_falling : Bool) : Option (List (List (Int))) :=
  (ssetG (ltL ltI) 63 p_lots).bind fun v1 =>
  (compM (fun x2 => some true) (fun x2 => some (((x2.length : Nat) : Int), x2)) v1).bind fun l3 =>
  (compM (fun x4 => some true) (fun x4 => some x4.2) (srtT (ltP ltI (ltL ltI)) l3)).bind fun l5 =>
  if p_falling = true then
    some l5.reverse
  else
    some l5
theorem w_ranked (m : Nat) (hm : 1 ≤ m) (p_lots : List (List (Int))) (p_falling : Bool) {r : List (List (Int))} (h : f_ranked p_lots p_falling = some r) : evFn tb 1000 m kn_ranked [(eL (eT D.int)) p_lots, D.bl p_falling] = .ok ((eL (eT D.int)) r) true [] := by
  obtain ⟨m, rfl⟩ : ∃ k, m = k + 1 := ⟨m - 1, by omega⟩
  unfold f_ranked at h
  refine fn_pure tb_ranked rfl rfl (e0 := [.fz ((eL (eT D.int)) p_lots), .fz (D.bl p_falling), .no, .no, .no, .no]) rfl ?_
  show Out (evS (C m) _ _) _
  obtain ⟨v1, hv1, h⟩ := bsome h
  obtain ⟨l3, hl3, h⟩ := bsome h
  refine o_seq (e1 := [.fz ((eL (eT D.int)) p_lots), .fz (D.bl p_falling), .ow ((srtT (ltP ltI (ltL ltI)) l3).map (eP D.int (eT D.int))), .no, .no, .no]) (s_asg (x_op (x_cons (x_comp (eT D.int) (eP D.int (eT D.int)) [.fz ((eL (eT D.int)) p_lots), .fz (D.bl p_falling), .no, .no, .no, .no] (fun x2 => [.fz ((eL (eT D.int)) p_lots), .fz (D.bl p_falling), .no, .fz ((eT D.int) x2), .no, .no]) (x_cons (x_op (x_cons (x_var rfl) x_nil) (ds := [(eL (eT D.int)) p_lots]) rfl (t_ssetL hv1) rfl) x_nil) (ds := [(eL (eT D.int)) v1]) rfl it_L (e2 := [.fz ((eL (eT D.int)) p_lots), .fz (D.bl p_falling), .no, .no, .no, .no]) rfl rfl (fun _ => rfl) (fun _ => rfl) hl3 rfl (e3 := [.fz ((eL (eT D.int)) p_lots), .fz (D.bl p_falling), .no, .no, .no, .no]) rfl (fun x2 b h => by obtain rfl := osome h; exact x_cst) (fun x2 y h => by obtain rfl := osome h; exact ⟨_, (x_tup0 (x_cons (x_op (x_cons (x_var rfl) x_nil) (ds := [(eT D.int) x2]) rfl t_lenT rfl) (x_cons (x_var rfl) x_nil)) (ds := [D.int ((x2.length : Nat) : Int), (eT D.int) x2]) rfl rfl rfl), rfl, rfl⟩)) x_nil) (ds := [(eL (eP D.int (eT D.int))) l3]) rfl t_srtL rfl) rfl) ?_
  obtain ⟨l5, hl5, h⟩ := bsome h
  refine o_seq (e1 := [.fz ((eL (eT D.int)) p_lots), .fz (D.bl p_falling), .fz ((eL (eP D.int (eT D.int))) (srtT (ltP ltI (ltL ltI)) l3)), .no, .ow (l5.map (eT D.int)), .no]) (s_asg (x_comp (eP D.int (eT D.int)) (eT D.int) [.fz ((eL (eT D.int)) p_lots), .fz (D.bl p_falling), .fz ((eL (eP D.int (eT D.int))) (srtT (ltP ltI (ltL ltI)) l3)), .no, .no, .no] (fun x4 => [.fz ((eL (eT D.int)) p_lots), .fz (D.bl p_falling), .fz ((eL (eP D.int (eT D.int))) (srtT (ltP ltI (ltL ltI)) l3)), .fz ((eT D.int) x4.2), .no, .fz (D.int x4.1)]) (x_cons (x_own rfl) x_nil) (ds := [(eL (eP D.int (eT D.int))) (srtT (ltP ltI (ltL ltI)) l3)]) rfl it_L (e2 := [.fz ((eL (eT D.int)) p_lots), .fz (D.bl p_falling), .fz ((eL (eP D.int (eT D.int))) (srtT (ltP ltI (ltL ltI)) l3)), .no, .no, .no]) rfl rfl (fun _ => rfl) (fun _ => rfl) hl5 rfl (e3 := [.fz ((eL (eT D.int)) p_lots), .fz (D.bl p_falling), .fz ((eL (eP D.int (eT D.int))) (srtT (ltP ltI (ltL ltI)) l3)), .no, .no, .no]) rfl (fun x4 b h => by obtain rfl := osome h; exact x_cst) (fun x4 y h => by obtain rfl := osome h; exact ⟨_, (x_var rfl), rfl, rfl⟩)) rfl) ?_
  rcases isome h with ⟨c6, h⟩ | ⟨c6, h⟩
  · obtain rfl := osome h
    exact o_ret (o := _) (x_ite_t (x_var rfl) c6 (x_op (x_cons (x_own rfl) x_nil) (ds := [(eL (eT D.int)) l5]) rfl t_revL rfl)) rfl rfl rfl
  · obtain rfl := osome h
    exact o_ret (o := _) (x_ite_f (x_var rfl) c6 (x_own rfl)) rfl rfl rfl

def f_stretches_in (p_order : (Int × List ((Int × Int)))) : Option (List ((Int × Int))) :=
  (rgG p_order.1).bind fun v1 =>
  (compM (fun x2 => some true) (fun x2 => (f_under_in p_order x2).bind fun under_in3 => some under_in3) v1).bind fun l4 =>
  (rgG p_order.1).bind fun v5 =>
  (compM (fun x6 => some true) (fun x6 => (f_above_in p_order x6).bind fun above_in7 => some above_in7) v5).bind fun l8 =>
  (f_ranked l4 false).bind fun ranked9 =>
  (f_ranked l8 true).bind fun ranked10 =>
  (compM (fun x11 => some true) (fun x11 => (idxI ranked9 x11.1).bind fun v12 => (idxI ranked10 x11.2).bind fun v13 => some ((v12 + 1), (v13 + 1))) (l4.zip l8)).bind fun l14 =>
  some l14
theorem w_stretches_in (m : Nat) (hm : 2 ≤ m) (p_order : (Int × List ((Int × Int)))) {r : List ((Int × Int))} (h : f_stretches_in p_order = some r) : evFn tb 1000 m kn_stretches_in [(eP D.int (eT (eP D.int D.int))) p_order] = .ok ((eT (eP D.int D.int)) r) false [] := by
  obtain ⟨m, rfl⟩ : ∃ k, m = k + 1 := ⟨m - 1, by omega⟩
  unfold f_stretches_in at h
  refine fn_pure tb_stretches_in rfl rfl (e0 := [.fz ((eP D.int (eT (eP D.int D.int))) p_order), .no, .no, .no, .no, .no, .no, .no]) rfl ?_
  show Out (evS (C m) _ _) _
  obtain ⟨v1, hv1, h⟩ := bsome h
  obtain ⟨l4, hl4, h⟩ := bsome h
  refine o_seq (e1 := [.fz ((eP D.int (eT (eP D.int D.int))) p_order), .ow (l4.map (eT D.int)), .no, .no, .no, .no, .no, .no]) (s_asg (x_comp D.int (eT D.int) [.fz ((eP D.int (eT (eP D.int D.int))) p_order), .no, .no, .no, .no, .no, .no, .no] (fun x2 => [.fz ((eP D.int (eT (eP D.int D.int))) p_order), .no, .fz (D.int x2), .no, .no, .no, .no, .no]) (x_cons (x_op (x_cons (x_var rfl) (x_cons x_cst x_nil)) (ds := [(eP D.int (eT (eP D.int D.int))) p_order, D.int 0]) rfl (show _ = some (D.int p_order.1) from rfl) res_ix) x_nil) (ds := [D.int p_order.1]) rfl (iy_rg1 hv1) (e2 := [.fz ((eP D.int (eT (eP D.int D.int))) p_order), .no, .no, .no, .no, .no, .no, .no]) rfl rfl (fun _ => rfl) (fun _ => rfl) hl4 rfl (e3 := [.fz ((eP D.int (eT (eP D.int D.int))) p_order), .no, .no, .no, .no, .no, .no, .no]) rfl (fun x2 b h => by obtain rfl := osome h; exact x_cst) (fun x2 y h => by obtain ⟨under_in3, hunder_in3, h⟩ := bsome h; obtain rfl := osome h; exact ⟨_, (x_call0 (x_cons (x_var rfl) (x_cons (x_var rfl) x_nil)) io_under_in (ds := [(eP D.int (eT (eP D.int D.int))) p_order, D.int x2]) rfl (w_under_in _ (by omega) _ _ hunder_in3) rfl), rfl, rfl⟩)) rfl) ?_
  obtain ⟨v5, hv5, h⟩ := bsome h
  obtain ⟨l8, hl8, h⟩ := bsome h
  refine o_seq (e1 := [.fz ((eP D.int (eT (eP D.int D.int))) p_order), .ow (l4.map (eT D.int)), .no, .ow (l8.map (eT D.int)), .no, .no, .no, .no]) (s_asg (x_comp D.int (eT D.int) [.fz ((eP D.int (eT (eP D.int D.int))) p_order), .ow (l4.map (eT D.int)), .no, .no, .no, .no, .no, .no] (fun x6 => [.fz ((eP D.int (eT (eP D.int D.int))) p_order), .ow (l4.map (eT D.int)), .fz (D.int x6), .no, .no, .no, .no, .no]) (x_cons (x_op (x_cons (x_var rfl) (x_cons x_cst x_nil)) (ds := [(eP D.int (eT (eP D.int D.int))) p_order, D.int 0]) rfl (show _ = some (D.int p_order.1) from rfl) res_ix) x_nil) (ds := [D.int p_order.1]) rfl (iy_rg1 hv5) (e2 := [.fz ((eP D.int (eT (eP D.int D.int))) p_order), .ow (l4.map (eT D.int)), .no, .no, .no, .no, .no, .no]) rfl rfl (fun _ => rfl) (fun _ => rfl) hl8 rfl (e3 := [.fz ((eP D.int (eT (eP D.int D.int))) p_order), .ow (l4.map (eT D.int)), .no, .no, .no, .no, .no, .no]) rfl (fun x6 b h => by obtain rfl := osome h; exact x_cst) (fun x6 y h => by obtain ⟨above_in7, habove_in7, h⟩ := bsome h; obtain rfl := osome h; exact ⟨_, (x_call0 (x_cons (x_var rfl) (x_cons (x_var rfl) x_nil)) io_above_in (ds := [(eP D.int (eT (eP D.int D.int))) p_order, D.int x6]) rfl (w_above_in _ (by omega) _ _ habove_in7) rfl), rfl, rfl⟩)) rfl) ?_
  obtain ⟨ranked9, hranked9, h⟩ := bsome h
  obtain ⟨ranked10, hranked10, h⟩ := bsome h
  refine o_seq (e1 := [.fz ((eP D.int (eT (eP D.int D.int))) p_order), .fz ((eL (eT D.int)) l4), .no, .fz ((eL (eT D.int)) l8), .fz ((eL (eT D.int)) ranked9), .fz ((eL (eT D.int)) ranked10), .no, .no]) (s_unp (x_tup (e2 := _) (x_cons (x_call (e2 := [.fz ((eP D.int (eT (eP D.int D.int))) p_order), .fz ((eL (eT D.int)) l4), .no, .ow (l8.map (eT D.int)), .no, .no, .no, .no]) (x_cons (x_own rfl) (x_cons x_cst x_nil)) io_ranked (ds := [(eL (eT D.int)) l4, D.bl false]) rfl (w_ranked _ (by omega) _ _ hranked9) rfl rfl) (x_cons (x_call (e2 := [.fz ((eP D.int (eT (eP D.int D.int))) p_order), .fz ((eL (eT D.int)) l4), .no, .fz ((eL (eT D.int)) l8), .no, .no, .no, .no]) (x_cons (x_own rfl) (x_cons x_cst x_nil)) io_ranked (ds := [(eL (eT D.int)) l8, D.bl true]) rfl (w_ranked _ (by omega) _ _ hranked10) rfl rfl) x_nil)) (ds := [(eL (eT D.int)) ranked9, (eL (eT D.int)) ranked10]) rfl rfl rfl) rfl) ?_
  obtain ⟨l14, hl14, h⟩ := bsome h
  obtain rfl := osome h
  exact o_ret (o := _) (x_op (x_cons (x_comp (eP (eT D.int) (eT D.int)) (eP D.int D.int) [.fz ((eP D.int (eT (eP D.int D.int))) p_order), .fz ((eL (eT D.int)) l4), .no, .fz ((eL (eT D.int)) l8), .fz ((eL (eT D.int)) ranked9), .fz ((eL (eT D.int)) ranked10), .no, .no] (fun x11 => [.fz ((eP D.int (eT (eP D.int D.int))) p_order), .fz ((eL (eT D.int)) l4), .no, .fz ((eL (eT D.int)) l8), .fz ((eL (eT D.int)) ranked9), .fz ((eL (eT D.int)) ranked10), .fz ((eT D.int) x11.1), .fz ((eT D.int) x11.2)]) (x_cons (x_var rfl) (x_cons (x_var rfl) x_nil)) (ds := [(eL (eT D.int)) l4, (eL (eT D.int)) l8]) rfl it_zipL (e2 := [.fz ((eP D.int (eT (eP D.int D.int))) p_order), .fz ((eL (eT D.int)) l4), .no, .fz ((eL (eT D.int)) l8), .fz ((eL (eT D.int)) ranked9), .fz ((eL (eT D.int)) ranked10), .no, .no]) rfl rfl (fun _ => rfl) (fun _ => rfl) hl14 rfl (e3 := [.fz ((eP D.int (eT (eP D.int D.int))) p_order), .fz ((eL (eT D.int)) l4), .no, .fz ((eL (eT D.int)) l8), .fz ((eL (eT D.int)) ranked9), .fz ((eL (eT D.int)) ranked10), .no, .no]) rfl (fun x11 b h => by obtain rfl := osome h; exact x_cst) (fun x11 y h => by obtain ⟨v12, hv12, h⟩ := bsome h; obtain ⟨v13, hv13, h⟩ := bsome h; obtain rfl := osome h; exact ⟨_, (x_tup0 (x_cons (x_op (x_cons (x_meth (x_var rfl) rfl (x_cons (x_var rfl) x_nil) rfl (ds := [(eL (eT D.int)) ranked9, (eT D.int) x11.1]) rfl (t_indexL (e := (eT D.int)) hv12) rfl) (x_cons x_cst x_nil)) (ds := [D.int v12, D.int 1]) rfl t_add rfl) (x_cons (x_op (x_cons (x_meth (x_var rfl) rfl (x_cons (x_var rfl) x_nil) rfl (ds := [(eL (eT D.int)) ranked10, (eT D.int) x11.2]) rfl (t_indexL (e := (eT D.int)) hv13) rfl) (x_cons x_cst x_nil)) (ds := [D.int v13, D.int 1]) rfl t_add rfl) x_nil)) (ds := [D.int (v12 + 1), D.int (v13 + 1)]) rfl rfl rfl), rfl, rfl⟩)) x_nil) (ds := [(eL (eP D.int D.int)) l14]) rfl t_tupL rfl) rfl rfl rfl

def f_are_stretches_in (p_thing : List ((Int × Int))) : Option (Bool) :=
  if ((!true) || decide (((p_thing.length : Nat) : Int) > 60)) = true then
    some false
  else
    (compM (fun x2 => some true) (fun x2 => (f_is_long_P x2 2).bind fun is_long3 => (andO is_long3 ((f_are_within_P [x2.1, x2.2] 1 60).bind fun are_within4 => some (are_within4 && decide (x2.1 ≤ x2.2)))).bind fun v5 => some v5) p_thing).bind fun l6 =>
    some (l6.all id)
theorem w_are_stretches_in (m : Nat) (hm : 4 ≤ m) (p_thing : List ((Int × Int))) {r : Bool} (h : f_are_stretches_in p_thing = some r) : evFn tb 1000 m kn_are_stretches_in [(eT (eP D.int D.int)) p_thing] = .ok (D.bl r) false [] := by
  obtain ⟨m, rfl⟩ : ∃ k, m = k + 1 := ⟨m - 1, by omega⟩
  unfold f_are_stretches_in at h
  refine fn_pure tb_are_stretches_in rfl rfl (e0 := [.fz ((eT (eP D.int D.int)) p_thing), .no]) rfl ?_
  show Out (evS (C m) _ _) _
  rcases isome h with ⟨c1, h⟩ | ⟨c1, h⟩
  · refine o_seqO (o_ite_t (x_or (x_not (x_op (x_cons (x_var rfl) x_nil) (ds := [(eT (eP D.int D.int)) p_thing]) rfl rfl rfl)) (x_op (x_cons (x_op (x_cons (x_var rfl) x_nil) (ds := [(eT (eP D.int D.int)) p_thing]) rfl t_lenT rfl) (x_cons x_cst x_nil)) (ds := [D.int ((p_thing.length : Nat) : Int), D.int 60]) rfl t_gt rfl)) c1 ?_)
    obtain rfl := osome h
    exact o_ret (o := _) x_cst rfl rfl rfl
  · refine o_seqO (o_ite_f (x_or (x_not (x_op (x_cons (x_var rfl) x_nil) (ds := [(eT (eP D.int D.int)) p_thing]) rfl rfl rfl)) (x_op (x_cons (x_op (x_cons (x_var rfl) x_nil) (ds := [(eT (eP D.int D.int)) p_thing]) rfl t_lenT rfl) (x_cons x_cst x_nil)) (ds := [D.int ((p_thing.length : Nat) : Int), D.int 60]) rfl t_gt rfl)) c1 (o_nop ?_))
    show Out _ _
    obtain ⟨l6, hl6, h⟩ := bsome h
    obtain rfl := osome h
    exact o_ret (o := _) (x_op (x_cons (x_comp (eP D.int D.int) D.bl [.fz ((eT (eP D.int D.int)) p_thing), .no] (fun x2 => [.fz ((eT (eP D.int D.int)) p_thing), .fz ((eP D.int D.int) x2)]) (x_cons (x_var rfl) x_nil) (ds := [(eT (eP D.int D.int)) p_thing]) rfl it_T (e2 := [.fz ((eT (eP D.int D.int)) p_thing), .no]) rfl rfl (fun _ => rfl) (fun _ => rfl) hl6 rfl (e3 := [.fz ((eT (eP D.int D.int)) p_thing), .no]) rfl (fun x2 b h => by obtain rfl := osome h; exact x_cst) (fun x2 y h => by obtain ⟨is_long3, his_long3, h⟩ := bsome h; obtain ⟨v5, hv5, h⟩ := bsome h; obtain rfl := osome h; exact ⟨_, (x_andO (x_callS (x_cons (x_var rfl) (x_cons x_cst x_nil)) io_is_long (ds := [(eP D.int D.int) x2, D.int 2]) rfl (w_is_long_P _ (by omega) _ _ his_long3) rfl) hv5 fun _ b2 h => by obtain ⟨are_within4, hare_within4, h⟩ := bsome h; obtain rfl := osome h; exact (x_and (x_callS (x_cons (x_var rfl) (x_cons x_cst (x_cons x_cst x_nil))) io_are_within (ds := [(eT D.int) [x2.1, x2.2], D.int 1, D.int 60]) rfl (w_are_within_P _ (by omega) _ _ _ hare_within4) rfl) (x_op (x_cons (x_op (x_cons (x_var rfl) (x_cons x_cst x_nil)) (ds := [(eP D.int D.int) x2, D.int 0]) rfl (show _ = some (D.int x2.1) from rfl) res_ix) (x_cons (x_op (x_cons (x_var rfl) (x_cons x_cst x_nil)) (ds := [(eP D.int D.int) x2, D.int 1]) rfl (show _ = some (D.int x2.2) from rfl) res_ix) x_nil)) (ds := [D.int x2.1, D.int x2.2]) rfl t_le rfl))), rfl, rfl⟩)) x_nil) (ds := [(eL D.bl) l6]) rfl t_all rfl) rfl rfl rfl

def f_sure_stretches (p_value : Mx (eT (eP D.int D.int))) : Option (List ((Int × Int))) :=
  (f_tupled p_value).bind fun tupled1 =>
  (f_are_stretches_in tupled1).bind fun are_stretches_in2 =>
  if (!are_stretches_in2) = true then
    none
  else
    some tupled1
theorem w_sure_stretches (m : Nat) (hm : 8 ≤ m) (p_value : Mx (eT (eP D.int D.int))) {r : List ((Int × Int))} (h : f_sure_stretches p_value = some r) : evFn tb 1000 m kn_sure_stretches [Mx.d p_value] = .ok ((eT (eP D.int D.int)) r) false [] := by
  obtain ⟨m, rfl⟩ : ∃ k, m = k + 1 := ⟨m - 1, by omega⟩
  unfold f_sure_stretches at h
  refine fn_pure tb_sure_stretches rfl rfl (e0 := [.fz (Mx.d p_value), .no]) rfl ?_
  show Out (evS (C m) _ _) _
  obtain ⟨tupled1, htupled1, h⟩ := bsome h
  refine o_seq (e1 := [.fz (Mx.d p_value), .fz ((eT (eP D.int D.int)) tupled1)]) (s_asg (x_call0 (x_cons (x_var rfl) x_nil) io_tupled (ds := [Mx.d p_value]) rfl (w_tupled _ (by omega) _ htupled1) rfl) rfl) ?_
  obtain ⟨are_stretches_in2, hare_stretches_in2, h⟩ := bsome h
  rcases isome h with ⟨c3, h⟩ | ⟨c3, h⟩
  · refine o_seqO (o_ite_t (x_not (x_callS (x_cons (x_var rfl) x_nil) io_are_stretches_in (ds := [(eT (eP D.int D.int)) tupled1]) rfl (w_are_stretches_in _ (by omega) _ hare_stretches_in2) rfl)) c3 ?_)
    cases h
  · refine o_seqO (o_ite_f (x_not (x_callS (x_cons (x_var rfl) x_nil) io_are_stretches_in (ds := [(eT (eP D.int D.int)) tupled1]) rfl (w_are_stretches_in _ (by omega) _ hare_stretches_in2) rfl)) c3 (o_nop ?_))
    show Out _ _
    obtain rfl := osome h
    exact o_ret (o := _) (x_var rfl) rfl rfl rfl

def f_order_in (p_stretches : List ((Int × Int))) : Option ((Int × List ((Int × Int)))) :=
  (rgG ((p_stretches.length : Nat) : Int)).bind fun v1 =>
  (comp2M (fun x2 => some true) (fun x2 => (rgG ((p_stretches.length : Nat) : Int)).bind fun v4 => some v4) (fun x2 x3 => (ixG p_stretches x2).bind fun v5 => (ixG p_stretches x3).bind fun v6 => some (decide (v5.2 < v6.1))) (fun x2 x3 => some (x2, x3)) v1).bind fun l7 =>
  some (((p_stretches.length : Nat) : Int), l7)
theorem w_order_in (m : Nat) (hm : 1 ≤ m) (p_stretches : List ((Int × Int))) {r : (Int × List ((Int × Int)))} (h : f_order_in p_stretches = some r) : evFn tb 1000 m kn_order_in [(eT (eP D.int D.int)) p_stretches] = .ok ((eP D.int (eT (eP D.int D.int))) r) false [] := by
  obtain ⟨m, rfl⟩ : ∃ k, m = k + 1 := ⟨m - 1, by omega⟩
  unfold f_order_in at h
  refine fn_pure tb_order_in rfl rfl (e0 := [.fz ((eT (eP D.int D.int)) p_stretches), .no, .no, .no, .no]) rfl ?_
  show Out (evS (C m) _ _) _
  refine o_seq (e1 := [.fz ((eT (eP D.int D.int)) p_stretches), .fz (D.int ((p_stretches.length : Nat) : Int)), .no, .no, .no]) (s_asg (x_op (x_cons (x_var rfl) x_nil) (ds := [(eT (eP D.int D.int)) p_stretches]) rfl t_lenT rfl) rfl) ?_
  obtain ⟨v1, hv1, h⟩ := bsome h
  obtain ⟨l7, hl7, h⟩ := bsome h
  refine o_seq (e1 := [.fz ((eT (eP D.int D.int)) p_stretches), .fz (D.int ((p_stretches.length : Nat) : Int)), .ow (l7.map (eP D.int D.int)), .no, .no]) (s_asg (x_comp2 D.int D.int (eP D.int D.int) [.fz ((eT (eP D.int D.int)) p_stretches), .fz (D.int ((p_stretches.length : Nat) : Int)), .no, .no, .no] (fun x2 => [.fz ((eT (eP D.int D.int)) p_stretches), .fz (D.int ((p_stretches.length : Nat) : Int)), .no, .fz (D.int x2), .no]) (fun x2 x3 => [.fz ((eT (eP D.int D.int)) p_stretches), .fz (D.int ((p_stretches.length : Nat) : Int)), .no, .fz (D.int x2), .fz (D.int x3)]) (x_cons (x_var rfl) x_nil) (ds := [D.int ((p_stretches.length : Nat) : Int)]) rfl (iy_rg1 hv1) (e2 := [.fz ((eT (eP D.int D.int)) p_stretches), .fz (D.int ((p_stretches.length : Nat) : Int)), .no, .no, .no]) rfl rfl (fun _ => rfl) (fun _ => rfl) (fun _ _ => rfl) (fun _ _ => rfl) hl7 rfl (e3 := [.fz ((eT (eP D.int D.int)) p_stretches), .fz (D.int ((p_stretches.length : Nat) : Int)), .no, .no, .no]) rfl (fun x2 b h => by obtain rfl := osome h; exact x_cst) (fun x2 l h => by obtain ⟨v4, hv4, h⟩ := bsome h; obtain rfl := osome h; exact ⟨_, _, (x_cons (x_var rfl) x_nil), rfl, rfl, (iy_rg1 hv4)⟩) (fun x2 x3 b h => by obtain ⟨v5, hv5, h⟩ := bsome h; obtain ⟨v6, hv6, h⟩ := bsome h; obtain rfl := osome h; exact (x_op (x_cons (x_op (x_cons (x_op (x_cons (x_var rfl) (x_cons (x_var rfl) x_nil)) (ds := [(eT (eP D.int D.int)) p_stretches, D.int x2]) rfl (t_ixT hv5) res_ix) (x_cons x_cst x_nil)) (ds := [(eP D.int D.int) v5, D.int 1]) rfl (show _ = some (D.int v5.2) from rfl) res_ix) (x_cons (x_op (x_cons (x_op (x_cons (x_var rfl) (x_cons (x_var rfl) x_nil)) (ds := [(eT (eP D.int D.int)) p_stretches, D.int x3]) rfl (t_ixT hv6) res_ix) (x_cons x_cst x_nil)) (ds := [(eP D.int D.int) v6, D.int 0]) rfl (show _ = some (D.int v6.1) from rfl) res_ix) x_nil)) (ds := [D.int v5.2, D.int v6.1]) rfl t_lt rfl)) (fun x2 x3 y h => by obtain rfl := osome h; exact ⟨_, (x_tup0 (x_cons (x_var rfl) (x_cons (x_var rfl) x_nil)) (ds := [D.int x2, D.int x3]) rfl rfl rfl), rfl, rfl⟩)) rfl) ?_
  obtain rfl := osome h
  exact o_ret (o := _) (x_tup0 (x_cons (x_var rfl) (x_cons (x_op (x_cons (x_own rfl) x_nil) (ds := [(eL (eP D.int D.int)) l7]) rfl t_tupL rfl) x_nil)) (ds := [D.int ((p_stretches.length : Nat) : Int), (eT (eP D.int D.int)) l7]) rfl rfl rfl) rfl rfl rfl

def f_is_tight_in (p_stretches : List ((Int × Int))) : Option (Bool) :=
  (compM (fun x1 => some true) (fun x1 => some x1.2) p_stretches).bind fun l2 =>
  (catG [0] l2).bind fun v3 =>
  (maxG v3).bind fun v4 =>
  (lrg2G 1 (v4 + 1)).bind fun v5 =>
  (compM (fun x6 => some true) (fun x6 => some x6.1) p_stretches).bind fun l7 =>
  (ssetG ltI 4000 l7).bind fun v8 =>
  (andO (decide (v8 = v5)) ((compM (fun x9 => some true) (fun x9 => some x9.2) p_stretches).bind fun l10 => (ssetG ltI 4000 l10).bind fun v11 => some (decide (v11 = v5)))).bind fun v12 =>
  some v12
theorem w_is_tight_in (m : Nat) (hm : 1 ≤ m) (p_stretches : List ((Int × Int))) {r : Bool} (h : f_is_tight_in p_stretches = some r) : evFn tb 1000 m kn_is_tight_in [(eT (eP D.int D.int)) p_stretches] = .ok (D.bl r) false [] := by
  obtain ⟨m, rfl⟩ : ∃ k, m = k + 1 := ⟨m - 1, by omega⟩
  unfold f_is_tight_in at h
  refine fn_pure tb_is_tight_in rfl rfl (e0 := [.fz ((eT (eP D.int D.int)) p_stretches), .no, .no, .no]) rfl ?_
  show Out (evS (C m) _ _) _
  obtain ⟨l2, hl2, h⟩ := bsome h
  obtain ⟨v3, hv3, h⟩ := bsome h
  obtain ⟨v4, hv4, h⟩ := bsome h
  refine o_seq (e1 := [.fz ((eT (eP D.int D.int)) p_stretches), .fz (D.int v4), .no, .no]) (s_asg (x_op (x_cons (x_op (x_cons (x_lst0 (x_cons x_cst x_nil) (ds := [D.int 0]) rfl rfl rfl) (x_cons (x_comp (eP D.int D.int) D.int [.fz ((eT (eP D.int D.int)) p_stretches), .no, .no, .no] (fun x1 => [.fz ((eT (eP D.int D.int)) p_stretches), .no, .fz ((eP D.int D.int) x1), .no]) (x_cons (x_var rfl) x_nil) (ds := [(eT (eP D.int D.int)) p_stretches]) rfl it_T (e2 := [.fz ((eT (eP D.int D.int)) p_stretches), .no, .no, .no]) rfl rfl (fun _ => rfl) (fun _ => rfl) hl2 rfl (e3 := [.fz ((eT (eP D.int D.int)) p_stretches), .no, .no, .no]) rfl (fun x1 b h => by obtain rfl := osome h; exact x_cst) (fun x1 y h => by obtain rfl := osome h; exact ⟨_, (x_op (x_cons (x_var rfl) (x_cons x_cst x_nil)) (ds := [(eP D.int D.int) x1, D.int 1]) rfl (show _ = some (D.int x1.2) from rfl) res_ix), rfl, rfl⟩)) x_nil)) (ds := [(eL D.int) [0], (eL D.int) l2]) rfl (t_catL hv3) rfl) x_nil) (ds := [(eL D.int) v3]) rfl (t_maxL hv4) rfl) rfl) ?_
  obtain ⟨v5, hv5, h⟩ := bsome h
  refine o_seq (e1 := [.fz ((eT (eP D.int D.int)) p_stretches), .fz (D.int v4), .no, .ow (v5.map D.int)]) (s_asg (x_op (x_cons x_cst (x_cons (x_op (x_cons (x_var rfl) (x_cons x_cst x_nil)) (ds := [D.int v4, D.int 1]) rfl t_add rfl) x_nil)) (ds := [D.int 1, D.int (v4 + 1)]) rfl (t_lrg2 hv5) rfl) rfl) ?_
  obtain ⟨l7, hl7, h⟩ := bsome h
  obtain ⟨v8, hv8, h⟩ := bsome h
  obtain ⟨v12, hv12, h⟩ := bsome h
  obtain rfl := osome h
  exact o_ret (o := _) (x_andO (x_op (x_cons (x_op (x_cons (x_comp (eP D.int D.int) D.int [.fz ((eT (eP D.int D.int)) p_stretches), .fz (D.int v4), .no, .ow (v5.map D.int)] (fun x6 => [.fz ((eT (eP D.int D.int)) p_stretches), .fz (D.int v4), .fz ((eP D.int D.int) x6), .ow (v5.map D.int)]) (x_cons (x_var rfl) x_nil) (ds := [(eT (eP D.int D.int)) p_stretches]) rfl it_T (e2 := [.fz ((eT (eP D.int D.int)) p_stretches), .fz (D.int v4), .no, .ow (v5.map D.int)]) rfl rfl (fun _ => rfl) (fun _ => rfl) hl7 rfl (e3 := [.fz ((eT (eP D.int D.int)) p_stretches), .fz (D.int v4), .no, .ow (v5.map D.int)]) rfl (fun x6 b h => by obtain rfl := osome h; exact x_cst) (fun x6 y h => by obtain rfl := osome h; exact ⟨_, (x_op (x_cons (x_var rfl) (x_cons x_cst x_nil)) (ds := [(eP D.int D.int) x6, D.int 0]) rfl (show _ = some (D.int x6.1) from rfl) res_ix), rfl, rfl⟩)) x_nil) (ds := [(eL D.int) l7]) rfl (t_ssetL hv8) rfl) (x_cons (x_own rfl) x_nil)) (ds := [(eL D.int) v8, (eL D.int) v5]) rfl (t_eq (e := (eL D.int))) rfl) hv12 fun _ b2 h => by obtain ⟨l10, hl10, h⟩ := bsome h; obtain ⟨v11, hv11, h⟩ := bsome h; obtain rfl := osome h; exact (x_op (x_cons (x_op (x_cons (x_comp (eP D.int D.int) D.int [.fz ((eT (eP D.int D.int)) p_stretches), .fz (D.int v4), .no, .ow (v5.map D.int)] (fun x9 => [.fz ((eT (eP D.int D.int)) p_stretches), .fz (D.int v4), .fz ((eP D.int D.int) x9), .ow (v5.map D.int)]) (x_cons (x_var rfl) x_nil) (ds := [(eT (eP D.int D.int)) p_stretches]) rfl it_T (e2 := [.fz ((eT (eP D.int D.int)) p_stretches), .fz (D.int v4), .no, .ow (v5.map D.int)]) rfl rfl (fun _ => rfl) (fun _ => rfl) hl10 rfl (e3 := [.fz ((eT (eP D.int D.int)) p_stretches), .fz (D.int v4), .no, .ow (v5.map D.int)]) rfl (fun x9 b h => by obtain rfl := osome h; exact x_cst) (fun x9 y h => by obtain rfl := osome h; exact ⟨_, (x_op (x_cons (x_var rfl) (x_cons x_cst x_nil)) (ds := [(eP D.int D.int) x9, D.int 1]) rfl (show _ = some (D.int x9.2) from rfl) res_ix), rfl, rfl⟩)) x_nil) (ds := [(eL D.int) l10]) rfl (t_ssetL hv11) rfl) (x_cons (x_own rfl) x_nil)) (ds := [(eL D.int) v11, (eL D.int) v5]) rfl (t_eq (e := (eL D.int))) rfl)) rfl rfl rfl

def f_sure_fitting (p_value : Mx (eP D.int (eT (eP D.int D.int)))) : Option ((Int × List ((Int × Int)))) :=
  (f_sure_order p_value).bind fun sure_order1 =>
  (f_apart_in sure_order1).bind fun apart_in2 =>
  if apart_in2.isSome = true then
    none
  else
    some sure_order1
theorem w_sure_fitting (m : Nat) (hm : 9 ≤ m) (p_value : Mx (eP D.int (eT (eP D.int D.int)))) {r : (Int × List ((Int × Int)))} (h : f_sure_fitting p_value = some r) : evFn tb 1000 m kn_sure_fitting [Mx.d p_value] = .ok ((eP D.int (eT (eP D.int D.int))) r) false [] := by
  obtain ⟨m, rfl⟩ : ∃ k, m = k + 1 := ⟨m - 1, by omega⟩
  unfold f_sure_fitting at h
  refine fn_pure tb_sure_fitting rfl rfl (e0 := [.fz (Mx.d p_value), .no]) rfl ?_
  show Out (evS (C m) _ _) _
  obtain ⟨sure_order1, hsure_order1, h⟩ := bsome h
  refine o_seq (e1 := [.fz (Mx.d p_value), .fz ((eP D.int (eT (eP D.int D.int))) sure_order1)]) (s_asg (x_call0 (x_cons (x_var rfl) x_nil) io_sure_order (ds := [Mx.d p_value]) rfl (w_sure_order _ (by omega) _ hsure_order1) rfl) rfl) ?_
  obtain ⟨apart_in2, hapart_in2, h⟩ := bsome h
  rcases isome h with ⟨c3, h⟩ | ⟨c3, h⟩
  · refine o_seqO (o_ite_t (x_op (x_cons (x_call0 (x_cons (x_var rfl) x_nil) io_apart_in (ds := [(eP D.int (eT (eP D.int D.int))) sure_order1]) rfl (w_apart_in _ (by omega) _ hapart_in2) rfl) x_nil) (ds := [(eO (eP4 D.int D.int D.int D.int)) apart_in2]) rfl (t_isnnO fun _ => rfl) rfl) c3 ?_)
    cases h
  · refine o_seqO (o_ite_f (x_op (x_cons (x_call0 (x_cons (x_var rfl) x_nil) io_apart_in (ds := [(eP D.int (eT (eP D.int D.int))) sure_order1]) rfl (w_apart_in _ (by omega) _ hapart_in2) rfl) x_nil) (ds := [(eO (eP4 D.int D.int D.int D.int)) apart_in2]) rfl (t_isnnO fun _ => rfl) rfl) c3 (o_nop ?_))
    show Out _ _
    obtain rfl := osome h
    exact o_ret (o := _) (x_var rfl) rfl rfl rfl

def f_fits (p_order : Mx (eP D.int (eT (eP D.int D.int)))) : Option (Bool) :=
  (f_sure_order p_order).bind fun sure_order1 =>
  (f_apart_in sure_order1).bind fun apart_in2 =>
  some apart_in2.isNone
theorem w_fits (m : Nat) (hm : 9 ≤ m) (p_order : Mx (eP D.int (eT (eP D.int D.int)))) {r : Bool} (h : f_fits p_order = some r) : evFn tb 1000 m kn_fits [Mx.d p_order] = .ok (D.bl r) false [] := by
  obtain ⟨m, rfl⟩ : ∃ k, m = k + 1 := ⟨m - 1, by omega⟩
  unfold f_fits at h
  refine fn_pure tb_fits rfl rfl (e0 := [.fz (Mx.d p_order)]) rfl ?_
  show Out (evS (C m) _ _) _
  obtain ⟨sure_order1, hsure_order1, h⟩ := bsome h
  obtain ⟨apart_in2, hapart_in2, h⟩ := bsome h
  obtain rfl := osome h
  exact o_ret (o := _) (x_op (x_cons (x_call0 (x_cons (x_call0 (x_cons (x_var rfl) x_nil) io_sure_order (ds := [Mx.d p_order]) rfl (w_sure_order _ (by omega) _ hsure_order1) rfl) x_nil) io_apart_in (ds := [(eP D.int (eT (eP D.int D.int))) sure_order1]) rfl (w_apart_in _ (by omega) _ hapart_in2) rfl) x_nil) (ds := [(eO (eP4 D.int D.int D.int D.int)) apart_in2]) rfl (t_isnO fun _ => rfl) rfl) rfl rfl rfl

def f_stretches_of (p_order : Mx (eP D.int (eT (eP D.int D.int)))) : Option (List ((Int × Int))) :=
  (f_sure_fitting p_order).bind fun sure_fitting1 =>
  (f_stretches_in sure_fitting1).bind fun stretches_in2 =>
  some stretches_in2
theorem w_stretches_of (m : Nat) (hm : 10 ≤ m) (p_order : Mx (eP D.int (eT (eP D.int D.int)))) {r : List ((Int × Int))} (h : f_stretches_of p_order = some r) : evFn tb 1000 m kn_stretches_of [Mx.d p_order] = .ok ((eT (eP D.int D.int)) r) false [] := by
  obtain ⟨m, rfl⟩ : ∃ k, m = k + 1 := ⟨m - 1, by omega⟩
  unfold f_stretches_of at h
  refine fn_pure tb_stretches_of rfl rfl (e0 := [.fz (Mx.d p_order)]) rfl ?_
  show Out (evS (C m) _ _) _
  obtain ⟨sure_fitting1, hsure_fitting1, h⟩ := bsome h
  obtain ⟨stretches_in2, hstretches_in2, h⟩ := bsome h
  obtain rfl := osome h
  exact o_ret (o := _) (x_call0 (x_cons (x_call0 (x_cons (x_var rfl) x_nil) io_sure_fitting (ds := [Mx.d p_order]) rfl (w_sure_fitting _ (by omega) _ hsure_fitting1) rfl) x_nil) io_stretches_in (ds := [(eP D.int (eT (eP D.int D.int))) sure_fitting1]) rfl (w_stretches_in _ (by omega) _ hstretches_in2) rfl) rfl rfl rfl

def f_order_of (p_stretches : Mx (eT (eP D.int D.int))) : Option ((Int × List ((Int × Int)))) :=
  (f_sure_stretches p_stretches).bind fun sure_stretches1 =>
  if decide (((sure_stretches1.length : Nat) : Int) > 20) = true then
    none
  else
    (f_order_in sure_stretches1).bind fun order_in3 =>
    some order_in3
theorem w_order_of (m : Nat) (hm : 9 ≤ m) (p_stretches : Mx (eT (eP D.int D.int))) {r : (Int × List ((Int × Int)))} (h : f_order_of p_stretches = some r) : evFn tb 1000 m kn_order_of [Mx.d p_stretches] = .ok ((eP D.int (eT (eP D.int D.int))) r) false [] := by
  obtain ⟨m, rfl⟩ : ∃ k, m = k + 1 := ⟨m - 1, by omega⟩
  unfold f_order_of at h
  refine fn_pure tb_order_of rfl rfl (e0 := [.fz (Mx.d p_stretches), .no]) rfl ?_
  show Out (evS (C m) _ _) _
  obtain ⟨sure_stretches1, hsure_stretches1, h⟩ := bsome h
  refine o_seq (e1 := [.fz (Mx.d p_stretches), .fz ((eT (eP D.int D.int)) sure_stretches1)]) (s_asg (x_call0 (x_cons (x_var rfl) x_nil) io_sure_stretches (ds := [Mx.d p_stretches]) rfl (w_sure_stretches _ (by omega) _ hsure_stretches1) rfl) rfl) ?_
  rcases isome h with ⟨c2, h⟩ | ⟨c2, h⟩
  · refine o_seqO (o_ite_t (x_op (x_cons (x_op (x_cons (x_var rfl) x_nil) (ds := [(eT (eP D.int D.int)) sure_stretches1]) rfl t_lenT rfl) (x_cons x_cst x_nil)) (ds := [D.int ((sure_stretches1.length : Nat) : Int), D.int 20]) rfl t_gt rfl) c2 ?_)
    cases h
  · refine o_seqO (o_ite_f (x_op (x_cons (x_op (x_cons (x_var rfl) x_nil) (ds := [(eT (eP D.int D.int)) sure_stretches1]) rfl t_lenT rfl) (x_cons x_cst x_nil)) (ds := [D.int ((sure_stretches1.length : Nat) : Int), D.int 20]) rfl t_gt rfl) c2 (o_nop ?_))
    show Out _ _
    obtain ⟨order_in3, horder_in3, h⟩ := bsome h
    obtain rfl := osome h
    exact o_ret (o := _) (x_call0 (x_cons (x_var rfl) x_nil) io_order_in (ds := [(eT (eP D.int D.int)) sure_stretches1]) rfl (w_order_in _ (by omega) _ horder_in3) rfl) rfl rfl rfl

def f_are_tight (p_stretches : Mx (eT (eP D.int D.int))) : Option (Bool) :=
  (f_sure_stretches p_stretches).bind fun sure_stretches1 =>
  (f_is_tight_in sure_stretches1).bind fun is_tight_in2 =>
  some is_tight_in2
theorem w_are_tight (m : Nat) (hm : 9 ≤ m) (p_stretches : Mx (eT (eP D.int D.int))) {r : Bool} (h : f_are_tight p_stretches = some r) : evFn tb 1000 m kn_are_tight [Mx.d p_stretches] = .ok (D.bl r) false [] := by
  obtain ⟨m, rfl⟩ : ∃ k, m = k + 1 := ⟨m - 1, by omega⟩
  unfold f_are_tight at h
  refine fn_pure tb_are_tight rfl rfl (e0 := [.fz (Mx.d p_stretches)]) rfl ?_
  show Out (evS (C m) _ _) _
  obtain ⟨sure_stretches1, hsure_stretches1, h⟩ := bsome h
  obtain ⟨is_tight_in2, his_tight_in2, h⟩ := bsome h
  obtain rfl := osome h
  exact o_ret (o := _) (x_callS (x_cons (x_call0 (x_cons (x_var rfl) x_nil) io_sure_stretches (ds := [Mx.d p_stretches]) rfl (w_sure_stretches _ (by omega) _ hsure_stretches1) rfl) x_nil) io_is_tight_in (ds := [(eT (eP D.int D.int)) sure_stretches1]) rfl (w_is_tight_in _ (by omega) _ his_tight_in2) rfl) rfl rfl rfl

def f_tightened (p_stretches : Mx (eT (eP D.int D.int))) : Option (List ((Int × Int))) :=
  (f_order_of p_stretches).bind fun order_of1 =>
  (f_stretches_in order_of1).bind fun stretches_in2 =>
  some stretches_in2
theorem w_tightened (m : Nat) (hm : 10 ≤ m) (p_stretches : Mx (eT (eP D.int D.int))) {r : List ((Int × Int))} (h : f_tightened p_stretches = some r) : evFn tb 1000 m kn_tightened [Mx.d p_stretches] = .ok ((eT (eP D.int D.int)) r) false [] := by
  obtain ⟨m, rfl⟩ : ∃ k, m = k + 1 := ⟨m - 1, by omega⟩
  unfold f_tightened at h
  refine fn_pure tb_tightened rfl rfl (e0 := [.fz (Mx.d p_stretches)]) rfl ?_
  show Out (evS (C m) _ _) _
  obtain ⟨order_of1, horder_of1, h⟩ := bsome h
  obtain ⟨stretches_in2, hstretches_in2, h⟩ := bsome h
  obtain rfl := osome h
  exact o_ret (o := _) (x_call0 (x_cons (x_call0 (x_cons (x_var rfl) x_nil) io_order_of (ds := [Mx.d p_stretches]) rfl (w_order_of _ (by omega) _ horder_of1) rfl) x_nil) io_stretches_in (ds := [(eP D.int (eT (eP D.int D.int))) order_of1]) rfl (w_stretches_in _ (by omega) _ hstretches_in2) rfl) rfl rfl rfl

def f__law_of (tin : St) (p_goods : List (Int)) : Option (Int × St) :=
  (f__law_take tin ((p_goods.length : Nat) : Int)).bind fun take1 =>
  (ixG p_goods take1.1).bind fun v2 =>
  some (v2, take1.2)
theorem w__law_of (m : Nat) (hm : 2 ≤ m) (tin : St) (p_goods : List (Int)) {r : Int × St} (h : f__law_of tin p_goods = some r) : evFn tb 1000 m kn__law_of [.lst tin.l, (eL D.int) p_goods] = .ok (D.int r.1) false r.2.l := by
  obtain ⟨m, rfl⟩ : ∃ k, m = k + 1 := ⟨m - 1, by omega⟩
  unfold f__law_of at h
  refine fn_io tb__law_of rfl rfl (e0 := [.ow tin.l, .fz ((eL D.int) p_goods)]) rfl ?_
  show Out (evS (C m) _ _) _
  obtain ⟨take1, htake1, h⟩ := bsome h
  obtain ⟨v2, hv2, h⟩ := bsome h
  obtain rfl := osome h
  exact o_ret (o := _) (x_op (x_cons (x_var rfl) (x_cons (x_io (e2 := [.ow take1.2.l, .fz ((eL D.int) p_goods)]) rfl (x_cons (x_op (x_cons (x_var rfl) x_nil) (ds := [(eL D.int) p_goods]) rfl t_lenL rfl) x_nil) io__law_take rfl rfl (us := [D.int ((p_goods.length : Nat) : Int)]) rfl (w__law_take _ (by omega) _ _ htake1) rfl rfl) x_nil)) (ds := [(eL D.int) p_goods, D.int take1.1]) rfl (t_ixL hv2) res_ix) rfl rfl ⟨rfl, rfl⟩

def f__law_flat (p_rows : List (List ((Int × Int)))) : Option (List ((Int × Int))) :=
  (forN (fun (s1 : List ((Int × Int))) (x2 : List ((Int × Int))) =>
    (catG s1 x2).bind fun found4 =>
    some found4) p_rows []).bind fun s5 =>
  some s5
theorem w__law_flat (m : Nat) (hm : 1 ≤ m) (p_rows : List (List ((Int × Int)))) {r : List ((Int × Int))} (h : f__law_flat p_rows = some r) : evFn tb 1000 m kn__law_flat [(eL (eL (eP D.int D.int))) p_rows] = .ok ((eL (eP D.int D.int)) r) true [] := by
  obtain ⟨m, rfl⟩ : ∃ k, m = k + 1 := ⟨m - 1, by omega⟩
  unfold f__law_flat at h
  refine fn_pure tb__law_flat rfl rfl (e0 := [.fz ((eL (eL (eP D.int D.int))) p_rows), .no, .no]) rfl ?_
  show Out (evS (C m) _ _) _
  refine o_seq (e1 := [.fz ((eL (eL (eP D.int D.int))) p_rows), .ow ([].map (eP D.int D.int)), .no]) (s_asg (x_lst0 x_nil (ds := []) rfl rfl rfl) rfl) ?_
  obtain ⟨s5, hs5, h⟩ := bsome h
  refine o_seqW (W := (fun e => ∃ u6, e = [.fz ((eL (eL (eP D.int D.int))) p_rows), .ow (s5.map (eP D.int D.int)), u6])) ?_ ?_
  · refine o_for (eL (eP D.int D.int)) (fun s1 e => ∃ u3, e = [.fz ((eL (eL (eP D.int D.int))) p_rows), .ow (s1.map (eP D.int D.int)), u3]) (x_cons (x_var rfl) x_nil) (ds := [(eL (eL (eP D.int D.int))) p_rows]) rfl it_L (by exact ⟨_, rfl⟩) hs5 ?_ ?_
    · intro s1 x2 s' env hI h
      obtain ⟨u3, rfl⟩ := hI
      refine ⟨[.fz ((eL (eL (eP D.int D.int))) p_rows), .ow (s1.map (eP D.int D.int)), .fz ((eL (eP D.int D.int)) x2)], rfl, ?_⟩
      obtain ⟨found4, hfound4, h⟩ := bsome h
      refine o_one (e1 := [.fz ((eL (eL (eP D.int D.int))) p_rows), .ow (found4.map (eP D.int D.int)), .fz ((eL (eP D.int D.int)) x2)]) (s_ext (a := (eP D.int D.int)) rfl (x_var rfl) rfl rfl rfl hfound4 rfl) ?_
      obtain rfl := osome h
      exact ⟨.inl rfl, _, rfl⟩
    · exact fun e he => ⟨rfl, he⟩
  · rintro _ ⟨u6, rfl⟩
    obtain rfl := osome h
    exact o_ret (o := _) (x_own rfl) rfl rfl rfl

def f__law_below (p_stretches : List ((Int × Int))) : Option ((Int × List ((Int × Int)))) :=
  (rgG ((p_stretches.length : Nat) : Int)).bind fun v1 =>
  (compM (fun x2 => some true) (fun x2 => (rgG ((p_stretches.length : Nat) : Int)).bind fun v3 => (compM (fun x4 => (ixG p_stretches x2).bind fun v5 => (ixG p_stretches x4).bind fun v6 => some (decide (v5.2 < v6.1))) (fun x4 => some (x2, x4)) v3).bind fun l7 => some l7) v1).bind fun l8 =>
  (f__law_flat l8).bind fun flat9 =>
  some (((p_stretches.length : Nat) : Int), flat9)
theorem w__law_below (m : Nat) (hm : 2 ≤ m) (p_stretches : List ((Int × Int))) {r : (Int × List ((Int × Int)))} (h : f__law_below p_stretches = some r) : evFn tb 1000 m kn__law_below [(eT (eP D.int D.int)) p_stretches] = .ok ((eP D.int (eT (eP D.int D.int))) r) false [] := by
  obtain ⟨m, rfl⟩ : ∃ k, m = k + 1 := ⟨m - 1, by omega⟩
  unfold f__law_below at h
  refine fn_pure tb__law_below rfl rfl (e0 := [.fz ((eT (eP D.int D.int)) p_stretches), .no, .no, .no]) rfl ?_
  show Out (evS (C m) _ _) _
  refine o_seq (e1 := [.fz ((eT (eP D.int D.int)) p_stretches), .fz (D.int ((p_stretches.length : Nat) : Int)), .no, .no]) (s_asg (x_op (x_cons (x_var rfl) x_nil) (ds := [(eT (eP D.int D.int)) p_stretches]) rfl t_lenT rfl) rfl) ?_
  obtain ⟨v1, hv1, h⟩ := bsome h
  obtain ⟨l8, hl8, h⟩ := bsome h
  obtain ⟨flat9, hflat9, h⟩ := bsome h
  obtain rfl := osome h
  exact o_ret (o := _) (x_tup0 (x_cons (x_var rfl) (x_cons (x_op (x_cons (x_call (e2 := [.fz ((eT (eP D.int D.int)) p_stretches), .fz (D.int ((p_stretches.length : Nat) : Int)), .no, .no]) (x_cons (x_comp D.int (eL (eP D.int D.int)) [.fz ((eT (eP D.int D.int)) p_stretches), .fz (D.int ((p_stretches.length : Nat) : Int)), .no, .no] (fun x2 => [.fz ((eT (eP D.int D.int)) p_stretches), .fz (D.int ((p_stretches.length : Nat) : Int)), .no, .fz (D.int x2)]) (x_cons (x_var rfl) x_nil) (ds := [D.int ((p_stretches.length : Nat) : Int)]) rfl (iy_rg1 hv1) (e2 := [.fz ((eT (eP D.int D.int)) p_stretches), .fz (D.int ((p_stretches.length : Nat) : Int)), .no, .no]) rfl rfl (fun _ => rfl) (fun _ => rfl) hl8 rfl (e3 := [.fz ((eT (eP D.int D.int)) p_stretches), .fz (D.int ((p_stretches.length : Nat) : Int)), .no, .no]) rfl (fun x2 b h => by obtain rfl := osome h; exact x_cst) (fun x2 y h => by obtain ⟨v3, hv3, h⟩ := bsome h; obtain ⟨l7, hl7, h⟩ := bsome h; obtain rfl := osome h; exact ⟨_, (x_comp D.int (eP D.int D.int) [.fz ((eT (eP D.int D.int)) p_stretches), .fz (D.int ((p_stretches.length : Nat) : Int)), .no, .fz (D.int x2)] (fun x4 => [.fz ((eT (eP D.int D.int)) p_stretches), .fz (D.int ((p_stretches.length : Nat) : Int)), .fz (D.int x4), .fz (D.int x2)]) (x_cons (x_var rfl) x_nil) (ds := [D.int ((p_stretches.length : Nat) : Int)]) rfl (iy_rg1 hv3) (e2 := [.fz ((eT (eP D.int D.int)) p_stretches), .fz (D.int ((p_stretches.length : Nat) : Int)), .no, .fz (D.int x2)]) rfl rfl (fun _ => rfl) (fun _ => rfl) hl7 rfl (e3 := [.fz ((eT (eP D.int D.int)) p_stretches), .fz (D.int ((p_stretches.length : Nat) : Int)), .no, .fz (D.int x2)]) rfl (fun x4 b h => by obtain ⟨v5, hv5, h⟩ := bsome h; obtain ⟨v6, hv6, h⟩ := bsome h; obtain rfl := osome h; exact (x_op (x_cons (x_op (x_cons (x_op (x_cons (x_var rfl) (x_cons (x_var rfl) x_nil)) (ds := [(eT (eP D.int D.int)) p_stretches, D.int x2]) rfl (t_ixT hv5) res_ix) (x_cons x_cst x_nil)) (ds := [(eP D.int D.int) v5, D.int 1]) rfl (show _ = some (D.int v5.2) from rfl) res_ix) (x_cons (x_op (x_cons (x_op (x_cons (x_var rfl) (x_cons (x_var rfl) x_nil)) (ds := [(eT (eP D.int D.int)) p_stretches, D.int x4]) rfl (t_ixT hv6) res_ix) (x_cons x_cst x_nil)) (ds := [(eP D.int D.int) v6, D.int 0]) rfl (show _ = some (D.int v6.1) from rfl) res_ix) x_nil)) (ds := [D.int v5.2, D.int v6.1]) rfl t_lt rfl)) (fun x4 y h => by obtain rfl := osome h; exact ⟨_, (x_tup0 (x_cons (x_var rfl) (x_cons (x_var rfl) x_nil)) (ds := [D.int x2, D.int x4]) rfl rfl rfl), rfl, rfl⟩)), rfl, rfl⟩)) x_nil) io__law_flat (ds := [(eL (eL (eP D.int D.int))) l8]) rfl (w__law_flat _ (by omega) _ hflat9) rfl rfl) x_nil) (ds := [(eL (eP D.int D.int)) flat9]) rfl t_tupL rfl) x_nil)) (ds := [D.int ((p_stretches.length : Nat) : Int), (eT (eP D.int D.int)) flat9]) rfl rfl rfl) rfl rfl rfl

def f__law_lots (p_order : (Int × List ((Int × Int)))) (p_side : Int) : Option (List (List (Int))) :=
  (rgG p_order.1).bind fun v1 =>
  (compM (fun x2 => some true) (fun x2 => (compM (fun x3 => (ixG [x3.1, x3.2] (1 - p_side)).bind fun v4 => some (decide (v4 = x2))) (fun x3 => (ixG [x3.1, x3.2] p_side).bind fun v5 => some v5) p_order.2).bind fun l6 => some l6) v1).bind fun l7 =>
  some l7
theorem w__law_lots (m : Nat) (hm : 1 ≤ m) (p_order : (Int × List ((Int × Int)))) (p_side : Int) {r : List (List (Int))} (h : f__law_lots p_order p_side = some r) : evFn tb 1000 m kn__law_lots [(eP D.int (eT (eP D.int D.int))) p_order, D.int p_side] = .ok ((eL (eT D.int)) r) true [] := by
  obtain ⟨m, rfl⟩ : ∃ k, m = k + 1 := ⟨m - 1, by omega⟩
  unfold f__law_lots at h
  refine fn_pure tb__law_lots rfl rfl (e0 := [.fz ((eP D.int (eT (eP D.int D.int))) p_order), .fz (D.int p_side), .no, .no]) rfl ?_
  show Out (evS (C m) _ _) _
  obtain ⟨v1, hv1, h⟩ := bsome h
  obtain ⟨l7, hl7, h⟩ := bsome h
  obtain rfl := osome h
  exact o_ret (o := _) (x_comp D.int (eT D.int) [.fz ((eP D.int (eT (eP D.int D.int))) p_order), .fz (D.int p_side), .no, .no] (fun x2 => [.fz ((eP D.int (eT (eP D.int D.int))) p_order), .fz (D.int p_side), .no, .fz (D.int x2)]) (x_cons (x_op (x_cons (x_var rfl) (x_cons x_cst x_nil)) (ds := [(eP D.int (eT (eP D.int D.int))) p_order, D.int 0]) rfl (show _ = some (D.int p_order.1) from rfl) res_ix) x_nil) (ds := [D.int p_order.1]) rfl (iy_rg1 hv1) (e2 := [.fz ((eP D.int (eT (eP D.int D.int))) p_order), .fz (D.int p_side), .no, .no]) rfl rfl (fun _ => rfl) (fun _ => rfl) hl7 rfl (e3 := [.fz ((eP D.int (eT (eP D.int D.int))) p_order), .fz (D.int p_side), .no, .no]) rfl (fun x2 b h => by obtain rfl := osome h; exact x_cst) (fun x2 y h => by obtain ⟨l6, hl6, h⟩ := bsome h; obtain rfl := osome h; exact ⟨_, (x_op (x_cons (x_comp (eP D.int D.int) D.int [.fz ((eP D.int (eT (eP D.int D.int))) p_order), .fz (D.int p_side), .no, .fz (D.int x2)] (fun x3 => [.fz ((eP D.int (eT (eP D.int D.int))) p_order), .fz (D.int p_side), .fz ((eP D.int D.int) x3), .fz (D.int x2)]) (x_cons (x_op (x_cons (x_var rfl) (x_cons x_cst x_nil)) (ds := [(eP D.int (eT (eP D.int D.int))) p_order, D.int 1]) rfl (show _ = some ((eT (eP D.int D.int)) p_order.2) from rfl) res_ix) x_nil) (ds := [(eT (eP D.int D.int)) p_order.2]) rfl it_T (e2 := [.fz ((eP D.int (eT (eP D.int D.int))) p_order), .fz (D.int p_side), .no, .fz (D.int x2)]) rfl rfl (fun _ => rfl) (fun _ => rfl) hl6 rfl (e3 := [.fz ((eP D.int (eT (eP D.int D.int))) p_order), .fz (D.int p_side), .no, .fz (D.int x2)]) rfl (fun x3 b h => by obtain ⟨v4, hv4, h⟩ := bsome h; obtain rfl := osome h; exact (x_op (x_cons (x_op (x_cons (x_var rfl) (x_cons (x_op (x_cons x_cst (x_cons (x_var rfl) x_nil)) (ds := [D.int 1, D.int p_side]) rfl t_sub rfl) x_nil)) (ds := [(eT D.int) [x3.1, x3.2], D.int (1 - p_side)]) rfl (t_ixT hv4) res_ix) (x_cons (x_var rfl) x_nil)) (ds := [D.int v4, D.int x2]) rfl (t_eq (e := D.int)) rfl)) (fun x3 y h => by obtain ⟨v5, hv5, h⟩ := bsome h; obtain rfl := osome h; exact ⟨_, (x_op (x_cons (x_var rfl) (x_cons (x_var rfl) x_nil)) (ds := [(eT D.int) [x3.1, x3.2], D.int p_side]) rfl (t_ixT hv5) res_ix), rfl, rfl⟩)) x_nil) (ds := [(eL D.int) l6]) rfl t_tupL rfl), rfl, rfl⟩)) rfl rfl rfl

def f__law_places (p_lots : List (List (Int))) (p_most_first : Bool) : Option (List (Int)) :=
  (compM (fun x1 => some true) (fun x1 => some ((x1.length : Nat) : Int)) p_lots).bind fun l2 =>
  (ssetG ltI 4000 l2).bind fun v3 =>
  (if p_most_first = true then
    some (v3.reverse)
  else
    some (v3)
  ).bind fun j5 =>
  (compM (fun x6 => some true) (fun x6 => (idxI j5 ((x6.length : Nat) : Int)).bind fun v7 => some (v7 + 1)) p_lots).bind fun l8 =>
  some l8
theorem w__law_places (m : Nat) (hm : 1 ≤ m) (p_lots : List (List (Int))) (p_most_first : Bool) {r : List (Int)} (h : f__law_places p_lots p_most_first = some r) : evFn tb 1000 m kn__law_places [(eL (eT D.int)) p_lots, D.bl p_most_first] = .ok ((eL D.int) r) true [] := by
  obtain ⟨m, rfl⟩ : ∃ k, m = k + 1 := ⟨m - 1, by omega⟩
  unfold f__law_places at h
  refine fn_pure tb__law_places rfl rfl (e0 := [.fz ((eL (eT D.int)) p_lots), .fz (D.bl p_most_first), .no, .no]) rfl ?_
  show Out (evS (C m) _ _) _
  obtain ⟨l2, hl2, h⟩ := bsome h
  obtain ⟨v3, hv3, h⟩ := bsome h
  refine o_seq (e1 := [.fz ((eL (eT D.int)) p_lots), .fz (D.bl p_most_first), .ow (v3.map D.int), .no]) (s_asg (x_op (x_cons (x_comp (eT D.int) D.int [.fz ((eL (eT D.int)) p_lots), .fz (D.bl p_most_first), .no, .no] (fun x1 => [.fz ((eL (eT D.int)) p_lots), .fz (D.bl p_most_first), .no, .fz ((eT D.int) x1)]) (x_cons (x_var rfl) x_nil) (ds := [(eL (eT D.int)) p_lots]) rfl it_L (e2 := [.fz ((eL (eT D.int)) p_lots), .fz (D.bl p_most_first), .no, .no]) rfl rfl (fun _ => rfl) (fun _ => rfl) hl2 rfl (e3 := [.fz ((eL (eT D.int)) p_lots), .fz (D.bl p_most_first), .no, .no]) rfl (fun x1 b h => by obtain rfl := osome h; exact x_cst) (fun x1 y h => by obtain rfl := osome h; exact ⟨_, (x_op (x_cons (x_var rfl) x_nil) (ds := [(eT D.int) x1]) rfl t_lenT rfl), rfl, rfl⟩)) x_nil) (ds := [(eL D.int) l2]) rfl (t_ssetL hv3) rfl) rfl) ?_
  obtain ⟨j5, hj5, h⟩ := bsome h
  refine o_seqW (W := fun e =>  e = [.fz ((eL (eT D.int)) p_lots), .fz (D.bl p_most_first), .ow (j5.map D.int), .no]) ?_ ?_
  · revert hj5; clear h; intro h
    rcases isome h with ⟨c4, h⟩ | ⟨c4, h⟩
    · refine o_ite_t (x_var rfl) c4 ?_
      refine o_one (e1 := [.fz ((eL (eT D.int)) p_lots), .fz (D.bl p_most_first), .ow (v3.reverse.map D.int), .no]) (s_asg (x_op (x_cons (x_own rfl) x_nil) (ds := [(eL D.int) v3]) rfl t_revL rfl) rfl) ?_
      obtain rfl := osome h
      exact ⟨rfl, rfl⟩
    · refine o_ite_f (x_var rfl) c4 (o_nop ?_)
      obtain rfl := osome h
      exact ⟨rfl, rfl⟩
  · rintro _ rfl
    obtain ⟨l8, hl8, h⟩ := bsome h
    obtain rfl := osome h
    exact o_ret (o := _) (x_comp (eT D.int) D.int [.fz ((eL (eT D.int)) p_lots), .fz (D.bl p_most_first), .ow (j5.map D.int), .no] (fun x6 => [.fz ((eL (eT D.int)) p_lots), .fz (D.bl p_most_first), .ow (j5.map D.int), .fz ((eT D.int) x6)]) (x_cons (x_var rfl) x_nil) (ds := [(eL (eT D.int)) p_lots]) rfl it_L (e2 := [.fz ((eL (eT D.int)) p_lots), .fz (D.bl p_most_first), .ow (j5.map D.int), .no]) rfl rfl (fun _ => rfl) (fun _ => rfl) hl8 rfl (e3 := [.fz ((eL (eT D.int)) p_lots), .fz (D.bl p_most_first), .ow (j5.map D.int), .no]) rfl (fun x6 b h => by obtain rfl := osome h; exact x_cst) (fun x6 y h => by obtain ⟨v7, hv7, h⟩ := bsome h; obtain rfl := osome h; exact ⟨_, (x_op (x_cons (x_meth (x_own rfl) rfl (x_cons (x_op (x_cons (x_var rfl) x_nil) (ds := [(eT D.int) x6]) rfl t_lenT rfl) x_nil) rfl (ds := [(eL D.int) j5, D.int ((x6.length : Nat) : Int)]) rfl (t_indexL (e := D.int) hv7) rfl) (x_cons x_cst x_nil)) (ds := [D.int v7, D.int 1]) rfl t_add rfl), rfl, rfl⟩)) rfl rfl rfl

def f__law_lap_one (tin : St) : Option (Bool × St) :=
  (f__law_take tin 15).bind fun take1 =>
  (f__law_of take1.2 [3, 8, 40]).bind fun of2 =>
  (rgG take1.1).bind fun v3 =>
  (forN (fun (s4 : St × List ((Int × Int))) (x5 : Int) =>
    (f__law_take s4.1 of2.1).bind fun take8 =>
    (f__law_of take8.2 [1, 3, 20]).bind fun of9 =>
    (f__law_take of9.2 of9.1).bind fun take10 =>
    (appG s4.2 ((1 + take8.1), ((1 + take8.1) + take10.1))).bind fun stretches11 =>
    some (take10.2, stretches11)) v3 (of2.2, [])).bind fun s12 =>
  (f_order_of (mx0 (eT (eP D.int D.int)) s12.2)).bind fun order_of15 =>
  (f_fits (mx0 (eP D.int (eT (eP D.int D.int))) order_of15)).bind fun fits16 =>
  (f__law_below s12.2).bind fun below17 =>
  (f__law_same (D.lst [(eP D.int (eT (eP D.int D.int))) order_of15, D.bl fits16]) (D.lst [(eP D.int (eT (eP D.int D.int))) below17, D.bl true])).bind fun same18 =>
  if (!same18) = true then
    some (false, s12.1)
  else
    (f__law_lots order_of15 0).bind fun lots20 =>
    (f__law_lots order_of15 1).bind fun lots21 =>
    (forR (ρ := Bool × St) (fun (s22 : Unit) (x23 : List (List (Int))) =>
      (ssetG (ltL ltI) 63 x23).bind fun v26 =>
      (compM (fun x27 => (compM (fun x28 => (compM (fun x29 => some (!memB x29 x28)) (fun x29 => some x29) x27).bind fun l30 => (andO (!decide (l30 = [])) ((compM (fun x31 => some (!memB x31 x27)) (fun x31 => some x31) x28).bind fun l32 => some (!decide (l32 = [])))).bind fun v33 => some v33) (fun x28 => some x28) v26).bind fun l34 => some (!decide (l34 = []))) (fun x27 => some x27) v26).bind fun l35 =>
      if (!decide (l35 = [])) = true then
        some (.rt (false, s12.1))
      else
        some (.nx ())) [lots20, lots21] ()).bind fun c40 =>
    match c40 with
    | .inl s37 =>
      (f__law_places lots20 false).bind fun places42 =>
      (f__law_places lots21 true).bind fun places43 =>
      (compM (fun x44 => some true) (fun x44 => some (x44.1, x44.2)) (places42.zip places43)).bind fun l45 =>
      (f_stretches_of (mx0 (eP D.int (eT (eP D.int D.int))) order_of15)).bind fun stretches_of46 =>
      (f_tightened (mx0 (eT (eP D.int D.int)) s12.2)).bind fun tightened47 =>
      (f_are_tight (mx0 (eT (eP D.int D.int)) l45)).bind fun are_tight48 =>
      (f_order_of (mx0 (eT (eP D.int D.int)) l45)).bind fun order_of49 =>
      (f__law_same (D.lst [(eT (eP D.int D.int)) stretches_of46, (eT (eP D.int D.int)) tightened47, D.bl are_tight48, (eP D.int (eT (eP D.int D.int))) order_of49]) (D.lst [(eT (eP D.int D.int)) l45, (eT (eP D.int D.int)) l45, D.bl true, (eP D.int (eT (eP D.int D.int))) order_of15])).bind fun same50 =>
      if (!same50) = true then
        some (false, s12.1)
      else
        (nsetG 63 lots20).bind fun v52 =>
        (nsetG 63 lots21).bind fun v53 =>
        if (!decide (v52 = v53)) = true then
          some (false, s12.1)
        else
          (compM (fun x55 => some true) (fun x55 => some x55.2) s12.2).bind fun l56 =>
          (catG [0] l56).bind fun v57 =>
          (maxG v57).bind fun v58 =>
          (lrg2G 1 (v58 + 1)).bind fun v59 =>
          (compM (fun x60 => some true) (fun x60 => some x60.1) s12.2).bind fun l61 =>
          (ssetG ltI 4000 l61).bind fun v62 =>
          (andO (decide (v62 = v59)) ((compM (fun x63 => some true) (fun x63 => some x63.2) s12.2).bind fun l64 => (ssetG ltI 4000 l64).bind fun v65 => some (decide (v65 = v59)))).bind fun v66 =>
          (f_are_tight (mx0 (eT (eP D.int D.int)) s12.2)).bind fun are_tight67 =>
          (f__law_same (D.bl are_tight67) (D.bl v66)).bind fun same68 =>
          if ((!same68) || (v66 && (!decide (l45 = s12.2)))) = true then
            some (false, s12.1)
          else
            (compM (fun x70 => some true) (fun x70 => some ((x70.1 + 3), (x70.2 + 3))) s12.2).bind fun l71 =>
            (compM (fun x72 => some true) (fun x72 => some x72.2) l71).bind fun l73 =>
            (catG [0] l73).bind fun v74 =>
            (maxG v74).bind fun v75 =>
            (orO (decide (v75 > 60)) ((f_order_of (mx0 (eT (eP D.int D.int)) l71)).bind fun order_of76 => (f_tightened (mx0 (eT (eP D.int D.int)) l71)).bind fun tightened77 => (f__law_same (D.lst [(eP D.int (eT (eP D.int D.int))) order_of76, (eT (eP D.int D.int)) tightened77]) (D.lst [(eP D.int (eT (eP D.int D.int))) order_of15, (eT (eP D.int D.int)) l45])).bind fun same78 => some same78)).bind fun v79 =>
            some (v79, s12.1)
    | .inr r41 =>
      some r41
theorem w__law_lap_one (m : Nat) (hm : 11 ≤ m) (tin : St) {r : Bool × St} (h : f__law_lap_one tin = some r) : evFn tb 1000 m kn__law_lap_one [.lst tin.l] = .ok (D.bl r.1) false r.2.l := by
  obtain ⟨m, rfl⟩ : ∃ k, m = k + 1 := ⟨m - 1, by omega⟩
  unfold f__law_lap_one at h
  refine fn_io tb__law_lap_one rfl rfl (e0 := [.ow tin.l, .no, .no, .no, .no, .no, .no, .no, .no, .no, .no, .no, .no, .no, .no, .no, .no, .no, .no]) rfl ?_
  show Out (evS (C m) _ _) _
  obtain ⟨take1, htake1, h⟩ := bsome h
  refine o_seq (e1 := [.ow take1.2.l, .fz (D.int take1.1), .no, .no, .no, .no, .no, .no, .no, .no, .no, .no, .no, .no, .no, .no, .no, .no, .no]) (s_asg (x_io (e2 := [.ow take1.2.l, .no, .no, .no, .no, .no, .no, .no, .no, .no, .no, .no, .no, .no, .no, .no, .no, .no, .no]) rfl (x_cons x_cst x_nil) io__law_take rfl rfl (us := [D.int 15]) rfl (w__law_take _ (by omega) _ _ htake1) rfl rfl) rfl) ?_
  refine o_seq (e1 := [.ow take1.2.l, .fz (D.int take1.1), .ow ([].map (eP D.int D.int)), .no, .no, .no, .no, .no, .no, .no, .no, .no, .no, .no, .no, .no, .no, .no, .no]) (s_asg (x_lst0 x_nil (ds := []) rfl rfl rfl) rfl) ?_
  obtain ⟨of2, hof2, h⟩ := bsome h
  refine o_seq (e1 := [.ow of2.2.l, .fz (D.int take1.1), .ow ([].map (eP D.int D.int)), .fz (D.int of2.1), .no, .no, .no, .no, .no, .no, .no, .no, .no, .no, .no, .no, .no, .no, .no]) (s_asg (x_io (e2 := [.ow of2.2.l, .fz (D.int take1.1), .ow ([].map (eP D.int D.int)), .no, .no, .no, .no, .no, .no, .no, .no, .no, .no, .no, .no, .no, .no, .no, .no]) rfl (x_cons (x_lst0 (x_cons x_cst (x_cons x_cst (x_cons x_cst x_nil))) (ds := [D.int 3, D.int 8, D.int 40]) rfl rfl rfl) x_nil) io__law_of rfl rfl (us := [(eL D.int) [3, 8, 40]]) rfl (w__law_of _ (by omega) _ _ hof2) rfl rfl) rfl) ?_
  obtain ⟨v3, hv3, h⟩ := bsome h
  obtain ⟨s12, hs12, h⟩ := bsome h
  refine o_seqW (W := (fun e => ∃ u13, ∃ u14, e = [.ow s12.1.l, .fz (D.int take1.1), .ow (s12.2.map (eP D.int D.int)), .fz (D.int of2.1), u13, u14, .no, .no, .no, .no, .no, .no, .no, .no, .no, .no, .no, .no, .no])) ?_ ?_
  · refine o_for D.int (fun s4 e => ∃ u6, ∃ u7, e = [.ow s4.1.l, .fz (D.int take1.1), .ow (s4.2.map (eP D.int D.int)), .fz (D.int of2.1), u6, u7, .no, .no, .no, .no, .no, .no, .no, .no, .no, .no, .no, .no, .no]) (x_cons (x_var rfl) x_nil) (ds := [D.int take1.1]) rfl (iy_rg1 hv3) (by exact ⟨_, _, rfl⟩) hs12 ?_ ?_
    · intro s4 x5 s' env hI h
      obtain ⟨u6, u7, rfl⟩ := hI
      refine ⟨[.ow s4.1.l, .fz (D.int take1.1), .ow (s4.2.map (eP D.int D.int)), .fz (D.int of2.1), .fz (D.int x5), u7, .no, .no, .no, .no, .no, .no, .no, .no, .no, .no, .no, .no, .no], rfl, ?_⟩
      obtain ⟨take8, htake8, h⟩ := bsome h
      refine o_seq (e1 := [.ow take8.2.l, .fz (D.int take1.1), .ow (s4.2.map (eP D.int D.int)), .fz (D.int of2.1), .fz (D.int x5), .fz (D.int (1 + take8.1)), .no, .no, .no, .no, .no, .no, .no, .no, .no, .no, .no, .no, .no]) (s_asg (x_op (x_cons x_cst (x_cons (x_io (e2 := [.ow take8.2.l, .fz (D.int take1.1), .ow (s4.2.map (eP D.int D.int)), .fz (D.int of2.1), .fz (D.int x5), u7, .no, .no, .no, .no, .no, .no, .no, .no, .no, .no, .no, .no, .no]) rfl (x_cons (x_var rfl) x_nil) io__law_take rfl rfl (us := [D.int of2.1]) rfl (w__law_take _ (by omega) _ _ htake8) rfl rfl) x_nil)) (ds := [D.int 1, D.int take8.1]) rfl t_add rfl) rfl) ?_
      obtain ⟨of9, hof9, h⟩ := bsome h
      obtain ⟨take10, htake10, h⟩ := bsome h
      obtain ⟨stretches11, hstretches11, h⟩ := bsome h
      refine o_one (e1 := [.ow take10.2.l, .fz (D.int take1.1), .ow (stretches11.map (eP D.int D.int)), .fz (D.int of2.1), .fz (D.int x5), .fz (D.int (1 + take8.1)), .no, .no, .no, .no, .no, .no, .no, .no, .no, .no, .no, .no, .no]) (s_app (a := (eP D.int D.int)) rfl (x_tup0 (x_cons (x_var rfl) (x_cons (x_op (x_cons (x_var rfl) (x_cons (x_io (e2 := [.ow take10.2.l, .fz (D.int take1.1), .ow (s4.2.map (eP D.int D.int)), .fz (D.int of2.1), .fz (D.int x5), .fz (D.int (1 + take8.1)), .no, .no, .no, .no, .no, .no, .no, .no, .no, .no, .no, .no, .no]) rfl (x_cons (x_io (e2 := [.ow of9.2.l, .fz (D.int take1.1), .ow (s4.2.map (eP D.int D.int)), .fz (D.int of2.1), .fz (D.int x5), .fz (D.int (1 + take8.1)), .no, .no, .no, .no, .no, .no, .no, .no, .no, .no, .no, .no, .no]) rfl (x_cons (x_lst0 (x_cons x_cst (x_cons x_cst (x_cons x_cst x_nil))) (ds := [D.int 1, D.int 3, D.int 20]) rfl rfl rfl) x_nil) io__law_of rfl rfl (us := [(eL D.int) [1, 3, 20]]) rfl (w__law_of _ (by omega) _ _ hof9) rfl rfl) x_nil) io__law_take rfl rfl (us := [D.int of9.1]) rfl (w__law_take _ (by omega) _ _ htake10) rfl rfl) x_nil)) (ds := [D.int (1 + take8.1), D.int take10.1]) rfl t_add rfl) x_nil)) (ds := [D.int (1 + take8.1), D.int ((1 + take8.1) + take10.1)]) rfl rfl rfl) rfl rfl hstretches11 rfl) ?_
      obtain rfl := osome h
      exact ⟨.inl rfl, _, _, rfl⟩
    · exact fun e he => ⟨rfl, he⟩
  · rintro _ ⟨u13, u14, rfl⟩
    refine o_seq (e1 := [.ow s12.1.l, .fz (D.int take1.1), .fz ((eT (eP D.int D.int)) s12.2), .fz (D.int of2.1), u13, u14, .no, .no, .no, .no, .no, .no, .no, .no, .no, .no, .no, .no, .no]) (s_asg (x_op (x_cons (x_own rfl) x_nil) (ds := [(eL (eP D.int D.int)) s12.2]) rfl t_tupL rfl) rfl) ?_
    obtain ⟨order_of15, horder_of15, h⟩ := bsome h
    refine o_seq (e1 := [.ow s12.1.l, .fz (D.int take1.1), .fz ((eT (eP D.int D.int)) s12.2), .fz (D.int of2.1), u13, u14, .fz ((eP D.int (eT (eP D.int D.int))) order_of15), .no, .no, .no, .no, .no, .no, .no, .no, .no, .no, .no, .no]) (s_asg (x_call0 (x_cons (x_var rfl) x_nil) io_order_of (ds := [Mx.d (mx0 (eT (eP D.int D.int)) s12.2)]) rfl (w_order_of _ (by omega) _ horder_of15) rfl) rfl) ?_
    obtain ⟨fits16, hfits16, h⟩ := bsome h
    obtain ⟨below17, hbelow17, h⟩ := bsome h
    obtain ⟨same18, hsame18, h⟩ := bsome h
    rcases isome h with ⟨c19, h⟩ | ⟨c19, h⟩
    · refine o_seqO (o_ite_t (x_not (x_callS (x_cons (x_lst0 (x_cons (x_var rfl) (x_cons (x_callS (x_cons (x_var rfl) x_nil) io_fits (ds := [Mx.d (mx0 (eP D.int (eT (eP D.int D.int))) order_of15)]) rfl (w_fits _ (by omega) _ hfits16) rfl) x_nil)) (ds := [(eP D.int (eT (eP D.int D.int))) order_of15, D.bl fits16]) rfl rfl rfl) (x_cons (x_lst0 (x_cons (x_call0 (x_cons (x_var rfl) x_nil) io__law_below (ds := [(eT (eP D.int D.int)) s12.2]) rfl (w__law_below _ (by omega) _ hbelow17) rfl) (x_cons x_cst x_nil)) (ds := [(eP D.int (eT (eP D.int D.int))) below17, D.bl true]) rfl rfl rfl) x_nil)) io__law_same (ds := [eD (D.lst [(eP D.int (eT (eP D.int D.int))) order_of15, D.bl fits16]), eD (D.lst [(eP D.int (eT (eP D.int D.int))) below17, D.bl true])]) rfl (w__law_same _ (by omega) _ _ hsame18) rfl)) c19 ?_)
      obtain rfl := osome h
      exact o_ret (o := _) x_cst rfl rfl ⟨rfl, rfl⟩
    · refine o_seqO (o_ite_f (x_not (x_callS (x_cons (x_lst0 (x_cons (x_var rfl) (x_cons (x_callS (x_cons (x_var rfl) x_nil) io_fits (ds := [Mx.d (mx0 (eP D.int (eT (eP D.int D.int))) order_of15)]) rfl (w_fits _ (by omega) _ hfits16) rfl) x_nil)) (ds := [(eP D.int (eT (eP D.int D.int))) order_of15, D.bl fits16]) rfl rfl rfl) (x_cons (x_lst0 (x_cons (x_call0 (x_cons (x_var rfl) x_nil) io__law_below (ds := [(eT (eP D.int D.int)) s12.2]) rfl (w__law_below _ (by omega) _ hbelow17) rfl) (x_cons x_cst x_nil)) (ds := [(eP D.int (eT (eP D.int D.int))) below17, D.bl true]) rfl rfl rfl) x_nil)) io__law_same (ds := [eD (D.lst [(eP D.int (eT (eP D.int D.int))) order_of15, D.bl fits16]), eD (D.lst [(eP D.int (eT (eP D.int D.int))) below17, D.bl true])]) rfl (w__law_same _ (by omega) _ _ hsame18) rfl)) c19 (o_nop ?_))
      show Out _ _
      obtain ⟨lots20, hlots20, h⟩ := bsome h
      obtain ⟨lots21, hlots21, h⟩ := bsome h
      refine o_seq (e1 := [.ow s12.1.l, .fz (D.int take1.1), .fz ((eT (eP D.int D.int)) s12.2), .fz (D.int of2.1), u13, u14, .fz ((eP D.int (eT (eP D.int D.int))) order_of15), .ow (lots20.map (eT D.int)), .ow (lots21.map (eT D.int)), .no, .no, .no, .no, .no, .no, .no, .no, .no, .no]) (s_par (x_cons (x_call (e2 := [.ow s12.1.l, .fz (D.int take1.1), .fz ((eT (eP D.int D.int)) s12.2), .fz (D.int of2.1), u13, u14, .fz ((eP D.int (eT (eP D.int D.int))) order_of15), .no, .no, .no, .no, .no, .no, .no, .no, .no, .no, .no, .no]) (x_cons (x_var rfl) (x_cons x_cst x_nil)) io__law_lots (ds := [(eP D.int (eT (eP D.int D.int))) order_of15, D.int 0]) rfl (w__law_lots _ (by omega) _ _ hlots20) rfl rfl) (x_cons (x_call (e2 := [.ow s12.1.l, .fz (D.int take1.1), .fz ((eT (eP D.int D.int)) s12.2), .fz (D.int of2.1), u13, u14, .fz ((eP D.int (eT (eP D.int D.int))) order_of15), .no, .no, .no, .no, .no, .no, .no, .no, .no, .no, .no, .no]) (x_cons (x_var rfl) (x_cons x_cst x_nil)) io__law_lots (ds := [(eP D.int (eT (eP D.int D.int))) order_of15, D.int 1]) rfl (w__law_lots _ (by omega) _ _ hlots21) rfl rfl) x_nil)) rfl rfl) ?_
      obtain ⟨c40, hc40, h⟩ := bsome h
      refine o_seqO (o_forR (eL (eT D.int)) (fun r => D.bl r.1) false (fun s22 e => ∃ u24, ∃ u25, e = [.ow s12.1.l, .fz (D.int take1.1), .fz ((eT (eP D.int D.int)) s12.2), .fz (D.int of2.1), u13, u14, .fz ((eP D.int (eT (eP D.int D.int))) order_of15), .fz ((eL (eT D.int)) lots20), .fz ((eL (eT D.int)) lots21), u24, u25, .no, .no, .no, .no, .no, .no, .no, .no]) (fun r e => e.at 0 = .ow r.2.l) (x_cons (x_tup (e2 := [.ow s12.1.l, .fz (D.int take1.1), .fz ((eT (eP D.int D.int)) s12.2), .fz (D.int of2.1), u13, u14, .fz ((eP D.int (eT (eP D.int D.int))) order_of15), .fz ((eL (eT D.int)) lots20), .fz ((eL (eT D.int)) lots21), .no, .no, .no, .no, .no, .no, .no, .no, .no, .no]) (x_cons (x_own rfl) (x_cons (x_own rfl) x_nil)) (ds := [(eL (eT D.int)) lots20, (eL (eT D.int)) lots21]) rfl rfl rfl) x_nil) (ds := [(eT (eL (eT D.int))) [lots20, lots21]]) rfl it_T (by exact ⟨_, _, rfl⟩) hc40 ?_ ?_)
      · intro s22 x23 cc env hI h
        obtain ⟨u24, u25, rfl⟩ := hI
        refine ⟨[.ow s12.1.l, .fz (D.int take1.1), .fz ((eT (eP D.int D.int)) s12.2), .fz (D.int of2.1), u13, u14, .fz ((eP D.int (eT (eP D.int D.int))) order_of15), .fz ((eL (eT D.int)) lots20), .fz ((eL (eT D.int)) lots21), .fz ((eL (eT D.int)) x23), u25, .no, .no, .no, .no, .no, .no, .no, .no], rfl, ?_⟩
        obtain ⟨v26, hv26, h⟩ := bsome h
        refine o_seq (e1 := [.ow s12.1.l, .fz (D.int take1.1), .fz ((eT (eP D.int D.int)) s12.2), .fz (D.int of2.1), u13, u14, .fz ((eP D.int (eT (eP D.int D.int))) order_of15), .fz ((eL (eT D.int)) lots20), .fz ((eL (eT D.int)) lots21), .fz ((eL (eT D.int)) x23), .ow (v26.map (eT D.int)), .no, .no, .no, .no, .no, .no, .no, .no]) (s_asg (x_op (x_cons (x_var rfl) x_nil) (ds := [(eL (eT D.int)) x23]) rfl (t_ssetL hv26) rfl) rfl) ?_
        obtain ⟨l35, hl35, h⟩ := bsome h
        rcases isome h with ⟨c36, h⟩ | ⟨c36, h⟩
        · refine o_ite_t (x_op (x_cons (x_comp (eT D.int) (eT D.int) [.ow s12.1.l, .fz (D.int take1.1), .fz ((eT (eP D.int D.int)) s12.2), .fz (D.int of2.1), u13, u14, .fz ((eP D.int (eT (eP D.int D.int))) order_of15), .fz ((eL (eT D.int)) lots20), .fz ((eL (eT D.int)) lots21), .fz ((eL (eT D.int)) x23), .fz ((eL (eT D.int)) v26), .no, .no, .no, .no, .no, .no, .no, .no] (fun x27 => [.ow s12.1.l, .fz (D.int take1.1), .fz ((eT (eP D.int D.int)) s12.2), .fz (D.int of2.1), u13, u14, .fz ((eP D.int (eT (eP D.int D.int))) order_of15), .fz ((eL (eT D.int)) lots20), .fz ((eL (eT D.int)) lots21), .fz ((eL (eT D.int)) x23), .fz ((eL (eT D.int)) v26), .fz ((eT D.int) x27), .no, .no, .no, .no, .no, .no, .no]) (x_cons (x_own rfl) x_nil) (ds := [(eL (eT D.int)) v26]) rfl it_L (e2 := [.ow s12.1.l, .fz (D.int take1.1), .fz ((eT (eP D.int D.int)) s12.2), .fz (D.int of2.1), u13, u14, .fz ((eP D.int (eT (eP D.int D.int))) order_of15), .fz ((eL (eT D.int)) lots20), .fz ((eL (eT D.int)) lots21), .fz ((eL (eT D.int)) x23), .fz ((eL (eT D.int)) v26), .no, .no, .no, .no, .no, .no, .no, .no]) rfl rfl (fun _ => rfl) (fun _ => rfl) hl35 rfl (e3 := [.ow s12.1.l, .fz (D.int take1.1), .fz ((eT (eP D.int D.int)) s12.2), .fz (D.int of2.1), u13, u14, .fz ((eP D.int (eT (eP D.int D.int))) order_of15), .fz ((eL (eT D.int)) lots20), .fz ((eL (eT D.int)) lots21), .fz ((eL (eT D.int)) x23), .fz ((eL (eT D.int)) v26), .no, .no, .no, .no, .no, .no, .no, .no]) rfl (fun x27 b h => by obtain ⟨l34, hl34, h⟩ := bsome h; obtain rfl := osome h; exact (x_op (x_cons (x_comp (eT D.int) (eT D.int) [.ow s12.1.l, .fz (D.int take1.1), .fz ((eT (eP D.int D.int)) s12.2), .fz (D.int of2.1), u13, u14, .fz ((eP D.int (eT (eP D.int D.int))) order_of15), .fz ((eL (eT D.int)) lots20), .fz ((eL (eT D.int)) lots21), .fz ((eL (eT D.int)) x23), .fz ((eL (eT D.int)) v26), .fz ((eT D.int) x27), .no, .no, .no, .no, .no, .no, .no] (fun x28 => [.ow s12.1.l, .fz (D.int take1.1), .fz ((eT (eP D.int D.int)) s12.2), .fz (D.int of2.1), u13, u14, .fz ((eP D.int (eT (eP D.int D.int))) order_of15), .fz ((eL (eT D.int)) lots20), .fz ((eL (eT D.int)) lots21), .fz ((eL (eT D.int)) x23), .fz ((eL (eT D.int)) v26), .fz ((eT D.int) x27), .fz ((eT D.int) x28), .no, .no, .no, .no, .no, .no]) (x_cons (x_var rfl) x_nil) (ds := [(eL (eT D.int)) v26]) rfl it_L (e2 := [.ow s12.1.l, .fz (D.int take1.1), .fz ((eT (eP D.int D.int)) s12.2), .fz (D.int of2.1), u13, u14, .fz ((eP D.int (eT (eP D.int D.int))) order_of15), .fz ((eL (eT D.int)) lots20), .fz ((eL (eT D.int)) lots21), .fz ((eL (eT D.int)) x23), .fz ((eL (eT D.int)) v26), .fz ((eT D.int) x27), .no, .no, .no, .no, .no, .no, .no]) rfl rfl (fun _ => rfl) (fun _ => rfl) hl34 rfl (e3 := [.ow s12.1.l, .fz (D.int take1.1), .fz ((eT (eP D.int D.int)) s12.2), .fz (D.int of2.1), u13, u14, .fz ((eP D.int (eT (eP D.int D.int))) order_of15), .fz ((eL (eT D.int)) lots20), .fz ((eL (eT D.int)) lots21), .fz ((eL (eT D.int)) x23), .fz ((eL (eT D.int)) v26), .fz ((eT D.int) x27), .no, .no, .no, .no, .no, .no, .no]) rfl (fun x28 b h => by obtain ⟨l30, hl30, h⟩ := bsome h; obtain ⟨v33, hv33, h⟩ := bsome h; obtain rfl := osome h; exact (x_andO (x_op (x_cons (x_comp D.int D.int [.ow s12.1.l, .fz (D.int take1.1), .fz ((eT (eP D.int D.int)) s12.2), .fz (D.int of2.1), u13, u14, .fz ((eP D.int (eT (eP D.int D.int))) order_of15), .fz ((eL (eT D.int)) lots20), .fz ((eL (eT D.int)) lots21), .fz ((eL (eT D.int)) x23), .fz ((eL (eT D.int)) v26), .fz ((eT D.int) x27), .fz ((eT D.int) x28), .no, .no, .no, .no, .no, .no] (fun x29 => [.ow s12.1.l, .fz (D.int take1.1), .fz ((eT (eP D.int D.int)) s12.2), .fz (D.int of2.1), u13, u14, .fz ((eP D.int (eT (eP D.int D.int))) order_of15), .fz ((eL (eT D.int)) lots20), .fz ((eL (eT D.int)) lots21), .fz ((eL (eT D.int)) x23), .fz ((eL (eT D.int)) v26), .fz ((eT D.int) x27), .fz ((eT D.int) x28), .fz (D.int x29), .no, .no, .no, .no, .no]) (x_cons (x_var rfl) x_nil) (ds := [(eT D.int) x27]) rfl it_T (e2 := [.ow s12.1.l, .fz (D.int take1.1), .fz ((eT (eP D.int D.int)) s12.2), .fz (D.int of2.1), u13, u14, .fz ((eP D.int (eT (eP D.int D.int))) order_of15), .fz ((eL (eT D.int)) lots20), .fz ((eL (eT D.int)) lots21), .fz ((eL (eT D.int)) x23), .fz ((eL (eT D.int)) v26), .fz ((eT D.int) x27), .fz ((eT D.int) x28), .no, .no, .no, .no, .no, .no]) rfl rfl (fun _ => rfl) (fun _ => rfl) hl30 rfl (e3 := [.ow s12.1.l, .fz (D.int take1.1), .fz ((eT (eP D.int D.int)) s12.2), .fz (D.int of2.1), u13, u14, .fz ((eP D.int (eT (eP D.int D.int))) order_of15), .fz ((eL (eT D.int)) lots20), .fz ((eL (eT D.int)) lots21), .fz ((eL (eT D.int)) x23), .fz ((eL (eT D.int)) v26), .fz ((eT D.int) x27), .fz ((eT D.int) x28), .no, .no, .no, .no, .no, .no]) rfl (fun x29 b h => by obtain rfl := osome h; exact (x_op (x_cons (x_var rfl) (x_cons (x_var rfl) x_nil)) (ds := [D.int x29, (eT D.int) x28]) rfl (t_ninT (e := D.int)) rfl)) (fun x29 y h => by obtain rfl := osome h; exact ⟨_, (x_var rfl), rfl, rfl⟩)) (x_cons (x_lst0 x_nil (ds := []) rfl rfl rfl) x_nil)) (ds := [(eL D.int) l30, (eL D.int) []]) rfl (t_ne (e := (eL D.int))) rfl) hv33 fun _ b2 h => by obtain ⟨l32, hl32, h⟩ := bsome h; obtain rfl := osome h; exact (x_op (x_cons (x_comp D.int D.int [.ow s12.1.l, .fz (D.int take1.1), .fz ((eT (eP D.int D.int)) s12.2), .fz (D.int of2.1), u13, u14, .fz ((eP D.int (eT (eP D.int D.int))) order_of15), .fz ((eL (eT D.int)) lots20), .fz ((eL (eT D.int)) lots21), .fz ((eL (eT D.int)) x23), .fz ((eL (eT D.int)) v26), .fz ((eT D.int) x27), .fz ((eT D.int) x28), .no, .no, .no, .no, .no, .no] (fun x31 => [.ow s12.1.l, .fz (D.int take1.1), .fz ((eT (eP D.int D.int)) s12.2), .fz (D.int of2.1), u13, u14, .fz ((eP D.int (eT (eP D.int D.int))) order_of15), .fz ((eL (eT D.int)) lots20), .fz ((eL (eT D.int)) lots21), .fz ((eL (eT D.int)) x23), .fz ((eL (eT D.int)) v26), .fz ((eT D.int) x27), .fz ((eT D.int) x28), .fz (D.int x31), .no, .no, .no, .no, .no]) (x_cons (x_var rfl) x_nil) (ds := [(eT D.int) x28]) rfl it_T (e2 := [.ow s12.1.l, .fz (D.int take1.1), .fz ((eT (eP D.int D.int)) s12.2), .fz (D.int of2.1), u13, u14, .fz ((eP D.int (eT (eP D.int D.int))) order_of15), .fz ((eL (eT D.int)) lots20), .fz ((eL (eT D.int)) lots21), .fz ((eL (eT D.int)) x23), .fz ((eL (eT D.int)) v26), .fz ((eT D.int) x27), .fz ((eT D.int) x28), .no, .no, .no, .no, .no, .no]) rfl rfl (fun _ => rfl) (fun _ => rfl) hl32 rfl (e3 := [.ow s12.1.l, .fz (D.int take1.1), .fz ((eT (eP D.int D.int)) s12.2), .fz (D.int of2.1), u13, u14, .fz ((eP D.int (eT (eP D.int D.int))) order_of15), .fz ((eL (eT D.int)) lots20), .fz ((eL (eT D.int)) lots21), .fz ((eL (eT D.int)) x23), .fz ((eL (eT D.int)) v26), .fz ((eT D.int) x27), .fz ((eT D.int) x28), .no, .no, .no, .no, .no, .no]) rfl (fun x31 b h => by obtain rfl := osome h; exact (x_op (x_cons (x_var rfl) (x_cons (x_var rfl) x_nil)) (ds := [D.int x31, (eT D.int) x27]) rfl (t_ninT (e := D.int)) rfl)) (fun x31 y h => by obtain rfl := osome h; exact ⟨_, (x_var rfl), rfl, rfl⟩)) (x_cons (x_lst0 x_nil (ds := []) rfl rfl rfl) x_nil)) (ds := [(eL D.int) l32, (eL D.int) []]) rfl (t_ne (e := (eL D.int))) rfl))) (fun x28 y h => by obtain rfl := osome h; exact ⟨_, (x_var rfl), rfl, rfl⟩)) (x_cons (x_lst0 x_nil (ds := []) rfl rfl rfl) x_nil)) (ds := [(eL (eT D.int)) l34, (eL (eT D.int)) []]) rfl (t_ne (e := (eL (eT D.int)))) rfl)) (fun x27 y h => by obtain rfl := osome h; exact ⟨_, (x_var rfl), rfl, rfl⟩)) (x_cons (x_lst0 x_nil (ds := []) rfl rfl rfl) x_nil)) (ds := [(eL (eT D.int)) l35, (eL (eT D.int)) []]) rfl (t_ne (e := (eL (eT D.int)))) rfl) c36 ?_
          obtain rfl := osome h
          exact o_ret x_cst rfl rfl ⟨rfl, rfl⟩
        · refine o_ite_f (x_op (x_cons (x_comp (eT D.int) (eT D.int) [.ow s12.1.l, .fz (D.int take1.1), .fz ((eT (eP D.int D.int)) s12.2), .fz (D.int of2.1), u13, u14, .fz ((eP D.int (eT (eP D.int D.int))) order_of15), .fz ((eL (eT D.int)) lots20), .fz ((eL (eT D.int)) lots21), .fz ((eL (eT D.int)) x23), .fz ((eL (eT D.int)) v26), .no, .no, .no, .no, .no, .no, .no, .no] (fun x27 => [.ow s12.1.l, .fz (D.int take1.1), .fz ((eT (eP D.int D.int)) s12.2), .fz (D.int of2.1), u13, u14, .fz ((eP D.int (eT (eP D.int D.int))) order_of15), .fz ((eL (eT D.int)) lots20), .fz ((eL (eT D.int)) lots21), .fz ((eL (eT D.int)) x23), .fz ((eL (eT D.int)) v26), .fz ((eT D.int) x27), .no, .no, .no, .no, .no, .no, .no]) (x_cons (x_own rfl) x_nil) (ds := [(eL (eT D.int)) v26]) rfl it_L (e2 := [.ow s12.1.l, .fz (D.int take1.1), .fz ((eT (eP D.int D.int)) s12.2), .fz (D.int of2.1), u13, u14, .fz ((eP D.int (eT (eP D.int D.int))) order_of15), .fz ((eL (eT D.int)) lots20), .fz ((eL (eT D.int)) lots21), .fz ((eL (eT D.int)) x23), .fz ((eL (eT D.int)) v26), .no, .no, .no, .no, .no, .no, .no, .no]) rfl rfl (fun _ => rfl) (fun _ => rfl) hl35 rfl (e3 := [.ow s12.1.l, .fz (D.int take1.1), .fz ((eT (eP D.int D.int)) s12.2), .fz (D.int of2.1), u13, u14, .fz ((eP D.int (eT (eP D.int D.int))) order_of15), .fz ((eL (eT D.int)) lots20), .fz ((eL (eT D.int)) lots21), .fz ((eL (eT D.int)) x23), .fz ((eL (eT D.int)) v26), .no, .no, .no, .no, .no, .no, .no, .no]) rfl (fun x27 b h => by obtain ⟨l34, hl34, h⟩ := bsome h; obtain rfl := osome h; exact (x_op (x_cons (x_comp (eT D.int) (eT D.int) [.ow s12.1.l, .fz (D.int take1.1), .fz ((eT (eP D.int D.int)) s12.2), .fz (D.int of2.1), u13, u14, .fz ((eP D.int (eT (eP D.int D.int))) order_of15), .fz ((eL (eT D.int)) lots20), .fz ((eL (eT D.int)) lots21), .fz ((eL (eT D.int)) x23), .fz ((eL (eT D.int)) v26), .fz ((eT D.int) x27), .no, .no, .no, .no, .no, .no, .no] (fun x28 => [.ow s12.1.l, .fz (D.int take1.1), .fz ((eT (eP D.int D.int)) s12.2), .fz (D.int of2.1), u13, u14, .fz ((eP D.int (eT (eP D.int D.int))) order_of15), .fz ((eL (eT D.int)) lots20), .fz ((eL (eT D.int)) lots21), .fz ((eL (eT D.int)) x23), .fz ((eL (eT D.int)) v26), .fz ((eT D.int) x27), .fz ((eT D.int) x28), .no, .no, .no, .no, .no, .no]) (x_cons (x_var rfl) x_nil) (ds := [(eL (eT D.int)) v26]) rfl it_L (e2 := [.ow s12.1.l, .fz (D.int take1.1), .fz ((eT (eP D.int D.int)) s12.2), .fz (D.int of2.1), u13, u14, .fz ((eP D.int (eT (eP D.int D.int))) order_of15), .fz ((eL (eT D.int)) lots20), .fz ((eL (eT D.int)) lots21), .fz ((eL (eT D.int)) x23), .fz ((eL (eT D.int)) v26), .fz ((eT D.int) x27), .no, .no, .no, .no, .no, .no, .no]) rfl rfl (fun _ => rfl) (fun _ => rfl) hl34 rfl (e3 := [.ow s12.1.l, .fz (D.int take1.1), .fz ((eT (eP D.int D.int)) s12.2), .fz (D.int of2.1), u13, u14, .fz ((eP D.int (eT (eP D.int D.int))) order_of15), .fz ((eL (eT D.int)) lots20), .fz ((eL (eT D.int)) lots21), .fz ((eL (eT D.int)) x23), .fz ((eL (eT D.int)) v26), .fz ((eT D.int) x27), .no, .no, .no, .no, .no, .no, .no]) rfl (fun x28 b h => by obtain ⟨l30, hl30, h⟩ := bsome h; obtain ⟨v33, hv33, h⟩ := bsome h; obtain rfl := osome h; exact (x_andO (x_op (x_cons (x_comp D.int D.int [.ow s12.1.l, .fz (D.int take1.1), .fz ((eT (eP D.int D.int)) s12.2), .fz (D.int of2.1), u13, u14, .fz ((eP D.int (eT (eP D.int D.int))) order_of15), .fz ((eL (eT D.int)) lots20), .fz ((eL (eT D.int)) lots21), .fz ((eL (eT D.int)) x23), .fz ((eL (eT D.int)) v26), .fz ((eT D.int) x27), .fz ((eT D.int) x28), .no, .no, .no, .no, .no, .no] (fun x29 => [.ow s12.1.l, .fz (D.int take1.1), .fz ((eT (eP D.int D.int)) s12.2), .fz (D.int of2.1), u13, u14, .fz ((eP D.int (eT (eP D.int D.int))) order_of15), .fz ((eL (eT D.int)) lots20), .fz ((eL (eT D.int)) lots21), .fz ((eL (eT D.int)) x23), .fz ((eL (eT D.int)) v26), .fz ((eT D.int) x27), .fz ((eT D.int) x28), .fz (D.int x29), .no, .no, .no, .no, .no]) (x_cons (x_var rfl) x_nil) (ds := [(eT D.int) x27]) rfl it_T (e2 := [.ow s12.1.l, .fz (D.int take1.1), .fz ((eT (eP D.int D.int)) s12.2), .fz (D.int of2.1), u13, u14, .fz ((eP D.int (eT (eP D.int D.int))) order_of15), .fz ((eL (eT D.int)) lots20), .fz ((eL (eT D.int)) lots21), .fz ((eL (eT D.int)) x23), .fz ((eL (eT D.int)) v26), .fz ((eT D.int) x27), .fz ((eT D.int) x28), .no, .no, .no, .no, .no, .no]) rfl rfl (fun _ => rfl) (fun _ => rfl) hl30 rfl (e3 := [.ow s12.1.l, .fz (D.int take1.1), .fz ((eT (eP D.int D.int)) s12.2), .fz (D.int of2.1), u13, u14, .fz ((eP D.int (eT (eP D.int D.int))) order_of15), .fz ((eL (eT D.int)) lots20), .fz ((eL (eT D.int)) lots21), .fz ((eL (eT D.int)) x23), .fz ((eL (eT D.int)) v26), .fz ((eT D.int) x27), .fz ((eT D.int) x28), .no, .no, .no, .no, .no, .no]) rfl (fun x29 b h => by obtain rfl := osome h; exact (x_op (x_cons (x_var rfl) (x_cons (x_var rfl) x_nil)) (ds := [D.int x29, (eT D.int) x28]) rfl (t_ninT (e := D.int)) rfl)) (fun x29 y h => by obtain rfl := osome h; exact ⟨_, (x_var rfl), rfl, rfl⟩)) (x_cons (x_lst0 x_nil (ds := []) rfl rfl rfl) x_nil)) (ds := [(eL D.int) l30, (eL D.int) []]) rfl (t_ne (e := (eL D.int))) rfl) hv33 fun _ b2 h => by obtain ⟨l32, hl32, h⟩ := bsome h; obtain rfl := osome h; exact (x_op (x_cons (x_comp D.int D.int [.ow s12.1.l, .fz (D.int take1.1), .fz ((eT (eP D.int D.int)) s12.2), .fz (D.int of2.1), u13, u14, .fz ((eP D.int (eT (eP D.int D.int))) order_of15), .fz ((eL (eT D.int)) lots20), .fz ((eL (eT D.int)) lots21), .fz ((eL (eT D.int)) x23), .fz ((eL (eT D.int)) v26), .fz ((eT D.int) x27), .fz ((eT D.int) x28), .no, .no, .no, .no, .no, .no] (fun x31 => [.ow s12.1.l, .fz (D.int take1.1), .fz ((eT (eP D.int D.int)) s12.2), .fz (D.int of2.1), u13, u14, .fz ((eP D.int (eT (eP D.int D.int))) order_of15), .fz ((eL (eT D.int)) lots20), .fz ((eL (eT D.int)) lots21), .fz ((eL (eT D.int)) x23), .fz ((eL (eT D.int)) v26), .fz ((eT D.int) x27), .fz ((eT D.int) x28), .fz (D.int x31), .no, .no, .no, .no, .no]) (x_cons (x_var rfl) x_nil) (ds := [(eT D.int) x28]) rfl it_T (e2 := [.ow s12.1.l, .fz (D.int take1.1), .fz ((eT (eP D.int D.int)) s12.2), .fz (D.int of2.1), u13, u14, .fz ((eP D.int (eT (eP D.int D.int))) order_of15), .fz ((eL (eT D.int)) lots20), .fz ((eL (eT D.int)) lots21), .fz ((eL (eT D.int)) x23), .fz ((eL (eT D.int)) v26), .fz ((eT D.int) x27), .fz ((eT D.int) x28), .no, .no, .no, .no, .no, .no]) rfl rfl (fun _ => rfl) (fun _ => rfl) hl32 rfl (e3 := [.ow s12.1.l, .fz (D.int take1.1), .fz ((eT (eP D.int D.int)) s12.2), .fz (D.int of2.1), u13, u14, .fz ((eP D.int (eT (eP D.int D.int))) order_of15), .fz ((eL (eT D.int)) lots20), .fz ((eL (eT D.int)) lots21), .fz ((eL (eT D.int)) x23), .fz ((eL (eT D.int)) v26), .fz ((eT D.int) x27), .fz ((eT D.int) x28), .no, .no, .no, .no, .no, .no]) rfl (fun x31 b h => by obtain rfl := osome h; exact (x_op (x_cons (x_var rfl) (x_cons (x_var rfl) x_nil)) (ds := [D.int x31, (eT D.int) x27]) rfl (t_ninT (e := D.int)) rfl)) (fun x31 y h => by obtain rfl := osome h; exact ⟨_, (x_var rfl), rfl, rfl⟩)) (x_cons (x_lst0 x_nil (ds := []) rfl rfl rfl) x_nil)) (ds := [(eL D.int) l32, (eL D.int) []]) rfl (t_ne (e := (eL D.int))) rfl))) (fun x28 y h => by obtain rfl := osome h; exact ⟨_, (x_var rfl), rfl, rfl⟩)) (x_cons (x_lst0 x_nil (ds := []) rfl rfl rfl) x_nil)) (ds := [(eL (eT D.int)) l34, (eL (eT D.int)) []]) rfl (t_ne (e := (eL (eT D.int)))) rfl)) (fun x27 y h => by obtain rfl := osome h; exact ⟨_, (x_var rfl), rfl, rfl⟩)) (x_cons (x_lst0 x_nil (ds := []) rfl rfl rfl) x_nil)) (ds := [(eL (eT D.int)) l35, (eL (eT D.int)) []]) rfl (t_ne (e := (eL (eT D.int)))) rfl) c36 (o_nop ?_)
          obtain rfl := osome h
          exact ⟨.inl rfl, _, _, rfl⟩
      · intro fl e hq
        cases c40 with
        | inl s37 =>
          obtain ⟨rfl, u38, u39, rfl⟩ := hq
          show Out _ _
          obtain ⟨places42, hplaces42, h⟩ := bsome h
          obtain ⟨places43, hplaces43, h⟩ := bsome h
          obtain ⟨l45, hl45, h⟩ := bsome h
          refine o_seq (e1 := [.ow s12.1.l, .fz (D.int take1.1), .fz ((eT (eP D.int D.int)) s12.2), .fz (D.int of2.1), u13, (frzS u14), .fz ((eP D.int (eT (eP D.int D.int))) order_of15), .fz ((eL (eT D.int)) lots20), .fz ((eL (eT D.int)) lots21), u38, u39, .no, .no, .no, .fz ((eT (eP D.int D.int)) l45), .no, .no, .no, .no]) (s_asg (x_op (x_cons (x_comp (eP D.int D.int) (eP D.int D.int) [.ow s12.1.l, .fz (D.int take1.1), .fz ((eT (eP D.int D.int)) s12.2), .fz (D.int of2.1), u13, .no, .fz ((eP D.int (eT (eP D.int D.int))) order_of15), .fz ((eL (eT D.int)) lots20), .fz ((eL (eT D.int)) lots21), u38, u39, .no, .no, .no, .no, .no, .no, .no, .no] (fun x44 => [.ow s12.1.l, .fz (D.int take1.1), .fz ((eT (eP D.int D.int)) s12.2), .fz (D.int of2.1), u13, .fz (D.int x44.1), .fz ((eP D.int (eT (eP D.int D.int))) order_of15), .fz ((eL (eT D.int)) lots20), .fz ((eL (eT D.int)) lots21), u38, u39, .no, .no, .no, .no, .fz (D.int x44.2), .no, .no, .no]) (x_cons (x_call (e2 := [.ow s12.1.l, .fz (D.int take1.1), .fz ((eT (eP D.int D.int)) s12.2), .fz (D.int of2.1), u13, u14, .fz ((eP D.int (eT (eP D.int D.int))) order_of15), .fz ((eL (eT D.int)) lots20), .fz ((eL (eT D.int)) lots21), u38, u39, .no, .no, .no, .no, .no, .no, .no, .no]) (x_cons (x_var rfl) (x_cons x_cst x_nil)) io__law_places (ds := [(eL (eT D.int)) lots20, D.bl false]) rfl (w__law_places _ (by omega) _ _ hplaces42) rfl rfl) (x_cons (x_call (e2 := [.ow s12.1.l, .fz (D.int take1.1), .fz ((eT (eP D.int D.int)) s12.2), .fz (D.int of2.1), u13, u14, .fz ((eP D.int (eT (eP D.int D.int))) order_of15), .fz ((eL (eT D.int)) lots20), .fz ((eL (eT D.int)) lots21), u38, u39, .no, .no, .no, .no, .no, .no, .no, .no]) (x_cons (x_var rfl) (x_cons x_cst x_nil)) io__law_places (ds := [(eL (eT D.int)) lots21, D.bl true]) rfl (w__law_places _ (by omega) _ _ hplaces43) rfl rfl) x_nil)) (ds := [(eL D.int) places42, (eL D.int) places43]) rfl it_zipL (e2 := [.ow s12.1.l, .fz (D.int take1.1), .fz ((eT (eP D.int D.int)) s12.2), .fz (D.int of2.1), u13, (frzS u14), .fz ((eP D.int (eT (eP D.int D.int))) order_of15), .fz ((eL (eT D.int)) lots20), .fz ((eL (eT D.int)) lots21), u38, u39, .no, .no, .no, .no, .no, .no, .no, .no]) rfl rfl (fun _ => rfl) (fun _ => rfl) hl45 rfl (e3 := [.ow s12.1.l, .fz (D.int take1.1), .fz ((eT (eP D.int D.int)) s12.2), .fz (D.int of2.1), u13, (frzS u14), .fz ((eP D.int (eT (eP D.int D.int))) order_of15), .fz ((eL (eT D.int)) lots20), .fz ((eL (eT D.int)) lots21), u38, u39, .no, .no, .no, .no, .no, .no, .no, .no]) rfl (fun x44 b h => by obtain rfl := osome h; exact x_cst) (fun x44 y h => by obtain rfl := osome h; exact ⟨_, (x_tup0 (x_cons (x_var rfl) (x_cons (x_var rfl) x_nil)) (ds := [D.int x44.1, D.int x44.2]) rfl rfl rfl), rfl, rfl⟩)) x_nil) (ds := [(eL (eP D.int D.int)) l45]) rfl t_tupL rfl) rfl) ?_
          obtain ⟨stretches_of46, hstretches_of46, h⟩ := bsome h
          obtain ⟨tightened47, htightened47, h⟩ := bsome h
          obtain ⟨are_tight48, hare_tight48, h⟩ := bsome h
          obtain ⟨order_of49, horder_of49, h⟩ := bsome h
          obtain ⟨same50, hsame50, h⟩ := bsome h
          rcases isome h with ⟨c51, h⟩ | ⟨c51, h⟩
          · refine o_seqO (o_ite_t (x_not (x_callS (x_cons (x_lst0 (x_cons (x_call0 (x_cons (x_var rfl) x_nil) io_stretches_of (ds := [Mx.d (mx0 (eP D.int (eT (eP D.int D.int))) order_of15)]) rfl (w_stretches_of _ (by omega) _ hstretches_of46) rfl) (x_cons (x_call0 (x_cons (x_var rfl) x_nil) io_tightened (ds := [Mx.d (mx0 (eT (eP D.int D.int)) s12.2)]) rfl (w_tightened _ (by omega) _ htightened47) rfl) (x_cons (x_callS (x_cons (x_var rfl) x_nil) io_are_tight (ds := [Mx.d (mx0 (eT (eP D.int D.int)) l45)]) rfl (w_are_tight _ (by omega) _ hare_tight48) rfl) (x_cons (x_call0 (x_cons (x_var rfl) x_nil) io_order_of (ds := [Mx.d (mx0 (eT (eP D.int D.int)) l45)]) rfl (w_order_of _ (by omega) _ horder_of49) rfl) x_nil)))) (ds := [(eT (eP D.int D.int)) stretches_of46, (eT (eP D.int D.int)) tightened47, D.bl are_tight48, (eP D.int (eT (eP D.int D.int))) order_of49]) rfl rfl rfl) (x_cons (x_lst0 (x_cons (x_var rfl) (x_cons (x_var rfl) (x_cons x_cst (x_cons (x_var rfl) x_nil)))) (ds := [(eT (eP D.int D.int)) l45, (eT (eP D.int D.int)) l45, D.bl true, (eP D.int (eT (eP D.int D.int))) order_of15]) rfl rfl rfl) x_nil)) io__law_same (ds := [eD (D.lst [(eT (eP D.int D.int)) stretches_of46, (eT (eP D.int D.int)) tightened47, D.bl are_tight48, (eP D.int (eT (eP D.int D.int))) order_of49]), eD (D.lst [(eT (eP D.int D.int)) l45, (eT (eP D.int D.int)) l45, D.bl true, (eP D.int (eT (eP D.int D.int))) order_of15])]) rfl (w__law_same _ (by omega) _ _ hsame50) rfl)) c51 ?_)
            obtain rfl := osome h
            exact o_ret (o := _) x_cst rfl rfl ⟨rfl, rfl⟩
          · refine o_seqO (o_ite_f (x_not (x_callS (x_cons (x_lst0 (x_cons (x_call0 (x_cons (x_var rfl) x_nil) io_stretches_of (ds := [Mx.d (mx0 (eP D.int (eT (eP D.int D.int))) order_of15)]) rfl (w_stretches_of _ (by omega) _ hstretches_of46) rfl) (x_cons (x_call0 (x_cons (x_var rfl) x_nil) io_tightened (ds := [Mx.d (mx0 (eT (eP D.int D.int)) s12.2)]) rfl (w_tightened _ (by omega) _ htightened47) rfl) (x_cons (x_callS (x_cons (x_var rfl) x_nil) io_are_tight (ds := [Mx.d (mx0 (eT (eP D.int D.int)) l45)]) rfl (w_are_tight _ (by omega) _ hare_tight48) rfl) (x_cons (x_call0 (x_cons (x_var rfl) x_nil) io_order_of (ds := [Mx.d (mx0 (eT (eP D.int D.int)) l45)]) rfl (w_order_of _ (by omega) _ horder_of49) rfl) x_nil)))) (ds := [(eT (eP D.int D.int)) stretches_of46, (eT (eP D.int D.int)) tightened47, D.bl are_tight48, (eP D.int (eT (eP D.int D.int))) order_of49]) rfl rfl rfl) (x_cons (x_lst0 (x_cons (x_var rfl) (x_cons (x_var rfl) (x_cons x_cst (x_cons (x_var rfl) x_nil)))) (ds := [(eT (eP D.int D.int)) l45, (eT (eP D.int D.int)) l45, D.bl true, (eP D.int (eT (eP D.int D.int))) order_of15]) rfl rfl rfl) x_nil)) io__law_same (ds := [eD (D.lst [(eT (eP D.int D.int)) stretches_of46, (eT (eP D.int D.int)) tightened47, D.bl are_tight48, (eP D.int (eT (eP D.int D.int))) order_of49]), eD (D.lst [(eT (eP D.int D.int)) l45, (eT (eP D.int D.int)) l45, D.bl true, (eP D.int (eT (eP D.int D.int))) order_of15])]) rfl (w__law_same _ (by omega) _ _ hsame50) rfl)) c51 (o_nop ?_))
            show Out _ _
            obtain ⟨v52, hv52, h⟩ := bsome h
            obtain ⟨v53, hv53, h⟩ := bsome h
            rcases isome h with ⟨c54, h⟩ | ⟨c54, h⟩
            · refine o_seqO (o_ite_t (x_op (x_cons (x_op (x_cons (x_var rfl) x_nil) (ds := [(eL (eT D.int)) lots20]) rfl (t_nsetL hv52) rfl) (x_cons (x_op (x_cons (x_var rfl) x_nil) (ds := [(eL (eT D.int)) lots21]) rfl (t_nsetL hv53) rfl) x_nil)) (ds := [D.int v52, D.int v53]) rfl (t_ne (e := D.int)) rfl) c54 ?_)
              obtain rfl := osome h
              exact o_ret (o := _) x_cst rfl rfl ⟨rfl, rfl⟩
            · refine o_seqO (o_ite_f (x_op (x_cons (x_op (x_cons (x_var rfl) x_nil) (ds := [(eL (eT D.int)) lots20]) rfl (t_nsetL hv52) rfl) (x_cons (x_op (x_cons (x_var rfl) x_nil) (ds := [(eL (eT D.int)) lots21]) rfl (t_nsetL hv53) rfl) x_nil)) (ds := [D.int v52, D.int v53]) rfl (t_ne (e := D.int)) rfl) c54 (o_nop ?_))
              show Out _ _
              obtain ⟨l56, hl56, h⟩ := bsome h
              obtain ⟨v57, hv57, h⟩ := bsome h
              obtain ⟨v58, hv58, h⟩ := bsome h
              obtain ⟨v59, hv59, h⟩ := bsome h
              refine o_seq (e1 := [.ow s12.1.l, .fz (D.int take1.1), .fz ((eT (eP D.int D.int)) s12.2), .fz (D.int of2.1), u13, (frzS u14), .fz ((eP D.int (eT (eP D.int D.int))) order_of15), .fz ((eL (eT D.int)) lots20), .fz ((eL (eT D.int)) lots21), u38, u39, .no, .no, .no, .fz ((eT (eP D.int D.int)) l45), .no, .ow (v59.map D.int), .no, .no]) (s_asg (x_op (x_cons x_cst (x_cons (x_op (x_cons (x_op (x_cons (x_op (x_cons (x_lst0 (x_cons x_cst x_nil) (ds := [D.int 0]) rfl rfl rfl) (x_cons (x_comp (eP D.int D.int) D.int [.ow s12.1.l, .fz (D.int take1.1), .fz ((eT (eP D.int D.int)) s12.2), .fz (D.int of2.1), u13, (frzS u14), .fz ((eP D.int (eT (eP D.int D.int))) order_of15), .fz ((eL (eT D.int)) lots20), .fz ((eL (eT D.int)) lots21), u38, u39, .no, .no, .no, .fz ((eT (eP D.int D.int)) l45), .no, .no, .no, .no] (fun x55 => [.ow s12.1.l, .fz (D.int take1.1), .fz ((eT (eP D.int D.int)) s12.2), .fz (D.int of2.1), u13, (frzS u14), .fz ((eP D.int (eT (eP D.int D.int))) order_of15), .fz ((eL (eT D.int)) lots20), .fz ((eL (eT D.int)) lots21), u38, u39, .fz ((eP D.int D.int) x55), .no, .no, .fz ((eT (eP D.int D.int)) l45), .no, .no, .no, .no]) (x_cons (x_var rfl) x_nil) (ds := [(eT (eP D.int D.int)) s12.2]) rfl it_T (e2 := [.ow s12.1.l, .fz (D.int take1.1), .fz ((eT (eP D.int D.int)) s12.2), .fz (D.int of2.1), u13, (frzS u14), .fz ((eP D.int (eT (eP D.int D.int))) order_of15), .fz ((eL (eT D.int)) lots20), .fz ((eL (eT D.int)) lots21), u38, u39, .no, .no, .no, .fz ((eT (eP D.int D.int)) l45), .no, .no, .no, .no]) rfl rfl (fun _ => rfl) (fun _ => rfl) hl56 rfl (e3 := [.ow s12.1.l, .fz (D.int take1.1), .fz ((eT (eP D.int D.int)) s12.2), .fz (D.int of2.1), u13, (frzS u14), .fz ((eP D.int (eT (eP D.int D.int))) order_of15), .fz ((eL (eT D.int)) lots20), .fz ((eL (eT D.int)) lots21), u38, u39, .no, .no, .no, .fz ((eT (eP D.int D.int)) l45), .no, .no, .no, .no]) rfl (fun x55 b h => by obtain rfl := osome h; exact x_cst) (fun x55 y h => by obtain rfl := osome h; exact ⟨_, (x_op (x_cons (x_var rfl) (x_cons x_cst x_nil)) (ds := [(eP D.int D.int) x55, D.int 1]) rfl (show _ = some (D.int x55.2) from rfl) res_ix), rfl, rfl⟩)) x_nil)) (ds := [(eL D.int) [0], (eL D.int) l56]) rfl (t_catL hv57) rfl) x_nil) (ds := [(eL D.int) v57]) rfl (t_maxL hv58) rfl) (x_cons x_cst x_nil)) (ds := [D.int v58, D.int 1]) rfl t_add rfl) x_nil)) (ds := [D.int 1, D.int (v58 + 1)]) rfl (t_lrg2 hv59) rfl) rfl) ?_
              obtain ⟨l61, hl61, h⟩ := bsome h
              obtain ⟨v62, hv62, h⟩ := bsome h
              obtain ⟨v66, hv66, h⟩ := bsome h
              refine o_seq (e1 := [.ow s12.1.l, .fz (D.int take1.1), .fz ((eT (eP D.int D.int)) s12.2), .fz (D.int of2.1), u13, (frzS u14), .fz ((eP D.int (eT (eP D.int D.int))) order_of15), .fz ((eL (eT D.int)) lots20), .fz ((eL (eT D.int)) lots21), u38, u39, .no, .no, .no, .fz ((eT (eP D.int D.int)) l45), .no, .ow (v59.map D.int), .fz (D.bl v66), .no]) (s_asg (x_andO (x_op (x_cons (x_op (x_cons (x_comp (eP D.int D.int) D.int [.ow s12.1.l, .fz (D.int take1.1), .fz ((eT (eP D.int D.int)) s12.2), .fz (D.int of2.1), u13, (frzS u14), .fz ((eP D.int (eT (eP D.int D.int))) order_of15), .fz ((eL (eT D.int)) lots20), .fz ((eL (eT D.int)) lots21), u38, u39, .no, .no, .no, .fz ((eT (eP D.int D.int)) l45), .no, .ow (v59.map D.int), .no, .no] (fun x60 => [.ow s12.1.l, .fz (D.int take1.1), .fz ((eT (eP D.int D.int)) s12.2), .fz (D.int of2.1), u13, (frzS u14), .fz ((eP D.int (eT (eP D.int D.int))) order_of15), .fz ((eL (eT D.int)) lots20), .fz ((eL (eT D.int)) lots21), u38, u39, .fz ((eP D.int D.int) x60), .no, .no, .fz ((eT (eP D.int D.int)) l45), .no, .ow (v59.map D.int), .no, .no]) (x_cons (x_var rfl) x_nil) (ds := [(eT (eP D.int D.int)) s12.2]) rfl it_T (e2 := [.ow s12.1.l, .fz (D.int take1.1), .fz ((eT (eP D.int D.int)) s12.2), .fz (D.int of2.1), u13, (frzS u14), .fz ((eP D.int (eT (eP D.int D.int))) order_of15), .fz ((eL (eT D.int)) lots20), .fz ((eL (eT D.int)) lots21), u38, u39, .no, .no, .no, .fz ((eT (eP D.int D.int)) l45), .no, .ow (v59.map D.int), .no, .no]) rfl rfl (fun _ => rfl) (fun _ => rfl) hl61 rfl (e3 := [.ow s12.1.l, .fz (D.int take1.1), .fz ((eT (eP D.int D.int)) s12.2), .fz (D.int of2.1), u13, (frzS u14), .fz ((eP D.int (eT (eP D.int D.int))) order_of15), .fz ((eL (eT D.int)) lots20), .fz ((eL (eT D.int)) lots21), u38, u39, .no, .no, .no, .fz ((eT (eP D.int D.int)) l45), .no, .ow (v59.map D.int), .no, .no]) rfl (fun x60 b h => by obtain rfl := osome h; exact x_cst) (fun x60 y h => by obtain rfl := osome h; exact ⟨_, (x_op (x_cons (x_var rfl) (x_cons x_cst x_nil)) (ds := [(eP D.int D.int) x60, D.int 0]) rfl (show _ = some (D.int x60.1) from rfl) res_ix), rfl, rfl⟩)) x_nil) (ds := [(eL D.int) l61]) rfl (t_ssetL hv62) rfl) (x_cons (x_own rfl) x_nil)) (ds := [(eL D.int) v62, (eL D.int) v59]) rfl (t_eq (e := (eL D.int))) rfl) hv66 fun _ b2 h => by obtain ⟨l64, hl64, h⟩ := bsome h; obtain ⟨v65, hv65, h⟩ := bsome h; obtain rfl := osome h; exact (x_op (x_cons (x_op (x_cons (x_comp (eP D.int D.int) D.int [.ow s12.1.l, .fz (D.int take1.1), .fz ((eT (eP D.int D.int)) s12.2), .fz (D.int of2.1), u13, (frzS u14), .fz ((eP D.int (eT (eP D.int D.int))) order_of15), .fz ((eL (eT D.int)) lots20), .fz ((eL (eT D.int)) lots21), u38, u39, .no, .no, .no, .fz ((eT (eP D.int D.int)) l45), .no, .ow (v59.map D.int), .no, .no] (fun x63 => [.ow s12.1.l, .fz (D.int take1.1), .fz ((eT (eP D.int D.int)) s12.2), .fz (D.int of2.1), u13, (frzS u14), .fz ((eP D.int (eT (eP D.int D.int))) order_of15), .fz ((eL (eT D.int)) lots20), .fz ((eL (eT D.int)) lots21), u38, u39, .fz ((eP D.int D.int) x63), .no, .no, .fz ((eT (eP D.int D.int)) l45), .no, .ow (v59.map D.int), .no, .no]) (x_cons (x_var rfl) x_nil) (ds := [(eT (eP D.int D.int)) s12.2]) rfl it_T (e2 := [.ow s12.1.l, .fz (D.int take1.1), .fz ((eT (eP D.int D.int)) s12.2), .fz (D.int of2.1), u13, (frzS u14), .fz ((eP D.int (eT (eP D.int D.int))) order_of15), .fz ((eL (eT D.int)) lots20), .fz ((eL (eT D.int)) lots21), u38, u39, .no, .no, .no, .fz ((eT (eP D.int D.int)) l45), .no, .ow (v59.map D.int), .no, .no]) rfl rfl (fun _ => rfl) (fun _ => rfl) hl64 rfl (e3 := [.ow s12.1.l, .fz (D.int take1.1), .fz ((eT (eP D.int D.int)) s12.2), .fz (D.int of2.1), u13, (frzS u14), .fz ((eP D.int (eT (eP D.int D.int))) order_of15), .fz ((eL (eT D.int)) lots20), .fz ((eL (eT D.int)) lots21), u38, u39, .no, .no, .no, .fz ((eT (eP D.int D.int)) l45), .no, .ow (v59.map D.int), .no, .no]) rfl (fun x63 b h => by obtain rfl := osome h; exact x_cst) (fun x63 y h => by obtain rfl := osome h; exact ⟨_, (x_op (x_cons (x_var rfl) (x_cons x_cst x_nil)) (ds := [(eP D.int D.int) x63, D.int 1]) rfl (show _ = some (D.int x63.2) from rfl) res_ix), rfl, rfl⟩)) x_nil) (ds := [(eL D.int) l64]) rfl (t_ssetL hv65) rfl) (x_cons (x_own rfl) x_nil)) (ds := [(eL D.int) v65, (eL D.int) v59]) rfl (t_eq (e := (eL D.int))) rfl)) rfl) ?_
              obtain ⟨are_tight67, hare_tight67, h⟩ := bsome h
              obtain ⟨same68, hsame68, h⟩ := bsome h
              rcases isome h with ⟨c69, h⟩ | ⟨c69, h⟩
              · refine o_seqO (o_ite_t (x_or (x_not (x_callS (x_cons (x_callS (x_cons (x_var rfl) x_nil) io_are_tight (ds := [Mx.d (mx0 (eT (eP D.int D.int)) s12.2)]) rfl (w_are_tight _ (by omega) _ hare_tight67) rfl) (x_cons (x_var rfl) x_nil)) io__law_same (ds := [eD (D.bl are_tight67), eD (D.bl v66)]) rfl (w__law_same _ (by omega) _ _ hsame68) rfl)) (x_and (x_var rfl) (x_op (x_cons (x_var rfl) (x_cons (x_var rfl) x_nil)) (ds := [(eT (eP D.int D.int)) l45, (eT (eP D.int D.int)) s12.2]) rfl (t_ne (e := (eT (eP D.int D.int)))) rfl))) c69 ?_)
                obtain rfl := osome h
                exact o_ret (o := _) x_cst rfl rfl ⟨rfl, rfl⟩
              · refine o_seqO (o_ite_f (x_or (x_not (x_callS (x_cons (x_callS (x_cons (x_var rfl) x_nil) io_are_tight (ds := [Mx.d (mx0 (eT (eP D.int D.int)) s12.2)]) rfl (w_are_tight _ (by omega) _ hare_tight67) rfl) (x_cons (x_var rfl) x_nil)) io__law_same (ds := [eD (D.bl are_tight67), eD (D.bl v66)]) rfl (w__law_same _ (by omega) _ _ hsame68) rfl)) (x_and (x_var rfl) (x_op (x_cons (x_var rfl) (x_cons (x_var rfl) x_nil)) (ds := [(eT (eP D.int D.int)) l45, (eT (eP D.int D.int)) s12.2]) rfl (t_ne (e := (eT (eP D.int D.int)))) rfl))) c69 (o_nop ?_))
                show Out _ _
                obtain ⟨l71, hl71, h⟩ := bsome h
                refine o_seq (e1 := [.ow s12.1.l, .fz (D.int take1.1), .fz ((eT (eP D.int D.int)) s12.2), .fz (D.int of2.1), u13, (frzS (frzS u14)), .fz ((eP D.int (eT (eP D.int D.int))) order_of15), .fz ((eL (eT D.int)) lots20), .fz ((eL (eT D.int)) lots21), u38, u39, .no, .no, .no, .fz ((eT (eP D.int D.int)) l45), .no, .ow (v59.map D.int), .fz (D.bl v66), .fz ((eT (eP D.int D.int)) l71)]) (s_asg (x_op (x_cons (x_comp (eP D.int D.int) (eP D.int D.int) [.ow s12.1.l, .fz (D.int take1.1), .fz ((eT (eP D.int D.int)) s12.2), .fz (D.int of2.1), u13, .no, .fz ((eP D.int (eT (eP D.int D.int))) order_of15), .fz ((eL (eT D.int)) lots20), .fz ((eL (eT D.int)) lots21), u38, u39, .no, .no, .no, .fz ((eT (eP D.int D.int)) l45), .no, .ow (v59.map D.int), .fz (D.bl v66), .no] (fun x70 => [.ow s12.1.l, .fz (D.int take1.1), .fz ((eT (eP D.int D.int)) s12.2), .fz (D.int of2.1), u13, .fz (D.int x70.1), .fz ((eP D.int (eT (eP D.int D.int))) order_of15), .fz ((eL (eT D.int)) lots20), .fz ((eL (eT D.int)) lots21), u38, u39, .no, .no, .no, .fz ((eT (eP D.int D.int)) l45), .fz (D.int x70.2), .ow (v59.map D.int), .fz (D.bl v66), .no]) (x_cons (x_var rfl) x_nil) (ds := [(eT (eP D.int D.int)) s12.2]) rfl it_T (e2 := [.ow s12.1.l, .fz (D.int take1.1), .fz ((eT (eP D.int D.int)) s12.2), .fz (D.int of2.1), u13, (frzS (frzS u14)), .fz ((eP D.int (eT (eP D.int D.int))) order_of15), .fz ((eL (eT D.int)) lots20), .fz ((eL (eT D.int)) lots21), u38, u39, .no, .no, .no, .fz ((eT (eP D.int D.int)) l45), .no, .ow (v59.map D.int), .fz (D.bl v66), .no]) rfl rfl (fun _ => rfl) (fun _ => rfl) hl71 rfl (e3 := [.ow s12.1.l, .fz (D.int take1.1), .fz ((eT (eP D.int D.int)) s12.2), .fz (D.int of2.1), u13, (frzS (frzS u14)), .fz ((eP D.int (eT (eP D.int D.int))) order_of15), .fz ((eL (eT D.int)) lots20), .fz ((eL (eT D.int)) lots21), u38, u39, .no, .no, .no, .fz ((eT (eP D.int D.int)) l45), .no, .ow (v59.map D.int), .fz (D.bl v66), .no]) rfl (fun x70 b h => by obtain rfl := osome h; exact x_cst) (fun x70 y h => by obtain rfl := osome h; exact ⟨_, (x_tup0 (x_cons (x_op (x_cons (x_var rfl) (x_cons x_cst x_nil)) (ds := [D.int x70.1, D.int 3]) rfl t_add rfl) (x_cons (x_op (x_cons (x_var rfl) (x_cons x_cst x_nil)) (ds := [D.int x70.2, D.int 3]) rfl t_add rfl) x_nil)) (ds := [D.int (x70.1 + 3), D.int (x70.2 + 3)]) rfl rfl rfl), rfl, rfl⟩)) x_nil) (ds := [(eL (eP D.int D.int)) l71]) rfl t_tupL rfl) rfl) ?_
                obtain ⟨l73, hl73, h⟩ := bsome h
                obtain ⟨v74, hv74, h⟩ := bsome h
                obtain ⟨v75, hv75, h⟩ := bsome h
                obtain ⟨v79, hv79, h⟩ := bsome h
                obtain rfl := osome h
                exact o_ret (o := _) (x_orO (x_op (x_cons (x_op (x_cons (x_op (x_cons (x_lst0 (x_cons x_cst x_nil) (ds := [D.int 0]) rfl rfl rfl) (x_cons (x_comp (eP D.int D.int) D.int [.ow s12.1.l, .fz (D.int take1.1), .fz ((eT (eP D.int D.int)) s12.2), .fz (D.int of2.1), u13, (frzS (frzS u14)), .fz ((eP D.int (eT (eP D.int D.int))) order_of15), .fz ((eL (eT D.int)) lots20), .fz ((eL (eT D.int)) lots21), u38, u39, .no, .no, .no, .fz ((eT (eP D.int D.int)) l45), .no, .ow (v59.map D.int), .fz (D.bl v66), .fz ((eT (eP D.int D.int)) l71)] (fun x72 => [.ow s12.1.l, .fz (D.int take1.1), .fz ((eT (eP D.int D.int)) s12.2), .fz (D.int of2.1), u13, (frzS (frzS u14)), .fz ((eP D.int (eT (eP D.int D.int))) order_of15), .fz ((eL (eT D.int)) lots20), .fz ((eL (eT D.int)) lots21), u38, u39, .fz ((eP D.int D.int) x72), .no, .no, .fz ((eT (eP D.int D.int)) l45), .no, .ow (v59.map D.int), .fz (D.bl v66), .fz ((eT (eP D.int D.int)) l71)]) (x_cons (x_var rfl) x_nil) (ds := [(eT (eP D.int D.int)) l71]) rfl it_T (e2 := [.ow s12.1.l, .fz (D.int take1.1), .fz ((eT (eP D.int D.int)) s12.2), .fz (D.int of2.1), u13, (frzS (frzS u14)), .fz ((eP D.int (eT (eP D.int D.int))) order_of15), .fz ((eL (eT D.int)) lots20), .fz ((eL (eT D.int)) lots21), u38, u39, .no, .no, .no, .fz ((eT (eP D.int D.int)) l45), .no, .ow (v59.map D.int), .fz (D.bl v66), .fz ((eT (eP D.int D.int)) l71)]) rfl rfl (fun _ => rfl) (fun _ => rfl) hl73 rfl (e3 := [.ow s12.1.l, .fz (D.int take1.1), .fz ((eT (eP D.int D.int)) s12.2), .fz (D.int of2.1), u13, (frzS (frzS u14)), .fz ((eP D.int (eT (eP D.int D.int))) order_of15), .fz ((eL (eT D.int)) lots20), .fz ((eL (eT D.int)) lots21), u38, u39, .no, .no, .no, .fz ((eT (eP D.int D.int)) l45), .no, .ow (v59.map D.int), .fz (D.bl v66), .fz ((eT (eP D.int D.int)) l71)]) rfl (fun x72 b h => by obtain rfl := osome h; exact x_cst) (fun x72 y h => by obtain rfl := osome h; exact ⟨_, (x_op (x_cons (x_var rfl) (x_cons x_cst x_nil)) (ds := [(eP D.int D.int) x72, D.int 1]) rfl (show _ = some (D.int x72.2) from rfl) res_ix), rfl, rfl⟩)) x_nil)) (ds := [(eL D.int) [0], (eL D.int) l73]) rfl (t_catL hv74) rfl) x_nil) (ds := [(eL D.int) v74]) rfl (t_maxL hv75) rfl) (x_cons x_cst x_nil)) (ds := [D.int v75, D.int 60]) rfl t_gt rfl) hv79 fun _ b2 h => by obtain ⟨order_of76, horder_of76, h⟩ := bsome h; obtain ⟨tightened77, htightened77, h⟩ := bsome h; obtain ⟨same78, hsame78, h⟩ := bsome h; obtain rfl := osome h; exact (x_callS (x_cons (x_lst0 (x_cons (x_call0 (x_cons (x_var rfl) x_nil) io_order_of (ds := [Mx.d (mx0 (eT (eP D.int D.int)) l71)]) rfl (w_order_of _ (by omega) _ horder_of76) rfl) (x_cons (x_call0 (x_cons (x_var rfl) x_nil) io_tightened (ds := [Mx.d (mx0 (eT (eP D.int D.int)) l71)]) rfl (w_tightened _ (by omega) _ htightened77) rfl) x_nil)) (ds := [(eP D.int (eT (eP D.int D.int))) order_of76, (eT (eP D.int D.int)) tightened77]) rfl rfl rfl) (x_cons (x_lst0 (x_cons (x_var rfl) (x_cons (x_var rfl) x_nil)) (ds := [(eP D.int (eT (eP D.int D.int))) order_of15, (eT (eP D.int D.int)) l45]) rfl rfl rfl) x_nil)) io__law_same (ds := [eD (D.lst [(eP D.int (eT (eP D.int D.int))) order_of76, (eT (eP D.int D.int)) tightened77]), eD (D.lst [(eP D.int (eT (eP D.int D.int))) order_of15, (eT (eP D.int D.int)) l45])]) rfl (w__law_same _ (by omega) _ _ hsame78) rfl)) rfl rfl ⟨rfl, rfl⟩
        | inr r41 =>
          obtain ⟨rfl, hq⟩ := hq
          obtain rfl := osome h
          exact ⟨rfl, hq⟩

def f_law (p_script : List Int) : Option (Bool) :=
  (f__law_cells p_script 1).bind fun cells1 =>
  (f__law_box cells1 0).bind fun box2 =>
  (rgG 6).bind fun v3 =>
  (forR (ρ := Bool) (fun (s4 : St) (x5 : Int) =>
    (f__law_lap_one s4 ).bind fun lap_one7 =>
    if (!lap_one7.1) = true then
      some (.rt false)
    else
      some (.nx lap_one7.2)) v3 box2).bind fun c11 =>
  match c11 with
  | .inl s9 =>
    (f_order_of (mx0 (eT (eP D.int D.int)) [(1, 1), (2, 2), (1, 2)])).bind fun order_of13 =>
    (f_stretches_of (mx0 (eP D.int (eT (eP D.int D.int))) (3, [(0, 1)]))).bind fun stretches_of14 =>
    (f_tightened (mx0 (eT (eP D.int D.int)) [(1, 1), (3, 4)])).bind fun tightened15 =>
    (f_stretches_of (mx0 (eP D.int (eT (eP D.int D.int))) (0, []))).bind fun stretches_of16 =>
    (f_are_tight (mx0 (eT (eP D.int D.int)) [])).bind fun are_tight17 =>
    (f_are_tight (mx0 (eT (eP D.int D.int)) [(1, 1), (3, 4)])).bind fun are_tight18 =>
    (f__law_same (D.lst [(eP D.int (eT (eP D.int D.int))) order_of13, (eT (eP D.int D.int)) stretches_of14, (eT (eP D.int D.int)) tightened15, (eT (eP D.int D.int)) stretches_of16, D.bl are_tight17, D.bl are_tight18]) (D.lst [(eP D.int (eT (eP D.int D.int))) (3, [(0, 1)]), (eP3 (eP D.int D.int) (eP D.int D.int) (eP D.int D.int)) ((1, 1), (2, 2), (1, 2)), (eP (eP D.int D.int) (eP D.int D.int)) ((1, 1), (2, 2)), (eT D.int) [], D.bl true, D.bl false])).bind fun same19 =>
    some same19
  | .inr r12 =>
    some r12
theorem w_law (m : Nat) (hm : 12 ≤ m) (p_script : List Int) {r : Bool} (h : f_law p_script = some r) : evFn tb 1000 m kn_law [D.ro p_script] = .ok (D.bl r) false [] := by
  obtain ⟨m, rfl⟩ : ∃ k, m = k + 1 := ⟨m - 1, by omega⟩
  unfold f_law at h
  refine fn_pure tb_law rfl rfl (e0 := [.fz (D.ro p_script), .no, .no, .no]) rfl ?_
  show Out (evS (C m) _ _) _
  obtain ⟨cells1, hcells1, h⟩ := bsome h
  obtain ⟨box2, hbox2, h⟩ := bsome h
  refine o_seq (e1 := [.fz (D.ro p_script), .ow box2.l, .no, .no]) (s_asg (x_call (e2 := [.fz (D.ro p_script), .no, .no, .no]) (x_cons (x_call (e2 := [.fz (D.ro p_script), .no, .no, .no]) (x_cons (x_var rfl) (x_cons x_cst x_nil)) io__law_cells (ds := [D.ro p_script, D.int 1]) rfl (w__law_cells _ (by omega) _ _ hcells1) rfl rfl) (x_cons x_cst x_nil)) io__law_box (ds := [(eL D.int) cells1, D.int 0]) rfl (w__law_box _ (by omega) _ _ hbox2) rfl rfl) rfl) ?_
  obtain ⟨v3, hv3, h⟩ := bsome h
  obtain ⟨c11, hc11, h⟩ := bsome h
  refine o_seqO (o_forR D.int (fun r => D.bl r) false (fun s4 e => ∃ u6, e = [.fz (D.ro p_script), .ow s4.l, u6, .no]) (fun _ _ => True) (x_cons x_cst x_nil) (ds := [D.int 6]) rfl (iy_rg1 hv3) (by exact ⟨_, rfl⟩) hc11 ?_ ?_)
  · intro s4 x5 cc env hI h
    obtain ⟨u6, rfl⟩ := hI
    refine ⟨[.fz (D.ro p_script), .ow s4.l, .fz (D.int x5), .no], rfl, ?_⟩
    obtain ⟨lap_one7, hlap_one7, h⟩ := bsome h
    rcases isome h with ⟨c8, h⟩ | ⟨c8, h⟩
    · refine o_ite_t (x_not (x_io (e2 := [.fz (D.ro p_script), .ow lap_one7.2.l, .fz (D.int x5), .no]) rfl x_nil io__law_lap_one rfl rfl (us := []) rfl (w__law_lap_one _ (by omega) _ hlap_one7) rfl rfl)) c8 ?_
      obtain rfl := osome h
      exact o_ret x_cst rfl rfl ⟨rfl, trivial⟩
    · refine o_ite_f (x_not (x_io (e2 := [.fz (D.ro p_script), .ow lap_one7.2.l, .fz (D.int x5), .no]) rfl x_nil io__law_lap_one rfl rfl (us := []) rfl (w__law_lap_one _ (by omega) _ hlap_one7) rfl rfl)) c8 (o_nop ?_)
      obtain rfl := osome h
      exact ⟨.inl rfl, _, rfl⟩
  · intro fl e hq
    cases c11 with
    | inl s9 =>
      obtain ⟨rfl, u10, rfl⟩ := hq
      show Out _ _
      obtain ⟨order_of13, horder_of13, h⟩ := bsome h
      obtain ⟨stretches_of14, hstretches_of14, h⟩ := bsome h
      obtain ⟨tightened15, htightened15, h⟩ := bsome h
      obtain ⟨stretches_of16, hstretches_of16, h⟩ := bsome h
      obtain ⟨are_tight17, hare_tight17, h⟩ := bsome h
      obtain ⟨are_tight18, hare_tight18, h⟩ := bsome h
      refine o_seq (e1 := [.fz (D.ro p_script), .ow s9.l, u10, .ow [(eP D.int (eT (eP D.int D.int))) order_of13, (eT (eP D.int D.int)) stretches_of14, (eT (eP D.int D.int)) tightened15, (eT (eP D.int D.int)) stretches_of16, D.bl are_tight17, D.bl are_tight18]]) (s_asg (x_lst0 (x_cons (x_call0 (x_cons (x_tup0 (x_cons (x_tup0 (x_cons x_cst (x_cons x_cst x_nil)) (ds := [D.int 1, D.int 1]) rfl rfl rfl) (x_cons (x_tup0 (x_cons x_cst (x_cons x_cst x_nil)) (ds := [D.int 2, D.int 2]) rfl rfl rfl) (x_cons (x_tup0 (x_cons x_cst (x_cons x_cst x_nil)) (ds := [D.int 1, D.int 2]) rfl rfl rfl) x_nil))) (ds := [(eP D.int D.int) (1, 1), (eP D.int D.int) (2, 2), (eP D.int D.int) (1, 2)]) rfl rfl rfl) x_nil) io_order_of (ds := [Mx.d (mx0 (eT (eP D.int D.int)) [(1, 1), (2, 2), (1, 2)])]) rfl (w_order_of _ (by omega) _ horder_of13) rfl) (x_cons (x_call0 (x_cons (x_tup0 (x_cons x_cst (x_cons (x_tup0 (x_cons (x_tup0 (x_cons x_cst (x_cons x_cst x_nil)) (ds := [D.int 0, D.int 1]) rfl rfl rfl) x_nil) (ds := [(eP D.int D.int) (0, 1)]) rfl rfl rfl) x_nil)) (ds := [D.int 3, (eT (eP D.int D.int)) [(0, 1)]]) rfl rfl rfl) x_nil) io_stretches_of (ds := [Mx.d (mx0 (eP D.int (eT (eP D.int D.int))) (3, [(0, 1)]))]) rfl (w_stretches_of _ (by omega) _ hstretches_of14) rfl) (x_cons (x_call0 (x_cons (x_tup0 (x_cons (x_tup0 (x_cons x_cst (x_cons x_cst x_nil)) (ds := [D.int 1, D.int 1]) rfl rfl rfl) (x_cons (x_tup0 (x_cons x_cst (x_cons x_cst x_nil)) (ds := [D.int 3, D.int 4]) rfl rfl rfl) x_nil)) (ds := [(eP D.int D.int) (1, 1), (eP D.int D.int) (3, 4)]) rfl rfl rfl) x_nil) io_tightened (ds := [Mx.d (mx0 (eT (eP D.int D.int)) [(1, 1), (3, 4)])]) rfl (w_tightened _ (by omega) _ htightened15) rfl) (x_cons (x_call0 (x_cons (x_tup0 (x_cons x_cst (x_cons (x_tup0 x_nil (ds := []) rfl rfl rfl) x_nil)) (ds := [D.int 0, (eT (eP D.int D.int)) []]) rfl rfl rfl) x_nil) io_stretches_of (ds := [Mx.d (mx0 (eP D.int (eT (eP D.int D.int))) (0, []))]) rfl (w_stretches_of _ (by omega) _ hstretches_of16) rfl) (x_cons (x_callS (x_cons (x_tup0 x_nil (ds := []) rfl rfl rfl) x_nil) io_are_tight (ds := [Mx.d (mx0 (eT (eP D.int D.int)) [])]) rfl (w_are_tight _ (by omega) _ hare_tight17) rfl) (x_cons (x_callS (x_cons (x_tup0 (x_cons (x_tup0 (x_cons x_cst (x_cons x_cst x_nil)) (ds := [D.int 1, D.int 1]) rfl rfl rfl) (x_cons (x_tup0 (x_cons x_cst (x_cons x_cst x_nil)) (ds := [D.int 3, D.int 4]) rfl rfl rfl) x_nil)) (ds := [(eP D.int D.int) (1, 1), (eP D.int D.int) (3, 4)]) rfl rfl rfl) x_nil) io_are_tight (ds := [Mx.d (mx0 (eT (eP D.int D.int)) [(1, 1), (3, 4)])]) rfl (w_are_tight _ (by omega) _ hare_tight18) rfl) x_nil)))))) (ds := [(eP D.int (eT (eP D.int D.int))) order_of13, (eT (eP D.int D.int)) stretches_of14, (eT (eP D.int D.int)) tightened15, (eT (eP D.int D.int)) stretches_of16, D.bl are_tight17, D.bl are_tight18]) rfl rfl rfl) rfl) ?_
      obtain ⟨same19, hsame19, h⟩ := bsome h
      obtain rfl := osome h
      exact o_ret (o := _) (x_callS (x_cons (x_own rfl) (x_cons (x_lst0 (x_cons (x_tup0 (x_cons x_cst (x_cons (x_tup0 (x_cons (x_tup0 (x_cons x_cst (x_cons x_cst x_nil)) (ds := [D.int 0, D.int 1]) rfl rfl rfl) x_nil) (ds := [(eP D.int D.int) (0, 1)]) rfl rfl rfl) x_nil)) (ds := [D.int 3, (eT (eP D.int D.int)) [(0, 1)]]) rfl rfl rfl) (x_cons (x_tup0 (x_cons (x_tup0 (x_cons x_cst (x_cons x_cst x_nil)) (ds := [D.int 1, D.int 1]) rfl rfl rfl) (x_cons (x_tup0 (x_cons x_cst (x_cons x_cst x_nil)) (ds := [D.int 2, D.int 2]) rfl rfl rfl) (x_cons (x_tup0 (x_cons x_cst (x_cons x_cst x_nil)) (ds := [D.int 1, D.int 2]) rfl rfl rfl) x_nil))) (ds := [(eP D.int D.int) (1, 1), (eP D.int D.int) (2, 2), (eP D.int D.int) (1, 2)]) rfl rfl rfl) (x_cons (x_tup0 (x_cons (x_tup0 (x_cons x_cst (x_cons x_cst x_nil)) (ds := [D.int 1, D.int 1]) rfl rfl rfl) (x_cons (x_tup0 (x_cons x_cst (x_cons x_cst x_nil)) (ds := [D.int 2, D.int 2]) rfl rfl rfl) x_nil)) (ds := [(eP D.int D.int) (1, 1), (eP D.int D.int) (2, 2)]) rfl rfl rfl) (x_cons (x_tup0 x_nil (ds := []) rfl rfl rfl) (x_cons x_cst (x_cons x_cst x_nil)))))) (ds := [(eP D.int (eT (eP D.int D.int))) (3, [(0, 1)]), (eP3 (eP D.int D.int) (eP D.int D.int) (eP D.int D.int)) ((1, 1), (2, 2), (1, 2)), (eP (eP D.int D.int) (eP D.int D.int)) ((1, 1), (2, 2)), (eT D.int) [], D.bl true, D.bl false]) rfl rfl rfl) x_nil)) io__law_same (ds := [eD (D.lst [(eP D.int (eT (eP D.int D.int))) order_of13, (eT (eP D.int D.int)) stretches_of14, (eT (eP D.int D.int)) tightened15, (eT (eP D.int D.int)) stretches_of16, D.bl are_tight17, D.bl are_tight18]), eD (D.lst [(eP D.int (eT (eP D.int D.int))) (3, [(0, 1)]), (eP3 (eP D.int D.int) (eP D.int D.int) (eP D.int D.int)) ((1, 1), (2, 2), (1, 2)), (eP (eP D.int D.int) (eP D.int D.int)) ((1, 1), (2, 2)), (eT D.int) [], D.bl true, D.bl false])]) rfl (w__law_same _ (by omega) _ _ hsame19) rfl) rfl rfl rfl
    | inr r12 =>
      obtain ⟨rfl, hq⟩ := hq
      obtain rfl := osome h
      exact rfl

end
end Lw
end
section
set_option Elab.async false
set_option linter.all false
set_option maxRecDepth 100000
namespace Lw
open PySem Ev Mo
theorem is_within_eq (i a b : Int) : f_is_within i a b = some (decide (a ≤ i) && decide (i ≤ b)) := by
  simp [f_is_within, f_is_number]
theorem are_within_ok {xs : List Int} {a b : Int} (hl : xs.length ≤ 1000000) (h : ∀ x ∈ xs, a ≤ x ∧ x ≤ b) : f_are_within_P xs a b = some true := by
  unfold f_are_within_P
  rw [compM_map (fun x => decide (a ≤ x) && decide (x ≤ b)) hl fun x _ => by rw [is_within_eq]; rfl]
  have e : (xs.map fun x => decide (a ≤ x) && decide (x ≤ b)).all id = true := by
    rw [List.all_eq_true]
    intro y hy
    obtain ⟨x, hx, rfl⟩ := List.mem_map.mp hy
    simp [h x hx]
  simp [andO, e]
theorem tup_int (n : Nat) (i : Int) : tupD n (.int i) = some (.int i) := by cases n <;> rfl
theorem tup_T {α : Type} {e : α → D} {n : Nat} {xs : List α} (hl : xs.length ≤ 1000000) (h : ∀ x ∈ xs, tupD n (e x) = some (e x)) : tupD (n + 1) (eT e xs) = some (eT e xs) := by
  show (compM (fun _ => some true) (tupD n) (xs.map e)).map D.tup = _
  rw [compM_map id (by rw [List.length_map]; exact hl) fun d hd => by obtain ⟨x, hx, rfl⟩ := List.mem_map.mp hd; exact h x hx, List.map_id]
  rfl
theorem tup_P {α β : Type} {a : α → D} {b : β → D} {n : Nat} {p : α × β} (h1 : tupD n (a p.1) = some (a p.1)) (h2 : tupD n (b p.2) = some (b p.2)) : tupD (n + 1) (eP a b p) = some (eP a b p) := by
  show (compM (fun _ => some true) (tupD n) [a p.1, b p.2]).map D.tup = _
  rw [compM_map id (by simp) fun d hd => by
    rcases List.mem_cons.mp hd with rfl | hd
    · exact h1
    · rw [List.mem_singleton.mp hd]; exact h2, List.map_id]
  rfl
theorem tup_PI (n : Nat) (p : Int × Int) : tupD (n + 1) (eP D.int D.int p) = some (eP D.int D.int p) := tup_P (tup_int _ _) (tup_int _ _)
theorem tup_S {S : Str2} (hl : S.length ≤ 1000000) (n : Nat) : tupD (n + 2) (eT (eP D.int D.int) S) = some (eT (eP D.int D.int) S) := tup_T hl fun p _ => tup_PI _ p
theorem tup_O {o : Int × List (Int × Int)} (hl : o.2.length ≤ 1000000) : tupD 6 (eP D.int (eT (eP D.int D.int)) o) = some (eP D.int (eT (eP D.int D.int)) o) := tup_P (tup_int _ _) (tup_S hl 3)
theorem are_stretches_ok {S : Str2} {m : Nat} (v : Vs m S) (hm : m ≤ 60) (hl : S.length ≤ 60) : f_are_stretches_in S = some true := by
  unfold f_are_stretches_in
  rw [if_neg (by simp; omega), compM_map (fun _ => true) (by omega) fun p hp => by
    have := v p hp
    unfold f_is_long_P
    rw [are_within_ok (by simp) (fun x hx => by rcases List.mem_cons.mp hx with rfl | hx; omega; rw [List.mem_singleton.mp hx]; omega)]
    simp [andO]; omega]
  simp
theorem sure_stretches_ok {S : Str2} {m : Nat} (v : Vs m S) (hm : m ≤ 60) (hl : S.length ≤ 60) : f_sure_stretches (mx0 (eT (eP D.int D.int)) S) = some S := by
  unfold f_sure_stretches
  have e := tupled_some (x := mx0 (eT (eP D.int D.int)) S) (tup_S (by omega) 4)
  rw [e]
  show (f_are_stretches_in S).bind _ = _
  rw [are_stretches_ok v hm hl]; rfl
theorem order_in_eq {S : Str2} (hl : S.length ≤ 60) : f_order_in S = some ((S.length : Int), prs S) := by
  unfold f_order_in
  have hr : rgG ((S.length : Nat) : Int) = some (iR S.length) := rgG_nat rfl (by omega) (by omega)
  rw [hr]
  simp only [Option.bind_some]
  rw [comp2M_eq (fun _ => iR S.length) (fun x y => bl S x y) (fun x y => (x, y)) 60 (by rw [iR_len]; omega) (fun _ _ => by rw [iR_len]; exact hl) (fun _ _ => rfl) (fun x hx y hy => by
    rw [ixG_int (mem_iR.mp hx).1 (get_in hx).1, ixG_int (mem_iR.mp hy).1 (get_in hy).1]; rfl) (fun _ _ _ _ _ => rfl)]
  rfl
theorem prs_len (S : Str2) : (prs S).length ≤ S.length * S.length := by
  unfold prs
  have key : ∀ l : List Int, (l.flatMap fun x => ((iR S.length).filter fun y => bl S x y).map fun y => (x, y)).length ≤ l.length * S.length := by
    intro l
    induction l with
    | nil => simp
    | cons x r ih =>
      rw [List.flatMap_cons, List.length_append, List.length_cons, Nat.succ_mul, List.length_map]
      have := List.length_filter_le (fun y => bl S x y) (iR S.length)
      rw [iR_len] at this
      omega
  have := key (iR S.length)
  rwa [iR_len] at this
theorem prs_len' {S : Str2} (hl : S.length ≤ 60) : (prs S).length ≤ 3600 := Nat.le_trans (prs_len S) (Nat.mul_le_mul hl hl)
abbrev O (S : Str2) : Int × List (Int × Int) := ((S.length : Int), prs S)
theorem above_eq {S : Str2} (hl : S.length ≤ 60) {x : Int} (hx : x ∈ iR S.length) : f_above_in (O S) x = some (Al S (hi S x)) := by
  unfold f_above_in
  rw [compM_flt _ _ (by have := prs_len' hl; show (prs S).length ≤ _; omega)]
  exact congrArg some (abv_eq S hx)
theorem under_eq {S : Str2} (hl : S.length ≤ 60) {x : Int} (hx : x ∈ iR S.length) : f_under_in (O S) x = some (Ul S (lo S x)) := by
  unfold f_under_in
  rw [compM_flt _ _ (by have := prs_len' hl; show (prs S).length ≤ _; omega)]
  exact congrArg some (und_eq S hx)
theorem all_map {α : Type} {p : α → Bool} {xs : List α} (h : ∀ x ∈ xs, p x = true) : (xs.map p).all id = true := by
  rw [List.all_eq_true]
  intro y hy
  obtain ⟨x, hx, rfl⟩ := List.mem_map.mp hy
  exact h x hx
theorem pw_zip {α : Type} {R : α → α → Prop} : ∀ {xs : List α}, xs.Pairwise R → ∀ p ∈ xs.zip xs.tail, R p.1 p.2
  | [], _, p, hp => by cases hp
  | [x], _, p, hp => by cases hp
  | x :: y :: r, h, p, hp => by
    obtain ⟨h1, h2⟩ := List.pairwise_cons.mp h
    rw [List.tail_cons, List.zip_cons_cons] at hp
    rcases List.mem_cons.mp hp with rfl | hp
    · exact h1 y List.mem_cons_self
    · exact pw_zip h2 p hp
theorem zip_len {α β : Type} (xs : List α) (ys : List β) : (xs.zip ys).length ≤ xs.length := by rw [List.length_zip]; omega
theorem ascends_ok {xs : List (Int × Int)} (hl : xs.length ≤ 1000000) (u : Up (ltP ltI ltI) xs) : f_ascends_P xs = some true := by
  unfold f_ascends_P
  rw [cutL_1, compM_mapf _ (by have := zip_len xs xs.tail; omega), Option.bind_some, all_map fun p hp => pw_zip u p hp]
theorem are_pairs_ok {xs : List (Int × Int)} {n : Nat} (hl : xs.length ≤ 1000000) (u : Up (ltP ltI ltI) xs) (h : ∀ p ∈ xs, p.1 ∈ iR n ∧ p.2 ∈ iR n ∧ p.1 ≠ p.2) : f_are_pairs xs (n : Int) = some true := by
  unfold f_are_pairs
  rw [compM_map (fun _ => true) hl fun p hp => by
    obtain ⟨h1, h2, _⟩ := h p hp
    have h1 := mem_iR.mp h1; have h2 := mem_iR.mp h2
    unfold f_is_long_P
    rw [are_within_ok (by simp) (fun x hx => by rcases List.mem_cons.mp hx with rfl | hx; omega; rw [List.mem_singleton.mp hx]; omega)]
    rfl]
  rw [ascends_ok hl u, compM_mapf _ hl]
  simp only [Option.bind_some]
  rw [all_map fun _ _ => rfl, all_map fun p hp => by simp [(h p hp).2.2]]
  rfl
theorem bl_tr {S : Str2} {m : Nat} (v : Vs m S) {x y z : Int} (hy : y ∈ iR S.length) (h1 : bl S x y = true) (h2 : bl S y z = true) : bl S x z = true := by
  have := v _ (get_in hy).2
  unfold bl at *
  rw [decide_eq_true_iff] at *
  omega
theorem is_order_ok {S : Str2} {m : Nat} (v : Vs m S) (hl : S.length ≤ 20) : f_is_order_in (O S) = some true := by
  unfold f_is_order_in f_is_long_O
  have hp := prs_len' (S := S) (by omega)
  rw [is_within_eq, are_pairs_ok (n := S.length) (by show (prs S).length ≤ _; omega) (prs_up S) (fun p hp => by
    obtain ⟨h1, h2, h3⟩ := mem_prs.mp (show (p.1, p.2) ∈ prs S from hp)
    refine ⟨h1, h2, fun e => ?_⟩
    have := v _ (get_in h1).2
    unfold bl at h3
    rw [← e, decide_eq_true_iff] at h3
    omega)]
  rw [forR_all (prs S) fun p hp => by
    obtain ⟨h1, h2, h3⟩ := mem_prs.mp (show (p.1, p.2) ∈ prs S from hp)
    rw [above_eq (by omega) h2, Option.bind_some, compM_map (fun _ => true) (by
      have := List.length_filter_le (fun y => decide (hi S p.2 < lo S y)) (iR S.length)
      rw [iR_len] at this
      show (List.filter _ _).length ≤ _
      omega) fun z hz => by
      obtain ⟨hz, q⟩ := List.mem_filter.mp hz
      exact congrArg some (memB_iff.mpr (mem_prs.mpr ⟨h1, hz, bl_tr v h2 h3 q⟩)), Option.bind_some, all_map fun _ _ => rfl]
    rfl]
  have e1 : decide (0 ≤ (O S).fst) = true := decide_eq_true (by show (0 : Int) ≤ (S.length : Int); omega)
  have e2 : decide ((O S).fst ≤ 20) = true := decide_eq_true (by show (S.length : Int) ≤ 20; omega)
  simp [orO, e1, e2]
theorem sure_order_ok {S : Str2} {m : Nat} (v : Vs m S) (hl : S.length ≤ 20) : f_sure_order (mx0 (eP D.int (eT (eP D.int D.int))) (O S)) = some (O S) := by
  unfold f_sure_order
  have e := tupled_some (x := mx0 (eP D.int (eT (eP D.int D.int))) (O S)) (tup_O (by have := prs_len' (S := S) (by omega); show (prs S).length ≤ _; omega))
  rw [e]
  show (f_is_order_in (O S)).bind _ = _
  rw [is_order_ok v hl]; rfl
theorem apart_none {S : Str2} : f_apart_in (O S) = some none := by
  unfold f_apart_in
  rw [forR_all (prs S) fun p hp => by
    obtain ⟨h1, h2, h3⟩ := mem_prs.mp (show (p.1, p.2) ∈ prs S from hp)
    rw [forR_all (prs S) fun q hq => by
      obtain ⟨g1, g2, g3⟩ := mem_prs.mp (show (q.1, q.2) ∈ prs S from hq)
      have e : (memB (p.1, q.2) (prs S)) = true ∨ memB (q.1, p.2) (prs S) = true := by
        rw [memB_iff, memB_iff, mem_prs, mem_prs]
        have h3 := of_decide_eq_true h3
        have g3 := of_decide_eq_true g3
        by_cases c : hi S p.1 < lo S q.2
        · exact .inl ⟨h1, g2, decide_eq_true c⟩
        · exact .inr ⟨g1, h2, decide_eq_true (show hi S q.1 < lo S p.2 by omega)⟩
      rcases e with e | e <;> simp [e]]
    rfl]
  rfl
theorem fits_ok {S : Str2} {m : Nat} (v : Vs m S) (hl : S.length ≤ 20) : f_fits (mx0 (eP D.int (eT (eP D.int D.int))) (O S)) = some true := by
  unfold f_fits
  rw [sure_order_ok v hl, Option.bind_some, apart_none]; rfl
theorem sure_fitting_ok {S : Str2} {m : Nat} (v : Vs m S) (hl : S.length ≤ 20) : f_sure_fitting (mx0 (eP D.int (eT (eP D.int D.int))) (O S)) = some (O S) := by
  unfold f_sure_fitting
  rw [sure_order_ok v hl, Option.bind_some, apart_none]; rfl
theorem order_of_ok {S : Str2} {m : Nat} (v : Vs m S) (hm : m ≤ 60) (hl : S.length ≤ 20) : f_order_of (mx0 (eT (eP D.int D.int)) S) = some (O S) := by
  unfold f_order_of
  rw [sure_stretches_ok v hm (by omega), Option.bind_some, if_neg (by simp; omega), order_in_eq (by omega)]; rfl
theorem sub_len {α : Type} {p : α → Bool} {l : List α} {n : Nat} (h : l.length ≤ n) : (l.filter p).length ≤ n := Nat.le_trans (List.length_filter_le _ _) h
theorem ranked_ok {lots zs : List (List Int)} (b : Bool) (hl : lots.length ≤ 63) (hz : zs.length ≤ 63) (u : zs.Pairwise fun a b => a.length < b.length) (e : ∀ z, z ∈ zs ↔ z ∈ lots) : f_ranked lots b = some (if b = true then zs.reverse else zs) := by
  unfold f_ranked
  have slt := sl_L sl_I
  have nd : zs.Nodup := List.Pairwise.imp (fun {a b} h q => by rw [q] at h; omega) u
  have up1 : Up (ltL ltI) (srtT (ltL ltI) zs) := srtT_up slt nd
  have e1 : ssetG (ltL ltI) 63 lots = some (srtT (ltL ltI) zs) := sset_eq slt hl up1 fun z => by rw [srtT_mem, e]
  have l1 : (srtT (ltL ltI) zs).length ≤ 63 := by
    have : (srtT (ltL ltI) zs).Perm zs := (List.perm_ext_iff_of_nodup (up_nodup slt up1) nd).mpr fun z => srtT_mem
    rw [this.length_eq]; exact hz
  rw [e1, Option.bind_some, compM_mapf _ (by omega), Option.bind_some]
  have e2 : srtT (ltP ltI (ltL ltI)) ((srtT (ltL ltI) zs).map fun x => (((x.length : Nat) : Int), x)) = zs.map fun x => (((x.length : Nat) : Int), x) := by
    refine sort_eq (sl_P sl_I slt) ?_ ?_ fun z => ?_
    · exact List.Pairwise.map _ (fun a b h q => h (congrArg Prod.snd q)) (up_nodup slt up1)
    · unfold Up
      rw [List.pairwise_map]
      refine List.Pairwise.imp (fun {a b} h => ?_) u
      simp only [ltP]
      rw [if_neg (by omega)]
      exact decide_eq_true (by omega)
    · rw [List.mem_map, List.mem_map]
      exact exists_congr fun a => and_congr_left fun _ => srtT_mem.symm
  rw [e2, compM_mapf _ (by rw [List.length_map]; omega), List.map_map, Option.bind_some]
  have e3 : zs.map ((fun x : Int × List Int => x.2) ∘ fun x => (((x.length : Nat) : Int), x)) = zs := by
    rw [show ((fun x : Int × List Int => x.2) ∘ fun x => (((x.length : Nat) : Int), x)) = id from rfl, List.map_id]
  rw [e3]
  cases b <;> rfl
theorem unders_mem {S : Str2} {m : Nat} (h : Ti m S) (z : List Int) : z ∈ (pl m).map (Ul S) ↔ z ∈ (iR S.length).map fun x => Ul S (lo S x) := by
  rw [List.mem_map, List.mem_map]
  constructor
  · rintro ⟨t, ht, rfl⟩
    obtain ⟨x, hx, e⟩ := (pl_lo h ht).1
    exact ⟨x, hx, by rw [e]⟩
  · rintro ⟨x, hx, rfl⟩
    exact ⟨lo S x, (lo_pl h.1 hx).1, rfl⟩
theorem aboves_mem {S : Str2} {m : Nat} (h : Ti m S) (z : List Int) : z ∈ (pl m).map (Al S) ↔ z ∈ (iR S.length).map fun x => Al S (hi S x) := by
  rw [List.mem_map, List.mem_map]
  constructor
  · rintro ⟨t, ht, rfl⟩
    obtain ⟨x, hx, e⟩ := (pl_lo h ht).2
    exact ⟨x, hx, by rw [e]⟩
  · rintro ⟨x, hx, rfl⟩
    exact ⟨hi S x, (lo_pl h.1 hx).2, rfl⟩
theorem Ul_pw {S : Str2} {m : Nat} (h : Ti m S) : ((pl m).map (Ul S)).Pairwise fun a b => a.length < b.length := by
  rw [List.pairwise_map]
  exact List.Pairwise.imp_of_mem (fun {a b} ha hb q => Ul_lt h (mem_pl.mp ha).1 q (mem_pl.mp hb).2) pl_pw
theorem Al_pw {S : Str2} {m : Nat} (h : Ti m S) : ((pl m).map (Al S)).reverse.Pairwise fun a b => a.length < b.length := by
  rw [List.pairwise_reverse, List.pairwise_map]
  exact List.Pairwise.imp_of_mem (fun {a b} ha hb q => Al_lt h (mem_pl.mp ha).1 q (mem_pl.mp hb).2) pl_pw
theorem idx_pl {m : Nat} {f : Int → List Int} (nd : ((pl m).map f).Nodup) {t : Int} (ht : t ∈ pl m) : idxI ((pl m).map f) (f t) = some (t - 1) := by
  have := idxI_at (xs := (pl m).map f) (x := f t) (k := (t - 1).toNat) (by rw [List.getElem?_map, pl_at ht]; rfl) nd
  rw [this]
  have := mem_pl.mp ht
  congr 1; omega
theorem nd_of_pw {zs : List (List Int)} (u : zs.Pairwise fun a b => a.length < b.length) : zs.Nodup := List.Pairwise.imp (fun {a b} h q => by rw [q] at h; omega) u
theorem map_lohi (S : Str2) : ((iR S.length).map fun x => (lo S x, hi S x)) = S := by
  refine List.ext_getElem? fun k => ?_
  unfold iR
  rw [List.map_map, List.getElem?_map]
  by_cases h : k < S.length
  · rw [List.getElem?_range h]
    show some (lo S (k : Int), hi S (k : Int)) = _
    have := (get_in (S := S) (x := (k : Int)) (mem_iR.mpr (by omega))).1
    rw [Int.toNat_natCast] at this
    rw [this]
  · rw [List.getElem?_eq_none (by rw [List.length_range]; omega), List.getElem?_eq_none (by omega)]; rfl
theorem zip_map_same {α β γ : Type} (f : α → β) (g : α → γ) : ∀ l : List α, (l.map f).zip (l.map g) = l.map fun x => (f x, g x)
  | [] => rfl
  | x :: r => congrArg ((f x, g x) :: ·) (zip_map_same f g r)
theorem stretches_in_ok {S : Str2} {m : Nat} (h : Ti m S) (hm : m ≤ 60) (hl : S.length ≤ 60) : f_stretches_in (O S) = some S := by
  unfold f_stretches_in
  have hr : rgG (O S).1 = some (iR S.length) := rgG_nat rfl (by omega) (by show (-1000000 : Int) ≤ (S.length : Int); omega)
  rw [hr, Option.bind_some, compM_map (fun x => Ul S (lo S x)) (by rw [iR_len]; omega) fun x hx => by rw [under_eq hl hx]; rfl]
  rw [Option.bind_some, Option.bind_some, compM_map (fun x => Al S (hi S x)) (by rw [iR_len]; omega) fun x hx => by rw [above_eq hl hx]; rfl]
  rw [Option.bind_some, ranked_ok false (by rw [List.length_map, iR_len]; omega) (by rw [List.length_map, pl_len]; omega) (Ul_pw h) (unders_mem h), Option.bind_some,
    ranked_ok true (by rw [List.length_map, iR_len]; omega) (by rw [List.length_reverse, List.length_map, pl_len]; omega) (Al_pw h) (fun z => by rw [List.mem_reverse]; exact aboves_mem h z), Option.bind_some]
  rw [if_neg (by decide), if_pos rfl, List.reverse_reverse, zip_map_same]
  have ndU := nd_of_pw (Ul_pw h)
  have ndA : ((pl m).map (Al S)).Nodup := by have := nd_of_pw (Al_pw h); exact List.Pairwise.imp Ne.symm (List.pairwise_reverse.mp this)
  have key : ∀ l : List Int, (∀ x ∈ l, x ∈ iR S.length) → comp0 (fun _ => some true) (fun x11 : List Int × List Int => (idxI ((pl m).map (Ul S)) x11.1).bind fun v12 => (idxI ((pl m).map (Al S)) x11.2).bind fun v13 => some ((v12 + 1), (v13 + 1))) (l.map fun x => (Ul S (lo S x), Al S (hi S x))) = some (l.map fun x => (lo S x, hi S x)) := by
    intro l
    induction l with
    | nil => intro _; rfl
    | cons x r ih =>
      intro hx
      have hx0 := hx x List.mem_cons_self
      obtain ⟨p1, p2⟩ := lo_pl h.1 hx0
      rw [List.map_cons, comp0, Option.bind_some, if_pos rfl, idx_pl ndU p1, Option.bind_some, idx_pl ndA p2, Option.bind_some, Option.bind_some, ih fun y hy => hx y (List.mem_cons_of_mem _ hy)]
      show some ((lo S x - 1 + 1, hi S x - 1 + 1) :: _) = _
      rw [Int.sub_add_cancel, Int.sub_add_cancel]; rfl
  unfold compM
  rw [if_pos (len_cap (by rw [List.length_map, iR_len]; omega)), key _ fun _ h => h, map_lohi]; rfl
theorem stretches_of_ok {S : Str2} {m : Nat} (h : Ti m S) (hm : m ≤ 60) (hl : S.length ≤ 20) : f_stretches_of (mx0 (eP D.int (eT (eP D.int D.int))) (O S)) = some S := by
  unfold f_stretches_of
  rw [sure_fitting_ok h.1 hl, Option.bind_some, stretches_in_ok h hm (by omega)]; rfl
end Lw
end
section
set_option Elab.async false
set_option linter.all false
set_option maxRecDepth 100000
namespace Lw
open PySem Ev Mo
theorem pl_sset {xs : List Int} {m : Nat} (hl : xs.length ≤ 4000) (e : ∀ t, t ∈ pl m ↔ t ∈ xs) : ssetG ltI 4000 xs = some (pl m) :=
  sset_eq sl_I hl (List.Pairwise.imp (fun {a b} h => decide_eq_true h) pl_pw) e
theorem most_ok {S : Str2} {m : Nat} (v : Vs m S) (hl : S.length ≤ 1000) (hm : m ≤ 1000) : ∃ M : Nat, M ≤ m ∧ ((catG [0] (S.map fun p => p.2)).bind fun v3 => maxG v3) = some (M : Int) ∧ (∀ p ∈ S, p.2 ≤ M) ∧ ((M : Int) = 0 ∨ ∃ p ∈ S, p.2 = M) := by
  rw [catG_ok (by rw [List.length_map]; simp; omega), Option.bind_some]
  obtain ⟨r, h1, h2, h3⟩ := maxG_some (xs := [0] ++ S.map fun p => p.2) (by simp)
  have h0 := h2 0 (by simp)
  have hp : ∀ p ∈ S, p.2 ≤ r := fun p hp => h2 p.2 (by simp; exact .inr ⟨p.1, hp⟩)
  obtain ⟨M, rfl⟩ : ∃ M : Nat, r = M := ⟨r.toNat, by omega⟩
  refine ⟨M, ?_, h1, hp, ?_⟩
  · rcases List.mem_cons.mp h3 with e | e
    · omega
    · obtain ⟨p, hp, e⟩ := List.mem_map.mp e; have := v p hp; omega
  · rcases List.mem_cons.mp h3 with e | e
    · exact .inl e
    · obtain ⟨p, hp, e⟩ := List.mem_map.mp e; exact .inr ⟨p, hp, e⟩
theorem is_tight_def {S : Str2} {m : Nat} (v : Vs m S) (hl : S.length ≤ 60) (hm : m ≤ 60) : ∃ M : Nat, M ≤ m ∧ maxG ([0] ++ S.map fun p => p.2) = some (M : Int) ∧ Vs M S ∧ ∃ b, f_is_tight_in S = some b ∧
    ((ssetG ltI 4000 (S.map fun p => p.1)).bind fun v62 => (andO (decide (v62 = pl M)) ((compM (fun x63 => some true) (fun x63 : Int × Int => some x63.2) S).bind fun l64 => (ssetG ltI 4000 l64).bind fun v65 => some (decide (v65 = pl M))))) = some b ∧ (b = true ↔ Ti M S) := by
  obtain ⟨M, h1, h2, h3, h4⟩ := most_ok v (by omega) (by omega)
  rw [catG_ok (by rw [List.length_map]; simp; omega), Option.bind_some] at h2
  have vM : Vs M S := fun p hp => ⟨(v p hp).1, (v p hp).2.1, h3 p hp⟩
  refine ⟨M, h1, h2, vM, ?_⟩
  have hlr : lrg2G 1 ((M : Int) + 1) = some (pl M) := lrg2G_nat (by omega) (by omega) (by omega) (by omega) (by omega)
  have key : ∀ xs : List Int, xs.length ≤ 4000 → (∀ x ∈ xs, x ∈ pl M) → ∃ zs, ssetG ltI 4000 xs = some zs ∧ (zs = pl M ↔ ∀ t ∈ pl M, t ∈ xs) := by
    intro xs hx hm
    refine ⟨srtT ltI (ddT xs []), by unfold ssetG; rw [if_pos hx], ?_⟩
    have hmem : ∀ t, t ∈ srtT ltI (ddT xs []) ↔ t ∈ xs := fun t => by rw [srtT_mem, ddT_mem]; simp
    constructor
    · intro e t ht
      exact (hmem t).mp (by rw [e]; exact ht)
    · intro h
      exact up_ext sl_I (srtT_up sl_I (ddT_nodup .nil)) (List.Pairwise.imp (fun {a b} h => decide_eq_true h) pl_pw) fun t => (hmem t).trans ⟨hm t, h t⟩
  obtain ⟨z1, a1, a2⟩ := key (S.map fun p => p.1) (by rw [List.length_map]; omega) fun x hx => by
    obtain ⟨p, hp, rfl⟩ := List.mem_map.mp hx; have := vM p hp; exact mem_pl.mpr (by omega)
  obtain ⟨z2, b1, b2⟩ := key (S.map fun p => p.2) (by rw [List.length_map]; omega) fun x hx => by
    obtain ⟨p, hp, rfl⟩ := List.mem_map.mp hx; have := vM p hp; exact mem_pl.mpr (by omega)
  have cm : ∀ f : Int × Int → Int, compM (fun x => some true) (fun x => some (f x)) S = some (S.map f) := fun f => compM_mapf f (by omega)
  have e2 : ((ssetG ltI 4000 (S.map fun p => p.1)).bind fun v62 => (andO (decide (v62 = pl M)) ((compM (fun x63 => some true) (fun x63 : Int × Int => some x63.2) S).bind fun l64 => (ssetG ltI 4000 l64).bind fun v65 => some (decide (v65 = pl M))))) = some (decide (z1 = pl M) && decide (z2 = pl M)) := by
    rw [a1, cm]
    simp only [Option.bind_some]
    rw [b1]
    by_cases q : z1 = pl M <;> simp [andO, q]
  refine ⟨decide (z1 = pl M) && decide (z2 = pl M), ?_, e2, ?_⟩
  · unfold f_is_tight_in
    rw [cm, Option.bind_some, catG_ok (by rw [List.length_map]; simp; omega), Option.bind_some, h2, Option.bind_some, hlr, Option.bind_some, cm, Option.bind_some]
    cases q : ssetG ltI 4000 (S.map fun p => p.1) with
    | none => rw [q] at a1; cases a1
    | some z =>
      rw [q] at e2
      rw [cm] at e2
      rw [Option.bind_some] at e2 ⊢
      exact congrArg (fun o => o.bind fun v12 => some v12) e2
  · rw [Bool.and_eq_true, decide_eq_true_iff, decide_eq_true_iff, a2, b2]
    constructor
    · rintro ⟨c1, c2⟩
      refine ⟨vM, fun t t1 t2 => ⟨?_, ?_⟩⟩
      · obtain ⟨p, hp, e⟩ := List.mem_map.mp (c1 t (mem_pl.mpr ⟨t1, t2⟩)); exact ⟨p, hp, e⟩
      · obtain ⟨p, hp, e⟩ := List.mem_map.mp (c2 t (mem_pl.mpr ⟨t1, t2⟩)); exact ⟨p, hp, e⟩
    · intro h
      constructor
      · intro t ht
        obtain ⟨p, hp, e⟩ := (h.2 t (mem_pl.mp ht).1 (mem_pl.mp ht).2).1
        exact List.mem_map.mpr ⟨p, hp, e⟩
      · intro t ht
        obtain ⟨p, hp, e⟩ := (h.2 t (mem_pl.mp ht).1 (mem_pl.mp ht).2).2
        exact List.mem_map.mpr ⟨p, hp, e⟩
theorem flat_ok (rows : List (List (Int × Int))) : ∀ acc : List (Int × Int), acc.length + rows.flatten.length ≤ 1000000 → forN (fun (s1 : List ((Int × Int))) (x2 : List ((Int × Int))) => (catG s1 x2).bind fun found4 => some found4) rows acc = some (acc ++ rows.flatten) := by
  induction rows with
  | nil => intro acc _; simp [forN]
  | cons r rows ih =>
    intro acc h
    rw [List.flatten_cons, List.length_append] at h
    rw [forN, catG_ok (by omega), Option.bind_some, Option.bind_some, ih _ (by rw [List.length_append]; omega), List.flatten_cons, List.append_assoc]
theorem below_eq {S : Str2} (hl : S.length ≤ 60) : f__law_below S = some (O S) := by
  unfold f__law_below
  have hr : rgG ((S.length : Nat) : Int) = some (iR S.length) := rgG_nat rfl (by omega) (by omega)
  rw [hr, Option.bind_some, compM_map (fun x => ((iR S.length).filter fun y => bl S x y).map fun y => (x, y)) (by rw [iR_len]; omega) fun x hx => by
    rw [Option.bind_some, compM_eq (fun y => bl S x y) (fun y => (x, y)) (by rw [iR_len]; omega) (fun y hy => by
      rw [ixG_int (mem_iR.mp hx).1 (get_in hx).1, ixG_int (mem_iR.mp hy).1 (get_in hy).1]; rfl) (fun _ _ _ => rfl)]
    rfl, Option.bind_some]
  unfold f__law_flat
  have e : ((iR S.length).map fun x => ((iR S.length).filter fun y => bl S x y).map fun y => (x, y)).flatten = prs S := by rw [prs, List.flatMap_def]
  rw [flat_ok _ [] (by rw [e]; have := prs_len' hl; simp; omega), e]
  rfl
theorem lots0 {S : Str2} (hl : S.length ≤ 60) : f__law_lots (O S) 0 = some ((iR S.length).map fun x => Ul S (lo S x)) := by
  unfold f__law_lots
  have hr : rgG (O S).1 = some (iR S.length) := rgG_nat rfl (by omega) (by show (-1000000 : Int) ≤ (S.length : Int); omega)
  have hp := prs_len' hl
  rw [hr, Option.bind_some, compM_map (fun x => Ul S (lo S x)) (by rw [iR_len]; omega) fun x hx => by
    rw [compM_eq (fun p => decide (p.2 = x)) (fun p => p.1) (by show (prs S).length ≤ _; omega) (fun p _ => by rw [show (1 - 0 : Int) = ((1 : Nat) : Int) from rfl, ixG_nat (k := 1) rfl]; rfl) (fun p _ _ => by rw [show (0 : Int) = ((0 : Nat) : Int) from rfl, ixG_nat (k := 0) rfl]; rfl), Option.bind_some]
    exact congrArg some (und_eq S hx)]
  rfl
theorem lots1 {S : Str2} (hl : S.length ≤ 60) : f__law_lots (O S) 1 = some ((iR S.length).map fun x => Al S (hi S x)) := by
  unfold f__law_lots
  have hr : rgG (O S).1 = some (iR S.length) := rgG_nat rfl (by omega) (by show (-1000000 : Int) ≤ (S.length : Int); omega)
  have hp := prs_len' hl
  rw [hr, Option.bind_some, compM_map (fun x => Al S (hi S x)) (by rw [iR_len]; omega) fun x hx => by
    rw [compM_eq (fun p => decide (p.1 = x)) (fun p => p.2) (by show (prs S).length ≤ _; omega) (fun p _ => by rw [show (1 - 1 : Int) = ((0 : Nat) : Int) from rfl, ixG_nat (k := 0) rfl]; rfl) (fun p _ _ => by rw [show (1 : Int) = ((1 : Nat) : Int) from rfl, ixG_nat (k := 1) rfl]; rfl), Option.bind_some]
    exact congrArg some (abv_eq S hx)]
  rfl
theorem idx_sz {m : Nat} {f : Int → List Int} (nd : ((pl m).map fun t => ((f t).length : Int)).Nodup) {t : Int} (ht : t ∈ pl m) : idxI ((pl m).map fun t => ((f t).length : Int)) ((f t).length : Int) = some (t - 1) := by
  have := idxI_at (xs := (pl m).map fun t => ((f t).length : Int)) (x := ((f t).length : Int)) (k := (t - 1).toNat) (by rw [List.getElem?_map, pl_at ht]; rfl) nd
  rw [this]
  have := mem_pl.mp ht
  congr 1; omega
theorem places0 {S : Str2} {m : Nat} (h : Ti m S) (hl : S.length ≤ 60) : f__law_places ((iR S.length).map fun x => Ul S (lo S x)) false = some ((iR S.length).map (lo S)) := by
  unfold f__law_places
  have ll : ((iR S.length).map fun x => Ul S (lo S x)).length ≤ 60 := by rw [List.length_map, iR_len]; exact hl
  have up : Up ltI ((pl m).map fun t => ((Ul S t).length : Int)) := by
    unfold Up
    rw [List.pairwise_map]
    exact List.Pairwise.imp_of_mem (fun {a b} ha hb q => decide_eq_true (by have := Ul_lt h (mem_pl.mp ha).1 q (mem_pl.mp hb).2; omega)) pl_pw
  rw [compM_mapf _ (by omega), Option.bind_some, sset_eq sl_I (by rw [List.length_map]; omega) up (fun z => by
    rw [List.mem_map, List.mem_map]
    constructor
    · rintro ⟨t, ht, rfl⟩
      obtain ⟨x, hx, e⟩ := (pl_lo h ht).1
      exact ⟨Ul S t, List.mem_map.mpr ⟨x, hx, by rw [e]⟩, rfl⟩
    · rintro ⟨l, hl, rfl⟩
      obtain ⟨x, hx, rfl⟩ := List.mem_map.mp hl
      exact ⟨lo S x, (lo_pl h.1 hx).1, rfl⟩), Option.bind_some, if_neg (by decide), Option.bind_some]
  unfold compM
  rw [if_pos (len_cap (by omega))]
  have key : ∀ l : List Int, (∀ x ∈ l, x ∈ iR S.length) → comp0 (fun _ => some true) (fun x6 : List Int => (idxI ((pl m).map fun t => ((Ul S t).length : Int)) ((x6.length : Nat) : Int)).bind fun v7 => some (v7 + 1)) (l.map fun x => Ul S (lo S x)) = some (l.map (lo S)) := by
    intro l
    induction l with
    | nil => intro _; rfl
    | cons x r ih =>
      intro hx
      rw [List.map_cons, comp0, Option.bind_some, if_pos rfl, idx_sz (up_nodup sl_I up) (lo_pl h.1 (hx x List.mem_cons_self)).1, Option.bind_some, Option.bind_some, ih fun y hy => hx y (List.mem_cons_of_mem _ hy), Int.sub_add_cancel]; rfl
  rw [key _ fun _ h => h]; rfl
theorem places1 {S : Str2} {m : Nat} (h : Ti m S) (hl : S.length ≤ 60) : f__law_places ((iR S.length).map fun x => Al S (hi S x)) true = some ((iR S.length).map (hi S)) := by
  unfold f__law_places
  have ll : ((iR S.length).map fun x => Al S (hi S x)).length ≤ 60 := by rw [List.length_map, iR_len]; exact hl
  have up : Up ltI ((pl m).map fun t => ((Al S t).length : Int)).reverse := by
    unfold Up
    rw [List.pairwise_reverse, List.pairwise_map]
    exact List.Pairwise.imp_of_mem (fun {a b} ha hb q => decide_eq_true (by have := Al_lt h (mem_pl.mp ha).1 q (mem_pl.mp hb).2; omega)) pl_pw
  rw [compM_mapf _ (by omega), Option.bind_some, sset_eq sl_I (by rw [List.length_map]; omega) up (fun z => by
    rw [List.mem_reverse, List.mem_map, List.mem_map]
    constructor
    · rintro ⟨t, ht, rfl⟩
      obtain ⟨x, hx, e⟩ := (pl_lo h ht).2
      exact ⟨Al S t, List.mem_map.mpr ⟨x, hx, by rw [e]⟩, rfl⟩
    · rintro ⟨l, hl, rfl⟩
      obtain ⟨x, hx, rfl⟩ := List.mem_map.mp hl
      exact ⟨hi S x, (lo_pl h.1 hx).2, rfl⟩), Option.bind_some, if_pos rfl, Option.bind_some, List.reverse_reverse]
  unfold compM
  rw [if_pos (len_cap (by omega))]
  have nd : ((pl m).map fun t => ((Al S t).length : Int)).Nodup := List.Pairwise.imp Ne.symm (List.pairwise_reverse.mp (up_nodup sl_I up))
  have key : ∀ l : List Int, (∀ x ∈ l, x ∈ iR S.length) → comp0 (fun _ => some true) (fun x6 : List Int => (idxI ((pl m).map fun t => ((Al S t).length : Int)) ((x6.length : Nat) : Int)).bind fun v7 => some (v7 + 1)) (l.map fun x => Al S (hi S x)) = some (l.map (hi S)) := by
    intro l
    induction l with
    | nil => intro _; rfl
    | cons x r ih =>
      intro hx
      rw [List.map_cons, comp0, Option.bind_some, if_pos rfl, idx_sz nd (lo_pl h.1 (hx x List.mem_cons_self)).2, Option.bind_some, Option.bind_some, ih fun y hy => hx y (List.mem_cons_of_mem _ hy), Int.sub_add_cancel]; rfl
  rw [key _ fun _ h => h]; rfl
theorem nested {lots : List (List Int)} (hl : lots.length ≤ 63) (h : ∀ a ∈ lots, ∀ b ∈ lots, (∀ x ∈ a, x ∈ b) ∨ ∀ x ∈ b, x ∈ a) (hs : ∀ a ∈ lots, a.length ≤ 1000) :
    ∃ v26, ssetG (ltL ltI) 63 lots = some v26 ∧
    compM (fun x27 => (compM (fun x28 => (compM (fun x29 => some (!memB x29 x28)) (fun x29 => some x29) x27).bind fun l30 => (andO (!decide (l30 = [])) ((compM (fun x31 => some (!memB x31 x27)) (fun x31 => some x31) x28).bind fun l32 => some (!decide (l32 = [])))).bind fun v33 => some v33) (fun x28 => some x28) v26).bind fun l34 => some (!decide (l34 = []))) (fun x27 => some x27) v26 = some [] := by
  have slt := sl_L sl_I
  refine ⟨srtT (ltL ltI) (ddT lots []), by unfold ssetG; rw [if_pos hl], ?_⟩
  have hmem : ∀ t, t ∈ srtT (ltL ltI) (ddT lots []) ↔ t ∈ lots := fun t => by rw [srtT_mem, ddT_mem]; simp
  have hn : (srtT (ltL ltI) (ddT lots [])).length ≤ 1000 := by
    rw [srtT_len]
    have := ddT_len lots []
    rw [List.length_nil] at this
    omega
  generalize srtT (ltL ltI) (ddT lots []) = vs at *
  rw [compM_eq (fun _ => false) (fun x => x) (by omega) (fun a ha => ?_) (fun _ _ _ => rfl)]
  · simp
  · rw [compM_eq (fun _ => false) (fun x => x) (by omega) (fun b hb => ?_) (fun _ _ _ => rfl)]
    · simp
    · have ha' := (hmem a).mp ha; have hb' := (hmem b).mp hb
      have f : ∀ (p q : List Int), p ∈ lots → compM (fun x29 => some (!memB x29 q)) (fun x29 => some x29) p = some (p.filter fun x => !memB x q) := fun p q hp => by
        rw [compM_flt _ _ (by have := hs p hp; omega), List.map_id']
      rw [f a b ha', f b a hb', Option.bind_some, Option.bind_some]
      rcases h a ha' b hb' with c | c
      · have e : (a.filter fun x => !memB x b) = [] := by
          rw [List.filter_eq_nil_iff]; intro x hx; simp [memB_iff.mpr (c x hx)]
        simp [e, andO]
      · have e : (b.filter fun x => !memB x a) = [] := by
          rw [List.filter_eq_nil_iff]; intro x hx; simp [memB_iff.mpr (c x hx)]
        simp only [e, andO]
        split <;> rfl
theorem Ul_sub (S : Str2) (t u : Int) : (∀ x ∈ Ul S t, x ∈ Ul S u) ∨ ∀ x ∈ Ul S u, x ∈ Ul S t := by
  unfold Ul
  rcases Int.le_total t u with h | h
  · exact .inl fun x hx => by
      obtain ⟨h1, h2⟩ := List.mem_filter.mp hx
      have h2 := of_decide_eq_true h2
      exact List.mem_filter.mpr ⟨h1, decide_eq_true (by omega)⟩
  · exact .inr fun x hx => by
      obtain ⟨h1, h2⟩ := List.mem_filter.mp hx
      have h2 := of_decide_eq_true h2
      exact List.mem_filter.mpr ⟨h1, decide_eq_true (by omega)⟩
theorem Al_sub (S : Str2) (t u : Int) : (∀ x ∈ Al S t, x ∈ Al S u) ∨ ∀ x ∈ Al S u, x ∈ Al S t := by
  unfold Al
  rcases Int.le_total t u with h | h
  · exact .inr fun x hx => by
      obtain ⟨h1, h2⟩ := List.mem_filter.mp hx
      have h2 := of_decide_eq_true h2
      exact List.mem_filter.mpr ⟨h1, decide_eq_true (by omega)⟩
  · exact .inl fun x hx => by
      obtain ⟨h1, h2⟩ := List.mem_filter.mp hx
      have h2 := of_decide_eq_true h2
      exact List.mem_filter.mpr ⟨h1, decide_eq_true (by omega)⟩

theorem of_some (s : St) (h : s.n ≤ 900000) {goods : List Int} (h0 : goods ≠ []) (hl : goods.length ≤ 1000) : ∃ v s', f__law_of s goods = some (v, s') ∧ v ∈ goods ∧ s'.n = s.n + 1 := by
  have hp : 0 < goods.length := List.length_pos_iff.mpr h0
  obtain ⟨v, s', e, v0, v1, e2⟩ := take_some s ((goods.length : Nat) : Int) (by omega) (by omega) (by omega)
  unfold f__law_of
  have hv : v.toNat < goods.length := by omega
  rw [e, Option.bind_some, ixG_int v0 (List.getElem?_eq_getElem hv), Option.bind_some]
  exact ⟨_, _, rfl, List.getElem_mem hv, e2⟩
theorem draws (wide : Int) (hw : wide ∈ [3, 8, 40]) (k : Nat) (hk : k ≤ 14) (s : St) (hs : s.n ≤ 800000) :
    ∃ (s' : St) (S : Str2), forN (fun (s4 : St × List ((Int × Int))) (x5 : Int) =>
    (f__law_take s4.1 wide).bind fun take8 =>
    (f__law_of take8.2 [1, 3, 20]).bind fun of9 =>
    (f__law_take of9.2 of9.1).bind fun take10 =>
    (appG s4.2 ((1 + take8.1), ((1 + take8.1) + take10.1))).bind fun stretches11 =>
    some (take10.2, stretches11)) (iR k) (s, []) = some (s', S) ∧ S.length = k ∧ Vs 60 S ∧ s'.n ≤ s.n + 50 := by
  obtain ⟨r, h1, h2, h3, h4⟩ := forN_inv (step := fun (s4 : St × List ((Int × Int))) (x5 : Int) =>
    (f__law_take s4.1 wide).bind fun take8 =>
    (f__law_of take8.2 [1, 3, 20]).bind fun of9 =>
    (f__law_take of9.2 of9.1).bind fun take10 =>
    (appG s4.2 ((1 + take8.1), ((1 + take8.1) + take10.1))).bind fun stretches11 =>
    some (take10.2, stretches11)) (fun pre (r : St × List (Int × Int)) => r.2.length = pre.length ∧ Vs 60 r.2 ∧ r.1.n ≤ s.n + 3 * pre.length) (iR k) (fun pre x post r e i => by
      obtain ⟨i1, i2, i3⟩ := i
      have hl : pre.length < k := by have := congrArg List.length e; rw [iR_len, List.length_append, List.length_cons] at this; omega
      have w0 : 0 < wide ∧ wide ≤ 40 := by simp at hw; omega
      obtain ⟨a, s1, e1, a0, a1, n1⟩ := take_some r.1 wide (by omega) (by omega) (by omega)
      obtain ⟨g, s2, e2, g0, n2⟩ := of_some s1 (by omega) (goods := [1, 3, 20]) (by simp) (by simp)
      have g1 : 0 < g ∧ g ≤ 20 := by simp at g0; omega
      obtain ⟨b, s3, e3, b0, b1, n3⟩ := take_some s2 g (by omega) (by omega) (by omega)
      refine ⟨(s3, r.2 ++ [(1 + a, 1 + a + b)]), ?_, ?_, ?_, ?_⟩
      · show (f__law_take r.1 wide).bind _ = _
        rw [e1, Option.bind_some]
        show (f__law_of s1 [1, 3, 20]).bind _ = _
        rw [e2, Option.bind_some]
        show (f__law_take s2 g).bind _ = _
        rw [e3, Option.bind_some]
        show (appG r.2 (1 + a, 1 + a + b)).bind _ = _
        rw [appG_ok (by omega)]; rfl
      · simp [i1]
      · intro p hp
        rcases List.mem_append.mp hp with hp | hp
        · exact i2 p hp
        · rw [List.mem_singleton.mp hp]
          dsimp only
          omega
      · rw [List.length_append, List.length_singleton]
        show s3.n ≤ _
        omega) (s := (s, [])) ⟨rfl, (by intro p hp; cases hp), by show s.n ≤ s.n + 3 * 0; omega⟩
  refine ⟨r.1, r.2, h1, by rw [h2, iR_len], h3, by rw [iR_len] at h4; omega⟩
theorem sd_T {α : Type} {e : α → D} {n : Nat} {xs : List α} (hl : xs.length ≤ 1000000) (h : ∀ x ∈ xs, sd n (e x) = true) : sd (n + 1) (eT e xs) = true := by
  show (Nat.ble (xs.map e).length cap && sds n (xs.map e)) = true
  rw [List.length_map, Nat.ble_eq_true_of_le (len_cap hl), sds_of fun d hd => by obtain ⟨x, hx, rfl⟩ := List.mem_map.mp hd; exact h x hx]
  rfl
theorem sd_i (n : Nat) (i : Int) : sd n (.int i) = true := by cases n <;> rfl
theorem sd_b (n : Nat) (b : Bool) : sd n (.bl b) = true := by cases n <;> rfl
theorem sd_P {α β : Type} {a : α → D} {b : β → D} {n : Nat} {p : α × β} (h1 : sd n (a p.1) = true) (h2 : sd n (b p.2) = true) : sd (n + 1) (eP a b p) = true := by
  show (Nat.ble 2 cap && sds n [a p.1, b p.2]) = true
  rw [sds, sds, h1, h2]
  cases n <;> rfl
theorem sd_L {n : Nat} {ds : List D} (hl : ds.length ≤ 1000000) (h : ∀ d ∈ ds, sd n d = true) : sd (n + 1) (.lst ds) = true := by
  show (Nat.ble ds.length cap && sds n ds) = true
  rw [Nat.ble_eq_true_of_le (len_cap hl), sds_of h]; rfl
theorem sd_S {S : Str2} (hl : S.length ≤ 60) (n : Nat) : sd (n + 2) (eT (eP D.int D.int) S) = true := sd_T (by omega) fun p _ => sd_P (sd_i _ _) (sd_i _ _)
theorem sd_O {S : Str2} (hl : S.length ≤ 60) (n : Nat) : sd (n + 3) (eP D.int (eT (eP D.int D.int)) (O S)) = true := sd_P (sd_i _ _) (sd_T (by have := prs_len' hl; show (prs S).length ≤ _; omega) fun p _ => sd_P (sd_i _ _) (sd_i _ _))
theorem ends_ok {S : Str2} {m : Nat} (v : Vs m S) (hl : S.length ≤ 60) (hm : m ≤ 60) : ∃ b, f_are_tight (mx0 (eT (eP D.int D.int)) S) = some b ∧ f_is_tight_in S = some b := by
  obtain ⟨M, h1, h2, h3, b, h4, h5⟩ := is_tight_def v hl hm
  refine ⟨b, ?_, h4⟩
  unfold f_are_tight
  rw [sure_stretches_ok v hm hl, Option.bind_some, h4]; rfl
theorem tightened_ok {S T : Str2} {m k : Nat} (v : Vs m S) (hm : m ≤ 60) (hl : S.length ≤ 20) (t : Ti k T) (hk : k ≤ 60) (e : O S = O T) : f_tightened (mx0 (eT (eP D.int D.int)) S) = some T := by
  have hT : T.length ≤ 20 := by have := congrArg Prod.fst e; have : (S.length : Int) = T.length := this; omega
  unfold f_tightened
  rw [order_of_ok v hm hl, Option.bind_some, e, stretches_in_ok t hk (by omega)]; rfl
theorem lap_ok (s : St) (hs : s.n ≤ 700000) : ∃ s', f__law_lap_one s = some (true, s') ∧ s'.n ≤ s.n + 60 := by
  obtain ⟨many, s1, e1, m0, m1, n1⟩ := take_some s 15 (by omega) (by omega) (by omega)
  obtain ⟨wide, s2, e2, hw, n2⟩ := of_some s1 (by omega) (goods := [3, 8, 40]) (by simp) (by simp)
  obtain ⟨s3, S, e3, hl, v, n3⟩ := draws wide hw many.toNat (by omega) s2 (by omega)
  have hr : rgG many = some (iR many.toNat) := rgG_nat rfl (by omega) (by omega)
  have hS : S.length ≤ 20 := by omega
  obtain ⟨k, F, k60, tF, hF⟩ := tight_ex 60 S v
  have hT : (S.map F).length ≤ 20 := by rw [List.length_map]; exact hS
  have eO : O S = O (S.map F) := by
    show ((S.length : Int), prs S) = (((S.map F).length : Int), prs (S.map F))
    rw [prs_map hF, List.length_map]
  generalize hTT : S.map F = T at *
  have lT : T.length = S.length := by rw [← hTT, List.length_map]
  refine ⟨s3, ?_, by omega⟩
  unfold f__law_lap_one
  rw [e1, Option.bind_some]
  show (f__law_of s1 [3, 8, 40]).bind _ = _
  rw [e2, Option.bind_some]
  show (rgG many).bind _ = _
  rw [hr, Option.bind_some]
  show (forN (fun (s4 : St × List ((Int × Int))) (x5 : Int) =>
    (f__law_take s4.1 wide).bind fun take8 =>
    (f__law_of take8.2 [1, 3, 20]).bind fun of9 =>
    (f__law_take of9.2 of9.1).bind fun take10 =>
    (appG s4.2 ((1 + take8.1), ((1 + take8.1) + take10.1))).bind fun stretches11 =>
    some (take10.2, stretches11)) (iR many.toNat) (s2, [])).bind _ = _
  rw [e3, Option.bind_some]
  dsimp only
  rw [order_of_ok v (Nat.le_refl _) hS, Option.bind_some, fits_ok v hS, Option.bind_some, below_eq (by omega), Option.bind_some,
    same_some rfl (sd_L (by simp) fun d hd => by
      rcases List.mem_cons.mp hd with rfl | hd
      · exact sd_O (by omega) 4
      · rw [List.mem_singleton.mp hd]; exact sd_b _ _), Option.bind_some, if_neg (by decide)]
  rw [lots0 (by omega), Option.bind_some, lots1 (by omega), Option.bind_some]
  -- lots lie in one another
  have uL : ((iR S.length).map fun x => Ul S (lo S x)).length ≤ 63 := by rw [List.length_map, iR_len]; omega
  have aL : ((iR S.length).map fun x => Al S (hi S x)).length ≤ 63 := by rw [List.length_map, iR_len]; omega
  rw [forR_all _ fun x hx => by
    have q : ∃ v26, ssetG (ltL ltI) 63 x = some v26 ∧ compM (fun x27 => (compM (fun x28 => (compM (fun x29 => some (!memB x29 x28)) (fun x29 => some x29) x27).bind fun l30 => (andO (!decide (l30 = [])) ((compM (fun x31 => some (!memB x31 x27)) (fun x31 => some x31) x28).bind fun l32 => some (!decide (l32 = [])))).bind fun v33 => some v33) (fun x28 => some x28) v26).bind fun l34 => some (!decide (l34 = []))) (fun x27 => some x27) v26 = some [] := by
      rcases List.mem_cons.mp hx with rfl | hx
      · refine nested uL (fun a ha b hb => ?_) fun a ha => ?_
        · obtain ⟨x, _, rfl⟩ := List.mem_map.mp ha
          obtain ⟨y, _, rfl⟩ := List.mem_map.mp hb
          exact Ul_sub S _ _
        · obtain ⟨x, _, rfl⟩ := List.mem_map.mp ha
          exact sub_len (by rw [iR_len]; omega)
      · rw [List.mem_singleton.mp hx]
        refine nested aL (fun a ha b hb => ?_) fun a ha => ?_
        · obtain ⟨x, _, rfl⟩ := List.mem_map.mp ha
          obtain ⟨y, _, rfl⟩ := List.mem_map.mp hb
          exact Al_sub S _ _
        · obtain ⟨x, _, rfl⟩ := List.mem_map.mp ha
          exact sub_len (by rw [iR_len]; omega)
    obtain ⟨v26, q1, q2⟩ := q
    rw [q1, Option.bind_some, q2]
    rfl, Option.bind_some]
  dsimp only
  -- the lots are those of the tight ones
  have eU : ((iR S.length).map fun x => Ul S (lo S x)) = (iR T.length).map fun x => Ul T (lo T x) := by
    have a := lots0 (S := S) (by omega)
    rw [eO, lots0 (by omega)] at a
    exact (osome a).symm
  have eA : ((iR S.length).map fun x => Al S (hi S x)) = (iR T.length).map fun x => Al T (hi T x) := by
    have a := lots1 (S := S) (by omega)
    rw [eO, lots1 (by omega)] at a
    exact (osome a).symm
  rw [eU, eA, places0 tF (by omega), Option.bind_some, places1 tF (by omega), Option.bind_some, zip_map_same, map_lohi,
    compM_mapf _ (by omega), Option.bind_some, show (T.map fun x : Int × Int => (x.1, x.2)) = T from List.map_id' T, eO, stretches_of_ok tF (by omega) hT, Option.bind_some,
    tightened_ok v (Nat.le_refl _) hS tF (by omega) eO, Option.bind_some]
  obtain ⟨M, M1, M2, M3, b, M4, M5, M6⟩ := is_tight_def tF.1 (by omega) (by omega)
  have vT60 : Vs 60 T := fun p hp => by have := tF.1 p hp; omega
  have bt : b = true := by
    refine M6.mpr ⟨M3, fun t h1 h2 => tF.2 t h1 (by omega)⟩
  subst bt
  have tT : f_are_tight (mx0 (eT (eP D.int D.int)) T) = some true := by
    obtain ⟨b, c1, c2⟩ := ends_ok tF.1 (by omega) (by omega)
    rw [c1]; rw [M4] at c2; exact c2.symm
  rw [tT, Option.bind_some, order_of_ok vT60 (Nat.le_refl _) hT, Option.bind_some, same_some rfl (sd_L (by simp) fun d hd => by
    simp only [List.mem_cons, List.not_mem_nil, or_false] at hd
    rcases hd with rfl | rfl | rfl | rfl
    · exact sd_S (by omega) 5
    · exact sd_S (by omega) 5
    · exact sd_b _ _
    · exact sd_O (by omega) 4), Option.bind_some, if_neg (by decide)]
  rw [nset_eq (sl_L sl_I) (zs := srtT (ltL ltI) ((pl k).map (Ul T))) (by rw [List.length_map, iR_len]; omega) (srtT_up (sl_L sl_I) (nd_of_pw (Ul_pw tF))) (fun z => by rw [srtT_mem]; exact unders_mem tF z), Option.bind_some,
    nset_eq (sl_L sl_I) (zs := srtT (ltL ltI) ((pl k).map (Al T))) (by rw [List.length_map, iR_len]; omega) (srtT_up (sl_L sl_I) (List.Pairwise.imp Ne.symm (List.pairwise_reverse.mp (nd_of_pw (Al_pw tF))))) (fun z => by rw [srtT_mem]; exact aboves_mem tF z), Option.bind_some,
    srtT_len, srtT_len, List.length_map, List.length_map, if_neg (by simp)]
  -- the line
  obtain ⟨N, N1, N2, N3, c, N4, N5, N6⟩ := is_tight_def v (by omega) (Nat.le_refl _)
  have hlr : lrg2G 1 ((N : Int) + 1) = some (pl N) := lrg2G_nat (by omega) (by omega) (by omega) (by omega) (by omega)
  rw [compM_mapf _ (by omega), Option.bind_some, catG_ok (by rw [List.length_map]; simp; omega), Option.bind_some, N2, Option.bind_some, hlr, Option.bind_some, compM_mapf _ (by omega), Option.bind_some]
  obtain ⟨d, D1, D2⟩ := ends_ok v (by omega) (Nat.le_refl _)
  have dc : d = c := by rw [N4] at D2; exact (osome D2).symm
  subst dc
  rw [compM_mapf _ (by omega)] at N5
  rw [← Option.bind_assoc, N5, Option.bind_some, D1, Option.bind_some, same_some rfl (sd_b _ _), Option.bind_some]
  have hd : ((!true) || (d && (!decide (T = S)))) = false := by
    cases d with
    | false => rfl
    | true =>
      have tS : Ti N S := N6.mp rfl
      have a := stretches_in_ok tS (by omega) (by omega)
      rw [eO, stretches_in_ok tF (by omega) (by omega)] at a
      rw [osome a]; simp
  rw [hd, if_neg (by decide)]
  -- moved along the line
  have hFar : ∀ p ∈ S, ∀ q ∈ S, p.2 < q.1 ↔ (p.2 + 3) < (q.1 + 3) := fun p _ q _ => by omega
  have eF : prs (S.map fun p => (p.1 + 3, p.2 + 3)) = prs S := prs_map (F := fun p => (p.1 + 3, p.2 + 3)) hFar
  rw [compM_mapf _ (by omega), Option.bind_some, compM_mapf _ (by rw [List.length_map]; omega), Option.bind_some]
  have vF : Vs 63 (S.map fun p => (p.1 + 3, p.2 + 3)) := fun q hq => by
    obtain ⟨p, hp, rfl⟩ := List.mem_map.mp hq
    have := v p hp
    dsimp only
    omega
  have lF : (S.map fun p => (p.1 + 3, p.2 + 3)).length = S.length := List.length_map ..
  have eOF : O (S.map fun p => (p.1 + 3, p.2 + 3)) = O T := by
    rw [← eO]
    show (((S.map fun p => (p.1 + 3, p.2 + 3)).length : Int), prs _) = _
    rw [eF, lF]
  obtain ⟨r, r1, r2, r3⟩ := maxG_some (xs := [0] ++ (S.map fun p => (p.1 + 3, p.2 + 3)).map fun p => p.2) (by simp)
  rw [catG_ok (by rw [List.length_map, lF]; simp; omega), Option.bind_some, r1, Option.bind_some]
  by_cases q : r > 60
  · simp [orO, q]
  · have v60 : Vs 60 (S.map fun p => (p.1 + 3, p.2 + 3)) := fun p hp => by
      have := vF p hp
      have := r2 p.2 (List.mem_append_right _ (List.mem_map.mpr ⟨p, hp, rfl⟩))
      omega
    rw [order_of_ok v60 (Nat.le_refl _) (by omega), Option.bind_some, tightened_ok v60 (Nat.le_refl _) (by omega) tF (by omega) eOF, Option.bind_some, eOF, same_some rfl (sd_L (by simp) fun d hd => by
      rcases List.mem_cons.mp hd with rfl | hd
      · exact sd_O (by omega) 4
      · rw [List.mem_singleton.mp hd]; exact sd_S (by omega) 5)]
    simp [orO, q]
end Lw
end
section
set_option Elab.async false
set_option linter.all false
set_option maxRecDepth 100000
namespace Lw
open PySem Ev Mo
theorem laps_ok : ∀ (l : List Int) (s : St), s.n + 60 * l.length ≤ 700000 → ∃ s', forR (ρ := Bool) (fun (s4 : St) (x5 : Int) =>
    (f__law_lap_one s4).bind fun lap_one7 =>
    if (!lap_one7.1) = true then
      some (.rt false)
    else
      some (.nx lap_one7.2)) l s = some (.inl s')
  | [], s, _ => ⟨s, rfl⟩
  | x :: r, s, h => by
    rw [List.length_cons] at h
    obtain ⟨s1, e, n⟩ := lap_ok s (by omega)
    obtain ⟨s', e'⟩ := laps_ok r s1 (by omega)
    exact ⟨s', by rw [forR, e]; exact e'⟩
theorem law_typed (ns : List Int) : f_law ns = some true := by
  obtain ⟨x, e1⟩ := cells_some ns
  obtain ⟨s, e2, n2⟩ := box_some x
  unfold f_law
  rw [e1, Option.bind_some, e2, Option.bind_some, show rgG 6 = some (iR 6) from rgG_nat rfl (by omega) (by omega), Option.bind_some]
  obtain ⟨s', e3⟩ := laps_ok (iR 6) s (by rw [iR_len]; omega)
  rw [e3, Option.bind_some]
  dsimp only
  have t1 : Ti 2 [(1, 1), (2, 2), (1, 2)] := by
    refine ⟨fun p hp => ?_, fun t h1 h2 => ?_⟩
    · simp only [List.mem_cons, List.not_mem_nil, or_false] at hp
      rcases hp with rfl | rfl | rfl <;> decide
    · rcases (by omega : t = 1 ∨ t = 2) with rfl | rfl
      · exact ⟨⟨(1, 1), by simp, rfl⟩, ⟨(1, 1), by simp, rfl⟩⟩
      · exact ⟨⟨(2, 2), by simp, rfl⟩, ⟨(2, 2), by simp, rfl⟩⟩
  have t2 : Ti 2 [(1, 1), (2, 2)] := by
    refine ⟨fun p hp => ?_, fun t h1 h2 => ?_⟩
    · simp only [List.mem_cons, List.not_mem_nil, or_false] at hp
      rcases hp with rfl | rfl <;> decide
    · rcases (by omega : t = 1 ∨ t = 2) with rfl | rfl
      · exact ⟨⟨(1, 1), by simp, rfl⟩, ⟨(1, 1), by simp, rfl⟩⟩
      · exact ⟨⟨(2, 2), by simp, rfl⟩, ⟨(2, 2), by simp, rfl⟩⟩
  have t0 : Ti 0 [] := ⟨(by intro p hp; cases hp), fun t h1 h2 => by omega⟩
  have v3 : Vs 4 [(1, 1), (3, 4)] := fun p hp => by
    simp only [List.mem_cons, List.not_mem_nil, or_false] at hp
    rcases hp with rfl | rfl <;> decide
  have o1 : O [(1, 1), (2, 2), (1, 2)] = (3, [(0, 1)]) := by decide
  have o0 : O [] = (0, []) := by decide
  have o2 : O [(1, 1), (3, 4)] = O [(1, 1), (2, 2)] := by decide
  rw [order_of_ok t1.1 (by omega) (by simp), Option.bind_some, ← o1, stretches_of_ok t1 (by omega) (by simp), Option.bind_some, tightened_ok v3 (by omega) (by simp) t2 (by omega) o2, Option.bind_some,
    ← o0, stretches_of_ok t0 (by omega) (by simp), Option.bind_some]
  obtain ⟨b, b1, b2⟩ := ends_ok t0.1 (by simp) (by omega)
  have b2 : b = true := by rw [show f_is_tight_in [] = some true from rfl] at b2; exact (osome b2).symm
  subst b2
  obtain ⟨c, c1, c2⟩ := ends_ok v3 (by simp) (by omega)
  have c2 : c = false := by rw [show f_is_tight_in [(1, 1), (3, 4)] = some false from rfl] at c2; exact (osome c2).symm
  subst c2
  rw [b1, Option.bind_some, c1, Option.bind_some, same_some (by rw [o1]; rfl) (by rw [o1]; decide)]
  rfl
theorem law_ok (ns : List Int) : ∃ io, evFn tb 1000 16 kn_law [.ro ns] = .ok (.bl true) false io := ⟨[], w_law 16 (by omega) ns (law_typed ns)⟩
end Lw
end
theorem PySem.Challenge.cw_ascentrows_k31_main_stretches_of_orders_holds : PySem.Challenge.rw_ascentrows_k31_main_stretches_of_orders.Holds := by
  exact holds_of fun ns h => Lw.law_ok ns
