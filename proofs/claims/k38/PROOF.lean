import PyProof.Rows.All
import Wide.All
import OpenK.AllK
import Wide.FinOn
import PySem.Str
import PySem.Syntax
import PySem.Eval
import HandS.ForMost
import HandS.ForExc
import HandS.Walk
import HandS.CallSlots
import HandS.Flow
import HandS.TryOnly
import HandS.Comp
import HandS.List
import HandS.Style
import KE.DataEq
import KE.SortData
import KE.SortLaws
import HandS.TupAny
import HandS.Text
import HandS.Conv
import HandS.IsInst
import KE.DataFind
import KE.DataMinMax
import PyProof.SeqIndex
import KE.KTupSum
import KE.GoesMore
import KE.GoesEnum
import HandS.Iter
import HandS.Zip
import HandS.Strs
import HandS.Defaults
import HandS.HeadEnd
import HandS.HeadHook1
import HandS.HeadHook2
import KE.KStateDown
import HandS.Base
import HandS.Call
import HandS.Ends
import HandS.More
import HandS.Words
import HandS.WordsExc
import HandS.Head0
import HandS.Head1
import HandS.Head2
import PySem.Challenge.RW_ascentrows_k38_main_rows_and_orders_of_n
section
set_option linter.all false
namespace Ev
open PySem (Str)

inductive D where
  | non | bl (b : Bool) | int (i : Int) | str (x : Str)
  | tup (ds : List D) | lst (ds : List D)
  | ro (ns : List Int)
  | fn (k : Nat)
  | dic (kvs : List (List Int × D))
  deriving Inhabited

mutual
def eqD : D → D → Bool
  | .non, .non => true
  | .bl a, .bl b => a == b
  | .bl a, .int j => (if a then 1 else 0) == j
  | .int i, .bl b => i == (if b then 1 else 0)
  | .int i, .int j => i == j
  | .str x, .str y => decide (x = y)
  | .tup xs, .tup ys => eqDs xs ys
  | .lst xs, .lst ys => eqDs xs ys
  | _, _ => false
def eqDs : List D → List D → Bool
  | [], [] => true
  | x :: xs, y :: ys => eqD x y && eqDs xs ys
  | _, _ => false
end
mutual
def isData : Nat → D → Bool
  | _, .non => true
  | _, .bl _ => true
  | _, .int _ => true
  | _, .str _ => true
  | n + 1, .tup ds => isDatas n ds
  | n + 1, .lst ds => isDatas n ds
  | _, _ => false
def isDatas : Nat → List D → Bool
  | _, [] => true
  | n, d :: ds => isData n d && isDatas n ds
end
abbrev depthLine : Nat := 20
def scalar : D → Bool
  | .non => true
  | .bl _ => true
  | .int _ => true
  | .str _ => true
  | _ => false
def intsOf : List D → Option (List Int)
  | [] => some []
  | .int i :: r => (intsOf r).map fun l => i :: l
  | _ => none
def blsOf : List D → Option (List Bool)
  | [] => some []
  | .bl b :: r => (blsOf r).map fun l => b :: l
  | _ => none
def strsOf : List D → Option (List Str)
  | [] => some []
  | .str b :: r => (strsOf r).map fun l => b :: l
  | _ => none
def tupsOf : List D → Option (List (List D))
  | [] => some []
  | .tup b :: r => (tupsOf r).map fun l => b :: l
  | _ => none
def lexI : List Int → List Int → Bool
  | [], [] => false
  | [], _ :: _ => true
  | _ :: _, [] => false
  | x :: xs, y :: ys => if x = y then lexI xs ys else decide (x < y)

mutual
def ltD : D → D → Bool
  | .int i, .int j => decide (i < j)
  | .str x, .str y => decide (x.cps.toList < y.cps.toList)
  | .tup xs, .tup ys => ltDs xs ys
  | _, _ => false
def ltDs : List D → List D → Bool
  | [], [] => false
  | [], _ :: _ => true
  | _ :: _, [] => false
  | x :: xs, y :: ys => if eqD x y then ltDs xs ys else ltD x y
end
mutual
def alikeD : D → D → Bool
  | .int _, .int _ => true
  | .str _, .str _ => true
  | .tup xs, .tup ys => alikeDs xs ys
  | _, _ => false
def alikeDs : List D → List D → Bool
  | [], _ => true
  | _, [] => true
  | x :: xs, y :: ys => alikeD x y && alikeDs xs ys
end
def insD (x : D) : List D → List D
  | [] => [x]
  | y :: ys => if ltD y x then y :: insD x ys else x :: y :: ys
def sortD : List D → List D
  | [] => []
  | x :: xs => insD x (sortD xs)
def allAlike : List D → Bool
  | [] => true
  | x :: xs => alikeD x x && xs.all (alikeD x) && allAlike xs
def isNonD : D → Bool
  | .non => true
  | _ => false
def isTup1 : D → Bool
  | .tup (_ :: _) => true
  | _ => false
def noTup : D → Bool
  | .bl _ => true
  | .int _ => true
  | .str _ => true
  | .lst _ => true
  | _ => false
def srtOk (ds : List D) : Bool := ds.all isTup1 || ds.all noTup
def dedup : List D → List D → List D
  | [], acc => acc.reverse
  | x :: xs, acc => if acc.any (eqD x) then dedup xs acc else dedup xs (x :: acc)

abbrev cap : Nat := 16777216
def capd (n : Nat) (d : D) : Option D := if n ≤ cap then some d else none

def atN (n : Nat) (i : Int) : Option Nat := if 0 ≤ i then (if i < n then some i.toNat else none) else if -(n : Int) ≤ i then some (i + n).toNat else none
def cutN (n d : Nat) : Option Int → Nat
  | none => d
  | some v => if v < 0 then (v + n).toNat else min v.toNat n
def cutL {α : Type} (xs : List α) (lo hi : Option Int) : List α := (xs.drop (cutN xs.length 0 lo)).take (cutN xs.length xs.length hi - cutN xs.length 0 lo)
def cutD (x : D) (lo hi : Option Int) : Option D := match x with
  | .lst ds => some (.lst (cutL ds lo hi))
  | .tup ds => some (.tup (cutL ds lo hi))
  | .ro ds => some (.lst ((cutL ds lo hi).map D.int))
  | .str x => if x.cps.size ≤ 16777216 then some (.str ⟨(cutL x.cps.toList lo hi).toArray⟩) else none
  | _ => none
def upto (lo : Int) : Nat → List Int
  | 0 => []
  | n + 1 => lo :: upto (lo + 1) n
def steps (lo c : Int) : Nat → List Int
  | 0 => []
  | n + 1 => lo :: steps (lo + c) c n
def keyOf : D → Option (List Int)
  | .tup ds => intsOf ds
  | _ => none
def dget (k : List Int) : List (List Int × D) → Option D
  | [] => none
  | (k', v) :: r => if k = k' then some v else dget k r
def dput (k : List Int) (v : D) : List (List Int × D) → List (List Int × D)
  | [] => [(k, v)]
  | (k', v') :: r => if k = k' then (k', v) :: r else (k', v') :: dput k v r

inductive Op where
  | add | sub | mul | fdiv | mod | pow | neg
  | eq | ne | lt | le | gt | ge | isn | isnn | inn | nin
  | ix | cut (lo hi : Bool) | rev
  | len | abs | int1 | str1 | sum | max1 | min1 | max2 | min2 | sorted | list | tuple | all | any
  | lrg1 | lrg2 | trg1 | trg2
  | isi (ts : List Nat)
  | count | index | split | join | repl | get | zipS | sset | nset
  deriving DecidableEq, Inhabited

def intP (p : Int → Int → Bool) : List D → Option D
  | [.int i, .int j] => some (.bl (p i j))
  | _ => none
def leN (i : Int) (b : Nat) : Bool := i.toNat.ble b
theorem leN_iff {i : Int} {b : Nat} : leN i b = true ↔ i ≤ b := by
  unfold leN
  rw [Nat.ble_eq]
  omega
def rngOk (n : Int) : Bool := leN (-n) 1152921504606846976 && leN n 1152921504606846976
theorem rngOk_iff {n : Int} : rngOk n = true ↔ -(2 ^ 60) ≤ n ∧ n ≤ 2 ^ 60 := by
  unfold rngOk
  rw [Bool.and_eq_true, leN_iff, leN_iff]
  omega
def tyIs : D → Nat → Bool
  | .int _, 0 => true
  | .bl _, 0 => true
  | .bl _, 1 => true
  | .str _, 2 => true
  | .lst _, 3 => true
  | .tup _, 4 => true
  | _, _ => false
def tyKnown : D → Bool
  | .ro _ => false
  | .fn _ => false
  | .dic _ => false
  | _ => true
def splitOn (c : Nat) : List Nat → List Nat → List (List Nat)
  | [], acc => [acc.reverse]
  | x :: xs, acc => if x = c then acc.reverse :: splitOn c xs [] else splitOn c xs (x :: acc)
def joinS (sep : List Nat) : List (List Nat) → List Nat
  | [] => []
  | [x] => x
  | x :: y :: r => x ++ sep ++ joinS sep (y :: r)
def zipAll : Nat → List (List D) → List D
  | 0, _ => []
  | n + 1, ls => if ls.any List.isEmpty then [] else .tup (ls.map fun l => l.headD .non) :: zipAll n (ls.map List.tail)
def maxI : List Int → Option Int
  | [] => none
  | [x] => some x
  | x :: r => (maxI r).map fun m => if x < m then m else x
def minI : List Int → Option Int
  | [] => none
  | [x] => some x
  | x :: r => (minI r).map fun m => if m < x then m else x
def minD : D → List D → D
  | m, [] => m
  | m, x :: r => if ltD x m then minD x r else minD m r
def seqOf : D → Option (List D)
  | .lst ds => some ds
  | .tup ds => some ds
  | _ => none
def idx (x : D) : List D → Nat → Option Nat
  | [], _ => none
  | y :: r, n => if eqD y x then some n else idx x r (n + 1)
def b64 (i : Int) : Bool := i.natAbs.ble 18446744073709551615
theorem b64_iff {i : Int} : b64 i = true ↔ -(2 ^ 64) < i ∧ i < 2 ^ 64 := by
  unfold b64
  rw [Nat.ble_eq]
  omega

def op1 : Op → D → Option D
  | .neg, .int i => some (.int (-i))
  | .isn, x => some (.bl (isNonD x))
  | .isnn, x => some (.bl (!isNonD x))
  | .cut false false, x => cutD x none none
  | .rev, .lst ds => some (.lst ds.reverse)
  | .len, .lst ds => some (.int ds.length)
  | .len, .tup ds => some (.int ds.length)
  | .len, .ro ds => some (.int ds.length)
  | .len, .str x => capd x.cps.size (.int x.cps.size)
  | .abs, .int i => some (.int (if i < 0 then -i else i))
  | .int1, .int i => some (.int i)
  | .int1, .bl b => some (.int (if b then 1 else 0))
  | .str1, .int i => if decide (i.natAbs < 10 ^ 30) then some (.str (Str.ofString (toString i))) else none
  | .sum, x => (seqOf x).bind fun ds => (intsOf ds).map fun l => .int l.sum
  | .max1, x => (seqOf x).bind fun ds => (intsOf ds).bind fun l => (maxI l).map D.int
  | .min1, x => (seqOf x).bind fun ds => (intsOf ds).bind fun l => (minI l).map D.int
  | .sorted, x => (seqOf x).bind fun ds => if allAlike ds && srtOk ds && isDatas depthLine ds then some (.lst (sortD ds)) else none
  | .sset, x => (seqOf x).bind fun ds => if allAlike ds && isDatas depthLine ds then some (.lst (sortD (dedup ds []))) else none
  | .nset, x => (seqOf x).bind fun ds => if allAlike ds && isDatas depthLine ds then some (.int (dedup ds []).length) else none
  | .list, .ro ns => some (.lst (ns.map D.int))
  | .list, .lst xs => some (.lst xs)
  | .list, .tup xs => some (.lst xs)
  | .tuple, .lst xs => some (.tup xs)
  | .tuple, .tup xs => some (.tup xs)
  | .all, .lst ds => (blsOf ds).map fun l => .bl (l.all id)
  | .any, .lst ds => (blsOf ds).map fun l => .bl (l.any id)
  | .lrg1, .int n => if leN n 10000000 && rngOk n then some (.lst ((upto 0 n.toNat).map D.int)) else none
  | .trg1, .int n => if leN n 10000000 && rngOk n then some (.tup ((upto 0 n.toNat).map D.int)) else none
  | .isi ts, x => if tyKnown x = true then some (.bl (ts.any (tyIs x))) else none
  | .zipS, x => (seqOf x).bind fun ds => (tupsOf ds).bind fun ls => match ls with
    | [] => some (.lst [])
    | l :: _ => some (.lst (zipAll l.length ls))
  | _, _ => none
def op2 : Op → D → D → Option D
  | .add, .int i, .int j => some (.int (i + j))
  | .add, .str x, .str y => capd (x.cps.size + y.cps.size) (.str ⟨x.cps ++ y.cps⟩)
  | .add, .tup xs, .tup ys => capd (xs.length + ys.length) (.tup (xs ++ ys))
  | .add, .lst xs, .lst ys => capd (xs.length + ys.length) (.lst (xs ++ ys))
  | .sub, .int i, .int j => some (.int (i - j))
  | .mul, .int i, .int j => if b64 i || b64 j then some (.int (i * j)) else none
  | .mul, .lst xs, .int k => if leN (-k) 1152921504606846976 && leN k 10000 && decide (xs.length ≤ 1000) then some (.lst (List.replicate k.toNat xs).flatten) else none
  | .fdiv, .int i, .int j => if decide (0 < j) && leN j 1073741823 then some (.int (i / j)) else none
  | .mod, .int i, .int j => if decide (0 < j) then some (.int (i % j)) else none
  | .pow, .int i, .int j => if decide (0 ≤ j) && decide (j ≤ 1000) && decide (i.natAbs < 2 ^ 64) then some (.int (i ^ j.toNat)) else none
  | .eq, x, y => if isData depthLine x && isData depthLine y then some (.bl (eqD x y)) else none
  | .ne, x, y => if isData depthLine x && isData depthLine y then some (.bl (!eqD x y)) else none
  | .lt, .int i, .int j => some (.bl (decide (i < j)))
  | .le, .int i, .int j => some (.bl (decide (i ≤ j)))
  | .gt, .int i, .int j => some (.bl (decide (j < i)))
  | .ge, .int i, .int j => some (.bl (decide (j ≤ i)))
  | .inn, .str x, .str y => match x.cps.toList with
    | [c] => some (.bl (decide (c ∈ y.cps.toList)))
    | _ => none
  | .inn, x, y => match seqOf y with
    | some ds => if isData depthLine x && isDatas depthLine ds then some (.bl (ds.any fun d => eqD d x)) else none
    | none => none
  | .nin, .str x, .str y => match x.cps.toList with
    | [c] => some (.bl (!decide (c ∈ y.cps.toList)))
    | _ => none
  | .nin, x, y => match seqOf y with
    | some ds => if isData depthLine x && isDatas depthLine ds then some (.bl (!ds.any fun d => eqD d x)) else none
    | none => none
  | .ix, .lst ds, .int i => (atN ds.length i).bind fun k => ds[k]?
  | .ix, .tup ds, .int i => (atN ds.length i).bind fun k => ds[k]?
  | .ix, .ro ns, .int i => (atN ns.length i).bind fun k => ns[k]?.map D.int
  | .ix, .str x, .int i => if x.cps.size ≤ cap then (atN x.cps.size i).bind fun k => x.cps[k]?.map fun c => D.str ⟨#[c]⟩ else none
  | .cut true false, x, .int i => cutD x (some i) none
  | .cut false true, x, .int j => cutD x none (some j)
  | .max2, .int i, .int j => some (.int (if j > i then j else i))
  | .min2, .int i, .int j => some (.int (if j < i then j else i))
  | .lrg2, .int a, .int b => if leN (b - a) 10000000 && rngOk a && rngOk b then some (.lst ((upto a (b - a).toNat).map D.int)) else none
  | .trg2, .int a, .int b => if leN (b - a) 10000000 && rngOk a && rngOk b then some (.tup ((upto a (b - a).toNat).map D.int)) else none
  | .count, x, y => (seqOf x).bind fun ds => if isDatas depthLine ds && isData depthLine y then some (.int ((ds.countP fun d => eqD d y : Nat) : Int)) else none
  | .index, x, y => (seqOf x).bind fun ds => if isDatas depthLine ds && isData depthLine y then (idx y ds 0).map fun n => D.int n else none
  | .split, .str x, .str y => match y.cps.toList with
    | [c] => capd (x.cps.size + 2) (.lst ((splitOn c x.cps.toList []).map fun l => .str ⟨l.toArray⟩))
    | _ => none
  | .join, .str x, y => (seqOf y).bind fun ds => (strsOf ds).bind fun l =>
      let r := joinS x.cps.toList (l.map fun z => z.cps.toList)
      capd r.length (.str ⟨r.toArray⟩)
  | _, _, _ => none
def op3 (_ : Op) (_ _ _ : D) : Option D := none
def opSem (o : Op) (ds : List D) : Option D := match ds with
  | [x] => op1 o x
  | [x, y] => op2 o x y
  | [x, y, z] => op3 o x y z
  | _ => none
def cmpI : Op → Int → Int → Bool
  | .lt, i, j => decide (i < j)
  | .le, i, j => decide (i ≤ j)
  | .gt, i, j => decide (j < i)
  | .ge, i, j => decide (j ≤ i)
  | _, _, _ => false
def newOp : Op → Bool
  | .ix => false
  | .get => false
  | _ => true

inductive T where
  | nm (i : Nat) | tu (is : List Nat)
  deriving DecidableEq, Inhabited
inductive IK where
  | seq | rg1 | rg2 | rg3 | enum | zip2 | zip3 | zipS
  deriving DecidableEq, Inhabited
def pairK : IK → Bool
  | .enum => true
  | .zip2 => true
  | .zip3 => true
  | .zipS => true
  | _ => false
def isTu : T → Bool
  | .tu _ => true
  | _ => false
def pairOk (k : IK) (t : T) : Bool := !pairK k || isTu t
def signs (x : Str) : List D := x.cps.toList.map fun c => .str ⟨#[c]⟩
def anyOf : D → Option (List D)
  | .lst ds => some ds
  | .tup ds => some ds
  | .ro ns => some (ns.map D.int)
  | .str x => some (signs x)
  | _ => none
def enumD : Nat → List D → List D
  | _, [] => []
  | n, d :: r => .tup [.int n, d] :: enumD (n + 1) r
def zipD : List D → List D → List D
  | x :: xs, y :: ys => .tup [x, y] :: zipD xs ys
  | _, _ => []
def zipD3 : List D → List D → List D → List D
  | x :: xs, y :: ys, z :: zs => .tup [x, y, z] :: zipD3 xs ys zs
  | _, _, _ => []
def rg3N (a b c : Int) : Nat := if 0 < c then ((b - a + c - 1) / c).toNat else if c < 0 then ((a - b + (-c) - 1) / (-c)).toNat else 0
def it1 : IK → D → Option (List D)
  | .seq, x => anyOf x
  | .rg1, .int n => if rngOk n then some ((upto 0 n.toNat).map D.int) else none
  | .enum, .lst ds => some (enumD 0 ds)
  | .enum, .tup ds => some (enumD 0 ds)
  | _, _ => none
def it2 : IK → D → D → Option (List D)
  | .rg2, .int a, .int b => if rngOk a && rngOk b then some ((upto a (b - a).toNat).map D.int) else none
  | .zip2, .lst a, .lst b => some (zipD a b)
  | .zip2, .tup a, .tup b => some (zipD a b)
  | _, _, _ => none
def itSem (k : IK) (ds : List D) : Option (List D) := match ds with
  | [x] => it1 k x
  | [x, y] => it2 k x y
  | _ => none

inductive E where
  | var (i : Nat) | cst (d : D)
  | op (o : Op) (a : E)
  | nil | cons (a r : E)
  | tup (a : E) | lst (a : E)
  | and (a b : E) | or (a b : E) | not (a : E)
  | ite (c a b : E)
  | chain (o1 o2 : Op) (a b c : E)
  | call (f : Nat) (a : E)
  | io (f : Nat) (i : Nat) (a : E)
  | orL (a b : E)
  | meth (o : Op) (x a : E)
  | cut2 (x a b : E)
  | comp (own : List Nat) (t : T) (k : IK) (src tst elt : E)
  | comp2 (own vs : List Nat) (t : T) (k : IK) (src tst : E) (t1 : T) (k1 : IK) (src1 tst1 elt : E)
  deriving Inhabited
inductive S where
  | nop
  | nev
  | seq (a b : S)
  | expr (e : E)
  | asg (i : Nat) (e : E)
  | par (is : List Nat) (e : E)
  | unp (t : T) (e : E)
  | append (i : Nat) (e : E)
  | extend (i : Nat) (e : E)
  | seti (i : Nat) (k e : E)
  | ret (e : E)
  | ite (c : E) (a b : S)
  | for (t : T) (k : IK) (src : E) (body : S)
  | while (c : E) (body : S)
  | brk | cnt
  deriving Inhabited

inductive Sl where
  | no | fz (d : D) | ow (ds : List D) | od (kvs : List (List Int × D))
  deriving Inhabited
abbrev Env := List Sl
def Env.at (env : Env) (i : Nat) : Sl := env.getD i .no
inductive O where
  | fz (d : D) | fr (d : D) | sl (i : Nat)
  deriving Inhabited
inductive R (α : Type) where
  | ok (a : α) (env : Env)
  | exc (k : Nat) (a : List D) (env : Env)
  | stuck
def R.bind {α β : Type} (r : R α) (f : α → Env → R β) : R β := match r with
  | .ok a env => f a env
  | .exc k a env => .exc k a env
  | .stuck => .stuck
def Sl.d : Sl → D
  | .no => .non
  | .fz d => d
  | .ow ds => .lst ds
  | .od kvs => .dic kvs
def Sl.own : Sl → Bool
  | .ow _ => true
  | .od _ => true
  | _ => false
def O.view (env : Env) : O → D
  | .fz d => d
  | .fr d => d
  | .sl i => (env.at i).d
def Env.freeze (env : Env) (i : Nat) : Env := match env.at i with
  | .ow ds => env.set i (.fz (.lst ds))
  | .od kvs => env.set i (.fz (.dic kvs))
  | _ => env
def freezeO (env : Env) : List O → Env
  | [] => env
  | .sl i :: r => freezeO (env.freeze i) r
  | _ :: r => freezeO env r
def freezeL (env : Env) : List Nat → Env
  | [] => env
  | i :: r => freezeL (env.freeze i) r
def wipeE (env : Env) : List Nat → Env
  | [] => env
  | i :: r => (wipeE env r).set i .no
def backE (old env : Env) : List Nat → Env
  | [] => env
  | i :: r => (backE old env r).set i (old.at i)
def O.still (env : Env) : O → O
  | .sl i => .fz (env.at i).d
  | o => o
def ownD : D → Sl
  | .lst ds => .ow ds
  | .dic kvs => .od kvs
  | d => .fz d
def store (env : Env) (i : Nat) : O → Env
  | .fz d => env.set i (.fz d)
  | .fr d => env.set i (ownD d)
  | .sl j => (env.freeze j).set i (.fz (env.at j).d)
def bind1 (t : T) (d : D) (env : Env) : Option Env := match t with
  | .nm i => some (env.set i (.fz d))
  | .tu is => match seqOf d with
    | some ds => if ds.length = is.length then some ((is.zip ds).foldl (fun e p => e.set p.1 (.fz p.2)) env) else none
    | none => none
inductive CR where
  | ok (d : D) (fr : Bool) (io : List D)
  | exc (k : Nat) (a : List D) (io : List D)
  | stuck
structure EC where
  call : Nat → List D → CR
  io : Nat → Bool
  wf : Nat

def afterCall (os : List O) (env : Env) : CR → R (List O)
  | .ok d fr _ => if scalar d then .ok [.fz d] env else .ok [if fr then .fr d else .fz d] (freezeO env os)
  | .exc k a _ => .exc k a (freezeO env os)
  | .stuck => .stuck
def resO (o : Op) (d : D) : O := match d with
  | .lst _ => if newOp o then .fr d else .fz d
  | _ => .fz d

def R.one {β : Type} (r : R (List O)) (f : O → Env → R β) : R β := match r with
  | .ok [o] e => f o e
  | .exc k a e => .exc k a e
  | _ => .stuck
def R.all {β : Type} (r : R (List O)) (f : List O → Env → R β) : R β := match r with
  | .ok os e => f os e
  | .exc k a e => .exc k a e
  | .stuck => .stuck
def R.tst {β : Type} (r : R (List O)) (f : Bool → Env → R β) : R β := r.one fun o e => match o.view e with
  | .bl b => f b e
  | _ => .stuck
def ifI {β : Type} (d : D) (f : Int → R β) : R β := match d with
  | .int i => f i
  | _ => .stuck
def ifL {β : Type} (s : Sl) (f : List D → R β) : R β := match s with
  | .ow ds => f ds
  | _ => .stuck
def ifS {α β : Type} (s : Option α) (f : α → R β) : R β := match s with
  | some ds => f ds
  | none => .stuck
def O.isSl (i : Nat) : O → Bool
  | .sl j => j == i
  | _ => false
def O.anySl : O → Bool
  | .sl j => true
  | _ => false
def afterIo (os : List O) (i : Nat) (env : Env) : CR → R (List O)
  | .ok d fr io => .ok [if fr then .fr d else .fz d] ((freezeO env os).set i (.ow io))
  | .exc k a io => .exc k a ((freezeO env os).set i (.ow io))
  | .stuck => .stuck

def compLoop (vs : List Nat) (t : T) (tst elt : Env → R (List O)) : List D → Env → List D → R (List D)
  | [], env, acc => .ok acc.reverse env
  | d :: r, env, acc => ifS (bind1 t d env) fun e1 => (tst e1).tst fun c e2 => if c = true then (elt e2).one fun o e3 =>
      if acc.length < cap then compLoop vs t tst elt r (wipeE (freezeO e3 [o]) vs) (o.view e3 :: acc) else .stuck
    else compLoop vs t tst elt r (wipeE e2 vs) acc
def compLoop2 (vs : List Nat) (t : T) (tst : Env → R (List O)) (inner : Env → List D → R (List D)) : List D → Env → List D → R (List D)
  | [], env, acc => .ok acc env
  | d :: r, env, acc => ifS (bind1 t d env) fun e1 => (tst e1).tst fun c e2 => if c = true then (inner e2 acc).bind fun acc' e3 => compLoop2 vs t tst inner r (wipeE e3 vs) acc'
    else compLoop2 vs t tst inner r (wipeE e2 vs) acc
def compEnd (e0 : Env) (own : List Nat) : R (List D) → R (List O)
  | .ok ds e3 => if e3.length = e0.length then .ok [.fr (.lst ds)] (backE e0 e3 own) else .stuck
  | _ => .stuck
def kindD : D → Nat
  | .str _ => 2
  | .lst _ => 3
  | .tup _ => 4
  | .dic _ => 5
  | _ => 9
def mtOk (o : Op) (d : D) : Bool := match o, kindD d with
  | .index, 3 => true | .index, 4 => true | .count, 3 => true | .count, 4 => true | .split, 2 => true | .join, 2 => true
  | _, _ => false
def evE (C : EC) : E → Env → R (List O)
  | .var i, env => match env.at i with
    | .no => .stuck
    | .fz d => .ok [.fz d] env
    | _ => .ok [.sl i] env
  | .cst d, env => .ok [.fz d] env
  | .nil, env => .ok [] env
  | .cons a r, env => match evE C a env with
    | .ok [o] e1 => match evE C r e1 with
      | .ok os e2 => .ok (o :: os) e2
      | .exc k a e => .exc k a e
      | .stuck => .stuck
    | .exc k a e => .exc k a e
    | _ => .stuck
  | .op o a, env => match evE C a env with
    | .ok os e1 => match opSem o (os.map (O.view e1)) with
      | some d => .ok [resO o d] e1
      | none => .stuck
    | .exc k a e => .exc k a e
    | .stuck => .stuck
  | .tup a, env => match evE C a env with
    | .ok os e1 => if os.length ≤ cap then .ok [.fz (.tup (os.map (O.view e1)))] (freezeO e1 os) else .stuck
    | .exc k a e => .exc k a e
    | .stuck => .stuck
  | .lst a, env => match evE C a env with
    | .ok os e1 => if os.length ≤ cap then .ok [.fr (.lst (os.map (O.view e1)))] (freezeO e1 os) else .stuck
    | .exc k a e => .exc k a e
    | .stuck => .stuck
  | .and a b, env => (evE C a env).tst fun c e1 => if c = true then evE C b e1 else .ok [.fz (.bl false)] e1
  | .or a b, env => (evE C a env).tst fun c e1 => if c = true then .ok [.fz (.bl true)] e1 else evE C b e1
  | .not a, env => (evE C a env).tst fun c e1 => .ok [.fz (.bl (!c))] e1
  | .ite c a b, env => (evE C c env).tst fun c e1 => if c = true then evE C a e1 else evE C b e1
  | .chain o1 o2 a b c, env => (evE C a env).one fun oa e1 => ifI (oa.view e1) fun i => (evE C b e1).one fun ob e2 => ifI (ob.view e2) fun j =>
      if cmpI o1 i j = true then (evE C c e2).one fun oc e3 => ifI (oc.view e3) fun l => .ok [.fz (.bl (cmpI o2 j l))] e3 else .ok [.fz (.bl false)] e2
  | .call f a, env => (evE C a env).all fun os e1 => if C.io f = true then .stuck else afterCall os e1 (C.call f (os.map (O.view e1)))
  | .io f i a, env => ifL (env.at i) fun _ => (evE C a env).all fun os e1 => if C.io f = true then ifL (e1.at i) fun ds =>
      if os.any (O.isSl i) = true then .stuck else afterIo os i e1 (C.call f (.lst ds :: os.map (O.view e1))) else .stuck
  | .orL a b, env => (evE C a env).one fun o e1 => match o.view e1 with
      | .lst (_ :: _) => .ok [o] e1
      | .lst [] => evE C b e1
      | _ => .stuck
  | .meth o x a, env => (evE C x env).one fun ox e1 => if mtOk o (ox.view e1) = true then (evE C a e1).all fun os e2 =>
      if kindD (ox.view e2) = kindD (ox.view e1) then ifS (opSem o (ox.view e2 :: os.map (O.view e2))) fun d => .ok [resO o d] e2 else .stuck else .stuck
  | .cut2 x a b, env => (evE C x env).one fun ox e1 => (evE C a e1).one fun oa e2 => ifI (oa.view e2) fun i => (evE C b e2).one fun ob e3 => ifI (ob.view e3) fun j =>
      ifS (cutD (ox.view e3) (some i) (some j)) fun d => .ok [resO .len d] e3
  | .comp own t k src tst elt, env => (evE C src env).all fun os e1 => ifS (itSem k (os.map (O.view e1))) fun items =>
      compEnd (freezeL (freezeO e1 os) own) own (compLoop own t (evE C tst) (evE C elt) items (wipeE (freezeL (freezeO e1 os) own) own) [])
  | .comp2 own vs t k src tst t1 k1 src1 tst1 elt, env => (evE C src env).all fun os e1 => ifS (itSem k (os.map (O.view e1))) fun items =>
      compEnd (freezeL (freezeO e1 os) own) own (compLoop2 own t (evE C tst) (fun env acc => (evE C src1 env).all fun os1 e1 => ifS (itSem k1 (os1.map (O.view e1))) fun items1 =>
        compLoop vs t1 (evE C tst1) (evE C elt) items1 (wipeE (freezeO e1 os1) vs) acc.reverse) items (wipeE (freezeL (freezeO e1 os) own) own) [])

inductive Fl where
  | nx | rt (d : D) (fr : Bool) | bk | ct
def turnF (next : Env → R Fl) : R Fl → R Fl
  | .ok .nx e2 => next e2
  | .ok .ct e2 => next e2
  | .ok .bk e2 => .ok .nx e2
  | .ok (.rt d fr) e2 => .ok (.rt d fr) e2
  | .exc k a e => .exc k a e
  | .stuck => .stuck
def forLoop (t : T) (body : Env → R Fl) : List D → Env → R Fl
  | [], env => .ok .nx env
  | d :: r, env => ifS (bind1 t d env) fun e1 => turnF (forLoop t body r) (body e1)
def whileLoop (c : Env → R (List O)) (body : Env → R Fl) : Nat → Env → R Fl
  | 0, _ => .stuck
  | n + 1, env => (c env).tst fun b e1 => if b = true then turnF (whileLoop c body n) (body e1) else .ok .nx e1
def parStore : List Nat → List O → Env → Env
  | i :: is, o :: os, env => store (parStore is os env) i o
  | _, _, env => env
def thenF (next : Env → R Fl) : R Fl → R Fl
  | .ok .nx e2 => next e2
  | r => r
def setAt (ds : List D) (x : D) (j : Int) : Option (List D) := (atN ds.length j).map fun n => ds.set n x
def evS (C : EC) : S → Env → R Fl
  | .nop, env => .ok .nx env
  | .nev, _ => .stuck
  | .seq a b, env => thenF (evS C b) (evS C a env)
  | .expr e, env => (evE C e env).one fun _ e1 => .ok .nx e1
  | .asg i e, env => (evE C e env).one fun o e1 => .ok .nx (store e1 i o)
  | .par is e, env => (evE C e env).all fun os e1 => if os.length = is.length then .ok .nx (parStore is (os.map (O.still e1)) (freezeO e1 os)) else .stuck
  | .unp t e, env => (evE C e env).one fun o e1 => ifS (bind1 t (o.view e1) (freezeO e1 [o])) fun e2 => .ok .nx e2
  | .append i e, env => ifL (env.at i) fun _ => (evE C e env).one fun o e1 => ifL ((freezeO e1 [o]).at i) fun ds =>
      if ds.length < cap then .ok .nx ((freezeO e1 [o]).set i (.ow (ds ++ [o.view e1]))) else .stuck
  | .extend i e, env => ifL (env.at i) fun _ => (evE C e env).one fun o e1 => if o.isSl i = true then .stuck else ifL ((freezeO e1 [o]).at i) fun ds =>
      match o.view e1 with
      | .lst xs => if ds.length + xs.length ≤ cap then .ok .nx ((freezeO e1 [o]).set i (.ow (ds ++ xs))) else .stuck
      | _ => .stuck
  | .seti i k e, env => (evE C e env).one fun o e1 => ifL ((freezeO e1 [o]).at i) fun _ => (evE C k (freezeO e1 [o])).one fun ok e2 => ifL (e2.at i) fun ds => ifI (ok.view e2) fun j =>
      ifS (setAt ds (o.view e1) j) fun ds' => .ok .nx (e2.set i (.ow ds'))
  | .ret e, env => (evE C e env).one fun o e1 => match o with
      | .fz d => .ok (.rt d false) e1
      | .fr d => .ok (.rt d true) e1
      | .sl j => .ok (.rt (e1.at j).d (e1.at j).own) (if (e1.at j).own = true then e1.set j .no else e1)
  | .ite c a b, env => (evE C c env).tst fun c e1 => if c = true then evS C a e1 else evS C b e1
  | .for t k src body, env => (evE C src env).all fun os e1 => ifS (itSem k (os.map (O.view e1))) fun items => forLoop t (evS C body) items (freezeO e1 os)
  | .while c body, env => whileLoop (evE C c) (evS C body) C.wf env
  | .brk, env => .ok .bk env
  | .cnt, env => .ok .ct env

structure Fn where
  ar : Nat
  sl : Nat
  io : Bool
  body : S
  deriving Inhabited
def startE (F : Fn) (ds : List D) : Env :=
  (match F.io, ds with
    | true, .lst xs :: r => .ow xs :: r.map Sl.fz
    | _, _ => ds.map Sl.fz) ++ List.replicate (F.sl - F.ar) .no
def endIo (io : Bool) (s : Sl) : Option (List D) := match io, s with
  | true, .ow ds => some ds
  | true, _ => none
  | false, _ => some []
def endFl : Fl → Option (List D) → CR
  | .rt d fr, some io => .ok d fr io
  | .nx, some io => .ok .non false io
  | _, _ => .stuck
def endEx (k : Nat) (a : List D) : Option (List D) → CR
  | some io => .exc k a io
  | none => .stuck
def endS (F : Fn) : R Fl → CR
  | .ok fl env => endFl fl (endIo F.io (env.at 0))
  | .exc k a env => endEx k a (endIo F.io (env.at 0))
  | .stuck => .stuck
inductive FnD where
  | ir (F : Fn)
  | nat (io : Bool) (g : List D → CR)
abbrev Tab := Nat → Option FnD
def Tab.io (T : Tab) (f : Nat) : Bool := match T f with
  | some (.ir F) => F.io
  | some (.nat io _) => io
  | none => false
def evFn (T : Tab) (wf : Nat) : Nat → Nat → List D → CR
  | 0, _, _ => .stuck
  | n + 1, f, ds => match T f with
    | some (.ir F) => if ds.length = F.ar then endS F (evS ⟨evFn T wf n, T.io, wf⟩ F.body (startE F ds)) else .stuck
    | some (.nat _ g) => g ds
    | none => .stuck
end Ev
end
section
set_option linter.all false
namespace Ev
open PySem (Str Scope NameKind Const Comprehension Keyword Stmt)
abbrev Ex := PySem.Expr

inductive GV where
  | fn (k : Nat) | cst (d : D) | bi (b : Nat) | exc (k : Nat)
  deriving Inhabited
def biNames : List String := ["len", "abs", "int", "str", "sum", "max", "min", "sorted", "list", "tuple", "all", "any", "range", "enumerate", "zip", "set", "isinstance", "bool"]

structure CC where
  N : List Str
  sc : Scope
  gl : List (Str × GV)
  ioF : Nat → Bool
  io : Bool
  fnc : Str → Bool

def idxS (x : Str) : List Str → Nat → Option Nat
  | [], _ => none
  | y :: r, n => if x == y then some n else idxS x r (n + 1)
def plainN (x : Str) : Bool := !(x == ("__debug__" : Str)) && !(x == ("__classdict__" : Str)) && !(x == ("__name__" : Str))
def CC.slot (cc : CC) (x : Str) : Option Nat := if plainN x = true then (match cc.sc.names.lookup x with
  | some .local => idxS x cc.N 0
  | some .cell => idxS x cc.N 0
  | some .free => idxS x cc.N 0
  | _ => none) else none
def CC.dest (cc : CC) (x : Str) : Option Nat := match cc.sc.names.lookup x with
  | some .local => (idxS x cc.N 0).bind fun i => if cc.io && i == 0 then none else some i
  | some .cell => if cc.fnc x = true then (idxS x cc.N 0).bind fun i => if cc.io && i == 0 then none else some i else none
  | _ => none
def CC.glob (cc : CC) (x : Str) : Option GV := if plainN x = true then (match cc.sc.names.lookup x with
  | some .globalImplicit => cc.gl.lookup x
  | _ => none) else none
def relScope (scope sc : Scope) : Scope :=
  { scope with names := scope.names.map fun (n, k) => if (k == .free && sc.kind == .function && sc.names.lookup n == some .cell) then (n, .cell) else (n, k) }
def CC.blk (cc : CC) (scope : Scope) : CC := { cc with sc := relScope scope cc.sc, fnc := fun x => scope.names.lookup x == some .cell }
def ownOf (N : List Str) (scope : Scope) : List (Str × Nat) := scope.names.filterMap fun (n, k) => match k with
  | .local => (idxS n N 0).map fun i => (n, i)
  | .cell => (idxS n N 0).map fun i => (n, i)
  | _ => none
def blkOkB (cc : CC) (scope : Scope) : Bool :=
  scope.kind == .function && scope.names.all (fun (n, k) => scope.names.lookup n == some k && (match k with
    | .free => cc.sc.names.lookup n == some .cell || cc.sc.names.lookup n == some .free
    | _ => true)) && !(cc.io && ((ownOf cc.N scope).any fun p => p.2 == 0))
def binO : PySem.Operator → Option Op
  | .Add => some .add | .Sub => some .sub | .Mult => some .mul | .FloorDiv => some .fdiv | .Mod => some .mod | .Pow => some .pow
  | _ => none
def cmpO : PySem.CmpOp → Option Op
  | .Eq => some .eq | .NotEq => some .ne | .Lt => some .lt | .LtE => some .le | .Gt => some .gt | .GtE => some .ge | .In => some .inn | .NotIn => some .nin
  | _ => none
def constD : Const → Option D
  | .none => some .non
  | .bool b => some (.bl b)
  | .int i => some (.int i)
  | .str x => some (.str x)
  | _ => none
def cNames (g : Str → Option Nat) : List Ex → Option (List Nat)
  | [] => some []
  | .Name x _ :: r => match g x, cNames g r with
    | some i, some l => some (i :: l)
    | _, _ => none
  | _ => none
def cTarget (cc : CC) : Ex → Option T
  | .Name x _ => (cc.dest x).map T.nm
  | .Tuple es _ _ => (cNames cc.dest es).map T.tu
  | _ => none
def tyNo (x : Str) : Option Nat := if x == "int" then some 0 else if x == "bool" then some 1 else if x == "str" then some 2 else if x == "list" then some 3 else if x == "tuple" then some 4 else none
def tyOf (cc : CC) (x : Str) : Option Nat := match cc.glob x with
  | some (.bi _) => tyNo x
  | _ => none
def cTypes (cc : CC) : Ex → Option (List Nat)
  | .Name x _ => (tyOf cc x).map fun n => [n]
  | .Tuple es _ _ => if es.length ≤ 10 then cNames (tyOf cc) es else none
  | _ => none
def biOp (b n : Nat) : Option Op := match b, n with
  | 0, 1 => some .len | 1, 1 => some .abs | 2, 1 => some .int1 | 4, 1 => some .sum
  | 5, 2 => some .max2 | 6, 2 => some .min2 | 7, 1 => some .sorted
  | 8, 1 => some .list | 9, 1 => some .tuple | 10, 1 => some .all | 11, 1 => some .any
  | _, _ => none
def mtOp (m : Str) (n : Nat) : Option Op :=
  if (m == ("count" : Str)) = true ∧ n = 1 then some .count else if (m == ("index" : Str)) = true ∧ n = 1 then some .index else none
def isLst : Ex → Bool
  | .List _ _ => true
  | _ => false
def tstOk : Ex → Bool
  | .IfExp _ _ _ _ => false
  | .UnaryOp .Not a _ => tstOk a
  | .BoolOp _ es _ => tstAll es && !es.any isLst
  | _ => true
where tstAll : List Ex → Bool
  | [] => true
  | e :: es => tstOk e && tstAll es
def noSet : Ex → Bool
  | .Set _ _ _ => false
  | _ => true
def noSup : Ex → Bool
  | .Call (.Name _ _) [] [] _ => false
  | _ => true
section
variable (F : CC → Ex → Option E) (cc : CC)
def cT (e : Ex) : Option E := if tstOk e = true then F cc e else none
def cEs : List Ex → Option E
  | [] => some .nil
  | .Starred _ _ :: _ => none
  | e :: es => match F cc e, cEs es with
    | some x, some a => some (.cons x a)
    | _, _ => none
def bMk (o : PySem.BoolOp) (l : Bool) (x a : E) : E := match o with
  | .And => .and x a
  | .Or => if l = true then .orL x a else .or x a
def cBool (o : PySem.BoolOp) : List Ex → Option E
  | [] => none
  | [e] => F cc e
  | e :: e2 :: es => match F cc e, cBool o (e2 :: es) with
    | some x, some a => some (bMk o ((e2 :: es).any isLst) x a)
    | _, _ => none
def cOpt : Option Ex → Option E
  | none => some (.cst .non)
  | some e => F cc e
def cIfs : List Ex → Option E
  | [] => some (.cst (.bl true))
  | [e] => cT F cc e
  | _ => none
def cUn (o : Op) (a : Ex) : Option E := (F cc a).map fun x => .op o (.cons x .nil)
def cBin (o : Op) (a b : Ex) : Option E := match F cc a, F cc b with
  | some x, some y => some (.op o (.cons x (.cons y .nil)))
  | _, _ => none
def isRange : Ex → Option (List Ex)
  | .Call (.Name s _) xs [] _ => match cc.glob s with
    | some (.bi 12) => some xs
    | _ => none
  | _ => none
def cBi1 (b : Nat) (a : Ex) : Option E := match b, isRange cc a with
  | 8, some [x] => cUn F cc .lrg1 x
  | 8, some [x, y] => cBin F cc .lrg2 x y
  | 8, some _ => none
  | 9, some _ => none
  | _, _ => match biOp b 1 with
    | some o => cUn F cc o a
    | none => none
def cCallB (b : Nat) : List Ex → Option E
  | [a] => cBi1 F cc b a
  | [a, t] => if b = 16 then (match F cc a, cTypes cc t with
      | some x, some ts => some (.op (.isi ts) (.cons x .nil))
      | _, _ => none) else match biOp b 2 with
    | some o => cBin F cc o a t
    | none => none
  | _ => none
def cIo (k : Nat) : List Ex → Option E
  | .Name x _ :: rest => match cc.slot x, cEs F cc rest with
    | some i, some a => some (.io k i a)
    | _, _ => none
  | _ => none
def cCallN (f : Str) (args : List Ex) : Option E := match cc.glob f with
    | some (.fn k) => if cc.ioF k = true then cIo F cc k args else (cEs F cc args).map fun a => .call k a
    | some (.bi b) => cCallB F cc b args
    | _ => none
def cMeth (o : Ex) (m : Str) (args : List Ex) (ok : Bool) : Option E := if ok = true ∧ noSup o = true ∧ args.length < 20 then (
  match mtOp m args.length, F cc o, cEs F cc args with
  | some op, some x, some a => some (.meth op x a)
  | _, _, _ => none) else none
def cIb (b : Nat) (args : List Ex) : Option (IK × E) := match args with
  | [x] => if b = 12 then (cEs F cc [x]).map fun a => (.rg1, a) else if b = 13 then (cEs F cc [x]).map fun a => (.enum, a) else none
  | [x, y] => if b = 12 then (cEs F cc [x, y]).map fun a => (.rg2, a) else if b = 14 then (cEs F cc [x, y]).map fun a => (.zip2, a) else none
  | _ => none
def isIb (b : Nat) : Bool := b == 12 || b == 13 || b == 14
def cIName (f : Str) (args : List Ex) (e : Ex) : Option (IK × E) := match cc.glob f with
  | some (.bi b) => if isIb b = true then cIb F cc b args else (F cc e).map fun x => (.seq, .cons x .nil)
  | _ => (F cc e).map fun x => (.seq, .cons x .nil)
def cI (e : Ex) : Option (IK × E) := match e with
  | .Call (.Name f _) args [] _ => cIName F cc f args e
  | _ => (F cc e).map fun x => (.seq, .cons x .nil)
def tIn (t : T) (own : List Nat) : Bool := match t with
  | .nm i => own.contains i
  | .tu is => is.all own.contains
def tSlots : T → List Nat
  | .nm i => [i]
  | .tu is => is
def cComp1 (scope : Scope) (elt tg it : Ex) (ifs : List Ex) : Option E :=
  match blkOkB cc scope, cI F cc it, cTarget (cc.blk scope) tg, cIfs F (cc.blk scope) ifs, F (cc.blk scope) elt with
  | true, some (k, src), some t, some tst, some e => if tIn t ((ownOf cc.N scope).map (·.2)) = true ∧ pairOk k t = true then some (.comp ((ownOf cc.N scope).map (·.2)) t k src tst e) else none
  | _, _, _, _, _ => none
def cComp2 (scope : Scope) (elt tg it : Ex) (ifs : List Ex) (tg1 it1 : Ex) (ifs1 : List Ex) : Option E :=
  match blkOkB cc scope, cI F cc it, cTarget (cc.blk scope) tg, cIfs F (cc.blk scope) ifs, cI F (cc.blk scope) it1 with
  | true, some (k, src), some t, some tst, some (k1, src1) => match cTarget (cc.blk scope) tg1, cIfs F (cc.blk scope) ifs1, F (cc.blk scope) elt with
    | some t1, some tst1, some e => if tIn t ((ownOf cc.N scope).map (·.2)) = true ∧ tIn t1 ((ownOf cc.N scope).map (·.2)) = true ∧ pairOk k t = true ∧ pairOk k1 t1 = true then some (.comp2 ((ownOf cc.N scope).map (·.2)) (tSlots t1) t k src tst t1 k1 src1 tst1 e) else none
    | _, _, _ => none
  | _, _, _, _, _ => none
def cComp (scope : Scope) (elt : Ex) : List Comprehension → Option E
  | [⟨tg, it, ifs, 0⟩] => cComp1 F cc scope elt tg it ifs
  | [⟨tg, it, ifs, 0⟩, ⟨tg1, it1, ifs1, 0⟩] => cComp2 F cc scope elt tg it ifs tg1 it1 ifs1
  | _ => none
def isNone : Ex → Bool
  | .Constant .none _ _ => true
  | _ => false
def cCmp1 (a : Ex) (o : PySem.CmpOp) (b : Ex) : Option E := match o with
  | .Is => if isNone b then cUn F cc .isn a else none
  | .IsNot => if isNone b then cUn F cc .isnn a else none
  | _ => match cmpO o with
    | some o => if noSet b = true then cBin F cc o a b else none
    | none => none
def cmpL : PySem.CmpOp → Option Op
  | .Lt => some .lt | .LtE => some .le | .Gt => some .gt | .GtE => some .ge
  | _ => none
def cCmp2 (a : Ex) (o1 o2 : PySem.CmpOp) (b c : Ex) : Option E := match cmpL o1, cmpL o2, F cc a, F cc b, F cc c with
  | some o1, some o2, some x, some y, some z => some (.chain o1 o2 x y z)
  | _, _, _, _, _ => none
def cCmp (a : Ex) : List PySem.CmpOp → List Ex → Option E
  | [o], [b] => cCmp1 F cc a o b
  | [o1, o2], [b, c] => cCmp2 F cc a o1 o2 b c
  | _, _ => none
def isM1 : Ex → Bool
  | .UnaryOp .USub (.Constant (.int 1) _ _) _ => true
  | _ => false
def cSlice (v : Ex) (lo hi st : Option Ex) : Option E := match st with
  | none => match lo, hi with
    | some l, some h => match F cc v, F cc l, F cc h with
      | some x, some a, some b => some (.cut2 x a b)
      | _, _, _ => none
    | some l, none => cBin F cc (.cut true false) v l
    | none, some h => cBin F cc (.cut false true) v h
    | none, none => cUn F cc (.cut false false) v
  | some s => if isM1 s && lo.isNone && hi.isNone then cUn F cc .rev v else none
def cSub (v i : Ex) : Option E := match i with
  | .Slice lo hi st _ => cSlice F cc v lo hi st
  | _ => cBin F cc .ix v i
def cName (x : Str) : Option E := match cc.slot x with
  | some i => some (.var i)
  | none => match cc.glob x with
    | some (.cst d) => some (.cst d)
    | some (.fn k) => some (.cst (.fn k))
    | _ => none
def cE1 : Ex → Option E
  | .Name x _ => cName cc x
  | .Constant c _ _ => (constD c).map E.cst
  | .BinOp a o b _ => match binO o with
    | some o => cBin F cc o a b
    | none => none
  | .UnaryOp o a _ => match o with
    | .USub => cUn F cc .neg a
    | .Not => (F cc a).map E.not
    | _ => none
  | .BoolOp o es _ => cBool F cc o es
  | .IfExp c a b _ => match cT F cc c, F cc a, F cc b with
    | some x, some y, some z => some (.ite x y z)
    | _, _, _ => none
  | .Compare a os bs _ => cCmp F cc a os bs
  | .Tuple es _ _ => (cEs F cc es).map E.tup
  | .List es _ => (cEs F cc es).map E.lst
  | .Subscript v i _ => cSub F cc v i
  | .Call (.Name f _) args [] _ => cCallN F cc f args
  | .Call (.Attribute o m ap) args [] cp => cMeth F cc o m args (ap.endLine == cp.line)
  | .ListComp elt gens scope _ => cComp F cc scope elt gens
  | _ => none
end
def cE : Nat → CC → Ex → Option E
  | 0, _, _ => none
  | n + 1, cc, e => cE1 (cE n) cc e

section
variable (F : CC → Ex → Option E) (G : CC → Stmt → S) (cc : CC)
def cSs : List Stmt → S
  | [] => .nop
  | [s] => G cc s
  | s :: r => .seq (G cc s) (cSs r)
def cExprS (e : Ex) : Option S := match e with
  | .Call (.Attribute (.Name x _) m ap) [a] [] cp => match cc.slot x with
    | some i => if (ap.endLine == cp.line) = true then (if (m == ("append" : Str)) = true then (F cc a).map (S.append i) else if (m == ("extend" : Str)) = true then (F cc a).map (S.extend i) else none) else none
    | none => none
  | .Constant (.str _) _ _ => some .nop
  | .Call _ _ _ _ => (F cc e).map S.expr
  | _ => none
def nodupN : List Nat → Bool
  | [] => true
  | x :: r => !(r.any fun y => x == y) && nodupN r
def parNames (sc : Scope) (l : Nat) : List Ex → Option (List Str)
  | [] => some []
  | .Name x p :: r => if sc.names.lookup x == some .local && p.line == l then (parNames sc l r).map fun y => x :: y else none
  | _ => none
def lineOf (ts : List Ex) : Nat := (ts.head?.map fun (e : Ex) => e.pos.line).getD 0
def parHow (sc : Scope) (ts vs : List Ex) : Nat :=
  if !(ts.length == 2 || ts.length == 3) || vs.length != ts.length then 0 else match parNames sc (lineOf ts) ts with
  | none => 0
  | some ns => if ns.eraseDups.length != ns.length then 0 else if vs.all (PySem.foldedForSure 8) then 0 else if vs.all (PySem.constantsAlone 8) then 2 else 1
def noStar : Ex → Bool
  | .Starred .. => false
  | _ => true
def noSlc : Ex → Bool
  | .Slice _ _ _ _ => false
  | _ => true
def swOk : Ex → Bool
  | .SetComp .. => false
  | .DictComp .. => false
  | _ => true
def cTup (es : List Ex) (is : List Nat) (v : Ex) : Option S := match v with
  | .Tuple vs _ _ => if (vs.all noStar) = true then (match parHow cc.sc es vs with
    | 0 => (F cc v).map (S.unp (.tu is))
    | 1 => if nodupN is = true then (cEs F cc vs).map (S.par is) else none
    | _ => none) else none
  | _ => (F cc v).map (S.unp (.tu is))
def cAssign (tg v : Ex) : Option S := match tg with
  | .Name x _ => match cc.dest x, (if swOk v = true then F cc v else none) with
    | some i, some e => some (.asg i e)
    | _, _ => none
  | .Tuple es _ _ => match cNames cc.dest es with
    | some is => cTup F cc es is v
    | none => none
  | .Subscript (.Name x _) k _ => if noSlc k = true then (match cc.slot x, F cc k, F cc v with
    | some i, some k, some e => some (.seti i k e)
    | _, _, _ => none) else none
  | _ => none
def cS1 : Stmt → Option S
  | .Expr e _ => cExprS F cc e
  | .Assign [tg] v _ => cAssign F cc tg v
  | .Return (some e) _ => (F cc e).map S.ret
  | .Return none _ => some (.ret (.cst .non))
  | .If c a b _ => (cT F cc c).map fun x => .ite x (cSs G cc a) (cSs G cc b)
  | .For tg it body [] _ => match cTarget cc tg, cI F cc it with
    | some t, some (k, src) => if pairOk k t = true then some (.for t k src (cSs G cc body)) else none
    | _, _ => none
  | .While c body [] _ => (cT F cc c).map fun x => .while x (cSs G cc body)
  | .Break _ => some .brk
  | .Continue _ => some .cnt
  | .Pass _ => some .nop
  | _ => none
end
def cS (m : Nat) : Nat → CC → Stmt → S
  | 0, _, _ => .nev
  | n + 1, cc, s => (cS1 (cE m) (cS m n) cc s).getD .nev
end Ev
end
section
set_option linter.all false
set_option maxRecDepth 100000
namespace Ev
open PySem PySem.Spec PyProof.Rows L2

def SqD (K : PySem.W.Frag) (H : Hp) (a : Addr) (xs : List V) : Prop :=
  (∃ o, H a = some (.frz o (.tup xs)) ∧ o.dict = none) ∨
    ∃ (o : Obj) (its : Array Value) (n : Nat), K.lookup a = some o ∧ o.cls = .type "tuple" ∧ o.dict = none ∧ o.data = .seq its n ∧ its.size ≤ sizeLine ∧ Vals xs its.toList
theorem SqD.seqT {K : PySem.W.Frag} {H : Hp} {a : Addr} {xs : List V} (h : SqD K H a xs) : SqT K H a xs :=
  h.imp (fun ⟨o, e, _⟩ => .inr ⟨o, e⟩) fun ⟨o, its, n, h1, h2, _, h3⟩ => ⟨o, its, n, h1, h2, h3⟩
def exact : HO → Bool
  | .lst _ => true
  | .frz _ (.tup _) => true
  | _ => false
mutual
inductive Dg (fa : Nat → Addr) (K : PySem.W.Frag) (G : Hp) : V → D → Prop
  | non : Dg fa K G .non .non
  | bl (b : Bool) : Dg fa K G (.bl b) (.bl b)
  | int (i : Int) : Dg fa K G (.int i) (.int i)
  | str (x : Str) : Dg fa K G (.str x) (.str x)
  | tup {a : Addr} {vs : List V} {ds : List D} : SqD K G a vs → DgAll fa K G vs ds → Dg fa K G (.ref a) (.tup ds)
  | lst {a : Addr} {vs : List V} {ds : List D} : G a = some (.lst vs) → DgAll fa K G vs ds → Dg fa K G (.ref a) (.lst ds)
  | ro {a : Addr} {ns : List Int} : SqL K G a (ns.map V.int) → Dg fa K G (.ref a) (.ro ns)
  | fn (k : Nat) : Dg fa K G (.ref (fa k)) (.fn k)
  | dic {a : Addr} {ws : List (List Key × V)} {kvs : List (List Int × D)} : Rd G a (.dT ws) → DgKV fa K G ws kvs → Dg fa K G (.ref a) (.dic kvs)
inductive DgAll (fa : Nat → Addr) (K : PySem.W.Frag) (G : Hp) : List V → List D → Prop
  | nil : DgAll fa K G [] []
  | cons {v : V} {vs : List V} {d : D} {ds : List D} : Dg fa K G v d → DgAll fa K G vs ds → DgAll fa K G (v :: vs) (d :: ds)
inductive DgKV (fa : Nat → Addr) (K : PySem.W.Frag) (G : Hp) : List (List Key × V) → List (List Int × D) → Prop
  | nil : DgKV fa K G [] []
  | cons {k : List Int} {v : V} {vs : List (List Key × V)} {d : D} {ds : List (List Int × D)} : Dg fa K G v d → DgKV fa K G vs ds → DgKV fa K G ((k.map Sum.inl, v) :: vs) ((k, d) :: ds)
end

structure Sup (G H : Hp) : Prop where
  ex : ∀ a u, exact u = true → G a = some u → H a = some u
  rd : ∀ a u, Rd G a u → Rd H a u
theorem Sup.lst {G H : Hp} (s : Sup G H) (a : Addr) (xs : List V) (h : G a = some (.lst xs)) : H a = some (.lst xs) := s.ex a _ rfl h
theorem Sup.refl (G : Hp) : Sup G G := ⟨fun _ _ _ h => h, fun _ _ h => h⟩
theorem Sup.trans {G H J : Hp} (a : Sup G H) (b : Sup H J) : Sup G J := ⟨fun c u e h => b.ex c u e (a.ex c u e h), fun c u h => b.rd c u (a.rd c u h)⟩
theorem Sup.of {G H : Hp} (s : Same G H) : Sup G H := ⟨fun c u _ h => s c _ h, fun c u h => h.imp (s c _) fun ⟨o, q⟩ => ⟨o, s c _ q⟩⟩
theorem Sup.seqD {K : PySem.W.Frag} {G H : Hp} {a : Addr} {xs : List V} (s : Sup G H) (h : SqD K G a xs) : SqD K H a xs := h.imp (fun ⟨o, e, d⟩ => ⟨o, s.ex a _ rfl e, d⟩) id
theorem Sup.seqT {K : PySem.W.Frag} {G H : Hp} {a : Addr} {xs : List V} (s : Sup G H) (h : SqT K G a xs) : SqT K H a xs := h.imp (s.rd a _) id
theorem Sup.seqL {K : PySem.W.Frag} {G H : Hp} {a : Addr} {xs : List V} (s : Sup G H) (h : SqL K G a xs) : SqL K H a xs := h.imp (s.rd a _) id
section
variable {fa : Nat → Addr} {K : PySem.W.Frag} {G H : Hp}
mutual
theorem Dg.mono (s : Sup G H) : ∀ {v : V} {d : D}, Dg fa K G v d → Dg fa K H v d
  | _, _, .non => .non
  | _, _, .bl b => .bl b
  | _, _, .int b => .int b
  | _, _, .str b => .str b
  | _, _, .tup h r => .tup (s.seqD h) (DgAll.mono s r)
  | _, _, .lst h r => .lst (s.lst _ _ h) (DgAll.mono s r)
  | _, _, .ro h => .ro (s.seqL h)
  | _, _, .fn k => .fn k
  | _, _, .dic h r => .dic (s.rd _ _ h) (DgKV.mono s r)
theorem DgAll.mono (s : Sup G H) : ∀ {vs : List V} {ds : List D}, DgAll fa K G vs ds → DgAll fa K H vs ds
  | _, _, .nil => .nil
  | _, _, .cons h r => .cons (Dg.mono s h) (DgAll.mono s r)
theorem DgKV.mono (s : Sup G H) : ∀ {vs : List (List Key × V)} {ds : List (List Int × D)}, DgKV fa K G vs ds → DgKV fa K H vs ds
  | _, _, .nil => .nil
  | _, _, .cons h r => .cons (Dg.mono s h) (DgKV.mono s r)
end
theorem DgAll.length : ∀ {vs : List V} {ds : List D}, DgAll fa K G vs ds → vs.length = ds.length
  | _, _, .nil => rfl
  | _, _, .cons _ r => congrArg Nat.succ (DgAll.length r)
theorem DgAll.get : ∀ {vs : List V} {ds : List D} {i : Nat} {d : D}, DgAll fa K G vs ds → ds[i]? = some d → ∃ v, vs[i]? = some v ∧ Dg fa K G v d
  | _, _, _, _, .nil, e => by simp at e
  | _, _, 0, _, .cons h _, e => by simp at e; subst e; exact ⟨_, rfl, h⟩
  | _, _, i + 1, d, .cons _ r, e => by
    obtain ⟨v, h1, h2⟩ := DgAll.get (i := i) (d := d) r (by simpa using e)
    exact ⟨v, by simpa using h1, h2⟩
theorem DgAll.getV : ∀ {vs : List V} {ds : List D} {i : Nat} {v : V}, DgAll fa K G vs ds → vs[i]? = some v → ∃ d, ds[i]? = some d ∧ Dg fa K G v d
  | _, _, _, _, .nil, e => by simp at e
  | _, _, 0, _, .cons h _, e => by simp at e; subst e; exact ⟨_, rfl, h⟩
  | _, _, i + 1, d, .cons _ r, e => by
    obtain ⟨v, h1, h2⟩ := DgAll.getV (i := i) (v := d) r (by simpa using e)
    exact ⟨v, by simpa using h1, h2⟩
theorem DgAll.append : ∀ {vs ws : List V} {ds es : List D}, DgAll fa K G vs ds → DgAll fa K G ws es → DgAll fa K G (vs ++ ws) (ds ++ es)
  | _, _, _, _, .nil, s => s
  | _, _, _, _, .cons r t, s => .cons r (DgAll.append t s)
theorem DgAll.take : ∀ {vs : List V} {ds : List D} (n : Nat), DgAll fa K G vs ds → DgAll fa K G (vs.take n) (ds.take n)
  | _, _, 0, _ => .nil
  | _, _, _ + 1, .nil => .nil
  | _, _, n + 1, .cons r t => .cons r (DgAll.take n t)
theorem DgAll.drop : ∀ {vs : List V} {ds : List D} (n : Nat), DgAll fa K G vs ds → DgAll fa K G (vs.drop n) (ds.drop n)
  | _, _, 0, r => r
  | _, _, _ + 1, .nil => .nil
  | _, _, n + 1, .cons _ t => DgAll.drop n t
theorem DgAll.set {v : V} {d : D} (h : Dg fa K G v d) : ∀ {vs : List V} {ds : List D} (n : Nat), DgAll fa K G vs ds → DgAll fa K G (vs.set n v) (ds.set n d)
  | _, _, _, .nil => .nil
  | _, _, 0, .cons _ t => .cons h t
  | _, _, n + 1, .cons r t => .cons r (DgAll.set h n t)
theorem DgAll.eraseIdx : ∀ {vs : List V} {ds : List D} (n : Nat), DgAll fa K G vs ds → DgAll fa K G (vs.eraseIdx n) (ds.eraseIdx n)
  | _, _, _, .nil => .nil
  | _, _, 0, .cons _ t => t
  | _, _, n + 1, .cons r t => .cons r (DgAll.eraseIdx n t)
theorem DgAll.reverse : ∀ {vs : List V} {ds : List D}, DgAll fa K G vs ds → DgAll fa K G vs.reverse ds.reverse
  | _, _, .nil => .nil
  | _, _, .cons r t => by rw [List.reverse_cons, List.reverse_cons]; exact (DgAll.reverse t).append (.cons r .nil)
theorem DgAll.rep {vs : List V} {ds : List D} (h : DgAll fa K G vs ds) : ∀ n : Nat, DgAll fa K G (List.replicate n vs).flatten (List.replicate n ds).flatten
  | 0 => .nil
  | n + 1 => by rw [List.replicate_succ, List.replicate_succ, List.flatten_cons, List.flatten_cons]; exact h.append (DgAll.rep h n)
theorem DgAll.ints : ∀ {vs : List V} {ds : List D} {l : List Int}, DgAll fa K G vs ds → intsOf ds = some l → vs = l.map V.int
  | _, _, _, .nil, e => by cases e; rfl
  | _, _, _, .cons (d := d) (ds := ds) h r, e => by
    cases h with
    | int i =>
      cases q : intsOf ds with
      | none => rw [intsOf, q] at e; cases e
      | some l' => rw [intsOf, q] at e; cases e; rw [DgAll.ints r q]; rfl
    | _ => cases e
theorem DgAll.bls : ∀ {vs : List V} {ds : List D} {l : List Bool}, DgAll fa K G vs ds → blsOf ds = some l → vs = l.map V.bl
  | _, _, _, .nil, e => by cases e; rfl
  | _, _, _, .cons (d := d) (ds := ds) h r, e => by
    cases h with
    | bl i =>
      cases q : blsOf ds with
      | none => rw [blsOf, q] at e; cases e
      | some l' => rw [blsOf, q] at e; cases e; rw [DgAll.bls r q]; rfl
    | _ => cases e
theorem DgAll.strs : ∀ {vs : List V} {ds : List D} {l : List Str}, DgAll fa K G vs ds → strsOf ds = some l → vs = l.map V.str
  | _, _, _, .nil, e => by cases e; rfl
  | _, _, _, .cons (d := d) (ds := ds) h r, e => by
    cases h with
    | str i =>
      cases q : strsOf ds with
      | none => rw [strsOf, q] at e; cases e
      | some l' => rw [strsOf, q] at e; cases e; rw [DgAll.strs r q]; rfl
    | _ => cases e
theorem DgAll.ofInts : ∀ l : List Int, DgAll fa K G (l.map V.int) (l.map D.int)
  | [] => .nil
  | i :: r => .cons (.int i) (DgAll.ofInts r)
theorem Dg.scalar {v : V} {d : D} (h : Dg fa K G v d) (s : scalar d = true) {G' : Hp} : Dg fa K G' v d := by
  cases h with
  | non => exact .non
  | bl b => exact .bl b
  | int b => exact .int b
  | str b => exact .str b
  | _ => cases s
end
end Ev
end
section
set_option linter.all false
set_option maxRecDepth 100000
namespace Ev
open PySem PySem.Spec PyProof.Rows L2

structure Ext (F G G' : Hp) : Prop where
  sup : Sup G G'
  new : ∀ b, F b ≠ none → G b = none → G' b = none
theorem Ext.refl (F G : Hp) : Ext F G G := ⟨.refl G, fun _ _ h => h⟩
theorem Ext.trans {F G G1 G2 : Hp} (a : Ext F G G1) (b : Ext F G1 G2) : Ext F G G2 :=
  ⟨a.sup.trans b.sup, fun c h q => b.new c h (a.new c h q)⟩
structure Grow (G H G' H' : Hp) : Prop where
  same : Same H H'
  sup : Sup G G'
  gh : Sup G' H'
  new : ∀ b, H b ≠ none → G b = none → G' b = none
theorem Grow.refl {G H : Hp} (g : Sup G H) : Grow G H G H := ⟨.refl H, .refl G, g, fun _ _ h => h⟩
theorem Grow.ext {F G H G' H' : Hp} (x : Grow G H G' H') (f : Same F H) : Ext F G G' := ⟨x.sup, fun b h q => x.new b (fun z => by
  cases e : F b with
  | none => exact h e
  | some u => rw [f b u e] at z; cases z) q⟩

def Is (fa : Nat → Addr) (K : PySem.W.Frag) (G H : Hp) (a : Addr) : D → Prop
  | .lst ds => ∃ vs, H a = some (.lst vs) ∧ DgAll fa K G vs ds
  | .dic kvs => ∃ ws, H a = some (.dT ws) ∧ DgKV fa K G ws kvs
  | _ => False
def Free (F G : Hp) (a : Addr) : Prop := F a = none ∧ G a = none
theorem Is.mono {fa : Nat → Addr} {K : PySem.W.Frag} {G G' H H' : Hp} {a : Addr} {d : D} (h : Is fa K G H a d) (s : Sup G G') (e : ∀ o, H a = some o → H' a = some o) : Is fa K G' H' a d := by
  cases d with
  | lst ds => obtain ⟨vs, h1, h2⟩ := h; exact ⟨vs, e _ h1, h2.mono s⟩
  | dic kvs => obtain ⟨vs, h1, h2⟩ := h; exact ⟨vs, e _ h1, h2.mono s⟩
  | _ => exact h.elim
theorem Is.there {fa : Nat → Addr} {K : PySem.W.Frag} {G H : Hp} {a : Addr} {d : D} (h : Is fa K G H a d) : H a ≠ none := by
  cases d with
  | lst ds => obtain ⟨vs, h1, h2⟩ := h; rw [h1]; simp
  | dic kvs => obtain ⟨vs, h1, h2⟩ := h; rw [h1]; simp
  | _ => exact h.elim
theorem Is.dg {fa : Nat → Addr} {K : PySem.W.Frag} {G H : Hp} {a : Addr} {d : D} (h : Is fa K G H a d) (e : ∀ o, H a = some o → G a = some o) : Dg fa K G (.ref a) d := by
  cases d with
  | lst ds => obtain ⟨vs, h1, h2⟩ := h; exact .lst (e _ h1) h2
  | dic kvs => obtain ⟨vs, h1, h2⟩ := h; exact .dic (.inl (e _ h1)) h2
  | _ => exact h.elim

structure Rel (fa : Nat → Addr) (K : PySem.W.Frag) (F G : Hp) (io : Option Addr) (env : Env) (σ : L2.St) (H : Hp) : Prop where
  len : env.length ≤ σ.length
  gh : Sup G H
  fh : Same F H
  fz : ∀ i d, env.at i = .fz d → ∃ v, σ[i]? = some (some v) ∧ Dg fa K G v d
  own : ∀ i, (env.at i).own = true → ∃ a, σ[i]? = some (some (.ref a)) ∧ Is fa K G H a (env.at i).d ∧ Free F G a
  sep : ∀ i j a, (env.at i).own = true → (env.at j).own = true → σ[i]? = some (some (.ref a)) → σ[j]? = some (some (.ref a)) → i = j
  io : ∀ a, io = some a → (env.at 0).own = true → σ[0]? = some (some (.ref a))

def Vw (fa : Nat → Addr) (K : PySem.W.Frag) (G H : Hp) (v : V) (d : D) : Prop := Dg fa K G v d ∨ ∃ a, v = .ref a ∧ Is fa K G H a d
def NoOwn (env : Env) (σ : L2.St) (a : Addr) : Prop := ∀ j, (env.at j).own = true → σ[j]? ≠ some (some (.ref a))
def OR (fa : Nat → Addr) (K : PySem.W.Frag) (F G : Hp) (env : Env) (σ : L2.St) (H : Hp) : O → V → Prop
  | .fz d, v => Dg fa K G v d
  | .fr d, v => ∃ a, v = .ref a ∧ Is fa K G H a d ∧ Free F G a ∧ NoOwn env σ a
  | .sl i, v => σ[i]? = some (some v)
def plus (F H : Hp) : O → V → Hp
  | .fr _, .ref a => fun b => if b = a then H b else F b
  | _, _ => F
def ORs (fa : Nat → Addr) (K : PySem.W.Frag) (G : Hp) (env : Env) (σ : L2.St) (H : Hp) : Hp → List O → List V → Prop
  | _, [], [] => True
  | F, o :: os, v :: vs => OR fa K F G env σ H o v ∧ ORs fa K G env σ H (plus F H o v) os vs
  | _, _, _ => False
section
variable {fa : Nat → Addr} {K : PySem.W.Frag} {F F' G G' H H' : Hp} {io : Option Addr} {env env' : Env} {σ : L2.St}

theorem Env.at_set (env : Env) (i j : Nat) (s : Sl) : (Env.at (env.set i s) j) = if i = j then (if i < env.length then s else .no) else env.at j := by
  unfold Env.at
  rw [List.getD_eq_getElem?_getD, List.getD_eq_getElem?_getD, List.getElem?_set]
  by_cases h : i = j
  · subst h
    by_cases h2 : i < env.length
    · simp [h2]
    · simp [h2]
  · simp [h]
theorem Env.at_lt {env : Env} {i : Nat} (h : env.at i ≠ .no) : i < env.length := by
  unfold Env.at at h
  by_cases h2 : i < env.length
  · exact h2
  · rw [List.getD_eq_getElem?_getD, List.getElem?_eq_none (by omega)] at h
    exact absurd rfl h

theorem Rel.frame (r : Rel fa K F G io env σ H) {o : O} {v : V} (h : OR fa K F G env σ H o v) : Rel fa K (plus F H o v) G io env σ H := by
  cases o with
  | fr d =>
    obtain ⟨a, rfl, h1, h2, h3⟩ := h
    refine ⟨r.len, r.gh, fun b u e => ?_, r.fz, fun i hi => ?_, r.sep, r.io⟩
    · have e' : (if b = a then H b else F b) = some u := e
      by_cases hb : b = a
      · rw [if_pos hb] at e'; exact e'
      · rw [if_neg hb] at e'; exact r.fh b u e'
    · obtain ⟨c, q1, q2, q3⟩ := r.own i hi
      refine ⟨c, q1, q2, ?_, q3.2⟩
      show (if c = a then H c else F c) = none
      rw [if_neg fun z => h3 i hi (by rw [q1, z])]
      exact q3.1
  | fz d => exact r
  | sl i => exact r
theorem Rel.unframe {o : O} {v : V} (r : Rel fa K (plus F H o v) G io env σ H') (h : OR fa K F G' env' σ H o v) : Rel fa K F G io env σ H' := by
  cases o with
  | fr d =>
    obtain ⟨a, rfl, h1, h2, h3⟩ := h
    refine ⟨r.len, r.gh, fun b u e => r.fh b u ?_, r.fz, fun i hi => ?_, r.sep, r.io⟩
    · show (if b = a then H b else F b) = some u
      rw [if_neg fun z => by rw [z, h2.1] at e; cases e]
      exact e
    · obtain ⟨c, q1, q2, q3⟩ := r.own i hi
      refine ⟨c, q1, q2, ?_, q3.2⟩
      have q4 : (if c = a then H c else F c) = none := q3.1
      by_cases hc : c = a
      · rw [hc]; exact h2.1
      · rw [if_neg hc] at q4; exact q4
  | fz d => exact r
  | sl i => exact r
theorem OR.keep {o : O} {v : V} (h : OR fa K F G env σ H o v) (r : Rel fa K (plus F H o v) G' io env' σ H') (x : Ext (plus F H o v) G G') : OR fa K F G' env' σ H' o v := by
  cases o with
  | fr d =>
    obtain ⟨a, rfl, h1, h2, h3⟩ := h
    have k : ∀ u, H a = some u → H' a = some u := fun u e => r.fh a u (by show (if a = a then H a else F a) = some u; rw [if_pos rfl]; exact e)
    refine ⟨a, rfl, h1.mono x.sup k, ⟨h2.1, x.new a (by show (if a = a then H a else F a) ≠ none; rw [if_pos rfl]; exact h1.there) h2.2⟩, fun j hj e => ?_⟩
    obtain ⟨c, q1, q2, q3⟩ := r.own j hj
    rw [e] at q1
    cases q1
    have q4 : (if a = a then H a else F a) = none := q3.1
    rw [if_pos rfl] at q4
    exact h1.there q4
  | fz d => exact Dg.mono x.sup h
  | sl i => exact h
theorem ORs.imp : ∀ {os : List O} {vs : List V} {F F' : Hp}, (∀ a, F' a = none → F a = none) → ORs fa K G env σ H F' os vs → ORs fa K G env σ H F os vs
  | [], [], _, _, _, _ => trivial
  | [], _ :: _, _, _, _, h => h.elim
  | _ :: _, [], _, _, _, h => h.elim
  | o :: os, v :: vs, F, F', k, ⟨h1, h2⟩ => by
    refine ⟨?_, ORs.imp (fun a e => ?_) h2⟩
    · cases o with
      | fr d => obtain ⟨a, e, q1, q2, q3⟩ := h1; exact ⟨a, e, q1, ⟨k a q2.1, q2.2⟩, q3⟩
      | fz d => exact h1
      | sl i => exact h1
    · cases o with
      | fr d =>
        obtain ⟨c, rfl, q1, q2, q3⟩ := h1
        have e' : (if a = c then H a else F' a) = none := e
        show (if a = c then H a else F a) = none
        by_cases hc : a = c
        · rw [if_pos hc] at e' ⊢; exact e'
        · rw [if_neg hc] at e' ⊢; exact k a e'
      | fz d => exact k a e
      | sl i => exact k a e
theorem ORs.length : ∀ {os : List O} {vs : List V} {F : Hp}, ORs fa K G env σ H F os vs → os.length = vs.length
  | [], [], _, _ => rfl
  | [], _ :: _, _, h => h.elim
  | _ :: _, [], _, h => h.elim
  | _ :: os, _ :: vs, _, h => congrArg Nat.succ (ORs.length h.2)
theorem ORs.append : ∀ {os os' : List O} {vs vs' : List V} {F : Hp} {o : O} {v : V}, OR fa K F G env σ H o v → ORs fa K G env σ H (plus F H o v) os vs → ORs fa K G env σ H F (o :: os) (v :: vs) := fun h1 h2 => ⟨h1, h2⟩

theorem Rel.view (r : Rel fa K F G io env σ H) {o : O} {v : V} (h : OR fa K F G env σ H o v) (hs : ∀ i, o = .sl i → env.at i ≠ .no) : Vw fa K G H v (o.view env) := by
  cases o with
  | fz d => exact .inl h
  | fr d => obtain ⟨a, rfl, h1, _⟩ := h; exact .inr ⟨a, rfl, h1⟩
  | sl i =>
    show Vw fa K G H v (env.at i).d
    cases q : (env.at i).own with
    | true =>
      obtain ⟨a, q1, q2, q3⟩ := r.own i q
      have e : σ[i]? = some (some v) := h
      rw [q1] at e
      cases e
      exact .inr ⟨a, rfl, q2⟩
    | false =>
      cases q2 : env.at i with
      | no => exact absurd q2 (hs i rfl)
      | fz d =>
        obtain ⟨u, q3, q4⟩ := r.fz i d q2
        have e : σ[i]? = some (some v) := h
        rw [q3] at e
        cases e
        exact .inl q4
      | ow ds => rw [q2] at q; cases q
      | od ds => rw [q2] at q; cases q

theorem Rel.ext (r : Rel fa K F G io env σ H) (x : Grow G H G' H') : Rel fa K F G' io env σ H' := by
  have s := x.same
  refine ⟨r.len, x.gh, fun a u e => s a u (r.fh a u e), fun i d e => ?_, fun i e => ?_, r.sep, r.io⟩
  · obtain ⟨v, h1, h2⟩ := r.fz i d e
    exact ⟨v, h1, h2.mono x.sup⟩
  · obtain ⟨a, h1, h2, h3⟩ := r.own i e
    exact ⟨a, h1, h2.mono x.sup (fun u q => s a u q), h3.1, x.new a h2.there h3.2⟩
theorem OR.ext {o : O} {v : V} (h : OR fa K F G env σ H o v) (x : Grow G H G' H') : OR fa K F G' env σ H' o v := by
  have s := x.same
  cases o with
  | fr d =>
    obtain ⟨a, rfl, h1, h2, h3⟩ := h
    exact ⟨a, rfl, h1.mono x.sup (fun u q => s a u q), ⟨h2.1, x.new a h1.there h2.2⟩, h3⟩
  | fz d => exact Dg.mono x.sup h
  | sl i => exact h

def giv (G H : Hp) (a : Addr) : Hp := fun b => if b = a then H b else G b
theorem Sup.giv (g : Sup G H) {a : Addr} (h : G a = none) : Sup G (giv G H a) ∧ Sup (giv G H a) H := by
  refine ⟨.of fun b u e => ?_, ⟨fun b xs hx e => ?_, fun b u e => ?_⟩⟩
  · show (if b = a then H b else G b) = some u
    rw [if_neg fun z => by rw [z, h] at e; cases e]
    exact e
  · have e' : (if b = a then H b else G b) = some xs := e
    by_cases hb : b = a
    · rw [if_pos hb] at e'; exact e'
    · rw [if_neg hb] at e'; exact g.ex b xs hx e'
  · by_cases hb : b = a
    · refine e.imp (fun q => ?_) fun ⟨o, q⟩ => ⟨o, ?_⟩
      · have q' : (if b = a then H b else G b) = some u := q
        rw [if_pos hb] at q'; exact q'
      · have q' : (if b = a then H b else G b) = some (.frz o u) := q
        rw [if_pos hb] at q'; exact q'
    · refine g.rd b u (e.imp (fun q => ?_) fun ⟨o, q⟩ => ⟨o, ?_⟩)
      · have q' : (if b = a then H b else G b) = some u := q
        rw [if_neg hb] at q'; exact q'
      · have q' : (if b = a then H b else G b) = some (.frz o u) := q
        rw [if_neg hb] at q'; exact q'
end
end Ev
end
section
set_option linter.all false
set_option maxRecDepth 100000
namespace Ev
open PySem PySem.Spec PyProof.Rows L2
section
variable {fa : Nat → Addr} {K : PySem.W.Frag} {F F' G G' H H' : Hp} {io : Option Addr} {env env' : Env} {σ : L2.St}

theorem Env.freeze_len (env : Env) (i : Nat) : (env.freeze i).length = env.length := by
  unfold Env.freeze; split <;> simp
theorem Env.freeze_at (env : Env) (i j : Nat) : (env.freeze i).at j = if i = j ∧ (env.at j).own = true then .fz (env.at j).d else env.at j := by
  unfold Env.freeze
  cases q : env.at i with
  | no => by_cases h : i = j
          · subst h; simp [q, Sl.own]
          · simp [h]
  | fz d => by_cases h : i = j
            · subst h; simp [q, Sl.own]
            · simp [h]
  | ow ds =>
    have hl : i < env.length := Env.at_lt (by rw [q]; simp)
    show Env.at (env.set i _) j = _
    rw [Env.at_set]
    by_cases h : i = j
    · subst h; simp [q, Sl.own, hl, Sl.d]
    · simp [h]
  | od ds =>
    have hl : i < env.length := Env.at_lt (by rw [q]; simp)
    show Env.at (env.set i _) j = _
    rw [Env.at_set]
    by_cases h : i = j
    · subst h; simp [q, Sl.own, hl, Sl.d]
    · simp [h]
theorem Env.freeze_d (env : Env) (i j : Nat) : ((env.freeze i).at j).d = (env.at j).d := by
  rw [Env.freeze_at]; split <;> rfl
theorem Env.freeze_no {env : Env} {i j : Nat} (h : env.at j ≠ .no) : (env.freeze i).at j ≠ .no := by
  rw [Env.freeze_at]; split
  · simp
  · exact h
theorem Env.freeze_own {env : Env} {i j : Nat} (h : ((env.freeze i).at j).own = true) : (env.at j).own = true := by
  rw [Env.freeze_at] at h
  split at h
  · cases h
  · exact h

theorem Rel.give (r : Rel fa K F G io env σ H) {a : Addr} (ha : Free F G a) (hn : NoOwn env σ a) : Rel fa K F (giv G H a) io env σ H ∧ Ext F G (giv G H a) := by
  obtain ⟨g1, g2⟩ := r.gh.giv ha.2
  refine ⟨⟨r.len, g2, r.fh, fun i d e => ?_, fun i hi => ?_, r.sep, r.io⟩, ⟨g1, fun b h q => ?_⟩⟩
  · obtain ⟨v, h1, h2⟩ := r.fz i d e
    exact ⟨v, h1, h2.mono g1⟩
  · obtain ⟨c, h1, h2, h3⟩ := r.own i hi
    refine ⟨c, h1, h2.mono g1 fun _ q => q, h3.1, ?_⟩
    show (if c = a then H c else G c) = none
    rw [if_neg fun z => hn i hi (by rw [h1, z])]
    exact h3.2
  · show (if b = a then H b else G b) = none
    rw [if_neg fun z => h (by rw [z]; exact ha.1)]
    exact q
theorem Rel.freeze (r : Rel fa K F G io env σ H) (i : Nat) : ∃ G', Rel fa K F G' io (env.freeze i) σ H ∧ Ext F G G' ∧
    (∀ b, G b = none → (∀ i, (env.at i).own = true → σ[i]? ≠ some (some (.ref b))) → G' b = none) := by
  cases q : (env.at i).own with
  | false =>
    refine ⟨G, ?_, .refl F G, fun b h _ => h⟩
    have e : env.freeze i = env := by
      unfold Env.freeze
      cases q2 : env.at i with
      | ow ds => rw [q2] at q; cases q
      | od ds => rw [q2] at q; cases q
      | _ => rfl
    rw [e]; exact r
  | true =>
    obtain ⟨a, h1, h2, h3⟩ := r.own i q
    obtain ⟨g1, g2⟩ := r.gh.giv h3.2
    refine ⟨giv G H a, ⟨by rw [Env.freeze_len]; exact r.len, g2, r.fh, fun j d e => ?_, fun j hj => ?_, fun j k c hj hk => r.sep j k c (Env.freeze_own hj) (Env.freeze_own hk), fun a e h => r.io a e (Env.freeze_own h)⟩, ⟨g1, fun b h q => ?_⟩, fun b h hb => ?_⟩
    · rw [Env.freeze_at] at e
      by_cases hc : i = j ∧ (env.at j).own = true
      · rw [if_pos hc] at e
        cases e
        obtain ⟨rfl, _⟩ := hc
        exact ⟨_, h1, (h2.mono g1 fun _ q => q).dg fun o q => by show (if a = a then H a else G a) = some o; rw [if_pos rfl]; exact q⟩
      · rw [if_neg hc] at e
        obtain ⟨v, q1, q2⟩ := r.fz j d e
        exact ⟨v, q1, q2.mono g1⟩
    · have hj' := Env.freeze_own hj
      obtain ⟨c, q1, q2, q3⟩ := r.own j hj'
      rw [Env.freeze_d]
      refine ⟨c, q1, q2.mono g1 fun _ q => q, q3.1, ?_⟩
      show (if c = a then H c else G c) = none
      rw [if_neg fun z => ?_]
      · exact q3.2
      · have : i = j := r.sep i j a q hj' h1 (by rw [q1, z])
        subst this
        rw [Env.freeze_at, if_pos ⟨rfl, q⟩] at hj
        cases hj
    · show (if b = a then H b else G b) = none
      rw [if_neg fun z => h (by rw [z]; exact h3.1)]
      exact q
    · show (if b = a then H b else G b) = none
      rw [if_neg fun z => hb i q (by rw [z]; exact h1)]
      exact h
theorem Rel.at (r : Rel fa K F G io env σ H) {i : Nat} {d : D} (h : env.at i = .fz d) {v : V} (e : σ[i]? = some (some v)) : Dg fa K G v d := by
  obtain ⟨u, h1, h2⟩ := r.fz i d h
  rw [e] at h1; cases h1; exact h2

theorem O.view_freeze (env : Env) (i : Nat) (o : O) : o.view (env.freeze i) = o.view env := by
  cases o with
  | sl j => exact Env.freeze_d env i j
  | _ => rfl
theorem freezeO_at : ∀ (os : List O) (env : Env) (j : Nat), ((freezeO env os).at j).d = (env.at j).d
  | [], _, _ => rfl
  | .sl i :: r, env, j => by rw [freezeO, freezeO_at r, Env.freeze_d]
  | .fz _ :: r, env, j => freezeO_at r env j
  | .fr _ :: r, env, j => freezeO_at r env j
theorem O.view_freezeO (os : List O) (env : Env) (o : O) : o.view (freezeO env os) = o.view env := by
  cases o with
  | sl j => exact freezeO_at os env j
  | _ => rfl
theorem freezeO_len : ∀ (os : List O) (env : Env), (freezeO env os).length = env.length
  | [], _ => rfl
  | .sl i :: r, env => by rw [freezeO, freezeO_len r, Env.freeze_len]
  | .fz _ :: r, env => freezeO_len r env
  | .fr _ :: r, env => freezeO_len r env
theorem freezeO_no : ∀ (os : List O) {env : Env} {j : Nat}, env.at j ≠ .no → (freezeO env os).at j ≠ .no
  | [], _, _, h => h
  | .sl i :: r, env, j, h => freezeO_no r (Env.freeze_no h)
  | .fz _ :: r, env, j, h => freezeO_no r h
  | .fr _ :: r, env, j, h => freezeO_no r h
def Full (env : Env) (os : List O) : Prop := ∀ i, O.sl i ∈ os → env.at i ≠ .no

theorem OR.know {o : O} {v : V} (h : OR fa K F G env σ H o v) (s : Sup G G') (k : ∀ b, G b = none → F b = none → H b ≠ none → (∀ i, (env.at i).own = true → σ[i]? ≠ some (some (.ref b))) → G' b = none)
    (ko : ∀ i, (env'.at i).own = true → (env.at i).own = true) : OR fa K F G' env' σ H o v := by
  cases o with
  | fz d => exact Dg.mono s h
  | fr d =>
    obtain ⟨a, e, h1, h2, h3⟩ := h
    exact ⟨a, e, h1.mono s fun _ q => q, ⟨h2.1, k a h2.2 h2.1 h1.there h3⟩, fun j hj => h3 j (ko j hj)⟩
  | sl i => exact h
theorem plus_none {o : O} {v : V} (h : OR fa K F G env σ H o v) {b : Addr} (e : plus F H o v b = none) : F b = none := by
  cases o with
  | fr d =>
    obtain ⟨a, rfl, h1, h2, h3⟩ := h
    have e' : (if b = a then H b else F b) = none := e
    by_cases hb : b = a
    · rw [if_pos hb, hb] at e'
      exact absurd e' h1.there
    · rw [if_neg hb] at e'
      exact e'
  | fz d => exact e
  | sl i => exact e
theorem plus_have {v : V} {d : D} {a : Addr} (h : OR fa K F G env σ H (.fr d) (.ref a)) : plus F H (.fr d) (.ref a) a ≠ none := by
  obtain ⟨c, e, h1, h2, h3⟩ := h
  cases e
  show (if a = a then H a else F a) ≠ none
  rw [if_pos rfl]
  exact h1.there
theorem ORs.know : ∀ {os : List O} {vs : List V} {F : Hp}, ORs fa K G env σ H F os vs → Sup G G' → (∀ b, G b = none → F b = none → H b ≠ none → (∀ i, (env.at i).own = true → σ[i]? ≠ some (some (.ref b))) → G' b = none) →
    (∀ i, (env'.at i).own = true → (env.at i).own = true) → ORs fa K G' env' σ H F os vs
  | [], [], _, _, _, _, _ => trivial
  | [], _ :: _, _, h, _, _, _ => h.elim
  | _ :: _, [], _, h, _, _, _ => h.elim
  | o :: os, v :: vs, F, ⟨h1, h2⟩, s, k, ko => ⟨h1.know s k ko, ORs.know h2 s (fun b q1 q2 => k b q1 (plus_none h1 q2)) ko⟩
theorem Rel.settle : ∀ {os : List O} {vs : List V} {F : Hp} {G : Hp} {env : Env}, Rel fa K F G io env σ H → ORs fa K G env σ H F os vs → Full env os →
    ∃ G', Rel fa K F G' io (freezeO env os) σ H ∧ Ext F G G' ∧ DgAll fa K G' vs (os.map (O.view env))
  | [], [], F, G, env, r, _, _ => ⟨G, r, .refl F G, .nil⟩
  | [], _ :: _, _, _, _, _, h, _ => h.elim
  | _ :: _, [], _, _, _, _, h, _ => h.elim
  | .fz d :: os, v :: vs, F, G, env, r, ⟨h1, h2⟩, fu => by
    obtain ⟨G', r', x, dd⟩ := Rel.settle r h2 fun i hi => fu i (List.mem_cons_of_mem _ hi)
    exact ⟨G', r', x, .cons (Dg.mono x.sup h1) dd⟩
  | .fr d :: os, v :: vs, F, G, env, r, ⟨h1, h2⟩, fu => by
    obtain ⟨a, rfl, q1, q2, q3⟩ := id h1
    obtain ⟨r1, x1⟩ := r.give q2 q3
    have h2' : ORs fa K (giv G H a) env σ H (plus F H (.fr d) (.ref a)) os vs := ORs.know h2 x1.sup (fun b e1 e2 e3 e4 => by
      show (if b = a then H b else G b) = none
      rw [if_neg fun (z : b = a) => plus_have (v := .ref a) h1 (z ▸ e2)]
      exact e1) fun _ h => h
    have h2'' : ORs fa K (giv G H a) env σ H F os vs := ORs.imp (fun b e => plus_none h1 e) h2'
    obtain ⟨G', r', x, dd⟩ := Rel.settle r1 h2'' fun i hi => fu i (List.mem_cons_of_mem _ hi)
    refine ⟨G', r', x1.trans x, .cons (Dg.mono x.sup ?_) dd⟩
    exact (q1.mono x1.sup fun _ q => q).dg fun o q => by show (if a = a then H a else G a) = some o; rw [if_pos rfl]; exact q
  | .sl i :: os, v :: vs, F, G, env, r, ⟨h1, h2⟩, fu => by
    obtain ⟨G1, r1, x1, k1⟩ := r.freeze i
    have h2' : ORs fa K G1 (env.freeze i) σ H F os vs := ORs.know h2 x1.sup (fun b e1 e2 e3 e4 => k1 b e1 e4) fun j h => Env.freeze_own h
    obtain ⟨G', r', x, dd⟩ := Rel.settle r1 h2' fun j hj => Env.freeze_no (fu j (List.mem_cons_of_mem _ hj))
    refine ⟨G', r', x1.trans x, .cons (Dg.mono x.sup ?_) ?_⟩
    · show Dg fa K G1 v (env.at i).d
      have hn := fu i List.mem_cons_self
      have e : (env.freeze i).at i = .fz (env.at i).d := by
        rw [Env.freeze_at]
        cases q : env.at i with
        | no => exact absurd q hn
        | fz d => simp [Sl.own, Sl.d]
        | ow d => simp [Sl.own, Sl.d]
        | od d => simp [Sl.own, Sl.d]
      exact r1.at e h1
    · have e : os.map (O.view (env.freeze i)) = os.map (O.view env) := List.map_congr_left fun o _ => O.view_freeze env i o
      rw [e] at dd
      exact dd
theorem Rel.settle1 {o : O} {v : V} (r : Rel fa K F G io env σ H) (h : OR fa K F G env σ H o v) (fu : Full env [o]) :
    ∃ G', Rel fa K F G' io (freezeO env [o]) σ H ∧ Ext F G G' ∧ Dg fa K G' v (o.view env) := by
  obtain ⟨G', r', x, dd⟩ := r.settle (os := [o]) (vs := [v]) ⟨h, trivial⟩ fu
  cases dd with
  | cons q _ => exact ⟨G', r', x, q⟩

theorem Rel.setFz (r : Rel fa K F G io env σ H) {i : Nat} {d : D} {v : V} (h : Dg fa K G v d) : Rel fa K F G io (env.set i (.fz d)) (σ.set i (some v)) H := by
  have ow : ∀ j, (Env.at (env.set i (.fz d)) j).own = true → i ≠ j ∧ (env.at j).own = true := fun j hj => by
    rw [Env.at_set] at hj
    by_cases e : i = j
    · rw [if_pos e] at hj
      split at hj <;> cases hj
    · rw [if_neg e] at hj
      exact ⟨e, hj⟩
  refine ⟨by rw [List.length_set, List.length_set]; exact r.len, r.gh, r.fh, fun j d' e => ?_, fun j hj => ?_, fun j k a hj hk e1 e2 => ?_, fun a e h0 => ?_⟩
  · rw [Env.at_set] at e
    by_cases q : i = j
    · rw [if_pos q] at e
      by_cases hl : i < env.length
      · rw [if_pos hl] at e
        cases e
        subst q
        exact ⟨v, by rw [List.getElem?_set_self (Nat.lt_of_lt_of_le hl r.len)], h⟩
      · rw [if_neg hl] at e; cases e
    · rw [if_neg q] at e
      rw [List.getElem?_set_ne q]
      exact r.fz j d' e
  · obtain ⟨q, hj'⟩ := ow j hj
    rw [Env.at_set, if_neg q, List.getElem?_set_ne q]
    exact r.own j hj'
  · obtain ⟨q, hj'⟩ := ow j hj
    obtain ⟨q2, hk'⟩ := ow k hk
    rw [List.getElem?_set_ne q] at e1
    rw [List.getElem?_set_ne q2] at e2
    exact r.sep j k a hj' hk' e1 e2
  · obtain ⟨q, hj'⟩ := ow 0 h0
    rw [List.getElem?_set_ne q]
    exact r.io a e hj'
theorem Rel.setOwn (r : Rel fa K F G io env σ H) {i : Nat} {d : D} {v : V} (h : OR fa K F G env σ H (.fr d) v) (hi : io ≠ none → i ≠ 0) : Rel fa K F G io (env.set i (ownD d)) (σ.set i (some v)) H := by
  obtain ⟨a, rfl, h1, h2, h3⟩ := h
  have od : (ownD d).own = true ∧ (ownD d).d = d := by
    cases d with
    | lst ds => exact ⟨rfl, rfl⟩
    | dic ds => exact ⟨rfl, rfl⟩
    | _ => exact h1.elim
  have ow : ∀ j, (Env.at (env.set i (ownD d)) j).own = true → (i = j ∧ i < env.length) ∨ (i ≠ j ∧ (env.at j).own = true) := fun j hj => by
    rw [Env.at_set] at hj
    by_cases e : i = j
    · rw [if_pos e] at hj
      by_cases hl : i < env.length
      · exact .inl ⟨e, hl⟩
      · rw [if_neg hl] at hj; cases hj
    · rw [if_neg e] at hj
      exact .inr ⟨e, hj⟩
  refine ⟨by rw [List.length_set, List.length_set]; exact r.len, r.gh, r.fh, fun j d' e => ?_, fun j hj => ?_, fun j k b hj hk e1 e2 => ?_, fun b e h0 => ?_⟩
  · rw [Env.at_set] at e
    by_cases q : i = j
    · rw [if_pos q] at e
      by_cases hl : i < env.length
      · rw [if_pos hl] at e
        rw [e] at od; cases od.1
      · rw [if_neg hl] at e; cases e
    · rw [if_neg q] at e
      rw [List.getElem?_set_ne q]
      exact r.fz j d' e
  · rcases ow j hj with ⟨rfl, hl⟩ | ⟨q, hj'⟩
    · rw [Env.at_set, if_pos rfl, if_pos hl, od.2, List.getElem?_set_self (Nat.lt_of_lt_of_le hl r.len)]
      exact ⟨a, rfl, h1, h2⟩
    · rw [Env.at_set, if_neg q, List.getElem?_set_ne q]
      exact r.own j hj'
  · rcases ow j hj with ⟨rfl, hl⟩ | ⟨q, hj'⟩ <;> rcases ow k hk with ⟨rfl, hl2⟩ | ⟨q2, hk'⟩
    · rfl
    · rw [List.getElem?_set_self (Nat.lt_of_lt_of_le hl r.len)] at e1
      rw [List.getElem?_set_ne q2] at e2
      cases e1
      exact absurd e2 (h3 k hk')
    · rw [List.getElem?_set_self (Nat.lt_of_lt_of_le hl2 r.len)] at e2
      rw [List.getElem?_set_ne q] at e1
      cases e2
      exact absurd e1 (h3 j hj')
    · rw [List.getElem?_set_ne q] at e1
      rw [List.getElem?_set_ne q2] at e2
      exact r.sep j k b hj' hk' e1 e2
  · rcases ow 0 h0 with ⟨q, _⟩ | ⟨q, hj'⟩
    · exact absurd q (hi (by rw [e]; simp))
    · rw [List.getElem?_set_ne q]
      exact r.io b e hj'
theorem Rel.store (r : Rel fa K F G io env σ H) {i : Nat} {o : O} {v : V} (h : OR fa K F G env σ H o v) (fu : Full env [o]) (hi : io ≠ none → i ≠ 0) :
    ∃ G', Rel fa K F G' io (store env i o) (σ.set i (some v)) H ∧ Ext F G G' := by
  cases o with
  | fz d => exact ⟨G, r.setFz h, .refl F G⟩
  | fr d => exact ⟨G, r.setOwn h hi, .refl F G⟩
  | sl j =>
    obtain ⟨G', r', x, q⟩ := r.settle1 h fu
    exact ⟨G', r'.setFz q, x⟩
end
end Ev
end
section
set_option linter.all false
set_option maxRecDepth 100000
namespace Ev
open PySem PySem.Spec PyProof.Rows L2

structure Gh where
  fa : Nat → Addr
  K : PySem.W.Frag
  C : EC
  W : WX
  ex : Nat → List D → Value → Option Addr → Hp → Prop
structure Go (F G : Hp) (env : Env) (G' : Hp) (env' : Env) : Prop where
  x : Ext F G G'
  keep : ∀ i, env.at i ≠ .no → env'.at i ≠ .no
theorem Go.refl (F G : Hp) (env : Env) : Go F G env G env := ⟨.refl F G, fun _ h => h⟩
theorem Go.trans {F G G1 G2 : Hp} {e e1 e2 : Env} (a : Go F G e G1 e1) (b : Go F G1 e1 G2 e2) : Go F G e G2 e2 := ⟨a.x.trans b.x, fun i h => b.keep i (a.keep i h)⟩
def XP (g : Gh) (F G : Hp) (io : Option Addr) (σ : L2.St) (k : Nat) (a : List D) (env' : Env) : Prop :=
  ∀ H' G', Rel g.fa g.K F G' io env' σ H' → Ext F G G' → ∀ cls dd, g.ex k a cls dd H' → g.W cls dd σ H'
def PostA (g : Gh) (F G : Hp) (io : Option Addr) (env : Env) (σ : L2.St) (r : R (List O)) (Q : List V → Hp → Prop) : Prop := match r with
  | .ok os env' => ∀ vs H' G', Rel g.fa g.K F G' io env' σ H' → Go F G env G' env' → ORs g.fa g.K G' env' σ H' F os vs → Full env' os → Q vs H'
  | .exc k a env' => XP g F G io σ k a env'
  | .stuck => False
def PostE (g : Gh) (F G : Hp) (io : Option Addr) (env : Env) (σ : L2.St) (r : R (List O)) (Q : VK) : Prop := match r with
  | .ok [o] env' => ∀ v H' G', Rel g.fa g.K F G' io env' σ H' → Go F G env G' env' → OR g.fa g.K F G' env' σ H' o v → Full env' [o] → Q v H'
  | .ok _ _ => False
  | .exc k a env' => XP g F G io σ k a env'
  | .stuck => False
def PostT (g : Gh) (F G : Hp) (io : Option Addr) (env : Env) (σ : L2.St) (r : R (List O)) (Q : Bool → Hp → Prop) : Prop := match r with
  | .ok [o] env' => match o.view env' with
    | .bl b => ∀ H' G', Rel g.fa g.K F G' io env' σ H' → Go F G env G' env' → Q b H'
    | _ => False
  | .ok _ _ => False
  | .exc k a env' => XP g F G io σ k a env'
  | .stuck => False
def RE (g : Gh) (m : E) : TE := fun σ H Q => ∃ F G io env, Rel g.fa g.K F G io env σ H ∧ PostE g F G io env σ (evE g.C m env) Q
def RT (g : Gh) (m : E) : TT := fun σ H Q => ∃ F G io env, Rel g.fa g.K F G io env σ H ∧ PostT g F G io env σ (evE g.C m env) Q
def RA (g : Gh) (m : E) : TA := fun σ H Q => ∃ F G io env, Rel g.fa g.K F G io env σ H ∧ PostA g F G io env σ (evE g.C m env) Q

def Vws (fa : Nat → Addr) (K : PySem.W.Frag) (G H : Hp) : List V → List D → Prop
  | [], [] => True
  | v :: vs, d :: ds => Vw fa K G H v d ∧ Vws fa K G H vs ds
  | _, _ => False
def RV (fa : Nat → Addr) (K : PySem.W.Frag) (H G' H' : Hp) : O → V → Prop
  | .fz d, v => Dg fa K G' v d
  | .fr d, v => ∃ p, v = .ref p ∧ H p = none ∧ G' p = none ∧ Is fa K G' H' p d
  | .sl _, _ => False
def KO (g : Gh) (o : Op) : List V → Hp → VK → Prop := fun vs H Q => ∃ G ds d, Sup G H ∧ Vws g.fa g.K G H vs ds ∧ opSem o ds = some d ∧
  ∀ v H' G', Grow G H G' H' → RV g.fa g.K H G' H' (resO o d) v → Q v H'
section
variable {g : Gh} {F F' G G' H H' : Hp} {io : Option Addr} {env env' : Env} {σ : L2.St}

theorem XP.frame {o : O} {v : V} {k : Nat} {a : List D} {G1 : Hp} {e0 : Env} {H0 : Hp} (h : XP g F G io σ k a env') (x : Ext F G G1) (q : OR g.fa g.K F G1 e0 σ H0 o v) : XP g (plus F H0 o v) G1 io σ k a env' := fun H' G' r y cls dd z => by
  have e : OR g.fa g.K F G1 e0 σ H0 o v := q
  refine h H' G' (r.unframe (env' := e0) (G' := G1) q) (x.trans ⟨y.sup, fun b hb hg => y.new b (fun z => hb (plus_none q z)) hg⟩) cls dd z
theorem XP.later {k : Nat} {a : List D} {G1 : Hp} (h : XP g F G io σ k a env') (x : Ext F G G1) : XP g F G1 io σ k a env' := fun H' G' r y cls dd z => h H' G' r (x.trans y) cls dd z
theorem Ext.unplus {o : O} {v : V} {G1 : Hp} {e0 : Env} {H0 : Hp} (x : Ext (plus F H0 o v) G G') (q : OR g.fa g.K F G1 e0 σ H0 o v) : Ext F G G' :=
  ⟨x.sup, fun b hb hg => x.new b (fun z => hb (plus_none q z)) hg⟩

theorem RA.cons {a r : E} {Q : List V → Hp → Prop} (h : RA g (.cons a r) σ H Q) : RE g a σ H fun v H1 => RA g r σ H1 fun vs H2 => Q (v :: vs) H2 := by
  obtain ⟨F, G, io, env, r0, p⟩ := h
  refine ⟨F, G, io, env, r0, ?_⟩
  unfold evE at p
  cases q : evE g.C a env with
  | stuck => rw [q] at p; exact p
  | exc k x e => rw [q] at p; exact p
  | ok os e1 =>
    rw [q] at p
    match os, p with
    | [], p => exact p
    | _ :: _ :: _, p => exact p
    | [o], p =>
      intro v H1 G1 r1 x1 o1 f1
      refine ⟨plus F H1 o v, G1, io, e1, r1.frame o1, ?_⟩
      cases q2 : evE g.C r e1 with
      | stuck => simp only [q2] at p; exact p
      | exc k x e => simp only [q2] at p; exact XP.frame p x1.x o1
      | ok os e2 =>
        simp only [q2] at p
        intro vs H2 G2 r2 x2 o2 f2
        refine p (v :: vs) H2 G2 (r2.unframe (G' := G1) (env' := e1) o1) (x1.trans ⟨x2.x.unplus o1, x2.keep⟩) ⟨o1.keep r2 x2.x, ORs.imp (fun b e => ?_) o2⟩ ?_
        · cases o with
          | fr d =>
            obtain ⟨c, rfl, h1, h2, h3⟩ := id o1
            have e' : (if b = c then H1 b else F b) = none := e
            show (if b = c then H2 b else F b) = none
            by_cases hb : b = c
            · rw [if_pos hb, hb] at e'
              exact absurd e' h1.there
            · rw [if_neg hb] at e' ⊢; exact e'
          | fz d => exact e
          | sl i => exact e
        · intro i hi
          rcases List.mem_cons.mp hi with e | hi
          · exact x2.keep i (f1 i (by rw [e]; exact List.mem_singleton.mpr rfl))
          · exact f2 i hi
theorem RA.nil {Q : List V → Hp → Prop} (h : RA g .nil σ H Q) : Q [] H := by
  obtain ⟨F, G, io, env, r0, p⟩ := h
  exact p [] H G r0 (.refl F G env) trivial (fun _ h => absurd h List.not_mem_nil)
theorem RE.mono {m : E} {Q Q' : VK} (h : RE g m σ H Q) (k : ∀ v H', Q v H' → Q' v H') : RE g m σ H Q' := by
  obtain ⟨F, G, io, env, r0, p⟩ := h
  refine ⟨F, G, io, env, r0, ?_⟩
  cases q : evE g.C m env with
  | stuck => rw [q] at p; exact p
  | exc _ _ _ => rw [q] at p; exact p
  | ok os e1 =>
    rw [q] at p
    match os, p with
    | [], p => exact p
    | _ :: _ :: _, p => exact p
    | [o], p => exact fun v H' G' a b c d => k _ _ (p v H' G' a b c d)
theorem RA.mono {m : E} {Q Q' : List V → Hp → Prop} (h : RA g m σ H Q) (k : ∀ v H', Q v H' → Q' v H') : RA g m σ H Q' := by
  obtain ⟨F, G, io, env, r0, p⟩ := h
  refine ⟨F, G, io, env, r0, ?_⟩
  cases q : evE g.C m env with
  | stuck => rw [q] at p; exact p
  | exc _ _ _ => rw [q] at p; exact p
  | ok os e1 => rw [q] at p; exact fun v H' G' a b c d => k _ _ (p v H' G' a b c d)
theorem RA.cons' {a r : E} {Q : List V → Hp → Prop} (h : RA g (.cons a r) σ H Q) {t : TA} (k : ∀ σ H Q, RA g r σ H Q → t σ H Q) : tCons (RE g a) t σ H Q :=
  (RA.cons h).mono fun v H1 q => k _ _ _ q

theorem vws_of (r : Rel g.fa g.K F G io env σ H) : ∀ {os : List O} {vs : List V} {F' : Hp}, ORs g.fa g.K G env σ H F' os vs → Full env os → (∀ b, F' b = none → F b = none) → Vws g.fa g.K G H vs (os.map (O.view env))
  | [], [], _, _, _, _ => trivial
  | [], _ :: _, _, h, _, _ => h.elim
  | _ :: _, [], _, h, _, _ => h.elim
  | o :: os, v :: vs, F', ⟨h1, h2⟩, fu, k => by
    refine ⟨r.view (o := o) (v := v) ?_ fun i e => fu i (by rw [← e]; exact List.mem_cons_self), vws_of r h2 (fun i hi => fu i (List.mem_cons_of_mem _ hi)) fun b e => k b (plus_none h1 e)⟩
    cases o with
    | fr d => obtain ⟨a, e, q1, q2, q3⟩ := h1; exact ⟨a, e, q1, ⟨k a q2.1, q2.2⟩, q3⟩
    | fz d => exact h1
    | sl i => exact h1
theorem RV.or (r : Rel g.fa g.K F G io env σ H) (x : Grow G H G' H') {o : O} {v : V} (h : RV g.fa g.K H G' H' o v) : OR g.fa g.K F G' env σ H' o v ∧ Full env [o] := by
  cases o with
  | fz d => exact ⟨h, fun i hi => by simp at hi⟩
  | fr d =>
    obtain ⟨p, rfl, h1, h2, h3⟩ := h
    refine ⟨⟨p, rfl, h3, ⟨?_, h2⟩, fun j hj e => ?_⟩, fun i hi => by simp at hi⟩
    · cases q : F p with
      | none => rfl
      | some u => rw [r.fh p u q] at h1; cases h1
    · obtain ⟨a, q1, q2, q3⟩ := r.own j hj
      rw [e] at q1
      cases q1
      exact q2.there h1
  | sl i => exact h.elim
theorem RE.opN {o : Op} {a : E} {Q : VK} (h : RE g (.op o a) σ H Q) : RA g a σ H fun vs H1 => KO g o vs H1 Q := by
  obtain ⟨F, G, io, env, r0, p⟩ := h
  refine ⟨F, G, io, env, r0, ?_⟩
  unfold evE at p
  cases q : evE g.C a env with
  | stuck => rw [q] at p; exact p
  | exc k x e => rw [q] at p; exact p
  | ok os e1 =>
    rw [q] at p
    intro vs H1 G1 r1 x1 o1 f1
    cases q2 : opSem o (os.map (O.view e1)) with
    | none => simp only [q2] at p; exact p.elim
    | some d =>
      simp only [q2] at p
      refine ⟨G1, _, d, r1.gh, vws_of r1 o1 f1 fun _ e => e, q2, fun v H' G' gr rv => ?_⟩
      obtain ⟨oo, ff⟩ := RV.or r1 gr rv
      exact p v H' G' (r1.ext gr) (x1.trans ⟨gr.ext r1.fh, fun _ h => h⟩) oo ff
theorem RE.op1 {o : Op} {x : E} {Q : VK} (h : RE g (.op o (.cons x .nil)) σ H Q) : RE g x σ H fun v H1 => KO g o [v] H1 Q :=
  (RA.cons h.opN).mono fun _ _ q => q.nil
theorem RE.op2 {o : Op} {x y : E} {Q : VK} (h : RE g (.op o (.cons x (.cons y .nil))) σ H Q) : RE g x σ H fun v H1 => RE g y σ H1 fun u H2 => KO g o [v, u] H2 Q :=
  (RA.cons h.opN).mono fun _ _ q => (RA.cons q).mono fun _ _ q => q.nil
theorem RE.op3 {o : Op} {x y z : E} {Q : VK} (h : RE g (.op o (.cons x (.cons y (.cons z .nil)))) σ H Q) : RE g x σ H fun v H1 => RE g y σ H1 fun u H2 => RE g z σ H2 fun w H3 => KO g o [v, u, w] H3 Q :=
  (RA.cons h.opN).mono fun _ _ q => (RA.cons q).mono fun _ _ q => (RA.cons q).mono fun _ _ q => q.nil

theorem RE.var {i : Nat} {Q : VK} (h : RE g (.var i) σ H Q) : ∃ v, σ[i]? = some (some v) ∧ Q v H := by
  obtain ⟨F, G, io, env, r0, p⟩ := h
  unfold evE at p
  cases q : env.at i with
  | no => rw [q] at p; exact p.elim
  | fz d =>
    rw [q] at p
    obtain ⟨v, h1, h2⟩ := r0.fz i d q
    exact ⟨v, h1, p v H G r0 (.refl F G env) h2 fun j hj => by simp at hj⟩
  | ow ds =>
    rw [q] at p
    obtain ⟨a, h1, h2, h3⟩ := r0.own i (by rw [q]; rfl)
    exact ⟨_, h1, p _ H G r0 (.refl F G env) h1 fun j hj => by simp at hj; subst hj; rw [q]; simp⟩
  | od ds =>
    rw [q] at p
    obtain ⟨a, h1, h2, h3⟩ := r0.own i (by rw [q]; rfl)
    exact ⟨_, h1, p _ H G r0 (.refl F G env) h1 fun j hj => by simp at hj; subst hj; rw [q]; simp⟩
theorem RE.cst {d : D} {Q : VK} (h : RE g (.cst d) σ H Q) {v : V} (c : ∀ G, Dg g.fa g.K G v d) : Q v H := by
  obtain ⟨F, G, io, env, r0, p⟩ := h
  exact p v H G r0 (.refl F G env) (c G) fun j hj => by simp at hj

theorem Sup.none {G H : Hp} (g : Sup G H) {b : Addr} (hb : H b = none) : G b = none := by
  cases e : G b with
  | none => rfl
  | some u => 
    rcases g.rd b _ (.inl e) with z | ⟨o, z⟩ <;> rw [z] at hb <;> cases hb
theorem Grow.known {b : Addr} {u : HO} (gh : Sup G H) (hb : H b = none) : Grow G H (upd G b u) (upd H b u) := by
  have gb := gh.none hb
  refine ⟨fun c u e => by rw [upd_ne (ne_of_none e hb)]; exact e, .of fun c u e => by rw [upd_ne (ne_of_none e gb)]; exact e, ⟨fun c xs hx e => ?_, fun c u e => ?_⟩, fun c h1 h2 => by rw [upd_ne fun z => h1 (by rw [z]; exact hb)]; exact h2⟩
  · by_cases hc : c = b
    · subst hc; rw [upd_same] at e ⊢; exact e
    · rw [upd_ne hc] at e ⊢; exact gh.ex c xs hx e
  · by_cases hc : c = b
    · subst hc
      refine e.imp (fun z => ?_) fun ⟨o, z⟩ => ⟨o, ?_⟩ <;> rw [upd_same] at z ⊢ <;> exact z
    · have e2 : Rd G c u := e.imp (fun z => by rw [upd_ne hc] at z; exact z) fun ⟨o, z⟩ => ⟨o, by rw [upd_ne hc] at z; exact z⟩
      exact (gh.rd c u e2).imp (fun z => by rw [upd_ne hc]; exact z) fun ⟨o, z⟩ => ⟨o, by rw [upd_ne hc]; exact z⟩
theorem Grow.hand {b : Addr} {u : HO} (gh : Sup G H) (hb : H b = none) : Grow G H G (upd H b u) := by
  have s : Same H (upd H b u) := fun c u e => by rw [upd_ne (ne_of_none e hb)]; exact e
  exact ⟨s, .refl G, gh.trans (.of s), fun c h1 h2 => h2⟩
theorem RE.tup {a : E} {Q : VK} (h : RE g (.tup a) σ H Q) : RA g a σ H fun xs H1 => xs.length ≤ sizeLine ∧ ∀ p o, H1 p = none → o.dict = none → Q (.ref p) (upd H1 p (.frz o (.tup xs))) := by
  obtain ⟨F, G, io, env, r0, p⟩ := h
  refine ⟨F, G, io, env, r0, ?_⟩
  unfold evE at p
  cases q : evE g.C a env with
  | stuck => rw [q] at p; exact p
  | exc k x e => rw [q] at p; exact p
  | ok os e1 =>
    rw [q] at p
    intro vs H1 G1 r1 x1 o1 f1
    by_cases hl : os.length ≤ cap
    · simp only [if_pos hl] at p
      refine ⟨by rw [← o1.length, sizeLine_eq]; exact hl, fun b o hb ho => ?_⟩
      obtain ⟨G2, r2, x2, dd⟩ := r1.settle o1 f1
      have gr : Grow G2 H1 (upd G2 b (.frz o (.tup vs))) (upd H1 b (.frz o (.tup vs))) := .known r2.gh hb
      exact p _ _ _ (r2.ext gr) (x1.trans ⟨x2.trans (gr.ext r2.fh), fun i h => freezeO_no os h⟩) (.tup (.inl ⟨o, upd_same, ho⟩) (dd.mono gr.sup)) fun j hj => by simp at hj
    · simp only [if_neg hl] at p; exact p.elim
theorem RE.lst {a : E} {Q : VK} (h : RE g (.lst a) σ H Q) : RA g a σ H fun xs H1 => xs.length ≤ sizeLine ∧ ∀ p, H1 p = none → Q (.ref p) (upd H1 p (.lst xs)) := by
  obtain ⟨F, G, io, env, r0, p⟩ := h
  refine ⟨F, G, io, env, r0, ?_⟩
  unfold evE at p
  cases q : evE g.C a env with
  | stuck => rw [q] at p; exact p
  | exc k x e => rw [q] at p; exact p
  | ok os e1 =>
    rw [q] at p
    intro vs H1 G1 r1 x1 o1 f1
    by_cases hl : os.length ≤ cap
    · simp only [if_pos hl] at p
      refine ⟨by rw [← o1.length, sizeLine_eq]; exact hl, fun b hb => ?_⟩
      obtain ⟨G2, r2, x2, dd⟩ := r1.settle o1 f1
      have gr : Grow G2 H1 G2 (upd H1 b (.lst vs)) := .hand r2.gh hb
      obtain ⟨oo, ff⟩ := RV.or (g := g) r2 gr (o := .fr (.lst (os.map (O.view e1)))) (v := .ref b) ⟨b, rfl, hb, r2.gh.none hb, vs, upd_same, dd⟩
      exact p _ _ _ (r2.ext gr) (x1.trans ⟨x2.trans (gr.ext r2.fh), fun i h => freezeO_no os h⟩) oo ff
    · simp only [if_neg hl] at p; exact p.elim
end
end Ev
end
section
set_option linter.all false
set_option maxRecDepth 100000
namespace Ev
open PySem PySem.Spec PyProof.Rows L2

def spN (fa : Nat → Addr) (K : PySem.W.Frag) (ex : Nat → List D → Value → Option Addr → Hp → Prop) (ev : List D → CR) : Sp := fun vs H Q E =>
  ∃ G ds, Sup G H ∧ DgAll fa K G vs ds ∧ match ev ds with
    | .ok d fr _ => ∀ v H' G', Grow G H G' H' → RV fa K H G' H' (if fr then .fr d else .fz d) v → Q v H'
    | .exc k a _ => ∀ cls dd H' G', Grow G H G' H' → ex k a cls dd H' → E cls dd H'
    | .stuck => False
structure GrowI (a : Addr) (G H G' H' : Hp) : Prop where
  same : ∀ b u, b ≠ a → H b = some u → H' b = some u
  sup : Sup G G'
  gh : Sup G' H'
  new : ∀ b, H b ≠ none → G b = none → G' b = none
def spI (fa : Nat → Addr) (K : PySem.W.Frag) (ex : Nat → List D → Value → Option Addr → Hp → Prop) (ev : List D → CR) : Sp := fun vs H Q E =>
  ∃ G a ws us xs ds, vs = .ref a :: us ∧ Sup G H ∧ H a = some (.lst ws) ∧ DgAll fa K G ws xs ∧ G a = none ∧ DgAll fa K G us ds ∧ match ev (.lst xs :: ds) with
    | .ok d fr io => ∀ v H' G' ws', GrowI a G H G' H' → H' a = some (.lst ws') → DgAll fa K G' ws' io → RV fa K H G' H' (if fr then .fr d else .fz d) v → Q v H'
    | .exc k x io => ∀ cls dd H' G' ws', GrowI a G H G' H' → H' a = some (.lst ws') → DgAll fa K G' ws' io → ex k x cls dd H' → E cls dd H'
    | .stuck => False
section
variable {g : Gh} {F F' G G' H H' : Hp} {io : Option Addr} {env env' : Env} {σ : L2.St}

theorem Vw.bl {v : V} {b : Bool} (h : Vw g.fa g.K G H v (.bl b)) : v = .bl b := by
  rcases h with h | ⟨a, _, h⟩
  · cases h; rfl
  · exact h.elim
theorem Vw.int {v : V} {b : Int} (h : Vw g.fa g.K G H v (.int b)) : v = .int b := by
  rcases h with h | ⟨a, _, h⟩
  · cases h; rfl
  · exact h.elim
theorem Vw.str {v : V} {b : Str} (h : Vw g.fa g.K G H v (.str b)) : v = .str b := by
  rcases h with h | ⟨a, _, h⟩
  · cases h; rfl
  · exact h.elim
theorem Vw.lst {v : V} {ds : List D} (h : Vw g.fa g.K G H v (.lst ds)) (s : Sup G H) : ∃ a vs, v = .ref a ∧ H a = some (.lst vs) ∧ DgAll g.fa g.K G vs ds := by
  rcases h with h | ⟨a, rfl, vs, h1, h2⟩
  · cases h with
    | lst h1 h2 => exact ⟨_, _, rfl, s.lst _ _ h1, h2⟩
  · exact ⟨a, vs, rfl, h1, h2⟩
theorem Vw.tup {v : V} {ds : List D} (h : Vw g.fa g.K G H v (.tup ds)) (s : Sup G H) : ∃ a vs, v = .ref a ∧ SqD g.K H a vs ∧ DgAll g.fa g.K G vs ds := by
  rcases h with h | ⟨a, _, h⟩
  · cases h with
    | tup h1 h2 => exact ⟨_, _, rfl, s.seqD h1, h2⟩
  · exact h.elim

theorem view1 (r : Rel g.fa g.K F G io env σ H) {o : O} {v : V} (h : OR g.fa g.K F G env σ H o v) (f : Full env [o]) : Vw g.fa g.K G H v (o.view env) :=
  r.view h fun i e => f i (by rw [e]; exact List.mem_singleton.mpr rfl)
theorem RT.re {m : E} {Q : Bool → Hp → Prop} (h : RT g m σ H Q) : RE g m σ H fun v H' => ∃ c, v = .bl c ∧ Q c H' := by
  obtain ⟨F, G, io, env, r0, p⟩ := h
  refine ⟨F, G, io, env, r0, ?_⟩
  cases q : evE g.C m env with
  | stuck => rw [q] at p; exact p
  | exc _ _ _ => rw [q] at p; exact p
  | ok os e1 =>
    rw [q] at p
    match os, p with
    | [], p => exact p
    | _ :: _ :: _, p => exact p
    | [o], p =>
      intro v H' G' a b c d
      have w := view1 a c d
      have p : (match o.view e1 with
        | .bl b => ∀ H' G', Rel g.fa g.K F G' io e1 σ H' → Go F G env G' e1 → Q b H'
        | _ => False) := p
      cases qv : o.view e1 with
      | bl t =>
        rw [qv] at p w
        exact ⟨t, w.bl, p H' G' a b⟩
      | _ => rw [qv] at p; exact p.elim
theorem RT.mono {m : E} {Q Q' : Bool → Hp → Prop} (h : RT g m σ H Q) (k : ∀ v H', Q v H' → Q' v H') : RT g m σ H Q' := by
  obtain ⟨F, G, io, env, r0, p⟩ := h
  refine ⟨F, G, io, env, r0, ?_⟩
  cases q : evE g.C m env with
  | stuck => rw [q] at p; exact p
  | exc _ _ _ => rw [q] at p; exact p
  | ok os e1 =>
    rw [q] at p
    match os, p with
    | [], p => exact p
    | _ :: _ :: _, p => exact p
    | [o], p =>
      have p : (match o.view e1 with
        | .bl b => ∀ H' G', Rel g.fa g.K F G' io e1 σ H' → Go F G env G' e1 → Q b H'
        | _ => False) := p
      show (match o.view e1 with
        | .bl b => ∀ H' G', Rel g.fa g.K F G' io e1 σ H' → Go F G env G' e1 → Q' b H'
        | _ => False)
      cases qv : o.view e1 with
      | bl t => rw [qv] at p; exact fun H' G' a b => k _ _ (p H' G' a b)
      | _ => rw [qv] at p; exact p.elim
theorem PostE.later {F G G1 : Hp} {e0 e1 : Env} {r : R (List O)} {Q : VK} (p : PostE g F G io e0 σ r Q) (x : Go F G e0 G1 e1) : PostE g F G1 io e1 σ r Q := by
  cases r with
  | stuck => exact p
  | exc _ _ _ => exact XP.later p x.x
  | ok os e2 =>
    match os, p with
    | [], p => exact p
    | _ :: _ :: _, p => exact p
    | [o], p => exact fun v H' G' a b c d => p v H' G' a (x.trans b) c d
theorem PostT.later {F G G1 : Hp} {e0 e1 : Env} {r : R (List O)} {Q : Bool → Hp → Prop} (p : PostT g F G io e0 σ r Q) (x : Go F G e0 G1 e1) : PostT g F G1 io e1 σ r Q := by
  cases r with
  | stuck => exact p
  | exc _ _ _ => exact XP.later p x.x
  | ok os e2 =>
    match os, p with
    | [], p => exact p
    | _ :: _ :: _, p => exact p
    | [o], p =>
      have p : (match o.view e2 with
        | .bl b => ∀ H' G', Rel g.fa g.K F G' io e2 σ H' → Go F G e0 G' e2 → Q b H'
        | _ => False) := p
      show (match o.view e2 with
        | .bl b => ∀ H' G', Rel g.fa g.K F G' io e2 σ H' → Go F G1 e1 G' e2 → Q b H'
        | _ => False)
      cases qv : o.view e2 with
      | bl t => rw [qv] at p; exact fun H' G' a b => p H' G' a (x.trans b)
      | _ => rw [qv] at p; exact p.elim
theorem RE.one {β : Type} {a : E} {f : O → Env → R β} {P : R β → Prop} (r0 : Rel g.fa g.K F G io env σ H) (hs : ¬ P .stuck)
    (hx : ∀ k x e, P (.exc k x e) → XP g F G io σ k x e) (p : P ((evE g.C a env).one f)) :
    RE g a σ H fun v H1 => ∃ G1 o e1, Rel g.fa g.K F G1 io e1 σ H1 ∧ Go F G env G1 e1 ∧ OR g.fa g.K F G1 e1 σ H1 o v ∧ Full e1 [o] ∧ P (f o e1) := by
  refine ⟨F, G, io, env, r0, ?_⟩
  cases q : evE g.C a env with
  | stuck => rw [q] at p; exact hs p
  | exc k x e => rw [q] at p; exact hx k x e p
  | ok os e1 =>
    rw [q] at p
    match os, p with
    | [], p => exact hs p
    | _ :: _ :: _, p => exact hs p
    | [o], p => exact fun v H' G' a b c d => ⟨G', o, e1, a, b, c, d, p⟩
theorem RA.all {β : Type} {a : E} {f : List O → Env → R β} {P : R β → Prop} (r0 : Rel g.fa g.K F G io env σ H) (hs : ¬ P .stuck)
    (hx : ∀ k x e, P (.exc k x e) → XP g F G io σ k x e) (p : P ((evE g.C a env).all f)) :
    RA g a σ H fun vs H1 => ∃ G1 os e1, Rel g.fa g.K F G1 io e1 σ H1 ∧ Go F G env G1 e1 ∧ ORs g.fa g.K G1 e1 σ H1 F os vs ∧ Full e1 os ∧ P (f os e1) := by
  refine ⟨F, G, io, env, r0, ?_⟩
  cases q : evE g.C a env with
  | stuck => rw [q] at p; exact hs p
  | exc k x e => rw [q] at p; exact hx k x e p
  | ok os e1 =>
    rw [q] at p
    exact fun v H' G' a b c d => ⟨G', os, e1, a, b, c, d, p⟩
theorem RT.tst {β : Type} {a : E} {f : Bool → Env → R β} {P : R β → Prop} (r0 : Rel g.fa g.K F G io env σ H) (hs : ¬ P .stuck)
    (hx : ∀ k x e, P (.exc k x e) → XP g F G io σ k x e) (p : P ((evE g.C a env).tst f)) :
    RT g a σ H fun b H1 => ∃ G1 e1, Rel g.fa g.K F G1 io e1 σ H1 ∧ Go F G env G1 e1 ∧ P (f b e1) := by
  refine ⟨F, G, io, env, r0, ?_⟩
  unfold R.tst at p
  cases q : evE g.C a env with
  | stuck => rw [q] at p; exact hs p
  | exc k x e => rw [q] at p; exact hx k x e p
  | ok os e1 =>
    rw [q] at p
    match os, p with
    | [], p => exact hs p
    | _ :: _ :: _, p => exact hs p
    | [o], p =>
      have p : P (match o.view e1 with | .bl b => f b e1 | _ => .stuck) := p
      show (match o.view e1 with
        | .bl b => ∀ H' G', Rel g.fa g.K F G' io e1 σ H' → Go F G env G' e1 → _
        | _ => False)
      cases qv : o.view e1 with
      | bl t => rw [qv] at p; exact fun H' G' a b => ⟨G', e1, a, b, p⟩
      | _ => rw [qv] at p; exact hs p
theorem RE.tst {β : Type} {a : E} {f : Bool → Env → R β} {P : R β → Prop} (r0 : Rel g.fa g.K F G io env σ H) (hs : ¬ P .stuck)
    (hx : ∀ k x e, P (.exc k x e) → XP g F G io σ k x e) (p : P ((evE g.C a env).tst f)) :
    RE g a σ H fun v H1 => ∃ b G1 e1, v = .bl b ∧ Rel g.fa g.K F G1 io e1 σ H1 ∧ Go F G env G1 e1 ∧ P (f b e1) :=
  (RT.tst r0 hs hx p).re.mono fun v H1 ⟨b, e, G1, e1, x⟩ => ⟨b, G1, e1, e, x⟩
theorem PostE.run {m : E} {Q : VK} {G1 : Hp} {e1 : Env} (r1 : Rel g.fa g.K F G1 io e1 σ H) (x : Go F G env G1 e1) (p : PostE g F G io env σ (evE g.C m e1) Q) : RE g m σ H Q := ⟨F, G1, io, e1, r1, p.later x⟩
theorem PostT.run {m : E} {Q : Bool → Hp → Prop} {G1 : Hp} {e1 : Env} (r1 : Rel g.fa g.K F G1 io e1 σ H) (x : Go F G env G1 e1) (p : PostT g F G io env σ (evE g.C m e1) Q) : RT g m σ H Q := ⟨F, G1, io, e1, r1, PostT.later p x⟩
theorem full0 {e1 : Env} {d : D} : Full e1 [.fz d] := fun i hi => by simp at hi
theorem full1 {e1 : Env} {d : D} : Full e1 [.fr d] := fun i hi => by simp at hi

theorem RE.ite {c a b : E} {Q : VK} (h : RE g (.ite c a b) σ H Q) : RT g c σ H fun t H1 => if t = true then RE g a σ H1 Q else RE g b σ H1 Q := by
  obtain ⟨F, G, io, env, r0, p⟩ := h
  refine (RT.tst (P := fun r => PostE g F G io env σ r Q) r0 id (fun _ _ _ h => h) p).mono fun t H1 ⟨G1, e1, r1, x1, p⟩ => ?_
  cases t with
  | true => exact PostE.run r1 x1 p
  | false => exact PostE.run r1 x1 p
theorem RT.ite {c a b : E} {Q : Bool → Hp → Prop} (h : RT g (.ite c a b) σ H Q) : RT g c σ H fun t H1 => if t = true then RT g a σ H1 Q else RT g b σ H1 Q := by
  obtain ⟨F, G, io, env, r0, p⟩ := h
  refine (RT.tst (P := fun r => PostT g F G io env σ r Q) r0 id (fun _ _ _ h => h) p).mono fun t H1 ⟨G1, e1, r1, x1, p⟩ => ?_
  cases t with
  | true => exact PostT.run r1 x1 p
  | false => exact PostT.run r1 x1 p
theorem RE.and {a b : E} {Q : VK} (h : RE g (.and a b) σ H Q) : RE g a σ H fun x H1 => ∃ c, x = .bl c ∧ if c = true then RE g b σ H1 Q else Q (.bl false) H1 := by
  obtain ⟨F, G, io, env, r0, p⟩ := h
  refine (RE.tst (P := fun r => PostE g F G io env σ r Q) r0 id (fun _ _ _ h => h) p).mono fun v H1 ⟨t, G1, e1, e, r1, x1, p⟩ => ⟨t, e, ?_⟩
  cases t with
  | true => exact PostE.run r1 x1 p
  | false => exact p _ H1 G1 r1 x1 (.bl false) full0
theorem RT.and {a b : E} {Q : Bool → Hp → Prop} (h : RT g (.and a b) σ H Q) : RT g a σ H fun c H1 => if c = true then RT g b σ H1 Q else Q false H1 := by
  obtain ⟨F, G, io, env, r0, p⟩ := h
  refine (RT.tst (P := fun r => PostT g F G io env σ r Q) r0 id (fun _ _ _ h => h) p).mono fun t H1 ⟨G1, e1, r1, x1, p⟩ => ?_
  cases t with
  | true => exact PostT.run r1 x1 p
  | false => exact p H1 G1 r1 x1
theorem RE.or {a b : E} {Q : VK} (h : RE g (.or a b) σ H Q) : RE g a σ H fun x H1 => ∃ c, x = .bl c ∧ if c = true then Q (.bl true) H1 else RE g b σ H1 Q := by
  obtain ⟨F, G, io, env, r0, p⟩ := h
  refine (RE.tst (P := fun r => PostE g F G io env σ r Q) r0 id (fun _ _ _ h => h) p).mono fun v H1 ⟨t, G1, e1, e, r1, x1, p⟩ => ⟨t, e, ?_⟩
  cases t with
  | false => exact PostE.run r1 x1 p
  | true => exact p _ H1 G1 r1 x1 (.bl true) full0
theorem RT.or {a b : E} {Q : Bool → Hp → Prop} (h : RT g (.or a b) σ H Q) : RT g a σ H fun c H1 => if c = true then Q true H1 else RT g b σ H1 Q := by
  obtain ⟨F, G, io, env, r0, p⟩ := h
  refine (RT.tst (P := fun r => PostT g F G io env σ r Q) r0 id (fun _ _ _ h => h) p).mono fun t H1 ⟨G1, e1, r1, x1, p⟩ => ?_
  cases t with
  | false => exact PostT.run r1 x1 p
  | true => exact p H1 G1 r1 x1
theorem RE.not {a : E} {Q : VK} (h : RE g (.not a) σ H Q) : RE g a σ H fun x H1 => ∃ c, x = .bl c ∧ Q (.bl (!c)) H1 := by
  obtain ⟨F, G, io, env, r0, p⟩ := h
  refine (RE.tst (P := fun r => PostE g F G io env σ r Q) r0 id (fun _ _ _ h => h) p).mono fun v H1 ⟨t, G1, e1, e, r1, x1, p⟩ => ⟨t, e, ?_⟩
  exact p _ H1 G1 r1 x1 (.bl _) full0
theorem RT.not {a : E} {Q : Bool → Hp → Prop} (h : RT g (.not a) σ H Q) : RT g a σ H fun c H1 => Q (!c) H1 := by
  obtain ⟨F, G, io, env, r0, p⟩ := h
  refine (RT.tst (P := fun r => PostT g F G io env σ r Q) r0 id (fun _ _ _ h => h) p).mono fun t H1 ⟨G1, e1, r1, x1, p⟩ => ?_
  exact p H1 G1 r1 x1
theorem ifI_int {β : Type} {P : R β → Prop} {d : D} {f : Int → R β} (hs : ¬ P .stuck) (p : P (ifI d f)) : ∃ i, d = .int i ∧ P (f i) := by
  cases d with
  | int i => exact ⟨i, rfl, p⟩
  | _ => exact absurd p hs
theorem ifL_ow {β : Type} {P : R β → Prop} {d : Sl} {f : List D → R β} (hs : ¬ P .stuck) (p : P (ifL d f)) : ∃ i, d = .ow i ∧ P (f i) := by
  cases d with
  | ow i => exact ⟨i, rfl, p⟩
  | _ => exact absurd p hs
theorem ifS_some {α β : Type} {P : R β → Prop} {d : Option α} {f : α → R β} (hs : ¬ P .stuck) (p : P (ifS d f)) : ∃ i, d = some i ∧ P (f i) := by
  cases d with
  | some i => exact ⟨i, rfl, p⟩
  | _ => exact absurd p hs
theorem OR.int {o : O} {v : V} {i : Int} (r : Rel g.fa g.K F G io env σ H) (h : OR g.fa g.K F G env σ H o v) (f : Full env [o]) (e : o.view env = .int i) : v = .int i := by
  have w := view1 r h f
  rw [e] at w
  exact w.int
theorem RE.chain {o1 o2 : Op} {a b c : E} {Q : VK} (h : RE g (.chain o1 o2 a b c) σ H Q) : RE g a σ H fun x H1 => RE g b σ H1 fun y H2 => ∃ i j, x = .int i ∧ y = .int j ∧
    if cmpI o1 i j = true then RE g c σ H2 fun z H3 => ∃ l, z = .int l ∧ Q (.bl (cmpI o2 j l)) H3 else Q (.bl false) H2 := by
  obtain ⟨F, G, io, env, r0, p⟩ := h
  refine (RE.one (P := fun r => PostE g F G io env σ r Q) r0 id (fun _ _ _ h => h) p).mono fun v H1 ⟨G1, oa, e1, r1, x1, q1, f1, p⟩ => ?_
  obtain ⟨i, ei, p⟩ := ifI_int (P := fun r => PostE g F G io env σ r Q) id p
  have vi := OR.int r1 q1 f1 ei
  refine (RE.one (P := fun r => PostE g F G io env σ r Q) r1 id (fun _ _ _ h => XP.later h x1.x) p).mono fun u H2 ⟨G2, ob, e2, r2, x2, q2, f2, p⟩ => ?_
  obtain ⟨j, ej, p⟩ := ifI_int (P := fun r => PostE g F G io env σ r Q) id p
  refine ⟨i, j, vi, OR.int r2 q2 f2 ej, ?_⟩
  by_cases hc : cmpI o1 i j = true
  · rw [if_pos hc] at p ⊢
    refine (RE.one (P := fun r => PostE g F G io env σ r Q) r2 id (fun _ _ _ h => XP.later h (x1.trans x2).x) p).mono fun w H3 ⟨G3, oc, e3, r3, x3, q3, f3, p⟩ => ?_
    obtain ⟨l, el, p⟩ := ifI_int (P := fun r => PostE g F G io env σ r Q) id p
    exact ⟨l, OR.int r3 q3 f3 el, p _ H3 G3 r3 ((x1.trans x2).trans x3) (.bl _) full0⟩
  · rw [if_neg hc] at p ⊢
    exact p _ H2 G2 r2 (x1.trans x2) (.bl _) full0

theorem RE.call {f : Nat} {a : E} {Q : VK} (h : RE g (.call f a) σ H Q) : RA g a σ H fun vs H1 => g.C.io f = false ∧ spN g.fa g.K g.ex (g.C.call f) vs H1 Q fun cls dd H' => g.W cls dd σ H' := by
  obtain ⟨F, G, io, env, r0, p⟩ := h
  refine (RA.all (P := fun r => PostE g F G io env σ r Q) r0 id (fun _ _ _ h => h) p).mono fun vs H1 ⟨G1, os, e1, r1, x1, q1, f1, p⟩ => ?_
  by_cases hi : g.C.io f = true
  · rw [if_pos hi] at p; exact p.elim
  rw [if_neg hi] at p
  refine ⟨by simpa using hi, ?_⟩
  obtain ⟨G2, r2, x2, dd⟩ := r1.settle q1 f1
  refine ⟨G2, _, r2.gh, dd, ?_⟩
  cases qc : g.C.call f (os.map (O.view e1)) with
  | stuck => rw [qc] at p; exact p
  | exc k x i =>
    rw [qc] at p
    intro cls d H' G' gr ex
    exact p H' G' (r2.ext gr) (x1.x.trans (x2.trans (gr.ext r2.fh))) cls d ex
  | ok d fr i =>
    rw [qc] at p
    intro v H' G' gr rv
    have p : PostE g F G io env σ (if scalar d then .ok [.fz d] e1 else .ok [if fr then .fr d else .fz d] (freezeO e1 os)) Q := p
    by_cases hs : scalar d = true
    · rw [if_pos hs] at p
      have dv : ∀ G, Dg g.fa g.K G v d := fun G => by
        cases fr with
        | false => exact Dg.scalar (G := G') rv hs
        | true => 
          obtain ⟨p, rfl, h1, h2, h3⟩ := rv
          cases d with
          | lst _ => cases hs
          | dic _ => cases hs
          | _ => exact h3.elim
      have gr1 : Grow G1 H1 G1 H' := ⟨gr.same, .refl _, r1.gh.trans (.of gr.same), fun _ _ h => h⟩
      exact p v H' G1 (r1.ext gr1) x1 (dv _) full0
    · rw [if_neg hs] at p
      have hg : Go F G env G' (freezeO e1 os) := ⟨x1.x.trans (x2.trans (gr.ext r2.fh)), fun i h => freezeO_no os (x1.keep i h)⟩
      obtain ⟨oo, ff⟩ := RV.or (g := g) r2 gr (o := if fr then .fr d else .fz d) (v := v) rv
      exact p v H' G' (r2.ext gr) hg oo ff
theorem RE.orL {a b : E} {Q : VK} (h : RE g (.orL a b) σ H Q) : RE g a σ H fun x H1 => ∃ k, TruV g.K x H1 k ∧ if k = true then Q x H1 else RE g b σ H1 Q := by
  obtain ⟨F, G, io, env, r0, p⟩ := h
  refine (RE.one (P := fun r => PostE g F G io env σ r Q) r0 id (fun _ _ _ h => h) p).mono fun v H1 ⟨G1, o, e1, r1, x1, q1, f1, p⟩ => ?_
  have w := view1 r1 q1 f1
  cases qv : o.view e1 with
  | lst ds =>
    rw [qv] at w
    obtain ⟨a, vs, rfl, h1, h2⟩ := w.lst r1.gh
    refine ⟨!vs.isEmpty, .inl ⟨vs, .inl (.inl h1), rfl⟩, ?_⟩
    cases h2 with
    | nil => rw [qv] at p; exact PostE.run r1 x1 p
    | cons _ _ => rw [qv] at p; exact p _ H1 G1 r1 x1 q1 f1
  | _ => rw [qv] at p; exact p.elim

theorem freezeO_keep {i : Nat} : ∀ (os : List O) {env : Env}, os.any (O.isSl i) = false → (freezeO env os).at i = env.at i
  | [], _, _ => rfl
  | .sl j :: r, env, h => by
    rw [List.any_cons, Bool.or_eq_false_iff] at h
    have hj : ¬ j = i := by simpa [O.isSl] using h.1
    rw [freezeO, freezeO_keep r h.2, Env.freeze_at, if_neg fun z => hj z.1]
  | .fz _ :: r, env, h => by
    rw [List.any_cons, Bool.or_eq_false_iff] at h
    exact freezeO_keep r h.2
  | .fr _ :: r, env, h => by
    rw [List.any_cons, Bool.or_eq_false_iff] at h
    exact freezeO_keep r h.2
theorem Rel.extI {fa : Nat → Addr} {K : PySem.W.Frag} {i : Nat} {a : Addr} {ws' : List V} {io' : List D} (r : Rel fa K F G io env σ H) (hi : (env.at i).own = true) (hs : σ[i]? = some (some (.ref a))) (x : GrowI a G H G' H')
    (h : H' a = some (.lst ws')) (dd : DgAll fa K G' ws' io') : Rel fa K F G' io (env.set i (.ow io')) σ H' ∧ Ext F G G' := by
  obtain ⟨a0, q1, q2, q3⟩ := r.own i hi
  rw [hs] at q1
  cases q1
  have fh : ∀ b u, F b = some u → H' b = some u := fun b u e => x.same b u (fun z => by rw [z, q3.1] at e; cases e) (r.fh b u e)
  have hl : i < env.length := Env.at_lt fun z => by rw [z] at hi; cases hi
  have ow : ∀ j, (Env.at (env.set i (.ow io')) j).own = true → (env.at j).own = true := fun j hj => by
    rw [Env.at_set] at hj
    by_cases e : i = j
    · subst e; exact hi
    · rw [if_neg e] at hj; exact hj
  refine ⟨⟨by rw [List.length_set]; exact r.len, x.gh, fh, fun j d e => ?_, fun j hj => ?_, fun j k c hj hk => r.sep j k c (ow j hj) (ow k hk), fun a e h => r.io a e (ow 0 h)⟩, ⟨x.sup, fun b h1 h2 => x.new b (fun z => ?_) h2⟩⟩
  · rw [Env.at_set] at e
    by_cases q : i = j
    · rw [if_pos q, if_pos hl] at e; cases e
    · rw [if_neg q] at e
      obtain ⟨v, z1, z2⟩ := r.fz j d e
      exact ⟨v, z1, z2.mono x.sup⟩
  · by_cases q : i = j
    · subst q
      rw [Env.at_set, if_pos rfl, if_pos hl]
      exact ⟨a, hs, ⟨ws', h, dd⟩, q3.1, x.new a q2.there q3.2⟩
    · have hj' := ow j hj
      obtain ⟨c, z1, z2, z3⟩ := r.own j hj'
      have hc : c ≠ a := fun z => q (r.sep i j a hi hj' hs (by rw [z1, z]))
      rw [Env.at_set, if_neg q]
      exact ⟨c, z1, z2.mono x.sup fun u e => x.same c u hc e, z3.1, x.new c z2.there z3.2⟩
  · cases e : F b with
    | none => exact h1 e
    | some u => rw [r.fh b u e] at z; cases z
theorem RE.ioc {f i : Nat} {a : E} {Q : VK} (h : RE g (.io f i a) σ H Q) : ∃ v, σ[i]? = some (some v) ∧ RA g a σ H fun vs H1 => g.C.io f = true ∧ spI g.fa g.K g.ex (g.C.call f) (v :: vs) H1 Q fun cls dd H' => g.W cls dd σ H' := by
  obtain ⟨F, G, io, env, r0, p⟩ := h
  obtain ⟨xs0, ei, p⟩ := ifL_ow (P := fun r => PostE g F G io env σ r Q) id p
  obtain ⟨a0, s0, i0, f0⟩ := r0.own i (by rw [ei]; rfl)
  refine ⟨_, s0, (RA.all (P := fun r => PostE g F G io env σ r Q) r0 id (fun _ _ _ h => h) p).mono fun vs H1 ⟨G1, os, e1, r1, x1, q1, f1, p⟩ => ?_⟩
  by_cases hi : g.C.io f = true
  · rw [if_pos hi] at p
    refine ⟨hi, ?_⟩
    obtain ⟨xs, ei, p⟩ := ifL_ow (P := fun r => PostE g F G io env σ r Q) id p
    by_cases hn : os.any (O.isSl i) = true
    · rw [if_pos hn] at p; exact p.elim
    rw [if_neg hn] at p
    obtain ⟨G2, r2, x2, dd⟩ := r1.settle q1 f1
    have ei2 : (freezeO e1 os).at i = .ow xs := by rw [freezeO_keep os (by simpa using hn), ei]
    have hown : ((freezeO e1 os).at i).own = true := by rw [ei2]; rfl
    obtain ⟨a1, s1, i1, f1'⟩ := r2.own i hown
    rw [s0] at s1
    cases s1
    rw [ei2] at i1
    obtain ⟨ws, i1, i2⟩ := i1
    refine ⟨G2, a0, ws, vs, xs, _, rfl, r2.gh, i1, i2, f1'.2, dd, ?_⟩
    have keep : ∀ io' j, e1.at j ≠ .no → Env.at ((freezeO e1 os).set i (.ow io')) j ≠ .no := fun io' j h => by
      rw [Env.at_set]
      by_cases q : i = j
      · rw [if_pos q, if_pos (Env.at_lt (by rw [ei2]; simp))]; simp
      · rw [if_neg q]; exact freezeO_no os h
    cases qc : g.C.call f (.lst xs :: os.map (O.view e1)) with
    | stuck => rw [qc] at p; exact p
    | exc k x io' =>
      rw [qc] at p
      intro cls d H' G' ws' gr h1 h2 ex
      obtain ⟨r3, x3⟩ := r2.extI hown s0 gr h1 h2
      exact p H' G' r3 (x1.x.trans (x2.trans x3)) cls d ex
    | ok d fr io' =>
      rw [qc] at p
      intro v H' G' ws' gr h1 h2 rv
      obtain ⟨r3, x3⟩ := r2.extI hown s0 gr h1 h2
      have hg : Go F G env G' ((freezeO e1 os).set i (.ow io')) := ⟨x1.x.trans (x2.trans x3), fun j h => keep io' j (x1.keep j h)⟩
      cases fr with
      | false => exact p v H' G' r3 hg rv full0
      | true =>
        refine p v H' G' r3 hg ?_ full1
        obtain ⟨b, rfl, z1, z2, z3⟩ := rv
        refine ⟨b, rfl, z3, ⟨?_, z2⟩, fun j hj e => ?_⟩
        · cases q : F b with
          | none => rfl
          | some u => rw [r2.fh b u q] at z1; cases z1
        · rw [Env.at_set] at hj
          by_cases q : i = j
          · subst q
            rw [s0] at e
            cases e
            rw [i1] at z1; cases z1
          · rw [if_neg q] at hj
            obtain ⟨c, y1, y2, y3⟩ := r2.own j hj
            rw [e] at y1
            cases y1
            exact y2.there z1
  · rw [if_neg hi] at p; exact p.elim
end
end Ev
end
section
set_option linter.all false
set_option maxRecDepth 100000
namespace Ev
open PySem PySem.Spec PyProof.Rows L2

def putS : List Nat → List V → L2.St → L2.St
  | i :: is, v :: vs, σ => putS is vs (σ.set i (some v))
  | _, _, σ => σ
def putE (is : List Nat) (ds : List D) (env : Env) : Env := (is.zip ds).foldl (fun e p => e.set p.1 (.fz p.2)) env
def Yd (fa : Nat → Addr) (K : PySem.W.Frag) (k : IK) (G : Hp) (v : V) (d : D) : Prop := Dg fa K G v d ∨ (pairK k = true ∧ ∃ a vs ds, v = .ref a ∧ d = .tup ds ∧ SqT K G a vs ∧ DgAll fa K G vs ds)
def RG (g : Gh) (t : T) : TG := fun v σ H Q => ∃ G d, Sup G H ∧ (Dg g.fa g.K G v d ∨ ∃ a vs ds, v = .ref a ∧ d = .tup ds ∧ SqT g.K G a vs ∧ DgAll g.fa g.K G vs ds) ∧ match t with
  | .nm i => Q (σ.set i (some v)) H
  | .tu is => ∃ ds, seqOf d = some ds ∧ ds.length = is.length ∧ ∀ vs, DgAll g.fa g.K G vs ds → Q (putS is vs σ) H
def gNames : List Nat → TGs
  | [] => gNil
  | i :: r => gCons (gName i) (gNames r)
structure Yields (fa : Nat → Addr) (K : PySem.W.Frag) (k : IK) (G0 : Hp) (J : It) (items : List D) : Prop where
  stop : ∀ G H, Sup G0 G → Sup G H → J.stop items.length H
  go : ∀ G H i d, Sup G0 G → Sup G H → items[i]? = some d → J.go i H
  yld : ∀ G H i d x H', Sup G0 G → Sup G H → items[i]? = some d → J.yld i H x H' → ∃ G', Grow G H G' H' ∧ Yd fa K k G' x d
def PostI (g : Gh) (F G : Hp) (io : Option Addr) (env : Env) (σ : L2.St) (k : IK) (r : R (List O)) (Q : It → Hp → Prop) : Prop := match r with
  | .ok os e1 => ∃ items, itSem k (os.map (O.view e1)) = some items ∧ ∀ J H' G', Rel g.fa g.K F G' io (freezeO e1 os) σ H' → Go F G env G' (freezeO e1 os) → Yields g.fa g.K k G' J items → Q J H'
  | .exc k a e => XP g F G io σ k a e
  | .stuck => False
def RI (g : Gh) (k : IK) (m : E) : TI := fun σ H Q => ∃ F G io env, Rel g.fa g.K F G io env σ H ∧ PostI g F G io env σ k (evE g.C m env) Q
def PostS (g : Gh) (F G : Hp) (io : Option Addr) (r : R Fl) (D : Ends) : Prop := match r with
  | .ok .nx e => ∀ σ' H' G', Rel g.fa g.K F G' io e σ' H' → Ext F G G' → D.nx σ' H'
  | .ok .bk e => ∀ σ' H' G', Rel g.fa g.K F G' io e σ' H' → Ext F G G' → D.bk σ' H'
  | .ok .ct e => ∀ σ' H' G', Rel g.fa g.K F G' io e σ' H' → Ext F G G' → D.ct σ' H'
  | .ok (.rt d fr) e => ∀ v σ' H' G', Rel g.fa g.K F G' io e σ' H' → Ext F G G' → OR g.fa g.K F G' e σ' H' (if fr then .fr d else .fz d) v → D.rt v H'
  | .exc k a e => ∀ σ' H' G', Rel g.fa g.K F G' io e σ' H' → Ext F G G' → ∀ cls dd, g.ex k a cls dd H' → g.W cls dd σ' H'
  | .stuck => False
def RS (g : Gh) (b : Bool) (s : S) : TS := fun D σ H => ∃ F G io env, (io ≠ none → b = true) ∧ Rel g.fa g.K F G io env σ H ∧ PostS g F G io (evS g.C s env) D
section
variable {g : Gh} {F F' G G' H H' : Hp} {io : Option Addr} {env env' : Env} {σ : L2.St} {b : Bool}

theorem PostS.later {r : R Fl} {D : Ends} {G1 : Hp} (p : PostS g F G io r D) (x : Ext F G G1) : PostS g F G1 io r D := by
  cases r with
  | stuck => exact p
  | exc k a e => exact fun σ' H' G' r y => p σ' H' G' r (x.trans y)
  | ok f e =>
    cases f with
    | rt d fr => exact fun v σ' H' G' r y => p v σ' H' G' r (x.trans y)
    | nx => exact fun σ' H' G' r y => p σ' H' G' r (x.trans y)
    | bk => exact fun σ' H' G' r y => p σ' H' G' r (x.trans y)
    | ct => exact fun σ' H' G' r y => p σ' H' G' r (x.trans y)
theorem PostS.exc {D : Ends} : ∀ k x e, PostS g F G io (.exc k x e) D → XP g F G io σ k x e := fun _ _ _ p H' G' r y => p σ H' G' r y
theorem PostS.run {s : S} {D : Ends} {G1 : Hp} {e1 : Env} (hb : io ≠ none → b = true) (r1 : Rel g.fa g.K F G1 io e1 σ H) (x : Ext F G G1) (p : PostS g F G io (evS g.C s e1) D) : RS g b s D σ H := ⟨F, G1, io, e1, hb, r1, p.later x⟩

theorem PostS.mono {r : R Fl} {D D' : Ends} (p : PostS g F G io r D) (h1 : ∀ σ H, D.nx σ H → D'.nx σ H) (h2 : ∀ v H, D.rt v H → D'.rt v H) (h3 : ∀ σ H, D.bk σ H → D'.bk σ H) (h4 : ∀ σ H, D.ct σ H → D'.ct σ H) : PostS g F G io r D' := by
  cases r with
  | stuck => exact p
  | exc k a e => exact p
  | ok f e =>
    cases f with
    | rt d fr => exact fun v σ' H' G' r y q => h2 _ _ (p v σ' H' G' r y q)
    | nx => exact fun σ' H' G' r y => h1 _ _ (p σ' H' G' r y)
    | bk => exact fun σ' H' G' r y => h3 _ _ (p σ' H' G' r y)
    | ct => exact fun σ' H' G' r y => h4 _ _ (p σ' H' G' r y)
theorem RI.mono' {k : IK} {m : E} {Q Q' : It → Hp → Prop} (h : RI g k m σ H Q) (hq : ∀ J H', Q J H' → Q' J H') : RI g k m σ H Q' := by
  obtain ⟨F, G, io, env, r0, p⟩ := h
  refine ⟨F, G, io, env, r0, ?_⟩
  cases q : evE g.C m env with
  | stuck => rw [q] at p; exact p
  | exc k x e => rw [q] at p; exact p
  | ok os e1 =>
    rw [q] at p
    obtain ⟨items, ei, p⟩ := p
    exact ⟨items, ei, fun J H' G' a b c => hq _ _ (p J H' G' a b c)⟩
theorem RS.nop {D : Ends} (h : RS g b .nop D σ H) : D.nx σ H := by
  obtain ⟨F, G, io, env, hb, r0, p⟩ := h
  exact p σ H G r0 (.refl F G)
theorem RS.nev {D : Ends} (h : RS g b .nev D σ H) : False := by
  obtain ⟨F, G, io, env, hb, r0, p⟩ := h
  exact p
theorem RS.brk {D : Ends} (h : RS g b .brk D σ H) : D.bk σ H := by
  obtain ⟨F, G, io, env, hb, r0, p⟩ := h
  exact p σ H G r0 (.refl F G)
theorem RS.cnt {D : Ends} (h : RS g b .cnt D σ H) : D.ct σ H := by
  obtain ⟨F, G, io, env, hb, r0, p⟩ := h
  exact p σ H G r0 (.refl F G)
theorem RS.seq {s t : S} {D : Ends} (h : RS g b (.seq s t) D σ H) : tSeq (RS g b s) (RS g b t) D σ H := by
  obtain ⟨F, G, io, env, hb, r0, p⟩ := h
  refine ⟨F, G, io, env, hb, r0, ?_⟩
  have p : PostS g F G io (thenF (evS g.C t) (evS g.C s env)) D := p
  revert p
  cases evS g.C s env with
  | stuck => exact id
  | exc k a e => exact id
  | ok f e =>
    cases f with
    | rt d fr => exact id
    | bk => exact id
    | ct => exact id
    | nx => exact fun p σ' H' G' r1 x1 => PostS.run hb r1 x1 p
theorem RS.expr {m : E} {D : Ends} (h : RS g b (.expr m) D σ H) : RE g m σ H fun _ H1 => D.nx σ H1 := by
  obtain ⟨F, G, io, env, hb, r0, p⟩ := h
  exact (RE.one (P := fun r => PostS g F G io r D) r0 id PostS.exc p).mono fun v H1 ⟨G1, o, e1, r1, x1, q1, f1, p⟩ => p σ H1 G1 r1 x1.x
theorem RS.asg {m : E} {i : Nat} {D : Ends} (hi : b = true → i ≠ 0) (h : RS g b (.asg i m) D σ H) : RE g m σ H fun v H1 => D.nx (σ.set i (some v)) H1 := by
  obtain ⟨F, G, io, env, hb, r0, p⟩ := h
  refine (RE.one (P := fun r => PostS g F G io r D) r0 id PostS.exc p).mono fun v H1 ⟨G1, o, e1, r1, x1, q1, f1, p⟩ => ?_
  obtain ⟨G2, r2, x2⟩ := r1.store q1 f1 fun h => hi (hb h)
  exact p _ H1 G2 r2 (x1.x.trans x2)
theorem RS.ite {c : E} {s t : S} {D : Ends} (h : RS g b (.ite c s t) D σ H) : RT g c σ H fun k H1 => if k = true then RS g b s D σ H1 else RS g b t D σ H1 := by
  obtain ⟨F, G, io, env, hb, r0, p⟩ := h
  refine (RT.tst (P := fun r => PostS g F G io r D) r0 id PostS.exc p).mono fun k H1 ⟨G1, e1, r1, x1, p⟩ => ?_
  cases k with
  | true => exact PostS.run hb r1 x1.x p
  | false => exact PostS.run hb r1 x1.x p
theorem RS.ret {m : E} {D : Ends} (h : RS g b (.ret m) D σ H) : RE g m σ H D.rt := by
  obtain ⟨F, G, io, env, hb, r0, p⟩ := h
  refine (RE.one (P := fun r => PostS g F G io r D) r0 id PostS.exc p).mono fun v H1 ⟨G1, o, e1, r1, x1, q1, f1, p⟩ => ?_
  cases o with
  | fz d => exact p v σ H1 G1 r1 x1.x q1
  | fr d => exact p v σ H1 G1 r1 x1.x q1
  | sl j =>
    have q : σ[j]? = some (some v) := q1
    cases ho : (e1.at j).own with
    | false =>
      have p : PostS g F G io (.ok (.rt (e1.at j).d (e1.at j).own) (if (e1.at j).own = true then e1.set j .no else e1)) D := p
      rw [ho] at p
      have w := view1 r1 q1 f1
      refine p v σ H1 G1 r1 x1.x ?_
      cases e : e1.at j with
      | no => exact absurd e (f1 j (List.mem_singleton.mpr rfl))
      | fz d => exact r1.at e q
      | ow _ => rw [e] at ho; cases ho
      | od _ => rw [e] at ho; cases ho
    | true =>
      have p : PostS g F G io (.ok (.rt (e1.at j).d (e1.at j).own) (if (e1.at j).own = true then e1.set j .no else e1)) D := p
      rw [ho] at p
      obtain ⟨a, z1, z2, z3⟩ := r1.own j ho
      rw [q] at z1
      cases z1
      have ow : ∀ k, (Env.at (e1.set j .no) k).own = true → j ≠ k ∧ (e1.at k).own = true := fun k hk => by
        rw [Env.at_set] at hk
        by_cases e : j = k
        · rw [if_pos e] at hk; split at hk <;> cases hk
        · rw [if_neg e] at hk; exact ⟨e, hk⟩
      have r2 : Rel g.fa g.K F G1 io (e1.set j .no) σ H1 := by
        refine ⟨by rw [List.length_set]; exact r1.len, r1.gh, r1.fh, fun k d e => ?_, fun k hk => ?_, fun k l c hk hl => r1.sep k l c (ow k hk).2 (ow l hl).2, fun c e h => r1.io c e (ow 0 h).2⟩
        · rw [Env.at_set] at e
          by_cases z : j = k
          · rw [if_pos z] at e; split at e <;> cases e
          · rw [if_neg z] at e; exact r1.fz k d e
        · obtain ⟨z, hk'⟩ := ow k hk
          rw [Env.at_set, if_neg z]
          exact r1.own k hk'
      refine p _ σ H1 G1 r2 x1.x ⟨a, rfl, z2, z3, fun k hk e => ?_⟩
      obtain ⟨z, hk'⟩ := ow k hk
      exact z (r1.sep j k a ho hk' q e)

theorem gNames_ok : ∀ {is : List Nat} {vs : List V} {σ : L2.St} {Q : L2.St → Hp → Prop}, vs.length = is.length → Q (putS is vs σ) H → gNames is vs σ H Q
  | [], [], _, _, _, q => ⟨rfl, q⟩
  | [], _ :: _, _, _, h, _ => nomatch h
  | _ :: _, [], _, _, h, _ => nomatch h
  | i :: is, v :: vs, σ, Q, h, q => ⟨v, vs, rfl, gNames_ok (Nat.succ.inj h) q⟩
theorem Rel.puts : ∀ {is : List Nat} {vs : List V} {ds : List D} {env : Env} {σ : L2.St}, Rel g.fa g.K F G io env σ H → DgAll g.fa g.K G vs ds → Rel g.fa g.K F G io (putE is ds env) (putS is vs σ) H
  | [], _, _, _, _, r, _ => r
  | _ :: _, _, _, _, _, r, .nil => r
  | i :: is, _, _, env, σ, r, .cons h t => Rel.puts (is := is) (r.setFz h) t
theorem Yd.nm {k : IK} {i : Nat} {v : V} {d : D} (h : Yd g.fa g.K k G v d) (hk : pairOk k (.nm i) = true) : Dg g.fa g.K G v d := by
  rcases h with h | ⟨h, _⟩
  · exact h
  · simp [pairOk, h, isTu] at hk
theorem bind_ok {t : T} {k : IK} {v : V} {d : D} {e1 : Env} {Q : L2.St → Hp → Prop} (hk : pairOk k t = true) (h : Yd g.fa g.K k G v d) (r : Rel g.fa g.K F G io env σ H) (e : bind1 t d env = some e1) (q : ∀ σ2, Rel g.fa g.K F G io e1 σ2 H → Q σ2 H) : RG g t v σ H Q := by
  refine ⟨G, d, r.gh, h.imp id (·.2), ?_⟩
  cases t with
  | nm i => cases e; exact q _ (r.setFz (h.nm hk))
  | tu is =>
    have e : (match seqOf d with
      | some ds => if ds.length = is.length then some (putE is ds env) else none
      | none => none) = some e1 := e
    cases qs : seqOf d with
    | none => rw [qs] at e; cases e
    | some ds =>
      rw [qs] at e
      by_cases hl : ds.length = is.length
      · simp only [if_pos hl] at e
        cases e
        exact ⟨ds, rfl, hl, fun vs hv => q _ (r.puts hv)⟩
      · simp only [if_neg hl] at e; cases e
theorem wipe_set {σ : L2.St} {v : Option V} : ∀ {vs : List Nat} {i : Nat}, i ∈ vs → wipe (σ.set i v) vs = wipe σ vs
  | [], _, h => absurd h (by simp)
  | j :: vs, i, h => by
    unfold wipe
    by_cases hi : i ∈ vs
    · rw [wipe_set hi]
    · have e : i = j := by
        rcases List.mem_cons.mp h with e | e
        · exact e
        · exact absurd e hi
      subst e
      have : ∀ {vs : List Nat}, i ∉ vs → wipe (σ.set i v) vs = (wipe σ vs).set i v := fun {vs} => by
        induction vs with
        | nil => intro _; rfl
        | cons k vs ih =>
          intro h
          unfold wipe
          have h1 : ¬ k = i := fun e => h (by rw [e]; exact List.mem_cons_self)
          rw [ih fun z => h (List.mem_cons_of_mem _ z), List.set_comm _ _ (fun e => h1 e.symm)]
      rw [this hi, List.set_set]
theorem wipe_puts {own : List Nat} : ∀ {is : List Nat} {vs : List V} {σ : L2.St}, (∀ i ∈ is, i ∈ own) → wipe (putS is vs σ) own = wipe σ own
  | [], _, _, _ => by unfold putS; rfl
  | _ :: _, [], _, _ => by unfold putS; rfl
  | i :: is, v :: vs, σ, h => by
    show wipe (putS is vs (σ.set i (some v))) own = _
    rw [wipe_puts fun j hj => h j (List.mem_cons_of_mem _ hj), wipe_set (h i List.mem_cons_self)]
def tSl : T → List Nat
  | .nm i => [i]
  | .tu is => is
theorem bind_ok2 {t : T} {k : IK} {v : V} {d : D} {e1 : Env} {own : List Nat} {Q : L2.St → Hp → Prop} (hk : pairOk k t = true) (h : Yd g.fa g.K k G v d) (r : Rel g.fa g.K F G io env σ H) (e : bind1 t d env = some e1) (ht : ∀ i ∈ tSl t, i ∈ own)
    (q : ∀ σ2, Rel g.fa g.K F G io e1 σ2 H → wipe σ2 own = wipe σ own → Q σ2 H) : RG g t v σ H Q := by
  refine ⟨G, d, r.gh, h.imp id (·.2), ?_⟩
  cases t with
  | nm i => cases e; exact q _ (r.setFz (h.nm hk)) (wipe_set (ht i (by simp [tSl])))
  | tu is =>
    have e : (match seqOf d with
      | some ds => if ds.length = is.length then some (putE is ds env) else none
      | none => none) = some e1 := e
    cases qs : seqOf d with
    | none => rw [qs] at e; cases e
    | some ds =>
      rw [qs] at e
      by_cases hl : ds.length = is.length
      · simp only [if_pos hl] at e
        cases e
        exact ⟨ds, rfl, hl, fun vs hv => q _ (r.puts hv) (wipe_puts ht)⟩
      · simp only [if_neg hl] at e; cases e

theorem RS.unp {m : E} {t : T} {D : Ends} (h : RS g b (.unp t m) D σ H) : RE g m σ H fun v H1 => RG g t v σ H1 D.nx := by
  obtain ⟨F, G, io, env, hb, r0, p⟩ := h
  refine (RE.one (P := fun r => PostS g F G io r D) r0 id PostS.exc p).mono fun v H1 ⟨G1, o, e1, r1, x1, q1, f1, p⟩ => ?_
  obtain ⟨e2, eb, p⟩ := ifS_some (P := fun r => PostS g F G io r D) id p
  obtain ⟨G2, r2, x2, dg⟩ := r1.settle1 q1 f1
  exact bind_ok (k := .seq) rfl (.inl dg) r2 eb fun σ2 r3 => p σ2 H1 G2 r3 (x1.x.trans x2)

theorem RI.of {k : IK} {m : E} {f : List D → List O → Env → R Fl} {D : Ends} {F G : Hp} {io : Option Addr} {env : Env} (r0 : Rel g.fa g.K F G io env σ H)
    (p : PostS g F G io ((evE g.C m env).all fun os e1 => ifS (itSem k (os.map (O.view e1))) fun items => f items os e1) D) :
    RI g k m σ H fun J H1 => ∃ G1 os e1 items, Rel g.fa g.K F G1 io (freezeO e1 os) σ H1 ∧ Ext F G G1 ∧ Yields g.fa g.K k G1 J items ∧ PostS g F G io (f items os e1) D := by
  refine ⟨F, G, io, env, r0, ?_⟩
  cases q : evE g.C m env with
  | stuck => rw [q] at p; exact p
  | exc k x e => rw [q] at p; exact fun H' G' r y => p σ H' G' r y
  | ok os e1 =>
    rw [q] at p
    obtain ⟨items, ei, p⟩ := ifS_some (P := fun r => PostS g F G io r D) id p
    exact ⟨items, ei, fun J H' G' a b c => ⟨G', os, e1, items, a, b.x, c, p⟩⟩
theorem PostS.turn {next : Env → R Fl} {r : R Fl} {D : Ends} {G1 : Hp} (p : PostS g F G io (turnF next r) D) (x : Ext F G G1) :
    PostS g F G1 io r { D with
      nx := fun σ' H' => ∃ G2 e2, Rel g.fa g.K F G2 io e2 σ' H' ∧ Ext F G1 G2 ∧ PostS g F G io (next e2) D
      ct := fun σ' H' => ∃ G2 e2, Rel g.fa g.K F G2 io e2 σ' H' ∧ Ext F G1 G2 ∧ PostS g F G io (next e2) D
      bk := D.nx } := by
  cases r with
  | stuck => exact p
  | exc k a e => exact fun σ' H' G' r y => p σ' H' G' r (x.trans y)
  | ok f e =>
    cases f with
    | rt d fr => exact fun v σ' H' G' r y => p v σ' H' G' r (x.trans y)
    | nx => exact fun σ' H' G' r y => ⟨G', e, r, y, p⟩
    | ct => exact fun σ' H' G' r y => ⟨G', e, r, y, p⟩
    | bk => exact fun σ' H' G' r y => p σ' H' G' r (x.trans y)
theorem drop_get {α : Type} {l : List α} {i : Nat} {x : α} (h : l[i]? = some x) : l.drop i = x :: l.drop (i + 1) := by
  obtain ⟨h1, h2⟩ := List.getElem?_eq_some_iff.mp h
  rw [List.drop_eq_getElem_cons h1, h2]
theorem RS.for {k : IK} {m : E} {t : T} {s : S} {D : Ends} (hk : pairOk k t = true) (h : RS g b (.for t k m s) D σ H) : tFor (RI g k m) (RG g t) (RS g b s) D σ H := by
  obtain ⟨F, G, io, env, hb, r0, p⟩ := h
  refine RI.mono' (RI.of r0 p) fun J H1 ⟨G1, os, e1, items, r1, x1, y, p⟩ => ?_
  refine ⟨fun i m σ H => m = items.length - i ∧ i ≤ items.length ∧ ∃ G2 e2, Rel g.fa g.K F G2 io e2 σ H ∧ Ext F G G2 ∧ Sup G1 G2 ∧ PostS g F G io (forLoop t (evS g.C s) (items.drop i) e2) D,
    ⟨items.length, by simp, Nat.zero_le _, G1, _, r1, x1, .refl _, p⟩, ?_⟩
  rintro i m σ2 H2 ⟨rfl, hi, G2, e2, r2, x2, s2, p⟩
  by_cases hlt : i < items.length
  · have hg : items[i]? = some items[i] := List.getElem?_eq_getElem hlt
    rw [drop_get hg] at p
    obtain ⟨e3, eb, p⟩ := ifS_some (P := fun r => PostS g F G io r D) id p
    refine .inr ⟨y.go G2 H2 i _ s2 r2.gh hg, fun σ' H' => ∃ G3 e4, Rel g.fa g.K F G3 io e4 σ' H' ∧ Ext F G G3 ∧ Sup G1 G3 ∧ PostS g F G io (forLoop t (evS g.C s) (items.drop (i + 1)) e4) D, ?_, fun x H3 hy => ?_⟩
    · rintro σ' H' ⟨G3, e4, r4, x4, s4, p⟩
      exact ⟨items.length - (i + 1), by omega, rfl, hlt, G3, e4, r4, x4, s4, p⟩
    · obtain ⟨G3, gr, dg⟩ := y.yld G2 H2 i _ x H3 s2 r2.gh hg hy
      have r3 := r2.ext gr
      have x3 := x2.trans (gr.ext r2.fh)
      refine bind_ok hk dg r3 eb fun σ4 r4 => ⟨F, G3, io, e3, hb, r4, ?_⟩
      have pt := PostS.turn p x3
      have imp : ∀ σ' H', (∃ G2 e2, Rel g.fa g.K F G2 io e2 σ' H' ∧ Ext F G3 G2 ∧ PostS g F G io (forLoop t (evS g.C s) (items.drop (i + 1)) e2) D) → ∃ G3 e4, Rel g.fa g.K F G3 io e4 σ' H' ∧ Ext F G G3 ∧ Sup G1 G3 ∧ PostS g F G io (forLoop t (evS g.C s) (items.drop (i + 1)) e4) D :=
        fun σ' H' ⟨G5, e5, r5, x5, p5⟩ => ⟨G5, e5, r5, x3.trans x5, (s2.trans gr.sup).trans x5.sup, p5⟩
      exact PostS.mono pt imp (fun _ _ h => h) (fun _ _ h => h) imp
  · have e : i = items.length := by omega
    subst e
    rw [List.drop_length] at p
    exact .inl ⟨y.stop G2 H2 s2 r2.gh, p σ2 H2 G2 r2 x2⟩
theorem RS.while {c : E} {s : S} {D : Ends} (h : RS g b (.while c s) D σ H) : tWhile (RT g c) (RS g b s) D σ H := by
  obtain ⟨F, G, io, env, hb, r0, p⟩ := h
  refine ⟨fun m σ H => ∃ G2 e2, Rel g.fa g.K F G2 io e2 σ H ∧ Ext F G G2 ∧ PostS g F G io (whileLoop (evE g.C c) (evS g.C s) m e2) D, ⟨_, G, env, r0, .refl F G, p⟩, ?_⟩
  rintro m σ2 H2 ⟨G2, e2, r2, x2, p⟩
  cases m with
  | zero => exact p.elim
  | succ m =>
    refine (RT.tst (P := fun r => PostS g F G io r D) r2 id (fun k x e q => (PostS.exc k x e q).later x2) p).mono fun k H3 ⟨G3, e3, r3, x3, p⟩ => ?_
    cases k with
    | false => exact p σ2 H3 G3 r3 (x2.trans x3.x)
    | true =>
      rw [if_pos rfl] at p ⊢
      have y3 := x2.trans x3.x
      refine ⟨fun σ' H' => ∃ G5 e5, Rel g.fa g.K F G5 io e5 σ' H' ∧ Ext F G G5 ∧ PostS g F G io (whileLoop (evE g.C c) (evS g.C s) m e5) D, fun σ' H' ⟨G5, e5, r5, x5, p5⟩ => ⟨m, Nat.lt_succ_self m, G5, e5, r5, x5, p5⟩, F, G3, io, e3, hb, r3, ?_⟩
      have pt := PostS.turn p y3
      have imp : ∀ σ' H', (∃ G2 e2, Rel g.fa g.K F G2 io e2 σ' H' ∧ Ext F G3 G2 ∧ PostS g F G io (whileLoop (evE g.C c) (evS g.C s) m e2) D) → ∃ G5 e5, Rel g.fa g.K F G5 io e5 σ' H' ∧ Ext F G G5 ∧ PostS g F G io (whileLoop (evE g.C c) (evS g.C s) m e5) D :=
        fun σ' H' ⟨G5, e5, r5, x5, p5⟩ => ⟨G5, e5, r5, y3.trans x5, p5⟩
      exact PostS.mono pt imp (fun _ _ h => h) (fun _ _ h => h) imp
end
end Ev
end
section
set_option linter.all false
set_option maxRecDepth 100000
namespace Ev
open PySem PySem.Spec PyProof.Rows L2
section
variable {g : Gh} {F F' G G' H H' : Hp} {io : Option Addr} {env env' : Env} {σ : L2.St} {b : Bool}

theorem wipe_wipe {σ : L2.St} {vs : List Nat} : ∀ {us : List Nat}, (∀ i ∈ us, i ∈ vs) → wipe (wipe σ us) vs = wipe σ vs
  | [], _ => rfl
  | u :: us, h => by
    show wipe ((wipe σ us).set u none) vs = _
    rw [wipe_set (h u List.mem_cons_self), wipe_wipe fun i hi => h i (List.mem_cons_of_mem _ hi)]
theorem wipeE_at (env : Env) (j : Nat) : ∀ vs : List Nat, (wipeE env vs).at j = if j ∈ vs then .no else env.at j
  | [] => by simp [wipeE]
  | v :: vs => by
    rw [wipeE, Env.at_set, wipeE_at env j vs]
    by_cases h : v = j
    · subst h
      rw [if_pos rfl, if_pos List.mem_cons_self]
      split <;> rfl
    · rw [if_neg h]
      by_cases h2 : j ∈ vs
      · rw [if_pos h2, if_pos (List.mem_cons_of_mem _ h2)]
      · rw [if_neg h2, if_neg fun z => ?_]
        rcases List.mem_cons.mp z with z | z
        · exact h z.symm
        · exact h2 z
theorem wipeE_len (env : Env) : ∀ vs : List Nat, (wipeE env vs).length = env.length
  | [] => rfl
  | v :: vs => by rw [wipeE, List.length_set, wipeE_len env vs]
theorem backE_len (old env : Env) : ∀ vs : List Nat, (backE old env vs).length = env.length
  | [] => rfl
  | v :: vs => by rw [backE, List.length_set, backE_len old env vs]
theorem backE_at (old env : Env) (j : Nat) (hl : env.length = old.length) : ∀ vs : List Nat, (backE old env vs).at j = if j ∈ vs then old.at j else env.at j
  | [] => by simp [backE]
  | v :: vs => by
    rw [backE, Env.at_set, backE_at old env j hl vs]
    by_cases h : v = j
    · subst h
      rw [if_pos rfl, if_pos List.mem_cons_self, backE_len, hl]
      by_cases q : v < old.length
      · rw [if_pos q]
      · rw [if_neg q]
        cases e : Env.at old v with
        | no => rfl
        | _ => exact absurd (Env.at_lt (by rw [e]; simp)) q
    · rw [if_neg h]
      by_cases h2 : j ∈ vs
      · rw [if_pos h2, if_pos (List.mem_cons_of_mem _ h2)]
      · rw [if_neg h2, if_neg fun z => ?_]
        rcases List.mem_cons.mp z with z | z
        · exact h z.symm
        · exact h2 z
theorem freezeL_len : ∀ (vs : List Nat) (env : Env), (freezeL env vs).length = env.length
  | [], _ => rfl
  | v :: vs, env => by rw [freezeL, freezeL_len vs, Env.freeze_len]
theorem freezeL_no : ∀ (vs : List Nat) {env : Env} {j : Nat}, env.at j ≠ .no → (freezeL env vs).at j ≠ .no
  | [], _, _, h => h
  | v :: vs, env, j, h => freezeL_no vs (Env.freeze_no h)
theorem freezeL_own : ∀ (vs : List Nat) {env : Env} {j : Nat}, ((freezeL env vs).at j).own = true → (env.at j).own = true ∧ j ∉ vs
  | [], _, _, h => ⟨h, List.not_mem_nil⟩
  | v :: vs, env, j, h => by
    obtain ⟨h1, h2⟩ := freezeL_own vs (env := env.freeze v) h
    rw [Env.freeze_at] at h1
    split at h1
    · cases h1
    · rename_i q
      exact ⟨h1, fun z => by
        rcases List.mem_cons.mp z with z | z
        · exact q ⟨z.symm, h1⟩
        · exact h2 z⟩
theorem Rel.freezeL : ∀ (vs : List Nat) {G : Hp} {env : Env}, Rel g.fa g.K F G io env σ H → ∃ G', Rel g.fa g.K F G' io (freezeL env vs) σ H ∧ Ext F G G'
  | [], G, env, r => ⟨G, r, .refl F G⟩
  | v :: vs, G, env, r => by
    obtain ⟨G1, r1, x1, _⟩ := r.freeze v
    obtain ⟨G2, r2, x2⟩ := Rel.freezeL vs r1
    exact ⟨G2, r2, x1.trans x2⟩
theorem Rel.wipe (r : Rel g.fa g.K F G io env σ H) (vs : List Nat) : Rel g.fa g.K F G io (wipeE env vs) (wipe σ vs) H := by
  have at' : ∀ j, (wipeE env vs).at j ≠ .no → j ∉ vs ∧ (wipeE env vs).at j = env.at j := fun j h => by
    rw [wipeE_at] at h ⊢
    by_cases q : j ∈ vs
    · rw [if_pos q] at h; exact absurd rfl h
    · rw [if_neg q]; exact ⟨q, rfl⟩
  have own : ∀ j, ((wipeE env vs).at j).own = true → j ∉ vs ∧ (wipeE env vs).at j = env.at j := fun j h => at' j fun z => by rw [z] at h; cases h
  refine ⟨by rw [wipeE_len, wipe_length]; exact r.len, r.gh, r.fh, fun j d e => ?_, fun j hj => ?_, fun j k a hj hk e1 e2 => ?_, fun a e h => ?_⟩
  · obtain ⟨q, z⟩ := at' j (by rw [e]; simp)
    rw [z] at e
    rw [wipe_out q]
    exact r.fz j d e
  · obtain ⟨q, z⟩ := own j hj
    rw [z] at hj ⊢
    rw [wipe_out q]
    exact r.own j hj
  · obtain ⟨q, z⟩ := own j hj
    obtain ⟨q', z'⟩ := own k hk
    rw [z] at hj
    rw [z'] at hk
    rw [wipe_out q] at e1
    rw [wipe_out q'] at e2
    exact r.sep j k a hj hk e1 e2
  · obtain ⟨q, z⟩ := own 0 h
    rw [z] at h
    rw [wipe_out q]
    exact r.io a e h
theorem Rel.born (r : Rel g.fa g.K F G io env σ H) {p : Addr} {u : HO} (hp : H p = none) : Rel g.fa g.K (upd F p u) G io env σ (upd H p u) := by
  have s : Same H (upd H p u) := fun c o e => by rw [upd_ne (ne_of_none e hp)]; exact e
  refine ⟨r.len, r.gh.trans (.of s), fun c o e => ?_, r.fz, fun j hj => ?_, r.sep, r.io⟩
  · by_cases h : c = p
    · subst h; rw [upd_same] at e ⊢; exact e
    · rw [upd_ne h] at e ⊢; exact r.fh c o e
  · obtain ⟨a, h1, h2, h3⟩ := r.own j hj
    have ha : a ≠ p := fun z => h2.there (by rw [z]; exact hp)
    exact ⟨a, h1, h2.mono (.refl G) fun o e => s a o e, by rw [upd_ne ha]; exact h3.1, h3.2⟩
theorem Rel.poke {p : Addr} {u u' : HO} (r : Rel g.fa g.K (upd F p u) G io env σ H) (hp : G p = none) : Rel g.fa g.K (upd F p u') G io env σ (upd H p u') := by
  refine ⟨r.len, ⟨fun c xs hx e => ?_, fun c o e => ?_⟩, fun c o e => ?_, r.fz, fun j hj => ?_, r.sep, r.io⟩
  · rw [upd_ne (ne_of_none e hp)]; exact r.gh.ex c xs hx e
  · have hc : c ≠ p := fun z => by
      rcases e with e | ⟨o, e⟩ <;> rw [z, hp] at e <;> cases e
    rcases r.gh.rd c o e with q | ⟨z, q⟩
    · exact .inl (by rw [upd_ne hc]; exact q)
    · exact .inr ⟨z, by rw [upd_ne hc]; exact q⟩
  · by_cases h : c = p
    · subst h; rw [upd_same] at e ⊢; exact e
    · rw [upd_ne h] at e ⊢; exact r.fh c o (by rw [upd_ne h]; exact e)
  · obtain ⟨a, h1, h2, h3⟩ := r.own j hj
    have ha : a ≠ p := fun z => by have := h3.1; rw [z, upd_same] at this; cases this
    refine ⟨a, h1, h2.mono (.refl G) fun o e => by rw [upd_ne ha]; exact e, ?_, h3.2⟩
    have := h3.1
    rw [upd_ne ha] at this ⊢; exact this
theorem Ext.un {p : Addr} {u : HO} (x : Ext (upd F p u) G G') : Ext F G G' := ⟨x.sup, fun c h1 h2 => x.new c (fun z => by
  by_cases h : c = p
  · subst h; rw [upd_same] at z; cases z
  · rw [upd_ne h] at z; exact h1 z) h2⟩
theorem Ext.at_none {p : Addr} {u : HO} (x : Ext (upd F p u) G G') (h : G p = none) : G' p = none := x.new p (by rw [upd_same]; simp) h
theorem putE_no : ∀ {is : List Nat} {ds : List D} {env : Env} {j : Nat}, env.at j ≠ .no → (putE is ds env).at j ≠ .no
  | [], _, _, _, h => h
  | _ :: _, [], _, _, h => h
  | i :: is, d :: ds, env, j, h => putE_no (is := is) (ds := ds) (env := env.set i (.fz d)) (by
    rw [Env.at_set]
    by_cases q : i = j
    · subst q; rw [if_pos rfl, if_pos (Env.at_lt h)]; simp
    · rw [if_neg q]; exact h)
theorem bind1_no {t : T} {d : D} {e1 : Env} (e : bind1 t d env = some e1) {j : Nat} (h : env.at j ≠ .no) : e1.at j ≠ .no := by
  cases t with
  | nm i =>
    cases e
    rw [Env.at_set]
    by_cases q : i = j
    · subst q; rw [if_pos rfl, if_pos (Env.at_lt h)]; simp
    · rw [if_neg q]; exact h
  | tu is =>
    have e : (match seqOf d with
      | some ds => if ds.length = is.length then some (putE is ds env) else none
      | none => none) = some e1 := e
    cases qs : seqOf d with
    | none => rw [qs] at e; cases e
    | some ds =>
      rw [qs] at e
      by_cases hl : ds.length = is.length
      · simp only [if_pos hl] at e
        cases e
        exact putE_no h
      · simp only [if_neg hl] at e; cases e
theorem RI.ofP {β : Type} {P : R β → Prop} {k : IK} {m : E} {f : List D → List O → Env → R β} {F G : Hp} {io : Option Addr} {env : Env} (r0 : Rel g.fa g.K F G io env σ H) (hs : ¬ P .stuck)
    (hx : ∀ k x e, P (.exc k x e) → XP g F G io σ k x e) (p : P ((evE g.C m env).all fun os e1 => ifS (itSem k (os.map (O.view e1))) fun items => f items os e1)) :
    RI g k m σ H fun J H1 => ∃ G1 os e1 items, Rel g.fa g.K F G1 io (freezeO e1 os) σ H1 ∧ Go F G env G1 (freezeO e1 os) ∧ Yields g.fa g.K k G1 J items ∧ P (f items os e1) := by
  refine ⟨F, G, io, env, r0, ?_⟩
  cases q : evE g.C m env with
  | stuck => rw [q] at p; exact hs p
  | exc k x e => rw [q] at p; exact hx k x e p
  | ok os e1 =>
    rw [q] at p
    obtain ⟨items, ei, p⟩ := ifS_some (P := P) hs p
    exact ⟨items, ei, fun J H' G' a b c => ⟨G', os, e1, items, a, b, c, p⟩⟩

theorem comp_loop {vs : List Nat} {t : T} {k : IK} {tst elt : E} {D0 : Addr} {G1 : Hp} {J : It} {items dsF : List D} {eF : Env} {Z : Hp → Prop} {racc : List D} {acc : List V} (hk : pairOk k t = true) (ht : ∀ i ∈ tSl t, i ∈ vs)
    (r : Rel g.fa g.K (upd F D0 (.lst acc)) G io env (wipe σ vs) H) (hD : G D0 = none) (y : Yields g.fa g.K k G1 J items) (s1 : Sup G1 G) (dd : DgAll g.fa g.K G acc racc.reverse)
    (p : compLoop vs t (evE g.C tst) (evE g.C elt) items env racc = .ok dsF eF)
    (z : ∀ H' G' acc', Rel g.fa g.K (upd F D0 (.lst acc')) G' io eF (wipe σ vs) H' → Ext F G G' → G' D0 = none → DgAll g.fa g.K G' acc' dsF → (∀ j, j ∉ vs → env.at j ≠ .no → eF.at j ≠ .no) → Z H') :
    ∃ W : Nat → Nat → Hp → Prop, (∃ m, W 0 m H) ∧ ∀ i m H, W i m H →
      (J.stop i H ∧ Z H) ∨ (J.go i H ∧ ∃ Nx : Hp → Prop, (∀ H', Nx H' → ∃ m', m' < m ∧ W (i + 1) m' H') ∧ ∀ x H', J.yld i H x H' → RG g t x (wipe σ vs) H' fun σ2 H2 => wipe σ2 vs = wipe σ vs ∧ RT g tst σ2 H2 fun b H3 =>
        if b = true then RE g elt σ2 H3 fun y H4 => ∃ acc, H4 D0 = some (.lst acc) ∧ acc.length < sizeLine ∧ Nx (upd H4 D0 (.lst (acc ++ [y]))) else Nx H3) := by
  refine ⟨fun i m H => m = items.length - i ∧ i ≤ items.length ∧ ∃ G2 e2 acc2 racc2, Rel g.fa g.K (upd F D0 (.lst acc2)) G2 io e2 (wipe σ vs) H ∧ Ext F G G2 ∧ G2 D0 = none ∧ DgAll g.fa g.K G2 acc2 racc2.reverse ∧ (∀ j, j ∉ vs → env.at j ≠ .no → e2.at j ≠ .no) ∧
      compLoop vs t (evE g.C tst) (evE g.C elt) (items.drop i) e2 racc2 = .ok dsF eF, ⟨items.length, by simp, Nat.zero_le _, G, env, acc, racc, r, .refl F G, hD, dd, fun _ _ h => h, p⟩, ?_⟩
  rintro i m H2 ⟨rfl, hi, G2, e2, acc2, racc2, r2, x2, hD2, dd2, k2, p⟩
  have s2 : Sup G1 G2 := s1.trans x2.sup
  by_cases hlt : i < items.length
  · have hg : items[i]? = some items[i] := List.getElem?_eq_getElem hlt
    rw [drop_get hg] at p
    obtain ⟨e3, eb, p⟩ := ifS_some (P := fun r => r = .ok dsF eF) (fun h => nomatch h) p
    refine .inr ⟨y.go G2 H2 i _ s2 r2.gh hg, fun H' => ∃ G2 e2 acc2 racc2, Rel g.fa g.K (upd F D0 (.lst acc2)) G2 io e2 (wipe σ vs) H' ∧ Ext F G G2 ∧ G2 D0 = none ∧ DgAll g.fa g.K G2 acc2 racc2.reverse ∧ (∀ j, j ∉ vs → env.at j ≠ .no → e2.at j ≠ .no) ∧
      compLoop vs t (evE g.C tst) (evE g.C elt) (items.drop (i + 1)) e2 racc2 = .ok dsF eF, fun H' h => ⟨items.length - (i + 1), by omega, rfl, hlt, h⟩, fun x H3 hy => ?_⟩
    obtain ⟨G3, gr, dg⟩ := y.yld G2 H2 i _ x H3 s2 r2.gh hg hy
    have r3 := r2.ext gr
    have x3 := gr.ext r2.fh
    refine bind_ok2 hk dg r3 eb ht fun σ4 r4 w4 => ?_
    have w4 : wipe σ4 vs = wipe σ vs := by rw [w4, wipe_wipe fun _ h => h]
    refine ⟨w4, ?_⟩
    refine (RT.tst (P := fun r => r = .ok dsF eF) r4 (fun h => nomatch h) (fun _ _ _ h => nomatch h) p).mono fun k H5 ⟨G5, e5, r5, x5, p⟩ => ?_
    cases k with
    | false =>
      have p : compLoop vs t (evE g.C tst) (evE g.C elt) (items.drop (i + 1)) (wipeE e5 vs) racc2 = .ok dsF eF := p
      have x35 := x3.trans x5.x
      have r6 := r5.wipe vs
      rw [w4] at r6
      exact ⟨G5, _, acc2, racc2, r6, x2.trans x35.un, x35.at_none hD2, dd2.mono x35.sup, fun j hj h => by rw [wipeE_at, if_neg hj]; exact x5.keep j (bind1_no eb (k2 j hj h)), p⟩
    | true =>
      refine (RE.one (P := fun r => r = .ok dsF eF) r5 (fun h => nomatch h) (fun _ _ _ h => nomatch h) p).mono fun v H6 ⟨G6, o6, e6, r6, x6, q6, f6, p⟩ => ?_
      obtain ⟨G7, r7, x7, dg7⟩ := r6.settle1 q6 f6
      have x37 := x3.trans (x5.x.trans (x6.x.trans x7))
      by_cases hc : racc2.length < cap
      · have p : (if racc2.length < cap then compLoop vs t (evE g.C tst) (evE g.C elt) (items.drop (i + 1)) (wipeE (freezeO e6 [o6]) vs) (o6.view e6 :: racc2) else .stuck) = R.ok dsF eF := p
        rw [if_pos hc] at p
        refine ⟨acc2, r7.fh D0 _ upd_same, ?_, ?_⟩
        · rw [dd2.length, List.length_reverse, sizeLine_eq]; exact hc
        · have hD7 := x37.at_none hD2
          have r8 := (r7.poke (u' := .lst (acc2 ++ [v])) hD7).wipe vs
          rw [w4] at r8
          refine ⟨G7, _, _, _, r8, x2.trans x37.un, hD7, ?_, fun j hj h => ?_, p⟩
          · rw [List.reverse_cons]
            exact (dd2.mono x37.sup).append (.cons dg7 .nil)
          · rw [wipeE_at, if_neg hj]
            exact freezeO_no _ (x6.keep j (x5.keep j (bind1_no eb (k2 j hj h))))
      · have p : (if racc2.length < cap then compLoop vs t (evE g.C tst) (evE g.C elt) (items.drop (i + 1)) (wipeE (freezeO e6 [o6]) vs) (o6.view e6 :: racc2) else .stuck) = R.ok dsF eF := p
        rw [if_neg hc] at p
        cases p
  · have e : i = items.length := by omega
    subst e
    rw [List.drop_length] at p
    have p : R.ok racc2.reverse e2 = R.ok dsF eF := p
    cases p
    exact .inl ⟨y.stop G2 H2 s2 r2.gh, z H2 G2 acc2 r2 x2 hD2 dd2 k2⟩
theorem comp_back {Q : VK} {own : List Nat} {e0 eF : Env} {G0 G2 : Hp} {H0 : Hp} {ds : List D} {acc : List V} {D0 : Addr} (r0 : Rel g.fa g.K F G0 io (freezeL e0 own) σ H0) (hF : F D0 = none) (x0 : Go F G env G0 (freezeL e0 own))
    (p : PostE g F G io env σ (compEnd (freezeL e0 own) own (.ok ds eF)) Q) (r2 : Rel g.fa g.K (upd F D0 (.lst acc)) G2 io eF (wipe σ own) H) (x2 : Ext F G0 G2) (hD : G2 D0 = none) (dd : DgAll g.fa g.K G2 acc ds)
    (k : ∀ j, j ∉ own → (freezeL e0 own).at j ≠ .no → eF.at j ≠ .no) : Q (.ref D0) H := by
  have p : PostE g F G io env σ (if eF.length = (freezeL e0 own).length then .ok [.fr (.lst ds)] (backE (freezeL e0 own) eF own) else .stuck) Q := p
  by_cases hl : eF.length = (freezeL e0 own).length
  · rw [if_pos hl] at p
    have at' := backE_at (freezeL e0 own) eF (hl := hl) (vs := own)
    have ow : ∀ j, ((backE (freezeL e0 own) eF own).at j).own = true → j ∉ own ∧ (eF.at j).own = true := fun j h => by
      rw [at'] at h
      by_cases q : j ∈ own
      · rw [if_pos q] at h
        exact absurd q (freezeL_own own h).2
      · rw [if_neg q] at h
        exact ⟨q, h⟩
    have fF : ∀ a, (upd F D0 (.lst acc)) a = none → F a = none ∧ a ≠ D0 := fun a h => by
      have ha : a ≠ D0 := fun z => by rw [z, upd_same] at h; cases h
      rw [upd_ne ha] at h
      exact ⟨h, ha⟩
    have r3 : Rel g.fa g.K F G2 io (backE (freezeL e0 own) eF own) σ H := by
      refine ⟨by rw [backE_len, hl]; exact r0.len, r2.gh, fun b u e => r2.fh b u ?_, fun j d e => ?_, fun j hj => ?_, fun j k a hj hk h1 h2 => ?_, fun a e h => ?_⟩
      · rw [upd_ne (ne_of_none e hF)]; exact e
      · rw [at'] at e
        by_cases q : j ∈ own
        · rw [if_pos q] at e
          obtain ⟨v, h1, h2⟩ := r0.fz j d e
          exact ⟨v, h1, h2.mono x2.sup⟩
        · rw [if_neg q] at e
          obtain ⟨v, h1, h2⟩ := r2.fz j d e
          rw [wipe_out q] at h1
          exact ⟨v, h1, h2⟩
      · obtain ⟨q, h⟩ := ow j hj
        rw [at', if_neg q]
        obtain ⟨a, h1, h2, h3⟩ := r2.own j h
        rw [wipe_out q] at h1
        exact ⟨a, h1, h2, (fF a h3.1).1, h3.2⟩
      · obtain ⟨q, h⟩ := ow j hj
        obtain ⟨q', h'⟩ := ow k hk
        exact r2.sep j k a h h' (by rw [wipe_out q]; exact h1) (by rw [wipe_out q']; exact h2)
      · obtain ⟨q, h'⟩ := ow 0 h
        rw [← wipe_out q]
        exact r2.io a e h'
    refine p _ H G2 r3 (x0.trans ⟨x2, fun j h => ?_⟩) ⟨D0, rfl, ⟨acc, r2.fh D0 _ upd_same, dd⟩, ⟨hF, hD⟩, fun j hj e => ?_⟩ full1
    · rw [at']
      by_cases q : j ∈ own
      · rw [if_pos q]; exact h
      · rw [if_neg q]; exact k j q h
    · obtain ⟨q, h⟩ := ow j hj
      obtain ⟨a, h1, h2, h3⟩ := r2.own j h
      rw [wipe_out q, e] at h1
      cases h1
      exact (fF _ h3.1).2 rfl
  · rw [if_neg hl] at p; exact p.elim
theorem RE.comp {own : List Nat} {t : T} {k : IK} {src tst elt : E} {Q : VK} (hk : pairOk k t = true) (ht : ∀ i ∈ tSl t, i ∈ own) (h : RE g (.comp own t k src tst elt) σ H Q) : tLc (RI g k src) (RG g t) (RT g tst) (RE g elt) own σ H Q := by
  obtain ⟨F, G, io, env, r0, p⟩ := h
  refine (RI.ofP (P := fun r => PostE g F G io env σ r Q) r0 id (fun _ _ _ h => h) p).mono' fun J H1 ⟨G1, os, e1, items, r1, x1, y, p⟩ => ?_
  intro D0 hD0
  obtain ⟨G2, r2, x2⟩ := r1.freezeL own
  have g2 : Go F G env G2 (freezeL (freezeO e1 os) own) := x1.trans ⟨x2, fun j h => freezeL_no own h⟩
  cases q : compLoop own t (evE g.C tst) (evE g.C elt) items (wipeE (freezeL (freezeO e1 os) own) own) [] with
  | stuck => simp only [q] at p; exact p.elim
  | exc k a e => simp only [q] at p; exact p.elim
  | ok dsF eF =>
    simp only [q] at p
    have hF : F D0 = none := by
      cases e : F D0 with
      | none => rfl
      | some u => rw [r2.fh D0 u e] at hD0; cases hD0
    refine comp_loop (F := F) (G := G2) (io := io) (racc := []) (acc := []) (D0 := D0) hk ht ((r2.wipe own).born hD0) (r2.gh.none hD0) y x2.sup .nil q fun H' G' acc' r3 x3 hD3 dd3 k3 => ?_
    exact comp_back r2 hF g2 p r3 x3 hD3 dd3 fun j hj h => k3 j hj (by rw [wipeE_at, if_neg hj]; exact h)
theorem RE.comp2 {own : List Nat} {t t1 : T} {k k1 : IK} {src tst src1 tst1 elt : E} {Q : VK} (hk : pairOk k t = true) (hk1 : pairOk k1 t1 = true) (ht : ∀ i ∈ tSl t, i ∈ own) (ht1 : ∀ i ∈ tSl t1, i ∈ own) (h : RE g (.comp2 own (tSlots t1) t k src tst t1 k1 src1 tst1 elt) σ H Q) :
    tLc2 (RI g k src) (RG g t) (RT g tst) (RI g k1 src1) (RG g t1) (RT g tst1) (RE g elt) own (tSlots t1) σ H Q := by
  obtain ⟨F, G, io, env, r0, p⟩ := h
  refine (RI.ofP (P := fun r => PostE g F G io env σ r Q) r0 id (fun _ _ _ h => h) p).mono' fun J H1 ⟨G1, os, e1, items, r1, x1, y, p⟩ => ?_
  intro D0 hD0
  have ts : tSlots t1 = tSl t1 := by cases t1 <;> rfl
  obtain ⟨G2, r2, x2⟩ := r1.freezeL own
  have g2 : Go F G env G2 (freezeL (freezeO e1 os) own) := x1.trans ⟨x2, fun j h => freezeL_no own h⟩
  generalize hin : (fun (env : Env) (acc : List D) => (evE g.C src1 env).all fun os1 e1 => ifS (itSem k1 (os1.map (O.view e1))) fun items1 =>
        compLoop (tSlots t1) t1 (evE g.C tst1) (evE g.C elt) items1 (wipeE (freezeO e1 os1) (tSlots t1)) acc.reverse) = inner at p
  cases q : compLoop2 own t (evE g.C tst) inner items (wipeE (freezeL (freezeO e1 os) own) own) [] with
  | stuck => simp only [q] at p; exact p.elim
  | exc k a e => simp only [q] at p; exact p.elim
  | ok dsF eF =>
    simp only [q] at p
    have hF : F D0 = none := by
      cases e : F D0 with
      | none => rfl
      | some u => rw [r2.fh D0 u e] at hD0; cases hD0
    generalize hE0 : wipeE (freezeL (freezeO e1 os) own) own = E0 at q
    have r2' := (r2.wipe own).born (u := .lst []) hD0
    rw [hE0] at r2'
    refine ⟨fun i m H => m = items.length - i ∧ i ≤ items.length ∧ ∃ G3 e3 acc3 dacc3, Rel g.fa g.K (upd F D0 (.lst acc3)) G3 io e3 (wipe σ own) H ∧ Ext F G2 G3 ∧ G3 D0 = none ∧ DgAll g.fa g.K G3 acc3 dacc3 ∧ (∀ j, j ∉ own → E0.at j ≠ .no → e3.at j ≠ .no) ∧
      compLoop2 own t (evE g.C tst) inner (items.drop i) e3 dacc3 = .ok dsF eF, ⟨items.length, by simp, Nat.zero_le _, G2, E0, [], [], r2', .refl F G2, r2.gh.none hD0, .nil, fun _ _ h => h, q⟩, ?_⟩
    rintro i m H3 ⟨rfl, hi, G3, e3, acc3, dacc3, r3, x3, hD3, dd3, k3, q⟩
    have s3 : Sup G1 G3 := x2.sup.trans x3.sup
    by_cases hlt : i < items.length
    · have hg : items[i]? = some items[i] := List.getElem?_eq_getElem hlt
      rw [drop_get hg] at q
      obtain ⟨e4, eb, q⟩ := ifS_some (P := fun r => r = .ok dsF eF) (fun h => nomatch h) q
      refine .inr ⟨y.go G3 H3 i _ s3 r3.gh hg, fun H' => ∃ G3 e3 acc3 dacc3, Rel g.fa g.K (upd F D0 (.lst acc3)) G3 io e3 (wipe σ own) H' ∧ Ext F G2 G3 ∧ G3 D0 = none ∧ DgAll g.fa g.K G3 acc3 dacc3 ∧ (∀ j, j ∉ own → E0.at j ≠ .no → e3.at j ≠ .no) ∧
        compLoop2 own t (evE g.C tst) inner (items.drop (i + 1)) e3 dacc3 = .ok dsF eF, fun H' h => ⟨items.length - (i + 1), by omega, rfl, hlt, h⟩, fun x H4 hy => ?_⟩
      obtain ⟨G4, gr, dg⟩ := y.yld G3 H3 i _ x H4 s3 r3.gh hg hy
      have r4 := r3.ext gr
      have x4 := gr.ext r3.fh
      refine bind_ok2 hk dg r4 eb ht fun σ4 r5 w4 => ?_
      have w4 : wipe σ4 own = wipe σ own := by rw [w4, wipe_wipe fun _ h => h]
      refine ⟨w4, ?_⟩
      refine (RT.tst (P := fun r => r = .ok dsF eF) r5 (fun h => nomatch h) (fun _ _ _ h => nomatch h) q).mono fun k H5 ⟨G5, e5, r5, x5, q⟩ => ?_
      have x35 := x4.trans x5.x
      cases k with
      | false =>
        have q : compLoop2 own t (evE g.C tst) inner (items.drop (i + 1)) (wipeE e5 own) dacc3 = .ok dsF eF := q
        have r6 := r5.wipe own
        rw [w4] at r6
        exact ⟨G5, _, acc3, dacc3, r6, x3.trans x35.un, x35.at_none hD3, dd3.mono x35.sup, fun j hj h => by rw [wipeE_at, if_neg hj]; exact x5.keep j (bind1_no eb (k3 j hj h)), q⟩
      | true =>
        have q : (inner e5 dacc3).bind (fun acc' e6 => compLoop2 own t (evE g.C tst) inner (items.drop (i + 1)) (wipeE e6 own) acc') = .ok dsF eF := q
        subst hin
        refine (RI.ofP (P := fun r => R.bind r (fun acc' e6 => compLoop2 own t (evE g.C tst) _ (items.drop (i + 1)) (wipeE e6 own) acc') = .ok dsF eF) r5 (fun h => nomatch h) (fun _ _ _ h => nomatch h) q).mono' fun J1 H6 ⟨G6, os6, e6, items1, r6, x6, y1, q⟩ => ?_
        cases q2 : compLoop (tSlots t1) t1 (evE g.C tst1) (evE g.C elt) items1 (wipeE (freezeO e6 os6) (tSlots t1)) dacc3.reverse with
        | stuck => rw [q2] at q; exact nomatch q
        | exc k a e => rw [q2] at q; exact nomatch q
        | ok ds7 e7 =>
          rw [q2] at q
          have x36 := x35.trans x6.x
          refine ⟨_, (comp_loop (F := F) (G := G6) (io := io) (racc := dacc3.reverse) (acc := acc3) (D0 := D0) (vs := tSlots t1) (σ := σ4) hk1 (by rw [ts]; exact fun _ h => h) (r6.wipe _) (x36.at_none hD3) y1 (.refl _) (by rw [List.reverse_reverse]; exact dd3.mono x36.sup) q2 fun H' G' acc' r8 x8 hD8 dd8 k8 => ?_).choose_spec⟩
          have r9 := r8.wipe own
          rw [wipe_wipe (by rw [ts]; exact ht1), w4] at r9
          refine ⟨G', _, acc', ds7, r9, x3.trans (x36.un.trans x8), hD8, dd8, fun j hj h => ?_, q⟩
          rw [wipeE_at, if_neg hj]
          have hj1 : j ∉ tSlots t1 := fun z => hj (ht1 j (by rw [← ts]; exact z))
          refine k8 j hj1 ?_
          rw [wipeE_at, if_neg hj1]
          exact x6.keep j (x5.keep j (bind1_no eb (k3 j hj h)))
    · have e : i = items.length := by omega
      subst e
      rw [List.drop_length] at q
      have q : R.ok dacc3 e3 = R.ok dsF eF := q
      cases q
      refine .inl ⟨y.stop G3 H3 s3 r3.gh, comp_back r2 hF g2 p r3 x3 hD3 dd3 fun j hj h => k3 j hj ?_⟩
      rw [← hE0, wipeE_at, if_neg hj]
      exact h
end
end Ev
end
section
set_option linter.all false
set_option maxRecDepth 100000
namespace Ev
open PySem PySem.Spec PyProof.Rows L2
section
variable {g : Gh} {F F' G G' H H' : Hp} {io : Option Addr} {env env' : Env} {σ : L2.St} {b : Bool}

theorem Rel.rewrite {i : Nat} {a : Addr} {ws : List V} {ds : List D} (r : Rel g.fa g.K F G io env σ H) (hi : (env.at i).own = true) (hs : σ[i]? = some (some (.ref a))) (dd : DgAll g.fa g.K G ws ds) :
    Rel g.fa g.K F G io (env.set i (.ow ds)) σ (upd H a (.lst ws)) ∧ Ext F G G := by
  obtain ⟨a0, q1, q2, q3⟩ := r.own i hi
  rw [hs] at q1
  cases q1
  refine r.extI hi hs ⟨fun c u hc e => by rw [upd_ne hc]; exact e, .refl G, ⟨fun c xs hx e => ?_, fun c u e => ?_⟩, fun _ _ h => h⟩ upd_same dd
  · rw [upd_ne (ne_of_none e q3.2)]; exact r.gh.ex c xs hx e
  · have hc : c ≠ a := fun z => by
      rcases e with e | ⟨o, e⟩ <;> rw [z, q3.2] at e <;> cases e
    rcases r.gh.rd c u e with q | ⟨o, q⟩
    · exact .inl (by rw [upd_ne hc]; exact q)
    · exact .inr ⟨o, by rw [upd_ne hc]; exact q⟩
theorem own_ow {i : Nat} {ds : List D} (r : Rel g.fa g.K F G io env σ H) (e : env.at i = .ow ds) : ∃ a ws, σ[i]? = some (some (.ref a)) ∧ H a = some (.lst ws) ∧ DgAll g.fa g.K G ws ds := by
  obtain ⟨a, h1, h2, h3⟩ := r.own i (by rw [e]; rfl)
  rw [e] at h2
  obtain ⟨ws, h4, h5⟩ := h2
  exact ⟨a, ws, h1, h4, h5⟩
theorem ow_own {i : Nat} {ds : List D} {env : Env} (e : env.at i = .ow ds) : (env.at i).own = true := by rw [e]; rfl
theorem frO_own : ∀ (os : List O) {env : Env} {j : Nat}, ((freezeO env os).at j).own = true → (env.at j).own = true
  | [], _, _, h => h
  | .sl i :: r, env, j, h => Env.freeze_own (frO_own r h)
  | .fz _ :: r, env, j, h => frO_own r h
  | .fr _ :: r, env, j, h => frO_own r h

theorem RS.append {i : Nat} {m : E} {D : Ends} (h : RS g b (.append i m) D σ H) : ∃ v, σ[i]? = some (some v) ∧ tyV g.K "list" v H ∧ RE g m σ H fun y H2 => rAppend v [y] H2 fun _ H3 => D.nx σ H3 := by
  obtain ⟨F, G, io, env, hb, r0, p⟩ := h
  obtain ⟨xs0, ei, p⟩ := ifL_ow (P := fun r => PostS g F G io r D) id p
  obtain ⟨a, ws0, hs, ha, _⟩ := own_ow r0 ei
  refine ⟨_, hs, .inl ⟨rfl, ws0, .inl (.inl ha)⟩, (RE.one (P := fun r => PostS g F G io r D) r0 id PostS.exc p).mono fun v H1 ⟨G1, o, e1, r1, x1, q1, f1, p⟩ => ?_⟩
  obtain ⟨G2, r2, x2, dg⟩ := r1.settle1 q1 f1
  obtain ⟨xs, ei2, p⟩ := ifL_ow (P := fun r => PostS g F G io r D) id p
  obtain ⟨a2, ws, hs2, ha2, dd⟩ := own_ow r2 ei2
  rw [hs] at hs2
  cases hs2
  by_cases hc : xs.length < cap
  · rw [if_pos hc] at p
    refine ⟨a, ws, v, rfl, rfl, ha2, by rw [dd.length, sizeLine_eq]; exact hc, ?_⟩
    obtain ⟨r3, x3⟩ := r2.rewrite (ow_own ei2) hs (dd.append (.cons dg .nil))
    exact p σ _ G2 r3 (x1.x.trans x2)
  · rw [if_neg hc] at p; exact p.elim
theorem RS.extend {i : Nat} {m : E} {D : Ends} (h : RS g b (.extend i m) D σ H) : ∃ v, σ[i]? = some (some v) ∧ tyV g.K "list" v H ∧ RE g m σ H fun y H2 => rExtend v [y] H2 fun _ H3 => D.nx σ H3 := by
  obtain ⟨F, G, io, env, hb, r0, p⟩ := h
  obtain ⟨xs0, ei, p⟩ := ifL_ow (P := fun r => PostS g F G io r D) id p
  obtain ⟨a, ws0, hs, ha, _⟩ := own_ow r0 ei
  refine ⟨_, hs, .inl ⟨rfl, ws0, .inl (.inl ha)⟩, (RE.one (P := fun r => PostS g F G io r D) r0 id PostS.exc p).mono fun v H1 ⟨G1, o, e1, r1, x1, q1, f1, p⟩ => ?_⟩
  by_cases hsl : o.isSl i = true
  · rw [if_pos hsl] at p; exact p.elim
  rw [if_neg hsl] at p
  obtain ⟨G2, r2, x2, dg⟩ := r1.settle1 q1 f1
  obtain ⟨xs, ei2, p⟩ := ifL_ow (P := fun r => PostS g F G io r D) id p
  obtain ⟨a2, ws, hs2, ha2, dd⟩ := own_ow r2 ei2
  rw [hs] at hs2
  cases hs2
  cases qv : o.view e1 with
  | lst zs =>
    rw [qv] at p dg
    have p : PostS g F G io (if xs.length + zs.length ≤ cap then .ok .nx ((freezeO e1 [o]).set i (.ow (xs ++ zs))) else .stuck) D := p
    cases dg with
    | @lst c vz _ hz dz =>
      by_cases hc : xs.length + zs.length ≤ cap
      · rw [if_pos hc] at p
        refine ⟨a, c, ws, vz, rfl, rfl, ha2, r2.gh.lst _ _ hz, by rw [dd.length, dz.length, sizeLine_eq]; exact hc, ?_⟩
        obtain ⟨r3, x3⟩ := r2.rewrite (ow_own ei2) hs (dd.append dz)
        exact p σ _ G2 r3 (x1.x.trans x2)
      · rw [if_neg hc] at p; exact p.elim
  | _ => rw [qv] at p; exact p.elim
theorem atN_ixN : ∀ (n : Nat) (i : Int), atN n i = ixN n i := fun _ _ => rfl
theorem RS.seti {i : Nat} {k m : E} {D : Ends} (h : RS g b (.seti i k m) D σ H) : RE g m σ H fun v H1 => ∃ o, σ[i]? = some (some o) ∧ RE g k σ H1 fun j H2 => rSetL o j v H2 fun H3 => D.nx σ H3 := by
  obtain ⟨F, G, io, env, hb, r0, p⟩ := h
  refine (RE.one (P := fun r => PostS g F G io r D) r0 id PostS.exc p).mono fun v H1 ⟨G1, o, e1, r1, x1, q1, f1, p⟩ => ?_
  obtain ⟨G2, r2, x2, dg⟩ := r1.settle1 q1 f1
  obtain ⟨xs0, ei, p⟩ := ifL_ow (P := fun r => PostS g F G io r D) id p
  obtain ⟨a, ws0, hs, ha, _⟩ := own_ow r2 ei
  refine ⟨_, hs, (RE.one (P := fun r => PostS g F G io r D) r2 id (fun k x e q => (PostS.exc k x e q).later (x1.x.trans x2)) p).mono fun u H3 ⟨G3, ok, e3, r3, x3, q3, f3, p⟩ => ?_⟩
  obtain ⟨xs, ei2, p⟩ := ifL_ow (P := fun r => PostS g F G io r D) id p
  obtain ⟨j, ej, p⟩ := ifI_int (P := fun r => PostS g F G io r D) id p
  obtain ⟨xs', es, p⟩ := ifS_some (P := fun r => PostS g F G io r D) id p
  obtain ⟨a2, ws, hs2, ha2, dd⟩ := own_ow r3 ei2
  rw [hs] at hs2
  cases hs2
  unfold setAt at es
  cases en : atN xs.length j with
  | none => rw [en] at es; cases es
  | some n =>
    rw [en] at es
    cases es
    refine ⟨a, ws, j, n, rfl, OR.int r3 q3 f3 ej, ha2, by rw [dd.length, ← atN_ixN]; exact en, ?_⟩
    obtain ⟨r4, x4⟩ := r3.rewrite (ow_own ei2) hs (DgAll.set (dg.mono x3.x.sup) n dd)
    exact p σ _ G3 r4 (x1.x.trans (x2.trans x3.x))

def putR : List Nat → List V → L2.St → L2.St
  | i :: is, v :: vs, σ => (putR is vs σ).set i (some v)
  | _, _, σ => σ
def NoSl : List O → Prop
  | [] => True
  | .sl _ :: _ => False
  | _ :: r => NoSl r
theorem NoOwn.set {env : Env} {σ : L2.St} {a : Addr} {i : Nat} {s : Sl} {v : V} (h : NoOwn env σ a) (hv : s.own = true → v ≠ .ref a) (hl : env.length ≤ σ.length) : NoOwn (env.set i s) (σ.set i (some v)) a := fun j hj e => by
  rw [Env.at_set] at hj
  by_cases q : i = j
  · subst q
    rw [if_pos rfl] at hj
    by_cases hi : i < env.length
    · rw [if_pos hi] at hj
      rw [List.getElem?_set_self (Nat.lt_of_lt_of_le hi hl)] at e
      cases e
      exact hv hj rfl
    · rw [if_neg hi] at hj; cases hj
  · rw [if_neg q] at hj
    rw [List.getElem?_set_ne q] at e
    exact h j hj e
theorem par_ok : ∀ {is : List Nat} {os : List O} {vs : List V} {F' : Hp}, (∀ a, F' a = none → F a = none) → (io ≠ none → ∀ i ∈ is, i ≠ 0) → NoSl os → Rel g.fa g.K F G io env σ H → ORs g.fa g.K G env σ H F' os vs →
    Rel g.fa g.K F G io (parStore is os env) (putR is vs σ) H ∧ ∀ a, NoOwn env σ a → F' a ≠ none → NoOwn (parStore is os env) (putR is vs σ) a
  | [], os, vs, _, _, _, _, r, _ => ⟨by unfold parStore putR; exact r, fun a h _ => by unfold parStore putR; exact h⟩
  | _ :: _, [], [], _, _, _, _, r, _ => ⟨r, fun a h _ => h⟩
  | _ :: _, [], _ :: _, _, _, _, _, _, h => h.elim
  | _ :: _, _ :: _, [], _, _, _, _, _, h => h.elim
  | i :: is, o :: os, v :: vs, F', hF, hi, ns, r, ⟨h1, h2⟩ => by
    have h1' : OR g.fa g.K F G env σ H o v := by
      cases o with
      | fr d => obtain ⟨a, e, q1, q2, q3⟩ := h1; exact ⟨a, e, q1, ⟨hF a q2.1, q2.2⟩, q3⟩
      | fz d => exact h1
      | sl i => exact h1
    have ns' : NoSl os := by cases o <;> first | exact ns | exact ns.elim
    obtain ⟨r1, n1⟩ := par_ok (is := is) (os := os) (vs := vs) (F' := plus F' H o v) (fun a e => hF a (plus_none h1 e)) (fun z j hj => hi z j (List.mem_cons_of_mem _ hj)) ns' r h2
    have pl : ∀ a, F' a ≠ none → plus F' H o v a ≠ none := fun a q z => q (plus_none h1 z)
    cases o with
    | sl j => exact ns.elim
    | fz d => exact ⟨r1.setFz h1, fun a q z => (n1 a q (pl a z)).set (fun z => by cases z) r1.len⟩
    | fr d =>
      obtain ⟨c, rfl, q1, q2, q3⟩ := id h1
      have hc := n1 c q3 (plus_have (v := .ref c) h1)
      refine ⟨r1.setOwn ⟨c, rfl, q1, ⟨hF c q2.1, q2.2⟩, hc⟩ fun z => hi z i List.mem_cons_self, fun a q z => (n1 a q (pl a z)).set (fun _ e => ?_) r1.len⟩
      cases e
      exact z q2.1
theorem still_ok : ∀ {os : List O} {vs : List V} {F' : Hp} {G : Hp} {env : Env}, (∀ a, F' a = none → F a = none) → Rel g.fa g.K F G io env σ H → ORs g.fa g.K G env σ H F' os vs → Full env os →
    ∃ G', Rel g.fa g.K F G' io (freezeO env os) σ H ∧ Ext F G G' ∧ ORs g.fa g.K G' (freezeO env os) σ H F' (os.map (O.still env)) vs ∧ (∀ b, G b = none → (∀ i, (env.at i).own = true → σ[i]? ≠ some (some (.ref b))) → G' b = none)
  | [], [], F', G, env, _, r, _, _ => ⟨G, r, .refl F G, trivial, fun b h _ => h⟩
  | [], _ :: _, _, _, _, _, _, h, _ => h.elim
  | _ :: _, [], _, _, _, _, _, h, _ => h.elim
  | .fz d :: os, v :: vs, F', G, env, hF, r, ⟨h1, h2⟩, fu => by
    obtain ⟨G', r', x, oo, k⟩ := still_ok (F' := F') hF r h2 fun i hi => fu i (List.mem_cons_of_mem _ hi)
    exact ⟨G', r', x, ⟨Dg.mono x.sup h1, oo⟩, k⟩
  | .fr d :: os, v :: vs, F', G, env, hF, r, ⟨h1, h2⟩, fu => by
    obtain ⟨G', r', x, oo, k⟩ := still_ok (F' := plus F' H (.fr d) v) (fun a e => hF a (plus_none h1 e)) r h2 fun i hi => fu i (List.mem_cons_of_mem _ hi)
    obtain ⟨a, rfl, q1, q2, q3⟩ := h1
    refine ⟨G', r', x, ⟨⟨a, rfl, q1.mono x.sup fun _ q => q, ⟨q2.1, k a q2.2 q3⟩, fun j hj => q3 j (frO_own os hj)⟩, oo⟩, k⟩
  | .sl i :: os, v :: vs, F', G, env, hF, r, ⟨h1, h2⟩, fu => by
    obtain ⟨G1, r1, x1, k1⟩ := r.freeze i
    have h2' : ORs g.fa g.K G1 (env.freeze i) σ H F' os vs := ORs.know h2 x1.sup (fun b e1 e2 e3 e4 => k1 b e1 e4) fun j h => Env.freeze_own h
    obtain ⟨G', r', x, oo, k⟩ := still_ok (F' := F') hF r1 h2' fun j hj => Env.freeze_no (fu j (List.mem_cons_of_mem _ hj))
    have e0 : os.map (O.still (env.freeze i)) = os.map (O.still env) := List.map_congr_left fun o _ => by
      cases o with
      | sl j => exact congrArg O.fz (Env.freeze_d env i j)
      | _ => rfl
    rw [e0] at oo
    refine ⟨G', r', x1.trans x, ⟨Dg.mono x.sup ?_, oo⟩, fun b h q => k b (k1 b h q) fun j hj => q j (Env.freeze_own hj)⟩
    show Dg g.fa g.K G1 v (env.at i).d
    have hn := fu i List.mem_cons_self
    have e : (env.freeze i).at i = .fz (env.at i).d := by
      rw [Env.freeze_at]
      cases q : env.at i with
      | no => exact absurd q hn
      | fz d => simp [Sl.own, Sl.d]
      | ow d => simp [Sl.own, Sl.d]
      | od d => simp [Sl.own, Sl.d]
    exact r1.at e h1
theorem still_nosl (env : Env) : ∀ os : List O, NoSl (os.map (O.still env))
  | [] => trivial
  | .fz d :: r => still_nosl env r
  | .fr d :: r => still_nosl env r
  | .sl d :: r => still_nosl env r
theorem RS.par {is : List Nat} {m : E} {D : Ends} (hi : b = true → ∀ i ∈ is, i ≠ 0) (h : RS g b (.par is m) D σ H) : RA g m σ H fun vs H1 => vs.length = is.length ∧ D.nx (putR is vs σ) H1 := by
  obtain ⟨F, G, io, env, hb, r0, p⟩ := h
  refine (RA.all (P := fun r => PostS g F G io r D) r0 id PostS.exc p).mono fun vs H1 ⟨G1, os, e1, r1, x1, q1, f1, p⟩ => ?_
  by_cases hl : os.length = is.length
  · rw [if_pos hl] at p
    obtain ⟨G2, r2, x2, q2, _⟩ := still_ok (F := F) (fun _ e => e) r1 q1 f1
    refine ⟨q1.length ▸ hl, p _ H1 G2 ?_ (x1.x.trans x2)⟩
    exact (par_ok (fun _ e => e) (fun z => hi (hb z)) (still_nosl e1 os) r2 q2).1
  · rw [if_neg hl] at p; exact p.elim
end
end Ev
end
section
set_option linter.all false
set_option maxRecDepth 100000
namespace Ev
open PySem PySem.Spec PyProof.Rows L2 PySem.SeqAt
open PySem.W (alike alikeAll dataLt keyToksAll keyToks toks_all_cons dataLt_cons dataLt_int dataLt_str dataLt_tuple)

mutual
def toP : D → PyData
  | .non => .none
  | .bl b => .bool b
  | .int i => .int i
  | .str x => .str x
  | .tup ds => .tuple (toPs ds)
  | .lst ds => .list (toPs ds)
  | _ => .none
def toPs : List D → List PyData
  | [] => []
  | d :: ds => toP d :: toPs ds
end
theorem toPs_map : ∀ ds : List D, toPs ds = ds.map toP
  | [] => rfl
  | d :: ds => by rw [toPs, toPs_map ds, List.map_cons]
theorem toPs_length (ds : List D) : (toPs ds).length = ds.length := by rw [toPs_map, List.length_map]
mutual
theorem toP_plain : ∀ (n : Nat) (d : D), isData n d = true → (toP d).plain = true ∧ (toP d).depth ≤ n
  | n, .non, _ => ⟨rfl, by rw [toP]; exact Nat.zero_le _⟩
  | n, .bl b, _ => ⟨rfl, by rw [toP]; exact Nat.zero_le _⟩
  | n, .int b, _ => ⟨rfl, by rw [toP]; exact Nat.zero_le _⟩
  | n, .str b, _ => ⟨rfl, by rw [toP]; exact Nat.zero_le _⟩
  | 0, .tup ds, h => by simp [isData] at h
  | 0, .lst ds, h => by simp [isData] at h
  | n + 1, .tup ds, h => by
    obtain ⟨h1, h2⟩ := toPs_plain n ds (by simpa [isData] using h)
    exact ⟨by rw [toP, PyData.plain]; exact h1, by rw [toP, PyData.depth]; omega⟩
  | n + 1, .lst ds, h => by
    obtain ⟨h1, h2⟩ := toPs_plain n ds (by simpa [isData] using h)
    exact ⟨by rw [toP, PyData.plain]; exact h1, by rw [toP, PyData.depth]; omega⟩
  | n, .ro _, h => by simp [isData] at h
  | n, .fn _, h => by simp [isData] at h
  | n, .dic _, h => by simp [isData] at h
theorem toPs_plain : ∀ (n : Nat) (ds : List D), isDatas n ds = true → PyData.plainAll (toPs ds) = true ∧ PyData.depthAll (toPs ds) ≤ n
  | n, [], _ => ⟨rfl, by rw [toPs, PyData.depthAll]; exact Nat.zero_le _⟩
  | n, d :: ds, h => by
    rw [isDatas, Bool.and_eq_true] at h
    obtain ⟨h1, h2⟩ := toP_plain n d h.1
    obtain ⟨h3, h4⟩ := toPs_plain n ds h.2
    exact ⟨by rw [toPs, PyData.plainAll, h1, h3]; rfl, by rw [toPs, PyData.depthAll]; omega⟩
end
theorem beq_str (x y : Str) : (x == y) = decide (x = y) := rfl
mutual
theorem eqv_eq : ∀ (n m : Nat) (d e : D), isData n d = true → isData m e = true → PyData.eqv (toP d) (toP e) = eqD d e
  | n, m, .ro _, _, h, _ => by simp [isData] at h
  | n, m, .fn _, _, h, _ => by simp [isData] at h
  | n, m, .dic _, _, h, _ => by simp [isData] at h
  | n, m, .non, e, _, h => by cases e <;> first | (simp [isData] at h; done) | (simp [toP, PyData.eqv, eqD]; done)
  | n, m, .bl b, e, _, h => by cases e <;> first | (simp [isData] at h; done) | (simp [toP, PyData.eqv, eqD]; done)
  | n, m, .int i, e, _, h => by cases e <;> first | (simp [isData] at h; done) | (simp [toP, PyData.eqv, eqD]; done)
  | n, m, .str x, e, _, h => by
    cases e with
    | str y => rw [toP, toP, PyData.eqv, eqD]; rfl
    | _ => first | (simp [isData] at h; done) | (simp [toP, PyData.eqv, eqD]; done)
  | 0, m, .tup ds, e, h, _ => by simp [isData] at h
  | 0, m, .lst ds, e, h, _ => by simp [isData] at h
  | n + 1, 0, .tup ds, e, _, h => by cases e <;> first | (simp [isData] at h; done) | (simp [toP, PyData.eqv, eqD]; done)
  | n + 1, 0, .lst ds, e, _, h => by cases e <;> first | (simp [isData] at h; done) | (simp [toP, PyData.eqv, eqD]; done)
  | n + 1, m + 1, .tup ds, e, h1, h => by
    cases e with
    | tup es => rw [toP, toP, PyData.eqv, eqD]; exact eqvs_eq n m ds es (by simpa [isData] using h1) (by simpa [isData] using h)
    | _ => first | (simp [isData] at h; done) | (simp [toP, PyData.eqv, eqD]; done)
  | n + 1, m + 1, .lst ds, e, h1, h => by
    cases e with
    | lst es => rw [toP, toP, PyData.eqv, eqD]; exact eqvs_eq n m ds es (by simpa [isData] using h1) (by simpa [isData] using h)
    | _ => first | (simp [isData] at h; done) | (simp [toP, PyData.eqv, eqD]; done)
theorem eqvs_eq : ∀ (n m : Nat) (ds es : List D), isDatas n ds = true → isDatas m es = true → PyData.eqvAll (toPs ds) (toPs es) = eqDs ds es
  | n, m, [], [], _, _ => rfl
  | n, m, [], e :: es, _, _ => rfl
  | n, m, d :: ds, [], _, _ => rfl
  | n, m, d :: ds, e :: es, h, h' => by
    rw [isDatas, Bool.and_eq_true] at h h'
    rw [toPs, toPs, PyData.eqvAll, eqDs, eqv_eq n m d e h.1 h'.1, eqvs_eq n m ds es h.2 h'.2]
end
section
variable {fa : Nat → Addr} {K : PySem.W.Frag} {G H : Hp}
mutual
theorem Dg.dp (s : Sup G H) : ∀ {v : V} {d : D} (n : Nat), Dg fa K G v d → isData n d = true → Dp K H v (toP d)
  | _, _, _, .non, _ => .non
  | _, _, _, .bl b, _ => .bl b
  | _, _, _, .int i, _ => .int i
  | _, _, _, .str i, _ => .str i
  | _, _, 0, .tup _ _, h => by simp [isData] at h
  | _, _, 0, .lst _ _, h => by simp [isData] at h
  | _, _, n + 1, .tup h1 h2, h => by rw [toP]; exact .tup (s.seqD h1).seqT (DgAll.dp s n h2 (by simpa [isData] using h))
  | _, _, n + 1, .lst h1 h2, h => by rw [toP]; exact .lst (.inl (.inl (s.lst _ _ h1))) (DgAll.dp s n h2 (by simpa [isData] using h))
  | _, _, _, .ro _, h => by simp [isData] at h
  | _, _, _, .fn _, h => by simp [isData] at h
  | _, _, _, .dic _ _, h => by simp [isData] at h
theorem DgAll.dp (s : Sup G H) : ∀ {vs : List V} {ds : List D} (n : Nat), DgAll fa K G vs ds → isDatas n ds = true → DpAll K H vs (toPs ds)
  | _, _, _, .nil, _ => .nil
  | _, _, n, .cons h1 h2, h => by
    rw [isDatas, Bool.and_eq_true] at h
    rw [toPs]
    exact .cons (Dg.dp s n h1 h.1) (DgAll.dp s n h2 h.2)
end
theorem Vw.dp (s : Sup G H) {v : V} {d : D} {n : Nat} (w : Vw fa K G H v d) (h : isData n d = true) : Dp K H v (toP d) := by
  rcases w with w | ⟨a, rfl, w⟩
  · exact w.dp s n h
  · cases d with
    | lst ds =>
      obtain ⟨vs, h1, h2⟩ := w
      cases n with
      | zero => simp [isData] at h
      | succ n => rw [toP]; exact .lst (.inl (.inl h1)) (h2.dp s n (by simpa [isData] using h))
    | dic ds => simp [isData] at h
    | _ => exact w.elim
end

mutual
theorem alike_eq : ∀ (d e : D), alikeD d e = true → alike (toP d) (toP e) = true
  | .int _, e, h => by cases e <;> first | (simp [alikeD] at h; done) | rfl
  | .str _, e, h => by cases e <;> first | (simp [alikeD] at h; done) | rfl
  | .tup xs, e, h => by
    cases e with
    | tup ys => rw [toP, toP, alike]; exact alikes_eq xs ys (by simpa [alikeD] using h)
    | _ => simp [alikeD] at h
  | .non, e, h => by simp [alikeD] at h
  | .bl _, e, h => by simp [alikeD] at h
  | .lst _, e, h => by simp [alikeD] at h
  | .ro _, e, h => by simp [alikeD] at h
  | .fn _, e, h => by simp [alikeD] at h
  | .dic _, e, h => by simp [alikeD] at h
theorem alikes_eq : ∀ (ds es : List D), alikeDs ds es = true → alikeAll (toPs ds) (toPs es) = true
  | [], es, _ => by rw [toPs]; cases es <;> rfl
  | d :: ds, [], _ => rfl
  | d :: ds, e :: es, h => by
    rw [alikeDs, Bool.and_eq_true] at h
    rw [toPs, toPs, alikeAll, alike_eq d e h.1, alikes_eq ds es h.2]
    rfl
end
mutual
theorem alike_data : ∀ (d e : D), alikeD d e = true → PyData.eqv (toP d) (toP e) = eqD d e
  | .int _, e, h => by cases e <;> first | (simp [alikeD] at h; done) | (simp [toP, PyData.eqv, eqD]; done)
  | .str _, e, h => by
    cases e with
    | str y => rw [toP, toP, PyData.eqv, eqD]; rfl
    | _ => simp [alikeD] at h
  | .tup xs, e, h => by
    cases e with
    | tup ys => rw [toP, toP, PyData.eqv, eqD]; exact alikes_data xs ys (by simpa [alikeD] using h)
    | _ => simp [alikeD] at h
  | .non, e, h => by simp [alikeD] at h
  | .bl _, e, h => by simp [alikeD] at h
  | .lst _, e, h => by simp [alikeD] at h
  | .ro _, e, h => by simp [alikeD] at h
  | .fn _, e, h => by simp [alikeD] at h
  | .dic _, e, h => by simp [alikeD] at h
theorem alikes_data : ∀ (ds es : List D), alikeDs ds es = true → PyData.eqvAll (toPs ds) (toPs es) = eqDs ds es
  | [], [], _ => rfl
  | [], e :: es, _ => rfl
  | d :: ds, [], _ => rfl
  | d :: ds, e :: es, h => by
    rw [alikeDs, Bool.and_eq_true] at h
    rw [toPs, toPs, PyData.eqvAll, eqDs, alike_data d e h.1, alikes_data ds es h.2]
end
theorem lex_nil_more (d : PyData) (ds : List PyData) : PyProof.Rows.lexLt itemOrd (keyToksAll []) (keyToksAll (d :: ds)) = true := by
  rw [toks_all_cons]
  simp only [keyToksAll]
  rw [lex_diff (O := itemOrd) (by simp)]
  rfl
theorem lex_more_nil (d : PyData) (ds : List PyData) : PyProof.Rows.lexLt itemOrd (keyToksAll (d :: ds)) (keyToksAll []) = false := by
  rw [toks_all_cons]
  simp only [keyToksAll]
  rw [lex_diff (O := itemOrd) (by simp)]
  rfl
mutual
theorem lt_eq : ∀ (d e : D), alikeD d e = true → dataLt (toP d) (toP e) = ltD d e
  | .int i, e, h => by
    cases e with
    | int j => rw [toP, toP, ltD]; exact dataLt_int i j
    | _ => simp [alikeD] at h
  | .str x, e, h => by
    cases e with
    | str y => rw [toP, toP, ltD]; exact dataLt_str x y
    | _ => simp [alikeD] at h
  | .tup xs, e, h => by
    cases e with
    | tup ys => rw [toP, toP, ltD, dataLt_tuple]; exact lts_eq xs ys (by simpa [alikeD] using h)
    | _ => simp [alikeD] at h
  | .non, e, h => by simp [alikeD] at h
  | .bl _, e, h => by simp [alikeD] at h
  | .lst _, e, h => by simp [alikeD] at h
  | .ro _, e, h => by simp [alikeD] at h
  | .fn _, e, h => by simp [alikeD] at h
  | .dic _, e, h => by simp [alikeD] at h
theorem lts_eq : ∀ (ds es : List D), alikeDs ds es = true → PyProof.Rows.lexLt itemOrd (keyToksAll (toPs ds)) (keyToksAll (toPs es)) = ltDs ds es
  | [], [], _ => by rw [toPs, ltDs]; exact lex_irrefl _
  | [], e :: es, _ => by rw [toPs, toPs, ltDs]; exact (lex_nil_more (toP e) (toPs es))
  | d :: ds, [], _ => by rw [toPs, toPs, ltDs]; exact (lex_more_nil (toP d) (toPs ds))
  | d :: ds, e :: es, h => by
    rw [alikeDs, Bool.and_eq_true] at h
    rw [toPs, toPs, dataLt_cons (alike_eq d e h.1), ltDs, alike_data d e h.1, lt_eq d e h.1, lts_eq ds es h.2]
end
end Ev
end
section
set_option linter.all false
set_option maxRecDepth 100000
namespace Ev
open PySem PySem.Spec PyProof.Rows L2
section
variable {X : Cx} {pins : List (Addr × Obj)} {σ : L2.St} {H : Hp} {s : Shared}
theorem laidT {h' : Heap} {a : Addr} {t' : Nat} {its : List Value} {xs : List V} {o : Obj} (I : Inv X pins σ H s) (k : ∀ b u, s.heap.get? b = some u → h'.get? b = some u) (hp : s.heap.objs.size ≤ a)
    (he : h'.get? a = some o) (hc : o.cls = .type "tuple") (hd : ∃ n, o.data = .seq its.toArray n) (rv : Vals xs its) (hz : xs.length ≤ sizeLine) :
    Inv X pins σ (upd H a (.frz o (.tup xs))) { s with heap := h', toks := t' } :=
  I.laid (o := .frz o (.tup xs)) k hp ⟨he, hz, its, rv, o, he, hc, hd⟩
def tTupF (t : TA) : TE := fun σ H Q => t σ H fun xs H1 => xs.length ≤ sizeLine ∧ ∀ p o, H1 p = none → o.dict = none → Q (.ref p) (upd H1 p (.frz o (.tup xs)))
theorem pe_tupF {es : List Expr} {t : TA} {k : Nat} {pos : Pos} (h : PA X es t) : PE X (.Tuple es k pos) (tTupF t) := by
  refine ⟨fun pins s σ H Q I hq => ?_⟩
  refine wpAny_Tuple_spliced (thn (h.run pos pins s σ H _ I hq) fun us s1 ⟨xs, H1, I1, r, z, q⟩ => ⟨by rw [← r.length]; exact z, ?_⟩)
  exact ⟨.ref s1.heap.objs.size, _, laidT (t' := s1.toks) I1 (fun b u e => Heap.get?_push_of_some _ e) (Nat.le_refl _) (Heap.get?_push_size _ rfl) rfl ⟨_, rfl⟩ r z, rfl, q _ _ (I1.hok.fresh (Nat.le_refl _)) rfl⟩
def rCatF (K : PySem.W.Frag) : R2 := fun x y H Q => ∃ a b xs ys, x = .ref a ∧ y = .ref b ∧ SqT K H a xs ∧ SqT K H b ys ∧ xs.length + ys.length ≤ sizeLine ∧
  (xs = [] → Q (.ref b) H) ∧ (xs ≠ [] → ys = [] → Q (.ref a) H) ∧ (xs ≠ [] → ys ≠ [] → ∀ p o, H p = none → o.dict = none → Q (.ref p) (upd H p (.frz o (.tup (xs ++ ys)))))
theorem op_catF : OpR X (binaryOp .Add) (rCatF X.K) := by
  intro pins s σ H x y v u Q I rx ry ⟨a, b, xs, ys, ex, ey, ha, hb, hz, q0, q1, q2⟩
  by_cases hx : xs = []
  · exact op_catA pins s σ H x y v u Q I rx ry ⟨a, b, xs, ys, ex, ey, ha, hb, hz, q0, q1, fun z => absurd hx z⟩
  by_cases hy : ys = []
  · exact op_catA pins s σ H x y v u Q I rx ry ⟨a, b, xs, ys, ex, ey, ha, hb, hz, q0, q1, fun _ z => absurd hy z⟩
  subst ex
  subst ey
  cases rx
  cases ry
  obtain ⟨its, r1, p1, _⟩ := I.tuple ha
  obtain ⟨its2, r2, p2, _⟩ := I.tuple hb
  refine HT.cat_tup p1 p2 (fun z => hx (r1.nil_iff.mp z)) (fun z => absurd (r2.nil_iff.mp z) hy) (fun z => ?_) (by rw [← r1.length, ← r2.length]; exact hz)
  exact ⟨.ref s.heap.objs.size, _, laidT (t' := s.toks) I (fun b ob q => Heap.get?_push_of_some _ q) (Nat.le_refl _) (Heap.get?_push_size _ rfl) rfl ⟨_, rfl⟩ (r1.append r2) (by rw [List.length_append]; exact hz), rfl, q2 hx hy _ _ (I.hok.fresh (Nat.le_refl _)) rfl⟩
def rSlF (K : PySem.W.Frag) : V → Option Int → Option Int → Hp → VK → Prop := fun x lo hi H Q => ∃ a xs, x = .ref a ∧ SqT K H a xs ∧
  (HT.sIx xs.length 0 lo = 0 ∧ HT.sIx xs.length xs.length hi = xs.length → Q (.ref a) H) ∧ (¬ (HT.sIx xs.length 0 lo = 0 ∧ HT.sIx xs.length xs.length hi = xs.length) → ∀ p o, H p = none → o.dict = none → Q (.ref p) (upd H p (.frz o (.tup (cutV xs lo hi)))))
theorem sl_tupF : SlR X (rSlF X.K) := by
  intro pins s σ H x v vl vu lo hi sl Q I rx hs pl pu ⟨a, xs, ex, hx, q1, q2⟩
  by_cases hw : HT.sIx xs.length 0 lo = 0 ∧ HT.sIx xs.length xs.length hi = xs.length
  · exact sl_tupA pins s σ H x v vl vu lo hi sl Q I rx hs pl pu ⟨a, xs, ex, hx, q1, fun z => absurd hw z⟩
  subst ex
  cases rx
  obtain ⟨its, r, ht, hz⟩ := I.tuple hx
  have hlen : its.toArray.size = xs.length := by rw [List.size_toArray]; exact r.length.symm
  refine ⟨"tuple", _, PyProof.Rows.slot_tuple_getitem.lookup, ht.typeIs, ?_⟩
  refine HT.getItem_tuple_cut ht hs pl pu (by rw [hlen]; exact hw) ?_ (by rw [hlen]; exact hz)
  rw [hlen]
  exact ⟨.ref s.heap.objs.size, _, laidT (t' := s.toks) (xs := cutV xs lo hi) I (fun b ob q => Heap.get?_push_of_some _ q) (Nat.le_refl _) (Heap.get?_push_size _ rfl) rfl ⟨_, rfl⟩ ((r.drop (HT.sIx xs.length 0 lo)).take (HT.sIx xs.length xs.length hi - HT.sIx xs.length 0 lo)) (Nat.le_trans (cutV_length xs lo hi) hz), rfl,
    q2 hw _ _ (I.hok.fresh (Nat.le_refl _)) rfl⟩
theorem call_tupleF : CallR X (.type "tuple") (fun xs H Q => ∃ p ys, xs = [.ref p] ∧ ((SqL X.K H p ys ∧ ∀ l o, H l = none → o.dict = none → Q (.ref l) (upd H l (.frz o (.tup ys)))) ∨ (SqT X.K H p ys ∧ Q (.ref p) H))) := by
  intro pins s σ H xs us Q I r ⟨p, ys, ex, h⟩
  rcases h with ⟨hq, q⟩ | ⟨hq, q⟩
  · subst ex
    obtain ⟨its, r', pl, hz⟩ := I.list hq
    have hlen := r'.length
    rw [Vals.ref1 r]
    refine call_tuple_list pl.isList (fun h' kp => ?_) (by simp only [List.size_toArray] <;> omega)
    have I1 : Inv X pins σ H { s with heap := h' } := I.kept (t' := s.toks) kp
    have I2 := laidT (t' := s.toks) (h' := h'.push { cls := .type "tuple", data := .seq its.toArray }) (a := h'.objs.size) (o := { cls := .type "tuple", data := .seq its.toArray }) I1 (fun b o e => Heap.get?_push_of_some _ e) (Nat.le_refl _) (Heap.get?_push_size _ rfl) rfl ⟨_, rfl⟩ r' hz
    exact ⟨.ref h'.objs.size, _, I2, rfl, q _ _ (I1.hok.fresh (Nat.le_refl _)) rfl⟩
  · exact call_tuple_of pins s σ H xs us Q I r ⟨p, ys, ex, .inr ⟨hq, q⟩⟩
theorem tup_obj {a : Addr} {xs : List V} (I : Inv X pins σ H s) (h : SqD X.K H a xs) : ∃ o its n, s.heap.get? a = some o ∧ o.cls = .type "tuple" ∧ o.dict = none ∧ o.data = .seq its n ∧ Vals xs its.toList ∧ xs.length ≤ sizeLine := by
  rcases h with ⟨o, h1, h2⟩ | ⟨o, its, n, h1, h2, h3, h4, h5, h6⟩
  · obtain ⟨e1, hz, its, rv, o', e2, c, n, d⟩ := (show ObjOk X.prog X.w H s.heap a (.frz o (.tup xs)) from I.hok a _ h1)
    rw [e1] at e2
    cases e2
    exact ⟨o, its.toArray, n, e1, c, h2, d, by simpa using rv, hz⟩
  · exact ⟨o, its, n, I.kIn a o h1, h2, h3, h4, h6, by rw [h6.length, Array.length_toList]; exact h5⟩
end
end Ev
end
section
set_option linter.all false
set_option maxRecDepth 100000
namespace Ev
open PySem PySem.Spec PyProof.Rows L2
theorem noS {α : Type} {d : α} {P : Prop} (e : none = some d) : P := nomatch e
section
variable {g : Gh} {X : Cx} {G H : Hp}
theorem KO.fz {o : Op} {d : D} {v : V} {Q : VK} (q : ∀ v H' G', Grow G H G' H' → RV g.fa g.K H G' H' (resO o d) v → Q v H') (s : Sup G H) (e : resO o d = .fz d) (h : Dg g.fa g.K G v d) : Q v H := q v H G (Grow.refl s) (by rw [e]; exact h)
theorem KO.newL {o : Op} {ds : List D} {vs : List V} {p : Addr} {Q : VK} (q : ∀ v H' G', Grow G H G' H' → RV g.fa g.K H G' H' (resO o (.lst ds)) v → Q v H') (s : Sup G H) (e : resO o (.lst ds) = .fr (.lst ds)) (h : DgAll g.fa g.K G vs ds) (hp : H p = none) : Q (.ref p) (upd H p (.lst vs)) :=
  q _ _ G (.hand s hp) (by rw [e]; exact ⟨p, rfl, hp, s.none hp, vs, upd_same, h⟩)
theorem KO.newT {o : Op} {ds : List D} {vs : List V} {p : Addr} {ob : Obj} {Q : VK} (q : ∀ v H' G', Grow G H G' H' → RV g.fa g.K H G' H' (resO o (.tup ds)) v → Q v H') (s : Sup G H) (h : DgAll g.fa g.K G vs ds) (hp : H p = none) (hd : ob.dict = none) : Q (.ref p) (upd H p (.frz ob (.tup vs))) := by
  have gr : Grow G H (upd G p (.frz ob (.tup vs))) (upd H p (.frz ob (.tup vs))) := .known s hp
  exact q _ _ _ gr (show Dg g.fa g.K _ _ (.tup ds) from .tup (.inl ⟨ob, upd_same, hd⟩) (h.mono gr.sup))
def KO1 (g : Gh) (o : Op) : V → Hp → VK → Prop := fun x H Q => KO g o [x] H Q
def KO2 (g : Gh) (o : Op) : R2 := fun x y H Q => KO g o [x, y] H Q
theorem Vw.lstL {v : V} {ds : List D} (h : Vw g.fa g.K G H v (.lst ds)) (s : Sup G H) : ∃ a vs, v = .ref a ∧ SqL g.K H a vs ∧ DgAll g.fa g.K G vs ds := by
  obtain ⟨a, vs, e, h1, h2⟩ := h.lst s
  exact ⟨a, vs, e, .inl (.inl h1), h2⟩
theorem Vw.ro {v : V} {ns : List Int} (h : Vw g.fa g.K G H v (.ro ns)) (s : Sup G H) : ∃ a, v = .ref a ∧ SqL g.K H a (ns.map V.int) := by
  rcases h with h | ⟨a, _, h⟩
  · cases h with
    | ro h1 => exact ⟨_, rfl, s.seqL h1⟩
  · exact h.elim

theorem ko_add (hK : X.K = g.K) : OpR X (binaryOp .Add) (KO2 g .add) := by
  intro pins s σ H x y v u Q I rx ry ⟨G, ds, d, sp, vw, e, q⟩
  match ds, vw with
  | [dx, dy], ⟨wx, wy, _⟩ =>
    cases dx <;> cases dy <;> first | exact noS e | skip
    · cases e
      exact op_add pins s σ H x y v u Q I rx ry ⟨_, _, wx.int, wy.int, KO.fz q sp rfl (.int _)⟩
    · rename_i a b
      have e : (if a.cps.size + b.cps.size ≤ cap then some (D.str ⟨a.cps ++ b.cps⟩) else none) = some d := e
      by_cases h : a.cps.size + b.cps.size ≤ cap
      · rw [if_pos h] at e; cases e
        exact op_add_str pins s σ H x y v u Q I rx ry ⟨a, b, wx.str, wy.str, by rw [sizeLine_eq]; exact h, KO.fz q sp rfl (.str _)⟩
      · rw [if_neg h] at e; cases e
    · rename_i a b
      have e : (if a.length + b.length ≤ cap then some (D.tup (a ++ b)) else none) = some d := e
      by_cases h : a.length + b.length ≤ cap
      · rw [if_pos h] at e; cases e
        obtain ⟨p1, vs1, rfl, h1, d1⟩ := wx.tup sp
        obtain ⟨p2, vs2, rfl, h2, d2⟩ := wy.tup sp
        have R : OpR X (binaryOp .Add) (rCatF g.K) := hK ▸ op_catF
        refine R pins s σ H _ _ v u Q I rx ry ⟨p1, p2, vs1, vs2, rfl, rfl, h1.seqT, h2.seqT, by rw [d1.length, d2.length, sizeLine_eq]; exact h, fun z => ?_, fun _ z => ?_, fun _ _ p ob hp hd => ?_⟩
        · subst z
          cases d1
          rcases wy with w | ⟨_, _, w⟩
          · exact KO.fz q sp rfl w
          · exact w.elim
        · subst z
          cases d2
          rcases wx with w | ⟨_, _, w⟩
          · exact KO.fz q sp rfl (by rw [List.append_nil]; exact w)
          · exact w.elim
        · exact KO.newT q sp (d1.append d2) hp hd
      · rw [if_neg h] at e; cases e
    · rename_i a b
      have e : (if a.length + b.length ≤ cap then some (D.lst (a ++ b)) else none) = some d := e
      by_cases h : a.length + b.length ≤ cap
      · rw [if_pos h] at e; cases e
        obtain ⟨p1, vs1, rfl, h1, d1⟩ := wx.lst sp
        obtain ⟨p2, vs2, rfl, h2, d2⟩ := wy.lst sp
        exact op_cat pins s σ H _ _ v u Q I rx ry ⟨p1, p2, vs1, vs2, rfl, rfl, h1, h2, by rw [d1.length, d2.length, sizeLine_eq]; exact h, fun p hp => KO.newL q sp rfl (d1.append d2) hp⟩
      · rw [if_neg h] at e; cases e
theorem ko_sub : OpR X (binaryOp .Sub) (KO2 g .sub) := by
  intro pins s σ H x y v u Q I rx ry ⟨G, ds, d, sp, vw, e, q⟩
  match ds, vw with
  | [dx, dy], ⟨wx, wy, _⟩ =>
    cases dx <;> cases dy <;> first | exact noS e | skip
    cases e
    exact op_sub pins s σ H x y v u Q I rx ry ⟨_, _, wx.int, wy.int, KO.fz q sp rfl (.int _)⟩
theorem ko_mul (hK : X.K = g.K) : OpR X (binaryOp .Mult) (KO2 g .mul) := by
  intro pins s σ H x y v u Q I rx ry ⟨G, ds, d, sp, vw, e, q⟩
  match ds, vw with
  | [dx, dy], ⟨wx, wy, _⟩ =>
    cases dx <;> cases dy <;> first | exact noS e | skip
    · rename_i i j
      have e : (if (b64 i || b64 j) = true then some (D.int (i * j)) else none) = some d := e
      by_cases h : (b64 i || b64 j) = true
      · rw [if_pos h] at e; cases e
        refine op_mul pins s σ H x y v u Q I rx ry ⟨_, _, wx.int, wy.int, ?_, KO.fz q sp rfl (.int _)⟩
        rcases Bool.or_eq_true_iff.mp h with h | h
        · exact .inl (b64_iff.mp h)
        · exact .inr (b64_iff.mp h)
      · rw [if_neg h] at e; cases e
    · rename_i xs k
      have e : (if (leN (-k) 1152921504606846976 && leN k 10000 && decide (xs.length ≤ 1000)) = true then some (D.lst (List.replicate k.toNat xs).flatten) else none) = some d := e
      by_cases h : (leN (-k) 1152921504606846976 && leN k 10000 && decide (xs.length ≤ 1000)) = true
      · rw [if_pos h] at e; cases e
        simp only [Bool.and_eq_true, decide_eq_true_eq, leN_iff] at h
        obtain ⟨p1, vs1, rfl, h1, d1⟩ := wx.lst sp
        refine op_rep pins s σ H _ _ v u Q I rx ry ⟨p1, k, vs1, rfl, wy.int, h1, by omega, by omega, ?_, fun p hp => KO.newL q sp rfl (d1.rep _) hp⟩
        rw [d1.length, sizeLine_eq]
        have h2 : k.toNat ≤ 10000 := by omega
        exact Nat.le_trans (Nat.mul_le_mul h.2 h2) (by decide)
      · rw [if_neg h] at e; cases e
theorem ko_fdiv : OpR X (binaryOp .FloorDiv) (KO2 g .fdiv) := by
  intro pins s σ H x y v u Q I rx ry ⟨G, ds, d, sp, vw, e, q⟩
  match ds, vw with
  | [dx, dy], ⟨wx, wy, _⟩ =>
    cases dx <;> cases dy <;> first | exact noS e | skip
    rename_i i j
    have e : (if (decide (0 < j) && leN j 1073741823) = true then some (D.int (i / j)) else none) = some d := e
    by_cases h : (decide (0 < j) && leN j 1073741823) = true
    · rw [if_pos h] at e; cases e
      exact op_fdiv pins s σ H x y v u Q I rx ry ⟨_, _, wx.int, wy.int, by rw [Bool.and_eq_true, decide_eq_true_eq, leN_iff] at h; show _ ∧ _; exact ⟨h.1, by omega⟩, KO.fz q sp rfl (.int _)⟩
    · rw [if_neg h] at e; cases e
theorem ko_mod : OpR X (binaryOp .Mod) (KO2 g .mod) := by
  intro pins s σ H x y v u Q I rx ry ⟨G, ds, d, sp, vw, e, q⟩
  match ds, vw with
  | [dx, dy], ⟨wx, wy, _⟩ =>
    cases dx <;> cases dy <;> first | exact noS e | skip
    rename_i i j
    have e : (if decide (0 < j) = true then some (D.int (i % j)) else none) = some d := e
    by_cases h : decide (0 < j) = true
    · rw [if_pos h] at e; cases e
      exact op_mod pins s σ H x y v u Q I rx ry ⟨_, _, wx.int, wy.int, by simpa using h, KO.fz q sp rfl (.int _)⟩
    · rw [if_neg h] at e; cases e
theorem ko_pow : OpR X (binaryOp .Pow) (KO2 g .pow) := by
  intro pins s σ H x y v u Q I rx ry ⟨G, ds, d, sp, vw, e, q⟩
  match ds, vw with
  | [dx, dy], ⟨wx, wy, _⟩ =>
    cases dx <;> cases dy <;> first | exact noS e | skip
    rename_i i j
    have e : (if (decide (0 ≤ j) && decide (j ≤ 1000) && decide (i.natAbs < 2 ^ 64)) = true then some (D.int (i ^ j.toNat)) else none) = some d := e
    by_cases h : (decide (0 ≤ j) && decide (j ≤ 1000) && decide (i.natAbs < 2 ^ 64)) = true
    · rw [if_pos h] at e; cases e
      simp only [Bool.and_eq_true, decide_eq_true_eq] at h
      exact op_pow pins s σ H x y v u Q I rx ry ⟨_, _, wx.int, wy.int, ⟨h.1.1, by omega, h.2⟩, KO.fz q sp rfl (.int _)⟩
    · rw [if_neg h] at e; cases e
theorem ko_neg : UnR X (unaryOp .USub) (KO1 g .neg) := by
  intro pins s σ H x v Q I rx ⟨G, ds, d, sp, vw, e, q⟩
  match ds, vw with
  | [dx], ⟨wx, _⟩ =>
    cases dx <;> first | exact noS e | skip
    cases e
    exact un_neg pins s σ H x v Q I rx ⟨_, wx.int, KO.fz q sp rfl (.int _)⟩

theorem two_data {x y dx dy : D} {d : D} {b : Bool} (e : (if (isData depthLine x && isData depthLine y) = true then some (D.bl b) else none) = some d) : isData depthLine x = true ∧ isData depthLine y = true ∧ d = .bl b := by
  by_cases h : (isData depthLine x && isData depthLine y) = true
  · rw [if_pos h] at e; cases e
    exact ⟨(Bool.and_eq_true_iff.mp h).1, (Bool.and_eq_true_iff.mp h).2, rfl⟩
  · rw [if_neg h] at e; cases e
theorem ko_eq (hK : X.K = g.K) (hu : X.A.units + 65 < cLine) : OpR X (compareOp .Eq) (KO2 g .eq) := by
  intro pins s σ H x y v u Q I rx ry ⟨G, ds, d, sp, vw, e, q⟩
  match ds, vw with
  | [dx, dy], ⟨wx, wy, _⟩ =>
    obtain ⟨h1, h2, rfl⟩ := two_data (dx := dx) (dy := dy) (show (if (isData depthLine dx && isData depthLine dy) = true then some (D.bl (eqD dx dy)) else none) = some d from e)
    have p1 := wx.dp sp h1
    have p2 := wy.dp sp h2
    rw [← hK] at p1 p2
    obtain ⟨as, r1⟩ := Dp.reads I _ _ _ p1 rx
    obtain ⟨bs, r2⟩ := Dp.reads I _ _ _ p2 ry
    obtain ⟨l1, m1⟩ := toP_plain _ _ h1
    obtain ⟨l2, m2⟩ := toP_plain _ _ h2
    refine SeqAt.eq_plain r1 r2 l1 l2 (by have hd : depthLine = 20 := rfl; omega) ⟨.bl _, H, I, rfl, ?_⟩
    rw [eqv_eq _ _ _ _ h1 h2]
    exact KO.fz q sp rfl (.bl _)
theorem ko_ne (hK : X.K = g.K) (hu : X.A.units + 65 < cLine) : OpR X (compareOp .NotEq) (KO2 g .ne) := by
  intro pins s σ H x y v u Q I rx ry ⟨G, ds, d, sp, vw, e, q⟩
  match ds, vw with
  | [dx, dy], ⟨wx, wy, _⟩ =>
    obtain ⟨h1, h2, rfl⟩ := two_data (dx := dx) (dy := dy) (show (if (isData depthLine dx && isData depthLine dy) = true then some (D.bl (!eqD dx dy)) else none) = some d from e)
    have p1 := wx.dp sp h1
    have p2 := wy.dp sp h2
    rw [← hK] at p1 p2
    obtain ⟨as, r1⟩ := Dp.reads I _ _ _ p1 rx
    obtain ⟨bs, r2⟩ := Dp.reads I _ _ _ p2 ry
    obtain ⟨l1, m1⟩ := toP_plain _ _ h1
    obtain ⟨l2, m2⟩ := toP_plain _ _ h2
    refine SeqAt.ne_plain r1 r2 l1 l2 (by have hd : depthLine = 20 := rfl; omega) ⟨.bl _, H, I, rfl, ?_⟩
    rw [eqv_eq _ _ _ _ h1 h2]
    exact KO.fz q sp rfl (.bl _)
theorem ko_lt : OpR X (compareOp .Lt) (KO2 g .lt) := by
  intro pins s σ H x y v u Q I rx ry ⟨G, ds, d, sp, vw, e, q⟩
  match ds, vw with
  | [dx, dy], ⟨wx, wy, _⟩ =>
    cases dx <;> cases dy <;> first | exact noS e | skip
    cases e
    exact op_lt pins s σ H x y v u Q I rx ry ⟨_, _, wx.int, wy.int, KO.fz q sp rfl (.bl _)⟩
theorem ko_le : OpR X (compareOp .LtE) (KO2 g .le) := by
  intro pins s σ H x y v u Q I rx ry ⟨G, ds, d, sp, vw, e, q⟩
  match ds, vw with
  | [dx, dy], ⟨wx, wy, _⟩ =>
    cases dx <;> cases dy <;> first | exact noS e | skip
    cases e
    exact op_le pins s σ H x y v u Q I rx ry ⟨_, _, wx.int, wy.int, KO.fz q sp rfl (.bl _)⟩
theorem ko_gt : OpR X (compareOp .Gt) (KO2 g .gt) := by
  intro pins s σ H x y v u Q I rx ry ⟨G, ds, d, sp, vw, e, q⟩
  match ds, vw with
  | [dx, dy], ⟨wx, wy, _⟩ =>
    cases dx <;> cases dy <;> first | exact noS e | skip
    cases e
    exact op_gt pins s σ H x y v u Q I rx ry ⟨_, _, wx.int, wy.int, KO.fz q sp rfl (.bl _)⟩
theorem ko_ge : OpR X (compareOp .GtE) (KO2 g .ge) := by
  intro pins s σ H x y v u Q I rx ry ⟨G, ds, d, sp, vw, e, q⟩
  match ds, vw with
  | [dx, dy], ⟨wx, wy, _⟩ =>
    cases dx <;> cases dy <;> first | exact noS e | skip
    cases e
    exact op_ge pins s σ H x y v u Q I rx ry ⟨_, _, wx.int, wy.int, KO.fz q sp rfl (.bl _)⟩
theorem Vw.isNon {v : V} {d : D} (h : Vw g.fa g.K G H v d) : decide (v = .non) = isNonD d := by
  rcases h with h | ⟨a, rfl, h⟩
  · cases h <;> rfl
  · cases d <;> first | exact h.elim | rfl
theorem ko_isn : OpR X (compareOp .Is) (fun x y H Q => y = .non ∧ KO1 g .isn x H Q) := by
  intro pins s σ H x y v u Q I rx ry ⟨ey, G, ds, d, sp, vw, e, q⟩
  match ds, vw with
  | [dx], ⟨wx, _⟩ =>
    cases e
    refine op_isN pins s σ H x y v u Q I rx ry ⟨ey, ?_⟩
    rw [wx.isNon]
    exact KO.fz q sp rfl (.bl _)
theorem ko_isnn : OpR X (compareOp .IsNot) (fun x y H Q => y = .non ∧ KO1 g .isnn x H Q) := by
  intro pins s σ H x y v u Q I rx ry ⟨ey, G, ds, d, sp, vw, e, q⟩
  match ds, vw with
  | [dx], ⟨wx, _⟩ =>
    cases e
    refine op_notN pins s σ H x y v u Q I rx ry ⟨ey, ?_⟩
    rw [wx.isNon]
    exact KO.fz q sp rfl (.bl _)
theorem any_eqv {n : Nat} {x : D} (hx : isData depthLine x = true) : ∀ {ds : List D}, isDatas n ds = true → ((toPs ds).any fun z => PyData.eqv z (toP x)) = ds.any fun d => eqD d x
  | [], _ => rfl
  | d :: ds, h => by
    rw [isDatas, Bool.and_eq_true] at h
    rw [toPs, List.any_cons, List.any_cons, any_eqv hx h.2, eqv_eq _ _ _ _ h.1 hx]
theorem in_data {x : D} {ds : List D} {d : D} {b : Bool} (e : (if (isData depthLine x && isDatas depthLine ds) = true then some (D.bl b) else none) = some d) : isData depthLine x = true ∧ isDatas depthLine ds = true ∧ d = .bl b := by
  by_cases h : (isData depthLine x && isDatas depthLine ds) = true
  · rw [if_pos h] at e; cases e
    exact ⟨(Bool.and_eq_true_iff.mp h).1, (Bool.and_eq_true_iff.mp h).2, rfl⟩
  · rw [if_neg h] at e; cases e
theorem str_one {x : Str} {c : Nat} (h : x.cps.toList = [c]) : x = ⟨#[c]⟩ := by
  cases x with
  | mk a => exact congrArg Str.mk (Array.toList_inj.mp h)
theorem in_core (hK : X.K = g.K) {pins : List (Addr × Obj)} {s : Shared} {σ : L2.St} {x y : V} {v u : Value} (I : Inv X pins σ H s) (rx : RelV x v) (ry : RelV y u) (sp : Sup G H) {dx dy : D} {ds : List D} (wx : Vw g.fa g.K G H x dx) (wy : Vw g.fa g.K G H y dy)
    (hs : seqOf dy = some ds) (h1 : isData depthLine dx = true) (h2 : isDatas depthLine ds = true) : ∃ as bs, Reads s.heap v (toP dx) as ∧ (Reads s.heap u (.list (toPs ds)) bs ∨ Reads s.heap u (.tuple (toPs ds)) bs) := by
  have p1 := wx.dp sp h1
  rw [← hK] at p1
  obtain ⟨as, r1⟩ := Dp.reads I _ _ _ p1 rx
  cases dy <;> first | exact noS hs | skip
  · cases hs
    have p2 := wy.dp (n := depthLine + 1) sp (by simpa [isData] using h2)
    rw [← hK, toP] at p2
    obtain ⟨bs, r2⟩ := Dp.reads I _ _ _ p2 ry
    exact ⟨as, bs, r1, .inr r2⟩
  · cases hs
    have p2 := wy.dp (n := depthLine + 1) sp (by simpa [isData] using h2)
    rw [← hK, toP] at p2
    obtain ⟨bs, r2⟩ := Dp.reads I _ _ _ p2 ry
    exact ⟨as, bs, r1, .inl r2⟩
theorem inn_cases {x y d : D} (e : opSem .inn [x, y] = some d) : (∃ a b c, x = .str a ∧ y = .str b ∧ a.cps.toList = [c] ∧ d = .bl (decide (c ∈ b.cps.toList))) ∨ ∃ ds, seqOf y = some ds ∧ isData depthLine x = true ∧ isDatas depthLine ds = true ∧ d = .bl (ds.any fun z => eqD z x) := by
  have gen : (match seqOf y with
    | some ds => if (isData depthLine x && isDatas depthLine ds) = true then some (D.bl (ds.any fun d => eqD d x)) else none
    | none => none) = some d → ∃ ds, seqOf y = some ds ∧ isData depthLine x = true ∧ isDatas depthLine ds = true ∧ d = .bl (ds.any fun z => eqD z x) := fun e => by
    cases q : seqOf y with
    | none => rw [q] at e; cases e
    | some ds =>
      rw [q] at e
      obtain ⟨h1, h2, h3⟩ := in_data e
      exact ⟨ds, rfl, h1, h2, h3⟩
  cases x with
  | str a =>
    cases y with
    | str b =>
      have e : (match a.cps.toList with | [c] => some (D.bl (decide (c ∈ b.cps.toList))) | _ => none) = some d := e
      cases q : a.cps.toList with
      | nil => rw [q] at e; cases e
      | cons c r =>
        cases r with
        | nil => rw [q] at e; cases e; exact .inl ⟨a, b, c, rfl, rfl, q, rfl⟩
        | cons _ _ => rw [q] at e; cases e
    | _ => exact .inr (gen e)
  | _ => exact .inr (gen e)
theorem nin_cases {x y d : D} (e : opSem .nin [x, y] = some d) : (∃ a b c, x = .str a ∧ y = .str b ∧ a.cps.toList = [c] ∧ d = .bl (!decide (c ∈ b.cps.toList))) ∨ ∃ ds, seqOf y = some ds ∧ isData depthLine x = true ∧ isDatas depthLine ds = true ∧ d = .bl (!ds.any fun z => eqD z x) := by
  have gen : (match seqOf y with
    | some ds => if (isData depthLine x && isDatas depthLine ds) = true then some (D.bl (!ds.any fun d => eqD d x)) else none
    | none => none) = some d → ∃ ds, seqOf y = some ds ∧ isData depthLine x = true ∧ isDatas depthLine ds = true ∧ d = .bl (!ds.any fun z => eqD z x) := fun e => by
    cases q : seqOf y with
    | none => rw [q] at e; cases e
    | some ds =>
      rw [q] at e
      obtain ⟨h1, h2, h3⟩ := in_data e
      exact ⟨ds, rfl, h1, h2, h3⟩
  cases x with
  | str a =>
    cases y with
    | str b =>
      have e : (match a.cps.toList with | [c] => some (D.bl (!decide (c ∈ b.cps.toList))) | _ => none) = some d := e
      cases q : a.cps.toList with
      | nil => rw [q] at e; cases e
      | cons c r =>
        cases r with
        | nil => rw [q] at e; cases e; exact .inl ⟨a, b, c, rfl, rfl, q, rfl⟩
        | cons _ _ => rw [q] at e; cases e
    | _ => exact .inr (gen e)
  | _ => exact .inr (gen e)
theorem ko_inn (hK : X.K = g.K) (hu : X.A.units + 65 < cLine) : OpR X (compareOp .In) (KO2 g .inn) := by
  intro pins s σ H x y v u Q I rx ry ⟨G, ds, d, sp, vw, e, q⟩
  match ds, vw with
  | [dx, dy], ⟨wx, wy, _⟩ =>
    rcases inn_cases e with ⟨a, b, c, rfl, rfl, h, rfl⟩ | ⟨ds, hs, h1, h2, rfl⟩
    · refine op_in_sign pins s σ H x y v u Q I rx ry ⟨c, b, by rw [wx.str, str_one h], wy.str, KO.fz q sp rfl (.bl _)⟩
    · obtain ⟨as, bs, r1, r2⟩ := in_core hK I rx ry sp wx wy hs h1 h2
      obtain ⟨l1, m1⟩ := toP_plain _ _ h1
      obtain ⟨l2, m2⟩ := toPs_plain _ _ h2
      have fin : EP X pins σ Q (.bool ((toPs ds).any fun z => PyData.eqv z (toP dx))) s := ⟨.bl _, H, I, rfl, by rw [any_eqv h1 h2]; exact KO.fz q sp rfl (.bl _)⟩
      rcases r2 with r2 | r2
      · exact SeqAt.in_list_data r2 r1 l2 l1 (by have hd : depthLine = 20 := rfl; omega) fin
      · exact SeqAt.in_tuple_data r2 r1 l2 l1 (by have hd : depthLine = 20 := rfl; omega) fin
theorem ko_nin (hK : X.K = g.K) (hu : X.A.units + 65 < cLine) : OpR X (compareOp .NotIn) (KO2 g .nin) := by
  intro pins s σ H x y v u Q I rx ry ⟨G, ds, d, sp, vw, e, q⟩
  match ds, vw with
  | [dx, dy], ⟨wx, wy, _⟩ =>
    rcases nin_cases e with ⟨a, b, c, rfl, rfl, h, rfl⟩ | ⟨ds, hs, h1, h2, rfl⟩
    · refine op_notIn_sign pins s σ H x y v u Q I rx ry ⟨c, b, by rw [wx.str, str_one h], wy.str, KO.fz q sp rfl (.bl _)⟩
    · obtain ⟨as, bs, r1, r2⟩ := in_core hK I rx ry sp wx wy hs h1 h2
      obtain ⟨l1, m1⟩ := toP_plain _ _ h1
      obtain ⟨l2, m2⟩ := toPs_plain _ _ h2
      have fin : EP X pins σ Q (.bool (!(toPs ds).any fun z => PyData.eqv z (toP dx))) s := ⟨.bl _, H, I, rfl, by rw [any_eqv h1 h2]; exact KO.fz q sp rfl (.bl _)⟩
      rcases r2 with r2 | r2
      · exact SeqAt.notIn_list_data r2 r1 l2 l1 (by have hd : depthLine = 20 := rfl; omega) fin
      · exact SeqAt.notIn_tuple_data r2 r1 l2 l1 (by have hd : depthLine = 20 := rfl; omega) fin
end
end Ev
end
section
set_option linter.all false
set_option maxRecDepth 100000
namespace Ev
open PySem PySem.Spec PyProof.Rows L2
section
variable {g : Gh} {X : Cx} {G H : Hp} {F : Hp} {io : Option Addr} {env : Env} {σ : L2.St}

theorem RE.meth {o : Op} {x a : E} {Q : VK} (h : RE g (.meth o x a) σ H Q) : RE g x σ H fun v H1 => ∃ k, (∃ G d, Sup G H1 ∧ Vw g.fa g.K G H1 v d ∧ kindD d = k ∧ mtOk o d = true) ∧
    RA g a σ H1 fun vs H2 => ∃ G dx ds d, kindD dx = k ∧ Sup G H2 ∧ Vw g.fa g.K G H2 v dx ∧ Vws g.fa g.K G H2 vs ds ∧ opSem o (dx :: ds) = some d ∧ ∀ v H' G', Grow G H2 G' H' → RV g.fa g.K H2 G' H' (resO o d) v → Q v H' := by
  obtain ⟨F, G, io, env, r0, p⟩ := h
  refine (RE.one (P := fun r => PostE g F G io env σ r Q) r0 id (fun _ _ _ h => h) p).mono fun v H1 ⟨G1, ox, e1, r1, x1, q1, f1, p⟩ => ?_
  by_cases hk : mtOk o (ox.view e1) = true
  · rw [if_pos hk] at p
    refine ⟨kindD (ox.view e1), ⟨G1, _, r1.gh, view1 r1 q1 f1, rfl, hk⟩, ?_⟩
    refine (RA.all (P := fun r => PostE g F G io env σ r Q) (F := plus F H1 ox v) (r1.frame q1) id (fun _ _ _ h => XP.frame h x1.x q1) p).mono fun vs H2 ⟨G2, os, e2, r2, x2, q2, f2, p⟩ => ?_
    by_cases hk2 : kindD (ox.view e2) = kindD (ox.view e1)
    · rw [if_pos hk2] at p
      obtain ⟨d, ed, p⟩ := ifS_some (P := fun r => PostE g F G io env σ r Q) id p
      have k1 := q1.keep r2 x2.x
      have f1' : Full e2 [ox] := fun i hi => x2.keep i (f1 i hi)
      have r2' := r2.unframe (G' := G1) (env' := e1) q1
      refine ⟨G2, _, _, d, hk2, r2.gh, view1 r2' k1 f1', vws_of r2' q2 f2 fun b e => plus_none q1 e, ed, fun w H' G' gr rv => ?_⟩
      obtain ⟨oo, ff⟩ := RV.or (g := g) r2' gr rv
      exact p w H' G' (r2'.ext gr) (x1.trans ⟨(x2.x.unplus q1).trans (gr.ext r2'.fh), x2.keep⟩) oo ff
    · rw [if_neg hk2] at p; exact p.elim
  · rw [if_neg hk] at p; exact p.elim

theorem opSem1 {o : Op} {ds : List D} {d : D} (h2 : ∀ a b, op2 o a b = none) (h3 : ∀ a b c, op3 o a b c = none) (e : opSem o ds = some d) : ∃ x, ds = [x] ∧ op1 o x = some d := by
  match ds, e with
  | [], e => exact noS e
  | [x], e => exact ⟨x, rfl, e⟩
  | [x, y], e => exact noS ((h2 x y).symm.trans e)
  | [x, y, z], e => exact noS ((h3 x y z).symm.trans e)
  | _ :: _ :: _ :: _ :: _, e => exact noS e
theorem opSem2 {o : Op} {ds : List D} {d : D} (h2 : ∀ a, op1 o a = none) (h3 : ∀ a b c, op3 o a b c = none) (e : opSem o ds = some d) : ∃ x y, ds = [x, y] ∧ op2 o x y = some d := by
  match ds, e with
  | [], e => exact noS e
  | [x], e => exact noS ((h2 x).symm.trans e)
  | [x, y], e => exact ⟨x, y, rfl, e⟩
  | [x, y, z], e => exact noS ((h3 x y z).symm.trans e)
  | _ :: _ :: _ :: _ :: _, e => exact noS e
theorem vws1 {xs : List V} {d : D} (h : Vws g.fa g.K G H xs [d]) : ∃ x, xs = [x] ∧ Vw g.fa g.K G H x d := by
  match xs, h with
  | [x], h => exact ⟨x, rfl, h.1⟩
  | [], h => exact h.elim
  | _ :: _ :: _, h => exact h.2.elim
theorem vws2 {xs : List V} {d e : D} (h : Vws g.fa g.K G H xs [d, e]) : ∃ x y, xs = [x, y] ∧ Vw g.fa g.K G H x d ∧ Vw g.fa g.K G H y e := by
  match xs, h with
  | [x, y], h => exact ⟨x, y, rfl, h.1, h.2.1⟩
  | [], h => exact h.elim
  | [_], h => exact h.2.elim
  | _ :: _ :: _ :: _, h => exact h.2.2.elim

theorem atN_get {vs : List V} {ds : List D} {i : Int} {d : D} (dd : DgAll g.fa g.K G vs ds) (e : ((atN ds.length i).bind fun k => ds[k]?) = some d) : ∃ v, atI vs i = some v ∧ Dg g.fa g.K G v d := by
  unfold atI
  rw [dd.length, ← atN_ixN]
  cases q : atN ds.length i with
  | none => rw [q] at e; cases e
  | some k => rw [q] at e; exact dd.get e
theorem resO_ix (d : D) : resO .ix d = .fz d := by cases d <;> rfl
theorem ko_ix (hK : X.K = g.K) : IxR X (KO2 g .ix) := by
  intro value slice pins s σ H x y v u Q I rx ry ⟨G, ds, d, sp, vw, e, q⟩ hs
  match ds, vw with
  | [dx, dy], ⟨wx, wy, _⟩ =>
    cases dx <;> cases dy <;> first | exact noS e | skip
    · rename_i a i
      have e : (if a.cps.size ≤ cap then (atN a.cps.size i).bind fun k => a.cps[k]?.map fun c => D.str ⟨#[c]⟩ else none) = some d := e
      by_cases h : a.cps.size ≤ cap
      · rw [if_pos h] at e
        cases q1 : atN a.cps.size i with
        | none => rw [q1] at e; cases e
        | some k =>
          rw [q1] at e
          have e : (a.cps[k]?.map fun c => D.str ⟨#[c]⟩) = some d := e
          cases q2 : a.cps[k]? with
          | none => rw [q2] at e; cases e
          | some c =>
            rw [q2] at e; cases e
            refine ix_str value slice pins s σ H x y v u Q I rx ry ⟨a, i, c, wx.str, wy.int, by rw [sizeLine_eq]; exact h, ?_, KO.fz q sp rfl (.str _)⟩ hs
            unfold atI
            rw [Array.length_toList, ← atN_ixN, q1]
            simpa using q2
      · rw [if_neg h] at e; cases e
    · rename_i ds i
      obtain ⟨p, vs, rfl, h1, dd⟩ := wx.tup sp
      obtain ⟨w, h2, h3⟩ := atN_get dd e
      have R : IxR X (rIxT g.K) := hK ▸ ix_tup
      exact R value slice pins s σ H _ y v u Q I rx ry ⟨p, vs, i, w, rfl, wy.int, h1.seqT, h2, KO.fz q sp (resO_ix d) h3⟩ hs
    · rename_i ds i
      obtain ⟨p, vs, rfl, h1, dd⟩ := wx.lstL sp
      obtain ⟨w, h2, h3⟩ := atN_get dd e
      have R : IxR X (rIxL g.K) := hK ▸ ix_list
      exact R value slice pins s σ H _ y v u Q I rx ry ⟨p, vs, i, w, rfl, wy.int, h1, h2, KO.fz q sp (resO_ix d) h3⟩ hs
    · rename_i ns i
      obtain ⟨p, rfl, h1⟩ := wx.ro sp
      have e : ((atN ns.length i).bind fun k => ns[k]?.map D.int) = some d := e
      have e2 : ((atN (ns.map D.int).length i).bind fun k => (ns.map D.int)[k]?) = some d := by simpa using e
      obtain ⟨w, h2, h3⟩ := atN_get (DgAll.ofInts (fa := g.fa) (K := g.K) (G := G) ns) e2
      have R : IxR X (rIxL g.K) := hK ▸ ix_list
      exact R value slice pins s σ H _ y v u Q I rx ry ⟨p, _, i, w, rfl, wy.int, h1, h2, KO.fz q sp (resO_ix d) h3⟩ hs

def KS (g : Gh) (lo hi : Option Int) : V → Hp → VK → Prop := fun x H Q => ∃ G dx d, Sup G H ∧ Vw g.fa g.K G H x dx ∧ cutD dx lo hi = some d ∧ ∀ v H' G', Grow G H G' H' → RV g.fa g.K H G' H' (resO .len d) v → Q v H'
theorem cutN_sIx (n d : Nat) : ∀ o : Option Int, cutN n d o = HT.sIx n d o
  | none => rfl
  | some _ => rfl
theorem cutL_cutV {vs : List V} {ds : List D} {lo hi : Option Int} (dd : DgAll g.fa g.K G vs ds) : DgAll g.fa g.K G (cutV vs lo hi) (cutL ds lo hi) := by
  unfold cutV cutL
  rw [dd.length, cutN_sIx, cutN_sIx]
  exact (dd.drop _).take _
theorem ks_slice (hK : X.K = g.K) : SlR X (fun x lo hi H Q => KS g lo hi x H Q) := by
  intro pins s σ H x v vl vu lo hi sl Q I rx hs pl pu ⟨G, dx, d, sp, wx, e, q⟩
  cases dx <;> first | exact noS e | skip
  · rename_i a
    have e : (if a.cps.size ≤ 16777216 then some (D.str ⟨(cutL a.cps.toList lo hi).toArray⟩) else none) = some d := e
    by_cases h : a.cps.size ≤ 16777216
    · rw [if_pos h] at e; cases e
      refine sl_str pins s σ H x v vl vu lo hi sl Q I rx hs pl pu ⟨a, wx.str, by rw [sizeLine_eq]; exact h, ?_⟩
      refine KO.fz q sp rfl ?_
      have z : (⟨(cutL a.cps.toList lo hi).toArray⟩ : Str) = cutS a lo hi := by
        unfold cutL cutS
        rw [cutN_sIx, cutN_sIx]
        rfl
      rw [z]
      exact .str _
    · rw [if_neg h] at e; cases e
  · cases e
    rename_i ds
    obtain ⟨p, vs, rfl, h1, dd⟩ := wx.tup sp
    have R : SlR X (rSlF g.K) := hK ▸ sl_tupF
    refine R pins s σ H _ v vl vu lo hi sl Q I rx hs pl pu ⟨p, vs, rfl, h1.seqT, fun z => ?_, fun _ w ob hw hd => KO.newT q sp (cutL_cutV dd) hw hd⟩
    have e : cutL ds lo hi = ds := by
      unfold cutL
      rw [cutN_sIx, cutN_sIx, ← dd.length, z.1, z.2, dd.length]
      simp
    rw [e] at q
    rcases wx with w | ⟨_, _, w⟩
    · exact KO.fz q sp rfl w
    · exact w.elim
  · cases e
    rename_i ds
    obtain ⟨p, vs, rfl, h1, dd⟩ := wx.lstL sp
    have R : SlR X (rSlL g.K) := hK ▸ sl_list
    exact R pins s σ H _ v vl vu lo hi sl Q I rx hs pl pu ⟨p, vs, rfl, h1, fun w hw => KO.newL q sp rfl (cutL_cutV dd) hw⟩
  · cases e
    rename_i ns
    obtain ⟨p, rfl, h1⟩ := wx.ro sp
    have R : SlR X (rSlL g.K) := hK ▸ sl_list
    refine R pins s σ H _ v vl vu lo hi sl Q I rx hs pl pu ⟨p, _, rfl, h1, fun w hw => KO.newL q sp rfl ?_ hw⟩
    have z : (cutL ns lo hi).map D.int = cutL (ns.map D.int) lo hi := by
      unfold cutL
      rw [List.length_map, List.map_take, List.map_drop]
    rw [z]
    exact cutL_cutV (DgAll.ofInts ns)

theorem RE.cut2 {x a b : E} {Q : VK} (h : RE g (.cut2 x a b) σ H Q) : RE g x σ H fun v H1 => RE g a σ H1 fun u H2 => ∃ i, u = .int i ∧ RE g b σ H2 fun w H3 => ∃ j, w = .int j ∧ KS g (some i) (some j) v H3 Q := by
  obtain ⟨F, G, io, env, r0, p⟩ := h
  refine (RE.one (P := fun r => PostE g F G io env σ r Q) r0 id (fun _ _ _ h => h) p).mono fun v H1 ⟨G1, ox, e1, r1, x1, q1, f1, p⟩ => ?_
  refine (RE.one (P := fun r => PostE g F G io env σ r Q) (F := plus F H1 ox v) (r1.frame q1) id (fun _ _ _ h => XP.frame h x1.x q1) p).mono fun u H2 ⟨G2, oa, e2, r2, x2, q2, f2, p⟩ => ?_
  obtain ⟨i, ei, p⟩ := ifI_int (P := fun r => PostE g F G io env σ r Q) id p
  refine ⟨i, OR.int r2 q2 f2 ei, ?_⟩
  refine (RE.one (P := fun r => PostE g F G io env σ r Q) (F := plus F H1 ox v) r2 id (fun _ _ _ h => XP.later (XP.frame h x1.x q1) x2.x) p).mono fun w H3 ⟨G3, ob, e3, r3, x3, q3, f3, p⟩ => ?_
  obtain ⟨j, ej, p⟩ := ifI_int (P := fun r => PostE g F G io env σ r Q) id p
  refine ⟨j, OR.int r3 q3 f3 ej, ?_⟩
  obtain ⟨d, ed, p⟩ := ifS_some (P := fun r => PostE g F G io env σ r Q) id p
  have x23 := x2.trans x3
  have k1 := q1.keep r3 x23.x
  have f1' : Full e3 [ox] := fun i hi => x23.keep i (f1 i hi)
  have r3' := r3.unframe (G' := G1) (env' := e1) q1
  refine ⟨G3, _, d, r3.gh, view1 r3' k1 f1', ed, fun w H' G' gr rv => ?_⟩
  obtain ⟨oo, ff⟩ := RV.or (g := g) r3' gr rv
  exact p w H' G' (r3'.ext gr) (x1.trans ⟨(x23.x.unplus q1).trans (gr.ext r3'.fh), x23.keep⟩) oo ff

theorem ko_len (hK : X.K = g.K) : CallR X (.builtin "len") (fun vs H Q => KO g .len vs H Q) := by
  intro pins s σ H xs us Q I r ⟨G, ds, d, sp, vw, e, q⟩
  obtain ⟨dx, rfl, e'⟩ := opSem1 (fun _ _ => rfl) (fun _ _ _ => rfl) e
  replace e := e'
  clear e'
  obtain ⟨x, rfl, wx⟩ := vws1 vw
  · skip
    have R : CallR X (.builtin "len") (fun xs H Q => ∃ x n, xs = [x] ∧ LenV g.K x H n ∧ Q (.int n) H) := hK ▸ call_len
    cases dx <;> first | exact noS e | skip
    · rename_i a
      have e : (if a.cps.size ≤ cap then some (D.int a.cps.size) else none) = some d := e
      by_cases h : a.cps.size ≤ cap
      · rw [if_pos h] at e; cases e
        cases wx.str
        exact R pins s σ H _ us Q I r ⟨_, a.length, rfl, ⟨by rw [sizeLine_eq]; exact h, rfl⟩, KO.fz q sp rfl (.int _)⟩
      · rw [if_neg h] at e; cases e
    · cases e
      obtain ⟨p, vs, rfl, h1, dd⟩ := wx.tup sp
      rw [← dd.length] at q
      exact R pins s σ H _ us Q I r ⟨_, _, rfl, .inr ⟨vs, h1.seqT, rfl⟩, KO.fz q sp rfl (.int _)⟩
    · cases e
      obtain ⟨p, vs, rfl, h1, dd⟩ := wx.lstL sp
      rw [← dd.length] at q
      exact R pins s σ H _ us Q I r ⟨_, _, rfl, .inl ⟨vs, h1, rfl⟩, KO.fz q sp rfl (.int _)⟩
    · cases e
      obtain ⟨p, rfl, h1⟩ := wx.ro sp
      exact R pins s σ H _ us Q I r ⟨_, _, rfl, .inl ⟨_, h1, by simp⟩, KO.fz q sp rfl (.int _)⟩
theorem ko_abs : CallR X (.builtin "abs") (fun vs H Q => KO g .abs vs H Q) := by
  intro pins s σ H xs us Q I r ⟨G, ds, d, sp, vw, e, q⟩
  obtain ⟨dx, rfl, e'⟩ := opSem1 (fun _ _ => rfl) (fun _ _ _ => rfl) e
  replace e := e'
  clear e'
  obtain ⟨x, rfl, wx⟩ := vws1 vw
  · skip
    cases dx <;> first | exact noS e | skip
    cases e
    exact call_abs pins s σ H _ us Q I r ⟨_, by rw [wx.int], KO.fz q sp rfl (.int _)⟩
theorem ko_int1 : CallR X (.type "int") (fun vs H Q => KO g .int1 vs H Q) := by
  intro pins s σ H xs us Q I r ⟨G, ds, d, sp, vw, e, q⟩
  obtain ⟨dx, rfl, e'⟩ := opSem1 (fun _ _ => rfl) (fun _ _ _ => rfl) e
  replace e := e'
  clear e'
  obtain ⟨x, rfl, wx⟩ := vws1 vw
  · skip
    cases dx <;> first | exact noS e | skip
    · cases e
      exact call_int1 pins s σ H _ us Q I r (.inr ⟨_, by rw [wx.bl], KO.fz q sp rfl (.int _)⟩)
    · cases e
      exact call_int1 pins s σ H _ us Q I r (.inl ⟨_, by rw [wx.int], KO.fz q sp rfl (.int _)⟩)
theorem ko_max2 (hc : X.calm = true) : CallR X (.builtin "max") (fun vs H Q => KO g .max2 vs H Q) := by
  intro pins s σ H xs us Q I r ⟨G, ds, d, sp, vw, e, q⟩
  obtain ⟨dx, dy, rfl, e'⟩ := opSem2 (fun _ => rfl) (fun _ _ _ => rfl) e
  replace e := e'
  clear e'
  obtain ⟨x, y, rfl, wx, wy⟩ := vws2 vw
  · skip
    cases dx <;> cases dy <;> first | exact noS e | skip
    cases e
    exact call_max2 hc pins s σ H _ us Q I r ⟨_, _, by rw [wx.int, wy.int], KO.fz q sp rfl (.int _)⟩
theorem ko_min2 (hc : X.calm = true) : CallR X (.builtin "min") (fun vs H Q => KO g .min2 vs H Q) := by
  intro pins s σ H xs us Q I r ⟨G, ds, d, sp, vw, e, q⟩
  obtain ⟨dx, dy, rfl, e'⟩ := opSem2 (fun _ => rfl) (fun _ _ _ => rfl) e
  replace e := e'
  clear e'
  obtain ⟨x, y, rfl, wx, wy⟩ := vws2 vw
  · skip
    cases dx <;> cases dy <;> first | exact noS e | skip
    cases e
    exact call_min2 hc pins s σ H _ us Q I r ⟨_, _, by rw [wx.int, wy.int], KO.fz q sp rfl (.int _)⟩
theorem ko_list (hK : X.K = g.K) : CallR X (.type "list") (fun vs H Q => KO g .list vs H Q) := by
  intro pins s σ H xs us Q I r ⟨G, ds, d, sp, vw, e, q⟩
  obtain ⟨dx, rfl, e'⟩ := opSem1 (fun _ _ => rfl) (fun _ _ _ => rfl) e
  replace e := e'
  clear e'
  obtain ⟨x, rfl, wx⟩ := vws1 vw
  · skip
    have R : CallR X (.type "list") (fun xs H Q => ∃ p ys, xs = [.ref p] ∧ (SqL g.K H p ys ∨ SqT g.K H p ys) ∧ ∀ l, H l = none → Q (.ref l) (upd H l (.lst ys))) := hK ▸ call_list_of
    cases dx <;> first | exact noS e | skip
    · cases e
      obtain ⟨p, vs, rfl, h1, dd⟩ := wx.tup sp
      exact R pins s σ H _ us Q I r ⟨_, _, rfl, .inr h1.seqT, fun l hl => KO.newL q sp rfl dd hl⟩
    · cases e
      obtain ⟨p, vs, rfl, h1, dd⟩ := wx.lstL sp
      exact R pins s σ H _ us Q I r ⟨_, _, rfl, .inl h1, fun l hl => KO.newL q sp rfl dd hl⟩
    · cases e
      obtain ⟨p, rfl, h1⟩ := wx.ro sp
      exact R pins s σ H _ us Q I r ⟨_, _, rfl, .inl h1, fun l hl => KO.newL q sp rfl (DgAll.ofInts _) hl⟩
theorem ko_tuple (hK : X.K = g.K) : CallR X (.type "tuple") (fun vs H Q => KO g .tuple vs H Q) := by
  intro pins s σ H xs us Q I r ⟨G, ds, d, sp, vw, e, q⟩
  obtain ⟨dx, rfl, e'⟩ := opSem1 (fun _ _ => rfl) (fun _ _ _ => rfl) e
  replace e := e'
  clear e'
  obtain ⟨x, rfl, wx⟩ := vws1 vw
  · skip
    have R : CallR X (.type "tuple") (fun xs H Q => ∃ p ys, xs = [.ref p] ∧ ((SqL g.K H p ys ∧ ∀ l o, H l = none → o.dict = none → Q (.ref l) (upd H l (.frz o (.tup ys)))) ∨ (SqT g.K H p ys ∧ Q (.ref p) H))) := hK ▸ call_tupleF
    cases dx <;> first | exact noS e | skip
    · cases e
      obtain ⟨p, vs, rfl, h1, dd⟩ := wx.tup sp
      refine R pins s σ H _ us Q I r ⟨_, _, rfl, .inr ⟨h1.seqT, ?_⟩⟩
      rcases wx with w | ⟨_, _, w⟩
      · exact KO.fz q sp rfl w
      · exact w.elim
    · cases e
      obtain ⟨p, vs, rfl, h1, dd⟩ := wx.lstL sp
      exact R pins s σ H _ us Q I r ⟨_, _, rfl, .inl ⟨h1, fun l ob hl hd => KO.newT q sp dd hl hd⟩⟩
theorem ko_all (hK : X.K = g.K) (hc : X.calm = true) : CallR X (.builtin "all") (fun vs H Q => KO g .all vs H Q) := by
  intro pins s σ H xs us Q I r ⟨G, ds, d, sp, vw, e, q⟩
  obtain ⟨dx, rfl, e'⟩ := opSem1 (fun _ _ => rfl) (fun _ _ _ => rfl) e
  replace e := e'
  clear e'
  obtain ⟨x, rfl, wx⟩ := vws1 vw
  · skip
    have R : CallR X (.builtin "all") (rAll g.K) := hK ▸ cr_all hc
    cases dx <;> first | exact noS e | skip
    rename_i ds
    have e : ((blsOf ds).map fun l => D.bl (l.all id)) = some d := e
    cases qb : blsOf ds with
    | none => rw [qb] at e; cases e
    | some l =>
      rw [qb] at e; cases e
      obtain ⟨p, vs, rfl, h1, dd⟩ := wx.lstL sp
      have hv := dd.bls qb
      subst hv
      exact R pins s σ H _ us Q I r ⟨p, l, rfl, h1, KO.fz q sp rfl (.bl _)⟩
theorem ko_any (hK : X.K = g.K) (hc : X.calm = true) : CallR X (.builtin "any") (fun vs H Q => KO g .any vs H Q) := by
  intro pins s σ H xs us Q I r ⟨G, ds, d, sp, vw, e, q⟩
  obtain ⟨dx, rfl, e'⟩ := opSem1 (fun _ _ => rfl) (fun _ _ _ => rfl) e
  replace e := e'
  clear e'
  obtain ⟨x, rfl, wx⟩ := vws1 vw
  · skip
    have R : CallR X (.builtin "any") (rAny g.K) := hK ▸ cr_any hc
    cases dx <;> first | exact noS e | skip
    rename_i ds
    have e : ((blsOf ds).map fun l => D.bl (l.any id)) = some d := e
    cases qb : blsOf ds with
    | none => rw [qb] at e; cases e
    | some l =>
      rw [qb] at e; cases e
      obtain ⟨p, vs, rfl, h1, dd⟩ := wx.lstL sp
      have hv := dd.bls qb
      subst hv
      exact R pins s σ H _ us Q I r ⟨p, l, rfl, h1, KO.fz q sp rfl (.bl _)⟩
theorem preSum_ns {ns : List Int} {xs : Array (Int × Tok)} (h : numsOf (intItems xs).toList = ns) : preSum (numAt xs) xs.size = ns.sum := by
  rw [nums_intItems] at h
  subst h
  rw [preSum_eq, List.take_of_length_le (by simp)]
theorem ko_sum (hK : X.K = g.K) (hc : X.calm = true) : CallR X (.builtin "sum") (fun vs H Q => KO g .sum vs H Q) := by
  intro pins s σ H xs us Q I r ⟨G, ds, d, sp, vw, e, q⟩
  obtain ⟨dx, rfl, e'⟩ := opSem1 (fun _ _ => rfl) (fun _ _ _ => rfl) e
  replace e := e'
  clear e'
  obtain ⟨x, rfl, wx⟩ := vws1 vw
  · skip
    have R : CallR X (.builtin "sum") (rSum g.K) := hK ▸ cr_sum hc
    cases dx <;> first | exact noS e | skip
    · rename_i ds
      have e : ((intsOf ds).map fun l => D.int l.sum) = some d := e
      cases qb : intsOf ds with
      | none => rw [qb] at e; cases e
      | some l =>
        rw [qb] at e; cases e
        obtain ⟨p, vs, rfl, h1, dd⟩ := wx.tup sp
        have hv := dd.ints qb
        subst hv
        have h1 := h1.seqT
        rw [← hK] at h1
        obtain ⟨its, rv, ht, hz⟩ := I.tuple h1
        rw [Vals.ref1 r]
        obtain ⟨zs, ez⟩ := rv.ints.allInts.items
        have hn : numsOf (intItems zs).toList = l := by rw [← ez]; exact rv.ints.numsOf
        rw [ez] at ht
        refine PySem.W.ktm_sumG (I.ok.hd hc) ht fun h' tk t' hk => ⟨.int _, H, I.kept hk, ⟨_, rfl⟩, ?_⟩
        rw [preSum_ns hn]
        exact KO.fz q sp rfl (.int _)
    · rename_i ds
      have e : ((intsOf ds).map fun l => D.int l.sum) = some d := e
      cases qb : intsOf ds with
      | none => rw [qb] at e; cases e
      | some l =>
        rw [qb] at e; cases e
        obtain ⟨p, vs, rfl, h1, dd⟩ := wx.lstL sp
        have hv := dd.ints qb
        subst hv
        exact R pins s σ H _ us Q I r ⟨p, l, rfl, h1, KO.fz q sp rfl (.int _)⟩
end
end Ev
end
section
set_option linter.all false
set_option maxRecDepth 100000
namespace Ev
open PySem PySem.Spec PyProof.Rows L2
open PySem.W (alike AllAlike Sortable dataLt dataLe TotalLe sameRank EachIs sortVals)

mutual
theorem alike_symm : ∀ (d e : D), alikeD d e = alikeD e d
  | .int _, e => by cases e <;> rfl
  | .str _, e => by cases e <;> rfl
  | .tup xs, e => by
    cases e with
    | tup ys => rw [alikeD, alikeD]; exact alikes_symm xs ys
    | _ => rfl
  | .non, e => by cases e <;> rfl
  | .bl _, e => by cases e <;> rfl
  | .lst _, e => by cases e <;> rfl
  | .ro _, e => by cases e <;> rfl
  | .fn _, e => by cases e <;> rfl
  | .dic _, e => by cases e <;> rfl
theorem alikes_symm : ∀ (ds es : List D), alikeDs ds es = alikeDs es ds
  | [], [] => rfl
  | [], e :: es => rfl
  | d :: ds, [] => rfl
  | d :: ds, e :: es => by rw [alikeDs, alikeDs, alike_symm d e, alikes_symm ds es]
end
theorem allAlike_mem : ∀ {ds : List D}, allAlike ds = true → ∀ x ∈ ds, ∀ y ∈ ds, alikeD x y = true
  | [], _, x, hx, _, _ => absurd hx (by simp)
  | d :: ds, h, x, hx, y, hy => by
    rw [allAlike, Bool.and_eq_true, Bool.and_eq_true] at h
    obtain ⟨⟨h1, h2⟩, h3⟩ := h
    rw [List.all_eq_true] at h2
    rcases List.mem_cons.mp hx with ex | hx2
    · rcases List.mem_cons.mp hy with ey | hy2
      · rw [ex, ey]; exact h1
      · rw [ex]; exact h2 y hy2
    · rcases List.mem_cons.mp hy with ey | hy2
      · rw [ey, alike_symm]; exact h2 x hx2
      · exact allAlike_mem h3 x hx2 y hy2
theorem insD_mem {x z : D} : ∀ {ds : List D}, z ∈ insD x ds → z = x ∨ z ∈ ds
  | [], h => by simpa [insD] using h
  | y :: ys, h => by
    unfold insD at h
    split at h
    · rcases List.mem_cons.mp h with rfl | h
      · exact .inr List.mem_cons_self
      · rcases insD_mem h with e | e
        · exact .inl e
        · exact .inr (List.mem_cons_of_mem _ e)
    · rcases List.mem_cons.mp h with rfl | h
      · exact .inl rfl
      · exact .inr h
theorem sortD_mem {z : D} : ∀ {ds : List D}, z ∈ sortD ds → z ∈ ds
  | [], h => by simp [sortD] at h
  | y :: ys, h => by
    rw [sortD] at h
    rcases insD_mem h with rfl | h
    · exact List.mem_cons_self
    · exact List.mem_cons_of_mem _ (sortD_mem h)
theorem insD_len (x : D) : ∀ ds : List D, (insD x ds).length = ds.length + 1
  | [] => rfl
  | y :: ys => by unfold insD; split <;> simp [insD_len x ys]
theorem sortD_len : ∀ ds : List D, (sortD ds).length = ds.length
  | [] => rfl
  | y :: ys => by rw [sortD, insD_len, sortD_len ys]; rfl
section
variable {le : D → D → Bool}
theorem ins_pair (h : TotalLe le) {x : D} : ∀ {ds : List D}, (∀ y ∈ ds, ltD y x = !le x y) → ds.Pairwise (fun a b => le a b = true) → (insD x ds).Pairwise (fun a b => le a b = true)
  | [], _, _ => by simp [insD]
  | y :: ys, hk, hp => by
    rw [List.pairwise_cons] at hp
    have hy := hk y List.mem_cons_self
    unfold insD
    split
    · rename_i q
      rw [q] at hy
      have hy' : le x y = false := by simpa using hy.symm
      have hyx : le y x = true := (h.total y x).elim id fun z => by rw [hy'] at z; cases z
      rw [List.pairwise_cons]
      refine ⟨fun z hz => ?_, ins_pair h (fun w hw => hk w (List.mem_cons_of_mem _ hw)) hp.2⟩
      rcases insD_mem hz with rfl | hz
      · exact hyx
      · exact hp.1 z hz
    · rename_i q
      have hxy : le x y = true := by
        cases e : le x y with
        | true => rfl
        | false => rw [e] at hy; exact absurd hy q
      rw [List.pairwise_cons, List.pairwise_cons]
      refine ⟨fun z hz => ?_, hp⟩
      rcases List.mem_cons.mp hz with rfl | hz
      · exact hxy
      · exact h.trans _ _ _ hxy (hp.1 z hz)
theorem ins_filter (h : TotalLe le) {x : D} (c : D) : ∀ {ds : List D}, (∀ y ∈ ds, ltD y x = !le x y) → (insD x ds).filter (sameRank le c) = (x :: ds).filter (sameRank le c)
  | [], _ => rfl
  | y :: ys, hk => by
    have hy := hk y List.mem_cons_self
    unfold insD
    split
    · rename_i q
      rw [q] at hy
      have hy' : le x y = false := by simpa using hy.symm
      have ih := ins_filter h c (ds := ys) fun w hw => hk w (List.mem_cons_of_mem _ hw)
      rw [List.filter_cons, ih]
      by_cases q1 : sameRank le c y = true
      · by_cases q2 : sameRank le c x = true
        · unfold sameRank at q1 q2
          rw [Bool.and_eq_true] at q1 q2
          have z := h.trans x c y q2.2 q1.1
          rw [hy'] at z; cases z
        · rw [if_pos q1, List.filter_cons_of_neg q2, List.filter_cons_of_neg q2, List.filter_cons_of_pos q1]
      · rw [if_neg q1]
        by_cases q2 : sameRank le c x = true
        · rw [List.filter_cons_of_pos q2, List.filter_cons_of_pos q2, List.filter_cons_of_neg q1]
        · rw [List.filter_cons_of_neg q2, List.filter_cons_of_neg q2, List.filter_cons_of_neg q1]
    · rfl
theorem sortD_merge (h : TotalLe le) : ∀ {ds : List D}, (∀ x ∈ ds, ∀ y ∈ ds, ltD y x = !le x y) → (sortD ds).Pairwise (fun a b => le a b = true) ∧ ∀ c, (sortD ds).filter (sameRank le c) = ds.filter (sameRank le c)
  | [], _ => ⟨by simp [sortD], fun _ => rfl⟩
  | x :: xs, hk => by
    obtain ⟨h1, h2⟩ := sortD_merge h (ds := xs) fun a ha b hb => hk a (List.mem_cons_of_mem _ ha) b (List.mem_cons_of_mem _ hb)
    have hx : ∀ y ∈ sortD xs, ltD y x = !le x y := fun y hy => hk x List.mem_cons_self y (List.mem_cons_of_mem _ (sortD_mem hy))
    rw [sortD]
    refine ⟨ins_pair h hx h1, fun c => ?_⟩
    rw [ins_filter h c hx, List.filter_cons, List.filter_cons, h2 c]
end
theorem sortD_eq {ds : List D} (h : allAlike ds = true) : sortD ds = ds.mergeSort (dataLe false toP) := by
  have T : TotalLe (dataLe false toP : D → D → Bool) := PySem.W.sortLe_total _ false _
  have k := sortD_merge T (ds := ds) fun x hx y hy => by
    rw [PySem.W.dataLe_eq]
    show ltD y x = !(!dataLt (toP y) (toP x))
    rw [Bool.not_not, lt_eq _ _ (allAlike_mem h y hy x hx)]
  exact PySem.W.sort_unique T k.1 k.2

section
variable {prog : Program} {w : World} {A : Around} {E : Value → Shared → Prop} {s : Shared}
theorem collect_tup {l : Addr} {vs : List Value} {Q : List Value → Shared → Prop} (hl : s.heap.IsTuple l vs.toArray) (hsz : vs.length ≤ sizeLine)
    (h : Q vs { s with heap := (s.heap.push (seqObj "list" #[] 0)).update s.heap.objs.size (Obj.mapSeq (· ++ vs.toArray)) }) :
    wpAny (model prog w) A (collect (.ref l)) Q E s := by
  obtain ⟨o, ho, hc, n, hd⟩ := id hl
  unfold collect
  refine wpAny_bind (wpAny_runValue (codeAny_builtin entry_proto_collect' ?_))
  show wpAny _ _ (do again (.builtin "list.__iadd__" ⟨[← newList [], .ref l], []⟩)) _ _ s
  refine wpAny_bind (wpAny_newList (wpAny_pure ⟨Code.quiet_builtin _ (by decide +kernel), codeAny_builtin entry_list_iadd' ?_⟩))
  show wpAny _ _ (Builtin.List.listExtendWith (.ref s.heap.objs.size) (.ref l) (.ref s.heap.objs.size)) _ _ { s with heap := s.heap.push (seqObj "list" #[] 0) }
  unfold Builtin.List.listExtendWith
  have ho' : (s.heap.push (seqObj "list" #[] 0)).get? l = some o := Heap.get?_push_of_some _ ho
  refine wpAny_bind (wpAny_typeOf (T := "tuple") ⟨o, ho', hc⟩ ?_)
  have ht : (Value.type "tuple" == Value.type "tuple") = true := by rfl
  rw [if_pos (by rw [ht]; simp)]
  refine wpAny_bind (listItems_at ho' hd ?_)
  refine wpAny_bind (listItems_at (xs := #[]) (n := 0) (Heap.get?_push_size _ rfl) rfl ?_)
  rw [if_neg (by simp)]
  refine wpAny_bind (listUpdate_at (xs := #[]) (n := 0) (Heap.get?_push_size _ rfl) rfl ?_ (Nat.zero_le _) (by show (#[] ++ vs.toArray).size ≤ sizeLine + 1; simp only [Array.size_append, List.size_toArray, List.length_nil]; omega))
  refine wpAny_pure ?_
  show wpAny (model prog w) A (do
      let o ← load s.heap.objs.size
      match o.data with
      | .seq xs _ => pure xs.toList
      | _ => unsupported "internal:collect") Q E { s with heap := (s.heap.push (seqObj "list" #[] 0)).update s.heap.objs.size (Obj.mapSeq (· ++ vs.toArray)) }
  refine wpAny_bind (wpAny_load (get?_update_seq (Heap.get?_push_size _ rfl) _) ?_)
  show wpAny _ _ (pure ((#[] : Array Value) ++ vs.toArray).toList) Q E _
  rw [show ((#[] : Array Value) ++ vs.toArray).toList = vs by simp]
  exact wpAny_pure h
theorem sorted_tup {l : Addr} {vs : List Value} {bs : List D} {R : Value → D → Prop} {Q : Value → Shared → Prop} (hl : s.heap.IsTuple l vs.toArray) (e : EachIs R vs bs) (er : EachIs (fun v b => ∃ as, Reads s.heap v (toP b) as) vs bs) (hal : AllAlike (bs.map toP)) (hk : Sortable (bs.map toP)) (hL : bs.length ≤ sizeLine)
    (hu : ∀ b, b ∈ bs → A.units + 2 + (toP b).depth < cLine) (h : ∀ out, out.length = bs.length → EachIs R out (bs.mergeSort (dataLe false toP)) → Q (.ref (s.heap.objs.size + 1)) { s with heap := sortedAll s.heap vs (List.toArray out) }) :
    wpAny (model prog w) A (call (.builtin "sorted") [.ref l]) Q E s := by
  have er' : EachIs (fun v b => ∃ as, Reads (PySem.W.sortingHeap (PySem.W.copyHeap s.heap vs) (s.heap.objs.size + 1) vs) v (toP b) as) vs bs := er.mono fun _ _ ⟨as, r⟩ => ⟨as, PyProof.Rows.Reads.keeps (fun _ _ => PySem.W.sorting_copy_old) r⟩
  have hvl : vs.length ≤ sizeLine := by rw [e.length]; exact hL
  have S := PySem.W.SortsAt.data (prog := prog) (w := w) (A := A.in1.in1) (s := { s with heap := PySem.W.sortingHeap (PySem.W.copyHeap s.heap vs) (s.heap.objs.size + 1) vs }) (PySem.W.each_map (R := fun v d => ∃ as, Reads (PySem.W.sortingHeap (PySem.W.copyHeap s.heap vs) (s.heap.objs.size + 1) vs) v d as) toP er') hal hk (PySem.W.bound_map hu)
  have hq := h _ (by rw [PySem.W.sortVals_length false rfl]; exact e.length) (PySem.W.sortVals_data false e er' hal)
  refine call_function_entry_kw kind_sorted plain_sorted entry_sorted (args_sorted1 _) ?_
  unfold Builtin.«sorted»
  refine wpAny_bind (m := checkCount "sorted" 1 1 _) (wpAny_pure ?_)
  refine wpAny_bind (collect_tup hl hvl ?_)
  refine wpAny_bind (wpAny_newList ?_ hvl)
  have hsz : ((s.heap.push (seqObj "list" #[] 0)).update s.heap.objs.size (Obj.mapSeq (· ++ vs.toArray))).objs.size = s.heap.objs.size + 1 := by
    rw [Heap.size_update, size_push']
  show wpAny _ _ _ _ _ { s with heap := PySem.W.copyHeap s.heap vs }
  rw [hsz]
  refine wpAny_bind (wpAny_holding (wpAny_call_entry_kw slot_list_sort ⟨_, PySem.W.copyHeap_at s.heap vs, rfl⟩ entry_list_sort ?_ (args_list_sort _)))
  exact PySem.W.list_sort_vals (s := { s with heap := PySem.W.copyHeap s.heap vs }) (PySem.W.copyHeap_at s.heap vs) S hvl ⟨_, rfl, wpAny_pure ⟨_, rfl, hq⟩⟩
end
theorem srt_ok {ds : List D} (h : srtOk ds = true) : Sortable (ds.map toP) := by
  rcases Bool.or_eq_true_iff.mp h with h | h
  · refine .inl fun d hd => ?_
    obtain ⟨b, hb, rfl⟩ := List.mem_map.mp hd
    have := List.all_eq_true.mp h b hb
    cases b with
    | tup xs =>
      cases xs with
      | nil => cases this
      | cons x r => exact ⟨toP x, toPs r, by rw [toP, toPs]⟩
    | _ => cases this
  · refine .inr fun d hd => ?_
    obtain ⟨b, hb, rfl⟩ := List.mem_map.mp hd
    have hb' := List.all_eq_true.mp h b hb
    cases b <;> first | (cases hb'; done) | (simp [toP]; done) | skip
    all_goals exact absurd hb' (by simp [noTup])
section
variable {g : Gh} {X : Cx} {G H : Hp} {pins : List (Addr × Obj)} {s : Shared} {σ : L2.St}
def SR (g : Gh) (G : Hp) (v : Value) (b : D) : Prop := ∃ x : V, RelV x v ∧ Dg g.fa g.K G x b
theorem sr_each : ∀ {xs : List V} {us : List Value} {ds : List D}, Vals xs us → DgAll g.fa g.K G xs ds → EachIs (SR g G) us ds
  | _, _, _, .nil, .nil => .nil
  | _, _, _, .cons r t, .cons d dd => .cons ⟨_, r, d⟩ (sr_each t dd)
theorem each_sr : ∀ {us : List Value} {ds : List D}, EachIs (SR g G) us ds → ∃ xs, Vals xs us ∧ DgAll g.fa g.K G xs ds
  | _, _, .nil => ⟨[], .nil, .nil⟩
  | _, _, .cons ⟨x, r, d⟩ t => by
    obtain ⟨xs, h1, h2⟩ := each_sr t
    exact ⟨x :: xs, .cons r h1, .cons d h2⟩
theorem reads_each (hK : X.K = g.K) (I : Inv X pins σ H s) (sp : Sup G H) : ∀ {xs : List V} {us : List Value} {ds : List D}, Vals xs us → DgAll g.fa g.K G xs ds → isDatas depthLine ds = true → EachIs (fun v b => ∃ as, Reads s.heap v (toP b) as) us ds
  | _, _, _, .nil, .nil, _ => .nil
  | _, _, _, .cons r t, .cons d dd, h => by
    rw [isDatas, Bool.and_eq_true] at h
    have p := d.dp sp _ h.1
    rw [← hK] at p
    exact .cons (Dp.reads I _ _ _ p r) (reads_each hK I sp t dd h.2)
theorem isDatas_mem : ∀ {ds : List D} {n : Nat}, isDatas n ds = true → ∀ d ∈ ds, isData n d = true
  | [], _, _, d, h => absurd h (by simp)
  | e :: ds, n, h, d, hd => by
    rw [isDatas, Bool.and_eq_true] at h
    rcases List.mem_cons.mp hd with rfl | hd
    · exact h.1
    · exact isDatas_mem h.2 d hd
theorem allAlike_P {ds : List D} (h : allAlike ds = true) : AllAlike (ds.map toP) := by
  intro d hd d' hd'
  obtain ⟨a, ha, rfl⟩ := List.mem_map.mp hd
  obtain ⟨b, hb, rfl⟩ := List.mem_map.mp hd'
  exact alike_eq a b (allAlike_mem h a ha b hb)
theorem ko_sorted (hK : X.K = g.K) (hu : X.A.units + 65 < cLine) : CallR X (.builtin "sorted") (fun vs H Q => KO g .sorted vs H Q) := by
  intro pins s σ H xs us Q I r ⟨G, ds, d, sp, vw, e, q⟩
  obtain ⟨dx, rfl, e'⟩ := opSem1 (fun _ _ => rfl) (fun _ _ _ => rfl) e
  replace e := e'
  clear e'
  obtain ⟨x, rfl, wx⟩ := vws1 vw
  have e : ((seqOf dx).bind fun ds => if (allAlike ds && srtOk ds && isDatas depthLine ds) = true then some (D.lst (sortD ds)) else none) = some d := e
  cases qs : seqOf dx with
  | none => rw [qs] at e; cases e
  | some ds =>
    rw [qs] at e
    have e : (if (allAlike ds && srtOk ds && isDatas depthLine ds) = true then some (D.lst (sortD ds)) else none) = some d := e
    by_cases hc : (allAlike ds && srtOk ds && isDatas depthLine ds) = true
    · rw [if_pos hc] at e
      cases e
      rw [Bool.and_eq_true, Bool.and_eq_true] at hc
      obtain ⟨⟨c1, c2⟩, c3⟩ := hc
      have room : ∀ b, b ∈ ds → X.A.units + 2 + (toP b).depth < cLine := fun b hb => by
        have h1 := (toP_plain _ _ (isDatas_mem c3 b hb)).2
        have h2 : depthLine = 20 := rfl
        omega
      have fin : ∀ (its : List Value) (out : List Value), ds.length ≤ sizeLine → out.length = ds.length → EachIs (SR g G) out (ds.mergeSort (dataLe false toP)) → EP X pins σ Q (.ref (s.heap.objs.size + 1)) { s with heap := sortedAll s.heap its (List.toArray out) } := fun its out hz hl eo => by
        obtain ⟨ys, v1, v2⟩ := each_sr eo
        obtain ⟨ep, he⟩ := PyProof.Rows.sortedAll_at s.heap its (List.toArray out)
        rw [← sortD_eq c1] at v2
        refine ⟨.ref _, upd H (s.heap.objs.size + 1) (.lst ys), I.laid (t' := s.toks) (fun _ _ => PyProof.Rows.sortedAll_old) (Nat.le_succ _) ⟨by rw [v1.length, hl]; exact hz, out, ep, v1, he⟩, rfl, ?_⟩
        exact KO.newL q sp rfl v2 (I.hok.fresh (Nat.le_succ _))
      cases dx <;> first | exact noS qs | skip
      · cases qs
        obtain ⟨p, vs, rfl, h1, dd⟩ := wx.tup sp
        have h1 := h1.seqT
        rw [← hK] at h1
        obtain ⟨its, rv, ht, hz⟩ := I.tuple h1
        rw [Vals.ref1 r]
        exact sorted_tup ht (sr_each rv dd) (reads_each hK I sp rv dd c3) (allAlike_P c1) (srt_ok c2) (by rw [← dd.length]; exact hz) room fun out hl eo => fin its out (by rw [← dd.length]; exact hz) hl eo
      · cases qs
        obtain ⟨p, vs, rfl, h1, dd⟩ := wx.lstL sp
        rw [← hK] at h1
        obtain ⟨its, rv, ht, hz⟩ := I.list h1
        rw [Vals.ref1 r]
        exact PySem.W.sorted_data ht.isList (sr_each rv dd) (reads_each hK I sp rv dd c3) (allAlike_P c1) (srt_ok c2) (by rw [← dd.length]; exact hz) room fun out hl eo => fin its out (by rw [← dd.length]; exact hz) hl eo
    · rw [if_neg hc] at e; cases e
end
end Ev
end
section
set_option linter.all false
set_option maxRecDepth 100000
set_option maxHeartbeats 2000000
namespace Ev
open PySem PySem.Spec PyProof.Rows L2


theorem meets_enumerate_newB1 {v : Value} {o : Obj} {H : Heap → Prop} (B : Begins v o H) :
    Meets (Builtin.«enumerate.__new__» ⟨[.type "enumerate", v], []⟩) (fun _ R s => H s.heap ∧
      R (.ok (.ret (.ref (s.heap.push o).objs.size))) { s with heap := (s.heap.push o).push { cls := .type "enumerate", data := .fields #[.none, .bool false, .ref s.heap.objs.size, rawInt 0, .none, .none] } }) :=
  .of_wp fun prog w A R s h => by
    obtain ⟨hp, g, d, tk, os⟩ := s; obtain ⟨h1, h⟩ := h
    have hsub := sub_enumerate
    have q1 : ∀ {A' : Around} {E : Value → Shared → Prop} {Q : Value → Shared → Prop}, Q (.ref hp.objs.size) ⟨hp.push o, g, d, tk, os⟩ → wpAny (model prog w) A' (pyIter v) Q E ⟨hp, g, d, tk, os⟩ :=
      fun q => B.iter prog w _ _ ⟨hp, g, d, tk, os⟩ _ h1 q
    wp_walk using q1
    refine wpAny_stack_any fun st => wpAny_pure ?_
    split
    · rename_i c _ _ _ _ _
      cases (c == Value.type "enumerate")
      · wp_walk using q1
        exact ⟨_, rfl, h⟩
      · wp_walk using q1
        exact ⟨_, rfl, h⟩
    · wp_walk using q1
      exact ⟨_, rfl, h⟩
section
variable {prog : Program} {w : World} {A : Around} {E : Value → Shared → Prop} {s : Shared}
theorem enum_begins1 {v : Value} {o : Obj} {H : Heap → Prop} {Q : Value → Shared → Prop} (B : Begins v o H) (h1 : H s.heap)
    (h : ∀ h', IsEnum h' (s.heap.objs.size + 1) s.heap.objs.size 0 .none → h'.get? s.heap.objs.size = some o → h'.objs.size = s.heap.objs.size + 2 →
      (∀ b o, s.heap.get? b = some o → h'.get? b = some o) → Q (.ref (s.heap.objs.size + 1)) { s with heap := h' }) :
    wpAny (model prog w) A (call (.type "enumerate") [v]) Q E s := by
  refine callType_new F.called_enumerate (by decide) (F.typeCall_enumerate_1 _) (F.newCall_enumerate_1 _) (fun obj => F.args_object_init_2 obj _) F.entry_enumerate_new
    (meets_enumerate_newB1 B) ⟨h1, ?_⟩
  have hz : (s.heap.push o).objs.size = s.heap.objs.size + 1 := Heap.size_push ..
  show _ ∧ _
  rw [hz]
  have he : IsEnum ((s.heap.push o).push { cls := .type "enumerate", data := .fields #[.none, .bool false, .ref s.heap.objs.size, rawInt 0, .none, .none] }) (s.heap.objs.size + 1) s.heap.objs.size 0 .none := by
    have := Heap.get?_push_size (s.heap.push o) (o := { cls := .type "enumerate", data := .fields #[.none, .bool false, .ref s.heap.objs.size, rawInt 0, .none, .none] }) rfl
    rw [hz] at this; exact this
  refine ⟨⟨_, he, rfl⟩, h _ he (Heap.get?_push_of_some _ (Heap.get?_push_size _ B.free)) (by rw [Heap.size_push, hz]) fun b o x => Heap.get?_push_of_some _ (Heap.get?_push_of_some _ x)⟩
end
def IteT (K : PySem.W.Frag) (a : Addr) : It :=
  ⟨fun i H => ∃ (xs : List V) (x : V), SqT K H a xs ∧ xs[i]? = some x, fun i H v H' => ∃ T x, v = .ref T ∧ H T = none ∧ H' = upd H T (.tup [.int (i : Nat), x]) ∧ ∀ xs, SqT K H a xs → xs[i]? = some x, fun i H => ∃ xs : List V, SqT K H a xs ∧ xs.length ≤ i⟩
theorem tup_inj {X : Cx} {pins : List (Addr × Obj)} {σ : L2.St} {H : Hp} {s : Shared} {a : Addr} {xs ys : List V} (I : Inv X pins σ H s) (h1 : SqT X.K H a xs) (h2 : SqT X.K H a ys) : xs = ys := I.tuple_inj h1 h2
theorem turn_enumT {P : Program} {w : World} {K : PySem.W.Frag} {elts : List Expr} {kk : Nat} {tpos : Pos} (a e it : Addr) :
    Turn P w K (.Tuple elts kk tpos) (IteT K a) [e, it] e (fun i h => (∃ old, IsEnum h e it ((i : Nat) : Int) old) ∧ h.IsTupleIter it a i ∧ e ≠ it) where
  mem := by simp
  obj := fun i h st b hb => by
    obtain ⟨⟨old, he⟩, ⟨o, ho, hc, hd⟩, _⟩ := st
    have e' : b = e ∨ b = it := by simpa using hb
    rcases e' with z | z
    · rw [z]; exact ⟨_, he, fun v q => nomatch q⟩
    · rw [z]; exact ⟨o, ho, fun v q => by rw [hd] at q; cases q⟩
  keep := fun i h h' st k => let ⟨⟨old, he⟩, hi, hne⟩ := st; ⟨⟨old, k e (by simp) _ he⟩, hi.at fun o q => k it (by simp) o q, hne⟩
  item := by
    intro X hP hw hK hc i pins s σ H E I hf st hg
    subst hP hw hK
    obtain ⟨⟨old, he⟩, hit, hne⟩ := st
    obtain ⟨xs, x, hq, hx⟩ := hg
    obtain ⟨its, rv, p, hz⟩ := I.tuple hq
    obtain ⟨u0, hu, ru0⟩ := rv.get hx
    have hel : e < s.heap.objs.size := Heap.lt_size he
    have hil : it < s.heap.objs.size := by obtain ⟨_, q, _⟩ := hit; exact Heap.lt_size q
    obtain ⟨ot, ht1, ht2, _⟩ := id p
    have hai : a ≠ it := fun z => by
      obtain ⟨oi, q1, q2, _⟩ := hit
      rw [← z, ht1] at q1
      cases q1
      rw [ht2] at q2
      exact absurd q2 (by simp)
    have hae : e ≠ a := fun z => by
      have he' : s.heap.get? e = _ := he
      rw [z, ht1] at he'
      have := Option.some.inj he'
      rw [this] at ht2
      exact absurd ht2 (by simp)
    have hix : i < its.toArray.size := by
      rw [List.size_toArray, ← rv.length]
      exact (List.getElem?_eq_some_iff.mp hx).1
    have DD := Draws.tuple (prog := X.prog) (w := X.w) (A := X.A.in1) (show X.A.in1.handled = none from I.ok.hd hc) it a hai its.toArray
    refine wpAny_pyNext_enum_itemC (c := ((i : Nat) : Int)) DD he ⟨hit, p⟩ hix hne (by simp [hne, hae]) fun u h' tk hu' ho hst' hT hsz hk => ?_
    obtain ⟨hit', hp'⟩ := hst'
    have eu : u0 = u := by
      have z : its.toArray[i]? = some u := hu'
      rw [List.getElem?_toArray, hu] at z
      exact Option.some.inj z
    subst eu
    refine ⟨_, rfl, wpAny_letOwnedTupleGo_enum (s := { s with heap := h', toks := tk + 1 }) ho fun h'' he' sb => ?_⟩
    have hT2 : h''.get? s.heap.objs.size = some { cls := .type "tuple", data := .seq #[.int i tk, u0] } := (sb.2 _ (Nat.ne_of_gt hel)).trans hT
    have new : ObjOk X.prog X.w (upd H s.heap.objs.size (.tup [.int (i : Nat), x])) h'' s.heap.objs.size (.tup [.int (i : Nat), x]) :=
      ⟨by show 2 ≤ sizeLine; decide, [.int i tk, u0], .cons ⟨_, rfl⟩ (.cons ru0 .nil), ⟨_, hT2, rfl, _, rfl⟩⟩
    have I1 : Inv X pins σ (upd H s.heap.objs.size (.tup [.int (i : Nat), x])) { s with heap := h'', toks := tk + 1 } :=
      I.turnedNew (ch := [e, it]) (fun b ob hb q => (sb.2 b (fun z => hb (by simp [z]))).trans (hk b ob (fun z => hb (by simp [z])) (fun z => hb (by simp [z])) q)) hf (Nat.le_refl _) new
    refine ⟨.ref s.heap.objs.size, _, I1, rfl, ⟨_, x, rfl, I.hok.fresh (Nat.le_refl _), rfl, fun ys hy => by rw [tup_inj I hy hq]; exact hx⟩, ⟨⟨u0, ?_⟩, hit'.at fun o q => (sb.2 it (Ne.symm hne)).trans q, hne⟩, fun b hb => ?_⟩
    · have e1 : ((i + 1 : Nat) : Int) = (i : Int) + 1 := by omega
      rw [e1]; exact he'
    · have hb' : b < s.heap.objs.size := by
        have e' : b = e ∨ b = it := by simpa using hb
        rcases e' with z | z
        · rw [z]; exact hel
        · rw [z]; exact hil
      rw [upd_ne (Nat.ne_of_lt hb')]
      exact (hf b hb).1
  done := by
    intro X hP hw hK hc i pins s σ H E I hf st hg
    subst hP hw hK
    obtain ⟨⟨old, he⟩, hit, hne⟩ := st
    obtain ⟨xs, hq, hx⟩ := hg
    obtain ⟨its, rv, p, hz⟩ := I.tuple hq
    obtain ⟨f0, f1, f2, f3, f4, f5⟩ := hf it (by simp)
    have hl := rv.length
    have hT : s.TypeIs (.ref e) "enumerate" := ⟨_, he, rfl⟩
    unfold pyNext
    refine wpAny_bind (wpAny_attempt (wpAny_callSpecial?_slot (name := Str.ofString "__next__") hT F.slot_enumerate_next
      (wpAny_call_entry F.slot_enumerate_next hT F.entry_enumerate_next ?_ (F.args_enumerate_next_1 _))))
    show wpAny _ _ (field (.ref e) 2 >>= _) _ _ _
    refine wpAny_bind (wpAny_field he rfl (x := .ref it) rfl ?_)
    refine wpAny_bind (wpAny_nextOf_tuple_end (items := its.toArray) (I.ok.hd hc) hit p (by simp; omega) fun h' x he' hx' => ?_)
    obtain ⟨o, ho, hc⟩ := hx'
    refine wpAny_bind (wpAny_isInstance (T := "StopIteration") (b := true) ⟨o, ho, hc⟩ isSubtype_stop ?_)
    exact wpAny_pure ⟨rfl, I.turned (t' := s.toks) (fun b o hb q => he' b o hb q) f0 f1 f3 f4 f5⟩
  self := fun A i s Q E st h => let ⟨⟨_, he⟩, _⟩ := st; wpAny_pyIter_enum he h
def iEnumA (K : PySem.W.Frag) (ta : TA) : TI := fun σ H R => ta σ H fun vs H1 => ∃ a xs, vs = [.ref a] ∧ ((SqL K H1 a xs ∧ R (Ite K a) H1) ∨ (SqT K H1 a xs ∧ R (IteT K a) H1))
theorem pi_enumA {X : Cx} {e : Expr} {ta : TA} {p pos tpos : Pos} {elts : List Expr} {kk : Nat} (hg : Gl X "enumerate") (hm : X.mg "enumerate" = none) (ha : PA X [e] ta) (hs : starEach [e] X.env = [(false, eval e X.env)] := by rfl) :
    PI X (.Tuple elts kk tpos) (.Call (.Name "enumerate" p) [e] [] pos) (iEnumA X.K ta) := by
  refine ⟨fun pins s σ H R I h => ?_⟩
  refine Call_ (ld_blt I hg hm boot_enumerate (PyProof.Rows.callWith_type1 (thn (ha.run pos pins s σ H _ I h) fun us s1 ⟨vs, H1, I1, r1, q1⟩ => ?_) hs rfl))
  obtain ⟨a, xs, ex, q1⟩ := q1
  subst ex
  cases r1 with
  | cons r rr =>
    cases rr
    cases r
    have fpok : ∀ b ∈ [s1.heap.objs.size + 1, s1.heap.objs.size], FpOk X pins H1 b := fun b hb => by
      have e' : b = s1.heap.objs.size + 1 ∨ b = s1.heap.objs.size := by simpa using hb
      have hle : s1.heap.objs.size ≤ b := by
        rcases e' with z | z
        · rw [z]; exact Nat.le_add_right _ _
        · rw [z]; exact Nat.le_refl _
      exact I1.fpOk hle (I1.hok.fresh hle)
    rcases q1 with ⟨hq, q⟩ | ⟨hq, q⟩
    · obtain ⟨its, rv, p', hz⟩ := I1.list hq
      refine call_enumerate_list p'.isList fun h' he hit hsz hk => wpAny_pyIter_enum he ?_
      have I2 : Inv X pins σ H1 { s1 with heap := h' } := I1.kept (t' := s1.toks) hk
      exact ⟨s1.heap.objs.size + 1, [s1.heap.objs.size + 1, s1.heap.objs.size], _, _, H1, rfl, I2, turn_enum a (s1.heap.objs.size + 1) s1.heap.objs.size, ⟨⟨.none, he⟩, hit, Nat.succ_ne_self _⟩, fpok, q⟩
    · obtain ⟨its, rv, p', hz⟩ := I1.tuple hq
      refine enum_begins1 (begins_tuple a its.toArray) p' fun h' he hit hsz hk => wpAny_pyIter_enum he ?_
      have I2 : Inv X pins σ H1 { s1 with heap := h' } := I1.kept (t' := s1.toks) hk
      exact ⟨s1.heap.objs.size + 1, [s1.heap.objs.size + 1, s1.heap.objs.size], _, _, H1, rfl, I2, turn_enumT a (s1.heap.objs.size + 1) s1.heap.objs.size, ⟨⟨.none, he⟩, ⟨_, hit, rfl, rfl⟩, Nat.succ_ne_self _⟩, fpok, q⟩
end Ev
end
section
set_option linter.all false
set_option maxRecDepth 100000
namespace Ev
open PySem PySem.Spec PyProof.Rows L2

section
variable {g : Gh} {X : Cx} {G H : Hp}
def KM (g : Gh) (o : Op) (k : Nat) : V → List V → Hp → VK → Prop := fun x vs H Q => ∃ G dx ds d, kindD dx = k ∧ Sup G H ∧ Vw g.fa g.K G H x dx ∧ Vws g.fa g.K G H vs ds ∧ opSem o (dx :: ds) = some d ∧ ∀ v H' G', Grow G H G' H' → RV g.fa g.K H G' H' (resO o d) v → Q v H'
theorem kind3 {d : D} (h : kindD d = 3) : ∃ ds, d = .lst ds := by cases d <;> first | exact ⟨_, rfl⟩ | cases h
theorem kind4 {d : D} (h : kindD d = 4) : ∃ ds, d = .tup ds := by cases d <;> first | exact ⟨_, rfl⟩ | cases h
theorem kind2 {d : D} (h : kindD d = 2) : ∃ x, d = .str x := by cases d <;> first | exact ⟨_, rfl⟩ | cases h
theorem opSem2' {o : Op} {dx : D} {ds : List D} {d : D} (h2 : ∀ a, op1 o a = none) (h3 : ∀ a b c, op3 o a b c = none) (e : opSem o (dx :: ds) = some d) : ∃ y, ds = [y] ∧ op2 o dx y = some d := by
  obtain ⟨x, y, e1, e2⟩ := opSem2 h2 h3 e
  cases e1
  exact ⟨y, rfl, e2⟩
theorem place_eq {n : Nat} {y : D} (hy : isData depthLine y = true) : ∀ {ds : List D} (k : Nat), isDatas n ds = true → idx y ds k = (SeqAt.dataPlace (toPs ds) (toP y)).map (· + k)
  | [], k, _ => rfl
  | d :: ds, k, h => by
    rw [isDatas, Bool.and_eq_true] at h
    have ih := place_eq hy (ds := ds) (k + 1) h.2
    unfold SeqAt.dataPlace at ih ⊢
    rw [idx, toPs, List.findIdx?_cons, eqv_eq _ _ _ _ h.1 hy]
    by_cases q : eqD d y = true
    · rw [if_pos q, if_pos q]; simp
    · rw [if_neg q, if_neg q, ih, Option.map_map]
      congr 1
      funext i
      show i + (k + 1) = i + 1 + k
      omega
theorem mt_index3 (hK : X.K = g.K) (hu : X.A.units + 65 < cLine) : MtR X "list.index" (KM g .index 3) := by
  intro pins s σ H x xs v us Q I rx rs ⟨G, dx, ds, d, hk, sp, wx, vw, e, q⟩
  obtain ⟨zs, rfl⟩ := kind3 hk
  obtain ⟨y, rfl, e⟩ := opSem2' (fun _ => rfl) (fun _ _ _ => rfl) e
  obtain ⟨vy, rfl, wy⟩ := vws1 vw
  have e : (if (isDatas depthLine zs && isData depthLine y) = true then (idx y zs 0).map fun n => D.int n else none) = some d := e
  by_cases hc : (isDatas depthLine zs && isData depthLine y) = true
  · rw [if_pos hc] at e
    obtain ⟨h2, h1⟩ := Bool.and_eq_true_iff.mp hc
    rw [place_eq h1 0 h2] at e
    obtain ⟨p, vs, rfl, hl, dd⟩ := wx.lstL sp
    rw [← hK] at hl
    obtain ⟨its, rv, ⟨⟨cls, dct, data, sls⟩, n, ho, hcl, hdn, hdt⟩, hz⟩ := I.list hl
    simp only at hcl hdt
    subst hcl hdt
    cases rx
    obtain ⟨uy, rfl, ry⟩ := Vals.one rs
    have py := wy.dp sp h1
    rw [← hK] at py
    obtain ⟨bs, r1⟩ := Dp.reads I _ _ _ py ry
    have pl := dd.dp sp _ h2
    rw [← hK] at pl
    obtain ⟨as, r2⟩ := Dp.readsAll I _ _ _ pl rv
    obtain ⟨l1, m1⟩ := toP_plain _ _ h1
    obtain ⟨l2, m2⟩ := toPs_plain _ _ h2
    cases qp : SeqAt.dataPlace (toPs zs) (toP y) with
    | none => rw [qp] at e; cases e
    | some j =>
      rw [qp] at e
      cases e
      have r2' : ReadsAll s.heap its.toArray.toList (toPs zs) as := r2
      obtain ⟨hj, hhit, hno⟩ := SeqAt.hit_at r2' l2 qp
      have hroom : X.A.units + 1 + min (PyData.depthAll (toPs zs)) (toP y).depth < cLine := by have hd : depthLine = 20 := rfl; omega
      have hjs : (j : Int) < 2 ^ 63 - 1 := by
        have h5 : its.toArray.size = its.length := List.size_toArray
        have h6 := rv.length
        have h7 := sizeLine_eq
        omega
      refine call_meets PySem.F.slot_list_index ⟨_, ho, rfl⟩ PySem.F.entry_list_index (PySem.F.args_list_index_2 _ _)
        (SeqAt.list_indexAt p its.toArray n dct sls uy (fun u => PyData.eqv (SeqAt.readOf s.heap u) (toP y)) j hj hjs hhit hno) ⟨ho, SeqAt.items_plain r2' r1 l2 l1 hroom, ?_⟩
      exact ⟨.int (j : Nat), H, I.tok _, ⟨_, rfl⟩, KO.fz q sp rfl (.int _)⟩
  · rw [if_neg hc] at e; cases e
theorem mt_index4 (hK : X.K = g.K) (hu : X.A.units + 65 < cLine) : MtR X "tuple.index" (KM g .index 4) := by
  intro pins s σ H x xs v us Q I rx rs ⟨G, dx, ds, d, hk, sp, wx, vw, e, q⟩
  obtain ⟨zs, rfl⟩ := kind4 hk
  obtain ⟨y, rfl, e⟩ := opSem2' (fun _ => rfl) (fun _ _ _ => rfl) e
  obtain ⟨vy, rfl, wy⟩ := vws1 vw
  have e : (if (isDatas depthLine zs && isData depthLine y) = true then (idx y zs 0).map fun n => D.int n else none) = some d := e
  by_cases hc : (isDatas depthLine zs && isData depthLine y) = true
  · rw [if_pos hc] at e
    obtain ⟨h2, h1⟩ := Bool.and_eq_true_iff.mp hc
    rw [place_eq h1 0 h2] at e
    obtain ⟨p, vs, rfl, hl, dd⟩ := wx.tup sp
    rw [← hK] at hl
    obtain ⟨⟨cls, dct, data, sls⟩, its, n, ho, hcl, hdn, hdt, rv, hz⟩ := tup_obj I hl
    simp only at hcl hdt
    subst hcl hdt
    cases rx
    obtain ⟨uy, rfl, ry⟩ := Vals.one rs
    have py := wy.dp sp h1
    rw [← hK] at py
    obtain ⟨bs, r1⟩ := Dp.reads I _ _ _ py ry
    have pl := dd.dp sp _ h2
    rw [← hK] at pl
    obtain ⟨as, r2⟩ := Dp.readsAll I _ _ _ pl rv
    obtain ⟨l1, m1⟩ := toP_plain _ _ h1
    obtain ⟨l2, m2⟩ := toPs_plain _ _ h2
    cases qp : SeqAt.dataPlace (toPs zs) (toP y) with
    | none => rw [qp] at e; cases e
    | some j =>
      rw [qp] at e
      cases e
      obtain ⟨hj, hhit, hno⟩ := SeqAt.hit_at r2 l2 qp
      have hroom : X.A.units + 1 + min (PyData.depthAll (toPs zs)) (toP y).depth < cLine := by have hd : depthLine = 20 := rfl; omega
      refine call_meets PySem.F.slot_tuple_index ⟨_, ho, rfl⟩ PySem.F.entry_tuple_index (PySem.F.args_tuple_index_2 _ _)
        (TI.tuple_indexAt p its n dct sls uy (fun u => PyData.eqv (SeqAt.readOf s.heap u) (toP y)) j hj hhit hno) ⟨ho, SeqAt.items_plain r2 r1 l2 l1 hroom, ?_⟩
      exact ⟨.int (j : Nat), H, I.tok _, ⟨_, rfl⟩, KO.fz q sp rfl (.int _)⟩
  · rw [if_neg hc] at e; cases e
theorem count_eq {n : Nat} {y : D} (hy : isData depthLine y = true) : ∀ {ds : List D}, isDatas n ds = true → ((toPs ds).countP fun z => PyData.eqv z (toP y)) = ds.countP fun d => eqD d y
  | [], _ => rfl
  | d :: ds, h => by
    rw [isDatas, Bool.and_eq_true] at h
    rw [toPs, List.countP_cons, List.countP_cons, count_eq hy h.2, eqv_eq _ _ _ _ h.1 hy]
theorem mt_count3 (hK : X.K = g.K) (hu : X.A.units + 65 < cLine) : MtR X "list.count" (KM g .count 3) := by
  intro pins s σ H x xs v us Q I rx rs ⟨G, dx, ds, d, hk, sp, wx, vw, e, q⟩
  obtain ⟨zs, rfl⟩ := kind3 hk
  obtain ⟨y, rfl, e⟩ := opSem2' (fun _ => rfl) (fun _ _ _ => rfl) e
  obtain ⟨vy, rfl, wy⟩ := vws1 vw
  have e : (if (isDatas depthLine zs && isData depthLine y) = true then some (D.int ((zs.countP fun d => eqD d y : Nat) : Int)) else none) = some d := e
  by_cases hc : (isDatas depthLine zs && isData depthLine y) = true
  · rw [if_pos hc] at e
    cases e
    obtain ⟨h2, h1⟩ := Bool.and_eq_true_iff.mp hc
    obtain ⟨p, vs, rfl, hl, dd⟩ := wx.lstL sp
    rw [← hK] at hl
    obtain ⟨its, rv, pl, hz⟩ := I.list hl
    cases rx
    obtain ⟨uy, rfl, ry⟩ := Vals.one rs
    have py := wy.dp sp h1
    rw [← hK] at py
    obtain ⟨bs, r1⟩ := Dp.reads I _ _ _ py ry
    have pl2 := dd.dp sp _ h2
    rw [← hK] at pl2
    obtain ⟨as, r2⟩ := Dp.readsAll I _ _ _ pl2 rv
    obtain ⟨l1, m1⟩ := toP_plain _ _ h1
    obtain ⟨l2, m2⟩ := toPs_plain _ _ h2
    have hroom : X.A.units + 1 + min (PyData.depthAll (toPs zs)) (toP y).depth < cLine := by have hd : depthLine = 20 := rfl; omega
    refine SeqAt.count_list_data (vs := its.toArray) pl.isList r2 r1 l2 l1 hroom ⟨.int _, H, I.tok _, ⟨_, rfl⟩, ?_⟩
    rw [count_eq h1 h2]
    exact KO.fz q sp rfl (.int _)
  · rw [if_neg hc] at e; cases e
theorem mt_count4 (hK : X.K = g.K) (hu : X.A.units + 65 < cLine) : MtR X "tuple.count" (KM g .count 4) := by
  intro pins s σ H x xs v us Q I rx rs ⟨G, dx, ds, d, hk, sp, wx, vw, e, q⟩
  obtain ⟨zs, rfl⟩ := kind4 hk
  obtain ⟨y, rfl, e⟩ := opSem2' (fun _ => rfl) (fun _ _ _ => rfl) e
  obtain ⟨vy, rfl, wy⟩ := vws1 vw
  have e : (if (isDatas depthLine zs && isData depthLine y) = true then some (D.int ((zs.countP fun d => eqD d y : Nat) : Int)) else none) = some d := e
  by_cases hc : (isDatas depthLine zs && isData depthLine y) = true
  · rw [if_pos hc] at e
    cases e
    obtain ⟨h2, h1⟩ := Bool.and_eq_true_iff.mp hc
    obtain ⟨p, vs, rfl, hl, dd⟩ := wx.tup sp
    rw [← hK] at hl
    obtain ⟨o, its, n, ho, hcl, hdn, hdt, rv, hz⟩ := tup_obj I hl
    cases rx
    obtain ⟨uy, rfl, ry⟩ := Vals.one rs
    have py := wy.dp sp h1
    rw [← hK] at py
    obtain ⟨bs, r1⟩ := Dp.reads I _ _ _ py ry
    have pl2 := dd.dp sp _ h2
    rw [← hK] at pl2
    obtain ⟨as, r2⟩ := Dp.readsAll I _ _ _ pl2 rv
    obtain ⟨l1, m1⟩ := toP_plain _ _ h1
    obtain ⟨l2, m2⟩ := toPs_plain _ _ h2
    have hroom : X.A.units + 1 + min (PyData.depthAll (toPs zs)) (toP y).depth < cLine := by have hd : depthLine = 20 := rfl; omega
    refine SeqAt.count_tuple_data (vs := its) ⟨o, ho, hcl, n, hdt⟩ r2 r1 l2 l1 hroom ⟨.int _, H, I.tok _, ⟨_, rfl⟩, ?_⟩
    rw [count_eq h1 h2]
    exact KO.fz q sp rfl (.int _)
  · rw [if_neg hc] at e; cases e

def tyName : Nat → String
  | 0 => "int"
  | 1 => "bool"
  | 2 => "str"
  | 3 => "list"
  | _ => "tuple"
def tyD : D → String
  | .non => "NoneType"
  | .bl _ => "bool"
  | .int _ => "int"
  | .str _ => "str"
  | .lst _ => "list"
  | _ => "tuple"
theorem Vw.tyX {v : V} {d : D} (h : Vw g.fa g.K G H v d) (s : Sup G H) (k : tyKnown d = true) : TyX g.K H v (.type (tyD d)) := by
  cases d with
  | non => rcases h with h | ⟨_, _, h⟩; cases h; exact .base .non; exact h.elim
  | bl b => rw [h.bl]; exact .base (.bl b)
  | int b => rw [h.int]; exact .base (.int b)
  | str b => rw [h.str]; exact .base (.str b)
  | lst ds => obtain ⟨a, vs, rfl, h1, _⟩ := h.lst s; exact .base (.lst h1)
  | tup ds =>
    obtain ⟨a, vs, rfl, h1, _⟩ := h.tup s
    rcases h1 with ⟨o, h1, _⟩ | ⟨o, its, n, h1, h2, _⟩
    · exact .fTuple h1
    · exact .kTuple h1 h2
  | _ => cases k
theorem kit_one (K : PySem.W.Frag) {d : D} (k : tyKnown d = true) {t : Nat} (ht : t < 5) : PySem.W.kitOne K (.type (tyD d)) (.type (tyName t)) = some (tyIs d t) := by
  match t, ht with
  | 0, _ => cases d <;> first | rfl | cases k
  | 1, _ => cases d <;> first | rfl | cases k
  | 2, _ => cases d <;> first | rfl | cases k
  | 3, _ => cases d <;> first | rfl | cases k
  | 4, _ => cases d <;> first | rfl | cases k
theorem kit_any (K : PySem.W.Frag) {d : D} (k : tyKnown d = true) : ∀ {ts : List Nat}, (∀ t ∈ ts, t < 5) → PySem.W.kitAny K (.type (tyD d)) (ts.map fun t => .type (tyName t)) = some (ts.any (tyIs d))
  | [], _ => rfl
  | t :: ts, h => by
    rw [List.map_cons, PySem.W.kitAny, kit_one K k (h t List.mem_cons_self), List.any_cons, kit_any K k fun t ht => h t (List.mem_cons_of_mem _ ht)]
    cases tyIs d t <;> rfl
theorem isi_of {ts : List Nat} {v : V} {Q : VK} (h : KO g (.isi ts) [v] H Q) : ∃ G d, Sup G H ∧ Vw g.fa g.K G H v d ∧ tyKnown d = true ∧ ∀ H', Same H H' → Q (.bl (ts.any (tyIs d))) H' := by
  obtain ⟨G, ds, d, sp, vw, e, q⟩ := h
  obtain ⟨dx, rfl, e'⟩ := opSem1 (fun _ _ => rfl) (fun _ _ _ => rfl) e
  replace e := e'
  clear e'
  obtain ⟨x, ex, wx⟩ := vws1 vw
  cases ex
  have e : (if tyKnown dx = true then some (D.bl (ts.any (tyIs dx))) else none) = some d := e
  by_cases hc : tyKnown dx = true
  · rw [if_pos hc] at e
    cases e
    exact ⟨G, dx, sp, wx, hc, fun H' sm => q _ H' G ⟨sm, .refl G, sp.trans (.of sm), fun _ _ h => h⟩ (show Dg g.fa g.K G _ (.bl _) from .bl _)⟩
  · rw [if_neg hc] at e; cases e
theorem ko_isi1 {t : Nat} (ht : t < 5) {v : V} {Q : VK} (h : KO g (.isi [t]) [v] H Q) : rIsi g.K [v, .ty (tyName t)] H Q := by
  obtain ⟨G, d, sp, wx, hk, q⟩ := isi_of h
  refine ⟨v, _, _, _, _, rfl, .ty _, wx.tyX sp hk, kit_one g.K hk ht, ?_⟩
  have := q H (fun _ _ h => h)
  simpa using this
theorem pairTy : ∀ ts : List Nat, Paired ClsV (ts.map fun t => V.ty (tyName t)) (ts.map fun t => Value.type (tyName t))
  | [] => .nil
  | t :: ts => .cons (.ty _) (pairTy ts)
theorem ko_isiT {ts : List Nat} (ht : ∀ t ∈ ts, t < 5) {v : V} {Q : VK} (h : KO g (.isi ts) [v] H Q) {p : Addr} (hp : H p = none) : rIsiT g.K [v, .ref p] (upd H p (.tup (ts.map fun t => .ty (tyName t)))) Q := by
  obtain ⟨G, d, sp, wx, hk, q⟩ := isi_of h
  have sm : Same H (upd H p (.tup (ts.map fun t => .ty (tyName t)))) := fun c o e => by rw [upd_ne (ne_of_none e hp)]; exact e
  have wx' : Vw g.fa g.K G (upd H p (.tup (ts.map fun t => .ty (tyName t)))) v d := by
    rcases wx with w | ⟨a, e, w⟩
    · exact .inl w
    · exact .inr ⟨a, e, w.mono (.refl G) fun o e => sm a o e⟩
  exact ⟨v, p, _, _, _, _, rfl, upd_same, pairTy ts, wx'.tyX (sp.trans (.of sm)) hk, kit_any g.K hk ht, q _ sm⟩
end
end Ev
end
section
set_option linter.all false
set_option maxRecDepth 100000
namespace Ev
open PySem PySem.Spec PyProof.Rows L2
open RZ (ItzT pi_zipA)
section
variable {g : Gh} {X : Cx} {F G G0 H : Hp} {io : Option Addr} {env : Env} {σ : L2.St}

theorem Yields.list {a : Addr} {ds : List D} {vs : List V} (h : SqL g.K G0 a vs) (dd : DgAll g.fa g.K G0 vs ds) : Yields g.fa g.K .seq G0 (Itl g.K a) ds where
  stop := fun G H s1 s2 => ⟨vs, (s1.trans s2).seqL h, by rw [dd.length]; exact Nat.le_refl _⟩
  go := fun G H i d s1 s2 e => by
    obtain ⟨v, h1, h2⟩ := dd.get e
    exact ⟨vs, v, (s1.trans s2).seqL h, h1⟩
  yld := fun G H i d x H' s1 s2 e y => by
    obtain ⟨v, h1, h2⟩ := dd.get e
    obtain ⟨rfl, y2⟩ := y
    have := y2 vs ((s1.trans s2).seqL h)
    rw [h1] at this
    cases this
    exact ⟨G, Grow.refl s2, .inl (h2.mono s1)⟩
theorem Yields.tuple {a : Addr} {ds : List D} {vs : List V} (h : SqT g.K G0 a vs) (dd : DgAll g.fa g.K G0 vs ds) : Yields g.fa g.K .seq G0 (Itt g.K a) ds where
  stop := fun G H s1 s2 => ⟨vs, (s1.trans s2).seqT h, by rw [dd.length]; exact Nat.le_refl _⟩
  go := fun G H i d s1 s2 e => by
    obtain ⟨v, h1, h2⟩ := dd.get e
    exact ⟨vs, v, (s1.trans s2).seqT h, h1⟩
  yld := fun G H i d x H' s1 s2 e y => by
    obtain ⟨v, h1, h2⟩ := dd.get e
    obtain ⟨rfl, y2⟩ := y
    have := y2 vs ((s1.trans s2).seqT h)
    rw [h1] at this
    cases this
    exact ⟨G, Grow.refl s2, .inl (h2.mono s1)⟩
theorem signs_get {z : Str} {i : Nat} {d : D} (e : (signs z)[i]? = some d) : ∃ c, z.cps[i]? = some c ∧ d = .str ⟨#[c]⟩ := by
  unfold signs at e
  rw [List.getElem?_map] at e
  cases q : z.cps.toList[i]? with
  | none => rw [q] at e; cases e
  | some c =>
    rw [q] at e
    cases e
    exact ⟨c, by simpa using q, rfl⟩
theorem Yields.text (z : Str) : Yields g.fa g.K .seq G0 (Its z) (signs z) where
  stop := fun G H s1 s2 => by show z.cps.size ≤ (signs z).length; simp [signs]
  go := fun G H i d s1 s2 e => by
    obtain ⟨c, h1, h2⟩ := signs_get e
    exact (Array.getElem?_eq_some_iff.mp h1).1
  yld := fun G H i d x H' s1 s2 e y => by
    obtain ⟨c, h1, rfl⟩ := signs_get e
    obtain ⟨rfl, c', h3, rfl⟩ := y
    rw [h1] at h3
    cases h3
    exact ⟨G, Grow.refl s2, .inl (.str _)⟩
theorem upto_len (lo : Int) : ∀ n : Nat, (upto lo n).length = n
  | 0 => rfl
  | n + 1 => by rw [upto, List.length_cons, upto_len (lo + 1) n]
theorem upto_get : ∀ (n : Nat) (lo : Int) (i : Nat), i < n → (upto lo n)[i]? = some (lo + i)
  | 0, _, _, h => absurd h (Nat.not_lt_zero _)
  | n + 1, lo, 0, _ => by simp [upto]
  | n + 1, lo, i + 1, h => by
    rw [upto, List.getElem?_cons_succ, upto_get n (lo + 1) i (Nat.lt_of_succ_lt_succ h)]
    congr 1
    omega
theorem Yields.range {k : IK} (lo : Int) (n : Nat) : Yields g.fa g.K k G0 (Itr lo n) ((upto lo n).map D.int) where
  stop := fun G H s1 s2 => by show n ≤ ((upto lo n).map D.int).length; rw [List.length_map, upto_len]; exact Nat.le_refl _
  go := fun G H i d s1 s2 e => by
    have := (List.getElem?_eq_some_iff.mp e).1
    rw [List.length_map, upto_len] at this
    exact this
  yld := fun G H i d x H' s1 s2 e y => by
    have hi := (List.getElem?_eq_some_iff.mp e).1
    rw [List.length_map, upto_len] at hi
    rw [List.getElem?_map, upto_get n lo i hi] at e
    cases e
    obtain ⟨rfl, rfl⟩ := y
    exact ⟨G, Grow.refl s2, .inl (.int _)⟩
theorem pair_new {k : IK} (hk : pairK k = true) {G H : Hp} {T : Addr} {x y : V} {dx dy : D} (s : Sup G H) (hT : H T = none) (hx : Dg g.fa g.K G x dx) (hy : Dg g.fa g.K G y dy) :
    ∃ G', Grow G H G' (upd H T (.tup [x, y])) ∧ Yd g.fa g.K k G' (.ref T) (.tup [dx, dy]) := by
  have gr : Grow G H (upd G T (.tup [x, y])) (upd H T (.tup [x, y])) := .known s hT
  exact ⟨_, gr, .inr ⟨hk, T, [x, y], [dx, dy], rfl, rfl, .inl (.inl upd_same), .cons (hx.mono gr.sup) (.cons (hy.mono gr.sup) .nil)⟩⟩
theorem enum_get : ∀ {ds : List D} {k i : Nat} {d : D}, (enumD k ds)[i]? = some d → ∃ e, ds[i]? = some e ∧ d = .tup [.int ((k + i : Nat) : Int), e]
  | [], k, i, d, h => by simp [enumD] at h
  | e :: ds, k, 0, d, h => by
    simp [enumD] at h
    exact ⟨e, rfl, by rw [← h]; simp⟩
  | e :: ds, k, i + 1, d, h => by
    rw [enumD, List.getElem?_cons_succ] at h
    obtain ⟨e', h1, h2⟩ := enum_get h
    refine ⟨e', by simpa using h1, ?_⟩
    rw [h2]
    congr 3
    omega
theorem enum_len : ∀ (ds : List D) (k : Nat), (enumD k ds).length = ds.length
  | [], _ => rfl
  | d :: ds, k => by rw [enumD, List.length_cons, enum_len ds, List.length_cons]
theorem Yields.enumL {a : Addr} {ds : List D} {vs : List V} (h : SqL g.K G0 a vs) (dd : DgAll g.fa g.K G0 vs ds) : Yields g.fa g.K .enum G0 (Ite g.K a) (enumD 0 ds) where
  stop := fun G H s1 s2 => ⟨vs, (s1.trans s2).seqL h, by rw [enum_len, dd.length]; exact Nat.le_refl _⟩
  go := fun G H i d s1 s2 e => by
    obtain ⟨e', h3, _⟩ := enum_get e
    obtain ⟨v, h1, h2⟩ := dd.get h3
    exact ⟨vs, v, (s1.trans s2).seqL h, h1⟩
  yld := fun G H i d x H' s1 s2 e y => by
    obtain ⟨e', h3, rfl⟩ := enum_get e
    obtain ⟨v, h1, h2⟩ := dd.get h3
    obtain ⟨T, z, rfl, hT, rfl, y2⟩ := y
    have := y2 vs ((s1.trans s2).seqL h)
    rw [h1] at this
    cases this
    rw [Nat.zero_add]
    exact pair_new rfl s2 hT (.int _) (h2.mono s1)
theorem Yields.enumT {a : Addr} {ds : List D} {vs : List V} (h : SqT g.K G0 a vs) (dd : DgAll g.fa g.K G0 vs ds) : Yields g.fa g.K .enum G0 (IteT g.K a) (enumD 0 ds) where
  stop := fun G H s1 s2 => ⟨vs, (s1.trans s2).seqT h, by rw [enum_len, dd.length]; exact Nat.le_refl _⟩
  go := fun G H i d s1 s2 e => by
    obtain ⟨e', h3, _⟩ := enum_get e
    obtain ⟨v, h1, h2⟩ := dd.get h3
    exact ⟨vs, v, (s1.trans s2).seqT h, h1⟩
  yld := fun G H i d x H' s1 s2 e y => by
    obtain ⟨e', h3, rfl⟩ := enum_get e
    obtain ⟨v, h1, h2⟩ := dd.get h3
    obtain ⟨T, z, rfl, hT, rfl, y2⟩ := y
    have := y2 vs ((s1.trans s2).seqT h)
    rw [h1] at this
    cases this
    rw [Nat.zero_add]
    exact pair_new rfl s2 hT (.int _) (h2.mono s1)
theorem zip_get : ∀ {xs ys : List D} {i : Nat} {d : D}, (zipD xs ys)[i]? = some d → ∃ x y, xs[i]? = some x ∧ ys[i]? = some y ∧ d = .tup [x, y]
  | [], _, i, d, h => by simp [zipD] at h
  | _ :: _, [], i, d, h => by simp [zipD] at h
  | x :: xs, y :: ys, 0, d, h => by
    simp [zipD] at h
    exact ⟨x, y, rfl, rfl, h.symm⟩
  | x :: xs, y :: ys, i + 1, d, h => by
    rw [zipD, List.getElem?_cons_succ] at h
    obtain ⟨x', y', h1, h2, h3⟩ := zip_get h
    exact ⟨x', y', by simpa using h1, by simpa using h2, h3⟩
theorem zip_len : ∀ (xs ys : List D), (zipD xs ys).length = min xs.length ys.length
  | [], _ => by simp [zipD]
  | _ :: _, [] => by simp [zipD]
  | x :: xs, y :: ys => by rw [zipD, List.length_cons, zip_len xs ys, List.length_cons, List.length_cons]; omega
theorem Yields.zipL {a b : Addr} {ds es : List D} {vs ws : List V} (h : SqL g.K G0 a vs) (dd : DgAll g.fa g.K G0 vs ds) (h' : SqL g.K G0 b ws) (ee : DgAll g.fa g.K G0 ws es) : Yields g.fa g.K .zip2 G0 (Itz g.K a b) (zipD ds es) where
  stop := fun G H s1 s2 => ⟨vs, ws, (s1.trans s2).seqL h, (s1.trans s2).seqL h', by rw [zip_len, dd.length, ee.length]; omega⟩
  go := fun G H i d s1 s2 e => by
    obtain ⟨x, y, h1, h2, _⟩ := zip_get e
    obtain ⟨v, h3, _⟩ := dd.get h1
    obtain ⟨w, h4, _⟩ := ee.get h2
    exact ⟨vs, ws, v, w, (s1.trans s2).seqL h, (s1.trans s2).seqL h', h3, h4⟩
  yld := fun G H i d x H' s1 s2 e y => by
    obtain ⟨dx, dy, h1, h2, rfl⟩ := zip_get e
    obtain ⟨v, h3, h5⟩ := dd.get h1
    obtain ⟨w, h4, h6⟩ := ee.get h2
    obtain ⟨T, z1, z2, rfl, hT, rfl, y1, y2⟩ := y
    have t1 := y1 vs ((s1.trans s2).seqL h)
    have t2 := y2 ws ((s1.trans s2).seqL h')
    rw [h3] at t1
    rw [h4] at t2
    cases t1
    cases t2
    exact pair_new rfl s2 hT (h5.mono s1) (h6.mono s1)
theorem Yields.zipT {a b : Addr} {ds es : List D} {vs ws : List V} (h : SqT g.K G0 a vs) (dd : DgAll g.fa g.K G0 vs ds) (h' : SqT g.K G0 b ws) (ee : DgAll g.fa g.K G0 ws es) : Yields g.fa g.K .zip2 G0 (ItzT g.K a b) (zipD ds es) where
  stop := fun G H s1 s2 => ⟨vs, ws, (s1.trans s2).seqT h, (s1.trans s2).seqT h', by rw [zip_len, dd.length, ee.length]; omega⟩
  go := fun G H i d s1 s2 e => by
    obtain ⟨x, y, h1, h2, _⟩ := zip_get e
    obtain ⟨v, h3, _⟩ := dd.get h1
    obtain ⟨w, h4, _⟩ := ee.get h2
    exact ⟨vs, ws, v, w, (s1.trans s2).seqT h, (s1.trans s2).seqT h', h3, h4⟩
  yld := fun G H i d x H' s1 s2 e y => by
    obtain ⟨dx, dy, h1, h2, rfl⟩ := zip_get e
    obtain ⟨v, h3, h5⟩ := dd.get h1
    obtain ⟨w, h4, h6⟩ := ee.get h2
    obtain ⟨T, z1, z2, rfl, hT, rfl, y1, y2⟩ := y
    have t1 := y1 vs ((s1.trans s2).seqT h)
    have t2 := y2 ws ((s1.trans s2).seqT h')
    rw [h3] at t1
    rw [h4] at t2
    cases t1
    cases t2
    exact pair_new rfl s2 hT (h5.mono s1) (h6.mono s1)

theorem RI.all {k : IK} {m : E} {R : It → Hp → Prop} (h : RI g k m σ H R) : RA g m σ H fun vs H1 => ∃ G ds items, Sup G H1 ∧ DgAll g.fa g.K G vs ds ∧ itSem k ds = some items ∧ ∀ J, Yields g.fa g.K k G J items → R J H1 := by
  obtain ⟨F, G, io, env, r0, p⟩ := h
  refine ⟨F, G, io, env, r0, ?_⟩
  cases q : evE g.C m env with
  | stuck => rw [q] at p; exact p
  | exc k x e => rw [q] at p; exact p
  | ok os e1 =>
    rw [q] at p
    obtain ⟨items, ei, p⟩ := p
    intro vs H1 G1 r1 x1 q1 f1
    obtain ⟨G2, r2, x2, dd⟩ := r1.settle q1 f1
    exact ⟨G2, _, items, r2.gh, dd, ei, fun J y => p J H1 G2 r2 (x1.trans ⟨x2, fun i h => freezeO_no os h⟩) y⟩
theorem PI.of {tg it : Expr} {wi wi' : TI} (h : PI X tg it wi) (k : ∀ σ H R, wi' σ H R → wi σ H R) : PI X tg it wi' := ⟨fun pins s σ H R I q => h.run pins s σ H R I (k σ H R q)⟩
theorem itSem1 {k : IK} {ds items : List D} (h : ∀ a b, it2 k a b = none) (e : itSem k ds = some items) : ∃ x, ds = [x] ∧ it1 k x = some items := by
  match ds, e with
  | [], e => exact noS e
  | [x], e => exact ⟨x, rfl, e⟩
  | [x, y], e => exact noS ((h x y).symm.trans e)
  | _ :: _ :: _ :: _, e => exact noS e
theorem itSem2 {k : IK} {ds items : List D} (h : ∀ a, it1 k a = none) (e : itSem k ds = some items) : ∃ x y, ds = [x, y] ∧ it2 k x y = some items := by
  match ds, e with
  | [], e => exact noS e
  | [x], e => exact noS ((h x).symm.trans e)
  | [x, y], e => exact ⟨x, y, rfl, e⟩
  | _ :: _ :: _ :: _, e => exact noS e
theorem rg1_inv {ds items : List D} (e : itSem .rg1 ds = some items) : ∃ n, ds = [.int n] ∧ rngOk n = true ∧ items = (upto 0 n.toNat).map D.int := by
  obtain ⟨x, rfl, e⟩ := itSem1 (fun _ _ => rfl) e
  cases x <;> first | exact noS e | skip
  rename_i n _
  have e : (if rngOk n = true then some ((upto 0 n.toNat).map D.int) else none) = some items := e
  by_cases hr : rngOk n = true
  · rw [if_pos hr] at e
    cases e
    exact ⟨n, rfl, hr, rfl⟩
  · rw [if_neg hr] at e; cases e
theorem pi_rg1 {tg a : Expr} {m : E} {p pos : Pos} (hg : Gl X "range") (hm : X.mg "range" = none) (ha : PA X [a] (RA g m)) (hs : starEach [a] X.env = [(false, eval a X.env)]) : PI X tg (.Call (.Name "range" p) [a] [] pos) (RI g .rg1 m) := by
  refine PI.of (pi_range1 hg hm ha hs) fun σ H R h => h.all.mono fun vs H1 ⟨G, ds, items, sp, dd, e, q⟩ => ?_
  obtain ⟨n, rfl, hr, rfl⟩ := rg1_inv e
  cases dd with
  | cons d1 dd =>
    cases dd
    cases d1
    rw [rngOk_iff] at hr
    exact ⟨n, rfl, by omega, by omega, q _ (.range _ _)⟩
theorem rg2_inv {ds items : List D} (e : itSem .rg2 ds = some items) : ∃ a b, ds = [.int a, .int b] ∧ rngOk a = true ∧ rngOk b = true ∧ items = (upto a (b - a).toNat).map D.int := by
  obtain ⟨x, y, rfl, e⟩ := itSem2 (fun _ => rfl) e
  cases x <;> cases y <;> first | exact noS e | skip
  rename_i a b _
  have e : (if (rngOk a && rngOk b) = true then some ((upto a (b - a).toNat).map D.int) else none) = some items := e
  by_cases hr : (rngOk a && rngOk b) = true
  · rw [if_pos hr] at e
    cases e
    exact ⟨a, b, rfl, (Bool.and_eq_true_iff.mp hr).1, (Bool.and_eq_true_iff.mp hr).2, rfl⟩
  · rw [if_neg hr] at e; cases e
theorem pi_rg2 {tg a b : Expr} {m : E} {p pos : Pos} (hg : Gl X "range") (hm : X.mg "range" = none) (ha : PA X [a, b] (RA g m)) (hs : starEach [a, b] X.env = [(false, eval a X.env), (false, eval b X.env)]) (hs2 : starEach [b] X.env = [(false, eval b X.env)]) : PI X tg (.Call (.Name "range" p) [a, b] [] pos) (RI g .rg2 m) := by
  refine PI.of (pi_range2 hg hm ha hs hs2) fun σ H R h => h.all.mono fun vs H1 ⟨G, ds, items, sp, dd, e, q⟩ => ?_
  obtain ⟨i, j, rfl, h1, h2, rfl⟩ := rg2_inv e
  cases dd with
  | cons d1 dd =>
    cases dd with
    | cons d2 dd =>
      cases dd
      cases d1
      cases d2
      rw [rngOk_iff] at h1 h2
      exact ⟨i, j, rfl, ⟨by omega, by omega, by omega, by omega⟩, q _ (.range _ _)⟩
theorem enum_inv {ds items : List D} (e : itSem .enum ds = some items) : ∃ zs, (ds = [.lst zs] ∨ ds = [.tup zs]) ∧ items = enumD 0 zs := by
  obtain ⟨x, rfl, e⟩ := itSem1 (fun _ _ => rfl) e
  cases x <;> first | exact noS e | skip
  · cases e; exact ⟨_, .inr rfl, rfl⟩
  · cases e; exact ⟨_, .inl rfl, rfl⟩
theorem pi_en {elts : List Expr} {kk : Nat} {tpos : Pos} {a : Expr} {m : E} {p pos : Pos} (hK : X.K = g.K) (hg : Gl X "enumerate") (hm : X.mg "enumerate" = none) (ha : PA X [a] (RA g m)) (hs : starEach [a] X.env = [(false, eval a X.env)]) : PI X (.Tuple elts kk tpos) (.Call (.Name "enumerate" p) [a] [] pos) (RI g .enum m) := by
  refine PI.of (pi_enumA hg hm ha hs) fun σ H R h => h.all.mono fun vs H1 ⟨G, ds, items, sp, dd, e, q⟩ => ?_
  obtain ⟨zs, h, rfl⟩ := enum_inv e
  rw [hK]
  rcases h with rfl | rfl
  · cases dd with
    | cons d1 dd =>
      cases dd
      cases d1 with
      | lst h1 h2 => exact ⟨_, _, rfl, .inl ⟨.inl (.inl (sp.lst _ _ h1)), q _ (.enumL (.inl (.inl h1)) h2)⟩⟩
  · cases dd with
    | cons d1 dd =>
      cases dd
      cases d1 with
      | tup h1 h2 => exact ⟨_, _, rfl, .inr ⟨sp.seqT h1.seqT, q _ (.enumT h1.seqT h2)⟩⟩
theorem zip_inv {ds items : List D} (e : itSem .zip2 ds = some items) : ∃ xs ys, (ds = [.lst xs, .lst ys] ∨ ds = [.tup xs, .tup ys]) ∧ items = zipD xs ys := by
  obtain ⟨x, y, rfl, e⟩ := itSem2 (fun _ => rfl) e
  cases x <;> cases y <;> first | exact noS e | skip
  · cases e; exact ⟨_, _, .inr rfl, rfl⟩
  · cases e; exact ⟨_, _, .inl rfl, rfl⟩
theorem pi_zp {elts : List Expr} {kk : Nat} {tpos : Pos} {a b : Expr} {m : E} {p pos : Pos} (hK : X.K = g.K) (hg : Gl X "zip") (hm : X.mg "zip" = none) (ha : PA X [a, b] (RA g m)) (hs : starEach [a, b] X.env = (false, eval a X.env) :: starEach [b] X.env) (hpl : (backTo pos (starEach [b] X.env)).any (·.1) = false) :
    PI X (.Tuple elts kk tpos) (.Call (.Name "zip" p) [a, b] [] pos) (RI g .zip2 m) := by
  refine PI.of (pi_zipA hg hm ha hs hpl) fun σ H R h => h.all.mono fun vs H1 ⟨G, ds, items, sp, dd, e, q⟩ => ?_
  obtain ⟨xs, ys, h, rfl⟩ := zip_inv e
  rw [hK]
  rcases h with rfl | rfl
  · cases dd with
    | cons d1 dd =>
      cases dd with
      | cons d2 dd =>
        cases dd
        cases d1 with
        | lst h1 h2 =>
          cases d2 with
          | lst h3 h4 => exact ⟨_, _, _, _, rfl, .inl ⟨.inl (.inl (sp.lst _ _ h1)), .inl (.inl (sp.lst _ _ h3)), q _ (.zipL (.inl (.inl h1)) h2 (.inl (.inl h3)) h4)⟩⟩
  · cases dd with
    | cons d1 dd =>
      cases dd with
      | cons d2 dd =>
        cases dd
        cases d1 with
        | tup h1 h2 =>
          cases d2 with
          | tup h3 h4 => exact ⟨_, _, _, _, rfl, .inr ⟨sp.seqT h1.seqT, sp.seqT h3.seqT, q _ (.zipT h1.seqT h2 h3.seqT h4)⟩⟩
theorem RI.one {x : E} {R : It → Hp → Prop} (h : RI g .seq (.cons x .nil) σ H R) : RE g x σ H fun v H1 => ∃ G d items, Sup G H1 ∧ Dg g.fa g.K G v d ∧ anyOf d = some items ∧ ∀ J, Yields g.fa g.K .seq G J items → R J H1 :=
  (RA.cons h.all).mono fun v H1 q => by
    obtain ⟨G, ds, items, sp, dd, e, q⟩ := q.nil
    match ds, dd, e with
    | [d], .cons h1 .nil, e => exact ⟨G, d, items, sp, h1, e, q⟩
theorem pi_seq {tg it : Expr} {x : E} (hK : X.K = g.K) (he : PE X it (RE g x)) : PI X tg it (RI g .seq (.cons x .nil)) := by
  refine ⟨fun pins s σ H R I h => ?_⟩
  -- which kind it will be
  have key : (RE g x σ H fun v H1 => ∃ a, v = .ref a ∧ (∃ xs, SqL g.K H1 a xs) ∧ R (Itl g.K a) H1) ∨ (RE g x σ H fun v H1 => ∃ a, v = .ref a ∧ (∃ xs, SqT g.K H1 a xs) ∧ R (Itt g.K a) H1) ∨ (RE g x σ H fun v H1 => ∃ z, v = .str z ∧ R (Its z) H1) := by
    obtain ⟨F, G, io, env, r0, p⟩ := h
    unfold evE at p
    cases q : evE g.C x env with
    | stuck => rw [q] at p; exact p.elim
    | exc k a e => rw [q] at p; exact .inl ⟨F, G, io, env, r0, by rw [q]; exact p⟩
    | ok os e1 =>
      rw [q] at p
      match os, p with
      | [], p => exact p.elim
      | _ :: _ :: _, p => exact p.elim
      | [o], p =>
        have p : PostI g F G io env σ .seq (.ok [o] e1) R := p
        obtain ⟨items, ei, p⟩ := p
        have ei : anyOf (o.view e1) = some items := ei
        have go : ∀ {v : V} {H' G' : Hp}, Rel g.fa g.K F G' io e1 σ H' → Go F G env G' e1 → OR g.fa g.K F G' e1 σ H' o v → Full e1 [o] → ∃ G2, Sup G2 H' ∧ Dg g.fa g.K G2 v (o.view e1) ∧ ∀ J, Yields g.fa g.K .seq G2 J items → R J H' := fun r1 x1 q1 f1 => by
          obtain ⟨G2, r2, x2, dg⟩ := r1.settle1 q1 f1
          exact ⟨G2, r2.gh, dg, fun J y => p J _ G2 r2 (x1.trans ⟨x2, fun i h => freezeO_no [o] h⟩) y⟩
        cases qv : o.view e1 with
        | lst ds =>
          rw [qv] at ei go
          cases ei
          refine .inl ⟨F, G, io, env, r0, ?_⟩
          rw [q]
          intro v H' G' r1 x1 q1 f1
          obtain ⟨G2, s2, dg, k⟩ := go r1 x1 q1 f1
          cases dg with
          | lst h1 h2 => exact ⟨_, rfl, ⟨_, .inl (.inl (s2.lst _ _ h1))⟩, k _ (.list (.inl (.inl h1)) h2)⟩
        | tup ds =>
          rw [qv] at ei go
          cases ei
          refine .inr (.inl ⟨F, G, io, env, r0, ?_⟩)
          rw [q]
          intro v H' G' r1 x1 q1 f1
          obtain ⟨G2, s2, dg, k⟩ := go r1 x1 q1 f1
          cases dg with
          | tup h1 h2 => exact ⟨_, rfl, ⟨_, s2.seqT h1.seqT⟩, k _ (.tuple h1.seqT h2)⟩
        | ro ns =>
          rw [qv] at ei go
          cases ei
          refine .inl ⟨F, G, io, env, r0, ?_⟩
          rw [q]
          intro v H' G' r1 x1 q1 f1
          obtain ⟨G2, s2, dg, k⟩ := go r1 x1 q1 f1
          cases dg with
          | ro h1 => exact ⟨_, rfl, ⟨_, s2.seqL h1⟩, k _ (.list h1 (DgAll.ofInts ns))⟩
        | str z =>
          rw [qv] at ei go
          cases ei
          refine .inr (.inr ⟨F, G, io, env, r0, ?_⟩)
          rw [q]
          intro v H' G' r1 x1 q1 f1
          obtain ⟨G2, s2, dg, k⟩ := go r1 x1 q1 f1
          cases dg
          exact ⟨z, rfl, k _ (.text z)⟩
        | _ => rw [qv] at ei; cases ei
  rw [← hK] at key
  rcases key with h | h | h
  · exact (pi_list he).run pins s σ H R I h
  · exact (pi_tup he).run pins s σ H R I h
  · exact (pi_str he).run pins s σ H R I h
end
end Ev
end
section
set_option linter.all false
set_option maxRecDepth 100000
namespace Ev
open PySem PySem.Spec PyProof.Rows L2

def spF (g : Gh) (f : Nat) : Sp := if g.C.io f = true then spI g.fa g.K g.ex (g.C.call f) else spN g.fa g.K g.ex (g.C.call f)
def GOk (X : Cx) (g : Gh) (x : Str) : GV → Prop
  | .fn k => X.mg x = some (.ref (g.fa k)) ∧ PySem.W.keepIn X.K (.ref (g.fa k)) = true ∧ ∃ fd ps n, FnOk X.prog X.w X.K X.mg X.base (L2.CX X.prog X.w) n (g.fa k) fd ps (spF g k) ∧ Room n X.A ∧ Binds X.K fd ps []
  | .cst d => ∃ u v, X.mg x = some u ∧ L2.RelV v u ∧ ∀ G, Dg g.fa g.K G v d
  | .bi b => X.mg x = none ∧ ∃ y, biNames[b]? = some y ∧ x = Str.ofString y
  | .exc _ => True
structure Ok (X : Cx) (cc : CC) (g : Gh) : Prop where
  N : X.N = cc.N
  sc : X.env.scope = cc.sc
  K : X.K = g.K
  calm : X.calm = true
  nd : X.N.Nodup
  gl : ∀ x v, cc.gl.lookup x = some v → GOk X g x v
  io : ∀ k, cc.ioF k = g.C.io k
  room : X.A.units + 65 < cLine
  wno : ∀ c d σ H, ¬ g.W c d σ H
  fn : ∀ x, cc.fnc x = true → X.fn x = true
section
variable {X : Cx} {cc : CC} {g : Gh} {σ : L2.St} {H : Hp}

theorem PE.of {e : Expr} {t t' : TE} (h : PE X e t) (k : ∀ σ H Q, t' σ H Q → t σ H Q) : PE X e t' := ⟨fun pins s σ H Q I q => h.run pins s σ H Q I (k σ H Q q)⟩
theorem PT.of {e : Expr} {t t' : TT} (h : PT X e t) (k : ∀ σ H Q, t' σ H Q → t σ H Q) : PT X e t' := ⟨fun pins s σ H Q I q => h.run pins s σ H Q I (k σ H Q q)⟩
theorem PA.of {es : List Expr} {t t' : TA} (h : PA X es t) (k : ∀ σ H Q, t' σ H Q → t σ H Q) : PA X es t' := ⟨fun pos pins s σ H Q I q => h.run pos pins s σ H Q I (k σ H Q q)⟩
theorem PW.of {e : Expr} {t t' : TT} (h : PW X e t) (k : ∀ σ H Q, t' σ H Q → t σ H Q) : PW X e t' := ⟨fun wh pins s σ H Q I q => h.run wh pins s σ H Q I (k σ H Q q)⟩

theorem star1 {e : Expr} {es : List Expr} {env : PySem.Env} (h : noStar e = true) : starEach (e :: es) env = (false, eval e env) :: starEach es env := by
  cases e <;> first | rfl | cases h
theorem plain_back {env : PySem.Env} {pos : Pos} : ∀ {es : List Expr}, (∀ e ∈ es, noStar e = true) → (backTo pos (starEach es env)).any (·.1) = false
  | [], _ => rfl
  | e :: es, h => by
    rw [star1 (h e List.mem_cons_self)]
    show (false || (backTo pos (starEach es env)).any (·.1)) = false
    rw [Bool.false_or]
    exact plain_back fun x hx => h x (List.mem_cons_of_mem _ hx)
theorem plain_len {env : PySem.Env} : ∀ {es : List Expr}, (starEach es env).length = es.length
  | [] => rfl
  | e :: es => by
    have ih := plain_len (env := env) (es := es)
    cases e <;> (show (starEach es env).length + 1 = _; rw [ih]; rfl)
theorem plain_all {env : PySem.Env} {pos : Pos} : ∀ {es : List Expr}, (∀ e ∈ es, noStar e = true) → (backTo pos (starEach es env)).all (fun x => !x.1) = true
  | [], _ => rfl
  | e :: es, h => by
    rw [star1 (h e List.mem_cons_self)]
    show (true && (backTo pos (starEach es env)).all (fun x => !x.1)) = true
    rw [Bool.true_and]
    exact plain_all fun x hx => h x (List.mem_cons_of_mem _ hx)

def IHe (F : CC → Ex → Option E) (g : Gh) : Prop := ∀ X cc, Ok X cc g → ∀ e m, F cc e = some m → PE X e (RE g m) ∧ (tstOk e = true → PT X e (RT g m)) ∧ noStar e = true ∧ noSet e = true
variable {F : CC → Ex → Option E}
theorem cEs_cons {e : Ex} {es : List Ex} {a : E} (h : cEs F cc (e :: es) = some a) : noStar e = true ∧ ∃ x r, F cc e = some x ∧ cEs F cc es = some r ∧ a = .cons x r := by
  have gen : noStar e = true → cEs F cc (e :: es) = (match F cc e, cEs F cc es with | some x, some a => some (.cons x a) | _, _ => none) := by
    intro hn; cases e <;> first | rfl | cases hn
  have hn : noStar e = true := by cases e <;> first | rfl | cases h
  rw [gen hn] at h
  cases q1 : F cc e with
  | none => rw [q1] at h; cases h
  | some x =>
    rw [q1] at h
    cases q2 : cEs F cc es with
    | none => rw [q2] at h; cases h
    | some r => rw [q2] at h; cases h; exact ⟨hn, x, r, rfl, rfl, rfl⟩
theorem cEs_plain : ∀ {es : List Ex} {a : E}, cEs F cc es = some a → ∀ e ∈ es, noStar e = true
  | [], _, _, e, he => absurd he (by simp)
  | x :: es, a, h, e, he => by
    obtain ⟨hn, _, r, _, h2, _⟩ := cEs_cons h
    rcases List.mem_cons.mp he with rfl | he
    · exact hn
    · exact cEs_plain h2 e he
theorem pa_ok (ih : IHe F g) (ok : Ok X cc g) : ∀ {es : List Ex} {a : E}, cEs F cc es = some a → PA X es (RA g a)
  | [], a, h => by
    cases h
    exact PA.of pa_nil fun σ H Q q => q.nil
  | e :: es, a, h => by
    obtain ⟨hn, x, r, h1, h2, rfl⟩ := cEs_cons h
    exact PA.of (pa_cons (ih X cc ok e x h1).1 (pa_ok ih ok h2) (star1 hn)) fun σ H Q q => RA.cons q

theorem lookN {x : Str} {N : List Str} : ∀ {k i : Nat}, idxS x N k = some i → ∃ j, i = k + j ∧ N[j]? = some x := by
  induction N with
  | nil => intro k i h; cases h
  | cons y r ih =>
    intro k i h
    unfold idxS at h
    by_cases hx : (x == y) = true
    · rw [if_pos hx] at h
      cases h
      exact ⟨0, rfl, by simp [LawfulBEq.eq_of_beq hx]⟩
    · rw [if_neg hx] at h
      obtain ⟨j, h1, h2⟩ := ih h
      exact ⟨j + 1, by omega, by simpa using h2⟩
theorem plainN_ok {x : Str} (h : plainN x = true) : (x == ("__debug__" : Str)) = false ∧ (x == ("__classdict__" : Str)) = false ∧ x ≠ "__name__" := by
  unfold plainN at h
  simp only [Bool.and_eq_true, Bool.not_eq_true'] at h
  exact ⟨h.1.1, h.1.2, fun e => by have := h.2; rw [e] at this; exact absurd this (by decide)⟩
theorem slot_ok {x : Str} {i : Nat} (ok : Ok X cc g) (h : cc.slot x = some i) : X.N[i]? = some x ∧ Vis X.env.scope x ∧ plainN x = true := by
  unfold CC.slot at h
  by_cases hp : plainN x = true
  · rw [if_pos hp] at h
    have key : ∀ k, cc.sc.names.lookup x = some k → (k = .local ∨ k = .cell ∨ k = .free) → idxS x cc.N 0 = some i → X.N[i]? = some x ∧ Vis X.env.scope x ∧ plainN x = true := fun k hk hc hi => by
      obtain ⟨j, e1, e2⟩ := lookN hi
      rw [Nat.zero_add] at e1
      subst e1
      refine ⟨by rw [ok.N]; exact e2, ?_, hp⟩
      unfold Vis
      rw [ok.sc, hk]
      rcases hc with rfl | rfl | rfl
      · exact .inl rfl
      · exact .inr (.inl rfl)
      · exact .inr (.inr rfl)
    cases q : cc.sc.names.lookup x with
    | none => rw [q] at h; cases h
    | some k =>
      rw [q] at h
      cases k <;> first | exact key _ q (by simp) h | cases h
  · rw [if_neg hp] at h; cases h
theorem glob_ok {x : Str} {v : GV} (ok : Ok X cc g) (h : cc.glob x = some v) : Gl X x ∧ GOk X g x v ∧ plainN x = true := by
  unfold CC.glob at h
  by_cases hp : plainN x = true
  · rw [if_pos hp] at h
    cases q : cc.sc.names.lookup x with
    | none => rw [q] at h; cases h
    | some k =>
      rw [q] at h
      cases k <;> first | (refine ⟨?_, ok.gl x v h, hp⟩; unfold Gl PySem.Env.kindOf; rw [ok.sc]; exact q) | cases h
  · rw [if_neg hp] at h; cases h
theorem dest_ok {x : Str} {i : Nat} (ok : Ok X cc g) (h : cc.dest x = some i) : X.N[i]? = some x ∧ L2.Loc X.env.scope x ∧ (X.fn x = true ∨ X.env.scope.names.lookup x = some .local) ∧ (cc.io = true → i ≠ 0) := by
  have key : ∀ k, cc.sc.names.lookup x = some k → (k = .local ∨ k = .cell) → (X.fn x = true ∨ k = .local) → ((idxS x cc.N 0).bind fun i => if (cc.io && i == 0) = true then none else some i) = some i → X.N[i]? = some x ∧ L2.Loc X.env.scope x ∧ (X.fn x = true ∨ X.env.scope.names.lookup x = some .local) ∧ (cc.io = true → i ≠ 0) := fun k hk hc hf hi => by
    cases qi : idxS x cc.N 0 with
    | none => rw [qi] at hi; cases hi
    | some j =>
      rw [qi] at hi
      have hi : (if (cc.io && j == 0) = true then none else some j) = some i := hi
      by_cases hz : (cc.io && j == 0) = true
      · rw [if_pos hz] at hi; cases hi
      · rw [if_neg hz] at hi
        cases hi
        obtain ⟨j', e1, e2⟩ := lookN qi
        rw [Nat.zero_add] at e1
        subst e1
        refine ⟨by rw [ok.N]; exact e2, ?_, ?_, fun z e => hz (by rw [z, e]; rfl)⟩
        · unfold L2.Loc
          rw [ok.sc, hk]
          rcases hc with rfl | rfl
          · exact .inl rfl
          · exact .inr rfl
        · rw [ok.sc, hk]
          rcases hf with hf | rfl
          · exact .inl hf
          · exact .inr rfl
  unfold CC.dest at h
  cases q : cc.sc.names.lookup x with
  | none => rw [q] at h; cases h
  | some k =>
    rw [q] at h
    cases k with
    | «local» => exact key _ q (.inl rfl) (.inr rfl) h
    | cell =>
      have h : (if cc.fnc x = true then (idxS x cc.N 0).bind fun i => if (cc.io && i == 0) = true then none else some i else none) = some i := h
      by_cases hf : cc.fnc x = true
      · rw [if_pos hf] at h
        exact key _ q (.inr rfl) (.inl (ok.fn x hf)) h
      · rw [if_neg hf] at h; cases h
    | _ => cases h
theorem pe_slot {x : Str} {i : Nat} {p : Pos} (ok : Ok X cc g) (h : cc.slot x = some i) : PE X (.Name x p) (tVar i) := by
  obtain ⟨h1, h2, h3⟩ := slot_ok ok h
  obtain ⟨p1, p2, _⟩ := plainN_ok h3
  exact pe_var h1 h2 p1 p2
theorem cName_ok (ok : Ok X cc g) {x : Str} {p : Pos} {m : E} (h : cName cc x = some m) : PE X (.Name x p) (RE g m) := by
  unfold cName at h
  cases q : cc.slot x with
  | some i =>
    rw [q] at h
    cases h
    exact PE.of (pe_slot ok q) fun σ H Q q => q.var
  | none =>
    rw [q] at h
    cases q2 : cc.glob x with
    | none => rw [q2] at h; cases h
    | some v =>
      rw [q2] at h
      obtain ⟨hg, hv, hp⟩ := glob_ok ok q2
      cases v with
      | fn k =>
        cases h
        exact PE.of (pe_glob (v := .ref (g.fa k)) hg hv.1 rfl (plainN_ok hp).1) fun σ H Q q => q.cst fun G => .fn k
      | cst d =>
        cases h
        obtain ⟨u, v, h1, h2, h3⟩ := hv
        exact PE.of (pe_glob hg h1 h2 (plainN_ok hp).1) fun σ H Q q => q.cst h3
      | bi b => cases h
      | exc k => cases h
theorem pt_valR {e : Expr} {m : E} (h : PE X e (RE g m)) (he : ∀ whole, isTrue e X.env whole = (do let v ← whole; standAt e.pos; holding [v] (truthy v))) : PT X e (RT g m) :=
  PT.of (pt_val h he) fun σ H Q q => q.re
theorem cConst_ok {c : PySem.Const} {k : Nat} {p : Pos} {d : D} (h : constD c = some d) : PE X (.Constant c k p) (RE g (.cst d)) := by
  cases c with
  | none => cases h; exact PE.of pe_non fun σ H Q q => q.cst fun _ => .non
  | bool b => cases h; exact PE.of pe_bl fun σ H Q q => q.cst fun _ => .bl _
  | int b => cases h; exact PE.of pe_int fun σ H Q q => q.cst fun _ => .int _
  | str b => cases h; exact PE.of pe_str fun σ H Q q => q.cst fun _ => .str _
  | _ => cases h

theorem bin_op {o : Operator} {op : Op} (ok : Ok X cc g) (h : binO o = some op) : OpR X (binaryOp o) (KO2 g op) := by
  cases o <;> first | cases h; done | skip
  all_goals (cases h)
  all_goals first | exact ko_add ok.K | exact ko_sub | exact ko_mul ok.K | exact ko_fdiv | exact ko_mod | exact ko_pow
theorem cmp_op {o : CmpOp} {op : Op} (ok : Ok X cc g) (h : cmpO o = some op) : OpR X (compareOp o) (KO2 g op) := by
  cases o <;> first | cases h; done | skip
  all_goals (cases h)
  all_goals first | exact ko_eq ok.K ok.room | exact ko_ne ok.K ok.room | exact ko_lt | exact ko_le | exact ko_gt | exact ko_ge | exact ko_inn ok.K ok.room | exact ko_nin ok.K ok.room
theorem cBin_some {o : Op} {a b : Ex} {m : E} (h : cBin F cc o a b = some m) : ∃ x y, F cc a = some x ∧ F cc b = some y ∧ m = .op o (.cons x (.cons y .nil)) := by
  unfold cBin at h
  cases q1 : F cc a with
  | none => rw [q1] at h; cases h
  | some x =>
    rw [q1] at h
    cases q2 : F cc b with
    | none => rw [q2] at h; cases h
    | some y => rw [q2] at h; cases h; exact ⟨x, y, rfl, rfl, rfl⟩
theorem cUn_some {o : Op} {a : Ex} {m : E} (h : cUn F cc o a = some m) : ∃ x, F cc a = some x ∧ m = .op o (.cons x .nil) := by
  unfold cUn at h
  cases q1 : F cc a with
  | none => rw [q1] at h; cases h
  | some x => rw [q1] at h; cases h; exact ⟨x, rfl, rfl⟩
theorem op2_re {o : Op} {x y : E} {σ : L2.St} {H : Hp} {Q : VK} (h : RE g (.op o (.cons x (.cons y .nil))) σ H Q) : tOp (KO2 g o) (RE g x) (RE g y) σ H Q := h.op2
theorem op2_rt {o : Op} {x y : E} {σ : L2.St} {H : Hp} {Q : Bool → Hp → Prop} (h : RT g (.op o (.cons x (.cons y .nil))) σ H Q) : tTest (tOp (KO2 g o) (RE g x) (RE g y)) σ H Q := h.re.op2
theorem noSet_mark {o : CmpOp} {b : Expr} (h : noSet b = true) : behindInMarks o b = false := by
  cases b <;> first | rfl | cases h
theorem cCmp1_ok (ih : IHe F g) (ok : Ok X cc g) {a b : Ex} {o : CmpOp} {m : E} {p : Pos} (h : cCmp1 F cc a o b = some m) : PE X (.Compare a [o] [b] p) (RE g m) ∧ PT X (.Compare a [o] [b] p) (RT g m) := by
  have isN : isNone b = true → ∃ k q, b = .Constant .none k q := fun hb => by
    cases b with
    | Constant c k q => cases c <;> first | exact ⟨_, _, rfl⟩ | cases hb
    | _ => cases hb
  have gen : ∀ op, cmpO o = some op → (if noSet b = true then cBin F cc op a b else none) = some m → PE X (.Compare a [o] [b] p) (RE g m) ∧ PT X (.Compare a [o] [b] p) (RT g m) := fun op ho h => by
    by_cases hb : noSet b = true
    · rw [if_pos hb] at h
      obtain ⟨x, y, h1, h2, rfl⟩ := cBin_some h
      have pa := (ih X cc ok a x h1).1
      have pb := (ih X cc ok b y h2).1
      exact ⟨PE.of (pe_cmpR (cmp_op ok ho) pa pb (noSet_mark hb)) fun σ H Q q => op2_re q, PT.of (pt_cmpR (cmp_op ok ho) pa pb (noSet_mark hb)) fun σ H Q q => op2_rt q⟩
    · rw [if_neg hb] at h; cases h
  cases o with
  | Is =>
    have h : (if isNone b = true then cUn F cc .isn a else none) = some m := h
    by_cases hb : isNone b = true
    · rw [if_pos hb] at h
      obtain ⟨k, q, rfl⟩ := isN hb
      obtain ⟨x, h1, rfl⟩ := cUn_some h
      have pa := (ih X cc ok a x h1).1
      exact ⟨PE.of (pe_cmpR (ko_isn (g := g)) pa pe_non rfl) fun σ H Q q => q.op1.mono fun v H1 q => ⟨rfl, q⟩,
        PT.of (pt_cmpR (ko_isn (g := g)) pa pe_non rfl) fun σ H Q q => q.re.op1.mono fun v H1 q => ⟨rfl, q⟩⟩
    · rw [if_neg hb] at h; cases h
  | IsNot =>
    have h : (if isNone b = true then cUn F cc .isnn a else none) = some m := h
    by_cases hb : isNone b = true
    · rw [if_pos hb] at h
      obtain ⟨k, q, rfl⟩ := isN hb
      obtain ⟨x, h1, rfl⟩ := cUn_some h
      have pa := (ih X cc ok a x h1).1
      exact ⟨PE.of (pe_cmpR (ko_isnn (g := g)) pa pe_non rfl) fun σ H Q q => q.op1.mono fun v H1 q => ⟨rfl, q⟩,
        PT.of (pt_cmpR (ko_isnn (g := g)) pa pe_non rfl) fun σ H Q q => q.re.op1.mono fun v H1 q => ⟨rfl, q⟩⟩
    · rw [if_neg hb] at h; cases h
  | _ => exact gen _ rfl h
theorem cmpI_op {o : CmpOp} {op : Op} (h : cmpL o = some op) : OpR X (compareOp o) (rI0 fun i j => .bl (cmpI op i j)) := by
  cases o <;> first | cases h; done | skip
  all_goals (cases h)
  all_goals first | exact op_lt | exact op_le | exact op_gt | exact op_ge
theorem chain_re {o1 o2 : Op} {x y z : E} {σ : L2.St} {H : Hp} {Q : VK} (h : RE g (.chain o1 o2 x y z) σ H Q) : tChain (rI0 fun i j => .bl (cmpI o1 i j)) (rI0 fun i j => .bl (cmpI o2 i j)) (RE g x) (RE g y) (RE g z) σ H Q :=
  h.chain.mono fun v H1 q => q.mono fun u H2 ⟨i, j, e1, e2, q⟩ => ⟨i, j, e1, e2, _, rfl, by
    by_cases hc : cmpI o1 i j = true
    · rw [if_pos hc] at q ⊢
      exact q.mono fun w H3 ⟨l, e3, q⟩ => ⟨j, l, e2, e3, q⟩
    · rw [if_neg hc] at q ⊢
      exact q⟩
theorem cCmp2_ok (ih : IHe F g) (ok : Ok X cc g) {a b c : Ex} {o1 o2 : CmpOp} {m : E} {p : Pos} (h : cCmp2 F cc a o1 o2 b c = some m) : PE X (.Compare a [o1, o2] [b, c] p) (RE g m) ∧ PT X (.Compare a [o1, o2] [b, c] p) (RT g m) := by
  unfold cCmp2 at h
  cases e1 : cmpL o1 with
  | none => rw [e1] at h; cases h
  | some p1 =>
    cases e2 : cmpL o2 with
    | none => rw [e1, e2] at h; cases h
    | some p2 =>
      cases h1 : F cc a with
      | none => rw [e1, e2, h1] at h; cases h
      | some x =>
        cases h2 : F cc b with
        | none => rw [e1, e2, h1, h2] at h; cases h
        | some y =>
          cases h3 : F cc c with
          | none => rw [e1, e2, h1, h2, h3] at h; cases h
          | some z =>
            rw [e1, e2, h1, h2, h3] at h
            cases h
            have pa := (ih X cc ok a x h1).1
            have pb := (ih X cc ok b y h2).1
            have pc := (ih X cc ok c z h3).1
            have hm : lastMarks [o1, o2] [b, c] = false := by
              show behindInMarks o2 c = false
              exact nomark c (fun e => by rw [e] at e2; cases e2) (fun e => by rw [e] at e2; cases e2)
            exact ⟨PE.of (pe_chain (cmpI_op e1) (cmpI_op e2) pa pb pc hm) fun σ H Q q => chain_re q, PT.of (pt_chain (cmpI_op e1) (cmpI_op e2) pa pb pc hm) fun σ H Q q => chain_re q.re⟩
end
end Ev
end
section
set_option linter.all false
set_option maxRecDepth 100000
namespace Ev
open PySem PySem.Spec PyProof.Rows L2
section
variable {X : Cx} {cc : CC} {g : Gh} {σ : L2.St} {H : Hp} {F : CC → Ex → Option E}

theorem boot_allF : bootBuiltins (Str.ofString "all") = some (.builtin "all") := by decide +kernel
theorem boot_anyF : bootBuiltins (Str.ofString "any") = some (.builtin "any") := by decide +kernel
theorem boot_lenF : bootBuiltins (Str.ofString "len") = some (.builtin "len") := by decide +kernel
theorem boot_absF : bootBuiltins (Str.ofString "abs") = some (.builtin "abs") := by decide +kernel
theorem boot_sumF : bootBuiltins (Str.ofString "sum") = some (.builtin "sum") := by decide +kernel
theorem boot_maxF : bootBuiltins (Str.ofString "max") = some (.builtin "max") := by decide +kernel
theorem boot_minF : bootBuiltins (Str.ofString "min") = some (.builtin "min") := by decide +kernel
theorem boot_sortedF : bootBuiltins (Str.ofString "sorted") = some (.builtin "sorted") := by decide +kernel
theorem boot_intF : bootBuiltins (Str.ofString "int") = some (.type "int") := by decide +kernel
theorem boot_listF : bootBuiltins (Str.ofString "list") = some (.type "list") := by decide +kernel
theorem boot_tupleF : bootBuiltins (Str.ofString "tuple") = some (.type "tuple") := by decide +kernel
theorem boot_isiF : bootBuiltins (Str.ofString "isinstance") = some (.builtin "isinstance") := by decide +kernel
theorem boot_boolF : bootBuiltins (Str.ofString "bool") = some (.type "bool") := by decide +kernel
theorem boot_strF : bootBuiltins (Str.ofString "str") = some (.type "str") := by decide +kernel
def BiR (X : Cx) (g : Gh) (x : Str) (o : Op) : Prop := (∃ id, bootBuiltins x = some (.builtin id) ∧ CallR X (.builtin id) (fun vs H Q => KO g o vs H Q)) ∨ ∃ T, bootBuiltins x = some (.type T) ∧ CallR X (.type T) (fun vs H Q => KO g o vs H Q)
theorem bi_call (ok : Ok X cc g) {b n : Nat} {y : String} {o : Op} (hy : biNames[b]? = some y) (h : biOp b n = some o) : BiR X g (Str.ofString y) o := by
  unfold biOp at h
  split at h <;> first | (cases h; done) | skip
  all_goals (cases h; cases hy)
  · exact .inl ⟨_, boot_lenF, ko_len ok.K⟩
  · exact .inl ⟨_, boot_absF, ko_abs⟩
  · exact .inr ⟨_, boot_intF, ko_int1⟩
  · exact .inl ⟨_, boot_sumF, ko_sum ok.K ok.calm⟩
  · exact .inl ⟨_, boot_maxF, ko_max2 ok.calm⟩
  · exact .inl ⟨_, boot_minF, ko_min2 ok.calm⟩
  · exact .inl ⟨_, boot_sortedF, ko_sorted ok.K ok.room⟩
  · exact .inr ⟨_, boot_listF, ko_list ok.K⟩
  · exact .inr ⟨_, boot_tupleF, ko_tuple ok.K⟩
  · exact .inl ⟨_, boot_allF, ko_all ok.K ok.calm⟩
  · exact .inl ⟨_, boot_anyF, ko_any ok.K ok.calm⟩
theorem pe_bi {x : Str} {o : Op} {e : Expr} {es : List Expr} {a : E} {p pos : Pos} (hb : BiR X g x o) (hg : Gl X x) (hm : X.mg x = none) (hp : plainN x = true) (ha : PA X (e :: es) (RA g a)) (hn : ∀ z ∈ e :: es, noStar z = true) :
    PE X (.Call (.Name x p) (e :: es) [] pos) (RE g (.op o a)) := by
  obtain ⟨p1, p2, p3⟩ := plainN_ok hp
  have h1 := star1 (es := es) (env := X.env) (hn e List.mem_cons_self)
  have h2 := plain_back (env := X.env) (pos := pos) fun z hz => hn z (List.mem_cons_of_mem _ hz)
  rcases hb with ⟨id, hv, hc⟩ | ⟨T, hv, hc⟩
  · exact PE.of (pe_callB hc hg hm hv ha p3 p1 h1 h2) fun σ H Q q => q.opN
  · exact PE.of (pe_callTy hc hg hm hv ha p3 p1 h1 h2) fun σ H Q q => q.opN

theorem pe_tyN {x : Str} {t : Nat} {p : Pos} (ok : Ok X cc g) (h : tyOf cc x = some t) : t < 5 ∧ PE X (.Name x p) (tC (.ty (tyName t))) := by
  unfold tyOf at h
  cases q : cc.glob x with
  | none => rw [q] at h; cases h
  | some v =>
    rw [q] at h
    cases v with
    | bi b =>
      obtain ⟨hg, ⟨hm, y, hy, rfl⟩, hp⟩ := glob_ok ok q
      obtain ⟨p1, p2, p3⟩ := plainN_ok hp
      have h : tyNo (Str.ofString y) = some t := h
      unfold tyNo at h
      have key : ∀ (s : String) (n : Nat), (Str.ofString y == Str.ofString s) = true → bootBuiltins (Str.ofString s) = some (.type (tyName n)) → n < 5 → n < 5 ∧ PE X (.Name (Str.ofString y) p) (tC (.ty (tyName n))) := fun s n e hv hl =>
        ⟨hl, pe_bltn hg hm (by rw [LawfulBEq.eq_of_beq e]; exact hv) rfl p3 p1⟩
      split at h
      · rename_i e; cases h; exact key "int" 0 e boot_intF (by decide)
      · split at h
        · rename_i e; cases h; exact key "bool" 1 e boot_boolF (by decide)
        · split at h
          · rename_i e; cases h; exact key "str" 2 e boot_strF (by decide)
          · split at h
            · rename_i e; cases h; exact key "list" 3 e boot_listF (by decide)
            · split at h
              · rename_i e; cases h; exact key "tuple" 4 e boot_tupleF (by decide)
              · cases h
    | _ => cases h
def tTys : List Nat → TA
  | [] => tNil
  | t :: ts => tCons (tC (.ty (tyName t))) (tTys ts)
theorem pa_tys (ok : Ok X cc g) : ∀ {es : List Ex} {ts : List Nat}, cNames (tyOf cc) es = some ts → (∀ t ∈ ts, t < 5) ∧ (∀ e ∈ es, noStar e = true) ∧ PA X es (tTys ts)
  | [], ts, h => by cases h; exact ⟨by simp, by simp, pa_nil⟩
  | e :: es, ts, h => by
    cases e with
    | Name x p =>
      have h : (match tyOf cc x, cNames (tyOf cc) es with | some i, some l => some (i :: l) | _, _ => none) = some ts := h
      cases q1 : tyOf cc x with
      | none => rw [q1] at h; cases h
      | some t =>
        rw [q1] at h
        cases q2 : cNames (tyOf cc) es with
        | none => rw [q2] at h; cases h
        | some l =>
          rw [q2] at h
          cases h
          obtain ⟨h1, h2⟩ := pe_tyN (p := p) ok q1
          obtain ⟨h3, h4, h5⟩ := pa_tys ok q2
          refine ⟨fun t ht => ?_, fun e he => ?_, pa_cons h2 h5 rfl⟩
          · rcases List.mem_cons.mp ht with rfl | ht
            · exact h1
            · exact h3 t ht
          · rcases List.mem_cons.mp he with rfl | he
            · rfl
            · exact h4 e he
    | _ => cases h
theorem tTys_run {σ : L2.St} {H : Hp} : ∀ {ts : List Nat} {Q : List V → Hp → Prop}, Q (ts.map fun t => .ty (tyName t)) H → tTys ts σ H Q
  | [], _, q => q
  | t :: ts, Q, q => tTys_run (ts := ts) (Q := fun xs H => Q (.ty (tyName t) :: xs) H) q
theorem cTypes_ok (ok : Ok X cc g) {a t : Ex} {x : E} {ts : List Nat} {p pos : Pos} {f : Str} (hf : f = Str.ofString "isinstance") (hg : Gl X f) (hm : X.mg f = none) (hp : plainN f = true) (ha : PE X a (RE g x)) (hn : noStar a = true) (h : cTypes cc t = some ts) :
    PE X (.Call (.Name f p) [a, t] [] pos) (RE g (.op (.isi ts) (.cons x .nil))) := by
  obtain ⟨p1, p2, p3⟩ := plainN_ok hp
  subst hf
  cases t with
  | Name y py =>
    have h : (tyOf cc y).map (fun n => [n]) = some ts := h
    cases q1 : tyOf cc y with
    | none => rw [q1] at h; cases h
    | some n =>
      rw [q1] at h
      cases h
      obtain ⟨hl, ht⟩ := pe_tyN (p := py) ok q1
      refine PE.of (pe_callB (call_isi (X := X)) hg hm boot_isiF (pa_cons ha (pa_cons ht pa_nil rfl) (star1 hn)) p3 p1 (star1 hn) rfl) fun σ H Q q => ?_
      rw [ok.K]
      exact q.op1.mono fun v H1 q => ko_isi1 hl q
  | Tuple es k pt =>
    have h : (if es.length ≤ 10 then cNames (tyOf cc) es else none) = some ts := h
    have h10 : es.length ≤ 10 := by
      by_cases z : es.length ≤ 10
      · exact z
      · rw [if_neg z] at h; cases h
    rw [if_pos h10] at h
    obtain ⟨h1, h2, h3⟩ := pa_tys ok h
    refine PE.of (pe_callB (call_isiT (X := X)) hg hm boot_isiF (pa_cons ha (pa_cons (pe_tup h3) pa_nil rfl) (star1 hn)) p3 p1 (star1 hn) rfl) fun σ H Q q => ?_
    rw [ok.K]
    refine q.op1.mono fun v H1 q => tTys_run ⟨?_, fun pp hpp => ko_isiT h1 q hpp⟩
    rw [List.length_map]
    have hl : ∀ {es : List Ex} {ts : List Nat}, cNames (tyOf cc) es = some ts → ts.length = es.length := fun {es} => by
      induction es with
      | nil => intro ts h; cases h; rfl
      | cons e es ih =>
        intro ts h
        cases e with
        | Name z pz =>
          have h : (match tyOf cc z, cNames (tyOf cc) es with | some i, some l => some (i :: l) | _, _ => none) = some ts := h
          cases q1 : tyOf cc z with
          | none => rw [q1] at h; cases h
          | some t =>
            rw [q1] at h
            cases q2 : cNames (tyOf cc) es with
            | none => rw [q2] at h; cases h
            | some l => rw [q2] at h; cases h; rw [List.length_cons, List.length_cons, ih q2]
        | _ => cases h
    rw [hl h, sizeLine_eq]
    omega
  | _ => cases h

theorem rgV_upto (a b : Int) : rgV a b = (upto a (b - a).toNat).map V.int := by
  unfold rgV
  apply List.ext_getElem?
  intro i
  rw [List.getElem?_map, List.getElem?_map]
  by_cases hi : i < (b - a).toNat
  · rw [upto_get _ a i hi, List.getElem?_range hi]
    rfl
  · rw [List.getElem?_eq_none (by rw [List.length_range]; omega), List.getElem?_eq_none (by rw [upto_len]; omega)]
    rfl
theorem upto_dg {G : Hp} (a b : Int) : DgAll g.fa g.K G (rgV a b) ((upto a (b - a).toNat).map D.int) := by
  rw [rgV_upto]
  exact DgAll.ofInts _
theorem ko_lrg1 {v : V} {Q : VK} (h : KO g .lrg1 [v] H Q) : ∃ n, v = .int n ∧ RgOk 0 n ∧ ∀ q, H q = none → Q (.ref q) (upd H q (.lst (rgV 0 n))) := by
  obtain ⟨G, ds, d, sp, vw, e, q⟩ := h
  obtain ⟨dx, rfl, e'⟩ := opSem1 (fun _ _ => rfl) (fun _ _ _ => rfl) e
  replace e := e'
  clear e'
  obtain ⟨x, ex, wx⟩ := vws1 vw
  cases ex
  cases dx <;> first | exact noS e | skip
  rename_i n
  have e : (if (leN n 10000000 && rngOk n) = true then some (D.lst ((upto 0 n.toNat).map D.int)) else none) = some d := e
  by_cases hc : (leN n 10000000 && rngOk n) = true
  · rw [if_pos hc] at e
    cases e
    simp only [Bool.and_eq_true, leN_iff, rngOk_iff] at hc
    refine ⟨n, wx.int, ⟨by omega, by omega, by omega, by omega, by omega⟩, fun p hp => KO.newL q sp rfl ?_ hp⟩
    have := upto_dg (g := g) (G := G) 0 n
    rw [Int.sub_zero] at this
    exact this
  · rw [if_neg hc] at e; cases e
theorem ko_lrg2 {v u : V} {Q : VK} (h : KO g .lrg2 [v, u] H Q) : ∃ a b, v = .int a ∧ u = .int b ∧ RgOk a b ∧ ∀ q, H q = none → Q (.ref q) (upd H q (.lst (rgV a b))) := by
  obtain ⟨G, ds, d, sp, vw, e, q⟩ := h
  obtain ⟨dx, dy, rfl, e'⟩ := opSem2 (fun _ => rfl) (fun _ _ _ => rfl) e
  replace e := e'
  clear e'
  obtain ⟨x, y, ex, wx, wy⟩ := vws2 vw
  cases ex
  cases dx <;> cases dy <;> first | exact noS e | skip
  rename_i a b
  have e : (if (leN (b - a) 10000000 && rngOk a && rngOk b) = true then some (D.lst ((upto a (b - a).toNat).map D.int)) else none) = some d := e
  by_cases hc : (leN (b - a) 10000000 && rngOk a && rngOk b) = true
  · rw [if_pos hc] at e
    cases e
    simp only [Bool.and_eq_true, leN_iff, rngOk_iff] at hc
    exact ⟨a, b, wx.int, wy.int, ⟨by omega, by omega, by omega, by omega, by omega⟩, fun p hp => KO.newL q sp rfl (upto_dg a b) hp⟩
  · rw [if_neg hc] at e; cases e
theorem isRange_ok (ok : Ok X cc g) {a : Ex} {xs : List Ex} (h : isRange cc a = some xs) : ∃ p pos, a = .Call (.Name "range" p) xs [] pos ∧ Gl X "range" ∧ X.mg "range" = none := by
  unfold isRange at h
  split at h
  · rename_i s p ys pos
    cases q : cc.glob s with
    | none => rw [q] at h; cases h
    | some v =>
      rw [q] at h
      split at h
      · rename_i e
        cases e
        cases h
        obtain ⟨hg, ⟨hm, y, hy, rfl⟩, hp⟩ := glob_ok ok q
        cases hy
        exact ⟨p, pos, rfl, hg, hm⟩
      · cases h
  · cases h
theorem cBi1_ok (ih : IHe F g) (ok : Ok X cc g) {f : Str} {b : Nat} {y : String} {a : Ex} {m : E} {p pos : Pos} (hg : Gl X f) (hm : X.mg f = none) (hp : plainN f = true) (hy : biNames[b]? = some y) (hf : f = Str.ofString y) (h : cBi1 F cc b a = some m) : PE X (.Call (.Name f p) [a] [] pos) (RE g m) := by
  subst hf
  unfold cBi1 at h
  split at h
  · rename_i x hr
    cases hy
    obtain ⟨p2, pos2, rfl, rg, rm⟩ := isRange_ok ok hr
    obtain ⟨z, h1, rfl⟩ := cUn_some h
    have hx := (ih X cc ok x z h1).1
    have hn := (ih X cc ok x z h1).2.2.1
    exact PE.of (pe_listRg ok.calm hg hm (prg_1 rg rm hx (star1 hn)) rfl) fun σ H Q q => q.op1.mono fun v H1 q => by
      obtain ⟨n, e, r, q⟩ := ko_lrg1 q
      exact ⟨n, e, r, q⟩
  · rename_i x z hr
    cases hy
    obtain ⟨p2, pos2, rfl, rg, rm⟩ := isRange_ok ok hr
    obtain ⟨u, w, h1, h2, rfl⟩ := cBin_some h
    have hx := (ih X cc ok x u h1).1
    have hz := (ih X cc ok z w h2).1
    have hn := (ih X cc ok x u h1).2.2.1
    have hn2 := (ih X cc ok z w h2).2.2.1
    exact PE.of (pe_listRg ok.calm hg hm (prg_2 rg rm hx hz (star1 hn) (star1 hn2) (plain_back (by simp [hn2]))) rfl) fun σ H Q q => q.op2.mono fun v H1 q => q.mono fun u H2 q => by
      obtain ⟨i, j, e1, e2, r, q⟩ := ko_lrg2 q
      exact ⟨i, j, e1, e2, r, q⟩
  · cases h
  · cases h
  · cases q : biOp _ 1 with
    | none => rw [q] at h; cases h
    | some o =>
      rw [q] at h
      obtain ⟨z, h1, rfl⟩ := cUn_some h
      have hn := (ih X cc ok a z h1).2.2.1
      exact pe_bi (bi_call ok hy q) hg hm hp (PA.of (pa_cons (ih X cc ok a z h1).1 pa_nil (star1 hn)) fun σ H Q q => (RA.cons q).mono fun _ _ q => q.nil) (by simp [hn])
end
end Ev
end
section
set_option linter.all false
set_option maxRecDepth 100000
namespace Ev
open PySem PySem.Spec PyProof.Rows L2
section
variable {X : Cx} {cc : CC} {g : Gh} {σ : L2.St} {H : Hp} {F : CC → Ex → Option E}

theorem cCallB_ok (ih : IHe F g) (ok : Ok X cc g) {f : Str} {b : Nat} {args : List Ex} {m : E} {p pos : Pos} (hq : cc.glob f = some (.bi b)) (h : cCallB F cc b args = some m) : PE X (.Call (.Name f p) args [] pos) (RE g m) := by
  obtain ⟨hg, ⟨hm, y, hy, hf⟩, hp⟩ := glob_ok ok hq
  match args, h with
  | [], h => cases h
  | [a], h => exact cBi1_ok ih ok hg hm hp hy hf h
  | _ :: _ :: _ :: _, h => cases h
  | [a, t], h =>
    have h0 : (if b = 16 then (match F cc a, cTypes cc t with
      | some x, some ts => some (E.op (.isi ts) (.cons x .nil))
      | _, _ => none) else match biOp b 2 with
      | some o => cBin F cc o a t
      | none => none) = some m := h
    by_cases hb : b = 16
    · rw [if_pos hb] at h0
      subst hb
      cases hy
      cases h1 : F cc a with
      | none => rw [h1] at h0; cases h0
      | some x =>
        rw [h1] at h0
        cases h2 : cTypes cc t with
        | none => rw [h2] at h0; cases h0
        | some ts =>
          rw [h2] at h0
          cases h0
          obtain ⟨pa, _, hn, _⟩ := ih X cc ok a x h1
          exact cTypes_ok ok hf hg hm hp pa hn h2
    · rw [if_neg hb] at h0
      cases q : biOp b 2 with
      | none => rw [q] at h0; cases h0
      | some o =>
        rw [q] at h0
        obtain ⟨x, z, h1, h2, rfl⟩ := cBin_some h0
        obtain ⟨pa, _, hn, _⟩ := ih X cc ok a x h1
        obtain ⟨pb, _, hn2, _⟩ := ih X cc ok t z h2
        subst hf
        exact pe_bi (bi_call ok hy q) hg hm hp (PA.of (pa_cons pa (pa_cons pb pa_nil (star1 hn2)) (star1 hn)) fun σ H Q q => (RA.cons q).mono fun _ _ q => (RA.cons q).mono fun _ _ q => q.nil) (by simp [hn, hn2])
theorem spN_wish {fa : Nat → Addr} {K : PySem.W.Frag} {ex : Nat → List D → Value → Option Addr → Hp → Prop} {ev : List D → CR} {vs : List V} {Q : VK} {E E' : XK} (h : spN fa K ex ev vs H Q E) (k : ∀ c d H, E c d H → E' c d H) : spN fa K ex ev vs H Q E' := by
  obtain ⟨G, ds, s, dd, h⟩ := h
  refine ⟨G, ds, s, dd, ?_⟩
  cases q : ev ds with
  | ok d fr io => rw [q] at h; exact h
  | exc k' a io => rw [q] at h; exact fun cls d H' G' x y => k _ _ _ (h cls d H' G' x y)
  | stuck => rw [q] at h; exact h
theorem spI_wish {fa : Nat → Addr} {K : PySem.W.Frag} {ex : Nat → List D → Value → Option Addr → Hp → Prop} {ev : List D → CR} {vs : List V} {Q : VK} {E E' : XK} (h : spI fa K ex ev vs H Q E) (k : ∀ c d H, E c d H → E' c d H) : spI fa K ex ev vs H Q E' := by
  obtain ⟨G, a, ws, us, xs, ds, e, s, h1, h2, h3, dd, h⟩ := h
  refine ⟨G, a, ws, us, xs, ds, e, s, h1, h2, h3, dd, ?_⟩
  cases q : ev (.lst xs :: ds) with
  | ok d fr io => rw [q] at h; exact h
  | exc k' x io => rw [q] at h; exact fun cls d H' G' ws' y z w u => k _ _ _ (h cls d H' G' ws' y z w u)
  | stuck => rw [q] at h; exact h
theorem passF : Passes (L2.CX X.prog X.w) X (fun _ _ _ => False) := fun pins σ H s e s' I ⟨_, _, _, _, _, _, _, _, _, _, _, _, h⟩ => h.elim
theorem cCallN_ok (ih : IHe F g) (ok : Ok X cc g) {f : Str} {args : List Ex} {m : E} {p pos : Pos} (h : cCallN F cc f args = some m) : PE X (.Call (.Name f p) args [] pos) (RE g m) := by
  unfold cCallN at h
  cases q : cc.glob f with
  | none => rw [q] at h; cases h
  | some v =>
    rw [q] at h
    cases v with
    | bi b => exact cCallB_ok ih ok q h
    | cst d => cases h
    | exc k => cases h
    | fn k =>
      obtain ⟨hg, ⟨hm, hk, fd, ps, n, FO, room, bind⟩, hp⟩ := glob_ok ok q
      obtain ⟨p1, p2, p3⟩ := plainN_ok hp
      have h : (if cc.ioF k = true then cIo F cc k args else (cEs F cc args).map fun a => E.call k a) = some m := h
      by_cases hi : cc.ioF k = true
      · rw [if_pos hi] at h
        have hi' : g.C.io k = true := by rw [← ok.io]; exact hi
        have sp : spF g k = spI g.fa g.K g.ex (g.C.call k) := by unfold spF; rw [if_pos hi']
        rw [sp] at FO
        match args, h with
        | [], h => cases h
        | a :: rest, h =>
          obtain ⟨x, px, rfl⟩ : ∃ x px, a = .Name x px := by
            cases a <;> first | exact ⟨_, _, rfl⟩ | cases h
          replace h : (match cc.slot x, cEs F cc rest with | some i, some a => some (E.io k i a) | _, _ => none) = some m := h
          cases q1 : cc.slot x with
          | none => rw [q1] at h; cases h
          | some i =>
            rw [q1] at h
            cases q2 : cEs F cc rest with
            | none => rw [q2] at h; cases h
            | some a =>
              rw [q2] at h
              cases h
              have pl := cEs_plain q2
              refine PE.of (pe_call (E := fun _ _ _ => False) FO room hg hm hk bind .nil passF (pa_cons (pe_slot ok q1) (pa_ok ih ok q2) rfl) p1 rfl (plain_back pl)) fun σ H Q r => ?_
              obtain ⟨v, h1, h2⟩ := r.ioc
              exact ⟨v, h1, h2.mono fun vs H1 ⟨_, q⟩ => by
                show spI g.fa g.K g.ex (g.C.call k) ((v :: vs) ++ []) H1 Q fun _ _ _ => False
                rw [List.append_nil]
                exact spI_wish q fun c d H' z => ok.wno _ _ _ _ z⟩
      · rw [if_neg hi] at h
        have hi' : ¬ g.C.io k = true := by rw [← ok.io]; exact hi
        have sp : spF g k = spN g.fa g.K g.ex (g.C.call k) := by unfold spF; rw [if_neg hi']
        rw [sp] at FO
        cases q2 : cEs F cc args with
        | none => rw [q2] at h; cases h
        | some a =>
          rw [q2] at h
          cases h
          have pl := cEs_plain q2
          match args, q2, pl with
          | [], q2, _ =>
            cases q2
            refine PE.of (pe_call0 (E := fun _ _ _ => False) FO room hg hm hk bind .nil passF p1) fun σ H Q r => ?_
            exact spN_wish (r.call.nil).2 fun c d H' z => ok.wno _ _ _ _ z
          | e :: es, q2, pl =>
            refine PE.of (pe_call (E := fun _ _ _ => False) FO room hg hm hk bind .nil passF (pa_ok ih ok q2) p1 (star1 (pl e List.mem_cons_self)) (plain_back fun z hz => pl z (List.mem_cons_of_mem _ hz))) fun σ H Q r => ?_
            exact r.call.mono fun vs H1 ⟨_, q⟩ => by
              rw [List.append_nil]
              exact spN_wish q fun c d H' z => ok.wno _ _ _ _ z

theorem base_ok {o : Expr} {m : Str} {env : PySem.Env} {w : Sem Value} (h : noSup o = true) : attributeBase o m env w = w := by
  unfold attributeBase
  split
  · cases h
  · rfl
theorem mt_ty {k : Nat} {o : Op} {d : D} (h : mtOk o d = true) (hk : kindD d = k) : (o = .index ∧ k = 3) ∨ (o = .index ∧ k = 4) ∨ (o = .count ∧ k = 3) ∨ (o = .count ∧ k = 4) ∨ (o = .split ∧ k = 2) ∨ (o = .join ∧ k = 2) := by
  unfold mtOk at h
  rw [hk] at h
  split at h <;> first | simp | cases h
theorem cMeth_ok (ih : IHe F g) (ok : Ok X cc g) {o : Ex} {nm : Str} {args : List Ex} {m : E} {ap cp : Pos} (h : cMeth F cc o nm args (ap.endLine == cp.line) = some m) : PE X (.Call (.Attribute o nm ap) args [] cp) (RE g m) := by
  unfold cMeth at h
  by_cases hc : (ap.endLine == cp.line) = true ∧ noSup o = true ∧ args.length < 20
  · rw [if_pos hc] at h
    obtain ⟨hline, hsup, hlen⟩ := hc
    cases q0 : mtOp nm args.length with
    | none => rw [q0] at h; cases h
    | some op =>
      rw [q0] at h
      cases q1 : F cc o with
      | none => rw [q1] at h; cases h
      | some x =>
        rw [q1] at h
        cases q2 : cEs F cc args with
        | none => rw [q2] at h; cases h
        | some a =>
          rw [q2] at h
          cases h
          have pl := cEs_plain q2
          have po := (ih X cc ok o x q1).1
          have pa := pa_ok ih ok q2
          have hnm : (op = .count ∧ nm = Str.ofString "count") ∨ (op = .index ∧ nm = Str.ofString "index") := by
            unfold mtOp at q0
            split at q0
            · rename_i e; cases q0; exact .inl ⟨rfl, LawfulBEq.eq_of_beq e.1⟩
            · split at q0
              · rename_i e; cases q0; exact .inr ⟨rfl, LawfulBEq.eq_of_beq e.1⟩
              · cases q0
          refine ⟨fun pins s σ H Q I hq => ?_⟩
          have hfew : ((backTo cp (starEach args X.env)).all (fun x => !x.1) && (backToKw cp (keywordEach [] X.env)).all (fun x => x.1.isSome)
              && decide (args.length + ([] : List Keyword).length + (if ([] : List Keyword).isEmpty then 0 else 1) < 30)) = true := by
            rw [plain_all pl]
            show (true && true && decide (args.length + 0 + 0 < 30)) = true
            simp only [Bool.and_self, Bool.true_and]
            exact decide_eq_true (by omega)
          refine wpAny_Call_method_late (base_ok hsup) hfew hline rfl (thn (po.run pins s σ H _ I hq.meth) fun v s1 ⟨vx, H1, I1, r1, k, ⟨G, d, sp, wd, hk, mk⟩, ra⟩ => ?_)
          have args_run : ∀ (id : String), MtR X id (KM g op k) → wpAny (model X.prog X.w) X.A (callWith cp (.builtin id) [v] (backTo cp (starEach args X.env)) []) (EP X pins σ Q) X.xe s1 := fun id hm => by
            have hA := pa.run cp pins s1 σ H1 _ I1 ra
            have hb := plain_back (env := X.env) (pos := cp) pl
            have hne : args ≠ [] := fun e => by
              rw [e] at q0
              unfold mtOp at q0
              split at q0
              · rename_i z; cases z.2
              · split at q0
                · rename_i z; cases z.2
                · cases q0
            obtain ⟨e0, es0, rfl⟩ : ∃ e0 es0, args = e0 :: es0 := by
              cases args with
              | nil => exact absurd rfl hne
              | cons a b => exact ⟨a, b, rfl⟩
            rw [star1 (pl e0 List.mem_cons_self)] at hA hb ⊢
            refine Calls.callWith_builtin hb (Calls.evalArgs_plain ?_)
            exact thn hA fun us s2 ⟨vs, H2, I2, r2, q2⟩ => hm pins s2 σ H2 vx vs v us Q I2 r1 r2 q2
          have lst_ty : k = 3 → s1.TypeIs v "list" ∧ ∀ a, v = .ref a → ∃ ob, s1.heap.get? a = some ob ∧ ob.dict = none := fun e => by
            obtain ⟨ds, rfl⟩ := kind3 (hk.trans e)
            obtain ⟨a, vs, rfl, h1, _⟩ := wd.lst sp
            exact tyV_is I1 r1 (.inl ⟨rfl, vs, .inl (.inl h1)⟩)
          have tup_ty : k = 4 → s1.TypeIs v "tuple" ∧ ∀ a, v = .ref a → ∃ ob, s1.heap.get? a = some ob ∧ ob.dict = none := fun e => by
            obtain ⟨ds, rfl⟩ := kind4 (hk.trans e)
            obtain ⟨a, vs, rfl, h1, _⟩ := wd.tup sp
            cases r1
            rw [← ok.K] at h1
            obtain ⟨ob, its, n, e1, e2, e3, _⟩ := tup_obj I1 h1
            exact ⟨⟨ob, e1, e2⟩, fun a e => by cases e; exact ⟨ob, e1, e3⟩⟩
          rcases mt_ty mk hk with ⟨rfl, e⟩ | ⟨rfl, e⟩ | ⟨rfl, e⟩ | ⟨rfl, e⟩ | ⟨rfl, e⟩ | ⟨rfl, e⟩
          · obtain ⟨t1, t2⟩ := lst_ty e
            obtain ⟨z, _⟩ | ⟨_, rfl⟩ := hnm
            · cases z
            · rw [e] at args_run
              exact ⟨"list", _, PySem.F.plainAttrs_list, PySem.F.slot_list_index, rfl, t1, t2, args_run _ (mt_index3 ok.K ok.room)⟩
          · obtain ⟨t1, t2⟩ := tup_ty e
            obtain ⟨z, _⟩ | ⟨_, rfl⟩ := hnm
            · cases z
            · rw [e] at args_run
              exact ⟨"tuple", _, PySem.F.plainAttrs_tuple, PySem.F.slot_tuple_index, rfl, t1, t2, args_run _ (mt_index4 ok.K ok.room)⟩
          · obtain ⟨t1, t2⟩ := lst_ty e
            obtain ⟨_, rfl⟩ | ⟨z, _⟩ := hnm
            · rw [e] at args_run
              exact ⟨"list", _, PySem.F.plainAttrs_list, PySem.F.slot_list_count, rfl, t1, t2, args_run _ (mt_count3 ok.K ok.room)⟩
            · cases z
          · obtain ⟨t1, t2⟩ := tup_ty e
            obtain ⟨_, rfl⟩ | ⟨z, _⟩ := hnm
            · rw [e] at args_run
              exact ⟨"tuple", _, PySem.F.plainAttrs_tuple, PySem.F.slot_tuple_count, rfl, t1, t2, args_run _ (mt_count4 ok.K ok.room)⟩
            · cases z
          · rcases hnm with ⟨z, _⟩ | ⟨z, _⟩ <;> cases z
          · rcases hnm with ⟨z, _⟩ | ⟨z, _⟩ <;> cases z
  · rw [if_neg hc] at h; cases h
end
end Ev
end
section
set_option linter.all false
set_option maxRecDepth 100000
namespace Ev
open PySem PySem.Spec PyProof.Rows L2
section
variable {X : Cx} {cc : CC} {g : Gh} {σ : L2.St} {H : Hp} {F : CC → Ex → Option E}

theorem cBool_some {o : BoolOp} {e e2 : Ex} {es : List Ex} {m : E} (h : cBool F cc o (e :: e2 :: es) = some m) : ∃ x a, F cc e = some x ∧ cBool F cc o (e2 :: es) = some a ∧ m = bMk o ((e2 :: es).any isLst) x a := by
  have h0 : (match F cc e, cBool F cc o (e2 :: es) with
    | some x, some a => some (bMk o ((e2 :: es).any isLst) x a)
    | _, _ => none) = some m := h
  cases q1 : F cc e with
  | none => rw [q1] at h0; cases h0
  | some x =>
    rw [q1] at h0
    cases q2 : cBool F cc o (e2 :: es) with
    | none => rw [q2] at h0; cases h0
    | some a => rw [q2] at h0; cases h0; exact ⟨x, a, rfl, rfl, rfl⟩
theorem cBool_ok (ih : IHe F g) (ok : Ok X cc g) {o : BoolOp} {p : Pos} : ∀ {es : List Ex} {m : E}, cBool F cc o es = some m → PE X (.BoolOp o es p) (RE g m) ∧ (tstOk.tstAll es = true → es.any isLst = false → PW X (.BoolOp o es p) (RT g m))
  | [], m, h => by cases h
  | [e], m, h => by
    have h : F cc e = some m := h
    obtain ⟨pe, pt, _⟩ := ih X cc ok e m h
    refine ⟨pe_one pe, fun ht _ => ?_⟩
    have ht : tstOk e = true := by
      have : (tstOk e && true) = true := ht
      simpa using this
    cases o with
    | And => exact pw_and1 (pt ht)
    | Or => exact pw_or1 (pt ht)
  | e :: e2 :: es, m, h => by
    obtain ⟨x, a, h1, h2, rfl⟩ := cBool_some h
    obtain ⟨pe, pt, _⟩ := ih X cc ok e x h1
    obtain ⟨pes, pws⟩ := cBool_ok ih ok (p := p) h2
    have tst : tstOk.tstAll (e :: e2 :: es) = true → tstOk e = true ∧ tstOk.tstAll (e2 :: es) = true := fun ht => by
      have ht : (tstOk e && tstOk.tstAll (e2 :: es)) = true := ht
      exact Bool.and_eq_true_iff.mp ht
    have nol : (e :: e2 :: es).any isLst = false → (e2 :: es).any isLst = false := fun hl => by
      rw [List.any_cons, Bool.or_eq_false_iff] at hl
      exact hl.2
    cases o with
    | And =>
      refine ⟨PE.of (pe_and pe pes) fun σ H Q q => q.and, fun ht hl => ?_⟩
      obtain ⟨t1, t2⟩ := tst ht
      exact PW.of (pw_and (pt t1) (pws t2 (nol hl))) fun σ H Q q => RT.and q
    | Or =>
      by_cases hl : (e2 :: es).any isLst = true
      · show PE X _ (RE g (if (e2 :: es).any isLst = true then .orL x a else .or x a)) ∧ _
        rw [if_pos hl]
        refine ⟨PE.of (pe_orT pe pes) fun σ H Q q => by rw [ok.K]; exact q.orL, fun _ hn => ?_⟩
        rw [nol hn] at hl
        cases hl
      · show PE X _ (RE g (if (e2 :: es).any isLst = true then .orL x a else .or x a)) ∧ (_ → _ → PW X _ (RT g (if (e2 :: es).any isLst = true then .orL x a else .or x a)))
        rw [if_neg hl]
        refine ⟨PE.of (pe_or pe pes) fun σ H Q q => q.or, fun ht hn => ?_⟩
        obtain ⟨t1, t2⟩ := tst ht
        exact PW.of (pw_or (pt t1) (pws t2 (nol hn))) fun σ H Q q => RT.or q

theorem resO_cut (a b : Bool) (d : D) : resO (.cut a b) d = resO .len d := by cases d <;> rfl
theorem ks_of1 {v : V} {Q : VK} (h : KO g (.cut false false) [v] H Q) : KS g none none v H Q := by
  obtain ⟨G, ds, d, sp, vw, e, q⟩ := h
  obtain ⟨dx, rfl, e'⟩ := opSem1 (fun _ _ => rfl) (fun _ _ _ => rfl) e
  obtain ⟨x, ex, wx⟩ := vws1 vw
  cases ex
  exact ⟨G, dx, d, sp, wx, e', fun w H' G' gr rv => q w H' G' gr (by rw [resO_cut]; exact rv)⟩
theorem ks_of2 {v u : V} {Q : VK} (h : KO g (.cut true false) [v, u] H Q) : ∃ i, u = .int i ∧ KS g (some i) none v H Q := by
  obtain ⟨G, ds, d, sp, vw, e, q⟩ := h
  obtain ⟨dx, dy, rfl, e'⟩ := opSem2 (fun _ => rfl) (fun _ _ _ => rfl) e
  obtain ⟨x, y, ex, wx, wy⟩ := vws2 vw
  cases ex
  replace e := e'
  clear e'
  cases dy <;> first | exact noS e | skip
  exact ⟨_, wy.int, G, dx, d, sp, wx, e, fun w H' G' gr rv => q w H' G' gr (by rw [resO_cut]; exact rv)⟩
theorem ks_of3 {v u : V} {Q : VK} (h : KO g (.cut false true) [v, u] H Q) : ∃ i, u = .int i ∧ KS g none (some i) v H Q := by
  obtain ⟨G, ds, d, sp, vw, e, q⟩ := h
  obtain ⟨dx, dy, rfl, e'⟩ := opSem2 (fun _ => rfl) (fun _ _ _ => rfl) e
  obtain ⟨x, y, ex, wx, wy⟩ := vws2 vw
  cases ex
  replace e := e'
  clear e'
  cases dy <;> first | exact noS e | skip
  exact ⟨_, wy.int, G, dx, d, sp, wx, e, fun w H' G' gr rv => q w H' G' gr (by rw [resO_cut]; exact rv)⟩
theorem rev_of {v : V} {Q : VK} (h : KO g .rev [v] H Q) : ∃ a xs, v = .ref a ∧ SqL g.K H a xs ∧ ∀ p, H p = none → Q (.ref p) (upd H p (.lst xs.reverse)) := by
  obtain ⟨G, ds, d, sp, vw, e, q⟩ := h
  obtain ⟨dx, rfl, e'⟩ := opSem1 (fun _ _ => rfl) (fun _ _ _ => rfl) e
  obtain ⟨x, ex, wx⟩ := vws1 vw
  cases ex
  replace e := e'
  clear e'
  cases dx <;> first | exact noS e | skip
  cases e
  obtain ⟨a, vs, rfl, h1, dd⟩ := wx.lstL sp
  exact ⟨a, vs, rfl, h1, fun p hp => KO.newL q sp rfl dd.reverse hp⟩
theorem cSlice_ok (ih : IHe F g) (ok : Ok X cc g) {v : Ex} {lo hi st : Option Ex} {m : E} {p p2 : Pos} (h : cSlice F cc v lo hi st = some m) : PE X (.Subscript v (.Slice lo hi st p2) p) (RE g m) := by
  unfold cSlice at h
  cases st with
  | some s =>
    have h0 : (if (isM1 s && lo.isNone && hi.isNone) = true then cUn F cc .rev v else none) = some m := h
    by_cases hc : (isM1 s && lo.isNone && hi.isNone) = true
    · rw [if_pos hc] at h0
      rw [Bool.and_eq_true, Bool.and_eq_true] at hc
      obtain ⟨⟨c1, c2⟩, c3⟩ := hc
      obtain rfl : lo = none := by cases lo <;> first | rfl | cases c2
      obtain rfl : hi = none := by cases hi <;> first | rfl | cases c3
      obtain ⟨x, h1, rfl⟩ := cUn_some h0
      have pv := (ih X cc ok v x h1).1
      unfold isM1 at c1
      split at c1
      · exact PE.of (pe_revL pv) fun σ H Q q => by
          rw [ok.K]
          exact q.op1.mono fun v H1 q => rev_of q
      · cases c1
    · rw [if_neg hc] at h0; cases h0
  | none =>
    cases lo with
    | none =>
      cases hi with
      | none =>
        obtain ⟨x, h1, rfl⟩ := cUn_some h
        have pv := (ih X cc ok v x h1).1
        exact PE.of (pe_slice (ks_slice ok.K) pv po_none po_none) fun σ H Q q => q.op1.mono fun v H1 q => ks_of1 q
      | some b =>
        obtain ⟨x, y, h1, h2, rfl⟩ := cBin_some h
        have pv := (ih X cc ok v x h1).1
        have pb := (ih X cc ok b y h2).1
        exact PE.of (pe_slice (ks_slice ok.K) pv po_none (po_some pb)) fun σ H Q q => q.op2.mono fun v H1 q => q.mono fun u H2 q => ks_of3 q
    | some a =>
      cases hi with
      | none =>
        obtain ⟨x, y, h1, h2, rfl⟩ := cBin_some h
        have pv := (ih X cc ok v x h1).1
        have pa := (ih X cc ok a y h2).1
        exact PE.of (pe_slice (ks_slice ok.K) pv (po_some pa) po_none) fun σ H Q q => q.op2.mono fun v H1 q => q.mono fun u H2 q => ks_of2 q
      | some b =>
        have h : (match F cc v, F cc a, F cc b with
          | some x, some a, some b => some (E.cut2 x a b)
          | _, _, _ => none) = some m := h
        cases q1 : F cc v with
        | none => rw [q1] at h; cases h
        | some x =>
          cases q2 : F cc a with
          | none => rw [q1, q2] at h; cases h
          | some y =>
            cases q3 : F cc b with
            | none => rw [q1, q2, q3] at h; cases h
            | some z =>
              rw [q1, q2, q3] at h
              cases h
              exact PE.of (pe_slice (ks_slice ok.K) (ih X cc ok v x q1).1 (po_some (ih X cc ok a y q2).1) (po_some (ih X cc ok b z q3).1)) fun σ H Q q => q.cut2
theorem cSub_ok (ih : IHe F g) (ok : Ok X cc g) {v i : Ex} {m : E} {p : Pos} (h : cSub F cc v i = some m) : PE X (.Subscript v i p) (RE g m) := by
  have gen : PlainIx i → cBin F cc .ix v i = some m → PE X (.Subscript v i p) (RE g m) := fun hp h => by
    obtain ⟨x, y, h1, h2, rfl⟩ := cBin_some h
    exact PE.of (pe_ix (ko_ix ok.K) (ih X cc ok v x h1).1 (ih X cc ok i y h2).1 hp) fun σ H Q q => op2_re q
  cases i with
  | Slice lo hi st p2 => exact cSlice_ok ih ok h
  | _ => exact gen (fun _ _ => rfl) h

theorem cNames_pgs (ok : Ok X cc g) : ∀ {es : List Ex} {is : List Nat}, cNames cc.dest es = some is → PGs X es (gNames is) ∧ (assignEach es X.env).length = is.length ∧ (assignEach es X.env).findIdx? (·.1) = none
  | [], is, h => by cases h; exact ⟨pgs_nil, rfl, rfl⟩
  | e :: es, is, h => by
    cases e with
    | Name x p =>
      have h : (match cc.dest x, cNames cc.dest es with | some i, some l => some (i :: l) | _, _ => none) = some is := h
      cases q1 : cc.dest x with
      | none => rw [q1] at h; cases h
      | some i =>
        rw [q1] at h
        cases q2 : cNames cc.dest es with
        | none => rw [q2] at h; cases h
        | some l =>
          rw [q2] at h
          cases h
          obtain ⟨h1, h2, h3⟩ := cNames_pgs ok q2
          obtain ⟨d1, d2, d3, _⟩ := dest_ok ok q1
          refine ⟨pgs_cons (pg_name ok.nd d1 d2 d3) h1 rfl, ?_, ?_⟩
          · show (assignEach es X.env).length + 1 = _
            rw [h2]; rfl
          · show ((false, assign (.Name x p) X.env) :: assignEach es X.env).findIdx? (·.1) = none
            rw [List.findIdx?_cons, h3]
            rfl
    | _ => cases h
theorem cTarget_ok (ok : Ok X cc g) {tg : Ex} {t : T} (h : cTarget cc tg = some t) : PG X tg (RG g t) := by
  cases tg with
  | Name x p =>
    have h : (cc.dest x).map T.nm = some t := h
    cases q : cc.dest x with
    | none => rw [q] at h; cases h
    | some i =>
      rw [q] at h
      cases h
      obtain ⟨d1, d2, d3, _⟩ := dest_ok ok q
      refine ⟨fun pins s σ H v u Q I r hq => ?_⟩
      obtain ⟨G, d, _, _, hq⟩ := hq
      exact (pg_name ok.nd d1 d2 d3).run pins s σ H v u Q I r hq
  | Tuple es k p =>
    have h : (cNames cc.dest es).map T.tu = some t := h
    cases q : cNames cc.dest es with
    | none => rw [q] at h; cases h
    | some is =>
      rw [q] at h
      cases h
      obtain ⟨h1, h2, h3⟩ := cNames_pgs ok q
      refine ⟨fun pins s σ H v u Q I r hq => ?_⟩
      obtain ⟨G, d, sp, hd, ds, hs, hl, hq⟩ := hq
      have tup : (∃ a vs, v = .ref a ∧ SqT g.K H a vs ∧ DgAll g.fa g.K G vs ds) → wpAny (model X.prog X.w) X.A (assign (.Tuple es k p) X.env u) (fun _ s' => ∃ σ' H', Inv X pins σ' H' s' ∧ Q σ' H') X.xe s := fun ⟨a, vs, e, k1, k2⟩ => by
        rw [← ok.K] at k1
        exact (pg_tup ok.calm h1 h2 h3).run pins s σ H v u Q I r ⟨a, vs, e, k1, by rw [k2.length, hl], gNames_ok (by rw [k2.length, hl]) (hq vs k2)⟩
      rcases hd with hd | ⟨a, vs, es', e, rfl, k1, k2⟩
      · cases hd with
        | tup k1 k2 => cases hs; exact tup ⟨_, _, rfl, sp.seqT k1.seqT, k2⟩
        | lst k1 k2 =>
          cases hs
          have k1' : SqL X.K H _ _ := .inl (.inl (sp.lst _ _ k1))
          exact (pg_lst ok.calm h1 h2 h3).run pins s σ H _ u Q I r ⟨_, _, rfl, k1', by rw [k2.length, hl], gNames_ok (by rw [k2.length, hl]) (hq _ k2)⟩
        | _ => cases hs
      · cases hs
        exact tup ⟨a, vs, e, sp.seqT k1, k2⟩
  | _ => cases h

theorem noSet_fold {it : Expr} {env : PySem.Env} {x : Value} (h : noSet it = true) : foldedSetIterable it env x = pure x := by
  cases it <;> first | rfl | cases h
theorem cI_ok (ih : IHe F g) (ok : Ok X cc g) {tg it : Ex} {k : IK} {m : E} (hk : pairK k = true → ∃ es kk p, tg = .Tuple es kk p) (h : cI F cc it = some (k, m)) : PI X tg it (RI g k m) ∧ noSet it = true := by
  have gen : (F cc it).map (fun x => (IK.seq, E.cons x .nil)) = some (k, m) → PI X tg it (RI g k m) ∧ noSet it = true := fun h => by
    cases q : F cc it with
    | none => rw [q] at h; cases h
    | some x =>
      rw [q] at h
      cases h
      obtain ⟨pe, _, _, hs⟩ := ih X cc ok it x q
      exact ⟨pi_seq ok.K pe, hs⟩
  unfold cI at h
  split at h
  · rename_i f pf args pos
    unfold cIName at h
    cases q : cc.glob f with
    | none => rw [q] at h; exact gen h
    | some v =>
      rw [q] at h
      cases v with
      | bi b =>
        obtain ⟨hg, ⟨hm, y, hy, hf⟩, hp⟩ := glob_ok ok q
        have h0 : (if isIb b = true then cIb F cc b args else (F cc (.Call (.Name f pf) args [] pos)).map fun x => (IK.seq, E.cons x .nil)) = some (k, m) := h
        by_cases hi : isIb b = true
        · rw [if_pos hi] at h0
          match args, h0 with
          | [], h0 => cases h0
          | _ :: _ :: _ :: _, h0 => cases h0
          | [a], h0 =>
            have h1 : (if b = 12 then (cEs F cc [a]).map fun x => (IK.rg1, x) else if b = 13 then (cEs F cc [a]).map fun x => (IK.enum, x) else none) = some (k, m) := h0
            by_cases hb : b = 12
            · rw [if_pos hb] at h1
              subst hb
              cases hy
              subst hf
              cases q2 : cEs F cc [a] with
              | none => rw [q2] at h1; cases h1
              | some x =>
                rw [q2] at h1
                cases h1
                have pl := cEs_plain q2
                exact ⟨pi_rg1 hg hm (pa_ok ih ok q2) (star1 (pl _ (by simp))), rfl⟩
            · rw [if_neg hb] at h1
              by_cases hb : b = 13
              · rw [if_pos hb] at h1
                subst hb
                cases hy
                subst hf
                cases q2 : cEs F cc [a] with
                | none => rw [q2] at h1; cases h1
                | some x =>
                  rw [q2] at h1
                  cases h1
                  have pl := cEs_plain q2
                  obtain ⟨es, kk, p, rfl⟩ := hk rfl
                  exact ⟨pi_en ok.K hg hm (pa_ok ih ok q2) (star1 (pl _ (by simp))), rfl⟩
              · rw [if_neg hb] at h1; cases h1
          | [a, b2], h0 =>
            have h1 : (if b = 12 then (cEs F cc [a, b2]).map fun x => (IK.rg2, x) else if b = 14 then (cEs F cc [a, b2]).map fun x => (IK.zip2, x) else none) = some (k, m) := h0
            by_cases hb : b = 12
            · rw [if_pos hb] at h1
              subst hb
              cases hy
              subst hf
              cases q2 : cEs F cc [a, b2] with
              | none => rw [q2] at h1; cases h1
              | some x =>
                rw [q2] at h1
                cases h1
                have pl := cEs_plain q2
                have s2 := star1 (es := []) (env := X.env) (pl b2 (by simp))
                exact ⟨pi_rg2 hg hm (pa_ok ih ok q2) (by rw [star1 (pl a (by simp)), s2]; rfl) s2, rfl⟩
            · rw [if_neg hb] at h1
              by_cases hb : b = 14
              · rw [if_pos hb] at h1
                subst hb
                cases hy
                subst hf
                cases q2 : cEs F cc [a, b2] with
                | none => rw [q2] at h1; cases h1
                | some x =>
                  rw [q2] at h1
                  cases h1
                  have pl := cEs_plain q2
                  obtain ⟨es, kk, p, rfl⟩ := hk rfl
                  exact ⟨pi_zp ok.K hg hm (pa_ok ih ok q2) (star1 (pl a (by simp))) (plain_back fun z hz => pl z (by simp at hz; simp [hz])), rfl⟩
              · rw [if_neg hb] at h1; cases h1
        · rw [if_neg hi] at h0
          exact gen h0
      | _ => exact gen h
  · exact gen h
end
end Ev
end
section
set_option linter.all false
set_option maxRecDepth 100000
namespace Ev
open PySem PySem.Spec PyProof.Rows L2
section
variable {X : Cx} {cc : CC} {g : Gh} {σ : L2.St} {H : Hp} {F : CC → Ex → Option E}

theorem rel_scope (ok : Ok X cc g) (scope : Scope) : relabel scope X.env = relScope scope cc.sc := by
  unfold relabel relScope PySem.Env.kindOf
  rw [ok.sc]
theorem blk_ok (ok : Ok X cc g) (scope : Scope) (s : Shared) (H : Hp) (C : Addr) (cl : List (Str × Addr)) (fp : List Addr) : Ok (X.blk s H scope (compEnvC scope cl C X.env) fp) (cc.blk scope) g :=
  ⟨ok.N, rel_scope ok scope, ok.K, ok.calm, ok.nd, fun x v h => by
    have := ok.gl x v h
    cases v with
    | fn k => exact this
    | cst d => exact this
    | bi b => exact this
    | exc k => exact this, ok.io, ok.room, ok.wno, fun x h => h⟩
theorem idxS_none {x : Str} {N : List Str} : ∀ {k : Nat}, idxS x N k = none → x ∉ N := by
  induction N with
  | nil => intro k _ h; cases h
  | cons y r ih =>
    intro k h hm
    unfold idxS at h
    by_cases hx : (x == y) = true
    · rw [if_pos hx] at h; cases h
    · rw [if_neg hx] at h
      rcases List.mem_cons.mp hm with rfl | hm
      · exact hx (by simp)
      · exact ih h hm
theorem blkOk (ok : Ok X cc g) {scope : Scope} (h : blkOkB cc scope = true) : BlkOk X.N X.env.scope scope (ownOf cc.N scope) := by
  unfold blkOkB at h
  simp only [Bool.and_eq_true] at h
  obtain ⟨⟨h1, h2⟩, _⟩ := h
  have hall := List.all_eq_true.mp h2
  refine ⟨LawfulBEq.eq_of_beq h1, fun y hy => ?_, fun p hp => ?_, fun y hy he => ?_, fun y hy he => ?_⟩
  · have := hall y hy
    simp only [Bool.and_eq_true] at this
    exact LawfulBEq.eq_of_beq this.1
  · obtain ⟨⟨n, k⟩, hy, e⟩ := List.mem_filterMap.mp hp
    have key : (idxS n cc.N 0).map (fun i => (n, i)) = some p → X.N[p.2]? = some p.1 := fun e => by
      cases q : idxS n cc.N 0 with
      | none => rw [q] at e; cases e
      | some i =>
        rw [q] at e
        cases e
        obtain ⟨j, e1, e2⟩ := lookN q
        rw [Nat.zero_add] at e1
        subst e1
        rw [ok.N]; exact e2
    cases k <;> first | exact key e | cases e
  · have := hall y hy
    simp only [Bool.and_eq_true] at this
    have h3 := this.2
    rw [he] at h3
    rw [ok.sc]
    rcases Bool.or_eq_true_iff.mp h3 with z | z
    · exact .inl (LawfulBEq.eq_of_beq z)
    · exact .inr (LawfulBEq.eq_of_beq z)
  · have hm : ∀ i, idxS y.1 cc.N 0 = some i → y.1 ∈ (ownOf cc.N scope).map (·.1) := fun i hi => by
      refine List.mem_map.mpr ⟨(y.1, i), List.mem_filterMap.mpr ⟨y, hy, ?_⟩, rfl⟩
      obtain ⟨n, k⟩ := y
      rcases he with he | he
      · have he : k = .local := he
        subst he
        show (idxS n cc.N 0).map (fun i => (n, i)) = _
        rw [hi]; rfl
      · have he : k = .cell := he
        subst he
        show (idxS n cc.N 0).map (fun i => (n, i)) = _
        rw [hi]; rfl
    cases q : idxS y.1 cc.N 0 with
    | some i => exact .inl (hm i q)
    | none => exact .inr (by rw [ok.N]; exact idxS_none q)
theorem RT.cstT {Q : Bool → Hp → Prop} (h : RT g (.cst (.bl true)) σ H Q) : Q true H := by
  obtain ⟨F, G, io, env, r0, p⟩ := h
  exact p H G r0 (.refl F G env)
theorem cT_some {e : Ex} {m : E} (h : cT F cc e = some m) : tstOk e = true ∧ F cc e = some m := by
  unfold cT at h
  by_cases ht : tstOk e = true
  · rw [if_pos ht] at h; exact ⟨ht, h⟩
  · rw [if_neg ht] at h; cases h
theorem cIfs_ok (ih : IHe F g) (ok : Ok X cc g) {ifs : List Ex} {m : E} (h : cIfs F cc ifs = some m) : PTs X ifs (RT g m) := by
  match ifs, h with
  | [], h => cases h; exact ⟨fun pins s σ H Q I hq => pts_nil.run pins s σ H Q I (RT.cstT hq)⟩
  | [e], h =>
    obtain ⟨ht, h1⟩ := cT_some h
    exact pts_one ((ih X cc ok e m h1).2.1 ht)
  | _ :: _ :: _, h => cases h
theorem tIn_ok {t : T} {own : List Nat} (h : tIn t own = true) : ∀ i ∈ tSl t, i ∈ own := by
  cases t with
  | nm i =>
    intro j hj
    have : j = i := by simpa [tSl] using hj
    subst this
    simpa [tIn] using h
  | tu is =>
    intro j hj
    have h : is.all own.contains = true := h
    have := List.all_eq_true.mp h j hj
    simpa using this
theorem cTarget_tu {tg : Ex} {k : IK} {t : T} (h : cTarget cc tg = some t) (hp : pairOk k t = true) (hk : pairK k = true) : ∃ es kk p, tg = .Tuple es kk p := by
  cases tg with
  | Tuple es kk p => exact ⟨es, kk, p, rfl⟩
  | Name x p =>
    have h : (cc.dest x).map T.nm = some t := h
    cases q : cc.dest x with
    | none => rw [q] at h; cases h
    | some i =>
      rw [q] at h
      cases h
      simp [pairOk, hk, isTu] at hp
  | _ => cases h
structure Comp1 (F : CC → Ex → Option E) (cc : CC) (scope : Scope) (elt tg it : Ex) (ifs : List Ex) (m : E) where
  k : IK
  src : E
  t : T
  tst : E
  e : E
  blk : blkOkB cc scope = true
  hI : cI F cc it = some (k, src)
  hT : cTarget (cc.blk scope) tg = some t
  hC : cIfs F (cc.blk scope) ifs = some tst
  hE : F (cc.blk scope) elt = some e
  hi : tIn t ((ownOf cc.N scope).map (·.2)) = true
  hp : pairOk k t = true
  eq : m = .comp ((ownOf cc.N scope).map (·.2)) t k src tst e
theorem cComp1_some {scope : Scope} {elt tg it : Ex} {ifs : List Ex} {m : E} (h : cComp1 F cc scope elt tg it ifs = some m) : Nonempty (Comp1 F cc scope elt tg it ifs m) := by
  unfold cComp1 at h
  split at h
  · rename_i k src t tst e h1 h2 h3 h4 h5
    split at h
    · rename_i hc
      cases h
      exact ⟨⟨k, src, t, tst, e, h1, h2, h3, h4, h5, hc.1, hc.2, rfl⟩⟩
    · cases h
  · cases h
theorem comp1_ok (ih : IHe F g) (ok : Ok X cc g) {scope : Scope} {elt tg it : Ex} {ifs : List Ex} {m : E} {p : Pos} (c : Comp1 F cc scope elt tg it ifs m) : PE X (.ListComp elt [⟨tg, it, ifs, 0⟩] scope p) (RE g m) := by
  obtain ⟨k, src, t, tst, e, blk, hI, hT, hC, hE, hi, hp, rfl⟩ := c
  obtain ⟨pi, ns⟩ := cI_ok ih ok (tg := tg) (fun hk => cTarget_tu hT hp hk) hI
  exact PE.of (pe_lc ok.calm ok.nd pi (blkOk ok blk) (fun s H C cl fp => cTarget_ok (blk_ok ok scope s H C cl fp) hT) (fun s H C cl fp => cIfs_ok ih (blk_ok ok scope s H C cl fp) hC)
    (fun s H C cl fp => (ih _ _ (blk_ok ok scope s H C cl fp) elt e hE).1) (fun x => noSet_fold ns)) fun σ H Q q => q.comp hp (tIn_ok hi)
structure Comp2 (F : CC → Ex → Option E) (cc : CC) (scope : Scope) (elt tg it : Ex) (ifs : List Ex) (tg1 it1 : Ex) (ifs1 : List Ex) (m : E) where
  k : IK
  src : E
  t : T
  tst : E
  k1 : IK
  src1 : E
  t1 : T
  tst1 : E
  e : E
  blk : blkOkB cc scope = true
  hI : cI F cc it = some (k, src)
  hT : cTarget (cc.blk scope) tg = some t
  hC : cIfs F (cc.blk scope) ifs = some tst
  hI1 : cI F (cc.blk scope) it1 = some (k1, src1)
  hT1 : cTarget (cc.blk scope) tg1 = some t1
  hC1 : cIfs F (cc.blk scope) ifs1 = some tst1
  hE : F (cc.blk scope) elt = some e
  hi : tIn t ((ownOf cc.N scope).map (·.2)) = true
  hi1 : tIn t1 ((ownOf cc.N scope).map (·.2)) = true
  hp : pairOk k t = true
  hp1 : pairOk k1 t1 = true
  eq : m = .comp2 ((ownOf cc.N scope).map (·.2)) (tSlots t1) t k src tst t1 k1 src1 tst1 e
theorem cComp2_some {scope : Scope} {elt tg it : Ex} {ifs : List Ex} {tg1 it1 : Ex} {ifs1 : List Ex} {m : E} (h : cComp2 F cc scope elt tg it ifs tg1 it1 ifs1 = some m) : Nonempty (Comp2 F cc scope elt tg it ifs tg1 it1 ifs1 m) := by
  unfold cComp2 at h
  split at h
  · rename_i k src t tst k1 src1 h1 h2 h3 h4 h5
    split at h
    · rename_i t1 tst1 e h6 h7 h8
      split at h
      · rename_i hc
        cases h
        exact ⟨⟨k, src, t, tst, k1, src1, t1, tst1, e, h1, h2, h3, h4, h5, h6, h7, h8, hc.1, hc.2.1, hc.2.2.1, hc.2.2.2, rfl⟩⟩
      · cases h
    · cases h
  · cases h
theorem comp2_hv {t1 : T} {own : List Nat} (h : tIn t1 own = true) : ∀ i ∈ tSlots t1, i ∈ own := by
  have e : tSlots t1 = tSl t1 := by cases t1 <;> rfl
  rw [e]
  exact tIn_ok h
theorem comp2_ok (ih : IHe F g) (ok : Ok X cc g) {scope : Scope} {elt tg it : Ex} {ifs : List Ex} {tg1 it1 : Ex} {ifs1 : List Ex} {m : E} {p : Pos} (c : Comp2 F cc scope elt tg it ifs tg1 it1 ifs1 m) : PE X (.ListComp elt [⟨tg, it, ifs, 0⟩, ⟨tg1, it1, ifs1, 0⟩] scope p) (RE g m) := by
  obtain ⟨k, src, t, tst, k1, src1, t1, tst1, e, blk, hI, hT, hC, hI1, hT1, hC1, hE, hi, hi1, hp, hp1, rfl⟩ := c
  obtain ⟨pi, ns⟩ := cI_ok ih ok (tg := tg) (fun hk => cTarget_tu hT hp hk) hI
  have pi1 : ∀ (s : Shared) (H : Hp) (C : Addr) (cl : List (Str × Addr)) (fp : List Addr), PI (X.blk s H scope (compEnvC scope cl C X.env) fp) tg1 it1 (RI g k1 src1) ∧ noSet it1 = true := fun s H C cl fp =>
    cI_ok ih (blk_ok ok scope s H C cl fp) (tg := tg1) (fun hk => cTarget_tu hT1 hp1 hk) hI1
  refine ⟨fun pins s σ H Q I hq => ?_⟩
  have ns1 : noSet it1 = true := (pi1 s H 0 [] []).2
  refine PE.run ?_ pins s σ H Q I hq
  exact PE.of (pe_lc2 ok.calm ok.nd pi (blkOk ok blk) (comp2_hv hi1) (fun s H C cl fp => cTarget_ok (blk_ok ok scope s H C cl fp) hT) (fun s H C cl fp => cIfs_ok ih (blk_ok ok scope s H C cl fp) hC)
    (fun s H C cl fp => (pi1 s H C cl fp).1) (fun s H C cl fp => cTarget_ok (blk_ok ok scope s H C cl fp) hT1) (fun s H C cl fp => cIfs_ok ih (blk_ok ok scope s H C cl fp) hC1)
    (fun s H C cl fp => (ih _ _ (blk_ok ok scope s H C cl fp) elt e hE).1) (fun x => noSet_fold ns) (fun env x => noSet_fold ns1)) fun σ H Q q => q.comp2 hp hp1 (tIn_ok hi) (tIn_ok hi1)
theorem cComp_ok (ih : IHe F g) (ok : Ok X cc g) {scope : Scope} {elt : Ex} {gens : List Comprehension} {m : E} {p : Pos} (h : cComp F cc scope elt gens = some m) : PE X (.ListComp elt gens scope p) (RE g m) := by
  unfold cComp at h
  split at h
  · obtain ⟨c⟩ := cComp1_some h
    exact comp1_ok ih ok c
  · obtain ⟨c⟩ := cComp2_some h
    exact comp2_ok ih ok c
  · cases h

theorem cE_step (ih : IHe F g) : IHe (fun cc e => cE1 F cc e) g := by
  intro X cc ok e m h
  have val : ∀ {e : Ex}, PE X e (RE g m) → (∀ whole, isTrue e X.env whole = (do let v ← whole; standAt e.pos; holding [v] (truthy v))) → noStar e = true → noSet e = true → PE X e (RE g m) ∧ (tstOk e = true → PT X e (RT g m)) ∧ noStar e = true ∧ noSet e = true :=
    fun p ht h1 h2 => ⟨p, fun _ => pt_valR p ht, h1, h2⟩
  cases e with
  | Name x p => exact val (cName_ok ok h) (fun _ => rfl) rfl rfl
  | Constant c k p =>
    have h : (constD c).map E.cst = some m := h
    cases q : constD c with
    | none => rw [q] at h; cases h
    | some d => rw [q] at h; cases h; exact val (cConst_ok q) (fun _ => rfl) rfl rfl
  | BinOp a o b p =>
    have h : (match binO o with | some o => cBin F cc o a b | none => none) = some m := h
    cases q : binO o with
    | none => rw [q] at h; cases h
    | some op =>
      rw [q] at h
      obtain ⟨x, y, h1, h2, rfl⟩ := cBin_some h
      exact val (PE.of (pe_op (bin_op ok q) (ih X cc ok a x h1).1 (ih X cc ok b y h2).1) fun σ H Q q => op2_re q) (fun _ => rfl) rfl rfl
  | UnaryOp o a p =>
    cases o with
    | USub =>
      obtain ⟨x, h1, rfl⟩ := cUn_some (show cUn F cc .neg a = some m from h)
      exact val (PE.of (pe_un ko_neg (ih X cc ok a x h1).1) fun σ H Q q => q.op1) (fun _ => rfl) rfl rfl
    | Not =>
      have h : (F cc a).map E.not = some m := h
      cases q : F cc a with
      | none => rw [q] at h; cases h
      | some x =>
        rw [q] at h
        cases h
        obtain ⟨pe, pt, _⟩ := ih X cc ok a x q
        exact ⟨PE.of (pe_not pe) fun σ H Q q => q.not, fun ht => PT.of (pt_not (pt ht)) fun σ H Q q => RT.not q, rfl, rfl⟩
    | _ => cases h
  | BoolOp o es p =>
    obtain ⟨pe, pw⟩ := cBool_ok ih ok (p := p) (show cBool F cc o es = some m from h)
    refine ⟨pe, fun ht => ?_, rfl, rfl⟩
    have ht : (tstOk.tstAll es && !es.any isLst) = true := ht
    rw [Bool.and_eq_true] at ht
    exact (pw ht.1 (by simpa using ht.2)).pt
  | IfExp c a b p =>
    have h : (match cT F cc c, F cc a, F cc b with | some x, some y, some z => some (E.ite x y z) | _, _, _ => none) = some m := h
    cases q1 : cT F cc c with
    | none => rw [q1] at h; cases h
    | some x =>
      cases q2 : F cc a with
      | none => rw [q1, q2] at h; cases h
      | some y =>
        cases q3 : F cc b with
        | none => rw [q1, q2, q3] at h; cases h
        | some z =>
          rw [q1, q2, q3] at h
          cases h
          obtain ⟨ht, h1⟩ := cT_some q1
          exact ⟨PE.of (pe_ifExp ((ih X cc ok c x h1).2.1 ht) (ih X cc ok a y q2).1 (ih X cc ok b z q3).1) fun σ H Q q => q.ite, (fun ht => nomatch ht), rfl, rfl⟩
  | Compare a os bs p =>
    have h : cCmp F cc a os bs = some m := h
    unfold cCmp at h
    split at h
    · obtain ⟨h1, h2⟩ := cCmp1_ok ih ok (p := p) h
      exact ⟨h1, fun _ => h2, rfl, rfl⟩
    · obtain ⟨h1, h2⟩ := cCmp2_ok ih ok (p := p) h
      exact ⟨h1, fun _ => h2, rfl, rfl⟩
    · cases h
  | Tuple es k p =>
    have h : (cEs F cc es).map E.tup = some m := h
    cases q : cEs F cc es with
    | none => rw [q] at h; cases h
    | some a => rw [q] at h; cases h; exact val (PE.of (pe_tupF (pa_ok ih ok q)) fun σ H Q q => q.tup) (fun _ => rfl) rfl rfl
  | List es p =>
    have h : (cEs F cc es).map E.lst = some m := h
    cases q : cEs F cc es with
    | none => rw [q] at h; cases h
    | some a => rw [q] at h; cases h; exact val (PE.of (pe_lst (pa_ok ih ok q)) fun σ H Q q => q.lst) (fun _ => rfl) rfl rfl
  | Subscript v i p => exact val (cSub_ok ih ok h) (fun _ => rfl) rfl rfl
  | ListComp elt gens scope p => exact val (cComp_ok ih ok h) (fun _ => rfl) rfl rfl
  | Call f args kws p =>
    have nokw : kws = [] := by
      cases kws with
      | nil => rfl
      | cons a b => cases f <;> cases h
    subst nokw
    cases f with
    | Name x px => exact val (cCallN_ok ih ok h) (fun _ => rfl) rfl rfl
    | Attribute o nm ap => exact val (cMeth_ok ih ok h) (fun _ => rfl) rfl rfl
    | _ => cases h
  | _ => cases h
theorem cE_ok (g : Gh) : ∀ n, IHe (cE n) g
  | 0 => fun X cc ok e m h => by cases h
  | n + 1 => cE_step (cE_ok g n)
end
end Ev
end
section
set_option linter.all false
set_option maxRecDepth 100000
namespace Ev
open PySem PySem.Spec PyProof.Rows L2
section
variable {X : Cx} {cc : CC} {g : Gh} {σ : L2.St} {H : Hp} {F : CC → Ex → Option E} {G : CC → Stmt → S}

theorem PS.of {s : Stmt} {t t' : TS} (h : PS X s t) (k : ∀ D σ H, t' D σ H → t D σ H) : PS X s t' := ⟨fun pins s σ H D I q => h.run pins s σ H D I (k D σ H q)⟩
theorem PSs.of {s : List Stmt} {t t' : TS} (h : PSs X s t) (k : ∀ D σ H, t' D σ H → t D σ H) : PSs X s t' := ⟨fun pins s σ H D I q => h.run pins s σ H D I (k D σ H q)⟩
abbrev Own (X : Cx) : Prop := PassesOwn (model X.prog X.w) X.A X.env X.xe
def IHs (G : CC → Stmt → S) (g : Gh) : Prop := ∀ X cc, Ok X cc g → Own X → ∀ s, PS X s (RS g cc.io (G cc s))
theorem cSs_ok (ih : IHs G g) (ok : Ok X cc g) (own : Own X) : ∀ ss : List Stmt, PSs X ss (RS g cc.io (cSs G cc ss))
  | [] => PSs.of pss_nil fun D σ H q => q.nop
  | [s] => pss_one (ih X cc ok own s)
  | s :: s2 :: r => PSs.of (pss_cons (ih X cc ok own s) (cSs_ok ih ok own (s2 :: r))) fun D σ H q => RS.seq q

theorem pe_bmL {x : Str} {nm : Str} {id : String} {r : V → List V → Hp → VK → Prop} {i : Nat} {a : Ex} {y : E} {px ap cp : Pos} (slot : Slot "list" nm id) (hty : typeOf (.builtin id) = pure (.type "method_descriptor")) (hm : MtR X id r) (ok : Ok X cc g) (hs : cc.slot x = some i) (pa : PE X a (RE g y)) (hn : noStar a = true) (hl : (ap.endLine == cp.line) = true) :
    PE X (.Call (.Attribute (.Name x px) nm ap) [a] [] cp) (tBM X.K "list" r (tVar i) (tCons (RE g y) tNil)) := by
  have pl : ∀ e ∈ [a], noStar e = true := by simp [hn]
  exact pe_bm PySem.F.plainAttrs_list slot hty hm (pe_slot ok hs) (pa_cons pa pa_nil (star1 hn)) rfl (by
    rw [plain_all pl]
    rfl) hl (star1 hn) rfl
theorem cExprS_ok (ih : IHe F g) (ok : Ok X cc g) {e : Ex} {p : Pos} {t : S} (h : cExprS F cc e = some t) : PS X (.Expr e p) (RS g cc.io t) := by
  have call : ∀ {f : Ex} {args : List Ex} {kws : List Keyword} {q : Pos}, e = .Call f args kws q → (F cc e).map S.expr = some t → PS X (.Expr e p) (RS g cc.io t) := fun he h => by
    cases q : F cc e with
    | none => rw [q] at h; cases h
    | some m =>
      rw [q] at h
      cases h
      have pe := (ih X cc ok e m q).1
      subst he
      exact PS.of (ps_expr pe rfl) fun D σ H q => q.expr
  unfold cExprS at h
  split at h
  · rename_i x px nm ap a cp
    cases q : cc.slot x with
    | none => rw [q] at h; cases h
    | some i =>
      rw [q] at h
      have h : (if (ap.endLine == cp.line) = true then (if (nm == ("append" : Str)) = true then (F cc a).map (S.append i) else if (nm == ("extend" : Str)) = true then (F cc a).map (S.extend i) else none) else none) = some t := h
      by_cases hl : (ap.endLine == cp.line) = true
      · rw [if_pos hl] at h
        by_cases h1 : (nm == ("append" : Str)) = true
        · rw [if_pos h1] at h
          cases q2 : F cc a with
          | none => rw [q2] at h; cases h
          | some y =>
            rw [q2] at h
            cases h
            obtain ⟨pa, _, hn, _⟩ := ih X cc ok a y q2
            obtain rfl := LawfulBEq.eq_of_beq h1
            refine PS.of (ps_expr (pe_bmL PySem.F.slot_list_append rfl mt_append ok q pa hn hl) rfl) fun D σ H q => ?_
            obtain ⟨v, e1, e2, e3⟩ := q.append
            exact ⟨v, e1, by rw [ok.K]; exact e2, e3⟩
        · rw [if_neg h1] at h
          by_cases h2 : (nm == ("extend" : Str)) = true
          · rw [if_pos h2] at h
            cases q2 : F cc a with
            | none => rw [q2] at h; cases h
            | some y =>
              rw [q2] at h
              cases h
              obtain ⟨pa, _, hn, _⟩ := ih X cc ok a y q2
              obtain rfl := LawfulBEq.eq_of_beq h2
              refine PS.of (ps_expr (pe_bmL PySem.F.slot_list_extend rfl mt_extend ok q pa hn hl) rfl) fun D σ H q => ?_
              obtain ⟨v, e1, e2, e3⟩ := q.extend
              exact ⟨v, e1, by rw [ok.K]; exact e2, e3⟩
          · rw [if_neg h2] at h; cases h
      · rw [if_neg hl] at h; cases h
  · cases h
    exact PS.of ps_doc fun D σ H q => q.nop
  · exact call rfl h
  · cases h

theorem asg_reads {i : Nat} {m : E} (hi : cc.io = true → i ≠ 0) : ∀ D σ H, RS g cc.io (.asg i m) D σ H → tAsg (RE g m) (gName i) D σ H := fun D σ H q => RS.asg hi q
theorem cName_set {F' : CC → Ex → Option E} (ih0 : IHe F g) (ih : IHe F' g) (ok : Ok X cc g) {x : Str} {px p : Pos} {v : Ex} {i : Nat} {m : E} (hd : cc.dest x = some i) (hs : swOk v = true) (h : F cc v = some m) (hcomp : ∀ elt gens scope pos, v = .ListComp elt gens scope pos → cComp F' cc scope elt gens = some m) : PS X (.Assign [.Name x px] v p) (RS g cc.io (.asg i m)) := by
  obtain ⟨d1, d2, d3, d4⟩ := dest_ok ok hd
  have pe := (ih0 X cc ok v m h).1
  have plain : swapsWith v (some (.Name x px)) p.line X.env = pure false → PS X (.Assign [.Name x px] v p) (RS g cc.io (.asg i m)) := fun hw =>
    PS.of (ps_set ok.nd d1 d2 pe hw d3) (asg_reads d4)
  cases v <;> first | exact plain rfl | cases hs | skip
  rename_i elt gens scope pos
  have hc := hcomp elt gens scope pos rfl
  generalize hb : (X.env.blockKind == .function && X.env.kindOf x == some .local && px.line == pos.line && !(scope.names.any fun (n, k) => n == x && (k == .local || k == .cell))) = b
  have hsw : swapsWith (.ListComp elt gens scope pos) (some (.Name x px)) p.line X.env = pure b := by
    rw [← hb]
    rfl
  cases b with
  | false => exact plain hsw
  | true =>
    have hloc : X.env.scope.names.lookup x = some .local := by
      simp only [Bool.and_eq_true] at hb
      exact LawfulBEq.eq_of_beq hb.1.1.2
    unfold cComp at hc
    split at hc
    · obtain ⟨c⟩ := cComp1_some hc
      obtain ⟨k, src, t, tst, e, blk, hI, hT, hC, hE, hi, hp, rfl⟩ := c
      obtain ⟨pi, ns⟩ := cI_ok ih ok (fun hk => cTarget_tu hT hp hk) hI
      refine PS.of (ps_setLc ok.calm ok.nd d1 hloc hsw pi (blkOk ok blk) (fun s H C cl fp => cTarget_ok (blk_ok ok scope s H C cl fp) hT) (fun s H C cl fp => cIfs_ok ih (blk_ok ok scope s H C cl fp) hC)
        (fun s H C cl fp => (ih _ _ (blk_ok ok scope s H C cl fp) elt e hE).1) (fun x => noSet_fold ns)) fun D σ H q => ?_
      exact (RS.asg d4 q).comp hp (tIn_ok hi)
    · obtain ⟨c⟩ := cComp2_some hc
      obtain ⟨k, src, t, tst, k1, src1, t1, tst1, e, blk, hI, hT, hC, hI1, hT1, hC1, hE, hi, hi1, hp, hp1, rfl⟩ := c
      obtain ⟨pi, ns⟩ := cI_ok ih ok (fun hk => cTarget_tu hT hp hk) hI
      refine ⟨fun pins s σ H D I hq => ?_⟩
      have pi1 := fun (s : Shared) (H : Hp) (C : Addr) (cl : List (Str × Addr)) (fp : List Addr) => cI_ok ih (blk_ok ok scope s H C cl fp) (fun hk => cTarget_tu hT1 hp1 hk) hI1
      have ns1 := (pi1 s H 0 [] []).2
      refine PS.run ?_ pins s σ H D I hq
      refine PS.of (ps_setLc2 ok.calm ok.nd d1 hloc hsw pi (blkOk ok blk) (comp2_hv hi1) (fun s H C cl fp => cTarget_ok (blk_ok ok scope s H C cl fp) hT) (fun s H C cl fp => cIfs_ok ih (blk_ok ok scope s H C cl fp) hC)
        (fun s H C cl fp => (pi1 s H C cl fp).1) (fun s H C cl fp => cTarget_ok (blk_ok ok scope s H C cl fp) hT1) (fun s H C cl fp => cIfs_ok ih (blk_ok ok scope s H C cl fp) hC1)
        (fun s H C cl fp => (ih _ _ (blk_ok ok scope s H C cl fp) elt e hE).1) (fun x => noSet_fold ns) (fun env x => noSet_fold ns1)) fun D σ H q => ?_
      exact (RS.asg d4 q).comp2 hp hp1 (tIn_ok hi) (tIn_ok hi1)
    · cases hc

def namesOf (env : PySem.Env) (line : Nat) (ts : List Ex) : List Str := ts.filterMap fun
    | .Name id pos => if env.kindOf id == some .local && pos.line == line then some id else none
    | _ => none
theorem namesOf_le {env : PySem.Env} {l : Nat} : ∀ ts : List Ex, (namesOf env l ts).length ≤ ts.length := fun ts => List.length_filterMap_le _ _
theorem namesOf_cons {env : PySem.Env} {l : Nat} {x : Str} {p : Pos} {ts : List Ex} : namesOf env l (.Name x p :: ts) = if (env.kindOf x == some .local && p.line == l) = true then x :: namesOf env l ts else namesOf env l ts := by
  unfold namesOf
  rw [List.filterMap_cons]
  by_cases hc : (env.kindOf x == some .local && p.line == l) = true
  · simp only [if_pos hc]
  · simp only [if_neg hc]
theorem par_some {env : PySem.Env} {sc : Scope} {l : Nat} (hs : env.scope = sc) : ∀ {ts : List Ex} {ns : List Str}, parNames sc l ts = some ns → namesOf env l ts = ns ∧ ns.length = ts.length
  | [], ns, h => by cases h; exact ⟨rfl, rfl⟩
  | t :: ts, ns, h => by
    cases t with
    | Name x p =>
      have h : (if (sc.names.lookup x == some .local && p.line == l) = true then (parNames sc l ts).map fun y => x :: y else none) = some ns := h
      by_cases hc : (sc.names.lookup x == some .local && p.line == l) = true
      · rw [if_pos hc] at h
        cases q : parNames sc l ts with
        | none => rw [q] at h; cases h
        | some y =>
          rw [q] at h
          cases h
          obtain ⟨h1, h2⟩ := par_some hs q
          have hc' : (env.kindOf x == some .local && p.line == l) = true := by unfold PySem.Env.kindOf; rw [hs]; exact hc
          refine ⟨?_, by rw [List.length_cons, List.length_cons, h2]⟩
          rw [namesOf_cons, if_pos hc', h1]
      · rw [if_neg hc] at h; cases h
    | _ => cases h
theorem par_none {env : PySem.Env} {sc : Scope} {l : Nat} (hs : env.scope = sc) : ∀ {ts : List Ex}, (∀ t ∈ ts, ∃ x p, t = .Name x p) → parNames sc l ts = none → (namesOf env l ts).length ≠ ts.length
  | [], _, h => by cases h
  | t :: ts, hn, h => by
    obtain ⟨x, p, rfl⟩ := hn t List.mem_cons_self
    have h : (if (sc.names.lookup x == some .local && p.line == l) = true then (parNames sc l ts).map fun y => x :: y else none) = none := h
    have ke : (env.kindOf x == some .local && p.line == l) = (sc.names.lookup x == some .local && p.line == l) := by unfold PySem.Env.kindOf; rw [hs]
    by_cases hc : (sc.names.lookup x == some .local && p.line == l) = true
    · rw [if_pos hc] at h
      cases q : parNames sc l ts with
      | some y => rw [q] at h; cases h
      | none =>
        have ih := par_none hs (fun t ht => hn t (List.mem_cons_of_mem _ ht)) q
        rw [namesOf_cons, ke, if_pos hc, List.length_cons, List.length_cons]
        omega
    · rw [namesOf_cons, ke, if_neg hc, List.length_cons]
      have := namesOf_le (env := env) (l := l) ts
      omega
theorem cNames_names {f : Str → Option Nat} : ∀ {es : List Ex} {is : List Nat}, cNames f es = some is → (∀ t ∈ es, ∃ x p, t = .Name x p) ∧ is.length = es.length
  | [], is, h => by cases h; exact ⟨by simp, rfl⟩
  | e :: es, is, h => by
    cases e with
    | Name x p =>
      have h : (match f x, cNames f es with | some i, some l => some (i :: l) | _, _ => none) = some is := h
      cases q1 : f x with
      | none => rw [q1] at h; cases h
      | some i =>
        rw [q1] at h
        cases q2 : cNames f es with
        | none => rw [q2] at h; cases h
        | some l =>
          rw [q2] at h
          cases h
          obtain ⟨h1, h2⟩ := cNames_names q2
          refine ⟨fun t ht => ?_, by rw [List.length_cons, List.length_cons, h2]⟩
          rcases List.mem_cons.mp ht with rfl | ht
          · exact ⟨x, p, rfl⟩
          · exact h1 t ht
    | _ => cases h
theorem sw_eq {es vs : List Ex} {k k2 : Nat} {p p2 : Pos} {env : PySem.Env} (hk : env.scope.kind = .function) (hv : vs.all noStar = true) : swappedStores [.Tuple es k p] (.Tuple vs k2 p2) env =
    (if (!(es.length == 2 || es.length == 3) || vs.length != es.length) = true then pure none else
      if ((namesOf env (lineOf es) es).length != es.length || (namesOf env (lineOf es) es).eraseDups.length != (namesOf env (lineOf es) es).length) = true then pure none else
      if vs.all (foldedForSure 8) = true then pure none else if vs.all (constantsAlone 8) = true then (unsupported "assign.tuple-of-constant-expressions:order-of-the-stores" >>= fun (_ : Unit) => pure (some (namesOf env (lineOf es) es))) else pure (some (namesOf env (lineOf es) es))) := by
  have hb : env.blockKind = .function := by unfold PySem.Env.blockKind; rw [hk]; rfl
  have hst : (vs.any fun | .Starred .. => true | _ => false) = false := by
    rw [List.any_eq_false]
    intro x hx
    have := List.all_eq_true.mp hv x hx
    cases x <;> first | (simp; done) | cases this
  unfold swappedStores
  simp only [pure_bind, hb]
  by_cases h1 : (!(es.length == 2 || es.length == 3) || vs.length != es.length) = true
  · rw [if_pos h1, if_pos (by rw [h1]; rfl)]
  · rw [if_neg h1, if_neg (by intro z; rw [Bool.or_eq_true] at z; rcases z with z | z; exact h1 z; simp at z)]
    refine (if_neg (fun z => ?_)).trans ?_
    · rw [List.any_eq_true] at z
      obtain ⟨x, hx, z⟩ := z
      have hx' := List.all_eq_true.mp hv x hx
      cases x <;> first | (cases hx'; done) | (cases z; done)
    · rfl
theorem par0 {es vs : List Ex} {k k2 : Nat} {p p2 : Pos} {env : PySem.Env} {sc : Scope} (hs : env.scope = sc) (hk : env.scope.kind = .function) (hv : vs.all noStar = true) (hn : ∀ t ∈ es, ∃ x p, t = .Name x p) (h : parHow sc es vs = 0) : swappedStores [.Tuple es k p] (.Tuple vs k2 p2) env = pure none := by
  rw [sw_eq hk hv]
  unfold parHow at h
  by_cases h1 : (!(es.length == 2 || es.length == 3) || vs.length != es.length) = true
  · rw [if_pos h1]
  · rw [if_neg h1] at h ⊢
    cases q : parNames sc (lineOf es) es with
    | none => rw [if_pos (by simpa using Or.inl (par_none hs hn q))]
    | some ns =>
      rw [q] at h
      obtain ⟨e1, e2⟩ := par_some hs q
      rw [e1]
      have h : (if (ns.eraseDups.length != ns.length) = true then 0 else if vs.all (foldedForSure 8) = true then 0 else if vs.all (constantsAlone 8) = true then 2 else 1) = 0 := h
      by_cases h2 : (ns.eraseDups.length != ns.length) = true
      · rw [if_pos (by rw [h2, Bool.or_true])]
      · rw [if_neg h2] at h
        by_cases h3 : vs.all (foldedForSure 8) = true
        · by_cases hx : ((ns.length != es.length || ns.eraseDups.length != ns.length) = true)
          · rw [if_pos hx]
          · rw [if_neg hx, if_pos h3]
        · rw [if_neg h3] at h
          split at h <;> cases h
theorem par1 {es vs : List Ex} {k k2 : Nat} {p p2 : Pos} {env : PySem.Env} {sc : Scope} (hs : env.scope = sc) (hk : env.scope.kind = .function) (hv : vs.all noStar = true) (h : parHow sc es vs = 1) :
    ∃ ns, swappedStores [.Tuple es k p] (.Tuple vs k2 p2) env = pure (some ns) ∧ parNames sc (lineOf es) es = some ns ∧ vs.length = es.length ∧ (es.length = 2 ∨ es.length = 3) := by
  unfold parHow at h
  by_cases h1 : (!(es.length == 2 || es.length == 3) || vs.length != es.length) = true
  · rw [if_pos h1] at h; cases h
  · rw [if_neg h1] at h
    cases q : parNames sc (lineOf es) es with
    | none => rw [q] at h; cases h
    | some ns =>
      rw [q] at h
      obtain ⟨e1, e2⟩ := par_some hs q
      have h : (if (ns.eraseDups.length != ns.length) = true then 0 else if vs.all (foldedForSure 8) = true then 0 else if vs.all (constantsAlone 8) = true then 2 else 1) = 1 := h
      by_cases h2 : (ns.eraseDups.length != ns.length) = true
      · rw [if_pos h2] at h; cases h
      · rw [if_neg h2] at h
        by_cases h3 : vs.all (foldedForSure 8) = true
        · rw [if_pos h3] at h; cases h
        · rw [if_neg h3] at h
          by_cases h4 : vs.all (constantsAlone 8) = true
          · rw [if_pos h4] at h; cases h
          · refine ⟨ns, ?_, rfl, ?_, ?_⟩
            · rw [sw_eq hk hv, if_neg h1, e1, if_neg (by simpa [e2] using h2), if_neg h3, if_neg h4]
            · simp at h1; exact h1.2
            · simp at h1; omega
end
end Ev
end
section
set_option linter.all false
set_option maxRecDepth 100000
namespace Ev
open PySem PySem.Spec PyProof.Rows L2
section
variable {X : Cx} {cc : CC} {g : Gh} {σ : L2.St} {H : Hp} {F : CC → Ex → Option E} {G : CC → Stmt → S}

theorem cNames_at (ok : Ok X cc g) : ∀ {es : List Ex} {is : List Nat} {sc : Scope} {l : Nat} {ns : List Str}, cNames cc.dest es = some is → parNames sc l es = some ns → cc.sc = sc →
    Paired (fun i x => X.N[i]? = some x ∧ X.env.scope.names.lookup x = some .local) is ns ∧ Paired (fun (e : Ex) x => ∃ p, e = Expr.Name x p) es ns
  | [], is, sc, l, ns, h, h', _ => by cases h; cases h'; exact ⟨.nil, .nil⟩
  | e :: es, is, sc, l, ns, h, h', hs => by
    cases e with
    | Name x p =>
      have h : (match cc.dest x, cNames cc.dest es with | some i, some l => some (i :: l) | _, _ => none) = some is := h
      have h' : (if (sc.names.lookup x == some .local && p.line == l) = true then (parNames sc l es).map fun y => x :: y else none) = some ns := h'
      cases q1 : cc.dest x with
      | none => rw [q1] at h; cases h
      | some i =>
        rw [q1] at h
        cases q2 : cNames cc.dest es with
        | none => rw [q2] at h; cases h
        | some js =>
          rw [q2] at h
          cases h
          by_cases hc : (sc.names.lookup x == some .local && p.line == l) = true
          · rw [if_pos hc] at h'
            cases q3 : parNames sc l es with
            | none => rw [q3] at h'; cases h'
            | some ys =>
              rw [q3] at h'
              cases h'
              obtain ⟨p1, p2⟩ := cNames_at ok q2 q3 hs
              obtain ⟨d1, _⟩ := dest_ok ok q1
              rw [Bool.and_eq_true] at hc
              exact ⟨.cons ⟨d1, by rw [ok.sc, hs]; exact LawfulBEq.eq_of_beq hc.1⟩ p1, .cons ⟨p, rfl⟩ p2⟩
          · rw [if_neg hc] at h'; cases h'
    | _ => cases h
theorem cNames_io (ok : Ok X cc g) : ∀ {es : List Ex} {is : List Nat}, cNames cc.dest es = some is → cc.io = true → ∀ i ∈ is, i ≠ 0
  | [], is, h, _, i, hi => by cases h; simp at hi
  | e :: es, is, h, hio, i, hi => by
    cases e with
    | Name x p =>
      have h : (match cc.dest x, cNames cc.dest es with | some i, some l => some (i :: l) | _, _ => none) = some is := h
      cases q1 : cc.dest x with
      | none => rw [q1] at h; cases h
      | some j =>
        rw [q1] at h
        cases q2 : cNames cc.dest es with
        | none => rw [q2] at h; cases h
        | some js =>
          rw [q2] at h
          cases h
          obtain ⟨_, _, _, d4⟩ := dest_ok ok q1
          rcases List.mem_cons.mp hi with rfl | hi
          · exact d4 hio
          · exact cNames_io ok q2 hio i hi
    | _ => cases h
theorem nodup2 {i j : Nat} (h : nodupN [i, j] = true) : i ≠ j := by
  intro e
  subst e
  simp [nodupN] at h
theorem nodup3 {i j l : Nat} (h : nodupN [i, j, l] = true) : i ≠ j ∧ i ≠ l ∧ j ≠ l := by
  simp only [nodupN, List.any_cons, List.any_nil, Bool.or_false, Bool.and_true, Bool.and_eq_true, Bool.not_eq_true', Bool.or_eq_false_iff, beq_eq_false_iff_ne] at h
  refine ⟨h.1.1, h.1.2, h.2.1⟩
theorem cAssign_ok {F' : CC → Ex → Option E} (ih : IHe F g) (ih' : IHe F' g) (hcomp : ∀ cc elt gens scope pos m, F cc (.ListComp elt gens scope pos) = some m → cComp F' cc scope elt gens = some m) (ok : Ok X cc g) {tg v : Ex} {p : Pos} {t : S} (h : cAssign F cc tg v = some t) : PS X (.Assign [tg] v p) (RS g cc.io t) := by
  cases tg with
  | Name x px =>
    have h : (match cc.dest x, (if swOk v = true then F cc v else none) with | some i, some e => some (S.asg i e) | _, _ => none) = some t := h
    cases q1 : cc.dest x with
    | none => rw [q1] at h; cases h
    | some i =>
      rw [q1] at h
      by_cases hs : swOk v = true
      · rw [if_pos hs] at h
        cases q2 : F cc v with
        | none => rw [q2] at h; cases h
        | some m =>
          rw [q2] at h
          cases h
          exact cName_set ih ih' ok q1 hs q2 fun elt gens scope pos e => by subst e; exact hcomp _ _ _ _ _ _ q2
      · rw [if_neg hs] at h; cases h
  | Tuple es k pt =>
    have h : (match cNames cc.dest es with
      | some is => cTup F cc es is v
      | none => none) = some t := h
    cases q1 : cNames cc.dest es with
    | none => rw [q1] at h; cases h
    | some is =>
      rw [q1] at h
      have hT : cTarget cc (.Tuple es k pt) = some (.tu is) := by
        show (cNames cc.dest es).map T.tu = _
        rw [q1]; rfl
      have pg := cTarget_ok ok hT
      have unp : (∀ env : PySem.Env, env.scope = cc.sc → env.scope.kind = .function → swappedStores [.Tuple es k pt] v env = pure none) → (F cc v).map (S.unp (.tu is)) = some t → PS X (.Assign [.Tuple es k pt] v p) (RS g cc.io t) := fun hw h => by
        cases q2 : F cc v with
        | none => rw [q2] at h; cases h
        | some m =>
          rw [q2] at h
          cases h
          have pe := (ih X cc ok v m q2).1
          refine ⟨fun pins s σ H D I hq => ?_⟩
          exact (ps_asg pe pg (by cases v <;> rfl) (hw X.env ok.sc I.ok.kind) rfl).run pins s σ H D I (RS.unp hq)
      cases v with
      | Tuple vs k2 p2 =>
        have h : (if (vs.all noStar) = true then (match parHow cc.sc es vs with
          | 0 => (F cc (.Tuple vs k2 p2)).map (S.unp (.tu is))
          | 1 => if nodupN is = true then (cEs F cc vs).map (S.par is) else none
          | _ => none) else none) = some t := h
        by_cases hv : vs.all noStar = true
        · rw [if_pos hv] at h
          cases qh : parHow cc.sc es vs with
          | zero =>
            rw [qh] at h
            exact unp (fun env e1 e2 => par0 e1 e2 hv (cNames_names q1).1 qh) h
          | succ n =>
            cases n with
            | succ n => rw [qh] at h; cases h
            | zero =>
              rw [qh] at h
              have h : (if nodupN is = true then (cEs F cc vs).map (S.par is) else none) = some t := h
              by_cases hd : nodupN is = true
              · rw [if_pos hd] at h
                cases q2 : cEs F cc vs with
                | none => rw [q2] at h; cases h
                | some a =>
                  rw [q2] at h
                  cases h
                  have pa := pa_ok ih ok q2
                  refine ⟨fun pins s σ H D I hq => ?_⟩
                  obtain ⟨ns, sw, pn, hl, h23⟩ := par1 (k := k) (k2 := k2) (p := pt) (p2 := p2) ok.sc I.ok.kind hv qh
                  obtain ⟨at1, nm⟩ := cNames_at ok q1 pn rfl
                  have rp := RS.par (fun hio => cNames_io ok q1 hio) hq
                  have hisl := (cNames_names q1).2
                  rcases h23 with h2 | h3
                  · match es, h2, vs, hl, is, ns, at1, nm, hisl with
                    | [e1, e2], _, [a1, a2], _, [i, j], [x, y], .cons ⟨n1, l1⟩ (.cons ⟨n2, l2⟩ .nil), .cons ⟨p1, r1⟩ (.cons ⟨p2', r2⟩ .nil), _ =>
                      subst r1
                      subst r2
                      have hij := nodup2 hd
                      refine (ps_par ok.calm ok.nd n1 n2 hij l1 l2 pa sw rfl).run pins s σ H D I ?_
                      refine rp.mono fun us H1 ⟨ul, q⟩ => ?_
                      match us, ul with
                      | [u, w], _ =>
                        refine ⟨u, w, rfl, ?_⟩
                        rw [List.set_comm _ _ hij]
                        exact q
                  · match es, h3, vs, hl, is, ns, at1, nm, hisl with
                    | [e1, e2, e3], _, [a1, a2, a3], _, [i, j, l], [x, y, z], .cons ⟨n1, l1⟩ (.cons ⟨n2, l2⟩ (.cons ⟨n3, l3⟩ .nil)), .cons ⟨p1, r1⟩ (.cons ⟨p2', r2⟩ (.cons ⟨p3', r3⟩ .nil)), _ =>
                      subst r1
                      subst r2
                      subst r3
                      obtain ⟨hij, hil, hjl⟩ := nodup3 hd
                      refine (ps_par3 ok.calm ok.nd n1 n2 n3 hij hil hjl l1 l2 l3 pa sw rfl).run pins s σ H D I ?_
                      refine rp.mono fun us H1 ⟨ul, q⟩ => ?_
                      match us, ul with
                      | [u, w, r], _ =>
                        refine ⟨u, w, r, rfl, ?_⟩
                        have e : putR [i, j, l] [u, w, r] σ = ((σ.set i (some u)).set j (some w)).set l (some r) := by
                          show ((σ.set l (some r)).set j (some w)).set i (some u) = _
                          rw [List.set_comm (l := σ.set l (some r)) _ _ (Ne.symm hij), List.set_comm (l := σ) _ _ (Ne.symm hil), List.set_comm (l := σ.set i (some u)) _ _ (Ne.symm hjl)]
                        rw [e] at q
                        exact q
              · rw [if_neg hd] at h; cases h
        · rw [if_neg hv] at h; cases h
      | _ => exact unp (fun _ _ _ => rfl) h
  | Subscript o i ps =>
    obtain ⟨x, px, rfl⟩ : ∃ x px, o = .Name x px := by
      cases o <;> first | exact ⟨_, _, rfl⟩ | cases h
    have h : (if noSlc i = true then (match cc.slot x, F cc i, F cc v with | some i, some k, some e => some (S.seti i k e) | _, _, _ => none) else none) = some t := h
    by_cases hn : noSlc i = true
    · rw [if_pos hn] at h
      cases q1 : cc.slot x with
      | none => rw [q1] at h; cases h
      | some j =>
        cases q2 : F cc i with
        | none => rw [q1, q2] at h; cases h
        | some kk =>
          cases q3 : F cc v with
          | none => rw [q1, q2, q3] at h; cases h
          | some m =>
            rw [q1, q2, q3] at h
            cases h
            have pk := (ih X cc ok i kk q2).1
            have pv := (ih X cc ok v m q3).1
            have pg := pg_sub (pos := ps) (pe_slot (p := px) ok q1) pk (set_list (X := X)) (by cases i <;> first | (intro _; rfl) | cases hn)
            exact PS.of (ps_asg pv pg (by cases v <;> rfl) (by cases v <;> rfl) rfl) fun D σ H q => RS.seti q
    · rw [if_neg hn] at h; cases h
  | _ => cases h

theorem cS_step {F' : CC → Ex → Option E} (ih : IHe F g) (ih' : IHe F' g) (hcomp : ∀ cc elt gens scope pos m, F cc (.ListComp elt gens scope pos) = some m → cComp F' cc scope elt gens = some m) (ihs : IHs G g) : IHs (fun cc s => (cS1 F G cc s).getD .nev) g := by
  intro X cc ok own s
  show PS X s (RS g cc.io ((cS1 F G cc s).getD .nev))
  cases h : cS1 F G cc s with
  | none => exact PS.of ps_never fun D σ H q => RS.nev q
  | some t =>
    show PS X s (RS g cc.io t)
    cases s with
    | Expr e p => exact cExprS_ok ih ok h
    | Assign tgs v p =>
      obtain ⟨tg, rfl⟩ : ∃ tg, tgs = [tg] := by
        match tgs, h with
        | [], h => cases h
        | [a], _ => exact ⟨a, rfl⟩
        | _ :: _ :: _, h => cases h
      exact cAssign_ok ih ih' hcomp ok h
    | Return e p =>
      cases e with
      | none =>
        cases h
        exact PS.of ps_retN fun D σ H q => (RS.ret q).cst fun _ => .non
      | some e =>
        have h : (F cc e).map S.ret = some t := h
        cases q : F cc e with
        | none => rw [q] at h; cases h
        | some m =>
          rw [q] at h
          cases h
          exact PS.of (ps_ret (ih X cc ok e m q).1) fun D σ H q => RS.ret q
    | If c a b p =>
      have h : (cT F cc c).map (fun x => S.ite x (cSs G cc a) (cSs G cc b)) = some t := h
      cases q : cT F cc c with
      | none => rw [q] at h; cases h
      | some x =>
        rw [q] at h
        cases h
        obtain ⟨ht, h1⟩ := cT_some q
        exact PS.of (ps_if ((ih X cc ok c x h1).2.1 ht) (cSs_ok ihs ok own a) (cSs_ok ihs ok own b)) fun D σ H q => RS.ite q
    | While c body els p =>
      cases els with
      | cons _ _ => cases h
      | nil =>
        have h : (cT F cc c).map (fun x => S.while x (cSs G cc body)) = some t := h
        cases q : cT F cc c with
        | none => rw [q] at h; cases h
        | some x =>
          rw [q] at h
          cases h
          obtain ⟨ht, h1⟩ := cT_some q
          exact PS.of (ps_while own ((ih X cc ok c x h1).2.1 ht) (cSs_ok ihs ok own body)) fun D σ H q => RS.while q
    | For tg it body els p =>
      cases els with
      | cons _ _ => cases h
      | nil =>
        have h : (match cTarget cc tg, cI F cc it with
          | some t, some (k, src) => if pairOk k t = true then some (S.for t k src (cSs G cc body)) else none
          | _, _ => none) = some t := h
        cases q1 : cTarget cc tg with
        | none => rw [q1] at h; cases h
        | some tt =>
          rw [q1] at h
          cases q2 : cI F cc it with
          | none => rw [q2] at h; cases h
          | some ks =>
            obtain ⟨k, src⟩ := ks
            rw [q2] at h
            have h : (if pairOk k tt = true then some (S.for tt k src (cSs G cc body)) else none) = some t := h
            by_cases hp : pairOk k tt = true
            · rw [if_pos hp] at h
              cases h
              obtain ⟨pi, ns⟩ := cI_ok ih ok (tg := tg) (fun hk => cTarget_tu q1 hp hk) q2
              exact PS.of (ps_for own ok.calm pi (cTarget_ok ok q1) (cSs_ok ihs ok own body) (fun x => noSet_fold ns)) fun D σ H q => RS.for hp q
            · rw [if_neg hp] at h; cases h
    | Break p => cases h; exact PS.of ps_break fun D σ H q => RS.brk q
    | Continue p => cases h; exact PS.of ps_continue fun D σ H q => RS.cnt q
    | Pass p => cases h; exact PS.of ps_pass fun D σ H q => RS.nop q
    | _ => cases h
theorem cS_ok (g : Gh) (m : Nat) : ∀ n, IHs (cS (m + 1) n) g
  | 0 => fun X cc ok own s => PS.of ps_never fun D σ H q => RS.nev q
  | n + 1 => cS_step (cE_ok g (m + 1)) (cE_ok g m) (fun _ _ _ _ _ _ h => h) (cS_ok g m n)
end
end Ev
end
section
set_option linter.all false
set_option maxRecDepth 100000
namespace Ev
open PySem PySem.Spec PyProof.Rows L2

structure Dat where
  name : Str
  qual : Str
  params : Arguments
  body : List Stmt
  scope : Scope
  N : List Str
  ps : List Str
  io : Bool
structure Txt where
  defs : List Dat
  gl : List (Str × GV)
  m : Nat
  wf : Nat
def Txt.ioF (T : Txt) (k : Nat) : Bool := match T.defs[k]? with
  | some d => d.io
  | none => false
def Txt.cc (T : Txt) (d : Dat) : CC := ⟨d.N, d.scope, T.gl, T.ioF, d.io, fun _ => true⟩
def Txt.fn (T : Txt) (d : Dat) : Fn := ⟨d.ps.length, d.N.length, d.io, cSs (cS (T.m + 1) T.m) (T.cc d) d.body⟩
def Txt.tab (T : Txt) : Tab := fun k => (T.defs[k]?).map fun d => .ir (T.fn d)
theorem Txt.io_eq (T : Txt) (k : Nat) : T.tab.io k = T.ioF k := by
  unfold Tab.io Txt.tab Txt.ioF
  cases T.defs[k]? with
  | none => rfl
  | some d => rfl
def Txt.ec (T : Txt) (n : Nat) : EC := ⟨evFn T.tab T.wf n, T.ioF, T.wf⟩
def Txt.gh (T : Txt) (fa : Nat → Addr) (K : PySem.W.Frag) (n : Nat) : Gh := ⟨fa, K, T.ec n, fun _ _ _ _ => False, fun _ _ _ _ _ => False⟩
structure Top (T : Txt) (fa : Nat → Addr) (K : PySem.W.Frag) (mg : Str → Option Value) : Prop where
  fn : ∀ k d, T.defs[k]? = some d → ∃ fd, FunD K d.name d.qual d.params d.body d.scope [] [] (fa k) fd ∧ Binds K fd d.ps [] ∧ FnScope d.N d.ps d.scope ∧ (d.io = true → 0 < d.ps.length)
  gl : ∀ x v, T.gl.lookup x = some v → match v with
    | .fn k => mg x = some (.ref (fa k)) ∧ k < T.defs.length
    | .cst d => ∃ u v, mg x = some u ∧ L2.RelV v u ∧ ∀ G, Dg fa K G v d
    | .bi b => mg x = none ∧ ∃ y, biNames[b]? = some y ∧ x = Str.ofString y
    | .exc _ => True
section
variable {T : Txt} {fa : Nat → Addr} {P : Program} {w : World} {K : PySem.W.Frag} {mg : Str → Option Value} {base : Heap}

theorem start_get {N : List Str} {vs : List V} {i : Nat} {v : V} (h : vs[i]? = some v) : (L2.start N vs)[i]? = some (some v) := by
  unfold L2.start
  have hi := (List.getElem?_eq_some_iff.mp h).1
  rw [List.getElem?_append_left (by rw [List.length_map]; exact hi), List.getElem?_map, h]
  rfl
theorem startE_at {F : Fn} {ds : List D} {xs : List D} {i : Nat} (h : Env.at (ds.map Sl.fz ++ List.replicate (F.sl - F.ar) .no) i ≠ .no) : ∃ d, ds[i]? = some d ∧ Env.at (ds.map Sl.fz ++ List.replicate (F.sl - F.ar) .no) i = .fz d := by
  unfold Env.at at h ⊢
  rw [List.getD_eq_getElem?_getD] at h ⊢
  by_cases hi : i < ds.length
  · rw [List.getElem?_append_left (by rw [List.length_map]; exact hi), List.getElem?_map, List.getElem?_eq_getElem hi]
    exact ⟨ds[i], rfl, rfl⟩
  · rw [List.getElem?_append_right (by rw [List.length_map]; omega), List.getElem?_replicate] at h
    split at h <;> exact absurd rfl h
theorem run_plain {g : Gh} {F : Fn} {ds : List D} {vs : List V} {N : List Str} {H G : Hp} {Q : VK} (hN : F.sl = N.length) (har : ds.length = F.ar) (hl : F.ar ≤ N.length) (hio : F.io = false) (sp : Sup G H) (dd : DgAll g.fa g.K G vs ds) (hex : ∀ k a c d H, ¬ g.ex k a c d H)
    (h : match endS F (evS g.C F.body (startE F ds)) with
      | .ok d fr _ => ∀ v H' G', Grow G H G' H' → RV g.fa g.K H G' H' (if fr then .fr d else .fz d) v → Q v H'
      | .exc _ _ _ => True
      | .stuck => False) : RS g F.io F.body { nx := fun _ H' => Q .non H', rt := Q } (L2.start N vs) H := by
  have es : startE F ds = ds.map Sl.fz ++ List.replicate (F.sl - F.ar) .no := by unfold startE; rw [hio]
  have vl := dd.length
  have noown : ∀ i, ((startE F ds).at i).own = true → False := fun i hi => by
    rw [es] at hi
    have hne : Env.at (ds.map Sl.fz ++ List.replicate (F.sl - F.ar) .no) i ≠ .no := fun e => by rw [e] at hi; cases hi
    obtain ⟨d, _, e⟩ := startE_at (F := F) (xs := []) hne
    rw [e] at hi
    cases hi
  have r : Rel g.fa g.K H G none (startE F ds) (L2.start N vs) H := by
    refine ⟨?_, sp, fun _ _ e => e, fun i d e => ?_, fun i hi => (noown i hi).elim, fun i j a hi => (noown i hi).elim, fun a e => nomatch e⟩
    · rw [es]
      unfold L2.start
      simp only [List.length_append, List.length_map, List.length_replicate]
      omega
    · rw [es] at e
      obtain ⟨d', h1, h2⟩ := startE_at (F := F) (xs := []) (i := i) (ds := ds) (by rw [e]; simp)
      rw [e] at h2
      cases h2
      obtain ⟨v, h3, h4⟩ := dd.get h1
      exact ⟨v, start_get h3, h4⟩
  refine ⟨H, G, none, startE F ds, fun z => absurd rfl z, r, ?_⟩
  have grow : ∀ {e : Env} {σ' : L2.St} {H' G' : Hp}, Rel g.fa g.K H G' none e σ' H' → Ext H G G' → Grow G H G' H' := fun r x => ⟨r.fh, x.sup, r.gh, x.new⟩
  cases q : evS g.C F.body (startE F ds) with
  | stuck => rw [q] at h; exact h
  | exc k a e => exact fun σ' H' G' r x cls dd z => absurd z (hex _ _ _ _ _)
  | ok fl e =>
    rw [q] at h
    cases fl with
    | nx =>
      have e1 : endS F (.ok .nx e) = .ok .non false [] := by unfold endS; rw [hio]; rfl
      rw [e1] at h
      exact fun σ' H' G' r x => h .non H' G' (grow r x) .non
    | rt d fr =>
      have e1 : endS F (.ok (.rt d fr) e) = .ok d fr [] := by unfold endS; rw [hio]; rfl
      rw [e1] at h
      intro v σ' H' G' r x o
      refine h v H' G' (grow r x) ?_
      cases fr with
      | false => exact o
      | true =>
        obtain ⟨p, rfl, h1, h2, h3⟩ := o
        exact ⟨p, rfl, h2.1, h2.2, h1⟩
    | bk =>
      have e1 : endS F (.ok .bk e) = .stuck := by unfold endS; rw [hio]; rfl
      rw [e1] at h
      exact h.elim
    | ct =>
      have e1 : endS F (.ok .ct e) = .stuck := by unfold endS; rw [hio]; rfl
      rw [e1] at h
      exact h.elim
theorem run_io {g : Gh} {F : Fn} {xs ds : List D} {ws us : List V} {a : Addr} {N : List Str} {H G : Hp} {Q : VK} (hN : F.sl = N.length) (har : ds.length + 1 = F.ar) (hl : F.ar ≤ N.length) (hio : F.io = true) (sp : Sup G H) (ha : H a = some (.lst ws)) (dw : DgAll g.fa g.K G ws xs) (hG : G a = none) (dd : DgAll g.fa g.K G us ds) (hex : ∀ k a c d H, ¬ g.ex k a c d H)
    (h : match endS F (evS g.C F.body (startE F (.lst xs :: ds))) with
      | .ok d fr io => ∀ v H' G' ws', GrowI a G H G' H' → H' a = some (.lst ws') → DgAll g.fa g.K G' ws' io → RV g.fa g.K H G' H' (if fr then .fr d else .fz d) v → Q v H'
      | .exc _ _ _ => True
      | .stuck => False) : RS g F.io F.body { nx := fun _ H' => Q .non H', rt := Q } (L2.start N (.ref a :: us)) H := by
  have es : startE F (.lst xs :: ds) = .ow xs :: (ds.map Sl.fz ++ List.replicate (F.sl - F.ar) .no) := by unfold startE; rw [hio]; rfl
  have vl := dd.length
  have at0 : (startE F (.lst xs :: ds)).at 0 = .ow xs := by rw [es]; rfl
  have ats : ∀ i, (startE F (.lst xs :: ds)).at (i + 1) = Env.at (ds.map Sl.fz ++ List.replicate (F.sl - F.ar) .no) i := fun i => by rw [es]; rfl
  have own0 : ∀ i, ((startE F (.lst xs :: ds)).at i).own = true → i = 0 := fun i hi => by
    cases i with
    | zero => rfl
    | succ i =>
      rw [ats] at hi
      have hne : Env.at (ds.map Sl.fz ++ List.replicate (F.sl - F.ar) .no) i ≠ .no := fun e => by rw [e] at hi; cases hi
      obtain ⟨d, _, e⟩ := startE_at (F := F) (xs := []) hne
      rw [e] at hi
      cases hi
  generalize hF0 : (fun b => if b = a then none else H b : Hp) = F0
  have f0a : F0 a = none := by rw [← hF0]; exact if_pos rfl
  have f0b : ∀ b, b ≠ a → F0 b = H b := fun b hb => by rw [← hF0]; exact if_neg hb
  have r : Rel g.fa g.K F0 G (some a) (startE F (.lst xs :: ds)) (L2.start N (.ref a :: us)) H := by
    refine ⟨?_, sp, fun b u e => ?_, fun i d e => ?_, fun i hi => ?_, fun i j b hi hj _ _ => by rw [own0 i hi, own0 j hj], fun b e _ => by cases e; rfl⟩
    · rw [es]
      unfold L2.start
      simp only [List.length_cons, List.length_append, List.length_map, List.length_replicate]
      omega
    · have hb : b ≠ a := fun z => by rw [z, f0a] at e; cases e
      rw [f0b b hb] at e
      exact e
    · cases i with
      | zero => rw [at0] at e; cases e
      | succ i =>
        rw [ats] at e
        obtain ⟨d', h1, h2⟩ := startE_at (F := F) (xs := []) (i := i) (ds := ds) (by rw [e]; simp)
        rw [e] at h2
        cases h2
        obtain ⟨v, h3, h4⟩ := dd.get h1
        exact ⟨v, start_get (vs := .ref a :: us) (i := i + 1) (by simpa using h3), h4⟩
    · have := own0 i hi
      subst this
      rw [at0]
      exact ⟨a, rfl, ⟨ws, ha, dw⟩, f0a, hG⟩
  refine ⟨F0, G, some a, startE F (.lst xs :: ds), fun _ => hio, r, ?_⟩
  have grow : ∀ {e : Env} {σ' : L2.St} {H' G' : Hp} {zs : List D}, Rel g.fa g.K F0 G' (some a) e σ' H' → Ext F0 G G' → e.at 0 = .ow zs → GrowI a G H G' H' ∧ ∃ ws', H' a = some (.lst ws') ∧ DgAll g.fa g.K G' ws' zs := fun {e σ' H' G' zs} r x e0 => by
    obtain ⟨b, h1, h2, h3⟩ := r.own 0 (by rw [e0]; rfl)
    have h4 := r.io a rfl (by rw [e0]; rfl)
    rw [h4] at h1
    cases h1
    rw [e0] at h2
    obtain ⟨ws', h5, h6⟩ := h2
    refine ⟨⟨fun c u hc e => r.fh c u (by rw [f0b c hc]; exact e), x.sup, r.gh, fun c hc hg => ?_⟩, ws', h5, h6⟩
    by_cases q : c = a
    · rw [q]; exact h3.2
    · exact x.new c (by rw [f0b c q]; exact hc) hg
  cases q : evS g.C F.body (startE F (.lst xs :: ds)) with
  | stuck => rw [q] at h; exact h
  | exc k a e => exact fun σ' H' G' r x cls dd z => absurd z (hex _ _ _ _ _)
  | ok fl e =>
    rw [q] at h
    have st : ∀ fl, (∀ zs, e.at 0 ≠ .ow zs) → endS F (.ok fl e) = .stuck := fun fl hn => by
      have e2 : endIo F.io (e.at 0) = none := by
        rw [hio]
        cases e0 : e.at 0 with
        | ow zs => exact absurd e0 (hn zs)
        | _ => rfl
      show endFl fl (endIo F.io (e.at 0)) = .stuck
      rw [e2]
      cases fl <;> rfl
    by_cases hz : ∃ zs, e.at 0 = .ow zs
    · obtain ⟨zs, e0⟩ := hz
      cases fl with
      | nx =>
        have e1 : endS F (.ok .nx e) = .ok .non false zs := by show endFl .nx (endIo F.io (e.at 0)) = _; rw [hio, e0]; rfl
        rw [e1] at h
        intro σ' H' G' r x
        obtain ⟨gr, ws', h5, h6⟩ := grow r x e0
        exact h .non H' G' ws' gr h5 h6 .non
      | rt d fr =>
        have e1 : endS F (.ok (.rt d fr) e) = .ok d fr zs := by show endFl (.rt d fr) (endIo F.io (e.at 0)) = _; rw [hio, e0]; rfl
        rw [e1] at h
        intro v σ' H' G' r x o
        obtain ⟨gr, ws', h5, h6⟩ := grow r x e0
        refine h v H' G' ws' gr h5 h6 ?_
        cases fr with
        | false => exact o
        | true =>
          obtain ⟨p, rfl, h1, h2, h3⟩ := o
          refine ⟨p, rfl, ?_, h2.2, h1⟩
          have hp : p ≠ a := fun z => h3 0 (by rw [e0]; rfl) (by rw [z]; exact r.io a rfl (by rw [e0]; rfl))
          rw [← f0b p hp]
          exact h2.1
      | bk =>
        have e1 : endS F (.ok .bk e) = .stuck := by show endFl .bk (endIo F.io (e.at 0)) = _; rw [hio, e0]; rfl
        rw [e1] at h
        exact h.elim
      | ct =>
        have e1 : endS F (.ok .ct e) = .stuck := by show endFl .ct (endIo F.io (e.at 0)) = _; rw [hio, e0]; rfl
        rw [e1] at h
        exact h.elim
    · rw [st fl fun zs e => hz ⟨zs, e⟩] at h
      exact h.elim

theorem defs_ok (top : Top T fa K mg) : ∀ (n : Nat) (k : Nat) (d : Dat), T.defs[k]? = some d → ∀ fd, FunD K d.name d.qual d.params d.body d.scope [] [] (fa k) fd → FnOk P w K mg base (L2.CX P w) n (fa k) fd d.ps (spF (T.gh fa K n) k)
  | 0, k, d, hd, fd, hf => by
    have z : ∀ vs H Q E, spF (T.gh fa K 0) k vs H Q E → False := fun vs H Q E h => by
      unfold spF at h
      split at h
      · obtain ⟨_, _, _, _, _, _, _, _, _, _, _, _, h⟩ := h
        exact h
      · obtain ⟨_, _, _, _, h⟩ := h
        exact h
    exact ⟨fun vs H Q E h => (z _ _ _ _ h).elim, fun A outer s H args us vs Q E _ _ _ _ h => (z _ _ _ _ h).elim⟩
  | n + 1, k, d, hd, fd, hf => by
    obtain ⟨fd', hf', hb', S, hpos⟩ := top.fn k d hd
    have htab : T.tab k = some (.ir (T.fn d)) := by unfold Txt.tab; rw [hd]; rfl
    have hev : ∀ ds, evFn T.tab T.wf (n + 1) k ds = if ds.length = d.ps.length then endS (T.fn d) (evS (T.ec n) (T.fn d).body (startE (T.fn d) ds)) else .stuck := fun ds => by
      have e2 : (⟨evFn T.tab T.wf n, T.tab.io, T.wf⟩ : EC) = T.ec n := by
        unfold Txt.ec
        congr 1
        funext k
        exact T.io_eq k
      rw [evFn, htab]
      show (if ds.length = d.ps.length then endS (T.fn d) (evS ⟨evFn T.tab T.wf n, T.tab.io, T.wf⟩ (T.fn d).body (startE (T.fn d) ds)) else .stuck) = _
      rw [e2]
    have hioF : T.ioF k = d.io := by unfold Txt.ioF; rw [hd]
    have hps : d.ps.length ≤ d.N.length := by
      have := congrArg List.length S.pre
      rw [List.length_take] at this
      omega
    have hlen : ∀ vs H Q E, spF (T.gh fa K (n + 1)) k vs H Q E → vs.length = d.ps.length := fun vs H Q E h => by
      unfold spF at h
      split at h
      · obtain ⟨G, a, ws, us, xs, ds, rfl, _, _, _, _, dd, h⟩ := h
        have h : (match evFn T.tab T.wf (n + 1) k (.lst xs :: ds) with | .ok d fr io => _ | .exc k x io => _ | .stuck => False) := h
        rw [hev] at h
        by_cases q : (D.lst xs :: ds).length = d.ps.length
        · rw [← q, List.length_cons, List.length_cons, dd.length]
        · rw [if_neg q] at h; exact h.elim
      · obtain ⟨G, ds, _, dd, h⟩ := h
        have h : (match evFn T.tab T.wf (n + 1) k ds with | .ok d fr io => _ | .exc k x io => _ | .stuck => False) := h
        rw [hev] at h
        by_cases q : ds.length = d.ps.length
        · rw [← q, dd.length]
        · rw [if_neg q] at h; exact h.elim
    refine hf.ok S hlen fun cdv A outer s H vs Q E room hsp => ?_
    generalize hX : cxOf (L2.CX P w) P w K mg base d.N d.qual d.scope (fa k) cdv A outer s H E = X
    have own : Own X := by
      rw [← hX]
      exact passes_of rfl
    have ok : Ok X (T.cc d) (T.gh fa K n) := by
      subst hX
      refine ⟨rfl, rfl, rfl, rfl, S.nd, fun x v hv => ?_, fun k => rfl, ?_, fun _ _ _ _ h => h, fun _ _ => rfl⟩
      · have := top.gl x v hv
        cases v with
        | fn j =>
          obtain ⟨h1, h2⟩ := this
          have hj := List.getElem?_eq_getElem h2
          obtain ⟨fd2, f2, b2, _⟩ := top.fn j _ hj
          exact ⟨h1, f2.kp, fd2, _, n, defs_ok top n j _ hj fd2 f2, room, b2⟩
        | cst d => exact this
        | bi b => exact this
        | exc k => trivial
      · have := room.un
        show (A.deeper _).units + 65 < cLine
        omega
    refine ⟨RS (T.gh fa K n) d.io (T.fn d).body, cSs_ok (cS_ok _ T.m T.m) ok own d.body, ?_⟩
    unfold spF at hsp
    by_cases hi : T.ioF k = true
    · rw [if_pos (show (T.gh fa K (n + 1)).C.io k = true from hi)] at hsp
      obtain ⟨G, a, ws, us, xs, ds, rfl, sp, ha, dw, hG, dd, h⟩ := hsp
      have h : (match evFn T.tab T.wf (n + 1) k (.lst xs :: ds) with
        | .ok d fr io => ∀ v H' G' ws', GrowI a G H G' H' → H' a = some (.lst ws') → DgAll fa K G' ws' io → RV fa K H G' H' (if fr then .fr d else .fz d) v → Q v H'
        | .exc k x io => ∀ cls dd H' G' ws', GrowI a G H G' H' → H' a = some (.lst ws') → DgAll fa K G' ws' io → False → E cls dd H'
        | .stuck => False) := h
      rw [hev] at h
      by_cases q : (D.lst xs :: ds).length = d.ps.length
      · rw [if_pos q] at h
        refine run_io (g := T.gh fa K n) (F := T.fn d) rfl q hps (show d.io = true by rw [← hioF]; exact hi) sp ha dw hG dd (fun _ _ _ _ _ h => h) ?_
        show (match endS (T.fn d) (evS (T.ec n) (T.fn d).body (startE (T.fn d) (.lst xs :: ds))) with | .ok d fr io => _ | .exc _ _ _ => True | .stuck => False)
        cases qe : endS (T.fn d) (evS (T.ec n) (T.fn d).body (startE (T.fn d) (.lst xs :: ds))) with
        | stuck => rw [qe] at h; exact h
        | exc _ _ _ => trivial
        | ok d2 fr io => rw [qe] at h; exact h
      · rw [if_neg q] at h; exact h.elim
    · rw [if_neg (show ¬ (T.gh fa K (n + 1)).C.io k = true from hi)] at hsp
      obtain ⟨G, ds, sp, dd, h⟩ := hsp
      have h : (match evFn T.tab T.wf (n + 1) k ds with
        | .ok d fr _ => ∀ v H' G', Grow G H G' H' → RV fa K H G' H' (if fr then .fr d else .fz d) v → Q v H'
        | .exc k a _ => ∀ cls dd H' G', Grow G H G' H' → False → E cls dd H'
        | .stuck => False) := h
      rw [hev] at h
      by_cases q : ds.length = d.ps.length
      · rw [if_pos q] at h
        refine run_plain (g := T.gh fa K n) (F := T.fn d) rfl q hps (show d.io = false by rw [← hioF]; simpa using hi) sp dd (fun _ _ _ _ _ h => h) ?_
        show (match endS (T.fn d) (evS (T.ec n) (T.fn d).body (startE (T.fn d) ds)) with | .ok d fr _ => _ | .exc _ _ _ => True | .stuck => False)
        cases qe : endS (T.fn d) (evS (T.ec n) (T.fn d).body (startE (T.fn d) ds)) with
        | stuck => rw [qe] at h; exact h
        | exc _ _ _ => trivial
        | ok d2 fr io => rw [qe] at h; exact h
      · rw [if_neg q] at h; exact h.elim
end
end Ev
end
section
set_option linter.all false
set_option maxRecDepth 100000
namespace Ev
open PySem PySem.Spec PyProof.Rows L2

def Dat.dd (d : Dat) : He.DefD := ⟨(d.name, none), d.name, d.qual, d.params, d.body, d.scope, [], []⟩
def Txt.ddl (T : Txt) : List He.DefD := T.defs.map Dat.dd
def faGlo (x : Str) : He.Fa → Bool
  | .glo y => x == y
  | _ => false
def faFree (x : Str) : He.Fa → Bool
  | .free y => x == y
  | _ => false
def faInt (x : Str) (i : Int) : He.Fa → Bool
  | .int y j => x == y && decide (i = j)
  | _ => false
def isFnKind : ScopeKind → Bool
  | .function => true
  | _ => false
def isLoc : Option NameKind → Bool
  | some .local => true
  | some .cell => true
  | _ => false
def isFreeK : NameKind → Bool
  | .free => true
  | _ => false
def Dat.okB (d : Dat) : Bool :=
  isFnKind d.scope.kind && !d.scope.isCoroutine && !d.scope.isGenerator && decide d.N.Nodup && decide (d.N.take d.ps.length = d.ps) &&
  d.ps.all (fun x => isLoc (d.scope.names.lookup x)) && d.scope.names.all (fun y => !isFreeK y.2) && (!d.io || decide (0 < d.ps.length))
theorem okB_scope {d : Dat} (h : d.okB = true) : FnScope d.N d.ps d.scope ∧ (d.io = true → 0 < d.ps.length) := by
  unfold Dat.okB at h
  simp only [Bool.and_eq_true, Bool.not_eq_true', decide_eq_true_eq, List.all_eq_true, Bool.or_eq_true] at h
  obtain ⟨⟨⟨⟨⟨⟨⟨h1, h2⟩, h3⟩, h4⟩, h5⟩, h6⟩, h7⟩, h8⟩ := h
  refine ⟨⟨?_, h2, h3, h4, h5, fun x hx => ?_, fun y hy e => ?_⟩, fun e => ?_⟩
  · unfold isFnKind at h1
    split at h1
    · assumption
    · cases h1
  · have := h6 x hx
    unfold isLoc at this
    split at this
    · exact .inl ‹_›
    · exact .inr ‹_›
    · cases this
  · have := h7 y hy
    rw [e] at this
    cases this
  · rcases h8 with h8 | h8
    · rw [e] at h8; cases h8
    · exact h8
def glB (fa : List He.Fa) (T : Txt) : Str × GV → Bool
  | (x, .fn k) => (match T.defs[k]? with
    | some d => d.name == x
    | none => false) && fa.any (faGlo x)
  | (x, .cst (.int i)) => fa.any (faInt x i)
  | (_, .cst _) => false
  | (x, .bi b) => (match biNames[b]? with
    | some y => x == Str.ofString y
    | none => false) && fa.any (faFree x)
  | (_, .exc _) => true
def BindP (d : Dat) : Prop := ∀ (kV doc pm : Value) (an : Option Addr) (cdv ct : Value) (us : List Value), us.length = d.ps.length → bindArgs (PySem.W.fnOf d.name d.qual d.params d.body d.scope .none kV doc pm an cdv ct) ⟨us, []⟩ = pure (d.ps.zip us)
inductive AllB : List Dat → Prop
  | nil : AllB []
  | cons {d l} : BindP d → AllB l → AllB (d :: l)
theorem AllB.app {l m : List Dat} (h : AllB l) (k : AllB m) : AllB (l ++ m) := by
  induction h with
  | nil => exact k
  | cons b _ ih => exact .cons b ih
theorem AllB.mem {l : List Dat} (h : AllB l) : ∀ d ∈ l, BindP d := by
  induction h with
  | nil => exact fun _ h => nomatch h
  | cons b _ ih =>
    intro d hd
    rcases List.mem_cons.mp hd with rfl | hd
    · exact b
    · exact ih d hd
theorem any_at {α : Type} {p : α → Bool} {l : List α} (h : l.any p = true) : ∃ (i : Nat) (x : α), l[i]? = some x ∧ p x = true := by
  obtain ⟨x, h1, h2⟩ := List.any_eq_true.mp h
  obtain ⟨i, hi, e⟩ := List.getElem_of_mem h1
  exact ⟨i, x, by rw [List.getElem?_eq_getElem hi, e], h2⟩
theorem lookup_mem {α : Type} {l : List (Str × α)} {x : Str} {v : α} (h : l.lookup x = some v) : (x, v) ∈ l := by
  induction l with
  | nil => cases h
  | cons p l ih =>
    obtain ⟨y, u⟩ := p
    rw [List.lookup_cons] at h
    split at h
    · rename_i e
      cases h
      rw [LawfulBEq.eq_of_beq e]
      exact List.mem_cons_self
    · exact List.mem_cons_of_mem _ (ih h)
section
variable {T : Txt} {FA : List He.Fa} {K : PySem.W.Frag} {h : Heap} {mg : Str → Option Value}
theorem fa_glo (X : K.In h) (G : h.Ns mainGlobals mg) (c : He.SaysD FA T.ddl K) {x : Str} (e : FA.any (faGlo x) = true) : mg x = some (.ref (He.ga K x)) := by
  obtain ⟨i, f, h1, h2⟩ := any_at e
  cases f with
  | glo y =>
    obtain rfl : x = y := LawfulBEq.eq_of_beq h2
    exact He.glo_ok X G (c.fact i h1)
  | _ => cases h2
theorem fa_free (X : K.In h) (G : h.Ns mainGlobals mg) (c : He.SaysD FA T.ddl K) {x : Str} (e : FA.any (faFree x) = true) : mg x = none := by
  obtain ⟨i, f, h1, h2⟩ := any_at e
  cases f with
  | free y =>
    obtain rfl : x = y := LawfulBEq.eq_of_beq h2
    exact He.free_ok X G (c.fact i h1)
  | _ => cases h2
theorem fa_int (X : K.In h) (G : h.Ns mainGlobals mg) (c : He.SaysD FA T.ddl K) {x : Str} {j : Int} (e : FA.any (faInt x j) = true) : ∃ t, mg x = some (.int j t) := by
  obtain ⟨i, f, h1, h2⟩ := any_at e
  cases f with
  | int y k =>
    unfold faInt at h2
    rw [Bool.and_eq_true, decide_eq_true_eq] at h2
    obtain rfl : x = y := LawfulBEq.eq_of_beq h2.1
    obtain rfl := h2.2
    exact He.int_ok X G (c.fact i h1)
  | _ => cases h2
def Txt.fa (T : Txt) (K : PySem.W.Frag) (k : Nat) : Addr := He.ga K ((T.defs[k]?.map Dat.name).getD Str.empty)
theorem Top.of (X : K.In h) (G : h.Ns mainGlobals mg) (c : He.SaysD FA T.ddl K) (hd : T.defs.all Dat.okB = true) (hg : T.gl.all (glB FA T) = true) (hb : AllB T.defs) : Top T (T.fa K) K mg := by
  refine ⟨fun k d e => ?_, fun x v e => ?_⟩
  · have e2 : T.ddl[k]? = some d.dd := by
      unfold Txt.ddl
      rw [List.getElem?_map, e]
      rfl
    obtain ⟨fd, F⟩ := c.def_ k e2
    have ea : T.fa K k = He.fAd K d.dd.at_ := by
      unfold Txt.fa
      rw [e]
      rfl
    rw [ea]
    have hm : d ∈ T.defs := by
      obtain ⟨hi, e⟩ := List.getElem?_eq_some_iff.mp e
      rw [← e]
      exact List.getElem_mem hi
    have F2 : FunD K d.name d.qual d.params d.body d.scope [] [] (He.fAd K d.dd.at_) fd := F
    obtain ⟨s1, s2⟩ := okB_scope (List.all_eq_true.mp hd d hm)
    exact ⟨fd, F2, F2.bindsN (hb.mem d hm), s1, s2⟩
  · have := List.all_eq_true.mp hg _ (lookup_mem e)
    cases v with
    | fn k =>
      simp only [glB, Bool.and_eq_true] at this
      obtain ⟨h1, h2⟩ := this
      cases q : T.defs[k]? with
      | none => rw [q] at h1; cases h1
      | some d =>
        rw [q] at h1
        have e3 : d.name = x := LawfulBEq.eq_of_beq h1
        refine ⟨?_, (List.getElem?_eq_some_iff.mp q).1⟩
        unfold Txt.fa
        rw [q]
        show mg x = some (.ref (He.ga K d.name))
        rw [e3]
        exact fa_glo X G c h2
    | cst d =>
      cases d with
      | int i =>
        obtain ⟨t, ht⟩ := fa_int X G c (j := i) this
        exact ⟨_, .int i, ht, ⟨t, rfl⟩, fun G => .int i⟩
      | _ => cases this
    | bi b =>
      simp only [glB, Bool.and_eq_true] at this
      obtain ⟨h1, h2⟩ := this
      refine ⟨fa_free X G c h2, ?_⟩
      cases q : biNames[b]? with
      | none => rw [q] at h1; cases h1
      | some y =>
        rw [q] at h1
        exact ⟨y, rfl, LawfulBEq.eq_of_beq h1⟩
    | exc _ => trivial
theorem law_F {P : Program} {w : World} {n L : Nat} {dL : Dat} {fa0 : Addr} {x : Str} (X : K.In h) (G : h.Ns mainGlobals mg) (c : He.SaysD FA T.ddl K) (hd : T.defs.all Dat.okB = true) (hg : T.gl.all (glB FA T) = true) (hb : AllB T.defs)
    (hL : T.defs[L]? = some dL) (hps : dL.ps = [x]) (hio : dL.io = false) (hfa : FA.any (faGlo dL.name) = true) (hmg : mg dL.name = some (.ref fa0))
    (hev : ∀ ns : List Int, ns.length ≤ 63 → ∃ io, evFn T.tab T.wf n L [.ro ns] = .ok (.bl true) false io) :
    ∃ (K : PySem.W.Frag) (fd : FuncData) (sp : Sp), K.In h ∧ (∀ (s : Shared) (u : Value), BindsTo s fd ⟨[u], []⟩ [(x, u)]) ∧
      (∀ (H : Hp) (a : Addr) (ns : List Int), ns.length ≤ 63 → Only H → SqL K H a (ns.map V.int) → sp [.ref a] H (fun v _ => v = .bl true) fun _ _ _ => False) ∧
      ∀ base : Heap, K.In base → base.Ns mainGlobals mg → FnOk P w K mg base (L2.CX P w) n fa0 fd [x] sp := by
  have top : Top T (T.fa K) K mg := Top.of X G c hd hg hb
  obtain ⟨fd, F, B, S, _⟩ := top.fn L dL hL
  have e : T.fa K L = fa0 := by
    have h1 := fa_glo X G c hfa
    rw [hmg] at h1
    unfold Txt.fa
    rw [hL]
    show He.ga K dL.name = fa0
    cases h1
    rfl
  have hm : dL ∈ T.defs := by
    obtain ⟨hi, e⟩ := List.getElem?_eq_some_iff.mp hL
    rw [← e]
    exact List.getElem_mem hi
  have b := FunD.bindsA F (hb.mem dL hm)
  rw [hps] at b
  refine ⟨K, fd, spF (T.gh (T.fa K) K n) L, X, fun s u => b s [u] rfl, fun H a ns hl ho hS => ?_, fun base _ _ => ?_⟩
  · have hi : (T.gh (T.fa K) K n).C.io L = false := by
      show T.ioF L = false
      unfold Txt.ioF
      rw [hL]
      exact hio
    obtain ⟨io, hE⟩ := hev ns hl
    unfold spF
    rw [if_neg (by rw [hi]; exact Bool.false_ne_true)]
    refine ⟨H, [.ro ns], Sup.refl H, .cons (.ro hS) .nil, ?_⟩
    · show (match evFn T.tab T.wf n L [.ro ns] with | .ok d fr _ => _ | .exc k a _ => _ | .stuck => False)
      rw [hE]
      intro v H' G' _ r
      cases r
      rfl
  · rw [← hps, ← e]
    exact defs_ok top n L dL hL fd F
end
theorem law_walk {l : PySem.W.OpenLaw} {T : Txt} {FA : List He.Fa} {q : Program} {loose : List Str}
    {XP : (Str → Option Value) → Heap → Prop} {YP : World → Heap → Prop}
    {d : DefRec} {n L : Nat} {dL : Dat} {x : Str}
    (hn : l.most = some 63) (hdf : d.params.defaults = []) (hr : Room n callerA)
    (hY : ∀ w h, YP w h → ∃ K : PySem.W.Frag, K.In h ∧ He.SaysD FA T.ddl K) (hdn : d.name = dL.name)
    (hd : T.defs.all Dat.okB = true) (hg : T.gl.all (glB FA T) = true) (hb : AllB T.defs)
    (hL : T.defs[L]? = some dL) (hps : dL.ps = [x]) (hio : dL.io = false) (hfa : FA.any (faGlo dL.name) = true)
    (hev : ∀ ns : List Int, ns.length ≤ 63 → ∃ io, evFn T.tab T.wf n L [.ro ns] = .ok (.bl true) false io) :
    PySem.W.WalkO q loose XP YP l.row.toRowW d [] (fun f vs => PySem.call f vs) := by
  refine Att.attach_call hn hdf ?_
  intro w s₀ s₁ mg mb fa0 o pm cd doc a vs ns Gd Y _ _ _ hmg hobj hints hlen hgens
  obtain ⟨K, KX, c⟩ := hY w _ Y
  rw [hdn] at hmg
  obtain ⟨K2, fd, sp, KX2, bs, hs, hF⟩ := law_F (P := l.prog) (w := w) KX Gd.T.g c hd hg hb hL hps hio hfa hmg hev
  refine law_call KX2 Gd.T.g Gd.T.b Gd.T.builtins Gd.T.nolimit hgens hobj hints
    (Nat.le_trans hlen (by decide)) hr hF bs (fun H ho hS => hs H a ns hlen ho hS) ?_
  intro H e s' z
  obtain ⟨_, _, _, _, _, _, _, _, _, _, _, _, z⟩ := z
  exact z
end Ev
end
section
set_option Elab.async false
set_option linter.all false
set_option maxRecDepth 100000
set_option maxHeartbeats 0
namespace Hd
open PySem PySem.Spec PyProof.Rows L2 Ev
def top (i : Nat) : Stmt := PySem.Challenge.pw_ascentrows_k38_main_rows_and_orders_of_n.main.body.getD i (.Pass ⟨0, 0, 0, 0⟩)
def d0 : Dat := ⟨(Str.ofString "is_number"), (Str.ofString "is_number"), defArgs (top 4), defBody (top 4), defScope (top 4), [(Str.ofString "thing")], [(Str.ofString "thing")], false⟩
def d1 : Dat := ⟨(Str.ofString "is_within"), (Str.ofString "is_within"), defArgs (top 5), defBody (top 5), defScope (top 5), [(Str.ofString "thing"), (Str.ofString "least"), (Str.ofString "most")], [(Str.ofString "thing"), (Str.ofString "least"), (Str.ofString "most")], false⟩
def d2 : Dat := ⟨(Str.ofString "sure_within"), (Str.ofString "sure_within"), defArgs (top 6), defBody (top 6), defScope (top 6), [(Str.ofString "thing"), (Str.ofString "least"), (Str.ofString "most")], [(Str.ofString "thing"), (Str.ofString "least"), (Str.ofString "most")], false⟩
def d3 : Dat := ⟨(Str.ofString "are_within"), (Str.ofString "are_within"), defArgs (top 7), defBody (top 7), defScope (top 7), [(Str.ofString "thing"), (Str.ofString "least"), (Str.ofString "most"), (Str.ofString "own")], [(Str.ofString "thing"), (Str.ofString "least"), (Str.ofString "most")], false⟩
def d4 : Dat := ⟨(Str.ofString "tupled"), (Str.ofString "tupled"), defArgs (top 8), defBody (top 8), defScope (top 8), [(Str.ofString "value"), (Str.ofString "own")], [(Str.ofString "value")], false⟩
def d5 : Dat := ⟨(Str.ofString "rises_in"), (Str.ofString "rises_in"), defArgs (top 11), defBody (top 11), defScope (top 11), [(Str.ofString "row"), (Str.ofString "own"), (Str.ofString "later")], [(Str.ofString "row")], false⟩
def d6 : Dat := ⟨(Str.ofString "first_wrong"), (Str.ofString "first_wrong"), defArgs (top 12), defBody (top 12), defScope (top 12), [(Str.ofString "numbers"), (Str.ofString "most"), (Str.ofString "place"), (Str.ofString "own")], [(Str.ofString "numbers")], false⟩
def d7 : Dat := ⟨(Str.ofString "is_ascents_in"), (Str.ofString "is_ascents_in"), defArgs (top 13), defBody (top 13), defScope (top 13), [(Str.ofString "thing")], [(Str.ofString "thing")], false⟩
def d8 : Dat := ⟨(Str.ofString "sure_ascents"), (Str.ofString "sure_ascents"), defArgs (top 14), defBody (top 14), defScope (top 14), [(Str.ofString "value"), (Str.ofString "own")], [(Str.ofString "value")], false⟩
def d9 : Dat := ⟨(Str.ofString "rises"), (Str.ofString "rises"), defArgs (top 15), defBody (top 15), defScope (top 15), [(Str.ofString "row")], [(Str.ofString "row")], false⟩
def d10 : Dat := ⟨(Str.ofString "is_numbers_in"), (Str.ofString "is_numbers_in"), defArgs (top 17), defBody (top 17), defScope (top 17), [(Str.ofString "thing")], [(Str.ofString "thing")], false⟩
def d11 : Dat := ⟨(Str.ofString "sure_numbers"), (Str.ofString "sure_numbers"), defArgs (top 18), defBody (top 18), defScope (top 18), [(Str.ofString "value"), (Str.ofString "own")], [(Str.ofString "value")], false⟩
def d12 : Dat := ⟨(Str.ofString "bar_in"), (Str.ofString "bar_in"), defArgs (top 19), defBody (top 19), defScope (top 19), [(Str.ofString "numbers"), (Str.ofString "p"), (Str.ofString "q")], [(Str.ofString "numbers")], false⟩
def d13 : Dat := ⟨(Str.ofString "sites_in"), (Str.ofString "sites_in"), defArgs (top 20), defBody (top 20), defScope (top 20), [(Str.ofString "numbers"), (Str.ofString "found"), (Str.ofString "place"), (Str.ofString "own")], [(Str.ofString "numbers")], false⟩
def d14 : Dat := ⟨(Str.ofString "put_at"), (Str.ofString "put_at"), defArgs (top 21), defBody (top 21), defScope (top 21), [(Str.ofString "numbers"), (Str.ofString "gap")], [(Str.ofString "numbers"), (Str.ofString "gap")], false⟩
def d15 : Dat := ⟨(Str.ofString "numbers_from"), (Str.ofString "numbers_from"), defArgs (top 22), defBody (top 22), defScope (top 22), [(Str.ofString "row"), (Str.ofString "found"), (Str.ofString "own")], [(Str.ofString "row")], false⟩
def d16 : Dat := ⟨(Str.ofString "sites_taken"), (Str.ofString "sites_taken"), defArgs (top 23), defBody (top 23), defScope (top 23), [(Str.ofString "numbers"), (Str.ofString "found"), (Str.ofString "left"), (Str.ofString "place")], [(Str.ofString "numbers")], false⟩
def d17 : Dat := ⟨(Str.ofString "sure_open"), (Str.ofString "sure_open"), defArgs (top 24), defBody (top 24), defScope (top 24), [(Str.ofString "value"), (Str.ofString "own")], [(Str.ofString "value")], false⟩
def d18 : Dat := ⟨(Str.ofString "is_barred"), (Str.ofString "is_barred"), defArgs (top 25), defBody (top 25), defScope (top 25), [(Str.ofString "numbers")], [(Str.ofString "numbers")], false⟩
def d19 : Dat := ⟨(Str.ofString "sites"), (Str.ofString "sites"), defArgs (top 26), defBody (top 26), defScope (top 26), [(Str.ofString "numbers")], [(Str.ofString "numbers")], false⟩
def d20 : Dat := ⟨(Str.ofString "put_in"), (Str.ofString "put_in"), defArgs (top 27), defBody (top 27), defScope (top 27), [(Str.ofString "numbers"), (Str.ofString "site"), (Str.ofString "own"), (Str.ofString "goods")], [(Str.ofString "numbers"), (Str.ofString "site")], false⟩
def d21 : Dat := ⟨(Str.ofString "numbers_of_row"), (Str.ofString "numbers_of_row"), defArgs (top 28), defBody (top 28), defScope (top 28), [(Str.ofString "row")], [(Str.ofString "row")], false⟩
def d22 : Dat := ⟨(Str.ofString "row_of_numbers"), (Str.ofString "row_of_numbers"), defArgs (top 29), defBody (top 29), defScope (top 29), [(Str.ofString "numbers")], [(Str.ofString "numbers")], false⟩
def d23 : Dat := ⟨(Str.ofString "_law_box"), (Str.ofString "_law_box"), defArgs (top 31), defBody (top 31), defScope (top 31), [(Str.ofString "script"), (Str.ofString "k"), (Str.ofString "bit_so")], [(Str.ofString "script"), (Str.ofString "k")], false⟩
def d24 : Dat := ⟨(Str.ofString "_law_take"), (Str.ofString "_law_take"), defArgs (top 32), defBody (top 32), defScope (top 32), [(Str.ofString "tin"), (Str.ofString "below_so"), (Str.ofString "drawn_so"), (Str.ofString "once_so"), (Str.ofString "wide_so"), (Str.ofString "twice_so")], [(Str.ofString "tin"), (Str.ofString "below_so")], true⟩
def d25 : Dat := ⟨(Str.ofString "_law_cells"), (Str.ofString "_law_cells"), defArgs (top 33), defBody (top 33), defScope (top 33), [(Str.ofString "script"), (Str.ofString "most_so"), (Str.ofString "cells_so"), (Str.ofString "k"), (Str.ofString "bit_so"), (Str.ofString "at_so")], [(Str.ofString "script"), (Str.ofString "most_so")], false⟩
def d26 : Dat := ⟨(Str.ofString "_law_same"), (Str.ofString "_law_same"), defArgs (top 34), defBody (top 34), defScope (top 34), [(Str.ofString "got"), (Str.ofString "due"), (Str.ofString "mine"), (Str.ofString "its")], [(Str.ofString "got"), (Str.ofString "due")], false⟩
def d27 : Dat := ⟨(Str.ofString "_law_rises"), (Str.ofString "_law_rises"), defArgs (top 35), defBody (top 35), defScope (top 35), [(Str.ofString "row_so"), (Str.ofString "a"), (Str.ofString "b")], [(Str.ofString "row_so")], false⟩
def d28 : Dat := ⟨(Str.ofString "_law_row"), (Str.ofString "_law_row"), defArgs (top 36), defBody (top 36), defScope (top 36), [(Str.ofString "tin"), (Str.ofString "long_so"), (Str.ofString "kind_so"), (Str.ofString "found"), (Str.ofString "k"), (Str.ofString "most_so"), (Str.ofString "own")], [(Str.ofString "tin"), (Str.ofString "long_so")], true⟩
def d29 : Dat := ⟨(Str.ofString "_law_bars"), (Str.ofString "_law_bars"), defArgs (top 37), defBody (top 37), defScope (top 37), [(Str.ofString "numbers_so"), (Str.ofString "found"), (Str.ofString "p"), (Str.ofString "q")], [(Str.ofString "numbers_so")], false⟩
def d30 : Dat := ⟨(Str.ofString "_law_gaps"), (Str.ofString "_law_gaps"), defArgs (top 38), defBody (top 38), defScope (top 38), [(Str.ofString "numbers_so"), (Str.ofString "k")], [(Str.ofString "numbers_so")], false⟩
def d31 : Dat := ⟨(Str.ofString "_law_numbers"), (Str.ofString "_law_numbers"), defArgs (top 39), defBody (top 39), defScope (top 39), [(Str.ofString "row_so"), (Str.ofString "found"), (Str.ofString "own"), (Str.ofString "at_so")], [(Str.ofString "row_so")], false⟩
def d32 : Dat := ⟨(Str.ofString "_law_open"), (Str.ofString "_law_open"), defArgs (top 40), defBody (top 40), defScope (top 40), [(Str.ofString "numbers_so"), (Str.ofString "k")], [(Str.ofString "numbers_so")], false⟩
def d33 : Dat := ⟨(Str.ofString "_law_lap_one"), (Str.ofString "_law_lap_one"), defArgs (top 41), defBody (top 41), defScope (top 41), [(Str.ofString "tin"), (Str.ofString "row_so"), (Str.ofString "due"), (Str.ofString "k"), (Str.ofString "own")], [(Str.ofString "tin")], true⟩
def d34 : Dat := ⟨(Str.ofString "_law_long"), (Str.ofString "_law_long"), defArgs (top 42), defBody (top 42), defScope (top 42), [(Str.ofString "tin"), (Str.ofString "row_so"), (Str.ofString "found"), (Str.ofString "own"), (Str.ofString "at_so")], [(Str.ofString "tin")], true⟩
def d35 : Dat := ⟨(Str.ofString "law"), (Str.ofString "law"), defArgs (top 43), defBody (top 43), defScope (top 43), [(Str.ofString "script"), (Str.ofString "tin"), (Str.ofString "lap"), (Str.ofString "up")], [(Str.ofString "script")], false⟩
theorem b0 : BindP d0 := fun _ _ _ _ _ _ us hl => match us, hl with | [_], _ => rfl
theorem b1 : BindP d1 := fun _ _ _ _ _ _ us hl => match us, hl with | [_, _, _], _ => rfl
theorem b2 : BindP d2 := fun _ _ _ _ _ _ us hl => match us, hl with | [_, _, _], _ => rfl
theorem b3 : BindP d3 := fun _ _ _ _ _ _ us hl => match us, hl with | [_, _, _], _ => rfl
theorem b4 : BindP d4 := fun _ _ _ _ _ _ us hl => match us, hl with | [_], _ => rfl
theorem b5 : BindP d5 := fun _ _ _ _ _ _ us hl => match us, hl with | [_], _ => rfl
theorem b6 : BindP d6 := fun _ _ _ _ _ _ us hl => match us, hl with | [_], _ => rfl
theorem b7 : BindP d7 := fun _ _ _ _ _ _ us hl => match us, hl with | [_], _ => rfl
theorem b8 : BindP d8 := fun _ _ _ _ _ _ us hl => match us, hl with | [_], _ => rfl
theorem b9 : BindP d9 := fun _ _ _ _ _ _ us hl => match us, hl with | [_], _ => rfl
theorem b10 : BindP d10 := fun _ _ _ _ _ _ us hl => match us, hl with | [_], _ => rfl
theorem b11 : BindP d11 := fun _ _ _ _ _ _ us hl => match us, hl with | [_], _ => rfl
theorem b12 : BindP d12 := fun _ _ _ _ _ _ us hl => match us, hl with | [_], _ => rfl
theorem b13 : BindP d13 := fun _ _ _ _ _ _ us hl => match us, hl with | [_], _ => rfl
theorem b14 : BindP d14 := fun _ _ _ _ _ _ us hl => match us, hl with | [_, _], _ => rfl
theorem b15 : BindP d15 := fun _ _ _ _ _ _ us hl => match us, hl with | [_], _ => rfl
theorem b16 : BindP d16 := fun _ _ _ _ _ _ us hl => match us, hl with | [_], _ => rfl
theorem b17 : BindP d17 := fun _ _ _ _ _ _ us hl => match us, hl with | [_], _ => rfl
theorem b18 : BindP d18 := fun _ _ _ _ _ _ us hl => match us, hl with | [_], _ => rfl
theorem b19 : BindP d19 := fun _ _ _ _ _ _ us hl => match us, hl with | [_], _ => rfl
theorem b20 : BindP d20 := fun _ _ _ _ _ _ us hl => match us, hl with | [_, _], _ => rfl
theorem b21 : BindP d21 := fun _ _ _ _ _ _ us hl => match us, hl with | [_], _ => rfl
theorem b22 : BindP d22 := fun _ _ _ _ _ _ us hl => match us, hl with | [_], _ => rfl
theorem b23 : BindP d23 := fun _ _ _ _ _ _ us hl => match us, hl with | [_, _], _ => rfl
theorem b24 : BindP d24 := fun _ _ _ _ _ _ us hl => match us, hl with | [_, _], _ => rfl
theorem b25 : BindP d25 := fun _ _ _ _ _ _ us hl => match us, hl with | [_, _], _ => rfl
theorem b26 : BindP d26 := fun _ _ _ _ _ _ us hl => match us, hl with | [_, _], _ => rfl
theorem b27 : BindP d27 := fun _ _ _ _ _ _ us hl => match us, hl with | [_], _ => rfl
theorem b28 : BindP d28 := fun _ _ _ _ _ _ us hl => match us, hl with | [_, _], _ => rfl
theorem b29 : BindP d29 := fun _ _ _ _ _ _ us hl => match us, hl with | [_], _ => rfl
theorem b30 : BindP d30 := fun _ _ _ _ _ _ us hl => match us, hl with | [_], _ => rfl
theorem b31 : BindP d31 := fun _ _ _ _ _ _ us hl => match us, hl with | [_], _ => rfl
theorem b32 : BindP d32 := fun _ _ _ _ _ _ us hl => match us, hl with | [_], _ => rfl
theorem b33 : BindP d33 := fun _ _ _ _ _ _ us hl => match us, hl with | [_], _ => rfl
theorem b34 : BindP d34 := fun _ _ _ _ _ _ us hl => match us, hl with | [_], _ => rfl
theorem b35 : BindP d35 := fun _ _ _ _ _ _ us hl => match us, hl with | [_], _ => rfl
def dl : List Dat := ([d0, d1, d2, d3, d4, d5, d6, d7, d8, d9, d10, d11, d12, d13, d14, d15, d16, d17, d18, d19] : List Dat) ++ ([d20, d21, d22, d23, d24, d25, d26, d27, d28, d29, d30, d31, d32, d33, d34, d35] : List Dat)
theorem bl : AllB dl := 
  AllB.app (.cons b0 (.cons b1 (.cons b2 (.cons b3 (.cons b4 (.cons b5 (.cons b6 (.cons b7 (.cons b8 (.cons b9 (.cons b10 (.cons b11 (.cons b12 (.cons b13 (.cons b14 (.cons b15 (.cons b16 (.cons b17 (.cons b18 (.cons b19 (.nil))))))))))))))))))))) (.cons b20 (.cons b21 (.cons b22 (.cons b23 (.cons b24 (.cons b25 (.cons b26 (.cons b27 (.cons b28 (.cons b29 (.cons b30 (.cons b31 (.cons b32 (.cons b33 (.cons b34 (.cons b35 (.nil)))))))))))))))))
def gl : List (Str × GV) := ([((Str.ofString "is_number"), .fn 0), ((Str.ofString "is_within"), .fn 1), ((Str.ofString "sure_within"), .fn 2), ((Str.ofString "are_within"), .fn 3), ((Str.ofString "tupled"), .fn 4), ((Str.ofString "rises_in"), .fn 5), ((Str.ofString "first_wrong"), .fn 6), ((Str.ofString "is_ascents_in"), .fn 7), ((Str.ofString "sure_ascents"), .fn 8), ((Str.ofString "rises"), .fn 9), ((Str.ofString "is_numbers_in"), .fn 10), ((Str.ofString "sure_numbers"), .fn 11), ((Str.ofString "bar_in"), .fn 12), ((Str.ofString "sites_in"), .fn 13), ((Str.ofString "put_at"), .fn 14), ((Str.ofString "numbers_from"), .fn 15), ((Str.ofString "sites_taken"), .fn 16), ((Str.ofString "sure_open"), .fn 17), ((Str.ofString "is_barred"), .fn 18), ((Str.ofString "sites"), .fn 19)] : List (Str × GV)) ++ ([((Str.ofString "put_in"), .fn 20), ((Str.ofString "numbers_of_row"), .fn 21), ((Str.ofString "row_of_numbers"), .fn 22), ((Str.ofString "_law_box"), .fn 23), ((Str.ofString "_law_take"), .fn 24), ((Str.ofString "_law_cells"), .fn 25), ((Str.ofString "_law_same"), .fn 26), ((Str.ofString "_law_rises"), .fn 27), ((Str.ofString "_law_row"), .fn 28), ((Str.ofString "_law_bars"), .fn 29), ((Str.ofString "_law_gaps"), .fn 30), ((Str.ofString "_law_numbers"), .fn 31), ((Str.ofString "_law_open"), .fn 32), ((Str.ofString "_law_lap_one"), .fn 33), ((Str.ofString "_law_long"), .fn 34), ((Str.ofString "law"), .fn 35), ((Str.ofString "CanNot"), .exc 0), ((Str.ofString "Unfit"), .exc 1), ((Str.ofString "MOST_LONG"), .cst (.int (60))), ((Str.ofString "len"), .bi 0)] : List (Str × GV)) ++ ([((Str.ofString "abs"), .bi 1), ((Str.ofString "int"), .bi 2), ((Str.ofString "str"), .bi 3), ((Str.ofString "sum"), .bi 4), ((Str.ofString "max"), .bi 5), ((Str.ofString "min"), .bi 6), ((Str.ofString "sorted"), .bi 7), ((Str.ofString "list"), .bi 8), ((Str.ofString "tuple"), .bi 9), ((Str.ofString "all"), .bi 10), ((Str.ofString "any"), .bi 11), ((Str.ofString "range"), .bi 12), ((Str.ofString "enumerate"), .bi 13), ((Str.ofString "zip"), .bi 14), ((Str.ofString "set"), .bi 15), ((Str.ofString "isinstance"), .bi 16), ((Str.ofString "bool"), .bi 17)] : List (Str × GV))
def tx : Txt := ⟨dl, gl, 60, 1000⟩
end Hd
end
section
set_option Elab.async false
set_option linter.all false
set_option maxRecDepth 100000
set_option maxHeartbeats 0
namespace Hd
open PySem PySem.Spec PyProof.Rows L2 Ev
abbrev fn : List He.DefD := tx.ddl
def fa : List He.Fa := ([.glo (Str.ofString "is_number"), .glo (Str.ofString "is_within"), .glo (Str.ofString "sure_within"), .glo (Str.ofString "are_within"), .glo (Str.ofString "tupled"), .glo (Str.ofString "rises_in"), .glo (Str.ofString "first_wrong"), .glo (Str.ofString "is_ascents_in"), .glo (Str.ofString "sure_ascents"), .glo (Str.ofString "rises"), .glo (Str.ofString "is_numbers_in"), .glo (Str.ofString "sure_numbers"), .glo (Str.ofString "bar_in"), .glo (Str.ofString "sites_in"), .glo (Str.ofString "put_at"), .glo (Str.ofString "numbers_from"), .glo (Str.ofString "sites_taken"), .glo (Str.ofString "sure_open"), .glo (Str.ofString "is_barred"), .glo (Str.ofString "sites")] : List (He.Fa)) ++ ([.glo (Str.ofString "put_in"), .glo (Str.ofString "numbers_of_row"), .glo (Str.ofString "row_of_numbers"), .glo (Str.ofString "_law_box"), .glo (Str.ofString "_law_take"), .glo (Str.ofString "_law_cells"), .glo (Str.ofString "_law_same"), .glo (Str.ofString "_law_rises"), .glo (Str.ofString "_law_row"), .glo (Str.ofString "_law_bars"), .glo (Str.ofString "_law_gaps"), .glo (Str.ofString "_law_numbers"), .glo (Str.ofString "_law_open"), .glo (Str.ofString "_law_lap_one"), .glo (Str.ofString "_law_long"), .glo (Str.ofString "law"), .free (Str.ofString "len"), .free (Str.ofString "abs"), .free (Str.ofString "int"), .free (Str.ofString "str")] : List (He.Fa)) ++ ([.free (Str.ofString "sum"), .free (Str.ofString "max"), .free (Str.ofString "min"), .free (Str.ofString "sorted"), .free (Str.ofString "list"), .free (Str.ofString "tuple"), .free (Str.ofString "all"), .free (Str.ofString "any"), .free (Str.ofString "range"), .free (Str.ofString "enumerate"), .free (Str.ofString "zip"), .free (Str.ofString "set"), .free (Str.ofString "isinstance"), .free (Str.ofString "bool"), .int (Str.ofString "MOST_LONG") 60] : List (He.Fa))
def names : List PySem.Str := ([(Str.ofString "CanNot"), (Str.ofString "Unfit"), (Str.ofString "is_number"), (Str.ofString "is_within"), (Str.ofString "sure_within"), (Str.ofString "are_within"), (Str.ofString "tupled"), (Str.ofString "MOST_LONG"), (Str.ofString "rises_in"), (Str.ofString "first_wrong"), (Str.ofString "is_ascents_in"), (Str.ofString "sure_ascents"), (Str.ofString "rises"), (Str.ofString "is_numbers_in"), (Str.ofString "sure_numbers"), (Str.ofString "bar_in"), (Str.ofString "sites_in"), (Str.ofString "put_at"), (Str.ofString "numbers_from"), (Str.ofString "sites_taken")] : List (PySem.Str)) ++ ([(Str.ofString "sure_open"), (Str.ofString "is_barred"), (Str.ofString "sites"), (Str.ofString "put_in"), (Str.ofString "numbers_of_row"), (Str.ofString "row_of_numbers"), (Str.ofString "_law_box"), (Str.ofString "_law_take"), (Str.ofString "_law_cells"), (Str.ofString "_law_same"), (Str.ofString "_law_rises"), (Str.ofString "_law_row"), (Str.ofString "_law_bars"), (Str.ofString "_law_gaps"), (Str.ofString "_law_numbers"), (Str.ofString "_law_open"), (Str.ofString "_law_lap_one"), (Str.ofString "_law_long")] : List (PySem.Str))
theorem okd : tx.defs.all Dat.okB = true := by decide +kernel
theorem okg : tx.gl.all (glB fa tx) = true := by decide +kernel
abbrev R : PySem.W.OpenRow := PySem.W.OpenLaw.row PySem.Challenge.rw_ascentrows_k38_main_rows_and_orders_of_n
abbrev hk : PySem.W.Hook := He.hookD 4 fa fn
def ob (s : PySem.W.SharedT) : He.AlD := He.obsDG 4 fa fn (HandSHeadRun.getT s)
theorem ob_eq (s : PySem.W.SharedT) : ob s = hk.obs s.abs := He.obsDG_eq (HandSHeadRun.getT_eq s)
theorem run (w : World) : HandSHeadRun.RunEq R (PySem.W.view R.prog [43]) hk ob 4000 names w := by
  intro os
  kernel_rfl
end Hd
open PySem PySem.W PySem.Calls PyProof.Rows
theorem holds_of (hev : ∀ ns : List Int, ns.length ≤ 63 → ∃ io, Ev.evFn Hd.tx.tab Hd.tx.wf 16 35 [.ro ns] = .ok (.bl true) false io) : PySem.Challenge.rw_ascentrows_k38_main_rows_and_orders_of_n.Holds := by
  w_on; o_law
  refine HandSHeadRun.head_any (r := Hd.R) (q := view Hd.R.prog [43]) (H := Hd.hk) (ob := Hd.ob) (M := 4000) (loose := Hd.names) (d := HandSHeadRun.topDef Hd.R.prog 43) (kwd := []) Hd.ob_eq
    (by kernel_rfl) (fun s => by kernel_rfl) Hd.run (by kernel_rfl) (by kernel_rfl) (by kernel_rfl) (by rfl) (by first | assumption | decide +kernel) (by decide +kernel) ⟨rfl, rfl, rfl, rfl, rfl, by decide +kernel⟩ ?hw ?hc
  case hw => w_witness2
  case hc =>
    have e : (HandSHeadRun.topDef Hd.R.prog 43).name = Hd.d35.name := by kernel_rfl
    exact Ev.law_walk (T := Hd.tx) (FA := Hd.fa) (n := 16) (L := 35) (dL := Hd.d35) (x := Str.ofString "script") rfl (by kernel_rfl)
      ⟨rfl, by decide, by decide⟩ (fun w h Y => Y) e Hd.okd Hd.okg Hd.bl rfl rfl rfl (by decide +kernel) hev
end
section
set_option Elab.async false
set_option linter.all false
set_option maxRecDepth 100000
set_option maxHeartbeats 0
namespace Lw
open PySem Ev
abbrev kn_is_number : Nat := 0
abbrev kn_is_within : Nat := 1
abbrev kn_sure_within : Nat := 2
abbrev kn_are_within : Nat := 3
abbrev kn_tupled : Nat := 4
abbrev kn_rises_in : Nat := 5
abbrev kn_first_wrong : Nat := 6
abbrev kn_is_ascents_in : Nat := 7
abbrev kn_sure_ascents : Nat := 8
abbrev kn_rises : Nat := 9
abbrev kn_is_numbers_in : Nat := 10
abbrev kn_sure_numbers : Nat := 11
abbrev kn_bar_in : Nat := 12
abbrev kn_sites_in : Nat := 13
abbrev kn_put_at : Nat := 14
abbrev kn_numbers_from : Nat := 15
abbrev kn_sites_taken : Nat := 16
abbrev kn_sure_open : Nat := 17
abbrev kn_is_barred : Nat := 18
abbrev kn_sites : Nat := 19
abbrev kn_put_in : Nat := 20
abbrev kn_numbers_of_row : Nat := 21
abbrev kn_row_of_numbers : Nat := 22
abbrev kn__law_box : Nat := 23
abbrev kn__law_take : Nat := 24
abbrev kn__law_cells : Nat := 25
abbrev kn__law_same : Nat := 26
abbrev kn__law_rises : Nat := 27
abbrev kn__law_row : Nat := 28
abbrev kn__law_bars : Nat := 29
abbrev kn__law_gaps : Nat := 30
abbrev kn__law_numbers : Nat := 31
abbrev kn__law_open : Nat := 32
abbrev kn__law_lap_one : Nat := 33
abbrev kn__law_long : Nat := 34
abbrev kn_law : Nat := 35
def ir_is_number : Fn := ⟨1, 1, false,
  (.ret (.and (.op (.isi [0]) (.cons (.var 0) .nil)) (.not (.op (.isi [1]) (.cons (.var 0) .nil)))))⟩
def ir_is_within : Fn := ⟨3, 3, false,
  (.ret (.and (.call kn_is_number (.cons (.var 0) .nil)) (.chain (.le) (.le) (.var 1) (.var 0) (.var 2))))⟩
def ir_sure_within : Fn := ⟨3, 3, false,
  (.seq
    (.ite (.not (.call kn_is_within (.cons (.var 0) (.cons (.var 1) (.cons (.var 2) .nil)))))
      .nev
      .nop)
    (.ret (.var 0)))⟩
def q_are_within_1s : E := (.cons (.var 0) .nil)
def q_are_within_1t : E := (.cst (.bl true))
def q_are_within_1e : E := (.call kn_is_within (.cons (.var 3) (.cons (.var 1) (.cons (.var 2) .nil))))
def q_are_within_1 : E := .comp [3] (.nm 3) .seq q_are_within_1s q_are_within_1t q_are_within_1e
def ir_are_within : Fn := ⟨3, 4, false,
  (.ret (.and (.op (.isi [4]) (.cons (.var 0) .nil)) (.op (.all) (.cons q_are_within_1 .nil))))⟩
def q_tupled_1s : E := (.cons (.var 0) .nil)
def q_tupled_1t : E := (.cst (.bl true))
def q_tupled_1e : E := (.call kn_tupled (.cons (.var 1) .nil))
def q_tupled_1 : E := .comp [1] (.nm 1) .seq q_tupled_1s q_tupled_1t q_tupled_1e
def ir_tupled : Fn := ⟨1, 2, false,
  (.ret (.ite (.op (.isi [3, 4]) (.cons (.var 0) .nil)) (.op (.tuple) (.cons q_tupled_1 .nil)) (.var 0)))⟩
def q_rises_in_1s : E := (.cons (.var 0) (.cons (.op (.cut true false) (.cons (.var 0) (.cons (.cst (.int 1)) .nil))) .nil))
def q_rises_in_1t : E := (.op (.lt) (.cons (.var 1) (.cons (.var 2) .nil)))
def q_rises_in_1e : E := (.var 1)
def q_rises_in_1 : E := .comp [1, 2] (.tu [1, 2]) .zip2 q_rises_in_1s q_rises_in_1t q_rises_in_1e
def ir_rises_in : Fn := ⟨1, 3, false,
  (.ret (.op (.len) (.cons q_rises_in_1 .nil)))⟩
def q_first_wrong_1s : E := (.cons (.var 0) .nil)
def q_first_wrong_1b : S := (.seq
    (.ite (.op (.gt) (.cons (.var 3) (.cons (.var 1) .nil)))
      (.ret (.var 2))
      .nop)
    (.asg 1 (.op (.add) (.cons (.cst (.int 1)) (.cons (.call kn_rises_in (.cons (.op (.cut false true) (.cons (.var 0) (.cons (.op (.add) (.cons (.var 2) (.cons (.cst (.int 1)) .nil))) .nil))) .nil)) .nil)))))
def q_first_wrong_1 : S := .for (.tu [2, 3]) .enum q_first_wrong_1s q_first_wrong_1b
def ir_first_wrong : Fn := ⟨1, 4, false,
  (.seq
    (.asg 1 (.cst (.int 0)))
    (.seq
      q_first_wrong_1
      (.ret (.cst .non))))⟩
def ir_is_ascents_in : Fn := ⟨1, 1, false,
  (.ret (.and (.call kn_are_within (.cons (.var 0) (.cons (.cst (.int 0)) (.cons (.cst (.int 60)) .nil)))) (.and (.op (.le) (.cons (.op (.len) (.cons (.var 0) .nil)) (.cons (.cst (.int 60)) .nil))) (.op (.isn) (.cons (.call kn_first_wrong (.cons (.var 0) .nil)) .nil)))))⟩
def ir_sure_ascents : Fn := ⟨1, 2, false,
  (.seq
    (.asg 1 (.call kn_tupled (.cons (.var 0) .nil)))
    (.seq
      (.ite (.not (.call kn_is_ascents_in (.cons (.var 1) .nil)))
        .nev
        .nop)
      (.ret (.var 1))))⟩
def ir_rises : Fn := ⟨1, 1, false,
  (.ret (.call kn_rises_in (.cons (.call kn_sure_ascents (.cons (.var 0) .nil)) .nil)))⟩
def ir_is_numbers_in : Fn := ⟨1, 1, false,
  (.ret (.and (.call kn_are_within (.cons (.var 0) (.cons (.cst (.int 1)) (.cons (.cst (.int 60)) .nil)))) (.op (.eq) (.cons (.op (.sorted) (.cons (.var 0) .nil)) (.cons (.op (.lrg2) (.cons (.cst (.int 1)) (.cons (.op (.add) (.cons (.op (.len) (.cons (.var 0) .nil)) (.cons (.cst (.int 1)) .nil))) .nil))) .nil)))))⟩
def ir_sure_numbers : Fn := ⟨1, 2, false,
  (.seq
    (.asg 1 (.call kn_tupled (.cons (.var 0) .nil)))
    (.seq
      (.ite (.not (.call kn_is_numbers_in (.cons (.var 1) .nil)))
        .nev
        .nop)
      (.ret (.var 1))))⟩
def q_bar_in_1s : E := (.cons (.op (.sub) (.cons (.op (.len) (.cons (.var 0) .nil)) (.cons (.cst (.int 1)) .nil))) .nil)
def q_bar_in_1b : S := (.ite (.and (.op (.gt) (.cons (.op (.ix) (.cons (.var 0) (.cons (.var 1) .nil))) (.cons (.cst (.int 1)) .nil))) (.op (.gt) (.cons (.op (.ix) (.cons (.var 0) (.cons (.op (.add) (.cons (.var 1) (.cons (.cst (.int 1)) .nil))) .nil))) (.cons (.op (.ix) (.cons (.var 0) (.cons (.var 1) .nil))) .nil))))
    (.seq
      (.asg 2 (.meth (.index) (.var 0) (.cons (.op (.sub) (.cons (.op (.ix) (.cons (.var 0) (.cons (.var 1) .nil))) (.cons (.cst (.int 1)) .nil))) .nil)))
      (.ite (.op (.gt) (.cons (.var 2) (.cons (.var 1) .nil)))
        (.ret (.tup (.cons (.var 1) (.cons (.var 2) .nil))))
        .nop))
    .nop)
def q_bar_in_1 : S := .for (.nm 1) .rg1 q_bar_in_1s q_bar_in_1b
def ir_bar_in : Fn := ⟨1, 3, false,
  (.seq
    q_bar_in_1
    (.ret (.cst .non)))⟩
def q_sites_in_1s : E := (.cons (.var 0) .nil)
def q_sites_in_1b : S := (.ite (.or (.op (.eq) (.cons (.var 3) (.cons (.cst (.int 1)) .nil))) (.op (.lt) (.cons (.meth (.index) (.var 0) (.cons (.op (.sub) (.cons (.var 3) (.cons (.cst (.int 1)) .nil))) .nil)) (.cons (.var 2) .nil))))
    (.append 1 (.op (.add) (.cons (.var 2) (.cons (.cst (.int 1)) .nil))))
    .nop)
def q_sites_in_1 : S := .for (.tu [2, 3]) .enum q_sites_in_1s q_sites_in_1b
def ir_sites_in : Fn := ⟨1, 4, false,
  (.seq
    (.asg 1 (.lst (.cons (.cst (.int 0)) .nil)))
    (.seq
      q_sites_in_1
      (.ret (.var 1))))⟩
def ir_put_at : Fn := ⟨2, 2, false,
  (.ret (.op (.add) (.cons (.op (.add) (.cons (.op (.cut false true) (.cons (.var 0) (.cons (.var 1) .nil))) (.cons (.tup (.cons (.op (.add) (.cons (.op (.len) (.cons (.var 0) .nil)) (.cons (.cst (.int 1)) .nil))) .nil)) .nil))) (.cons (.op (.cut true false) (.cons (.var 0) (.cons (.var 1) .nil))) .nil))))⟩
def q_numbers_from_1s : E := (.cons (.var 0) .nil)
def q_numbers_from_1b : S := (.asg 1 (.call kn_put_at (.cons (.var 1) (.cons (.op (.ix) (.cons (.call kn_sites_in (.cons (.var 1) .nil)) (.cons (.var 2) .nil))) .nil))))
def q_numbers_from_1 : S := .for (.nm 2) .seq q_numbers_from_1s q_numbers_from_1b
def ir_numbers_from : Fn := ⟨1, 3, false,
  (.seq
    (.asg 1 (.tup .nil))
    (.seq
      q_numbers_from_1
      (.ret (.var 1))))⟩
def q_sites_taken_1c : E := (.op (.ne) (.cons (.var 2) (.cons (.tup .nil) .nil)))
def q_sites_taken_1b : S := (.seq
    (.asg 3 (.meth (.index) (.var 2) (.cons (.op (.len) (.cons (.var 2) .nil)) .nil)))
    (.seq
      (.asg 2 (.op (.add) (.cons (.op (.cut false true) (.cons (.var 2) (.cons (.var 3) .nil))) (.cons (.op (.cut true false) (.cons (.var 2) (.cons (.op (.add) (.cons (.var 3) (.cons (.cst (.int 1)) .nil))) .nil))) .nil))))
      (.append 1 (.meth (.index) (.call kn_sites_in (.cons (.var 2) .nil)) (.cons (.var 3) .nil)))))
def q_sites_taken_1 : S := .while q_sites_taken_1c q_sites_taken_1b
def ir_sites_taken : Fn := ⟨1, 4, false,
  (.seq
    (.par [1, 2] (.cons (.lst .nil) (.cons (.var 0) .nil)))
    (.seq
      q_sites_taken_1
      (.ret (.op (.tuple) (.cons (.op (.rev) (.cons (.var 1) .nil)) .nil)))))⟩
def ir_sure_open : Fn := ⟨1, 2, false,
  (.seq
    (.asg 1 (.call kn_sure_numbers (.cons (.var 0) .nil)))
    (.seq
      (.ite (.op (.isnn) (.cons (.call kn_bar_in (.cons (.var 1) .nil)) .nil))
        .nev
        .nop)
      (.ret (.var 1))))⟩
def ir_is_barred : Fn := ⟨1, 1, false,
  (.ret (.op (.isnn) (.cons (.call kn_bar_in (.cons (.call kn_sure_numbers (.cons (.var 0) .nil)) .nil)) .nil)))⟩
def ir_sites : Fn := ⟨1, 1, false,
  (.ret (.op (.tuple) (.cons (.call kn_sites_in (.cons (.call kn_sure_open (.cons (.var 0) .nil)) .nil)) .nil)))⟩
def ir_put_in : Fn := ⟨2, 4, false,
  (.seq
    (.asg 2 (.call kn_sure_numbers (.cons (.var 0) .nil)))
    (.seq
      (.ite (.op (.isnn) (.cons (.call kn_bar_in (.cons (.var 2) .nil)) .nil))
        .nev
        .nop)
      (.seq
        (.asg 3 (.call kn_sites_in (.cons (.var 2) .nil)))
        (.ret (.call kn_put_at (.cons (.var 2) (.cons (.op (.ix) (.cons (.var 3) (.cons (.call kn_sure_within (.cons (.var 1) (.cons (.cst (.int 0)) (.cons (.op (.sub) (.cons (.op (.len) (.cons (.var 3) .nil)) (.cons (.cst (.int 1)) .nil))) .nil)))) .nil))) .nil)))))))⟩
def ir_numbers_of_row : Fn := ⟨1, 1, false,
  (.ret (.call kn_numbers_from (.cons (.call kn_sure_ascents (.cons (.var 0) .nil)) .nil)))⟩
def ir_row_of_numbers : Fn := ⟨1, 1, false,
  (.ret (.call kn_sites_taken (.cons (.call kn_sure_open (.cons (.var 0) .nil)) .nil)))⟩
def ir__law_box : Fn := ⟨2, 3, false,
  (.seq
    (.asg 2 (.ite (.op (.lt) (.cons (.var 1) (.cons (.op (.len) (.cons (.var 0) .nil)) .nil))) (.op (.ix) (.cons (.var 0) (.cons (.var 1) .nil))) (.cst (.int 0))))
    (.ret (.lst (.cons (.op (.mul) (.cons (.op (.abs) (.cons (.var 2) .nil)) (.cons (.op (.int1) (.cons (.op (.ge) (.cons (.op (.abs) (.cons (.var 2) .nil)) (.cons (.op (.pow) (.cons (.cst (.int 10)) (.cons (.cst (.int 18)) .nil))) .nil))) .nil)) .nil))) (.cons (.op (.add) (.cons (.op (.add) (.cons (.op (.mod) (.cons (.op (.int1) (.cons (.var 2) .nil)) (.cons (.cst (.int 2305843009213693951)) .nil))) (.cons (.op (.mul) (.cons (.cst (.int 39373)) (.cons (.var 1) .nil))) .nil))) (.cons (.cst (.int 25191038)) .nil))) (.cons (.cst (.int 0)) .nil))))))⟩
def ir__law_take : Fn := ⟨2, 6, true,
  (.seq
    (.ite (.op (.gt) (.cons (.op (.ix) (.cons (.var 0) (.cons (.cst (.int 0)) .nil))) (.cons (.cst (.int 0)) .nil)))
      (.seq
        (.asg 2 (.op (.mod) (.cons (.op (.int1) (.cons (.op (.ix) (.cons (.var 0) (.cons (.cst (.int 0)) .nil))) .nil)) (.cons (.var 1) .nil))))
        (.seq
          (.seti 0 (.cst (.int 0)) (.op (.fdiv) (.cons (.op (.ix) (.cons (.var 0) (.cons (.cst (.int 0)) .nil))) (.cons (.var 1) .nil))))
          (.ret (.var 2))))
      .nop)
    (.seq
      (.seti 0 (.cst (.int 2)) (.op (.add) (.cons (.op (.ix) (.cons (.var 0) (.cons (.cst (.int 2)) .nil))) (.cons (.cst (.int 1)) .nil))))
      (.seq
        (.asg 3 (.op (.mod) (.cons (.op (.int1) (.cons (.op (.mul) (.cons (.op (.add) (.cons (.op (.ix) (.cons (.var 0) (.cons (.cst (.int 1)) .nil))) (.cons (.op (.mul) (.cons (.cst (.int 48271)) (.cons (.op (.ix) (.cons (.var 0) (.cons (.cst (.int 2)) .nil))) .nil))) .nil))) (.cons (.op (.add) (.cons (.cst (.int 39373)) (.cons (.op (.ix) (.cons (.var 0) (.cons (.cst (.int 2)) .nil))) .nil))) .nil))) .nil)) (.cons (.cst (.int 2147483647)) .nil))))
        (.seq
          (.asg 4 (.op (.add) (.cons (.op (.mod) (.cons (.op (.int1) (.cons (.var 3) .nil)) (.cons (.cst (.int 40009)) .nil))) (.cons (.cst (.int 7)) .nil))))
          (.seq
            (.asg 5 (.op (.mod) (.cons (.op (.int1) (.cons (.op (.mul) (.cons (.op (.add) (.cons (.op (.add) (.cons (.var 3) (.cons (.op (.ix) (.cons (.var 0) (.cons (.cst (.int 2)) .nil))) .nil))) (.cons (.op (.fdiv) (.cons (.op (.ix) (.cons (.var 0) (.cons (.cst (.int 1)) .nil))) (.cons (.cst (.int 1000003)) .nil))) .nil))) (.cons (.var 4) .nil))) .nil)) (.cons (.cst (.int 2147483629)) .nil))))
            (.ret (.op (.mod) (.cons (.op (.int1) (.cons (.op (.fdiv) (.cons (.op (.mod) (.cons (.op (.int1) (.cons (.op (.add) (.cons (.op (.mul) (.cons (.var 5) (.cons (.cst (.int 48271)) .nil))) (.cons (.var 3) .nil))) .nil)) (.cons (.cst (.int 2147483587)) .nil))) (.cons (.cst (.int 64)) .nil))) .nil)) (.cons (.var 1) .nil)))))))))⟩
def q__law_cells_1s : E := (.cons (.cut2 (.var 0) (.var 1) (.cst (.int 63))) .nil)
def q__law_cells_1b : S := (.seq
    (.asg 5 (.op (.mod) (.cons (.op (.int1) (.cons (.var 3) .nil)) (.cons (.var 1) .nil))))
    (.seti 2 (.var 5) (.op (.add) (.cons (.op (.ix) (.cons (.var 2) (.cons (.var 5) .nil))) (.cons (.op (.mul) (.cons (.var 4) (.cons (.op (.add) (.cons (.var 3) (.cons (.cst (.int 2)) .nil))) .nil))) .nil)))))
def q__law_cells_1 : S := .for (.tu [3, 4]) .enum q__law_cells_1s q__law_cells_1b
def ir__law_cells : Fn := ⟨2, 6, false,
  (.seq
    (.asg 2 (.orL (.op (.list) (.cons (.op (.cut false true) (.cons (.var 0) (.cons (.var 1) .nil))) .nil)) (.lst (.cons (.cst (.int 0)) .nil))))
    (.seq
      q__law_cells_1
      (.ret (.var 2))))⟩
def q__law_same_1s : E := (.cons (.var 0) (.cons (.var 1) .nil))
def q__law_same_1t : E := (.cst (.bl true))
def q__law_same_1e : E := (.call kn__law_same (.cons (.var 2) (.cons (.var 3) .nil)))
def q__law_same_1 : E := .comp [2, 3] (.tu [2, 3]) .zip2 q__law_same_1s q__law_same_1t q__law_same_1e
def ir__law_same : Fn := ⟨2, 4, false,
  (.seq
    (.ite (.op (.isi [3, 4]) (.cons (.var 1) .nil))
      (.seq
        (.ite (.or (.op (.ne) (.cons (.op (.isi [3]) (.cons (.var 0) .nil)) (.cons (.op (.isi [3]) (.cons (.var 1) .nil)) .nil))) (.op (.ne) (.cons (.op (.isi [4]) (.cons (.var 0) .nil)) (.cons (.op (.isi [4]) (.cons (.var 1) .nil)) .nil))))
          (.ret (.cst (.bl false)))
          .nop)
        (.ret (.and (.op (.eq) (.cons (.op (.len) (.cons (.var 0) .nil)) (.cons (.op (.len) (.cons (.var 1) .nil)) .nil))) (.op (.all) (.cons q__law_same_1 .nil)))))
      .nop)
    (.seq
      (.ite (.op (.isn) (.cons (.var 1) .nil))
        (.ret (.op (.isn) (.cons (.var 0) .nil)))
        .nop)
      (.seq
        (.ite (.op (.isi [1, 2]) (.cons (.var 1) .nil))
          (.ret (.and (.op (.eq) (.cons (.op (.isi [1]) (.cons (.var 0) .nil)) (.cons (.op (.isi [1]) (.cons (.var 1) .nil)) .nil))) (.and (.op (.eq) (.cons (.op (.isi [2]) (.cons (.var 0) .nil)) (.cons (.op (.isi [2]) (.cons (.var 1) .nil)) .nil))) (.op (.eq) (.cons (.var 0) (.cons (.var 1) .nil))))))
          .nop)
        (.ret (.and (.op (.isi [0]) (.cons (.var 0) .nil)) (.and (.not (.op (.isi [1]) (.cons (.var 0) .nil))) (.op (.eq) (.cons (.var 0) (.cons (.var 1) .nil)))))))))⟩
def q__law_rises_1s : E := (.cons (.var 0) (.cons (.op (.cut true false) (.cons (.var 0) (.cons (.cst (.int 1)) .nil))) .nil))
def q__law_rises_1t : E := (.cst (.bl true))
def q__law_rises_1e : E := (.op (.int1) (.cons (.op (.lt) (.cons (.var 1) (.cons (.var 2) .nil))) .nil))
def q__law_rises_1 : E := .comp [1, 2] (.tu [1, 2]) .zip2 q__law_rises_1s q__law_rises_1t q__law_rises_1e
def ir__law_rises : Fn := ⟨1, 3, false,
  (.ret (.op (.sum) (.cons q__law_rises_1 .nil)))⟩
def q__law_row_1s : E := (.cons (.var 1) .nil)
def q__law_row_1b : S := (.seq
    (.asg 5 (.ite (.op (.eq) (.cons (.var 3) (.cons (.lst .nil) .nil))) (.cst (.int 0)) (.op (.add) (.cons (.cst (.int 1)) (.cons (.call kn__law_rises (.cons (.var 3) .nil)) .nil)))))
    (.seq
      (.asg 6 (.io kn__law_take 0 (.cons (.op (.add) (.cons (.var 5) (.cons (.cst (.int 1)) .nil))) .nil)))
      (.seq
        (.ite (.and (.op (.eq) (.cons (.var 2) (.cons (.cst (.int 1)) .nil))) (.and (.op (.ne) (.cons (.var 3) (.cons (.lst .nil) .nil))) (.op (.eq) (.cons (.io kn__law_take 0 (.cons (.cst (.int 2)) .nil)) (.cons (.cst (.int 0)) .nil)))))
          (.asg 6 (.op (.ix) (.cons (.var 3) (.cons (.op (.neg) (.cons (.cst (.int 1)) .nil)) .nil))))
          .nop)
        (.seq
          (.ite (.and (.op (.eq) (.cons (.var 2) (.cons (.cst (.int 2)) .nil))) (.op (.gt) (.cons (.io kn__law_take 0 (.cons (.cst (.int 3)) .nil)) (.cons (.cst (.int 0)) .nil))))
            (.asg 6 (.var 5))
            .nop)
          (.seq
            (.ite (.op (.eq) (.cons (.var 2) (.cons (.cst (.int 3)) .nil)))
              (.asg 6 (.op (.min2) (.cons (.var 6) (.cons (.cst (.int 1)) .nil))))
              .nop)
            (.append 3 (.var 6)))))))
def q__law_row_1 : S := .for (.nm 4) .rg1 q__law_row_1s q__law_row_1b
def ir__law_row : Fn := ⟨2, 7, true,
  (.seq
    (.par [2, 3] (.cons (.io kn__law_take 0 (.cons (.cst (.int 4)) .nil)) (.cons (.lst .nil) .nil)))
    (.seq
      q__law_row_1
      (.ret (.op (.tuple) (.cons (.var 3) .nil)))))⟩
def q__law_bars_1s : E := (.cons (.op (.sub) (.cons (.op (.len) (.cons (.var 0) .nil)) (.cons (.cst (.int 1)) .nil))) .nil)
def q__law_bars_2s : E := (.cons (.op (.add) (.cons (.var 2) (.cons (.cst (.int 2)) .nil))) (.cons (.op (.len) (.cons (.var 0) .nil)) .nil))
def q__law_bars_2t : E := (.and (.op (.eq) (.cons (.op (.ix) (.cons (.var 0) (.cons (.var 3) .nil))) (.cons (.op (.sub) (.cons (.op (.ix) (.cons (.var 0) (.cons (.var 2) .nil))) (.cons (.cst (.int 1)) .nil))) .nil))) (.op (.gt) (.cons (.op (.ix) (.cons (.var 0) (.cons (.op (.add) (.cons (.var 2) (.cons (.cst (.int 1)) .nil))) .nil))) (.cons (.op (.ix) (.cons (.var 0) (.cons (.var 2) .nil))) .nil))))
def q__law_bars_2e : E := (.tup (.cons (.var 2) (.cons (.var 3) .nil)))
def q__law_bars_2 : E := .comp [3] (.nm 3) .rg2 q__law_bars_2s q__law_bars_2t q__law_bars_2e
def q__law_bars_1b : S := (.extend 1 q__law_bars_2)
def q__law_bars_1 : S := .for (.nm 2) .rg1 q__law_bars_1s q__law_bars_1b
def ir__law_bars : Fn := ⟨1, 4, false,
  (.seq
    (.asg 1 (.lst .nil))
    (.seq
      q__law_bars_1
      (.ret (.var 1))))⟩
def q__law_gaps_1s : E := (.cons (.op (.add) (.cons (.op (.len) (.cons (.var 0) .nil)) (.cons (.cst (.int 1)) .nil))) .nil)
def q__law_gaps_1t : E := (.op (.eq) (.cons (.call kn__law_bars (.cons (.op (.add) (.cons (.op (.add) (.cons (.op (.cut false true) (.cons (.var 0) (.cons (.var 1) .nil))) (.cons (.tup (.cons (.op (.add) (.cons (.op (.len) (.cons (.var 0) .nil)) (.cons (.cst (.int 1)) .nil))) .nil)) .nil))) (.cons (.op (.cut true false) (.cons (.var 0) (.cons (.var 1) .nil))) .nil))) .nil)) (.cons (.lst .nil) .nil)))
def q__law_gaps_1e : E := (.var 1)
def q__law_gaps_1 : E := .comp [1] (.nm 1) .rg1 q__law_gaps_1s q__law_gaps_1t q__law_gaps_1e
def ir__law_gaps : Fn := ⟨1, 2, false,
  (.ret q__law_gaps_1)⟩
def q__law_numbers_1s : E := (.cons (.var 0) .nil)
def q__law_numbers_1b : S := (.seq
    (.asg 3 (.op (.ix) (.cons (.call kn__law_gaps (.cons (.var 1) .nil)) (.cons (.var 2) .nil))))
    (.asg 1 (.op (.add) (.cons (.op (.add) (.cons (.op (.cut false true) (.cons (.var 1) (.cons (.var 3) .nil))) (.cons (.tup (.cons (.op (.add) (.cons (.op (.len) (.cons (.var 1) .nil)) (.cons (.cst (.int 1)) .nil))) .nil)) .nil))) (.cons (.op (.cut true false) (.cons (.var 1) (.cons (.var 3) .nil))) .nil)))))
def q__law_numbers_1 : S := .for (.nm 2) .seq q__law_numbers_1s q__law_numbers_1b
def ir__law_numbers : Fn := ⟨1, 4, false,
  (.seq
    (.asg 1 (.tup .nil))
    (.seq
      q__law_numbers_1
      (.ret (.var 1))))⟩
def q__law_open_1s : E := (.cons (.op (.add) (.cons (.op (.len) (.cons (.var 0) .nil)) (.cons (.cst (.int 1)) .nil))) .nil)
def q__law_open_1t : E := (.or (.op (.eq) (.cons (.var 1) (.cons (.cst (.int 0)) .nil))) (.or (.op (.eq) (.cons (.op (.ix) (.cons (.var 0) (.cons (.op (.sub) (.cons (.var 1) (.cons (.cst (.int 1)) .nil))) .nil))) (.cons (.cst (.int 1)) .nil))) (.op (.inn) (.cons (.op (.sub) (.cons (.op (.ix) (.cons (.var 0) (.cons (.op (.sub) (.cons (.var 1) (.cons (.cst (.int 1)) .nil))) .nil))) (.cons (.cst (.int 1)) .nil))) (.cons (.op (.cut false true) (.cons (.var 0) (.cons (.op (.sub) (.cons (.var 1) (.cons (.cst (.int 1)) .nil))) .nil))) .nil)))))
def q__law_open_1e : E := (.var 1)
def q__law_open_1 : E := .comp [1] (.nm 1) .rg1 q__law_open_1s q__law_open_1t q__law_open_1e
def ir__law_open : Fn := ⟨1, 2, false,
  (.ret q__law_open_1)⟩
def q__law_lap_one_1s : E := (.cons (.var 2) .nil)
def q__law_lap_one_1t : E := (.op (.le) (.cons (.var 4) (.cons (.var 3) .nil)))
def q__law_lap_one_1e : E := (.var 4)
def q__law_lap_one_1 : E := .comp [4] (.nm 4) .seq q__law_lap_one_1s q__law_lap_one_1t q__law_lap_one_1e
def q__law_lap_one_2s : E := (.cons (.op (.len) (.cons (.call kn_sites (.cons (.var 2) .nil)) .nil)) .nil)
def q__law_lap_one_2b : S := (.ite (.not (.call kn__law_same (.cons (.lst (.cons (.call kn_put_in (.cons (.var 2) (.cons (.var 4) .nil))) (.cons (.call kn_row_of_numbers (.cons (.call kn_put_in (.cons (.var 2) (.cons (.var 4) .nil))) .nil)) .nil))) (.cons (.lst (.cons (.call kn_numbers_of_row (.cons (.op (.add) (.cons (.var 1) (.cons (.tup (.cons (.var 4) .nil)) .nil))) .nil)) (.cons (.op (.add) (.cons (.var 1) (.cons (.tup (.cons (.var 4) .nil)) .nil))) .nil))) .nil))))
    (.ret (.cst (.bl false)))
    .nop)
def q__law_lap_one_2 : S := .for (.nm 4) .rg1 q__law_lap_one_2s q__law_lap_one_2b
def ir__law_lap_one : Fn := ⟨1, 5, true,
  (.seq
    (.asg 1 (.io kn__law_row 0 (.cons (.io kn__law_take 0 (.cons (.cst (.int 11)) .nil)) .nil)))
    (.seq
      (.asg 2 (.call kn__law_numbers (.cons (.var 1) .nil)))
      (.seq
        (.ite (.not (.call kn__law_same (.cons (.lst (.cons (.call kn_numbers_of_row (.cons (.var 1) .nil)) (.cons (.call kn_row_of_numbers (.cons (.var 2) .nil)) (.cons (.call kn_is_barred (.cons (.var 2) .nil)) .nil)))) (.cons (.lst (.cons (.var 2) (.cons (.var 1) (.cons (.cst (.bl false)) .nil)))) .nil))))
          (.ret (.cst (.bl false)))
          .nop)
        (.seq
          (.asg 3 (.io kn__law_take 0 (.cons (.op (.add) (.cons (.op (.len) (.cons (.var 1) .nil)) (.cons (.cst (.int 1)) .nil))) .nil)))
          (.seq
            (.ite (.not (.call kn__law_same (.cons (.lst (.cons (.call kn_numbers_of_row (.cons (.op (.cut false true) (.cons (.var 1) (.cons (.var 3) .nil))) .nil)) (.cons (.op (.len) (.cons (.call kn_sites (.cons (.var 2) .nil)) .nil)) .nil))) (.cons (.lst (.cons (.op (.tuple) (.cons q__law_lap_one_1 .nil)) (.cons (.ite (.op (.ne) (.cons (.var 1) (.cons (.tup .nil) .nil))) (.op (.add) (.cons (.call kn_rises (.cons (.var 1) .nil)) (.cons (.cst (.int 2)) .nil))) (.cst (.int 1))) .nil))) .nil))))
              (.ret (.cst (.bl false)))
              .nop)
            (.seq
              q__law_lap_one_2
              (.ret (.cst (.bl true)))))))))⟩
def q__law_long_1s : E := (.cons (.var 1) .nil)
def q__law_long_1b : S := (.seq
    (.asg 4 (.op (.ix) (.cons (.call kn__law_open (.cons (.var 2) .nil)) (.cons (.var 3) .nil))))
    (.asg 2 (.op (.add) (.cons (.op (.add) (.cons (.op (.cut false true) (.cons (.var 2) (.cons (.var 4) .nil))) (.cons (.tup (.cons (.op (.add) (.cons (.op (.len) (.cons (.var 2) .nil)) (.cons (.cst (.int 1)) .nil))) .nil)) .nil))) (.cons (.op (.cut true false) (.cons (.var 2) (.cons (.var 4) .nil))) .nil)))))
def q__law_long_1 : S := .for (.nm 3) .seq q__law_long_1s q__law_long_1b
def ir__law_long : Fn := ⟨1, 5, true,
  (.seq
    (.asg 1 (.io kn__law_row 0 (.cons (.op (.add) (.cons (.cst (.int 20)) (.cons (.io kn__law_take 0 (.cons (.cst (.int 41)) .nil)) .nil))) .nil)))
    (.seq
      (.asg 2 (.tup .nil))
      (.seq
        q__law_long_1
        (.ret (.call kn__law_same (.cons (.lst (.cons (.call kn_numbers_of_row (.cons (.var 1) .nil)) (.cons (.call kn_row_of_numbers (.cons (.var 2) .nil)) (.cons (.call kn_sites (.cons (.var 2) .nil)) .nil)))) (.cons (.lst (.cons (.var 2) (.cons (.var 1) (.cons (.op (.tuple) (.cons (.call kn__law_open (.cons (.var 2) .nil)) .nil)) .nil)))) .nil)))))))⟩
def q_law_1s : E := (.cons (.cst (.int 5)) .nil)
def q_law_1b : S := (.ite (.not (.io kn__law_lap_one 1 .nil))
    (.ret (.cst (.bl false)))
    .nop)
def q_law_1 : S := .for (.nm 2) .rg1 q_law_1s q_law_1b
def ir_law : Fn := ⟨1, 4, false,
  (.seq
    (.asg 1 (.call kn__law_box (.cons (.call kn__law_cells (.cons (.var 0) (.cons (.cst (.int 1)) .nil))) (.cons (.cst (.int 0)) .nil))))
    (.seq
      q_law_1
      (.seq
        (.asg 3 (.tup (.cons (.cst (.int 0)) (.cons (.cst (.int 1)) (.cons (.cst (.int 0)) (.cons (.cst (.int 1)) (.cons (.cst (.int 3)) (.cons (.cst (.int 1)) .nil))))))))
        (.ret (.and (.io kn__law_long 1 .nil) (.call kn__law_same (.cons (.lst (.cons (.call kn_numbers_of_row (.cons (.var 3) .nil)) (.cons (.call kn_row_of_numbers (.cons (.tup (.cons (.cst (.int 1)) (.cons (.cst (.int 3)) (.cons (.cst (.int 2)) .nil)))) .nil)) (.cons (.call kn_numbers_of_row (.cons (.tup .nil) .nil)) (.cons (.call kn_row_of_numbers (.cons (.tup .nil) .nil)) .nil))))) (.cons (.lst (.cons (.tup (.cons (.cst (.int 3)) (.cons (.cst (.int 1)) (.cons (.cst (.int 6)) (.cons (.cst (.int 4)) (.cons (.cst (.int 2)) (.cons (.cst (.int 5)) .nil))))))) (.cons (.tup (.cons (.cst (.int 0)) (.cons (.cst (.int 1)) (.cons (.cst (.int 1)) .nil)))) (.cons (.tup .nil) (.cons (.tup .nil) .nil))))) .nil))))))))⟩


abbrev tb : Tab := Hd.tx.tab
theorem tb_is_number : tb kn_is_number = some (.ir ir_is_number) := by kernel_rfl
theorem io_is_number : tb.io kn_is_number = false := by kernel_rfl
theorem tb_is_within : tb kn_is_within = some (.ir ir_is_within) := by kernel_rfl
theorem io_is_within : tb.io kn_is_within = false := by kernel_rfl
theorem tb_sure_within : tb kn_sure_within = some (.ir ir_sure_within) := by kernel_rfl
theorem io_sure_within : tb.io kn_sure_within = false := by kernel_rfl
theorem tb_are_within : tb kn_are_within = some (.ir ir_are_within) := by kernel_rfl
theorem io_are_within : tb.io kn_are_within = false := by kernel_rfl
theorem tb_tupled : tb kn_tupled = some (.ir ir_tupled) := by kernel_rfl
theorem io_tupled : tb.io kn_tupled = false := by kernel_rfl
theorem tb_rises_in : tb kn_rises_in = some (.ir ir_rises_in) := by kernel_rfl
theorem io_rises_in : tb.io kn_rises_in = false := by kernel_rfl
theorem tb_first_wrong : tb kn_first_wrong = some (.ir ir_first_wrong) := by kernel_rfl
theorem io_first_wrong : tb.io kn_first_wrong = false := by kernel_rfl
theorem tb_is_ascents_in : tb kn_is_ascents_in = some (.ir ir_is_ascents_in) := by kernel_rfl
theorem io_is_ascents_in : tb.io kn_is_ascents_in = false := by kernel_rfl
theorem tb_sure_ascents : tb kn_sure_ascents = some (.ir ir_sure_ascents) := by kernel_rfl
theorem io_sure_ascents : tb.io kn_sure_ascents = false := by kernel_rfl
theorem tb_rises : tb kn_rises = some (.ir ir_rises) := by kernel_rfl
theorem io_rises : tb.io kn_rises = false := by kernel_rfl
theorem tb_is_numbers_in : tb kn_is_numbers_in = some (.ir ir_is_numbers_in) := by kernel_rfl
theorem io_is_numbers_in : tb.io kn_is_numbers_in = false := by kernel_rfl
theorem tb_sure_numbers : tb kn_sure_numbers = some (.ir ir_sure_numbers) := by kernel_rfl
theorem io_sure_numbers : tb.io kn_sure_numbers = false := by kernel_rfl
theorem tb_bar_in : tb kn_bar_in = some (.ir ir_bar_in) := by kernel_rfl
theorem io_bar_in : tb.io kn_bar_in = false := by kernel_rfl
theorem tb_sites_in : tb kn_sites_in = some (.ir ir_sites_in) := by kernel_rfl
theorem io_sites_in : tb.io kn_sites_in = false := by kernel_rfl
theorem tb_put_at : tb kn_put_at = some (.ir ir_put_at) := by kernel_rfl
theorem io_put_at : tb.io kn_put_at = false := by kernel_rfl
theorem tb_numbers_from : tb kn_numbers_from = some (.ir ir_numbers_from) := by kernel_rfl
theorem io_numbers_from : tb.io kn_numbers_from = false := by kernel_rfl
theorem tb_sites_taken : tb kn_sites_taken = some (.ir ir_sites_taken) := by kernel_rfl
theorem io_sites_taken : tb.io kn_sites_taken = false := by kernel_rfl
theorem tb_sure_open : tb kn_sure_open = some (.ir ir_sure_open) := by kernel_rfl
theorem io_sure_open : tb.io kn_sure_open = false := by kernel_rfl
theorem tb_is_barred : tb kn_is_barred = some (.ir ir_is_barred) := by kernel_rfl
theorem io_is_barred : tb.io kn_is_barred = false := by kernel_rfl
theorem tb_sites : tb kn_sites = some (.ir ir_sites) := by kernel_rfl
theorem io_sites : tb.io kn_sites = false := by kernel_rfl
theorem tb_put_in : tb kn_put_in = some (.ir ir_put_in) := by kernel_rfl
theorem io_put_in : tb.io kn_put_in = false := by kernel_rfl
theorem tb_numbers_of_row : tb kn_numbers_of_row = some (.ir ir_numbers_of_row) := by kernel_rfl
theorem io_numbers_of_row : tb.io kn_numbers_of_row = false := by kernel_rfl
theorem tb_row_of_numbers : tb kn_row_of_numbers = some (.ir ir_row_of_numbers) := by kernel_rfl
theorem io_row_of_numbers : tb.io kn_row_of_numbers = false := by kernel_rfl
theorem tb__law_box : tb kn__law_box = some (.ir ir__law_box) := by kernel_rfl
theorem io__law_box : tb.io kn__law_box = false := by kernel_rfl
theorem tb__law_take : tb kn__law_take = some (.ir ir__law_take) := by kernel_rfl
theorem io__law_take : tb.io kn__law_take = true := by kernel_rfl
theorem tb__law_cells : tb kn__law_cells = some (.ir ir__law_cells) := by kernel_rfl
theorem io__law_cells : tb.io kn__law_cells = false := by kernel_rfl
theorem tb__law_same : tb kn__law_same = some (.ir ir__law_same) := by kernel_rfl
theorem io__law_same : tb.io kn__law_same = false := by kernel_rfl
theorem tb__law_rises : tb kn__law_rises = some (.ir ir__law_rises) := by kernel_rfl
theorem io__law_rises : tb.io kn__law_rises = false := by kernel_rfl
theorem tb__law_row : tb kn__law_row = some (.ir ir__law_row) := by kernel_rfl
theorem io__law_row : tb.io kn__law_row = true := by kernel_rfl
theorem tb__law_bars : tb kn__law_bars = some (.ir ir__law_bars) := by kernel_rfl
theorem io__law_bars : tb.io kn__law_bars = false := by kernel_rfl
theorem tb__law_gaps : tb kn__law_gaps = some (.ir ir__law_gaps) := by kernel_rfl
theorem io__law_gaps : tb.io kn__law_gaps = false := by kernel_rfl
theorem tb__law_numbers : tb kn__law_numbers = some (.ir ir__law_numbers) := by kernel_rfl
theorem io__law_numbers : tb.io kn__law_numbers = false := by kernel_rfl
theorem tb__law_open : tb kn__law_open = some (.ir ir__law_open) := by kernel_rfl
theorem io__law_open : tb.io kn__law_open = false := by kernel_rfl
theorem tb__law_lap_one : tb kn__law_lap_one = some (.ir ir__law_lap_one) := by kernel_rfl
theorem io__law_lap_one : tb.io kn__law_lap_one = true := by kernel_rfl
theorem tb__law_long : tb kn__law_long = some (.ir ir__law_long) := by kernel_rfl
theorem io__law_long : tb.io kn__law_long = true := by kernel_rfl
theorem tb_law : tb kn_law = some (.ir ir_law) := by kernel_rfl
theorem io_law : tb.io kn_law = false := by kernel_rfl
end Lw
end
section
set_option Elab.async false
set_option linter.all false
set_option maxRecDepth 100000
set_option maxHeartbeats 0
namespace Ev
open PySem
abbrev nI (xs : List Int) : List D := xs.map D.int
abbrev tI (xs : List Int) : D := .tup (nI xs)
abbrev lI (xs : List Int) : D := .lst (nI xs)

theorem forLoop_run {t : T} {body : Env → R Fl} (I : Nat → Env → Prop) : ∀ (items : List D) (k0 : Nat)
    (h : ∀ k d env, items[k]? = some d → I (k0 + k) env → ∃ e1 e2, bind1 t d env = some e1 ∧ body e1 = .ok .nx e2 ∧ I (k0 + k + 1) e2)
    (env : Env), I k0 env → ∃ env', forLoop t body items env = .ok .nx env' ∧ I (k0 + items.length) env'
  | [], k0, h, env, i0 => ⟨env, rfl, i0⟩
  | d :: r, k0, h, env, i0 => by
    obtain ⟨e1, e2, h1, h2, h3⟩ := h 0 d env rfl i0
    obtain ⟨env', h4, h5⟩ := forLoop_run I r (k0 + 1) (fun k d env e i => by
      obtain ⟨e1, e2, a, b, c⟩ := h (k + 1) d env (by simpa using e) (by rw [show k0 + (k + 1) = k0 + 1 + k by omega]; exact i)
      exact ⟨e1, e2, a, b, by rw [show k0 + 1 + k + 1 = k0 + (k + 1) + 1 by omega]; exact c⟩) e2 h3
    refine ⟨env', ?_, by rw [List.length_cons, show k0 + (r.length + 1) = k0 + 1 + r.length by omega]; exact h5⟩
    rw [forLoop, h1]
    show turnF (forLoop t body r) (body e1) = _
    rw [h2]
    exact h4
theorem forLoop_ret {t : T} {body : Env → R Fl} (I : Nat → Env → Prop) {v : D} {fr : Bool} {m : Nat} : ∀ (items : List D) (k0 : Nat) (k1 : Nat) (Q : Env → Prop)
    (h : ∀ k d env, k < k1 → items[k]? = some d → I (k0 + k) env → ∃ e1 e2, bind1 t d env = some e1 ∧ body e1 = .ok .nx e2 ∧ I (k0 + k + 1) e2)
    (hr : ∃ d, items[k1]? = some d ∧ ∀ env, I (k0 + k1) env → ∃ e1 e2, bind1 t d env = some e1 ∧ body e1 = .ok (.rt v fr) e2 ∧ Q e2)
    (env : Env), I k0 env → ∃ env', forLoop t body items env = .ok (.rt v fr) env' ∧ Q env'
  | [], k0, k1, Q, h, ⟨d, hd, _⟩, env, i0 => by cases hd
  | d :: r, k0, 0, Q, h, ⟨d', hd, hr⟩, env, i0 => by
    cases hd
    obtain ⟨e1, e2, h1, h2, h3⟩ := hr env i0
    refine ⟨e2, ?_, h3⟩
    rw [forLoop, h1]
    show turnF (forLoop t body r) (body e1) = _
    rw [h2]
    rfl
  | d :: r, k0, k1 + 1, Q, h, ⟨d', hd, hr⟩, env, i0 => by
    obtain ⟨e1, e2, h1, h2, h3⟩ := h 0 d env (by omega) rfl i0
    obtain ⟨env', h4, h5⟩ := forLoop_ret (m := m) I r (k0 + 1) k1 Q (fun k d env hk e i => by
      obtain ⟨e1, e2, a, b, c⟩ := h (k + 1) d env (by omega) (by simpa using e) (by rw [show k0 + (k + 1) = k0 + 1 + k by omega]; exact i)
      exact ⟨e1, e2, a, b, by rw [show k0 + 1 + k + 1 = k0 + (k + 1) + 1 by omega]; exact c⟩)
      ⟨d', by simpa using hd, fun env i => hr env (by rw [show k0 + (k1 + 1) = k0 + 1 + k1 by omega]; exact i)⟩ e2 h3
    refine ⟨env', ?_, h5⟩
    rw [forLoop, h1]
    show turnF (forLoop t body r) (body e1) = _
    rw [h2]
    exact h4
theorem compLoop_run {vs : List Nat} {t : T} {tst elt : Env → R (List O)} {env : Env} (p : D → Bool) (f : D → D) : ∀ (items acc : List D)
    (h : ∀ d ∈ items, ∃ e1, bind1 t d env = some e1 ∧ tst e1 = .ok [.fz (.bl (p d))] e1 ∧ (p d = true → ∃ o, elt e1 = .ok [o] e1 ∧ o.view e1 = f d ∧ freezeO e1 [o] = e1) ∧ wipeE e1 vs = env)
    (hc : acc.length + items.length ≤ cap), compLoop vs t tst elt items env acc = .ok (acc.reverse ++ (items.filter p).map f) env
  | [], acc, h, hc => by rw [compLoop]; simp
  | d :: r, acc, h, hc => by
    obtain ⟨e1, h1, h2, h3, h4⟩ := h d List.mem_cons_self
    rw [compLoop, h1]
    show (tst e1).tst _ = _
    rw [h2]
    rw [List.length_cons] at hc
    show (if p d = true then _ else _) = _
    by_cases hp : p d = true
    · obtain ⟨o, h5, h6, h7⟩ := h3 hp
      rw [if_pos hp, h5]
      show (if acc.length < cap then compLoop vs t tst elt r (wipeE (freezeO e1 [o]) vs) (o.view e1 :: acc) else .stuck) = _
      rw [if_pos (show acc.length < cap by omega), h7, h4, h6, compLoop_run p f r (f d :: acc) (fun d hd => h d (List.mem_cons_of_mem _ hd)) (by rw [List.length_cons]; omega)]
      simp [hp]
    · rw [if_neg hp, h4, compLoop_run p f r acc (fun d hd => h d (List.mem_cons_of_mem _ hd)) (by omega)]
      simp [hp]
theorem enumD_get (n : Nat) : ∀ (ds : List D) (k : Nat), (enumD n ds)[k]? = ds[k]?.map fun d => D.tup [.int ((n + k : Nat) : Int), d]
  | [], k => rfl
  | d :: r, 0 => rfl
  | d :: r, k + 1 => by
    rw [enumD, List.getElem?_cons_succ, enumD_get (n + 1) r k, List.getElem?_cons_succ]
    congr 2
    funext d
    rw [show n + 1 + k = n + (k + 1) by omega]
theorem enumD_len (n : Nat) : ∀ ds : List D, (enumD n ds).length = ds.length
  | [] => rfl
  | d :: r => by rw [enumD, List.length_cons, List.length_cons, enumD_len]
theorem intsOf_nI : ∀ xs : List Int, intsOf (nI xs) = some xs
  | [] => rfl
  | x :: xs => by
    show (intsOf (nI xs)).map _ = _
    rw [intsOf_nI xs]
    rfl
theorem isDatas_nI (n : Nat) : ∀ xs : List Int, isDatas n (nI xs) = true
  | [] => by cases n <;> rfl
  | x :: xs => by
    show isDatas n (.int x :: nI xs) = true
    cases n <;> simp [isDatas, isData, isDatas_nI _ xs]
theorem eqDs_nI : ∀ xs ys : List Int, eqDs (nI xs) (nI ys) = decide (xs = ys)
  | [], [] => by simp [eqDs]
  | [], y :: ys => by simp [eqDs]
  | x :: xs, [] => by simp [eqDs]
  | x :: xs, y :: ys => by
    show (eqD (.int x) (.int y) && eqDs (nI xs) (nI ys)) = _
    rw [eqDs_nI xs ys]
    by_cases h : x = y <;> simp [eqD, h]
theorem cutL_map {α β : Type} (f : α → β) (xs : List α) (lo hi : Option Int) : cutL (xs.map f) lo hi = (cutL xs lo hi).map f := by
  unfold cutL
  rw [List.length_map, List.map_take, List.map_drop]
theorem op_ix (xs : List Int) (i : Nat) (h : i < xs.length) : op2 .ix (tI xs) (.int i) = some (.int xs[i]) := by
  show (atN (nI xs).length i).bind (fun k => (nI xs)[k]?) = _
  rw [show atN (nI xs).length i = some i by
    unfold atN
    rw [if_pos (by omega), if_pos (by rw [List.length_map]; omega), Int.toNat_natCast]]
  show (nI xs)[i]? = _
  rw [List.getElem?_map, List.getElem?_eq_getElem h]
  rfl
theorem op_ixl (xs : List Int) (i : Nat) (h : i < xs.length) : op2 .ix (lI xs) (.int i) = some (.int xs[i]) := by
  show (atN (nI xs).length i).bind (fun k => (nI xs)[k]?) = _
  rw [show atN (nI xs).length i = some i by
    unfold atN
    rw [if_pos (by omega), if_pos (by rw [List.length_map]; omega), Int.toNat_natCast]]
  show (nI xs)[i]? = _
  rw [List.getElem?_map, List.getElem?_eq_getElem h]
  rfl
theorem cutN_nat (n d i : Nat) : cutN n d (some (i : Int)) = min i n := by
  show (if (i : Int) < 0 then ((i : Int) + n).toNat else min (i : Int).toNat n) = _
  rw [if_neg (by omega), Int.toNat_natCast]
theorem cutL_to {α : Type} (xs : List α) (i : Nat) : cutL xs none (some (i : Int)) = xs.take i := by
  unfold cutL
  rw [cutN_nat]
  show (xs.drop 0).take (min i xs.length - 0) = _
  rw [List.drop_zero, Nat.sub_zero]
  by_cases h : i ≤ xs.length
  · rw [Nat.min_eq_left h]
  · rw [Nat.min_eq_right (by omega), List.take_of_length_le (Nat.le_refl _), List.take_of_length_le (by omega)]
theorem cutL_from {α : Type} (xs : List α) (i : Nat) : cutL xs (some (i : Int)) none = xs.drop i := by
  unfold cutL
  rw [cutN_nat]
  show (xs.drop (min i xs.length)).take (xs.length - min i xs.length) = _
  by_cases h : i ≤ xs.length
  · rw [Nat.min_eq_left h, List.take_of_length_le (by rw [List.length_drop]; exact Nat.le_refl _)]
  · rw [Nat.min_eq_right (by omega), List.drop_of_length_le (Nat.le_refl _), List.drop_of_length_le (by omega), List.take_nil]
theorem cut_to (xs : List Int) (i : Nat) : op2 (.cut false true) (tI xs) (.int i) = some (tI (xs.take i)) := by
  show some (D.tup (cutL (nI xs) none (some (i : Int)))) = _
  rw [cutL_map, cutL_to]
theorem cut_from (xs : List Int) (i : Nat) : op2 (.cut true false) (tI xs) (.int i) = some (tI (xs.drop i)) := by
  show some (D.tup (cutL (nI xs) (some (i : Int)) none)) = _
  rw [cutL_map, cutL_from]
theorem cut_froml (xs : List Int) (i : Nat) : op2 (.cut true false) (lI xs) (.int i) = some (lI (xs.drop i)) := by
  show some (D.lst (cutL (nI xs) (some (i : Int)) none)) = _
  rw [cutL_map, cutL_from]
theorem op_cat (xs ys : List Int) (h : xs.length + ys.length ≤ cap) : op2 .add (tI xs) (tI ys) = some (tI (xs ++ ys)) := by
  show capd _ (D.tup (nI xs ++ nI ys)) = _
  unfold capd
  rw [if_pos (by rw [List.length_map, List.length_map]; exact h), ← List.map_append]
theorem zipD_nI : ∀ xs ys : List Int, zipD (nI xs) (nI ys) = (xs.zip ys).map fun p => D.tup [.int p.1, .int p.2]
  | [], _ => rfl
  | _ :: _, [] => rfl
  | x :: xs, y :: ys => by
    show D.tup [.int x, .int y] :: zipD (nI xs) (nI ys) = _
    rw [zipD_nI xs ys]
    rfl
theorem idx_nI (x : Int) : ∀ (xs : List Int) (n : Nat), idx (.int x) (nI xs) n = (xs.findIdx? (· == x)).map (· + n)
  | [], n => rfl
  | y :: ys, n => by
    show (if eqD (.int y) (.int x) = true then some n else idx (.int x) (nI ys) (n + 1)) = _
    rw [idx_nI x ys (n + 1), List.findIdx?_cons]
    show (if (y == x) = true then some n else _) = _
    by_cases h : (y == x) = true
    · rw [if_pos h, if_pos h]
      simp
    · rw [if_neg h, if_neg h]
      cases ys.findIdx? (· == x) with
      | none => rfl
      | some k =>
        show some (k + (n + 1)) = some (k + 1 + n)
        congr 1
        omega
theorem op_index (xs : List Int) (x : Int) {k : Nat} (h : xs.findIdx? (· == x) = some k) : op2 .index (tI xs) (.int x) = some (.int k) := by
  have e := idx_nI x xs 0
  rw [h] at e
  show (if (isDatas depthLine (nI xs) && isData depthLine (D.int x)) = true then _ else none) = _
  rw [isDatas_nI, e]
  rfl
theorem op_indexl (xs : List Int) (x : Int) {k : Nat} (h : xs.findIdx? (· == x) = some k) : op2 .index (lI xs) (.int x) = some (.int k) := by
  have e := idx_nI x xs 0
  rw [h] at e
  show (if (isDatas depthLine (nI xs) && isData depthLine (D.int x)) = true then _ else none) = _
  rw [isDatas_nI, e]
  rfl
theorem upto_eq : ∀ (n : Nat) (lo : Int), upto lo n = (List.range n).map fun k : Nat => lo + (k : Int)
  | 0, lo => rfl
  | n + 1, lo => by
    rw [upto, upto_eq n (lo + 1), List.range_succ_eq_map, List.map_cons, List.map_map]
    congr 1
    · simp
    · refine List.map_congr_left fun k _ => ?_
      show lo + 1 + (k : Int) = lo + ((k + 1 : Nat) : Int)
      omega
theorem blsOf_map : ∀ bs : List Bool, blsOf (bs.map D.bl) = some bs
  | [] => rfl
  | b :: bs => by
    show (blsOf (bs.map D.bl)).map _ = _
    rw [blsOf_map bs]
    rfl
end Ev
end
section
set_option linter.all false
set_option maxRecDepth 100000
namespace Ev
open PySem
variable {s0 s1 s2 s3 s4 s5 s6 : Sl} {e : Ev.Env}
theorem at0 : Env.at (s0 :: e) 0 = s0 := rfl
theorem at1 : Env.at (s0 :: s1 :: e) 1 = s1 := rfl
theorem at2 : Env.at (s0 :: s1 :: s2 :: e) 2 = s2 := rfl
theorem at3 : Env.at (s0 :: s1 :: s2 :: s3 :: e) 3 = s3 := rfl
theorem at4 : Env.at (s0 :: s1 :: s2 :: s3 :: s4 :: e) 4 = s4 := rfl
theorem at5 : Env.at (s0 :: s1 :: s2 :: s3 :: s4 :: s5 :: e) 5 = s5 := rfl
theorem at6 : Env.at (s0 :: s1 :: s2 :: s3 :: s4 :: s5 :: s6 :: e) 6 = s6 := rfl
variable {i j : Int} {b : Bool} {ds es : List D} {xs ys : List Int}
theorem o_add : op2 .add (.int i) (.int j) = some (.int (i + j)) := rfl
theorem o_sub : op2 .sub (.int i) (.int j) = some (.int (i - j)) := rfl
theorem o_mulr (h : b64 j = true) : op2 .mul (.int i) (.int j) = some (.int (i * j)) := by
  show (if (b64 i || b64 j) = true then some (D.int (i * j)) else none) = _
  rw [h, Bool.or_true]
  rfl
theorem o_lt : op2 .lt (.int i) (.int j) = some (.bl (decide (i < j))) := rfl
theorem o_le : op2 .le (.int i) (.int j) = some (.bl (decide (i ≤ j))) := rfl
theorem o_gt : op2 .gt (.int i) (.int j) = some (.bl (decide (j < i))) := rfl
theorem o_ge : op2 .ge (.int i) (.int j) = some (.bl (decide (j ≤ i))) := rfl
theorem o_len_t : op1 .len (.tup ds) = some (.int ds.length) := rfl
theorem o_len_l : op1 .len (.lst ds) = some (.int ds.length) := rfl
theorem o_len_r {ns : List Int} : op1 .len (.ro ns) = some (.int ns.length) := rfl
theorem o_abs : op1 .abs (.int i) = some (.int (if i < 0 then -i else i)) := rfl
theorem o_int : op1 .int1 (.int i) = some (.int i) := rfl
theorem o_intb : op1 .int1 (.bl b) = some (.int (if b then 1 else 0)) := rfl
theorem o_min : op2 .min2 (.int i) (.int j) = some (.int (if j < i then j else i)) := rfl
theorem o_neg : op1 .neg (.int i) = some (.int (-i)) := rfl
theorem o_isn {x : D} : op1 .isn x = some (.bl (isNonD x)) := by cases x <;> rfl
theorem o_isnn {x : D} : op1 .isnn x = some (.bl (!isNonD x)) := by cases x <;> rfl
theorem o_isi {ts : List Nat} {x : D} (h : tyKnown x = true) : op1 (.isi ts) x = some (.bl (ts.any (tyIs x))) := by
  show (if tyKnown x = true then some (D.bl (ts.any (tyIs x))) else none) = _
  rw [if_pos h]
theorem i_int_0 : op1 (.isi [0]) (.int i) = some (.bl true) := rfl
theorem i_int_1 : op1 (.isi [1]) (.int i) = some (.bl false) := rfl
theorem i_int_3 : op1 (.isi [3]) (.int i) = some (.bl false) := rfl
theorem i_int_4 : op1 (.isi [4]) (.int i) = some (.bl false) := rfl
theorem i_int_34 : op1 (.isi [3, 4]) (.int i) = some (.bl false) := rfl
theorem i_int_12 : op1 (.isi [1, 2]) (.int i) = some (.bl false) := rfl
theorem i_int_2 : op1 (.isi [2]) (.int i) = some (.bl false) := rfl
theorem i_bl_0 : op1 (.isi [0]) (.bl b) = some (.bl true) := rfl
theorem i_bl_1 : op1 (.isi [1]) (.bl b) = some (.bl true) := rfl
theorem i_bl_3 : op1 (.isi [3]) (.bl b) = some (.bl false) := rfl
theorem i_bl_4 : op1 (.isi [4]) (.bl b) = some (.bl false) := rfl
theorem i_bl_34 : op1 (.isi [3, 4]) (.bl b) = some (.bl false) := rfl
theorem i_bl_12 : op1 (.isi [1, 2]) (.bl b) = some (.bl true) := rfl
theorem i_bl_2 : op1 (.isi [2]) (.bl b) = some (.bl false) := rfl
theorem i_tup_0 : op1 (.isi [0]) (.tup ds) = some (.bl false) := rfl
theorem i_tup_1 : op1 (.isi [1]) (.tup ds) = some (.bl false) := rfl
theorem i_tup_3 : op1 (.isi [3]) (.tup ds) = some (.bl false) := rfl
theorem i_tup_4 : op1 (.isi [4]) (.tup ds) = some (.bl true) := rfl
theorem i_tup_34 : op1 (.isi [3, 4]) (.tup ds) = some (.bl true) := rfl
theorem i_tup_12 : op1 (.isi [1, 2]) (.tup ds) = some (.bl false) := rfl
theorem i_tup_2 : op1 (.isi [2]) (.tup ds) = some (.bl false) := rfl
theorem i_lst_0 : op1 (.isi [0]) (.lst ds) = some (.bl false) := rfl
theorem i_lst_1 : op1 (.isi [1]) (.lst ds) = some (.bl false) := rfl
theorem i_lst_3 : op1 (.isi [3]) (.lst ds) = some (.bl true) := rfl
theorem i_lst_4 : op1 (.isi [4]) (.lst ds) = some (.bl false) := rfl
theorem i_lst_34 : op1 (.isi [3, 4]) (.lst ds) = some (.bl true) := rfl
theorem i_lst_12 : op1 (.isi [1, 2]) (.lst ds) = some (.bl false) := rfl
theorem i_lst_2 : op1 (.isi [2]) (.lst ds) = some (.bl false) := rfl
theorem i_non_0 : op1 (.isi [0]) .non = some (.bl false) := rfl
theorem i_non_1 : op1 (.isi [1]) .non = some (.bl false) := rfl
theorem i_non_3 : op1 (.isi [3]) .non = some (.bl false) := rfl
theorem i_non_4 : op1 (.isi [4]) .non = some (.bl false) := rfl
theorem i_non_34 : op1 (.isi [3, 4]) .non = some (.bl false) := rfl
theorem i_non_12 : op1 (.isi [1, 2]) .non = some (.bl false) := rfl
theorem i_non_2 : op1 (.isi [2]) .non = some (.bl false) := rfl
theorem o_eqi : op2 .eq (.int i) (.int j) = some (.bl (i == j)) := rfl
theorem o_nei : op2 .ne (.int i) (.int j) = some (.bl (!(i == j))) := rfl
theorem o_eq {x y : D} (h1 : isData depthLine x = true) (h2 : isData depthLine y = true) : op2 .eq x y = some (.bl (eqD x y)) := by
  show (if (isData depthLine x && isData depthLine y) = true then some (D.bl (eqD x y)) else none) = _
  rw [h1, h2]
  rfl
theorem o_ne {x y : D} (h1 : isData depthLine x = true) (h2 : isData depthLine y = true) : op2 .ne x y = some (.bl (!eqD x y)) := by
  show (if (isData depthLine x && isData depthLine y) = true then some (D.bl (!eqD x y)) else none) = _
  rw [h1, h2]
  rfl
theorem o_mod (h : 0 < j) : op2 .mod (.int i) (.int j) = some (.int (i % j)) := by
  show (if decide (0 < j) = true then some (D.int (i % j)) else none) = _
  rw [if_pos (decide_eq_true h)]
theorem o_fdiv (h : 0 < j) (h2 : j < 1073741824) : op2 .fdiv (.int i) (.int j) = some (.int (i / j)) := by
  show (if (decide (0 < j) && leN j 1073741823) = true then some (D.int (i / j)) else none) = _
  rw [decide_eq_true h, leN_iff.mpr (by omega)]
  rfl
theorem o_all {bs : List Bool} : op1 .all (.lst (bs.map D.bl)) = some (.bl (bs.all id)) := by
  show (blsOf (bs.map D.bl)).map (fun l => D.bl (l.all id)) = _
  rw [blsOf_map]
  rfl
theorem o_sum : op1 .sum (lI xs) = some (.int xs.sum) := by
  show ((intsOf (nI xs)).map fun l => D.int l.sum) = _
  rw [intsOf_nI]
  rfl
theorem o_tup : op1 .tuple (.lst ds) = some (.tup ds) := rfl
theorem o_list : op1 .list (.lst ds) = some (.lst ds) := rfl
theorem o_rev : op1 .rev (.lst ds) = some (.lst ds.reverse) := rfl
theorem cut_1 : op2 (.cut true false) (tI xs) (.int 1) = some (tI xs.tail) := by
  have := cut_from xs 1
  rw [List.drop_one] at this
  exact this
theorem cut_1l : op2 (.cut true false) (lI xs) (.int 1) = some (lI xs.tail) := by
  have := cut_froml xs 1
  rw [List.drop_one] at this
  exact this
theorem comp_at {C : EC} {own : List Nat} {t : T} {k : IK} {src tst elt : E} {env e1 : Ev.Env} {os : List O} {items out : List D}
    (h1 : evE C src env = .ok os e1) (h2 : itSem k (os.map (O.view e1)) = some items)
    (h3 : compLoop own t (evE C tst) (evE C elt) items (wipeE (freezeL (freezeO e1 os) own) own) [] = .ok out (wipeE (freezeL (freezeO e1 os) own) own))
    (h4 : (wipeE (freezeL (freezeO e1 os) own) own).length = (freezeL (freezeO e1 os) own).length) :
    evE C (.comp own t k src tst elt) env = .ok [.fr (.lst out)] (backE (freezeL (freezeO e1 os) own) (wipeE (freezeL (freezeO e1 os) own) own) own) := by
  rw [evE, h1]
  show ifS (itSem k (os.map (O.view e1))) _ = _
  rw [h2]
  show compEnd _ _ _ = _
  rw [h3]
  show (if _ = _ then _ else _) = _
  rw [if_pos h4]
theorem for_at {C : EC} {t : T} {k : IK} {src : E} {body : S} {env e1 : Ev.Env} {os : List O} {items : List D} {r : R Fl}
    (h1 : evE C src env = .ok os e1) (h2 : itSem k (os.map (O.view e1)) = some items) (h3 : forLoop t (evS C body) items (freezeO e1 os) = r) :
    evS C (.for t k src body) env = r := by
  rw [evS, h1]
  show ifS (itSem k (os.map (O.view e1))) _ = _
  rw [h2]
  exact h3
theorem comp_fm {C : EC} {own : List Nat} {t : T} {k : IK} {src tst elt : E} {env ew e2 : Ev.Env} {os : List O} {items : List D} (p : D → Bool) (f : D → D)
    (h1 : evE C src env = .ok os env) (h2 : itSem k (os.map (O.view env)) = some items) (hf : freezeL (freezeO env os) own = env) (hw : wipeE env own = ew) (hb : backE env ew own = e2)
    (h : ∀ d ∈ items, ∃ e1, bind1 t d ew = some e1 ∧ evE C tst e1 = .ok [.fz (.bl (p d))] e1 ∧ (p d = true → ∃ o, evE C elt e1 = .ok [o] e1 ∧ o.view e1 = f d ∧ freezeO e1 [o] = e1) ∧ wipeE e1 own = ew)
    (hl : ew.length = env.length) (hc : items.length ≤ cap) {out : List D} (ho : (items.filter p).map f = out) :
    evE C (.comp own t k src tst elt) env = .ok [.fr (.lst out)] e2 := by
  subst ho
  subst hw
  subst hb
  have := comp_at (C := C) (own := own) (t := t) (k := k) (src := src) (tst := tst) (elt := elt) (out := (items.filter p).map f) h1 h2 (by
    rw [hf, compLoop_run p f items [] h (by simpa using hc)]
    rfl) (by rw [hf]; exact hl)
  rw [this, hf]
theorem comp_m {C : EC} {own : List Nat} {t : T} {k : IK} {src elt : E} {env ew e2 : Ev.Env} {os : List O} {items : List D} (f : D → D)
    (h1 : evE C src env = .ok os env) (h2 : itSem k (os.map (O.view env)) = some items) (hf : freezeL (freezeO env os) own = env) (hw : wipeE env own = ew) (hb : backE env ew own = e2)
    (h : ∀ d ∈ items, ∃ e1, bind1 t d ew = some e1 ∧ (∃ o, evE C elt e1 = .ok [o] e1 ∧ o.view e1 = f d ∧ freezeO e1 [o] = e1) ∧ wipeE e1 own = ew)
    (hl : ew.length = env.length) (hc : items.length ≤ cap) {out : List D} (ho : items.map f = out) :
    evE C (.comp own t k src (.cst (.bl true)) elt) env = .ok [.fr (.lst out)] e2 := by
  subst ho
  have := comp_fm (C := C) (own := own) (t := t) (k := k) (src := src) (tst := .cst (.bl true)) (elt := elt) (fun _ => true) f h1 h2 hf hw hb (fun d hd => by
    obtain ⟨e1, a, b, c⟩ := h d hd
    exact ⟨e1, a, rfl, fun _ => b, c⟩) hl hc rfl
  rw [this, List.filter_eq_self.mpr fun _ _ => rfl]
theorem cut_to1 {k : Nat} : op2 (.cut false true) (tI xs) (.int ((k : Int) + 1)) = some (tI (xs.take (k + 1))) := by
  have := cut_to xs (k + 1)
  rw [← this]
  rfl
theorem for_run {t : T} {body : Ev.Env → R Fl} (I : Nat → Ev.Env → Prop) {items : List D}
    (h : ∀ k d env, items[k]? = some d → I k env → ∃ e1 e2, bind1 t d env = some e1 ∧ body e1 = .ok .nx e2 ∧ I (k + 1) e2) {env : Ev.Env} (i0 : I 0 env) :
    ∃ env', forLoop t body items env = .ok .nx env' ∧ I items.length env' := by
  have := forLoop_run I items 0 (fun k d env e i => by
    rw [Nat.zero_add] at i ⊢
    exact h k d env e i) env i0
  rwa [Nat.zero_add] at this
theorem for_ret {t : T} {body : Ev.Env → R Fl} (I : Nat → Ev.Env → Prop) {items : List D} {v : D} {fr : Bool} {k1 : Nat} (Q : Ev.Env → Prop)
    (h : ∀ k d env, k < k1 → items[k]? = some d → I k env → ∃ e1 e2, bind1 t d env = some e1 ∧ body e1 = .ok .nx e2 ∧ I (k + 1) e2)
    (hr : ∃ d, items[k1]? = some d ∧ ∀ env, I k1 env → ∃ e1 e2, bind1 t d env = some e1 ∧ body e1 = .ok (.rt v fr) e2 ∧ Q e2) {env : Ev.Env} (i0 : I 0 env) :
    ∃ env', forLoop t body items env = .ok (.rt v fr) env' ∧ Q env' := by
  exact forLoop_ret (m := 0) I items 0 k1 Q (fun k d env hk e i => by
    rw [Nat.zero_add] at i ⊢
    exact h k d env hk e i) (by rwa [Nat.zero_add]) env i0
theorem nI_get {k : Nat} {d : D} (h : (nI xs)[k]? = some d) : ∃ x, xs[k]? = some x ∧ d = .int x := by
  rw [List.getElem?_map] at h
  cases q : xs[k]? with
  | none => rw [q] at h; cases h
  | some x => rw [q] at h; cases h; exact ⟨x, rfl, rfl⟩
theorem enumI_get {k : Nat} {d : D} (h : (enumD 0 (nI xs))[k]? = some d) : ∃ x, xs[k]? = some x ∧ d = .tup [.int (k : Int), .int x] := by
  rw [enumD_get, List.getElem?_map] at h
  cases q : xs[k]? with
  | none => rw [q] at h; cases h
  | some x => rw [q] at h; cases h; exact ⟨x, rfl, by rw [Nat.zero_add]⟩
theorem uptoI_get {lo : Int} {n k : Nat} {d : D} (h : ((upto lo n).map D.int)[k]? = some d) : k < n ∧ d = .int (lo + (k : Int)) := by
  rw [upto_eq, List.map_map, List.getElem?_map] at h
  by_cases q : k < n
  · rw [List.getElem?_range q] at h
    cases h
    exact ⟨q, rfl⟩
  · rw [List.getElem?_eq_none (by rw [List.length_range]; omega)] at h
    cases h
theorem nI_len : (nI xs).length = xs.length := List.length_map ..
theorem enumI_len {n : Nat} : (enumD n (nI xs)).length = xs.length := by rw [enumD_len, nI_len]
theorem le_cap {n : Nat} (h : n ≤ 1000) : n ≤ cap := Nat.le_trans h (by decide)
end Ev
end
section
set_option linter.all false
set_option maxRecDepth 100000
namespace Ev
open PySem
abbrev iN : Nat → D := fun k => .int (k : Int)
abbrev nN (ks : List Nat) : List D := ks.map fun k : Nat => D.int (k : Int)
theorem upto_iN (n : Nat) : (upto 0 n).map D.int = (List.range n).map iN := by
  rw [upto_eq, List.map_map]
  refine List.map_congr_left fun k _ => ?_
  show D.int (0 + (k : Int)) = _
  rw [Int.zero_add]
theorem upto_lo (lo n : Nat) : (upto (lo : Int) n).map D.int = (List.range n).map fun k => iN (lo + k) := by
  rw [upto_eq, List.map_map]
  refine List.map_congr_left fun k _ => ?_
  show D.int ((lo : Int) + (k : Int)) = .int ((lo + k : Nat) : Int)
  congr 1
theorem it_rg (n : Nat) (h : n ≤ 100000) : itSem .rg1 [iN n] = some ((List.range n).map iN) := by
  show (if rngOk n = true then some ((upto 0 (n : Int).toNat).map D.int) else none) = _
  rw [if_pos (rngOk_iff.mpr ⟨by omega, by omega⟩), Int.toNat_natCast, upto_iN]
theorem it_rgI (i : Int) (n : Nat) (e : i.toNat = n) (h : n ≤ 100000) (h2 : -100000 ≤ i) : itSem .rg1 [.int i] = some ((List.range n).map iN) := by
  show (if rngOk i = true then some ((upto 0 i.toNat).map D.int) else none) = _
  rw [if_pos (rngOk_iff.mpr ⟨by omega, by omega⟩), e, upto_iN]
theorem it_rg2 (a b : Int) (lo n : Nat) (e : a = lo) (e2 : (b - a).toNat = n) (h : lo ≤ 100000) (h2 : -100000 ≤ b) (h3 : b ≤ 100000) : itSem .rg2 [.int a, .int b] = some ((List.range n).map fun k => iN (lo + k)) := by
  subst e
  show (if (rngOk lo && rngOk b) = true then some ((upto lo (b - lo).toNat).map D.int) else none) = _
  rw [if_pos (by rw [Bool.and_eq_true, rngOk_iff, rngOk_iff]; omega), e2, upto_lo]
theorem comp_t {α : Type} {C : EC} {own : List Nat} {t : T} {k : IK} {src tst elt : E} {env ew e2 : Ev.Env} {os : List O} (xs : List α) (enc : α → D) (p : α → Bool) (f : α → D)
    (h1 : evE C src env = .ok os env) (h2 : itSem k (os.map (O.view env)) = some (xs.map enc)) (hf : freezeL (freezeO env os) own = env) (hw : wipeE env own = ew) (hb : backE env ew own = e2)
    (h : ∀ x ∈ xs, ∃ e1, bind1 t (enc x) ew = some e1 ∧ evE C tst e1 = .ok [.fz (.bl (p x))] e1 ∧ (p x = true → ∃ o, evE C elt e1 = .ok [o] e1 ∧ o.view e1 = f x ∧ freezeO e1 [o] = e1) ∧ wipeE e1 own = ew)
    (hl : ew.length = env.length) (hc : xs.length ≤ cap) :
    evE C (.comp own t k src tst elt) env = .ok [.fr (.lst ((xs.filter p).map f))] e2 := by
  subst hw
  subst hb
  have key : ∀ (xs : List α) (acc : List D), (∀ x ∈ xs, ∃ e1, bind1 t (enc x) (wipeE env own) = some e1 ∧ evE C tst e1 = .ok [.fz (.bl (p x))] e1 ∧ (p x = true → ∃ o, evE C elt e1 = .ok [o] e1 ∧ o.view e1 = f x ∧ freezeO e1 [o] = e1) ∧ wipeE e1 own = wipeE env own) → acc.length + xs.length ≤ cap →
      compLoop own t (evE C tst) (evE C elt) (xs.map enc) (wipeE env own) acc = .ok (acc.reverse ++ (xs.filter p).map f) (wipeE env own) := by
    intro xs
    induction xs with
    | nil => intro acc _ _; rw [List.map_nil, compLoop]; simp
    | cons x r ih =>
      intro acc h hc
      obtain ⟨e1, h1, h2, h3, h4⟩ := h x List.mem_cons_self
      rw [List.map_cons, compLoop, h1]
      show (evE C tst e1).tst _ = _
      rw [h2]
      rw [List.length_cons] at hc
      show (if p x = true then _ else _) = _
      by_cases hp : p x = true
      · obtain ⟨o, h5, h6, h7⟩ := h3 hp
        rw [if_pos hp, h5]
        show (if acc.length < cap then compLoop own t (evE C tst) (evE C elt) (r.map enc) (wipeE (freezeO e1 [o]) own) (o.view e1 :: acc) else .stuck) = _
        rw [if_pos (show acc.length < cap by omega), h7, h4, h6, ih (f x :: acc) (fun d hd => h d (List.mem_cons_of_mem _ hd)) (by rw [List.length_cons]; omega)]
        simp [hp]
      · rw [if_neg hp, h4, ih acc (fun d hd => h d (List.mem_cons_of_mem _ hd)) (by omega)]
        simp [hp]
  have := comp_at (C := C) (own := own) (t := t) (k := k) (src := src) (tst := tst) (elt := elt) (out := (xs.filter p).map f) h1 h2 (by
    rw [hf, key xs [] h (by simpa using hc)]
    rfl) (by rw [hf]; exact hl)
  rw [this, hf]
theorem comp_tm {α : Type} {C : EC} {own : List Nat} {t : T} {k : IK} {src elt : E} {env ew e2 : Ev.Env} {os : List O} (xs : List α) (enc : α → D) (f : α → D)
    (h1 : evE C src env = .ok os env) (h2 : itSem k (os.map (O.view env)) = some (xs.map enc)) (hf : freezeL (freezeO env os) own = env) (hw : wipeE env own = ew) (hb : backE env ew own = e2)
    (h : ∀ x ∈ xs, ∃ e1, bind1 t (enc x) ew = some e1 ∧ (∃ o, evE C elt e1 = .ok [o] e1 ∧ o.view e1 = f x ∧ freezeO e1 [o] = e1) ∧ wipeE e1 own = ew)
    (hl : ew.length = env.length) (hc : xs.length ≤ cap) :
    evE C (.comp own t k src (.cst (.bl true)) elt) env = .ok [.fr (.lst (xs.map f))] e2 := by
  have := comp_t (C := C) (own := own) (t := t) (k := k) (src := src) (tst := .cst (.bl true)) (elt := elt) xs enc (fun _ => true) f h1 h2 hf hw hb (fun d hd => by
    obtain ⟨e1, a, b, c⟩ := h d hd
    exact ⟨e1, a, rfl, fun _ => b, c⟩) hl hc
  rw [this, List.filter_eq_self.mpr fun _ _ => rfl]
theorem for_t {α : Type} {t : T} {body : Ev.Env → R Fl} (enc : α → D) (I : List α → Ev.Env → Prop) (xs : List α)
    (h : ∀ pre x post env, xs = pre ++ x :: post → I pre env → ∃ e1 e2, bind1 t (enc x) env = some e1 ∧ body e1 = .ok .nx e2 ∧ I (pre ++ [x]) e2) {env : Ev.Env} (i0 : I [] env) :
    ∃ env', forLoop t body (xs.map enc) env = .ok .nx env' ∧ I xs env' := by
  have key : ∀ (post pre : List α) (env : Ev.Env), xs = pre ++ post → I pre env → ∃ env', forLoop t body (post.map enc) env = .ok .nx env' ∧ I xs env' := by
    intro post
    induction post with
    | nil => intro pre env e i; rw [List.append_nil] at e; exact ⟨env, rfl, e ▸ i⟩
    | cons x r ih =>
      intro pre env e i
      obtain ⟨e1, e2, h1, h2, h3⟩ := h pre x r env e i
      obtain ⟨env', h4, h5⟩ := ih (pre ++ [x]) e2 (by rw [e, List.append_assoc]; rfl) h3
      refine ⟨env', ?_, h5⟩
      rw [List.map_cons, forLoop, h1]
      show turnF (forLoop t body (r.map enc)) (body e1) = _
      rw [h2]
      exact h4
  exact key xs [] env rfl i0
theorem for_t2 {α : Type} {t : T} {body : Ev.Env → R Fl} (enc : α → D) (I : List α → Ev.Env → Prop) (W : Fl → Ev.Env → Prop) (xs : List α)
    (h : ∀ pre x post env, xs = pre ++ x :: post → I pre env → ∃ e1 fl e2, bind1 t (enc x) env = some e1 ∧ body e1 = .ok fl e2 ∧ ((fl = .nx ∧ I (pre ++ [x]) e2) ∨ (fl = .ct ∧ I (pre ++ [x]) e2) ∨ (∃ d fr, fl = .rt d fr ∧ W (.rt d fr) e2) ∨ (fl = .bk ∧ W .nx e2)))
    (hd : ∀ env, I xs env → W .nx env) {env : Ev.Env} (i0 : I [] env) :
    ∃ fl env', forLoop t body (xs.map enc) env = .ok fl env' ∧ W fl env' := by
  have key : ∀ (post pre : List α) (env : Ev.Env), xs = pre ++ post → I pre env → ∃ fl env', forLoop t body (post.map enc) env = .ok fl env' ∧ W fl env' := by
    intro post
    induction post with
    | nil => intro pre env e i; rw [List.append_nil] at e; exact ⟨.nx, env, rfl, hd _ (e ▸ i)⟩
    | cons x r ih =>
      intro pre env e i
      obtain ⟨e1, fl, e2, h1, h2, h3⟩ := h pre x r env e i
      have st : forLoop t body ((x :: r).map enc) env = turnF (forLoop t body (r.map enc)) (.ok fl e2) := by
        rw [List.map_cons, forLoop, h1]
        show turnF (forLoop t body (r.map enc)) (body e1) = _
        rw [h2]
      rw [st]
      rcases h3 with ⟨rfl, i⟩ | ⟨rfl, i⟩ | ⟨d, fr, rfl, w⟩ | ⟨rfl, w⟩
      · exact ih (pre ++ [x]) e2 (by rw [e, List.append_assoc]; rfl) i
      · exact ih (pre ++ [x]) e2 (by rw [e, List.append_assoc]; rfl) i
      · exact ⟨_, _, rfl, w⟩
      · exact ⟨_, _, rfl, w⟩
  exact key xs [] env rfl i0
theorem enum_t (xs : List Int) : enumD 0 (nI xs) = xs.zipIdx.map fun p : Int × Nat => D.tup [.int (p.2 : Int), .int p.1] := by
  refine List.ext_getElem? fun k => ?_
  rw [enumD_get, List.getElem?_map, List.getElem?_map, List.getElem?_zipIdx]
  cases xs[k]? <;> simp
end Ev
end
section
set_option linter.all false
namespace Mr
def rs : List Int → Nat
  | x :: y :: r => (if x < y then 1 else 0) + rs (y :: r)
  | _ => 0
theorem rs_snoc : ∀ (r : List Int) (a b : Int), rs (r ++ [a] ++ [b]) = rs (r ++ [a]) + (if a < b then 1 else 0)
  | [], a, b => by simp [rs]
  | [x], a, b => by simp [rs]
  | x :: y :: r, a, b => by
    have := rs_snoc (y :: r) a b
    simp only [List.cons_append, rs] at this ⊢
    omega
def ins (ps : List Int) (k : Nat) : List Int := ps.take k ++ ((ps.length : Int) + 1) :: ps.drop k
def okB (ps : List Int) : Nat → Bool
  | 0 => true
  | k + 1 => match ps[k]? with
    | some v => v == 1 || (ps.take k).contains (v - 1)
    | none => false
theorem okB_succ (ps : List Int) (k : Nat) : okB ps (k + 1) = (match ps[k]? with
    | some v => v == 1 || (ps.take k).contains (v - 1)
    | none => false) := rfl
def sts (ps : List Int) : List Nat := (List.range (ps.length + 1)).filter (okB ps)
theorem ins_len (ps : List Int) (k : Nat) : (ins ps k).length = ps.length + 1 := by
  unfold ins
  simp
  omega
theorem ins_lt {ps : List Int} {k j : Nat} (hk : k ≤ ps.length) (h : j < k) : (ins ps k)[j]? = ps[j]? := by
  unfold ins
  rw [List.getElem?_append_left (by rw [List.length_take]; omega), List.getElem?_take_of_lt h]
theorem ins_eq {ps : List Int} {k : Nat} (hk : k ≤ ps.length) : (ins ps k)[k]? = some ((ps.length : Int) + 1) := by
  unfold ins
  rw [List.getElem?_append_right (by rw [List.length_take]; omega), List.length_take, Nat.min_eq_left hk, Nat.sub_self]
  rfl
theorem ins_gt {ps : List Int} {k j : Nat} (hk : k ≤ ps.length) (h : k ≤ j) : (ins ps k)[j + 1]? = ps[j]? := by
  unfold ins
  rw [List.getElem?_append_right (by rw [List.length_take]; omega), List.length_take, Nat.min_eq_left hk, show j + 1 - k = (j - k) + 1 by omega, List.getElem?_cons_succ, List.getElem?_drop]
  congr 1
  omega
theorem take_le {ps : List Int} {k j : Nat} (hk : k ≤ ps.length) (h : j ≤ k) : (ins ps k).take j = ps.take j := by
  unfold ins
  rw [List.take_append_of_le_length (by rw [List.length_take]; omega), List.take_take, Nat.min_eq_left h]
theorem ins_mem {ps : List Int} {k : Nat} {v : Int} : v ∈ ins ps k ↔ v = (ps.length : Int) + 1 ∨ v ∈ ps := by
  unfold ins
  rw [List.mem_append, List.mem_cons]
  constructor
  · rintro (h | h | h)
    · exact .inr (List.mem_of_mem_take h)
    · exact .inl h
    · exact .inr (List.mem_of_mem_drop h)
  · rintro (h | h)
    · exact .inr (.inl h)
    · rw [← List.take_append_drop k ps, List.mem_append] at h
      rcases h with h | h
      · exact .inl h
      · exact .inr (.inr h)
theorem take_gt {ps : List Int} {k j : Nat} (hk : k ≤ ps.length) (h : k ≤ j) {v : Int} : v ∈ (ins ps k).take (j + 1) ↔ v = (ps.length : Int) + 1 ∨ v ∈ ps.take j := by
  have e : (ins ps k).take (j + 1) = ps.take k ++ ((ps.length : Int) + 1) :: (ps.drop k).take (j - k) := by
    unfold ins
    rw [List.take_append, List.length_take, Nat.min_eq_left hk, List.take_take, Nat.min_eq_right (by omega), show j + 1 - k = (j - k) + 1 by omega, List.take_succ_cons]
  have e2 : ps.take j = ps.take k ++ (ps.drop k).take (j - k) := by
    rw [← List.drop_take, ← show (ps.take j).take k = ps.take k by rw [List.take_take, Nat.min_eq_left h], List.take_append_drop]
  rw [e, e2, List.mem_append, List.mem_cons, List.mem_append]
  constructor
  · rintro (h | h | h)
    · exact .inr (.inl h)
    · exact .inl h
    · exact .inr (.inr h)
  · rintro (h | h | h)
    · exact .inr (.inl h)
    · exact .inl h
    · exact .inr (.inr h)
structure Np (ps : List Int) : Prop where
  nd : ps.Nodup
  mem : ∀ v, v ∈ ps ↔ 1 ≤ v ∧ v ≤ ps.length
  un : ∀ p v u, ps[p]? = some v → ps[p + 1]? = some u → 1 < v → v < u → v - 1 ∈ ps.take p
theorem Np.nil : Np [] := ⟨List.nodup_nil, fun v => by simp; omega, fun p v u h => by cases h⟩
theorem okB_spec {ps : List Int} {k : Nat} {v : Int} (hv : ps[k]? = some v) : okB ps (k + 1) = (v == 1 || (ps.take k).contains (v - 1)) := by
  rw [okB_succ, hv]
theorem Np.ins {ps : List Int} (h : Np ps) {k : Nat} (hk : k ≤ ps.length) (ho : okB ps k = true) : Np (ins ps k) := by
  refine ⟨?_, fun v => ?_, fun p v u hv hu h1 h2 => ?_⟩
  · have : (Mr.ins ps k).Perm (((ps.length : Int) + 1) :: ps) := by
      unfold Mr.ins
      refine List.perm_middle.trans ?_
      rw [List.take_append_drop]
    refine this.nodup_iff.mpr (List.nodup_cons.mpr ⟨fun hm => ?_, h.nd⟩)
    have := (h.mem _).mp hm
    omega
  · rw [ins_mem, h.mem, ins_len]
    omega
  · rcases Nat.lt_or_ge (p + 1) k with q | q
    · rw [ins_lt hk (by omega)] at hv
      rw [ins_lt hk q] at hu
      rw [take_le hk (by omega)]
      exact h.un p v u hv hu h1 h2
    · rcases Nat.lt_or_ge k (p + 1) with q2 | q2
      · rcases Nat.lt_or_ge k p with q3 | q3
        · obtain ⟨p, rfl⟩ : ∃ p', p = p' + 1 := ⟨p - 1, by omega⟩
          rw [ins_gt hk (by omega)] at hv hu
          exact (take_gt hk (by omega)).mpr (.inr (h.un p v u hv hu h1 h2))
        · obtain rfl : p = k := by omega
          rw [ins_eq hk] at hv
          cases hv
          rw [ins_gt hk (Nat.le_refl _)] at hu
          have := (h.mem u).mp (List.mem_of_getElem? hu)
          omega
      · obtain rfl : k = p + 1 := by omega
        rw [ins_lt hk (by omega)] at hv
        rw [okB_spec hv] at ho
        rw [take_le hk (by omega)]
        rcases Bool.or_eq_true _ _ ▸ ho with e | e
        · have : v = 1 := by simpa using e
          omega
        · simpa using e
theorem okB_ins_le {ps : List Int} {k j : Nat} (hk : k ≤ ps.length) (h : j ≤ k) : okB (ins ps k) j = okB ps j := by
  cases j with
  | zero => rfl
  | succ j =>
    rw [okB_succ, okB_succ, ins_lt hk (by omega), take_le hk (by omega)]
theorem okB_ins_at {ps : List Int} (hp : Np ps) {k : Nat} (hk : k ≤ ps.length) : okB (ins ps k) (k + 1) = (decide (ps.length = 0) || (ps.take k).contains (ps.length : Int)) := by
  rw [okB_spec (ins_eq hk), take_le hk (Nat.le_refl _)]
  congr 1
  · by_cases h : ps.length = 0
    · simp [h]
    · rw [decide_eq_false h]
      simp
      omega
  · rw [show (ps.length : Int) + 1 - 1 = ps.length by omega]
theorem okB_ins_gt {ps : List Int} (hp : Np ps) {k j : Nat} (hk : k ≤ ps.length) (h : k < j) : okB (ins ps k) (j + 1) = okB ps j := by
  obtain ⟨j, rfl⟩ : ∃ j', j = j' + 1 := ⟨j - 1, by omega⟩
  rw [okB_succ, okB_succ, ins_gt hk (by omega)]
  cases q : ps[j]? with
  | none => rfl
  | some v =>
    show (v == 1 || ((ins ps k).take (j + 1)).contains (v - 1)) = (v == 1 || (ps.take j).contains (v - 1))
    congr 1
    rw [Bool.eq_iff_iff, List.contains_iff_mem, List.contains_iff_mem, take_gt hk (by omega)]
    have := (hp.mem v).mp (List.mem_of_getElem? q)
    constructor
    · rintro (e | e)
      · omega
      · exact e
    · exact .inr
def cnt (ps : List Int) (k : Nat) : Nat := (List.range k).countP (okB ps)
theorem cnt_succ (ps : List Int) (k : Nat) : cnt ps (k + 1) = cnt ps k + if okB ps k = true then 1 else 0 := by
  unfold cnt
  rw [List.range_succ, List.countP_append, List.countP_singleton]
theorem cnt_mono (ps : List Int) {j k : Nat} (h : j ≤ k) : cnt ps j ≤ cnt ps k := by
  induction k with
  | zero => rw [Nat.le_zero.mp h]; exact Nat.le_refl _
  | succ k ih =>
    rcases Nat.lt_or_ge k j with q | q
    · rw [show j = k + 1 by omega]; exact Nat.le_refl _
    · rw [cnt_succ]
      exact Nat.le_trans (ih q) (Nat.le_add_right ..)
theorem cnt_lt (ps : List Int) {j k : Nat} (h : j < k) (ho : okB ps j = true) : cnt ps j < cnt ps k := by
  have := cnt_mono ps (show j + 1 ≤ k from h)
  rw [cnt_succ, if_pos ho] at this
  omega
theorem sts_len (ps : List Int) : (sts ps).length = cnt ps (ps.length + 1) := by
  unfold sts cnt
  rw [List.countP_eq_length_filter]
theorem filt_at (p : Nat → Bool) : ∀ (n b : Nat), b < (List.range n).countP p → ∃ k, k < n ∧ p k = true ∧ (List.range k).countP p = b ∧ ((List.range n).filter p)[b]? = some k
  | 0, b, h => by simp at h
  | n + 1, b, h => by
    rw [List.range_succ, List.countP_append, List.countP_singleton] at h
    rw [List.range_succ, List.filter_append]
    rcases Nat.lt_or_ge b ((List.range n).countP p) with q | q
    · obtain ⟨k, h1, h2, h3, h4⟩ := filt_at p n b q
      exact ⟨k, by omega, h2, h3, by rw [List.getElem?_append_left (by rw [← List.countP_eq_length_filter]; exact q), h4]⟩
    · have hp : p n = true := by
        by_cases e : p n = true
        · exact e
        · rw [if_neg e] at h; omega
      rw [if_pos hp] at h
      refine ⟨n, by omega, hp, by omega, ?_⟩
      rw [List.getElem?_append_right (by rw [← List.countP_eq_length_filter]; exact q), ← List.countP_eq_length_filter, show b - (List.range n).countP p = 0 by omega]
      simp [hp]
theorem sts_at {ps : List Int} {b : Nat} (h : b < (sts ps).length) : ∃ k, k ≤ ps.length ∧ okB ps k = true ∧ cnt ps k = b ∧ (sts ps)[b]? = some k := by
  rw [sts_len] at h
  obtain ⟨k, h1, h2, h3, h4⟩ := filt_at (okB ps) (ps.length + 1) b h
  exact ⟨k, by omega, h2, h3, h4⟩
theorem sts_of {ps : List Int} {k : Nat} (hk : k ≤ ps.length) (ho : okB ps k = true) : (sts ps)[cnt ps k]? = some k := by
  have := cnt_lt ps (show k < ps.length + 1 by omega) ho
  obtain ⟨j, h1, h2, h3, h4⟩ := sts_at (ps := ps) (b := cnt ps k) (by rw [sts_len]; exact this)
  rw [h4]
  rcases Nat.lt_trichotomy j k with q | q | q
  · have := cnt_lt ps q h2; omega
  · rw [q]
  · have := cnt_lt ps q ho; omega
theorem cnt_ins_le {ps : List Int} {k : Nat} (hk : k ≤ ps.length) : ∀ {j : Nat}, j ≤ k + 1 → cnt (ins ps k) j = cnt ps j
  | 0, _ => rfl
  | j + 1, h => by rw [cnt_succ, cnt_succ, cnt_ins_le hk (by omega), okB_ins_le hk (by omega)]
theorem cnt_ins_gt {ps : List Int} (hp : Np ps) {k : Nat} (hk : k ≤ ps.length) : ∀ (j : Nat), cnt (ins ps k) (k + 2 + j) = cnt ps (k + 1 + j) + if okB (ins ps k) (k + 1) = true then 1 else 0
  | 0 => by
    show cnt (ins ps k) (k + 1 + 1) = _
    rw [cnt_succ, cnt_ins_le hk (Nat.le_refl _)]
  | j + 1 => by
    rw [show k + 2 + (j + 1) = (k + 2 + j) + 1 by omega, cnt_succ, cnt_ins_gt hp hk j, show k + 1 + (j + 1) = (k + 1 + j) + 1 by omega, cnt_succ, show k + 2 + j = (k + 1 + j) + 1 by omega, okB_ins_gt (j := k + 1 + j) hp hk (by omega)]
    omega
theorem sts_ins_len {ps : List Int} (hp : Np ps) {k : Nat} (hk : k ≤ ps.length) : (sts (ins ps k)).length = (sts ps).length + if okB (ins ps k) (k + 1) = true then 1 else 0 := by
  rw [sts_len, sts_len, ins_len]
  have := cnt_ins_gt hp hk (ps.length - k)
  rw [show k + 2 + (ps.length - k) = ps.length + 1 + 1 by omega, show k + 1 + (ps.length - k) = ps.length + 1 by omega] at this
  exact this
def stp (ps : List Int) (b : Int) : List Int := ins ps ((sts ps).getD b.toNat 0)
def bld (r : List Int) : List Int := r.foldl stp []
theorem bld_snoc (r : List Int) (b : Int) : bld (r ++ [b]) = stp (bld r) b := by
  unfold bld
  rw [List.foldl_append]
  rfl
def okAt (xs : List Int) (k : Nat) : Prop := ∀ x, xs[k]? = some x → x ≤ if k = 0 then 0 else 1 + (rs (xs.take k) : Int)
def Asc (xs : List Int) : Prop := ∀ k, okAt xs k
theorem Asc.pre {r : List Int} {b : Int} (h : Asc (r ++ [b])) : Asc r := fun k x hx => by
  have hk : k < r.length := (List.getElem?_eq_some_iff.mp hx).1
  have := h k x (by rw [List.getElem?_append_left hk]; exact hx)
  rwa [List.take_append_of_le_length (by omega)] at this
theorem Asc.last {r : List Int} {b : Int} (h : Asc (r ++ [b])) : b ≤ if r = [] then 0 else 1 + (rs r : Int) := by
  have := h r.length b (by simp)
  rw [List.take_left] at this
  cases r with
  | nil => exact this
  | cons x r => exact this
structure Inv (r ps : List Int) : Prop where
  len : ps.length = r.length
  np : Np ps
  nz : ps = [] ∨ ∃ a pm, r.getLast? = some a ∧ ps[pm]? = some (ps.length : Int) ∧ okB ps pm = true ∧ (cnt ps pm : Int) = a ∧ (sts ps).length = rs r + 2
theorem Inv.gaps {r ps : List Int} (h : Inv r ps) : ((sts ps).length : Int) = if r = [] then 1 else rs r + 2 := by
  rcases h.nz with e | ⟨a, pm, h1, h2, h3, h4, h5⟩
  · subst e
    have : r = [] := List.length_eq_zero_iff.mp h.len.symm
    rw [if_pos this]
    rfl
  · rw [if_neg (fun e => by rw [e] at h1; cases h1), h5]
    try rfl
theorem Inv.step {r ps : List Int} (h : Inv r ps) {b : Int} (h0 : 0 ≤ b) (hb : b < (sts ps).length) : ∃ k, k ≤ ps.length ∧ okB ps k = true ∧ cnt ps k = b.toNat ∧ (sts ps)[b.toNat]? = some k ∧ stp ps b = ins ps k ∧ Inv (r ++ [b]) (ins ps k) := by
  obtain ⟨k, h1, h2, h3, h4⟩ := sts_at (ps := ps) (b := b.toNat) (by omega)
  refine ⟨k, h1, h2, h3, h4, by unfold stp; rw [List.getD_eq_getElem?_getD, h4]; rfl, ?_, h.np.ins h1 h2, .inr ⟨b, k, by simp, ?_, ?_, ?_, ?_⟩⟩
  · rw [ins_len, h.len]; simp
  · rw [ins_eq h1, ins_len]; rfl
  · rw [okB_ins_le h1 (Nat.le_refl _), h2]
  · rw [cnt_ins_le h1 (by omega), h3]; omega
  · rw [sts_ins_len h.np h1, okB_ins_at h.np h1]
    rcases h.nz with e | ⟨a, pm, g1, g2, g3, g4, g5⟩
    · subst e
      have : r = [] := List.length_eq_zero_iff.mp h.len.symm
      subst this
      rfl
    · obtain ⟨r', rfl⟩ : ∃ r', r = r' ++ [a] := by
        obtain ⟨l, e⟩ := List.getLast?_eq_some_iff.mp g1
        exact ⟨l, e⟩
      rw [rs_snoc, g5]
      have hne : ¬ ps.length = 0 := by rw [h.len]; simp
      rw [decide_eq_false hne, Bool.false_or]
      have hm : (ps.take k).contains (ps.length : Int) = true ↔ a < b := by
        rw [List.contains_iff_mem]
        constructor
        · intro hm
          obtain ⟨j, hj, e⟩ := List.getElem_of_mem hm
          rw [List.length_take] at hj
          rw [List.getElem_take] at e
          have e2 : j = pm := by
            obtain ⟨q1, q2⟩ := List.getElem?_eq_some_iff.mp g2
            exact (List.getElem?_inj (by omega) h.np.nd).mp (by rw [g2, List.getElem?_eq_getElem (by omega), e])
          have := cnt_lt ps (show pm < k by omega) g3
          omega
        · intro hab
          rcases Nat.lt_or_ge pm k with q | q
          · refine List.mem_of_getElem? (i := pm) ?_
            rw [List.getElem?_take_of_lt q, g2]
          · have := cnt_mono ps q
            omega
      by_cases q : a < b
      · rw [if_pos (hm.mpr q), if_pos q]
      · rw [if_neg (fun e => q (hm.mp e)), if_neg q]
def Pos (xs : List Int) : Prop := ∀ x ∈ xs, 0 ≤ x
theorem inv_of : ∀ (n : Nat) (r : List Int), r.length = n → Asc r → Pos r → Inv r (bld r)
  | 0, r, hn, ha, hp => by
    obtain rfl := List.length_eq_zero_iff.mp hn
    exact ⟨rfl, Np.nil, .inl rfl⟩
  | n + 1, r, hn, ha, hp => by
    obtain ⟨b, r, rfl⟩ : ∃ b r', r = r' ++ [b] := ⟨r.getLast (fun e => by rw [e] at hn; cases hn), r.dropLast, (List.dropLast_concat_getLast _).symm⟩
    have ih := inv_of n r (by simpa using hn) ha.pre (fun x hx => hp x (List.mem_append_left _ hx))
    have hg := ih.gaps
    have hl := ha.last
    obtain ⟨k, _, _, _, _, e, i⟩ := ih.step (b := b) (hp b (by simp)) (by
      rw [hg]
      by_cases q : r = []
      · rw [if_pos q] at hl ⊢; omega
      · rw [if_neg q] at hl ⊢; omega)
    rw [bld_snoc, e]
    exact i
end Mr
end
section
set_option linter.all false
namespace Mr
def insI (x : Int) : List Int → List Int
  | [] => [x]
  | y :: ys => if y < x then y :: insI x ys else x :: y :: ys
def isort : List Int → List Int
  | [] => []
  | x :: xs => insI x (isort xs)
theorem insI_perm (x : Int) : ∀ ys, (insI x ys).Perm (x :: ys)
  | [] => .refl _
  | y :: ys => by
    unfold insI
    by_cases h : y < x
    · rw [if_pos h]
      exact ((insI_perm x ys).cons y).trans (.swap x y ys)
    · rw [if_neg h]
theorem isort_perm : ∀ xs, (isort xs).Perm xs
  | [] => .refl _
  | x :: xs => (insI_perm x _).trans ((isort_perm xs).cons x)
theorem insI_sorted (x : Int) : ∀ ys, ys.Pairwise (· ≤ ·) → (insI x ys).Pairwise (· ≤ ·)
  | [], _ => by simp [insI]
  | y :: ys, h => by
    unfold insI
    rw [List.pairwise_cons] at h
    by_cases q : y < x
    · rw [if_pos q, List.pairwise_cons]
      refine ⟨fun z hz => ?_, insI_sorted x ys h.2⟩
      rcases List.mem_cons.mp ((insI_perm x ys).mem_iff.mp hz) with e | e
      · omega
      · exact h.1 z e
    · rw [if_neg q, List.pairwise_cons, List.pairwise_cons]
      refine ⟨fun z hz => ?_, h⟩
      rcases List.mem_cons.mp hz with e | e
      · omega
      · have := h.1 z e; omega
theorem isort_sorted : ∀ xs, (isort xs).Pairwise (· ≤ ·)
  | [] => .nil
  | x :: xs => insI_sorted x _ (isort_sorted xs)
def one (n : Nat) : List Int := (List.range n).map fun k : Nat => 1 + (k : Int)
theorem one_succ (n : Nat) : one (n + 1) = one n ++ [(n : Int) + 1] := by
  unfold one
  rw [List.range_succ, List.map_append]
  simp
  omega
theorem one_sorted (n : Nat) : (one n).Pairwise (· < ·) := by
  unfold one
  rw [List.pairwise_map]
  exact List.Pairwise.imp (fun h => by omega) List.pairwise_lt_range
theorem sorted_eq : ∀ (xs ys : List Int), xs.Pairwise (· ≤ ·) → ys.Pairwise (· ≤ ·) → xs.Perm ys → xs = ys
  | [], ys, _, _, p => (List.nil_perm.mp p).symm
  | x :: xs, [], _, _, p => by simpa using p.length_eq
  | x :: xs, y :: ys, h1, h2, p => by
    rw [List.pairwise_cons] at h1 h2
    have e : x = y := by
      have a1 : x ∈ y :: ys := p.mem_iff.mp List.mem_cons_self
      have a2 : y ∈ x :: xs := p.mem_iff.mpr List.mem_cons_self
      rcases List.mem_cons.mp a1 with e | e
      · exact e
      · rcases List.mem_cons.mp a2 with e2 | e2
        · exact e2.symm
        · have := h1.1 y e2
          have := h2.1 x e
          omega
    subst e
    rw [sorted_eq xs ys h1.2 h2.2 (List.perm_cons x |>.mp p)]
theorem one_mem {n : Nat} {v : Int} : v ∈ one n ↔ 1 ≤ v ∧ v ≤ n := by
  unfold one
  rw [List.mem_map]
  constructor
  · rintro ⟨k, hk, rfl⟩
    have := List.mem_range.mp hk
    omega
  · rintro ⟨h1, h2⟩
    exact ⟨(v - 1).toNat, List.mem_range.mpr (by omega), by omega⟩
theorem one_nd (n : Nat) : (one n).Nodup := (one_sorted n).imp fun h => by omega
theorem isort_np {ps : List Int} (h : Np ps) : isort ps = one ps.length :=
  sorted_eq _ _ (isort_sorted _) ((one_sorted _).imp fun h => by omega) ((isort_perm _).trans ((List.perm_ext_iff_of_nodup h.nd (one_nd _)).mpr fun v => by rw [h.mem, one_mem]))
end Mr
end
section
set_option linter.all false
namespace Mr
def most (r : List Int) : Int := if r = [] then 0 else 1 + (rs r : Int)
theorem rs_le : ∀ r : List Int, r ≠ [] → rs r + 1 ≤ r.length
  | [], h => absurd rfl h
  | [x], _ => by simp [rs]
  | x :: y :: r, _ => by
    have := rs_le (y :: r) (by simp)
    have e : rs (x :: y :: r) = (if x < y then 1 else 0) + rs (y :: r) := rfl
    rw [e, List.length_cons]
    split <;> omega
theorem most_le (r : List Int) : most r ≤ r.length := by
  unfold most
  by_cases h : r = []
  · rw [if_pos h]; omega
  · rw [if_neg h]
    have := rs_le r h
    omega
theorem most_nn (r : List Int) : 0 ≤ most r := by
  unfold most
  by_cases h : r = []
  · rw [if_pos h]; omega
  · rw [if_neg h]; omega
theorem asc_snoc {r : List Int} {x : Int} (h : Asc r) (hx : x ≤ most r) : Asc (r ++ [x]) := fun k v hv => by
  by_cases hk : k < r.length
  · rw [List.getElem?_append_left hk] at hv
    have := h k v hv
    rwa [List.take_append_of_le_length (by omega)]
  · have hl := (List.getElem?_eq_some_iff.mp hv).1
    rw [List.length_append, List.length_singleton] at hl
    obtain rfl : k = r.length := by omega
    have : v = x := by simpa using hv.symm
    rw [List.take_left, this]
    unfold most at hx
    cases r with
    | nil => exact hx
    | cons a r => exact hx
theorem last_le {r : List Int} (h : Asc r) {x : Int} (hx : r.getLast? = some x) : x ≤ most r := by
  obtain ⟨l, rfl⟩ := List.getLast?_eq_some_iff.mp hx
  have h1 := h.last
  unfold most
  rw [if_neg (by simp)]
  cases hl : l.getLast? with
  | none =>
    have : l = [] := List.getLast?_eq_none_iff.mp hl
    rw [if_pos this] at h1
    omega
  | some a =>
    obtain ⟨l2, rfl⟩ := List.getLast?_eq_some_iff.mp hl
    rw [if_neg (by simp)] at h1
    rw [rs_snoc]
    omega
structure Rw (r : List Int) (n : Nat) : Prop where
  len : r.length = n
  asc : Asc r
  pos : Pos r
theorem Rw.nil : Rw [] 0 := ⟨rfl, fun k x h => (by cases h), fun x h => (by cases h)⟩
theorem Rw.snoc {r : List Int} {n : Nat} (h : Rw r n) {x : Int} (h0 : 0 ≤ x) (h1 : x ≤ most r) : Rw (r ++ [x]) (n + 1) :=
  ⟨by rw [List.length_append, h.len]; rfl, asc_snoc h.asc h1, fun y hy => by
    rcases List.mem_append.mp hy with e | e
    · exact h.pos y e
    · rw [List.mem_singleton.mp e]; exact h0⟩
theorem asc_le {r : List Int} (h : Asc r) : ∀ x ∈ r, x ≤ r.length := fun x hx => by
  obtain ⟨k, hk, e⟩ := List.getElem_of_mem hx
  have h1 := h k x (by rw [List.getElem?_eq_getElem hk, e])
  have h2 := most_le (r.take k)
  have h3 := rs_le (r.take k)
  rw [List.length_take] at h3
  by_cases q : k = 0
  · rw [if_pos q] at h1; omega
  · rw [if_neg q] at h1
    have := h3 (fun e => by
      have := congrArg List.length e
      rw [List.length_take, List.length_nil] at this
      omega)
    omega
theorem Rw.bound {r : List Int} {n : Nat} (h : Rw r n) (hn : n ≤ 60) : ∀ x ∈ r, 0 ≤ x ∧ x ≤ 60 := fun x hx => by
  have := asc_le h.asc x hx
  have := h.pos x hx
  have := h.len
  omega
end Mr
end
section
set_option linter.all false
namespace Mr
def barR (xs : List Int) (p : Nat) : List (Nat × Nat) := ((List.range (xs.length - (p + 2))).filter fun k => xs.getD (p + 2 + k) 0 == xs.getD p 0 - 1 && decide (xs.getD p 0 < xs.getD (p + 1) 0)).map fun k => (p, p + 2 + k)
def barL (xs : List Int) : List (Nat × Nat) := (List.range (xs.length - 1)).flatMap (barR xs)
theorem barR_len (xs : List Int) (p : Nat) : (barR xs p).length ≤ xs.length := by
  unfold barR
  rw [List.length_map]
  refine Nat.le_trans (List.length_filter_le ..) ?_
  rw [List.length_range]
  omega
theorem barL_mem (xs : List Int) (p q : Nat) : (p, q) ∈ barL xs ↔ p + 2 ≤ q ∧ q < xs.length ∧ xs.getD q 0 = xs.getD p 0 - 1 ∧ xs.getD p 0 < xs.getD (p + 1) 0 := by
  unfold barL barR
  simp only [List.mem_flatMap, List.mem_range, List.mem_map, List.mem_filter, Bool.and_eq_true, beq_iff_eq, decide_eq_true_eq, Prod.mk.injEq]
  constructor
  · rintro ⟨a, h1, b, ⟨h2, h3, h4⟩, rfl, rfl⟩
    exact ⟨by omega, by omega, h3, h4⟩
  · rintro ⟨h1, h2, h3, h4⟩
    exact ⟨p, by omega, q - (p + 2), ⟨by omega, by rw [show p + 2 + (q - (p + 2)) = q by omega]; exact h3, h4⟩, rfl, by omega⟩
theorem getD_some {xs : List Int} {k : Nat} {v : Int} (h : xs[k]? = some v) : xs.getD k 0 = v := by
  rw [List.getD_eq_getElem?_getD, h]; rfl
theorem getD_lt {xs : List Int} {k : Nat} (h : k < xs.length) : xs[k]? = some (xs.getD k 0) := by
  rw [List.getD_eq_getElem?_getD, List.getElem?_eq_getElem h]; rfl
theorem bar_np {ps : List Int} (h : Np ps) : barL ps = [] := by
  cases e : barL ps with
  | nil => rfl
  | cons x r =>
    obtain ⟨p, q⟩ := x
    obtain ⟨h1, h2, h3, h4⟩ := (barL_mem ps p q).mp (by rw [e]; exact List.mem_cons_self)
    have b1 := (h.mem _).mp (List.mem_of_getElem? (getD_lt (xs := ps) (k := q) (by omega)))
    have := h.un p _ _ (getD_lt (by omega)) (getD_lt (by omega)) (by omega) h4
    obtain ⟨i, hi, e2⟩ := List.getElem_of_mem this
    rw [List.length_take] at hi
    rw [List.getElem_take] at e2
    have : i = q := (List.getElem?_inj (by omega) h.nd).mp (by rw [getD_lt (k := q) (by omega), h3, List.getElem?_eq_getElem (by omega), e2])
    omega
theorem bar_ins {ps : List Int} (h : Np ps) {k : Nat} (hk : k ≤ ps.length) : (barL (ins ps k) == []) = okB ps k := by
  by_cases ho : okB ps k = true
  · rw [ho, bar_np (h.ins hk ho)]; rfl
  · rw [Bool.not_eq_true] at ho
    rw [ho]
    cases k with
    | zero => cases ho
    | succ j =>
      have hv := getD_lt (xs := ps) (k := j) (by omega)
      generalize ps.getD j 0 = v at hv
      rw [okB_spec hv, Bool.or_eq_false_iff] at ho
      obtain ⟨h1, h2⟩ := ho
      have h1 : v ≠ 1 := by simpa using h1
      have h2 : v - 1 ∉ ps.take j := by simpa using h2
      have hb := (h.mem v).mp (List.mem_of_getElem? hv)
      obtain ⟨i, hi, e⟩ := List.getElem_of_mem ((h.mem (v - 1)).mpr ⟨by omega, by omega⟩)
      have hij : j < i := by
        rcases Nat.lt_trichotomy i j with q | q | q
        · exact absurd (List.mem_of_getElem? (i := i) (by rw [List.getElem?_take_of_lt q, List.getElem?_eq_getElem hi, e])) h2
        · subst q
          rw [List.getElem?_eq_getElem hi, e] at hv
          have := Option.some.inj hv
          omega
        · exact q
      have : (j, i + 1) ∈ barL (ins ps (j + 1)) := by
        rw [barL_mem, ins_len]
        have a1 : (ins ps (j + 1)).getD (i + 1) 0 = v - 1 := getD_some (by rw [ins_gt hk (by omega), List.getElem?_eq_getElem hi, e])
        have a2 : (ins ps (j + 1)).getD j 0 = v := getD_some (by rw [ins_lt hk (by omega), hv])
        have a3 : (ins ps (j + 1)).getD (j + 1) 0 = (ps.length : Int) + 1 := getD_some (ins_eq hk)
        rw [a1, a2, a3]
        omega
      cases e2 : barL (ins ps (j + 1)) with
      | nil => rw [e2] at this; cases this
      | cons x r => rfl
end Mr
end
section
set_option linter.all false
namespace Mr
theorem bld_filter {r : List Int} (ha : Asc r) (hp : Pos r) : ∀ n k : Nat, k ≤ n → n ≤ r.length → (bld (r.take n)).filter (fun v => decide (v ≤ (k : Int))) = bld (r.take k) := by
  intro n
  induction n with
  | zero =>
    intro k hk _
    obtain rfl : k = 0 := by omega
    rfl
  | succ n ih =>
    intro k hk hn
    have ta : ∀ j, Asc (r.take j) := fun j => fun i x hx => by
      have hi := (List.getElem?_eq_some_iff.mp hx).1
      rw [List.length_take] at hi
      rw [List.getElem?_take_of_lt (by omega)] at hx
      have := ha i x hx
      rwa [List.take_take, Nat.min_eq_left (by omega)]
    have tp : ∀ j, Pos (r.take j) := fun j x hx => hp x (List.mem_of_mem_take hx)
    by_cases hk2 : k = n + 1
    · subst hk2
      have iv := inv_of _ (r.take (n + 1)) rfl (ta _) (tp _)
      rw [List.filter_eq_self]
      intro v hv
      have := (iv.np.mem v).mp hv
      rw [iv.len, List.length_take] at this
      rw [decide_eq_true_eq]
      omega
    · have iv := inv_of _ (r.take n) rfl (ta _) (tp _)
      have e := List.take_succ (l := r) (i := n)
      have hx : r[n]? = some r[n] := List.getElem?_eq_getElem (by omega)
      rw [hx] at e
      have e : r.take (n + 1) = r.take n ++ [r[n]] := e
      rw [e, bld_snoc, ← ih k (by omega) (by omega)]
      unfold stp
      generalize (sts (bld (r.take n))).getD r[n].toNat 0 = g
      unfold ins
      have hl := iv.len
      rw [List.length_take] at hl
      generalize bld (r.take n) = ps at *
      rw [List.filter_append, List.filter_cons, if_neg (by rw [decide_eq_true_eq]; omega), ← List.filter_append, List.take_append_drop]
theorem bld_upto {r : List Int} (ha : Asc r) (hp : Pos r) (k : Nat) (hk : k ≤ r.length) : (bld r).filter (fun v => decide (v ≤ (k : Int))) = bld (r.take k) := by
  have := bld_filter ha hp r.length k hk (Nat.le_refl _)
  rwa [List.take_length] at this
theorem gaps_eq {r : List Int} (ha : Asc r) (hp : Pos r) : ((sts (bld r)).length : Int) = if r = [] then 1 else rs r + 2 := (inv_of _ r rfl ha hp).gaps
theorem gaps_most {r : List Int} (ha : Asc r) (hp : Pos r) : ((sts (bld r)).length : Int) = most r + 1 := by
  rw [gaps_eq ha hp]
  unfold most
  split <;> omega
theorem put_eq {r : List Int} (ha : Asc r) (hp : Pos r) {b : Nat} (hb : b < (sts (bld r)).length) : ∃ g, (sts (bld r))[b]? = some g ∧ ins (bld r) g = bld (r ++ [(b : Int)]) ∧ Rw (r ++ [(b : Int)]) (r.length + 1) := by
  refine ⟨(sts (bld r))[b], List.getElem?_eq_getElem hb, ?_, ?_⟩
  · rw [bld_snoc]
    unfold stp
    rw [Int.toNat_natCast, List.getD_eq_getElem?_getD, List.getElem?_eq_getElem hb]
    rfl
  · refine Rw.snoc ⟨rfl, ha, hp⟩ (by omega) ?_
    have := gaps_most ha hp
    omega
end Mr
end
section
set_option Elab.async false
set_option linter.all false
set_option maxRecDepth 100000
set_option maxHeartbeats 0
namespace Lw
open PySem Ev Mr
abbrev ev (n : Nat) (f : Nat) (ds : List D) : CR := evFn tb 1000 n f ds
abbrev C (n : Nat) : EC := ⟨evFn tb 1000 n, tb.io, 1000⟩
theorem ev_step {n k : Nat} {F : Fn} {ds : List D} (h : tb k = some (.ir F)) (hl : ds.length = F.ar) : ev (n + 1) k ds = endS F (evS (C n) F.body (startE F ds)) := by
  show evFn tb 1000 (n + 1) k ds = _
  rw [evFn, h]
  exact if_pos hl

theorem ev_is_number (n : Nat) (i : Int) : ev (n + 1) kn_is_number [.int i] = .ok (.bl true) false [] := by
  rw [ev_step tb_is_number rfl]
  rfl
theorem ev_is_within (n : Nat) (i a b : Int) : ev (n + 2) kn_is_within [.int i, .int a, .int b] = .ok (.bl (decide (a ≤ i) && decide (i ≤ b))) false [] := by
  rw [ev_step tb_is_within rfl]
  simp [ir_is_within, evS, evE, startE, endS, endFl, endIo, R.one, R.all, R.tst, R.bind, ifI, ifL, ifS, O.view, O.still, Sl.d, Sl.own, freezeO, Env.freeze, freezeL, wipeE, backE, store, ownD, afterCall, afterIo, resO, newOp, scalar, thenF, opSem, compEnd, bind1, seqOf, cmpI, kindD, mtOk, O.isSl, O.anySl, parStore, itSem, it1, it2, anyOf, cap, at0, at1, at2, at3, at4, at5, at6, o_add, o_sub, o_mulr, o_lt, o_le, o_gt, o_ge, o_len_t, o_len_l, o_len_r, o_abs, o_int, o_intb, o_min, o_isn, o_isnn, o_neg, i_int_0, i_int_1, i_int_3, i_int_4, i_int_34, i_int_12, i_int_2, i_bl_0, i_bl_1, i_bl_3, i_bl_4, i_bl_34, i_bl_12, i_bl_2, i_tup_0, i_tup_1, i_tup_3, i_tup_4, i_tup_34, i_tup_12, i_tup_2, i_lst_0, i_lst_1, i_lst_3, i_lst_4, i_lst_34, i_lst_12, i_lst_2, i_non_0, i_non_1, i_non_3, i_non_4, i_non_34, i_non_12, i_non_2, o_eqi, o_nei, io_is_number, ev_is_number]
  by_cases h : a ≤ i <;> simp [h, endS, endFl, endIo]
theorem ev_sure_within (n : Nat) (i a b : Int) (h1 : a ≤ i) (h2 : i ≤ b) : ev (n + 3) kn_sure_within [.int i, .int a, .int b] = .ok (.int i) false [] := by
  rw [ev_step tb_sure_within rfl]
  simp [ir_sure_within, evS, evE, startE, endS, endFl, endIo, R.one, R.all, R.tst, R.bind, ifI, ifL, ifS, O.view, O.still, Sl.d, Sl.own, freezeO, Env.freeze, freezeL, wipeE, backE, store, ownD, afterCall, afterIo, resO, newOp, scalar, thenF, opSem, compEnd, bind1, seqOf, cmpI, kindD, mtOk, O.isSl, O.anySl, parStore, itSem, it1, it2, anyOf, cap, at0, at1, at2, at3, at4, at5, at6, o_add, o_sub, o_mulr, o_lt, o_le, o_gt, o_ge, o_len_t, o_len_l, o_len_r, o_abs, o_int, o_intb, o_min, o_isn, o_isnn, o_neg, i_int_0, i_int_1, i_int_3, i_int_4, i_int_34, i_int_12, i_int_2, i_bl_0, i_bl_1, i_bl_3, i_bl_4, i_bl_34, i_bl_12, i_bl_2, i_tup_0, i_tup_1, i_tup_3, i_tup_4, i_tup_34, i_tup_12, i_tup_2, i_lst_0, i_lst_1, i_lst_3, i_lst_4, i_lst_34, i_lst_12, i_lst_2, i_non_0, i_non_1, i_non_3, i_non_4, i_non_34, i_non_12, i_non_2, o_eqi, o_nei, io_is_within, ev_is_within, h1, h2]
theorem ev_are_within (n : Nat) (xs : List Int) (a b : Int) (h : ∀ x ∈ xs, a ≤ x ∧ x ≤ b) (hc : xs.length ≤ cap) : ev (n + 3) kn_are_within [tI xs, .int a, .int b] = .ok (.bl true) false [] := by
  rw [ev_step tb_are_within rfl]
  have e : evE (C (n + 2)) q_are_within_1 [.fz (tI xs), .fz (.int a), .fz (.int b), .no] = .ok [.fr (.lst (xs.map fun _ => .bl true))] [.fz (tI xs), .fz (.int a), .fz (.int b), .no] :=
    comp_m (own := [3]) (os := [.fz (tI xs)]) (fun _ => .bl true) (by simp [q_are_within_1s, evS, evE, startE, endS, endFl, endIo, R.one, R.all, R.tst, R.bind, ifI, ifL, ifS, O.view, O.still, Sl.d, Sl.own, freezeO, Env.freeze, freezeL, wipeE, backE, store, ownD, afterCall, afterIo, resO, newOp, scalar, thenF, opSem, compEnd, bind1, seqOf, cmpI, kindD, mtOk, O.isSl, O.anySl, parStore, itSem, it1, it2, anyOf, cap, at0, at1, at2, at3, at4, at5, at6, o_add, o_sub, o_mulr, o_lt, o_le, o_gt, o_ge, o_len_t, o_len_l, o_len_r, o_abs, o_int, o_intb, o_min, o_isn, o_isnn, o_neg, i_int_0, i_int_1, i_int_3, i_int_4, i_int_34, i_int_12, i_int_2, i_bl_0, i_bl_1, i_bl_3, i_bl_4, i_bl_34, i_bl_12, i_bl_2, i_tup_0, i_tup_1, i_tup_3, i_tup_4, i_tup_34, i_tup_12, i_tup_2, i_lst_0, i_lst_1, i_lst_3, i_lst_4, i_lst_34, i_lst_12, i_lst_2, i_non_0, i_non_1, i_non_3, i_non_4, i_non_34, i_non_12, i_non_2, o_eqi, o_nei]) rfl rfl rfl rfl (fun d hd => by
      obtain ⟨x, hx, rfl⟩ := List.mem_map.mp hd
      refine ⟨[.fz (tI xs), .fz (.int a), .fz (.int b), .fz (.int x)], rfl, ⟨.fz (.bl true), ?_, rfl, rfl⟩, rfl⟩
      simp [q_are_within_1e, evS, evE, startE, endS, endFl, endIo, R.one, R.all, R.tst, R.bind, ifI, ifL, ifS, O.view, O.still, Sl.d, Sl.own, freezeO, Env.freeze, freezeL, wipeE, backE, store, ownD, afterCall, afterIo, resO, newOp, scalar, thenF, opSem, compEnd, bind1, seqOf, cmpI, kindD, mtOk, O.isSl, O.anySl, parStore, itSem, it1, it2, anyOf, cap, at0, at1, at2, at3, at4, at5, at6, o_add, o_sub, o_mulr, o_lt, o_le, o_gt, o_ge, o_len_t, o_len_l, o_len_r, o_abs, o_int, o_intb, o_min, o_isn, o_isnn, o_neg, i_int_0, i_int_1, i_int_3, i_int_4, i_int_34, i_int_12, i_int_2, i_bl_0, i_bl_1, i_bl_3, i_bl_4, i_bl_34, i_bl_12, i_bl_2, i_tup_0, i_tup_1, i_tup_3, i_tup_4, i_tup_34, i_tup_12, i_tup_2, i_lst_0, i_lst_1, i_lst_3, i_lst_4, i_lst_34, i_lst_12, i_lst_2, i_non_0, i_non_1, i_non_3, i_non_4, i_non_34, i_non_12, i_non_2, o_eqi, o_nei, io_is_within, ev_is_within, h x hx]) rfl (by simpa using hc) (by simp)
  have e2 : op1 .all (.lst (xs.map fun _ => D.bl true)) = some (.bl true) := by
    have := o_all (bs := xs.map fun _ => true)
    rw [List.map_map] at this
    refine Eq.trans this ?_
    simp
  simp [ir_are_within, evS, evE, startE, endS, endFl, endIo, R.one, R.all, R.tst, R.bind, ifI, ifL, ifS, O.view, O.still, Sl.d, Sl.own, freezeO, Env.freeze, freezeL, wipeE, backE, store, ownD, afterCall, afterIo, resO, newOp, scalar, thenF, opSem, compEnd, bind1, seqOf, cmpI, kindD, mtOk, O.isSl, O.anySl, parStore, itSem, it1, it2, anyOf, cap, at0, at1, at2, at3, at4, at5, at6, o_add, o_sub, o_mulr, o_lt, o_le, o_gt, o_ge, o_len_t, o_len_l, o_len_r, o_abs, o_int, o_intb, o_min, o_isn, o_isnn, o_neg, i_int_0, i_int_1, i_int_3, i_int_4, i_int_34, i_int_12, i_int_2, i_bl_0, i_bl_1, i_bl_3, i_bl_4, i_bl_34, i_bl_12, i_bl_2, i_tup_0, i_tup_1, i_tup_3, i_tup_4, i_tup_34, i_tup_12, i_tup_2, i_lst_0, i_lst_1, i_lst_3, i_lst_4, i_lst_34, i_lst_12, i_lst_2, i_non_0, i_non_1, i_non_3, i_non_4, i_non_34, i_non_12, i_non_2, o_eqi, o_nei, e, e2]
theorem ev_tupled (n : Nat) (xs : List Int) (hc : xs.length ≤ cap) : ev (n + 2) kn_tupled [tI xs] = .ok (tI xs) false [] := by
  have one : ∀ x : Int, ev (n + 1) kn_tupled [.int x] = .ok (.int x) false [] := fun x => by
    rw [ev_step tb_tupled rfl]
    simp [ir_tupled, evS, evE, startE, endS, endFl, endIo, R.one, R.all, R.tst, R.bind, ifI, ifL, ifS, O.view, O.still, Sl.d, Sl.own, freezeO, Env.freeze, freezeL, wipeE, backE, store, ownD, afterCall, afterIo, resO, newOp, scalar, thenF, opSem, compEnd, bind1, seqOf, cmpI, kindD, mtOk, O.isSl, O.anySl, parStore, itSem, it1, it2, anyOf, cap, at0, at1, at2, at3, at4, at5, at6, o_add, o_sub, o_mulr, o_lt, o_le, o_gt, o_ge, o_len_t, o_len_l, o_len_r, o_abs, o_int, o_intb, o_min, o_isn, o_isnn, o_neg, i_int_0, i_int_1, i_int_3, i_int_4, i_int_34, i_int_12, i_int_2, i_bl_0, i_bl_1, i_bl_3, i_bl_4, i_bl_34, i_bl_12, i_bl_2, i_tup_0, i_tup_1, i_tup_3, i_tup_4, i_tup_34, i_tup_12, i_tup_2, i_lst_0, i_lst_1, i_lst_3, i_lst_4, i_lst_34, i_lst_12, i_lst_2, i_non_0, i_non_1, i_non_3, i_non_4, i_non_34, i_non_12, i_non_2, o_eqi, o_nei]
  rw [ev_step tb_tupled rfl]
  have e : evE (C (n + 1)) q_tupled_1 [.fz (tI xs), .no] = .ok [.fr (lI xs)] [.fz (tI xs), .no] :=
    comp_m (own := [1]) (os := [.fz (tI xs)]) (fun d => d) (by simp [q_tupled_1s, evS, evE, startE, endS, endFl, endIo, R.one, R.all, R.tst, R.bind, ifI, ifL, ifS, O.view, O.still, Sl.d, Sl.own, freezeO, Env.freeze, freezeL, wipeE, backE, store, ownD, afterCall, afterIo, resO, newOp, scalar, thenF, opSem, compEnd, bind1, seqOf, cmpI, kindD, mtOk, O.isSl, O.anySl, parStore, itSem, it1, it2, anyOf, cap, at0, at1, at2, at3, at4, at5, at6, o_add, o_sub, o_mulr, o_lt, o_le, o_gt, o_ge, o_len_t, o_len_l, o_len_r, o_abs, o_int, o_intb, o_min, o_isn, o_isnn, o_neg, i_int_0, i_int_1, i_int_3, i_int_4, i_int_34, i_int_12, i_int_2, i_bl_0, i_bl_1, i_bl_3, i_bl_4, i_bl_34, i_bl_12, i_bl_2, i_tup_0, i_tup_1, i_tup_3, i_tup_4, i_tup_34, i_tup_12, i_tup_2, i_lst_0, i_lst_1, i_lst_3, i_lst_4, i_lst_34, i_lst_12, i_lst_2, i_non_0, i_non_1, i_non_3, i_non_4, i_non_34, i_non_12, i_non_2, o_eqi, o_nei]) rfl rfl rfl rfl (fun d hd => by
      obtain ⟨x, hx, rfl⟩ := List.mem_map.mp hd
      refine ⟨[.fz (tI xs), .fz (.int x)], rfl, ⟨.fz (.int x), ?_, rfl, rfl⟩, rfl⟩
      simp [q_tupled_1e, evS, evE, startE, endS, endFl, endIo, R.one, R.all, R.tst, R.bind, ifI, ifL, ifS, O.view, O.still, Sl.d, Sl.own, freezeO, Env.freeze, freezeL, wipeE, backE, store, ownD, afterCall, afterIo, resO, newOp, scalar, thenF, opSem, compEnd, bind1, seqOf, cmpI, kindD, mtOk, O.isSl, O.anySl, parStore, itSem, it1, it2, anyOf, cap, at0, at1, at2, at3, at4, at5, at6, o_add, o_sub, o_mulr, o_lt, o_le, o_gt, o_ge, o_len_t, o_len_l, o_len_r, o_abs, o_int, o_intb, o_min, o_isn, o_isnn, o_neg, i_int_0, i_int_1, i_int_3, i_int_4, i_int_34, i_int_12, i_int_2, i_bl_0, i_bl_1, i_bl_3, i_bl_4, i_bl_34, i_bl_12, i_bl_2, i_tup_0, i_tup_1, i_tup_3, i_tup_4, i_tup_34, i_tup_12, i_tup_2, i_lst_0, i_lst_1, i_lst_3, i_lst_4, i_lst_34, i_lst_12, i_lst_2, i_non_0, i_non_1, i_non_3, i_non_4, i_non_34, i_non_12, i_non_2, o_eqi, o_nei, io_tupled, one x]) rfl (by simpa using hc) (by simp)
  simp [ir_tupled, evS, evE, startE, endS, endFl, endIo, R.one, R.all, R.tst, R.bind, ifI, ifL, ifS, O.view, O.still, Sl.d, Sl.own, freezeO, Env.freeze, freezeL, wipeE, backE, store, ownD, afterCall, afterIo, resO, newOp, scalar, thenF, opSem, compEnd, bind1, seqOf, cmpI, kindD, mtOk, O.isSl, O.anySl, parStore, itSem, it1, it2, anyOf, cap, at0, at1, at2, at3, at4, at5, at6, o_add, o_sub, o_mulr, o_lt, o_le, o_gt, o_ge, o_len_t, o_len_l, o_len_r, o_abs, o_int, o_intb, o_min, o_isn, o_isnn, o_neg, i_int_0, i_int_1, i_int_3, i_int_4, i_int_34, i_int_12, i_int_2, i_bl_0, i_bl_1, i_bl_3, i_bl_4, i_bl_34, i_bl_12, i_bl_2, i_tup_0, i_tup_1, i_tup_3, i_tup_4, i_tup_34, i_tup_12, i_tup_2, i_lst_0, i_lst_1, i_lst_3, i_lst_4, i_lst_34, i_lst_12, i_lst_2, i_non_0, i_non_1, i_non_3, i_non_4, i_non_34, i_non_12, i_non_2, o_eqi, o_nei, e, o_tup]
theorem rs_zip : ∀ xs : List Int, ((xs.zip xs.tail).filter fun p => decide (p.1 < p.2)).length = rs xs
  | [] => rfl
  | [x] => rfl
  | x :: y :: r => by
    have := rs_zip (y :: r)
    rw [List.tail_cons] at this ⊢
    rw [List.zip_cons_cons, List.filter_cons]
    unfold rs
    by_cases h : x < y
    · rw [if_pos (by simpa using h), List.length_cons, this, if_pos h, Nat.add_comm]
    · rw [if_neg (by simpa using h), this, if_neg h, Nat.zero_add]
theorem ev_rises_in (n : Nat) (xs : List Int) (hc : xs.length ≤ cap) : ev (n + 1) kn_rises_in [tI xs] = .ok (.int (rs xs)) false [] := by
  rw [ev_step tb_rises_in rfl]
  have e : evE (C n) q_rises_in_1 [.fz (tI xs), .no, .no] = .ok [.fr (.lst (((xs.zip xs.tail).filter fun p => decide (p.1 < p.2)).map fun p => .int p.1))] [.fz (tI xs), .no, .no] :=
    comp_fm (own := [1, 2]) (os := [.fz (tI xs), .fz (tI xs.tail)]) (items := (xs.zip xs.tail).map fun p => D.tup [.int p.1, .int p.2])
      (fun d => match d with | .tup [.int a, .int b] => decide (a < b) | _ => false) (fun d => match d with | .tup [.int a, .int b] => .int a | _ => .non)
      (by simp [q_rises_in_1s, evS, evE, startE, endS, endFl, endIo, R.one, R.all, R.tst, R.bind, ifI, ifL, ifS, O.view, O.still, Sl.d, Sl.own, freezeO, Env.freeze, freezeL, wipeE, backE, store, ownD, afterCall, afterIo, resO, newOp, scalar, thenF, opSem, compEnd, bind1, seqOf, cmpI, kindD, mtOk, O.isSl, O.anySl, parStore, itSem, it1, it2, anyOf, cap, at0, at1, at2, at3, at4, at5, at6, o_add, o_sub, o_mulr, o_lt, o_le, o_gt, o_ge, o_len_t, o_len_l, o_len_r, o_abs, o_int, o_intb, o_min, o_isn, o_isnn, o_neg, i_int_0, i_int_1, i_int_3, i_int_4, i_int_34, i_int_12, i_int_2, i_bl_0, i_bl_1, i_bl_3, i_bl_4, i_bl_34, i_bl_12, i_bl_2, i_tup_0, i_tup_1, i_tup_3, i_tup_4, i_tup_34, i_tup_12, i_tup_2, i_lst_0, i_lst_1, i_lst_3, i_lst_4, i_lst_34, i_lst_12, i_lst_2, i_non_0, i_non_1, i_non_3, i_non_4, i_non_34, i_non_12, i_non_2, o_eqi, o_nei, cut_1]) (by
        show some (zipD (nI xs) (nI xs.tail)) = _
        rw [zipD_nI]) rfl rfl rfl (fun d hd => by
      obtain ⟨⟨x, y⟩, hx, rfl⟩ := List.mem_map.mp hd
      refine ⟨[.fz (tI xs), .fz (.int x), .fz (.int y)], rfl, ?_, fun _ => ⟨.fz (.int x), ?_, rfl, rfl⟩, rfl⟩
      · simp [q_rises_in_1t, evS, evE, startE, endS, endFl, endIo, R.one, R.all, R.tst, R.bind, ifI, ifL, ifS, O.view, O.still, Sl.d, Sl.own, freezeO, Env.freeze, freezeL, wipeE, backE, store, ownD, afterCall, afterIo, resO, newOp, scalar, thenF, opSem, compEnd, bind1, seqOf, cmpI, kindD, mtOk, O.isSl, O.anySl, parStore, itSem, it1, it2, anyOf, cap, at0, at1, at2, at3, at4, at5, at6, o_add, o_sub, o_mulr, o_lt, o_le, o_gt, o_ge, o_len_t, o_len_l, o_len_r, o_abs, o_int, o_intb, o_min, o_isn, o_isnn, o_neg, i_int_0, i_int_1, i_int_3, i_int_4, i_int_34, i_int_12, i_int_2, i_bl_0, i_bl_1, i_bl_3, i_bl_4, i_bl_34, i_bl_12, i_bl_2, i_tup_0, i_tup_1, i_tup_3, i_tup_4, i_tup_34, i_tup_12, i_tup_2, i_lst_0, i_lst_1, i_lst_3, i_lst_4, i_lst_34, i_lst_12, i_lst_2, i_non_0, i_non_1, i_non_3, i_non_4, i_non_34, i_non_12, i_non_2, o_eqi, o_nei]
      · simp [q_rises_in_1e, evS, evE, startE, endS, endFl, endIo, R.one, R.all, R.tst, R.bind, ifI, ifL, ifS, O.view, O.still, Sl.d, Sl.own, freezeO, Env.freeze, freezeL, wipeE, backE, store, ownD, afterCall, afterIo, resO, newOp, scalar, thenF, opSem, compEnd, bind1, seqOf, cmpI, kindD, mtOk, O.isSl, O.anySl, parStore, itSem, it1, it2, anyOf, cap, at0, at1, at2, at3, at4, at5, at6, o_add, o_sub, o_mulr, o_lt, o_le, o_gt, o_ge, o_len_t, o_len_l, o_len_r, o_abs, o_int, o_intb, o_min, o_isn, o_isnn, o_neg, i_int_0, i_int_1, i_int_3, i_int_4, i_int_34, i_int_12, i_int_2, i_bl_0, i_bl_1, i_bl_3, i_bl_4, i_bl_34, i_bl_12, i_bl_2, i_tup_0, i_tup_1, i_tup_3, i_tup_4, i_tup_34, i_tup_12, i_tup_2, i_lst_0, i_lst_1, i_lst_3, i_lst_4, i_lst_34, i_lst_12, i_lst_2, i_non_0, i_non_1, i_non_3, i_non_4, i_non_34, i_non_12, i_non_2, o_eqi, o_nei]) rfl (by
        rw [List.length_map, List.length_zip]
        omega) (by
        rw [List.filter_map, List.map_map]
        rfl)
  simp [ir_rises_in, evS, evE, startE, endS, endFl, endIo, R.one, R.all, R.tst, R.bind, ifI, ifL, ifS, O.view, O.still, Sl.d, Sl.own, freezeO, Env.freeze, freezeL, wipeE, backE, store, ownD, afterCall, afterIo, resO, newOp, scalar, thenF, opSem, compEnd, bind1, seqOf, cmpI, kindD, mtOk, O.isSl, O.anySl, parStore, itSem, it1, it2, anyOf, cap, at0, at1, at2, at3, at4, at5, at6, o_add, o_sub, o_mulr, o_lt, o_le, o_gt, o_ge, o_len_t, o_len_l, o_len_r, o_abs, o_int, o_intb, o_min, o_isn, o_isnn, o_neg, i_int_0, i_int_1, i_int_3, i_int_4, i_int_34, i_int_12, i_int_2, i_bl_0, i_bl_1, i_bl_3, i_bl_4, i_bl_34, i_bl_12, i_bl_2, i_tup_0, i_tup_1, i_tup_3, i_tup_4, i_tup_34, i_tup_12, i_tup_2, i_lst_0, i_lst_1, i_lst_3, i_lst_4, i_lst_34, i_lst_12, i_lst_2, i_non_0, i_non_1, i_non_3, i_non_4, i_non_34, i_non_12, i_non_2, o_eqi, o_nei, e]
  exact congrArg (fun k : Nat => (k : Int)) (rs_zip xs)
theorem ev_first_wrong (n : Nat) (xs : List Int) (hc : xs.length ≤ cap) (ha : Asc xs) : ev (n + 2) kn_first_wrong [tI xs] = .ok .non false [] := by
  rw [ev_step tb_first_wrong rfl]
  have e : ∃ a b c, evS (C (n + 1)) q_first_wrong_1 [.fz (tI xs), .fz (.int 0), .no, .no] = .ok .nx [.fz (tI xs), a, b, c] := by
    obtain ⟨env', h1, h2⟩ := for_run (t := .tu [2, 3]) (body := evS (C (n + 1)) q_first_wrong_1b) (items := enumD 0 (nI xs)) (fun k env => ∃ b c, env = [.fz (tI xs), .fz (.int (if k = 0 then 0 else 1 + (rs (xs.take k) : Int))), b, c]) (fun k d env hk i => by
      obtain ⟨b, c, rfl⟩ := i
      obtain ⟨x, q, rfl⟩ := enumI_get hk
      have h0 : ¬ ((if k = 0 then 0 else 1 + (rs (xs.take k) : Int)) < x) := by
        have := ha k x q
        omega
      have hlen : (xs.take (k + 1)).length ≤ cap := by rw [List.length_take]; omega
      refine ⟨_, [.fz (tI xs), .fz (.int (1 + (rs (xs.take (k + 1)) : Int))), .fz (.int (k : Int)), .fz (.int x)], rfl, ?_, .fz (.int (k : Int)), .fz (.int x), ?_⟩
      · simp [q_first_wrong_1b, evS, evE, startE, endS, endFl, endIo, R.one, R.all, R.tst, R.bind, ifI, ifL, ifS, O.view, O.still, Sl.d, Sl.own, freezeO, Env.freeze, freezeL, wipeE, backE, store, ownD, afterCall, afterIo, resO, newOp, scalar, thenF, opSem, compEnd, bind1, seqOf, cmpI, kindD, mtOk, O.isSl, O.anySl, parStore, itSem, it1, it2, anyOf, cap, at0, at1, at2, at3, at4, at5, at6, o_add, o_sub, o_mulr, o_lt, o_le, o_gt, o_ge, o_len_t, o_len_l, o_len_r, o_abs, o_int, o_intb, o_min, o_isn, o_isnn, o_neg, i_int_0, i_int_1, i_int_3, i_int_4, i_int_34, i_int_12, i_int_2, i_bl_0, i_bl_1, i_bl_3, i_bl_4, i_bl_34, i_bl_12, i_bl_2, i_tup_0, i_tup_1, i_tup_3, i_tup_4, i_tup_34, i_tup_12, i_tup_2, i_lst_0, i_lst_1, i_lst_3, i_lst_4, i_lst_34, i_lst_12, i_lst_2, i_non_0, i_non_1, i_non_3, i_non_4, i_non_34, i_non_12, i_non_2, o_eqi, o_nei, h0, cut_to1, io_rises_in, ev_rises_in n _ hlen]
      · rw [if_neg (by omega)]) ⟨.no, .no, rfl⟩
    obtain ⟨b, c, rfl⟩ := h2
    exact ⟨_, b, c, for_at (os := [.fz (tI xs)]) (by simp [q_first_wrong_1s, evS, evE, startE, endS, endFl, endIo, R.one, R.all, R.tst, R.bind, ifI, ifL, ifS, O.view, O.still, Sl.d, Sl.own, freezeO, Env.freeze, freezeL, wipeE, backE, store, ownD, afterCall, afterIo, resO, newOp, scalar, thenF, opSem, compEnd, bind1, seqOf, cmpI, kindD, mtOk, O.isSl, O.anySl, parStore, itSem, it1, it2, anyOf, cap, at0, at1, at2, at3, at4, at5, at6, o_add, o_sub, o_mulr, o_lt, o_le, o_gt, o_ge, o_len_t, o_len_l, o_len_r, o_abs, o_int, o_intb, o_min, o_isn, o_isnn, o_neg, i_int_0, i_int_1, i_int_3, i_int_4, i_int_34, i_int_12, i_int_2, i_bl_0, i_bl_1, i_bl_3, i_bl_4, i_bl_34, i_bl_12, i_bl_2, i_tup_0, i_tup_1, i_tup_3, i_tup_4, i_tup_34, i_tup_12, i_tup_2, i_lst_0, i_lst_1, i_lst_3, i_lst_4, i_lst_34, i_lst_12, i_lst_2, i_non_0, i_non_1, i_non_3, i_non_4, i_non_34, i_non_12, i_non_2, o_eqi, o_nei]) rfl h1⟩
  obtain ⟨a, b, c, e⟩ := e
  simp [ir_first_wrong, evS, evE, startE, endS, endFl, endIo, R.one, R.all, R.tst, R.bind, ifI, ifL, ifS, O.view, O.still, Sl.d, Sl.own, freezeO, Env.freeze, freezeL, wipeE, backE, store, ownD, afterCall, afterIo, resO, newOp, scalar, thenF, opSem, compEnd, bind1, seqOf, cmpI, kindD, mtOk, O.isSl, O.anySl, parStore, itSem, it1, it2, anyOf, cap, at0, at1, at2, at3, at4, at5, at6, o_add, o_sub, o_mulr, o_lt, o_le, o_gt, o_ge, o_len_t, o_len_l, o_len_r, o_abs, o_int, o_intb, o_min, o_isn, o_isnn, o_neg, i_int_0, i_int_1, i_int_3, i_int_4, i_int_34, i_int_12, i_int_2, i_bl_0, i_bl_1, i_bl_3, i_bl_4, i_bl_34, i_bl_12, i_bl_2, i_tup_0, i_tup_1, i_tup_3, i_tup_4, i_tup_34, i_tup_12, i_tup_2, i_lst_0, i_lst_1, i_lst_3, i_lst_4, i_lst_34, i_lst_12, i_lst_2, i_non_0, i_non_1, i_non_3, i_non_4, i_non_34, i_non_12, i_non_2, o_eqi, o_nei, e]
theorem ev_is_ascents_in (n : Nat) (xs : List Int) (hc : xs.length ≤ 60) (ha : Asc xs) (h0 : ∀ x ∈ xs, 0 ≤ x ∧ x ≤ 60) : ev (n + 4) kn_is_ascents_in [tI xs] = .ok (.bl true) false [] := by
  rw [ev_step tb_is_ascents_in rfl]
  have hl : xs.length ≤ cap := le_cap (by omega)
  have h60 : (xs.length : Int) ≤ 60 := by omega
  simp [ir_is_ascents_in, evS, evE, startE, endS, endFl, endIo, R.one, R.all, R.tst, R.bind, ifI, ifL, ifS, O.view, O.still, Sl.d, Sl.own, freezeO, Env.freeze, freezeL, wipeE, backE, store, ownD, afterCall, afterIo, resO, newOp, scalar, thenF, opSem, compEnd, bind1, seqOf, cmpI, kindD, mtOk, O.isSl, O.anySl, parStore, itSem, it1, it2, anyOf, cap, at0, at1, at2, at3, at4, at5, at6, o_add, o_sub, o_mulr, o_lt, o_le, o_gt, o_ge, o_len_t, o_len_l, o_len_r, o_abs, o_int, o_intb, o_min, o_isn, o_isnn, o_neg, i_int_0, i_int_1, i_int_3, i_int_4, i_int_34, i_int_12, i_int_2, i_bl_0, i_bl_1, i_bl_3, i_bl_4, i_bl_34, i_bl_12, i_bl_2, i_tup_0, i_tup_1, i_tup_3, i_tup_4, i_tup_34, i_tup_12, i_tup_2, i_lst_0, i_lst_1, i_lst_3, i_lst_4, i_lst_34, i_lst_12, i_lst_2, i_non_0, i_non_1, i_non_3, i_non_4, i_non_34, i_non_12, i_non_2, o_eqi, o_nei, io_are_within, ev_are_within n xs 0 60 h0 hl, io_first_wrong, ev_first_wrong (n + 1) xs hl ha, h60, isNonD]
theorem ev_sure_ascents (n : Nat) (xs : List Int) (hc : xs.length ≤ 60) (ha : Asc xs) (h0 : ∀ x ∈ xs, 0 ≤ x ∧ x ≤ 60) : ev (n + 5) kn_sure_ascents [tI xs] = .ok (tI xs) false [] := by
  rw [ev_step tb_sure_ascents rfl]
  simp [ir_sure_ascents, evS, evE, startE, endS, endFl, endIo, R.one, R.all, R.tst, R.bind, ifI, ifL, ifS, O.view, O.still, Sl.d, Sl.own, freezeO, Env.freeze, freezeL, wipeE, backE, store, ownD, afterCall, afterIo, resO, newOp, scalar, thenF, opSem, compEnd, bind1, seqOf, cmpI, kindD, mtOk, O.isSl, O.anySl, parStore, itSem, it1, it2, anyOf, cap, at0, at1, at2, at3, at4, at5, at6, o_add, o_sub, o_mulr, o_lt, o_le, o_gt, o_ge, o_len_t, o_len_l, o_len_r, o_abs, o_int, o_intb, o_min, o_isn, o_isnn, o_neg, i_int_0, i_int_1, i_int_3, i_int_4, i_int_34, i_int_12, i_int_2, i_bl_0, i_bl_1, i_bl_3, i_bl_4, i_bl_34, i_bl_12, i_bl_2, i_tup_0, i_tup_1, i_tup_3, i_tup_4, i_tup_34, i_tup_12, i_tup_2, i_lst_0, i_lst_1, i_lst_3, i_lst_4, i_lst_34, i_lst_12, i_lst_2, i_non_0, i_non_1, i_non_3, i_non_4, i_non_34, i_non_12, i_non_2, o_eqi, o_nei, io_tupled, ev_tupled (n + 2) xs (le_cap (by omega)), io_is_ascents_in, ev_is_ascents_in n xs hc ha h0]
theorem ev_rises (n : Nat) (xs : List Int) (hc : xs.length ≤ 60) (ha : Asc xs) (h0 : ∀ x ∈ xs, 0 ≤ x ∧ x ≤ 60) : ev (n + 6) kn_rises [tI xs] = .ok (.int (rs xs)) false [] := by
  rw [ev_step tb_rises rfl]
  simp [ir_rises, evS, evE, startE, endS, endFl, endIo, R.one, R.all, R.tst, R.bind, ifI, ifL, ifS, O.view, O.still, Sl.d, Sl.own, freezeO, Env.freeze, freezeL, wipeE, backE, store, ownD, afterCall, afterIo, resO, newOp, scalar, thenF, opSem, compEnd, bind1, seqOf, cmpI, kindD, mtOk, O.isSl, O.anySl, parStore, itSem, it1, it2, anyOf, cap, at0, at1, at2, at3, at4, at5, at6, o_add, o_sub, o_mulr, o_lt, o_le, o_gt, o_ge, o_len_t, o_len_l, o_len_r, o_abs, o_int, o_intb, o_min, o_isn, o_isnn, o_neg, i_int_0, i_int_1, i_int_3, i_int_4, i_int_34, i_int_12, i_int_2, i_bl_0, i_bl_1, i_bl_3, i_bl_4, i_bl_34, i_bl_12, i_bl_2, i_tup_0, i_tup_1, i_tup_3, i_tup_4, i_tup_34, i_tup_12, i_tup_2, i_lst_0, i_lst_1, i_lst_3, i_lst_4, i_lst_34, i_lst_12, i_lst_2, i_non_0, i_non_1, i_non_3, i_non_4, i_non_34, i_non_12, i_non_2, o_eqi, o_nei, io_sure_ascents, ev_sure_ascents n xs hc ha h0, io_rises_in, ev_rises_in (n + 4) xs (le_cap (by omega))]
end Lw
end
section
set_option Elab.async false
set_option linter.all false
set_option maxRecDepth 100000
set_option maxHeartbeats 0
namespace Lw
open PySem Ev Mr
theorem find_at {ps : List Int} (h : Np ps) {v : Int} (h1 : 1 ≤ v) (h2 : v ≤ ps.length) : ∃ k, ps.findIdx? (· == v) = some k ∧ ps[k]? = some v := by
  have hm := (h.mem v).mpr ⟨h1, h2⟩
  cases q : ps.findIdx? (· == v) with
  | none =>
    have := List.findIdx?_eq_none_iff.mp q v hm
    simp at this
  | some k =>
    obtain ⟨hk, e, _⟩ := List.findIdx?_eq_some_iff_getElem.mp q
    exact ⟨k, rfl, by rw [List.getElem?_eq_getElem hk]; simpa using e⟩
theorem find_take {ps : List Int} (h : Np ps) {v : Int} {k j : Nat} (hk : ps.findIdx? (· == v) = some k) (hv : ps[k]? = some v) (hj : j ≤ ps.length) : k < j ↔ v ∈ ps.take j := by
  constructor
  · intro q
    refine List.mem_of_getElem? (i := k) ?_
    rw [List.getElem?_take_of_lt q, hv]
  · intro hm
    obtain ⟨i, hi, e⟩ := List.getElem_of_mem hm
    rw [List.length_take] at hi
    rw [List.getElem_take] at e
    have : i = k := (List.getElem?_inj (by omega) h.nd).mp (by rw [hv, List.getElem?_eq_getElem (by omega), e])
    omega
theorem sts_snoc (ps : List Int) (k : Nat) : ((List.range (k + 2)).filter (okB ps)) = ((List.range (k + 1)).filter (okB ps)) ++ if okB ps (k + 1) = true then [k + 1] else [] := by
  rw [show k + 2 = (k + 1) + 1 by omega, List.range_succ, List.filter_append]
  congr 1
  by_cases h : okB ps (k + 1) = true <;> simp [h]
theorem ev_sites_in (n : Nat) (ps : List Int) (h : Np ps) (hc : ps.length ≤ 1000) : ev (n + 1) kn_sites_in [tI ps] = .ok (.lst (nN (sts ps))) true [] := by
  rw [ev_step tb_sites_in rfl]
  have e : ∃ a b, evS (C n) q_sites_in_1 [.fz (tI ps), .ow [.int 0], .no, .no] = .ok .nx [.fz (tI ps), .ow (nN (sts ps)), a, b] := by
    obtain ⟨env', h1, h2⟩ := for_run (t := .tu [2, 3]) (body := evS (C n) q_sites_in_1b) (items := enumD 0 (nI ps)) (fun k env => ∃ a b, env = [.fz (tI ps), .ow (nN ((List.range (k + 1)).filter (okB ps))), a, b]) (fun k d env hk i => by
      obtain ⟨b, c, rfl⟩ := i
      obtain ⟨x, q, rfl⟩ := enumI_get hk
      have hkl := (List.getElem?_eq_some_iff.mp q).1
      have hx := (h.mem x).mp (List.mem_of_getElem? q)
      have hl : (List.filter (okB ps) (List.range (k + 1))).length < 16777216 := Nat.lt_of_le_of_lt (List.length_filter_le ..) (by rw [List.length_range]; omega)
      refine ⟨_, [.fz (tI ps), .ow (nN ((List.range (k + 2)).filter (okB ps))), .fz (.int (k : Int)), .fz (.int x)], rfl, ?_, _, _, rfl⟩
      rw [sts_snoc]
      by_cases h1 : x = 1
      · have ho : okB ps (k + 1) = true := by rw [okB_spec q, h1]; rfl
        rw [if_pos ho]
        simp [q_sites_in_1b, evS, evE, startE, endS, endFl, endIo, R.one, R.all, R.tst, R.bind, ifI, ifL, ifS, O.view, O.still, Sl.d, Sl.own, freezeO, Env.freeze, freezeL, wipeE, backE, store, ownD, afterCall, afterIo, resO, newOp, scalar, thenF, opSem, compEnd, bind1, seqOf, cmpI, kindD, mtOk, O.isSl, O.anySl, parStore, itSem, it1, it2, anyOf, cap, at0, at1, at2, at3, at4, at5, at6, o_add, o_sub, o_mulr, o_lt, o_le, o_gt, o_ge, o_len_t, o_len_l, o_len_r, o_abs, o_int, o_intb, o_min, o_isn, o_isnn, o_neg, i_int_0, i_int_1, i_int_3, i_int_4, i_int_34, i_int_12, i_int_2, i_bl_0, i_bl_1, i_bl_3, i_bl_4, i_bl_34, i_bl_12, i_bl_2, i_tup_0, i_tup_1, i_tup_3, i_tup_4, i_tup_34, i_tup_12, i_tup_2, i_lst_0, i_lst_1, i_lst_3, i_lst_4, i_lst_34, i_lst_12, i_lst_2, i_non_0, i_non_1, i_non_3, i_non_4, i_non_34, i_non_12, i_non_2, o_eqi, o_nei, nN, h1, hl]
      · obtain ⟨j, e1, e2⟩ := find_at h (v := x - 1) (by omega) (by omega)
        have e3 := find_take h e1 e2 (j := k) (by omega)
        have e4 := op_index ps (x - 1) e1
        by_cases h2 : j < k
        · have ho : okB ps (k + 1) = true := by
            rw [okB_spec q]
            simp [e3.mp h2]
          rw [if_pos ho]
          simp [q_sites_in_1b, evS, evE, startE, endS, endFl, endIo, R.one, R.all, R.tst, R.bind, ifI, ifL, ifS, O.view, O.still, Sl.d, Sl.own, freezeO, Env.freeze, freezeL, wipeE, backE, store, ownD, afterCall, afterIo, resO, newOp, scalar, thenF, opSem, compEnd, bind1, seqOf, cmpI, kindD, mtOk, O.isSl, O.anySl, parStore, itSem, it1, it2, anyOf, cap, at0, at1, at2, at3, at4, at5, at6, o_add, o_sub, o_mulr, o_lt, o_le, o_gt, o_ge, o_len_t, o_len_l, o_len_r, o_abs, o_int, o_intb, o_min, o_isn, o_isnn, o_neg, i_int_0, i_int_1, i_int_3, i_int_4, i_int_34, i_int_12, i_int_2, i_bl_0, i_bl_1, i_bl_3, i_bl_4, i_bl_34, i_bl_12, i_bl_2, i_tup_0, i_tup_1, i_tup_3, i_tup_4, i_tup_34, i_tup_12, i_tup_2, i_lst_0, i_lst_1, i_lst_3, i_lst_4, i_lst_34, i_lst_12, i_lst_2, i_non_0, i_non_1, i_non_3, i_non_4, i_non_34, i_non_12, i_non_2, o_eqi, o_nei, nN, h1, h2, hl, e4]
        · have ho : ¬ okB ps (k + 1) = true := by
            rw [okB_spec q]
            simp [h1, ← e3, h2]
          rw [if_neg ho]
          simp [q_sites_in_1b, evS, evE, startE, endS, endFl, endIo, R.one, R.all, R.tst, R.bind, ifI, ifL, ifS, O.view, O.still, Sl.d, Sl.own, freezeO, Env.freeze, freezeL, wipeE, backE, store, ownD, afterCall, afterIo, resO, newOp, scalar, thenF, opSem, compEnd, bind1, seqOf, cmpI, kindD, mtOk, O.isSl, O.anySl, parStore, itSem, it1, it2, anyOf, cap, at0, at1, at2, at3, at4, at5, at6, o_add, o_sub, o_mulr, o_lt, o_le, o_gt, o_ge, o_len_t, o_len_l, o_len_r, o_abs, o_int, o_intb, o_min, o_isn, o_isnn, o_neg, i_int_0, i_int_1, i_int_3, i_int_4, i_int_34, i_int_12, i_int_2, i_bl_0, i_bl_1, i_bl_3, i_bl_4, i_bl_34, i_bl_12, i_bl_2, i_tup_0, i_tup_1, i_tup_3, i_tup_4, i_tup_34, i_tup_12, i_tup_2, i_lst_0, i_lst_1, i_lst_3, i_lst_4, i_lst_34, i_lst_12, i_lst_2, i_non_0, i_non_1, i_non_3, i_non_4, i_non_34, i_non_12, i_non_2, o_eqi, o_nei, nN, h1, h2, hl, e4]) (env := [.fz (tI ps), .ow [.int 0], .no, .no]) ⟨.no, .no, rfl⟩
    obtain ⟨b, c, rfl⟩ := h2
    rw [enumI_len] at h1
    exact ⟨b, c, for_at (os := [.fz (tI ps)]) (by simp [q_sites_in_1s, evS, evE, startE, endS, endFl, endIo, R.one, R.all, R.tst, R.bind, ifI, ifL, ifS, O.view, O.still, Sl.d, Sl.own, freezeO, Env.freeze, freezeL, wipeE, backE, store, ownD, afterCall, afterIo, resO, newOp, scalar, thenF, opSem, compEnd, bind1, seqOf, cmpI, kindD, mtOk, O.isSl, O.anySl, parStore, itSem, it1, it2, anyOf, cap, at0, at1, at2, at3, at4, at5, at6, o_add, o_sub, o_mulr, o_lt, o_le, o_gt, o_ge, o_len_t, o_len_l, o_len_r, o_abs, o_int, o_intb, o_min, o_isn, o_isnn, o_neg, i_int_0, i_int_1, i_int_3, i_int_4, i_int_34, i_int_12, i_int_2, i_bl_0, i_bl_1, i_bl_3, i_bl_4, i_bl_34, i_bl_12, i_bl_2, i_tup_0, i_tup_1, i_tup_3, i_tup_4, i_tup_34, i_tup_12, i_tup_2, i_lst_0, i_lst_1, i_lst_3, i_lst_4, i_lst_34, i_lst_12, i_lst_2, i_non_0, i_non_1, i_non_3, i_non_4, i_non_34, i_non_12, i_non_2, o_eqi, o_nei]) rfl h1⟩
  obtain ⟨a, b, e⟩ := e
  simp [ir_sites_in, evS, evE, startE, endS, endFl, endIo, R.one, R.all, R.tst, R.bind, ifI, ifL, ifS, O.view, O.still, Sl.d, Sl.own, freezeO, Env.freeze, freezeL, wipeE, backE, store, ownD, afterCall, afterIo, resO, newOp, scalar, thenF, opSem, compEnd, bind1, seqOf, cmpI, kindD, mtOk, O.isSl, O.anySl, parStore, itSem, it1, it2, anyOf, cap, at0, at1, at2, at3, at4, at5, at6, o_add, o_sub, o_mulr, o_lt, o_le, o_gt, o_ge, o_len_t, o_len_l, o_len_r, o_abs, o_int, o_intb, o_min, o_isn, o_isnn, o_neg, i_int_0, i_int_1, i_int_3, i_int_4, i_int_34, i_int_12, i_int_2, i_bl_0, i_bl_1, i_bl_3, i_bl_4, i_bl_34, i_bl_12, i_bl_2, i_tup_0, i_tup_1, i_tup_3, i_tup_4, i_tup_34, i_tup_12, i_tup_2, i_lst_0, i_lst_1, i_lst_3, i_lst_4, i_lst_34, i_lst_12, i_lst_2, i_non_0, i_non_1, i_non_3, i_non_4, i_non_34, i_non_12, i_non_2, o_eqi, o_nei, e]
theorem cat_len (a b : List Int) (h : a.length + b.length ≤ 1000) : op2 .add (tI a) (tI b) = some (tI (a ++ b)) := op_cat a b (le_cap h)
theorem ins_cat (ps : List Int) (k : Nat) : ps.take k ++ [(ps.length : Int) + 1] ++ ps.drop k = ins ps k := by
  unfold ins
  simp
theorem ev_put_at (n : Nat) (ps : List Int) (k : Nat) (hc : ps.length ≤ 100) : ev (n + 1) kn_put_at [tI ps, .int (k : Int)] = .ok (tI (ins ps k)) false [] := by
  rw [ev_step tb_put_at rfl]
  have h1 : (ps.take k).length ≤ 100 := by rw [List.length_take]; omega
  have h2 : (ps.drop k).length ≤ 100 := by rw [List.length_drop]; omega
  have e1 : op2 .add (tI (ps.take k)) (.tup [.int ((ps.length : Int) + 1)]) = some (tI (ps.take k ++ [(ps.length : Int) + 1])) := cat_len (ps.take k) [(ps.length : Int) + 1] (by rw [List.length_singleton]; omega)
  have e2 := cat_len (ps.take k ++ [(ps.length : Int) + 1]) (ps.drop k) (by rw [List.length_append, List.length_singleton]; omega)
  rw [ins_cat] at e2
  simp [ir_put_at, evS, evE, startE, endS, endFl, endIo, R.one, R.all, R.tst, R.bind, ifI, ifL, ifS, O.view, O.still, Sl.d, Sl.own, freezeO, Env.freeze, freezeL, wipeE, backE, store, ownD, afterCall, afterIo, resO, newOp, scalar, thenF, opSem, compEnd, bind1, seqOf, cmpI, kindD, mtOk, O.isSl, O.anySl, parStore, itSem, it1, it2, anyOf, cap, at0, at1, at2, at3, at4, at5, at6, o_add, o_sub, o_mulr, o_lt, o_le, o_gt, o_ge, o_len_t, o_len_l, o_len_r, o_abs, o_int, o_intb, o_min, o_isn, o_isnn, o_neg, i_int_0, i_int_1, i_int_3, i_int_4, i_int_34, i_int_12, i_int_2, i_bl_0, i_bl_1, i_bl_3, i_bl_4, i_bl_34, i_bl_12, i_bl_2, i_tup_0, i_tup_1, i_tup_3, i_tup_4, i_tup_34, i_tup_12, i_tup_2, i_lst_0, i_lst_1, i_lst_3, i_lst_4, i_lst_34, i_lst_12, i_lst_2, i_non_0, i_non_1, i_non_3, i_non_4, i_non_34, i_non_12, i_non_2, o_eqi, o_nei, cut_to, cut_from, e1]
  rw [e2]
theorem nN_get {ks : List Nat} {b k : Nat} (h : ks[b]? = some k) : op2 .ix (.lst (nN ks)) (.int (b : Int)) = some (.int (k : Int)) := by
  have hb := (List.getElem?_eq_some_iff.mp h).1
  show (atN (nN ks).length b).bind (fun k => (nN ks)[k]?) = _
  rw [show atN (nN ks).length b = some b by
    unfold atN
    rw [if_pos (by omega), if_pos (by rw [List.length_map]; omega), Int.toNat_natCast]]
  show (nN ks)[b]? = _
  rw [List.getElem?_map, h]
  rfl
theorem asc_take {r : List Int} (h : Asc r) (k : Nat) : Asc (r.take k) := fun j x hx => by
  have hj := (List.getElem?_eq_some_iff.mp hx).1
  rw [List.length_take] at hj
  rw [List.getElem?_take_of_lt (by omega)] at hx
  have := h j x hx
  rwa [List.take_take, Nat.min_eq_left (by omega)]
theorem pos_take {r : List Int} (h : Pos r) (k : Nat) : Pos (r.take k) := fun x hx => h x (List.mem_of_mem_take hx)
theorem inv_take {r : List Int} (ha : Asc r) (hp : Pos r) (k : Nat) : Inv (r.take k) (bld (r.take k)) := inv_of _ _ rfl (asc_take ha k) (pos_take hp k)
theorem step_at {r : List Int} (ha : Asc r) (hp : Pos r) {k : Nat} {x : Int} (hx : r[k]? = some x) :
    ∃ g, g ≤ (bld (r.take k)).length ∧ okB (bld (r.take k)) g = true ∧ cnt (bld (r.take k)) g = x.toNat ∧ (sts (bld (r.take k)))[x.toNat]? = some g ∧ bld (r.take (k + 1)) = ins (bld (r.take k)) g := by
  have hk := (List.getElem?_eq_some_iff.mp hx).1
  have i := inv_take ha hp k
  have hg := i.gaps
  have h1 := ha k x hx
  have e0 : r.take k = [] ↔ k = 0 := by
    rw [List.take_eq_nil_iff]
    constructor
    · rintro (e | e)
      · exact e
      · subst e; simp at hk
    · exact .inl
  obtain ⟨g, g1, g2, g3, g4, g5, _⟩ := i.step (b := x) (hp x (List.mem_of_getElem? hx)) (by
    rw [hg]
    by_cases q : k = 0
    · rw [if_pos (e0.mpr q)]; rw [if_pos q] at h1; omega
    · rw [if_neg (fun e => q (e0.mp e))]; rw [if_neg q] at h1; omega)
  refine ⟨g, g1, g2, g3, g4, ?_⟩
  rw [List.take_succ, hx]
  show bld (r.take k ++ [x]) = _
  rw [bld_snoc, g5]
theorem bld_len {r : List Int} (ha : Asc r) (hp : Pos r) : (bld r).length = r.length := (inv_of _ _ rfl ha hp).len
theorem ev_numbers_from (n : Nat) (r : List Int) (hc : r.length ≤ 61) (ha : Asc r) (hp : Pos r) : ev (n + 2) kn_numbers_from [tI r] = .ok (tI (bld r)) false [] := by
  rw [ev_step tb_numbers_from rfl]
  have e : ∃ a, evS (C (n + 1)) q_numbers_from_1 [.fz (tI r), .fz (.tup []), .no] = .ok .nx [.fz (tI r), .fz (tI (bld r)), a] := by
    obtain ⟨env', h1, h2⟩ := for_run (t := .nm 2) (body := evS (C (n + 1)) q_numbers_from_1b) (items := nI r) (fun k env => ∃ a, env = [.fz (tI r), .fz (tI (bld (r.take k))), a]) (fun k d env hk i => by
      obtain ⟨b, rfl⟩ := i
      obtain ⟨x, q, rfl⟩ := nI_get hk
      obtain ⟨g, g1, g2, g3, g4, g5⟩ := step_at ha hp q
      have iv := inv_take ha hp k
      have hl : (bld (r.take k)).length ≤ 100 := by rw [iv.len, List.length_take]; omega
      have hx := hp x (List.mem_of_getElem? q)
      have e1 := nN_get g4
      rw [Int.toNat_of_nonneg hx] at e1
      refine ⟨_, [.fz (tI r), .fz (tI (bld (r.take (k + 1)))), .fz (.int x)], rfl, ?_, _, rfl⟩
      rw [g5]
      simp [q_numbers_from_1b, evS, evE, startE, endS, endFl, endIo, R.one, R.all, R.tst, R.bind, ifI, ifL, ifS, O.view, O.still, Sl.d, Sl.own, freezeO, Env.freeze, freezeL, wipeE, backE, store, ownD, afterCall, afterIo, resO, newOp, scalar, thenF, opSem, compEnd, bind1, seqOf, cmpI, kindD, mtOk, O.isSl, O.anySl, parStore, itSem, it1, it2, anyOf, cap, at0, at1, at2, at3, at4, at5, at6, o_add, o_sub, o_mulr, o_lt, o_le, o_gt, o_ge, o_len_t, o_len_l, o_len_r, o_abs, o_int, o_intb, o_min, o_isn, o_isnn, o_neg, i_int_0, i_int_1, i_int_3, i_int_4, i_int_34, i_int_12, i_int_2, i_bl_0, i_bl_1, i_bl_3, i_bl_4, i_bl_34, i_bl_12, i_bl_2, i_tup_0, i_tup_1, i_tup_3, i_tup_4, i_tup_34, i_tup_12, i_tup_2, i_lst_0, i_lst_1, i_lst_3, i_lst_4, i_lst_34, i_lst_12, i_lst_2, i_non_0, i_non_1, i_non_3, i_non_4, i_non_34, i_non_12, i_non_2, o_eqi, o_nei, io_sites_in, ev_sites_in n _ iv.np (by omega), io_put_at, ev_put_at n _ g hl, e1]) (env := [.fz (tI r), .fz (.tup []), .no]) ⟨.no, rfl⟩
    obtain ⟨b, rfl⟩ := h2
    rw [nI_len, List.take_length] at h1
    exact ⟨b, for_at (os := [.fz (tI r)]) (by simp [q_numbers_from_1s, evS, evE, startE, endS, endFl, endIo, R.one, R.all, R.tst, R.bind, ifI, ifL, ifS, O.view, O.still, Sl.d, Sl.own, freezeO, Env.freeze, freezeL, wipeE, backE, store, ownD, afterCall, afterIo, resO, newOp, scalar, thenF, opSem, compEnd, bind1, seqOf, cmpI, kindD, mtOk, O.isSl, O.anySl, parStore, itSem, it1, it2, anyOf, cap, at0, at1, at2, at3, at4, at5, at6, o_add, o_sub, o_mulr, o_lt, o_le, o_gt, o_ge, o_len_t, o_len_l, o_len_r, o_abs, o_int, o_intb, o_min, o_isn, o_isnn, o_neg, i_int_0, i_int_1, i_int_3, i_int_4, i_int_34, i_int_12, i_int_2, i_bl_0, i_bl_1, i_bl_3, i_bl_4, i_bl_34, i_bl_12, i_bl_2, i_tup_0, i_tup_1, i_tup_3, i_tup_4, i_tup_34, i_tup_12, i_tup_2, i_lst_0, i_lst_1, i_lst_3, i_lst_4, i_lst_34, i_lst_12, i_lst_2, i_non_0, i_non_1, i_non_3, i_non_4, i_non_34, i_non_12, i_non_2, o_eqi, o_nei]) rfl h1⟩
  obtain ⟨a, e⟩ := e
  simp [ir_numbers_from, evS, evE, startE, endS, endFl, endIo, R.one, R.all, R.tst, R.bind, ifI, ifL, ifS, O.view, O.still, Sl.d, Sl.own, freezeO, Env.freeze, freezeL, wipeE, backE, store, ownD, afterCall, afterIo, resO, newOp, scalar, thenF, opSem, compEnd, bind1, seqOf, cmpI, kindD, mtOk, O.isSl, O.anySl, parStore, itSem, it1, it2, anyOf, cap, at0, at1, at2, at3, at4, at5, at6, o_add, o_sub, o_mulr, o_lt, o_le, o_gt, o_ge, o_len_t, o_len_l, o_len_r, o_abs, o_int, o_intb, o_min, o_isn, o_isnn, o_neg, i_int_0, i_int_1, i_int_3, i_int_4, i_int_34, i_int_12, i_int_2, i_bl_0, i_bl_1, i_bl_3, i_bl_4, i_bl_34, i_bl_12, i_bl_2, i_tup_0, i_tup_1, i_tup_3, i_tup_4, i_tup_34, i_tup_12, i_tup_2, i_lst_0, i_lst_1, i_lst_3, i_lst_4, i_lst_34, i_lst_12, i_lst_2, i_non_0, i_non_1, i_non_3, i_non_4, i_non_34, i_non_12, i_non_2, o_eqi, o_nei, e]
end Lw
end
section
set_option Elab.async false
set_option linter.all false
set_option maxRecDepth 100000
set_option maxHeartbeats 0
namespace Lw
open PySem Ev Mr
theorem insD_nI (x : Int) : ∀ ys : List Int, insD (.int x) (nI ys) = nI (insI x ys)
  | [] => rfl
  | y :: ys => by
    show (if ltD (.int y) (.int x) = true then D.int y :: insD (.int x) (nI ys) else .int x :: .int y :: nI ys) = _
    rw [insD_nI x ys]
    have e : insI x (y :: ys) = if y < x then y :: insI x ys else x :: y :: ys := rfl
    rw [e]
    show (if decide (y < x) = true then _ else _) = _
    by_cases h : y < x
    · rw [if_pos (decide_eq_true h), if_pos h]; rfl
    · rw [if_neg (by simpa using h), if_neg h]; rfl
theorem sortD_nI : ∀ xs : List Int, sortD (nI xs) = nI (isort xs)
  | [] => rfl
  | x :: xs => by
    show insD (.int x) (sortD (nI xs)) = _
    rw [sortD_nI xs, insD_nI]
    rfl
theorem alike_nI : ∀ xs : List Int, allAlike (nI xs) = true
  | [] => rfl
  | x :: xs => by
    show (alikeD (.int x) (.int x) && (nI xs).all (alikeD (.int x)) && allAlike (nI xs)) = true
    have e : (nI xs).all (alikeD (.int x)) = true := by
      rw [List.all_eq_true]
      intro d hd
      obtain ⟨y, _, rfl⟩ := List.mem_map.mp hd
      rfl
    rw [alike_nI xs, e]
    rfl
theorem o_sorted (xs : List Int) : op1 .sorted (tI xs) = some (lI (isort xs)) := by
  have h1 : srtOk (nI xs) = true := by simp [srtOk, noTup]
  show (if (allAlike (nI xs) && srtOk (nI xs) && isDatas depthLine (nI xs)) = true then some (D.lst (sortD (nI xs))) else none) = _
  rw [alike_nI, h1, isDatas_nI, sortD_nI]
  rfl
theorem o_eql (xs ys : List Int) : op2 .eq (lI xs) (lI ys) = some (.bl (decide (xs = ys))) := by
  rw [o_eq (by show isDatas 19 (nI xs) = true; exact isDatas_nI _ _) (by show isDatas 19 (nI ys) = true; exact isDatas_nI _ _)]
  show some (D.bl (eqDs (nI xs) (nI ys))) = _
  rw [eqDs_nI]
theorem o_eqt (xs ys : List Int) : op2 .eq (tI xs) (tI ys) = some (.bl (decide (xs = ys))) := by
  rw [o_eq (by show isDatas 19 (nI xs) = true; exact isDatas_nI _ _) (by show isDatas 19 (nI ys) = true; exact isDatas_nI _ _)]
  show some (D.bl (eqDs (nI xs) (nI ys))) = _
  rw [eqDs_nI]
theorem o_net (xs ys : List Int) : op2 .ne (tI xs) (tI ys) = some (.bl (!decide (xs = ys))) := by
  rw [o_ne (by show isDatas 19 (nI xs) = true; exact isDatas_nI _ _) (by show isDatas 19 (nI ys) = true; exact isDatas_nI _ _)]
  show some (D.bl (!eqDs (nI xs) (nI ys))) = _
  rw [eqDs_nI]
theorem o_one (n : Nat) (h : n ≤ 1000) : op2 .lrg2 (.int 1) (.int ((n : Int) + 1)) = some (lI (one n)) := by
  have h1 : (leN ((n : Int) + 1 - 1) 10000000 && rngOk 1 && rngOk ((n : Int) + 1)) = true := by
    rw [Bool.and_eq_true, Bool.and_eq_true, leN_iff, rngOk_iff, rngOk_iff]
    omega
  show (if (leN ((n : Int) + 1 - 1) 10000000 && rngOk 1 && rngOk ((n : Int) + 1)) = true then some (D.lst ((upto 1 ((n : Int) + 1 - 1).toNat).map D.int)) else none) = _
  rw [if_pos h1, upto_eq, show ((n : Int) + 1 - 1).toNat = n by omega]
  rfl
theorem ev_is_numbers_in (n : Nat) (ps : List Int) (h : Np ps) (hc : ps.length ≤ 60) : ev (n + 4) kn_is_numbers_in [tI ps] = .ok (.bl true) false [] := by
  rw [ev_step tb_is_numbers_in rfl]
  have hw := ev_are_within n ps 1 60 (fun x hx => by have := (h.mem x).mp hx; omega) (le_cap (by omega))
  have e1 := o_sorted ps
  have e2 := o_one ps.length (by omega)
  have e3 := o_eql (one ps.length) (one ps.length)
  rw [isort_np h] at e1
  rw [decide_eq_true rfl] at e3
  simp [ir_is_numbers_in, evS, evE, startE, endS, endFl, endIo, R.one, R.all, R.tst, R.bind, ifI, ifL, ifS, O.view, O.still, Sl.d, Sl.own, freezeO, Env.freeze, freezeL, wipeE, backE, store, ownD, afterCall, afterIo, resO, newOp, scalar, thenF, opSem, compEnd, bind1, seqOf, cmpI, kindD, mtOk, O.isSl, O.anySl, parStore, itSem, it1, it2, anyOf, cap, at0, at1, at2, at3, at4, at5, at6, o_add, o_sub, o_mulr, o_lt, o_le, o_gt, o_ge, o_len_t, o_len_l, o_len_r, o_abs, o_int, o_intb, o_min, o_isn, o_isnn, o_neg, i_int_0, i_int_1, i_int_3, i_int_4, i_int_34, i_int_12, i_int_2, i_bl_0, i_bl_1, i_bl_3, i_bl_4, i_bl_34, i_bl_12, i_bl_2, i_tup_0, i_tup_1, i_tup_3, i_tup_4, i_tup_34, i_tup_12, i_tup_2, i_lst_0, i_lst_1, i_lst_3, i_lst_4, i_lst_34, i_lst_12, i_lst_2, i_non_0, i_non_1, i_non_3, i_non_4, i_non_34, i_non_12, i_non_2, o_eqi, o_nei, io_are_within, hw, e1, e2, e3]
theorem ev_sure_numbers (n : Nat) (ps : List Int) (h : Np ps) (hc : ps.length ≤ 60) : ev (n + 5) kn_sure_numbers [tI ps] = .ok (tI ps) false [] := by
  rw [ev_step tb_sure_numbers rfl]
  simp [ir_sure_numbers, evS, evE, startE, endS, endFl, endIo, R.one, R.all, R.tst, R.bind, ifI, ifL, ifS, O.view, O.still, Sl.d, Sl.own, freezeO, Env.freeze, freezeL, wipeE, backE, store, ownD, afterCall, afterIo, resO, newOp, scalar, thenF, opSem, compEnd, bind1, seqOf, cmpI, kindD, mtOk, O.isSl, O.anySl, parStore, itSem, it1, it2, anyOf, cap, at0, at1, at2, at3, at4, at5, at6, o_add, o_sub, o_mulr, o_lt, o_le, o_gt, o_ge, o_len_t, o_len_l, o_len_r, o_abs, o_int, o_intb, o_min, o_isn, o_isnn, o_neg, i_int_0, i_int_1, i_int_3, i_int_4, i_int_34, i_int_12, i_int_2, i_bl_0, i_bl_1, i_bl_3, i_bl_4, i_bl_34, i_bl_12, i_bl_2, i_tup_0, i_tup_1, i_tup_3, i_tup_4, i_tup_34, i_tup_12, i_tup_2, i_lst_0, i_lst_1, i_lst_3, i_lst_4, i_lst_34, i_lst_12, i_lst_2, i_non_0, i_non_1, i_non_3, i_non_4, i_non_34, i_non_12, i_non_2, o_eqi, o_nei, io_tupled, ev_tupled (n + 2) ps (le_cap (by omega)), io_is_numbers_in, ev_is_numbers_in n ps h hc]
theorem it_rg1 (n : Int) (h : n ≤ 1000) (h0 : -1000 ≤ n) : itSem .rg1 [.int n] = some ((upto 0 n.toNat).map D.int) := by
  show (if rngOk n = true then _ else none) = _
  rw [if_pos (rngOk_iff.mpr ⟨by omega, by omega⟩)]
theorem ev_bar_in (n : Nat) (ps : List Int) (h : Np ps) (hc : ps.length ≤ 100) : ev (n + 1) kn_bar_in [tI ps] = .ok .non false [] := by
  rw [ev_step tb_bar_in rfl]
  have e : ∃ a b, evS (C n) q_bar_in_1 [.fz (tI ps), .no, .no] = .ok .nx [.fz (tI ps), a, b] := by
    obtain ⟨env', h1, h2⟩ := for_run (t := .nm 1) (body := evS (C n) q_bar_in_1b) (items := (upto 0 ((ps.length : Int) - 1).toNat).map D.int) (fun k env => ∃ a b, env = [.fz (tI ps), a, b]) (fun k d env hk i => by
      obtain ⟨b, c, rfl⟩ := i
      obtain ⟨hk, rfl⟩ := uptoI_get hk
      rw [Int.zero_add]
      have k1 : k + 1 < ps.length := by omega
      have e1 := op_ix ps k (by omega)
      have e2 : op2 .ix (tI ps) (.int ((k : Int) + 1)) = some (.int ps[k + 1]) := op_ix ps (k + 1) k1
      have g1 : ps[k]? = some ps[k] := List.getElem?_eq_getElem (by omega)
      have g2 : ps[k + 1]? = some ps[k + 1] := List.getElem?_eq_getElem k1
      have hv := (h.mem ps[k]).mp (List.getElem_mem _)
      by_cases c1 : 1 < ps[k]
      · by_cases c2 : ps[k] < ps[k + 1]
        · obtain ⟨j, f1, f2⟩ := find_at h (v := ps[k] - 1) (by omega) (by omega)
          have f3 := (find_take h f1 f2 (j := k) (by omega)).mpr (h.un k _ _ g1 g2 c1 c2)
          have f4 := op_index ps (ps[k] - 1) f1
          refine ⟨_, [.fz (tI ps), .fz (.int (k : Int)), .fz (.int (j : Int))], rfl, ?_, _, _, rfl⟩
          simp [q_bar_in_1b, evS, evE, startE, endS, endFl, endIo, R.one, R.all, R.tst, R.bind, ifI, ifL, ifS, O.view, O.still, Sl.d, Sl.own, freezeO, Env.freeze, freezeL, wipeE, backE, store, ownD, afterCall, afterIo, resO, newOp, scalar, thenF, opSem, compEnd, bind1, seqOf, cmpI, kindD, mtOk, O.isSl, O.anySl, parStore, itSem, it1, it2, anyOf, cap, at0, at1, at2, at3, at4, at5, at6, o_add, o_sub, o_mulr, o_lt, o_le, o_gt, o_ge, o_len_t, o_len_l, o_len_r, o_abs, o_int, o_intb, o_min, o_isn, o_isnn, o_neg, i_int_0, i_int_1, i_int_3, i_int_4, i_int_34, i_int_12, i_int_2, i_bl_0, i_bl_1, i_bl_3, i_bl_4, i_bl_34, i_bl_12, i_bl_2, i_tup_0, i_tup_1, i_tup_3, i_tup_4, i_tup_34, i_tup_12, i_tup_2, i_lst_0, i_lst_1, i_lst_3, i_lst_4, i_lst_34, i_lst_12, i_lst_2, i_non_0, i_non_1, i_non_3, i_non_4, i_non_34, i_non_12, i_non_2, o_eqi, o_nei, e1, e2, c1, c2, f4]
          omega
        · refine ⟨_, [.fz (tI ps), .fz (.int (k : Int)), c], rfl, ?_, _, _, rfl⟩
          simp [q_bar_in_1b, evS, evE, startE, endS, endFl, endIo, R.one, R.all, R.tst, R.bind, ifI, ifL, ifS, O.view, O.still, Sl.d, Sl.own, freezeO, Env.freeze, freezeL, wipeE, backE, store, ownD, afterCall, afterIo, resO, newOp, scalar, thenF, opSem, compEnd, bind1, seqOf, cmpI, kindD, mtOk, O.isSl, O.anySl, parStore, itSem, it1, it2, anyOf, cap, at0, at1, at2, at3, at4, at5, at6, o_add, o_sub, o_mulr, o_lt, o_le, o_gt, o_ge, o_len_t, o_len_l, o_len_r, o_abs, o_int, o_intb, o_min, o_isn, o_isnn, o_neg, i_int_0, i_int_1, i_int_3, i_int_4, i_int_34, i_int_12, i_int_2, i_bl_0, i_bl_1, i_bl_3, i_bl_4, i_bl_34, i_bl_12, i_bl_2, i_tup_0, i_tup_1, i_tup_3, i_tup_4, i_tup_34, i_tup_12, i_tup_2, i_lst_0, i_lst_1, i_lst_3, i_lst_4, i_lst_34, i_lst_12, i_lst_2, i_non_0, i_non_1, i_non_3, i_non_4, i_non_34, i_non_12, i_non_2, o_eqi, o_nei, e1, e2, c1, c2]
      · refine ⟨_, [.fz (tI ps), .fz (.int (k : Int)), c], rfl, ?_, _, _, rfl⟩
        simp [q_bar_in_1b, evS, evE, startE, endS, endFl, endIo, R.one, R.all, R.tst, R.bind, ifI, ifL, ifS, O.view, O.still, Sl.d, Sl.own, freezeO, Env.freeze, freezeL, wipeE, backE, store, ownD, afterCall, afterIo, resO, newOp, scalar, thenF, opSem, compEnd, bind1, seqOf, cmpI, kindD, mtOk, O.isSl, O.anySl, parStore, itSem, it1, it2, anyOf, cap, at0, at1, at2, at3, at4, at5, at6, o_add, o_sub, o_mulr, o_lt, o_le, o_gt, o_ge, o_len_t, o_len_l, o_len_r, o_abs, o_int, o_intb, o_min, o_isn, o_isnn, o_neg, i_int_0, i_int_1, i_int_3, i_int_4, i_int_34, i_int_12, i_int_2, i_bl_0, i_bl_1, i_bl_3, i_bl_4, i_bl_34, i_bl_12, i_bl_2, i_tup_0, i_tup_1, i_tup_3, i_tup_4, i_tup_34, i_tup_12, i_tup_2, i_lst_0, i_lst_1, i_lst_3, i_lst_4, i_lst_34, i_lst_12, i_lst_2, i_non_0, i_non_1, i_non_3, i_non_4, i_non_34, i_non_12, i_non_2, o_eqi, o_nei, e1, e2, c1]) (env := [.fz (tI ps), .no, .no]) ⟨.no, .no, rfl⟩
    obtain ⟨a, b, rfl⟩ := h2
    exact ⟨a, b, for_at (os := [.fz (.int ((ps.length : Int) - 1))]) (by simp [q_bar_in_1s, evS, evE, startE, endS, endFl, endIo, R.one, R.all, R.tst, R.bind, ifI, ifL, ifS, O.view, O.still, Sl.d, Sl.own, freezeO, Env.freeze, freezeL, wipeE, backE, store, ownD, afterCall, afterIo, resO, newOp, scalar, thenF, opSem, compEnd, bind1, seqOf, cmpI, kindD, mtOk, O.isSl, O.anySl, parStore, itSem, it1, it2, anyOf, cap, at0, at1, at2, at3, at4, at5, at6, o_add, o_sub, o_mulr, o_lt, o_le, o_gt, o_ge, o_len_t, o_len_l, o_len_r, o_abs, o_int, o_intb, o_min, o_isn, o_isnn, o_neg, i_int_0, i_int_1, i_int_3, i_int_4, i_int_34, i_int_12, i_int_2, i_bl_0, i_bl_1, i_bl_3, i_bl_4, i_bl_34, i_bl_12, i_bl_2, i_tup_0, i_tup_1, i_tup_3, i_tup_4, i_tup_34, i_tup_12, i_tup_2, i_lst_0, i_lst_1, i_lst_3, i_lst_4, i_lst_34, i_lst_12, i_lst_2, i_non_0, i_non_1, i_non_3, i_non_4, i_non_34, i_non_12, i_non_2, o_eqi, o_nei]) (it_rg1 _ (by omega) (by omega)) h1⟩
  obtain ⟨a, b, e⟩ := e
  simp [ir_bar_in, evS, evE, startE, endS, endFl, endIo, R.one, R.all, R.tst, R.bind, ifI, ifL, ifS, O.view, O.still, Sl.d, Sl.own, freezeO, Env.freeze, freezeL, wipeE, backE, store, ownD, afterCall, afterIo, resO, newOp, scalar, thenF, opSem, compEnd, bind1, seqOf, cmpI, kindD, mtOk, O.isSl, O.anySl, parStore, itSem, it1, it2, anyOf, cap, at0, at1, at2, at3, at4, at5, at6, o_add, o_sub, o_mulr, o_lt, o_le, o_gt, o_ge, o_len_t, o_len_l, o_len_r, o_abs, o_int, o_intb, o_min, o_isn, o_isnn, o_neg, i_int_0, i_int_1, i_int_3, i_int_4, i_int_34, i_int_12, i_int_2, i_bl_0, i_bl_1, i_bl_3, i_bl_4, i_bl_34, i_bl_12, i_bl_2, i_tup_0, i_tup_1, i_tup_3, i_tup_4, i_tup_34, i_tup_12, i_tup_2, i_lst_0, i_lst_1, i_lst_3, i_lst_4, i_lst_34, i_lst_12, i_lst_2, i_non_0, i_non_1, i_non_3, i_non_4, i_non_34, i_non_12, i_non_2, o_eqi, o_nei, e]
theorem ev_sure_open (n : Nat) (ps : List Int) (h : Np ps) (hc : ps.length ≤ 60) : ev (n + 6) kn_sure_open [tI ps] = .ok (tI ps) false [] := by
  rw [ev_step tb_sure_open rfl]
  simp [ir_sure_open, evS, evE, startE, endS, endFl, endIo, R.one, R.all, R.tst, R.bind, ifI, ifL, ifS, O.view, O.still, Sl.d, Sl.own, freezeO, Env.freeze, freezeL, wipeE, backE, store, ownD, afterCall, afterIo, resO, newOp, scalar, thenF, opSem, compEnd, bind1, seqOf, cmpI, kindD, mtOk, O.isSl, O.anySl, parStore, itSem, it1, it2, anyOf, cap, at0, at1, at2, at3, at4, at5, at6, o_add, o_sub, o_mulr, o_lt, o_le, o_gt, o_ge, o_len_t, o_len_l, o_len_r, o_abs, o_int, o_intb, o_min, o_isn, o_isnn, o_neg, i_int_0, i_int_1, i_int_3, i_int_4, i_int_34, i_int_12, i_int_2, i_bl_0, i_bl_1, i_bl_3, i_bl_4, i_bl_34, i_bl_12, i_bl_2, i_tup_0, i_tup_1, i_tup_3, i_tup_4, i_tup_34, i_tup_12, i_tup_2, i_lst_0, i_lst_1, i_lst_3, i_lst_4, i_lst_34, i_lst_12, i_lst_2, i_non_0, i_non_1, i_non_3, i_non_4, i_non_34, i_non_12, i_non_2, o_eqi, o_nei, io_sure_numbers, ev_sure_numbers n ps h hc, io_bar_in, ev_bar_in (n + 4) ps h (by omega), isNonD]
theorem ev_is_barred (n : Nat) (ps : List Int) (h : Np ps) (hc : ps.length ≤ 60) : ev (n + 6) kn_is_barred [tI ps] = .ok (.bl false) false [] := by
  rw [ev_step tb_is_barred rfl]
  simp [ir_is_barred, evS, evE, startE, endS, endFl, endIo, R.one, R.all, R.tst, R.bind, ifI, ifL, ifS, O.view, O.still, Sl.d, Sl.own, freezeO, Env.freeze, freezeL, wipeE, backE, store, ownD, afterCall, afterIo, resO, newOp, scalar, thenF, opSem, compEnd, bind1, seqOf, cmpI, kindD, mtOk, O.isSl, O.anySl, parStore, itSem, it1, it2, anyOf, cap, at0, at1, at2, at3, at4, at5, at6, o_add, o_sub, o_mulr, o_lt, o_le, o_gt, o_ge, o_len_t, o_len_l, o_len_r, o_abs, o_int, o_intb, o_min, o_isn, o_isnn, o_neg, i_int_0, i_int_1, i_int_3, i_int_4, i_int_34, i_int_12, i_int_2, i_bl_0, i_bl_1, i_bl_3, i_bl_4, i_bl_34, i_bl_12, i_bl_2, i_tup_0, i_tup_1, i_tup_3, i_tup_4, i_tup_34, i_tup_12, i_tup_2, i_lst_0, i_lst_1, i_lst_3, i_lst_4, i_lst_34, i_lst_12, i_lst_2, i_non_0, i_non_1, i_non_3, i_non_4, i_non_34, i_non_12, i_non_2, o_eqi, o_nei, io_sure_numbers, ev_sure_numbers n ps h hc, io_bar_in, ev_bar_in (n + 4) ps h (by omega), isNonD]
theorem ev_sites (n : Nat) (ps : List Int) (h : Np ps) (hc : ps.length ≤ 60) : ev (n + 7) kn_sites [tI ps] = .ok (.tup (nN (sts ps))) false [] := by
  rw [ev_step tb_sites rfl]
  simp [ir_sites, evS, evE, startE, endS, endFl, endIo, R.one, R.all, R.tst, R.bind, ifI, ifL, ifS, O.view, O.still, Sl.d, Sl.own, freezeO, Env.freeze, freezeL, wipeE, backE, store, ownD, afterCall, afterIo, resO, newOp, scalar, thenF, opSem, compEnd, bind1, seqOf, cmpI, kindD, mtOk, O.isSl, O.anySl, parStore, itSem, it1, it2, anyOf, cap, at0, at1, at2, at3, at4, at5, at6, o_add, o_sub, o_mulr, o_lt, o_le, o_gt, o_ge, o_len_t, o_len_l, o_len_r, o_abs, o_int, o_intb, o_min, o_isn, o_isnn, o_neg, i_int_0, i_int_1, i_int_3, i_int_4, i_int_34, i_int_12, i_int_2, i_bl_0, i_bl_1, i_bl_3, i_bl_4, i_bl_34, i_bl_12, i_bl_2, i_tup_0, i_tup_1, i_tup_3, i_tup_4, i_tup_34, i_tup_12, i_tup_2, i_lst_0, i_lst_1, i_lst_3, i_lst_4, i_lst_34, i_lst_12, i_lst_2, i_non_0, i_non_1, i_non_3, i_non_4, i_non_34, i_non_12, i_non_2, o_eqi, o_nei, io_sure_open, ev_sure_open n ps h hc, io_sites_in, ev_sites_in (n + 5) ps h (by omega), o_tup]
end Lw
end
section
set_option Elab.async false
set_option linter.all false
set_option maxRecDepth 100000
set_option maxHeartbeats 0
namespace Lw
open PySem Ev Mr
theorem ins_take {ps : List Int} {k : Nat} (hk : k ≤ ps.length) : (ins ps k).take k = ps.take k := take_le hk (Nat.le_refl _)
theorem ins_drop {ps : List Int} {k : Nat} (hk : k ≤ ps.length) : (ins ps k).drop (k + 1) = ps.drop k := by
  unfold ins
  rw [List.drop_append, List.length_take, Nat.min_eq_left hk, List.drop_eq_nil_of_le (by rw [List.length_take]; omega), show k + 1 - k = 1 by omega]
  rfl
theorem ins_find {ps : List Int} {k : Nat} (hk : k ≤ ps.length) (h : Np (ins ps k)) : (ins ps k).findIdx? (· == (ps.length : Int) + 1) = some k := by
  obtain ⟨j, e1, e2⟩ := find_at h (v := (ps.length : Int) + 1) (by omega) (by rw [ins_len]; omega)
  have hj := (List.getElem?_eq_some_iff.mp e2).1
  have : j = k := (List.getElem?_inj hj h.nd).mp (by rw [e2, ins_eq hk])
  rw [e1, this]
theorem sts_nd (ps : List Int) : (sts ps).Nodup := List.Nodup.sublist List.filter_sublist List.nodup_range
theorem nN_idx {ks : List Nat} (hn : ks.Nodup) {b g : Nat} (h : ks[b]? = some g) : op2 .index (.lst (nN ks)) (.int (g : Int)) = some (.int (b : Int)) := by
  have e : (ks.map fun k : Nat => (k : Int)).findIdx? (· == (g : Int)) = some b := by
    obtain ⟨hb, e⟩ := List.getElem?_eq_some_iff.mp h
    rw [List.findIdx?_eq_some_iff_getElem]
    refine ⟨by rw [List.length_map]; exact hb, by simp [e], fun j hj => ?_⟩
    rw [List.getElem_map]
    intro q
    have q2 : (ks[j] : Int) = g := by simpa using q
    have q2 : ks[j] = g := by omega
    have := (List.getElem?_inj (i := j) (j := b) (by omega) hn).mp (by rw [h, List.getElem?_eq_getElem (by omega), q2])
    omega
  have := op_indexl (ks.map fun k : Nat => (k : Int)) g e
  rw [← this]
  show op2 .index (.lst (nN ks)) _ = op2 .index (.lst (nI (ks.map fun k : Nat => (k : Int)))) _
  rw [show nI (ks.map fun k : Nat => (k : Int)) = nN ks by
    show (ks.map fun k : Nat => (k : Int)).map D.int = _
    rw [List.map_map]
    rfl]
theorem while_step {c : Ev.Env → R (List O)} {body : Ev.Env → R Fl} {n : Nat} {env e1 e2 : Ev.Env} (h1 : c env = .ok [.fz (.bl true)] e1) (h2 : body e1 = .ok .nx e2) : whileLoop c body (n + 1) env = whileLoop c body n e2 := by
  rw [whileLoop, h1]
  show turnF _ (body e1) = _
  rw [h2]
  rfl
theorem while_end {c : Ev.Env → R (List O)} {body : Ev.Env → R Fl} {n : Nat} {env e1 : Ev.Env} (h1 : c env = .ok [.fz (.bl false)] e1) : whileLoop c body (n + 1) env = .ok .nx e1 := by
  rw [whileLoop, h1]
  rfl
theorem ev_sites_taken (n : Nat) (r : List Int) (hc : r.length ≤ 61) (ha : Asc r) (hp : Pos r) : ev (n + 2) kn_sites_taken [tI (bld r)] = .ok (tI r) false [] := by
  rw [ev_step tb_sites_taken rfl]
  have key : ∀ (k m : Nat) (c : Sl), k ≤ r.length → k < m → ∃ c', whileLoop (evE (C (n + 1)) q_sites_taken_1c) (evS (C (n + 1)) q_sites_taken_1b) m [.fz (tI (bld r)), .ow (nI (r.drop k).reverse), .fz (tI (bld (r.take k))), c] = .ok .nx [.fz (tI (bld r)), .ow (nI r.reverse), .fz (tI []), c'] := by
    intro k
    induction k with
    | zero =>
      intro m c _ hm
      obtain ⟨m, rfl⟩ : ∃ m', m = m' + 1 := ⟨m - 1, by omega⟩
      have e : op2 .ne (tI []) (.tup []) = some (.bl false) := o_net [] []
      have e0 : bld [] = [] := rfl
      exact ⟨c, while_end (by simp [q_sites_taken_1c, evS, evE, startE, endS, endFl, endIo, R.one, R.all, R.tst, R.bind, ifI, ifL, ifS, O.view, O.still, Sl.d, Sl.own, freezeO, Env.freeze, freezeL, wipeE, backE, store, ownD, afterCall, afterIo, resO, newOp, scalar, thenF, opSem, compEnd, bind1, seqOf, cmpI, kindD, mtOk, O.isSl, O.anySl, parStore, itSem, it1, it2, anyOf, cap, at0, at1, at2, at3, at4, at5, at6, o_add, o_sub, o_mulr, o_lt, o_le, o_gt, o_ge, o_len_t, o_len_l, o_len_r, o_abs, o_int, o_intb, o_min, o_isn, o_isnn, o_neg, i_int_0, i_int_1, i_int_3, i_int_4, i_int_34, i_int_12, i_int_2, i_bl_0, i_bl_1, i_bl_3, i_bl_4, i_bl_34, i_bl_12, i_bl_2, i_tup_0, i_tup_1, i_tup_3, i_tup_4, i_tup_34, i_tup_12, i_tup_2, i_lst_0, i_lst_1, i_lst_3, i_lst_4, i_lst_34, i_lst_12, i_lst_2, i_non_0, i_non_1, i_non_3, i_non_4, i_non_34, i_non_12, i_non_2, o_eqi, o_nei, e0, e])⟩
    | succ k ih =>
      intro m c hk hm
      obtain ⟨m, rfl⟩ : ∃ m', m = m' + 1 := ⟨m - 1, by omega⟩
      have hx : r[k]? = some r[k] := List.getElem?_eq_getElem (by omega)
      obtain ⟨g, g1, g2, g3, g4, g5⟩ := step_at ha hp hx
      have iv := inv_take ha hp k
      have iv1 := inv_take ha hp (k + 1)
      rw [g5] at iv1 ⊢
      generalize hq : bld (r.take k) = qs at *
      have ql : qs.length ≤ 100 := by rw [iv.len, List.length_take]; omega
      have hpx := hp _ (List.mem_of_getElem? hx)
      have f1 := op_index (ins qs g) _ (ins_find g1 iv1.np)
      have f2 := cut_to (ins qs g) g
      have f3 : op2 (.cut true false) (tI (ins qs g)) (.int ((g : Int) + 1)) = some (tI ((ins qs g).drop (g + 1))) := cut_from (ins qs g) (g + 1)
      rw [ins_take g1] at f2
      rw [ins_drop g1] at f3
      have f4 := cat_len (qs.take g) (qs.drop g) (by rw [List.length_take, List.length_drop]; omega)
      rw [List.take_append_drop] at f4
      have f5 := nN_idx (sts_nd qs) g4
      rw [Int.toNat_of_nonneg hpx] at f5
      have f6 : op2 .ne (tI (ins qs g)) (.tup []) = some (.bl true) := by
        refine (o_net (ins qs g) []).trans ?_
        have : ins qs g ≠ [] := fun e => by have := ins_len qs g; rw [e] at this; simp at this
        rw [decide_eq_false this]
        rfl
      have hl : (r.drop (k + 1)).length < 16777216 := by rw [List.length_drop]; omega
      obtain ⟨c', e⟩ := ih m (.fz (.int (g : Int))) (by omega) (by omega)
      refine ⟨c', Eq.trans (while_step (e1 := [.fz (tI (bld r)), .ow (nI (r.drop (k + 1)).reverse), .fz (tI (ins qs g)), c]) (e2 := [.fz (tI (bld r)), .ow (nI (r.drop k).reverse), .fz (tI qs), .fz (.int (g : Int))]) (by simp [q_sites_taken_1c, evS, evE, startE, endS, endFl, endIo, R.one, R.all, R.tst, R.bind, ifI, ifL, ifS, O.view, O.still, Sl.d, Sl.own, freezeO, Env.freeze, freezeL, wipeE, backE, store, ownD, afterCall, afterIo, resO, newOp, scalar, thenF, opSem, compEnd, bind1, seqOf, cmpI, kindD, mtOk, O.isSl, O.anySl, parStore, itSem, it1, it2, anyOf, cap, at0, at1, at2, at3, at4, at5, at6, o_add, o_sub, o_mulr, o_lt, o_le, o_gt, o_ge, o_len_t, o_len_l, o_len_r, o_abs, o_int, o_intb, o_min, o_isn, o_isnn, o_neg, i_int_0, i_int_1, i_int_3, i_int_4, i_int_34, i_int_12, i_int_2, i_bl_0, i_bl_1, i_bl_3, i_bl_4, i_bl_34, i_bl_12, i_bl_2, i_tup_0, i_tup_1, i_tup_3, i_tup_4, i_tup_34, i_tup_12, i_tup_2, i_lst_0, i_lst_1, i_lst_3, i_lst_4, i_lst_34, i_lst_12, i_lst_2, i_non_0, i_non_1, i_non_3, i_non_4, i_non_34, i_non_12, i_non_2, o_eqi, o_nei, f6]) ?_) e⟩
      have hd : r.drop k = r[k] :: r.drop (k + 1) := List.drop_eq_getElem_cons (by omega)
      rw [hd]
      have f7 : ((ins qs g).length : Int) = (qs.length : Int) + 1 := by rw [ins_len]; rfl
      simp [q_sites_taken_1b, evS, evE, startE, endS, endFl, endIo, R.one, R.all, R.tst, R.bind, ifI, ifL, ifS, O.view, O.still, Sl.d, Sl.own, freezeO, Env.freeze, freezeL, wipeE, backE, store, ownD, afterCall, afterIo, resO, newOp, scalar, thenF, opSem, compEnd, bind1, seqOf, cmpI, kindD, mtOk, O.isSl, O.anySl, parStore, itSem, it1, it2, anyOf, cap, at0, at1, at2, at3, at4, at5, at6, o_add, o_sub, o_mulr, o_lt, o_le, o_gt, o_ge, o_len_t, o_len_l, o_len_r, o_abs, o_int, o_intb, o_min, o_isn, o_isnn, o_neg, i_int_0, i_int_1, i_int_3, i_int_4, i_int_34, i_int_12, i_int_2, i_bl_0, i_bl_1, i_bl_3, i_bl_4, i_bl_34, i_bl_12, i_bl_2, i_tup_0, i_tup_1, i_tup_3, i_tup_4, i_tup_34, i_tup_12, i_tup_2, i_lst_0, i_lst_1, i_lst_3, i_lst_4, i_lst_34, i_lst_12, i_lst_2, i_non_0, i_non_1, i_non_3, i_non_4, i_non_34, i_non_12, i_non_2, o_eqi, o_nei, f7, f1, f2, f3, f4, io_sites_in, ev_sites_in n qs iv.np (by omega), f5, hl]
      rw [if_pos (by omega), show List.drop k (r.map D.int) = .int r[k] :: List.drop (k + 1) (r.map D.int) by rw [← List.map_drop, hd, List.map_cons, List.map_drop], List.reverse_cons]
  obtain ⟨c', e⟩ := key r.length 1000 .no (Nat.le_refl _) (by omega)
  rw [List.take_length, List.drop_length] at e
  have e : evS (C (n + 1)) q_sites_taken_1 [.fz (tI (bld r)), .ow [], .fz (tI (bld r)), .no] = .ok .nx [.fz (tI (bld r)), .ow (nI r.reverse), .fz (.tup []), c'] := e
  simp [ir_sites_taken, evS, evE, startE, endS, endFl, endIo, R.one, R.all, R.tst, R.bind, ifI, ifL, ifS, O.view, O.still, Sl.d, Sl.own, freezeO, Env.freeze, freezeL, wipeE, backE, store, ownD, afterCall, afterIo, resO, newOp, scalar, thenF, opSem, compEnd, bind1, seqOf, cmpI, kindD, mtOk, O.isSl, O.anySl, parStore, itSem, it1, it2, anyOf, cap, at0, at1, at2, at3, at4, at5, at6, o_add, o_sub, o_mulr, o_lt, o_le, o_gt, o_ge, o_len_t, o_len_l, o_len_r, o_abs, o_int, o_intb, o_min, o_isn, o_isnn, o_neg, i_int_0, i_int_1, i_int_3, i_int_4, i_int_34, i_int_12, i_int_2, i_bl_0, i_bl_1, i_bl_3, i_bl_4, i_bl_34, i_bl_12, i_bl_2, i_tup_0, i_tup_1, i_tup_3, i_tup_4, i_tup_34, i_tup_12, i_tup_2, i_lst_0, i_lst_1, i_lst_3, i_lst_4, i_lst_34, i_lst_12, i_lst_2, i_non_0, i_non_1, i_non_3, i_non_4, i_non_34, i_non_12, i_non_2, o_eqi, o_nei, e, o_tup, o_rev]
theorem ev_numbers_of_row (n : Nat) (r : List Int) (hc : r.length ≤ 60) (ha : Asc r) (h0 : ∀ x ∈ r, 0 ≤ x ∧ x ≤ 60) : ev (n + 6) kn_numbers_of_row [tI r] = .ok (tI (bld r)) false [] := by
  rw [ev_step tb_numbers_of_row rfl]
  simp [ir_numbers_of_row, evS, evE, startE, endS, endFl, endIo, R.one, R.all, R.tst, R.bind, ifI, ifL, ifS, O.view, O.still, Sl.d, Sl.own, freezeO, Env.freeze, freezeL, wipeE, backE, store, ownD, afterCall, afterIo, resO, newOp, scalar, thenF, opSem, compEnd, bind1, seqOf, cmpI, kindD, mtOk, O.isSl, O.anySl, parStore, itSem, it1, it2, anyOf, cap, at0, at1, at2, at3, at4, at5, at6, o_add, o_sub, o_mulr, o_lt, o_le, o_gt, o_ge, o_len_t, o_len_l, o_len_r, o_abs, o_int, o_intb, o_min, o_isn, o_isnn, o_neg, i_int_0, i_int_1, i_int_3, i_int_4, i_int_34, i_int_12, i_int_2, i_bl_0, i_bl_1, i_bl_3, i_bl_4, i_bl_34, i_bl_12, i_bl_2, i_tup_0, i_tup_1, i_tup_3, i_tup_4, i_tup_34, i_tup_12, i_tup_2, i_lst_0, i_lst_1, i_lst_3, i_lst_4, i_lst_34, i_lst_12, i_lst_2, i_non_0, i_non_1, i_non_3, i_non_4, i_non_34, i_non_12, i_non_2, o_eqi, o_nei, io_sure_ascents, ev_sure_ascents n r hc ha h0, io_numbers_from, ev_numbers_from (n + 3) r (by omega) ha fun x hx => (h0 x hx).1]
theorem ev_row_of_numbers (n : Nat) (r : List Int) (hc : r.length ≤ 60) (ha : Asc r) (hp : Pos r) : ev (n + 7) kn_row_of_numbers [tI (bld r)] = .ok (tI r) false [] := by
  rw [ev_step tb_row_of_numbers rfl]
  have iv := inv_of _ r rfl ha hp
  simp [ir_row_of_numbers, evS, evE, startE, endS, endFl, endIo, R.one, R.all, R.tst, R.bind, ifI, ifL, ifS, O.view, O.still, Sl.d, Sl.own, freezeO, Env.freeze, freezeL, wipeE, backE, store, ownD, afterCall, afterIo, resO, newOp, scalar, thenF, opSem, compEnd, bind1, seqOf, cmpI, kindD, mtOk, O.isSl, O.anySl, parStore, itSem, it1, it2, anyOf, cap, at0, at1, at2, at3, at4, at5, at6, o_add, o_sub, o_mulr, o_lt, o_le, o_gt, o_ge, o_len_t, o_len_l, o_len_r, o_abs, o_int, o_intb, o_min, o_isn, o_isnn, o_neg, i_int_0, i_int_1, i_int_3, i_int_4, i_int_34, i_int_12, i_int_2, i_bl_0, i_bl_1, i_bl_3, i_bl_4, i_bl_34, i_bl_12, i_bl_2, i_tup_0, i_tup_1, i_tup_3, i_tup_4, i_tup_34, i_tup_12, i_tup_2, i_lst_0, i_lst_1, i_lst_3, i_lst_4, i_lst_34, i_lst_12, i_lst_2, i_non_0, i_non_1, i_non_3, i_non_4, i_non_34, i_non_12, i_non_2, o_eqi, o_nei, io_sure_open, ev_sure_open n (bld r) iv.np (by rw [iv.len]; exact hc), io_sites_taken, ev_sites_taken (n + 4) r (by omega) ha hp]
theorem ev_put_in (n : Nat) (ps : List Int) (h : Np ps) (hc : ps.length ≤ 60) (b g : Nat) (hb : (sts ps)[b]? = some g) : ev (n + 6) kn_put_in [tI ps, .int (b : Int)] = .ok (tI (ins ps g)) false [] := by
  rw [ev_step tb_put_in rfl]
  have hl := (List.getElem?_eq_some_iff.mp hb).1
  have e1 := nN_get hb
  have e2 := ev_sure_within (n + 2) (b : Int) 0 (((sts ps).length : Int) - 1) (by omega) (by omega)
  have e3 : ((nN (sts ps)).length : Int) = (sts ps).length := by rw [List.length_map]
  simp [ir_put_in, evS, evE, startE, endS, endFl, endIo, R.one, R.all, R.tst, R.bind, ifI, ifL, ifS, O.view, O.still, Sl.d, Sl.own, freezeO, Env.freeze, freezeL, wipeE, backE, store, ownD, afterCall, afterIo, resO, newOp, scalar, thenF, opSem, compEnd, bind1, seqOf, cmpI, kindD, mtOk, O.isSl, O.anySl, parStore, itSem, it1, it2, anyOf, cap, at0, at1, at2, at3, at4, at5, at6, o_add, o_sub, o_mulr, o_lt, o_le, o_gt, o_ge, o_len_t, o_len_l, o_len_r, o_abs, o_int, o_intb, o_min, o_isn, o_isnn, o_neg, i_int_0, i_int_1, i_int_3, i_int_4, i_int_34, i_int_12, i_int_2, i_bl_0, i_bl_1, i_bl_3, i_bl_4, i_bl_34, i_bl_12, i_bl_2, i_tup_0, i_tup_1, i_tup_3, i_tup_4, i_tup_34, i_tup_12, i_tup_2, i_lst_0, i_lst_1, i_lst_3, i_lst_4, i_lst_34, i_lst_12, i_lst_2, i_non_0, i_non_1, i_non_3, i_non_4, i_non_34, i_non_12, i_non_2, o_eqi, o_nei, io_sure_numbers, ev_sure_numbers n ps h hc, io_bar_in, ev_bar_in (n + 4) ps h (by omega), isNonD, io_sites_in, ev_sites_in (n + 4) ps h (by omega), io_sure_within, e3, e2, e1, io_put_at, ev_put_at (n + 4) ps g (by omega)]
end Lw
end
section
set_option Elab.async false
set_option linter.all false
set_option maxRecDepth 100000
set_option maxHeartbeats 0
namespace Lw
open PySem Ev Mr
section
variable {a b c x : D}
theorem ix30 : op2 .ix (.lst [a, b, c]) (.int 0) = some a := rfl
theorem ix31 : op2 .ix (.lst [a, b, c]) (.int 1) = some b := rfl
theorem ix32 : op2 .ix (.lst [a, b, c]) (.int 2) = some c := rfl
theorem set30 : setAt [a, b, c] x 0 = some [x, b, c] := rfl
theorem set32 : setAt [a, b, c] x 2 = some [a, b, x] := rfl
end
theorem o_mull {i j : Int} (h : b64 i = true) : op2 .mul (.int i) (.int j) = some (.int (i * j)) := by
  show (if (b64 i || b64 j) = true then some (D.int (i * j)) else none) = _
  rw [h]
  rfl
theorem b64_of {i : Int} (h1 : -(2 ^ 64) < i) (h2 : i < 2 ^ 64) : b64 i = true := by
  exact b64_iff.mpr ⟨h1, h2⟩
def Tin (N : Nat) (t : List D) : Prop := ∃ x y z : Int, t = [.int x, .int y, .int z] ∧ 0 ≤ z ∧ z ≤ N
theorem Tin.mono {N M : Nat} {t : List D} (h : Tin N t) (k : N ≤ M) : Tin M t := by
  obtain ⟨x, y, z, e, h1, h2⟩ := h
  exact ⟨x, y, z, e, h1, by omega⟩
theorem ev_take (n N : Nat) (t : List D) (h : Tin N t) (hN : N ≤ 1000000) (b : Int) (h1 : 0 < b) (h2 : b < 1000) :
    ∃ r t', ev (n + 1) kn__law_take [.lst t, .int b] = .ok (.int r) false t' ∧ Tin (N + 1) t' ∧ 0 ≤ r ∧ r < b := by
  obtain ⟨x, y, z, rfl, z0, z1⟩ := h
  by_cases hx : 0 < x
  · refine ⟨x % b, [.int (x / b), .int y, .int z], ?_, ⟨_, _, _, rfl, z0, by omega⟩, Int.emod_nonneg _ (by omega), Int.emod_lt_of_pos _ h1⟩
    rw [ev_step tb__law_take rfl]
    have e1 := o_mod (i := x) h1
    have e2 := o_fdiv (i := x) h1 (by omega)
    simp [ir__law_take, evS, evE, startE, endS, endFl, endIo, R.one, R.all, R.tst, R.bind, ifI, ifL, ifS, O.view, O.still, Sl.d, Sl.own, freezeO, Env.freeze, freezeL, wipeE, backE, store, ownD, afterCall, afterIo, resO, newOp, scalar, thenF, opSem, compEnd, bind1, seqOf, cmpI, kindD, mtOk, O.isSl, O.anySl, parStore, itSem, it1, it2, anyOf, cap, at0, at1, at2, at3, at4, at5, at6, o_add, o_sub, o_mulr, o_lt, o_le, o_gt, o_ge, o_len_t, o_len_l, o_len_r, o_abs, o_int, o_intb, o_min, o_isn, o_isnn, o_neg, i_int_0, i_int_1, i_int_3, i_int_4, i_int_34, i_int_12, i_int_2, i_bl_0, i_bl_1, i_bl_3, i_bl_4, i_bl_34, i_bl_12, i_bl_2, i_tup_0, i_tup_1, i_tup_3, i_tup_4, i_tup_34, i_tup_12, i_tup_2, i_lst_0, i_lst_1, i_lst_3, i_lst_4, i_lst_34, i_lst_12, i_lst_2, i_non_0, i_non_1, i_non_3, i_non_4, i_non_34, i_non_12, i_non_2, o_eqi, o_nei, ix30, ix31, ix32, set30, hx, e1, e2]
  · generalize hA : (y + 48271 * (z + 1)) * (39373 + (z + 1)) % 2147483647 = A
    generalize hB : A % 40009 + 7 = B
    generalize hC : (A + (z + 1) + y / 1000003) * B % 2147483629 = Cc
    refine ⟨(Cc * 48271 + A) % 2147483587 / 64 % b, [.int x, .int y, .int (z + 1)], ?_, ⟨_, _, _, rfl, by omega, by omega⟩, Int.emod_nonneg _ (by omega), Int.emod_lt_of_pos _ h1⟩
    rw [ev_step tb__law_take rfl]
    have m1 : op2 .mul (.int 48271) (.int (z + 1)) = some (.int (48271 * (z + 1))) := o_mull rfl
    have m2 : op2 .mul (.int (y + 48271 * (z + 1))) (.int (39373 + (z + 1))) = some (.int ((y + 48271 * (z + 1)) * (39373 + (z + 1)))) := o_mulr (b64_of (by omega) (by omega))
    have m3 : op2 .mod (.int ((y + 48271 * (z + 1)) * (39373 + (z + 1)))) (.int 2147483647) = some (.int A) := by rw [o_mod (by omega), hA]
    have m4 : op2 .mod (.int A) (.int 40009) = some (.int (A % 40009)) := o_mod (by omega)
    have m5 : op2 .fdiv (.int y) (.int 1000003) = some (.int (y / 1000003)) := o_fdiv (by omega) (by omega)
    have hBb : 7 ≤ B ∧ B < 40016 := by omega
    have m6 : op2 .mul (.int (A + (z + 1) + y / 1000003)) (.int B) = some (.int ((A + (z + 1) + y / 1000003) * B)) := o_mulr (b64_of (by omega) (by omega))
    have m7 : op2 .mod (.int ((A + (z + 1) + y / 1000003) * B)) (.int 2147483629) = some (.int Cc) := by rw [o_mod (by omega), hC]
    have m8 : op2 .mul (.int Cc) (.int 48271) = some (.int (Cc * 48271)) := o_mulr rfl
    have m9 : op2 .mod (.int (Cc * 48271 + A)) (.int 2147483587) = some (.int ((Cc * 48271 + A) % 2147483587)) := o_mod (by omega)
    have m10 : op2 .fdiv (.int ((Cc * 48271 + A) % 2147483587)) (.int 64) = some (.int ((Cc * 48271 + A) % 2147483587 / 64)) := o_fdiv (by omega) (by omega)
    have m11 := o_mod (i := (Cc * 48271 + A) % 2147483587 / 64) h1
    simp [ir__law_take, evS, evE, startE, endS, endFl, endIo, R.one, R.all, R.tst, R.bind, ifI, ifL, ifS, O.view, O.still, Sl.d, Sl.own, freezeO, Env.freeze, freezeL, wipeE, backE, store, ownD, afterCall, afterIo, resO, newOp, scalar, thenF, opSem, compEnd, bind1, seqOf, cmpI, kindD, mtOk, O.isSl, O.anySl, parStore, itSem, it1, it2, anyOf, cap, at0, at1, at2, at3, at4, at5, at6, o_add, o_sub, o_mulr, o_lt, o_le, o_gt, o_ge, o_len_t, o_len_l, o_len_r, o_abs, o_int, o_intb, o_min, o_isn, o_isnn, o_neg, i_int_0, i_int_1, i_int_3, i_int_4, i_int_34, i_int_12, i_int_2, i_bl_0, i_bl_1, i_bl_3, i_bl_4, i_bl_34, i_bl_12, i_bl_2, i_tup_0, i_tup_1, i_tup_3, i_tup_4, i_tup_34, i_tup_12, i_tup_2, i_lst_0, i_lst_1, i_lst_3, i_lst_4, i_lst_34, i_lst_12, i_lst_2, i_non_0, i_non_1, i_non_3, i_non_4, i_non_34, i_non_12, i_non_2, o_eqi, o_nei, ix30, ix31, ix32, set32, hx, m1, m2, m3, m4, hB, m5, m6, m7, m8, m9, m10, m11]
theorem ev_box (n : Nat) (x : Int) : ∃ t, ev (n + 1) kn__law_box [.lst [.int x], .int 0] = .ok (.lst t) true [] ∧ Tin 0 t := by
  generalize hA : (if x < 0 then -x else x) = A
  have p : op2 .pow (.int 10) (.int 18) = some (.int 1000000000000000000) := rfl
  have i0 : op2 .ix (.lst [.int x]) (.int 0) = some (.int x) := rfl
  have m1 : op2 .mul (.int A) (.int (if (1000000000000000000 : Int) ≤ A then 1 else 0)) = some (.int (A * (if (1000000000000000000 : Int) ≤ A then 1 else 0))) := o_mulr (by by_cases h : (1000000000000000000 : Int) ≤ A <;> simp [h] <;> rfl)
  have m2 : op2 .mod (.int x) (.int 2305843009213693951) = some (.int (x % 2305843009213693951)) := o_mod (by omega)
  have m3 : op2 .mul (.int 39373) (.int 0) = some (.int 0) := rfl
  refine ⟨_, ?_, ⟨A * (if (1000000000000000000 : Int) ≤ A then 1 else 0), x % 2305843009213693951 + 0 + 25191038, 0, rfl, by omega, by omega⟩⟩
  rw [ev_step tb__law_box rfl]
  simp [ir__law_box, evS, evE, startE, endS, endFl, endIo, R.one, R.all, R.tst, R.bind, ifI, ifL, ifS, O.view, O.still, Sl.d, Sl.own, freezeO, Env.freeze, freezeL, wipeE, backE, store, ownD, afterCall, afterIo, resO, newOp, scalar, thenF, opSem, compEnd, bind1, seqOf, cmpI, kindD, mtOk, O.isSl, O.anySl, parStore, itSem, it1, it2, anyOf, cap, at0, at1, at2, at3, at4, at5, at6, o_add, o_sub, o_mulr, o_lt, o_le, o_gt, o_ge, o_len_t, o_len_l, o_len_r, o_abs, o_int, o_intb, o_min, o_isn, o_isnn, o_neg, i_int_0, i_int_1, i_int_3, i_int_4, i_int_34, i_int_12, i_int_2, i_bl_0, i_bl_1, i_bl_3, i_bl_4, i_bl_34, i_bl_12, i_bl_2, i_tup_0, i_tup_1, i_tup_3, i_tup_4, i_tup_34, i_tup_12, i_tup_2, i_lst_0, i_lst_1, i_lst_3, i_lst_4, i_lst_34, i_lst_12, i_lst_2, i_non_0, i_non_1, i_non_3, i_non_4, i_non_34, i_non_12, i_non_2, o_eqi, o_nei, i0, hA, p, m1, m2, m3]
end Lw
end
section
set_option Elab.async false
set_option linter.all false
set_option maxRecDepth 100000
set_option maxHeartbeats 0
namespace Lw
open PySem Ev Mr
theorem ev_cells (n : Nat) (ns : List Int) : ∃ x : Int, ev (n + 1) kn__law_cells [.ro ns, .int 1] = .ok (.lst [.int x]) true [] := by
  have hc : ∃ c : Int, evE (C n) (.orL (.op (.list) (.cons (.op (.cut false true) (.cons (.var 0) (.cons (.var 1) .nil))) .nil)) (.lst (.cons (.cst (.int 0)) .nil))) [.fz (.ro ns), .fz (.int 1), .no, .no, .no, .no] = .ok [.fr (.lst [.int c])] [.fz (.ro ns), .fz (.int 1), .no, .no, .no, .no] := by
    cases ns with
    | nil =>
      have e1 : op2 (.cut false true) (.ro []) (.int 1) = some (.lst []) := rfl
      exact ⟨0, by simp [evS, evE, startE, endS, endFl, endIo, R.one, R.all, R.tst, R.bind, ifI, ifL, ifS, O.view, O.still, Sl.d, Sl.own, freezeO, Env.freeze, freezeL, wipeE, backE, store, ownD, afterCall, afterIo, resO, newOp, scalar, thenF, opSem, compEnd, bind1, seqOf, cmpI, kindD, mtOk, O.isSl, O.anySl, parStore, itSem, it1, it2, anyOf, cap, at0, at1, at2, at3, at4, at5, at6, o_add, o_sub, o_mulr, o_lt, o_le, o_gt, o_ge, o_len_t, o_len_l, o_len_r, o_abs, o_int, o_intb, o_min, o_isn, o_isnn, o_neg, i_int_0, i_int_1, i_int_3, i_int_4, i_int_34, i_int_12, i_int_2, i_bl_0, i_bl_1, i_bl_3, i_bl_4, i_bl_34, i_bl_12, i_bl_2, i_tup_0, i_tup_1, i_tup_3, i_tup_4, i_tup_34, i_tup_12, i_tup_2, i_lst_0, i_lst_1, i_lst_3, i_lst_4, i_lst_34, i_lst_12, i_lst_2, i_non_0, i_non_1, i_non_3, i_non_4, i_non_34, i_non_12, i_non_2, o_eqi, o_nei, e1, o_list]⟩
    | cons x r =>
      have e1 : op2 (.cut false true) (.ro (x :: r)) (.int 1) = some (.lst [.int x]) := by
        show some (D.lst ((cutL (x :: r) none (some ((1 : Nat) : Int))).map D.int)) = _
        rw [cutL_to]
        rfl
      exact ⟨x, by simp [evS, evE, startE, endS, endFl, endIo, R.one, R.all, R.tst, R.bind, ifI, ifL, ifS, O.view, O.still, Sl.d, Sl.own, freezeO, Env.freeze, freezeL, wipeE, backE, store, ownD, afterCall, afterIo, resO, newOp, scalar, thenF, opSem, compEnd, bind1, seqOf, cmpI, kindD, mtOk, O.isSl, O.anySl, parStore, itSem, it1, it2, anyOf, cap, at0, at1, at2, at3, at4, at5, at6, o_add, o_sub, o_mulr, o_lt, o_le, o_gt, o_ge, o_len_t, o_len_l, o_len_r, o_abs, o_int, o_intb, o_min, o_isn, o_isnn, o_neg, i_int_0, i_int_1, i_int_3, i_int_4, i_int_34, i_int_12, i_int_2, i_bl_0, i_bl_1, i_bl_3, i_bl_4, i_bl_34, i_bl_12, i_bl_2, i_tup_0, i_tup_1, i_tup_3, i_tup_4, i_tup_34, i_tup_12, i_tup_2, i_lst_0, i_lst_1, i_lst_3, i_lst_4, i_lst_34, i_lst_12, i_lst_2, i_non_0, i_non_1, i_non_3, i_non_4, i_non_34, i_non_12, i_non_2, o_eqi, o_nei, e1, o_list]⟩
  obtain ⟨c0, hc⟩ := hc
  rw [ev_step tb__law_cells rfl]
  have e : ∃ (x : Int) (a b c : Sl), evS (C n) q__law_cells_1 [.fz (.ro ns), .fz (.int 1), .ow [.int c0], .no, .no, .no] = .ok .nx [.fz (.ro ns), .fz (.int 1), .ow [.int x], a, b, c] := by
    obtain ⟨env', h1, h2⟩ := for_run (t := .tu [3, 4]) (body := evS (C n) q__law_cells_1b) (items := enumD 0 (nI (cutL ns (some 1) (some 63)))) (fun k env => ∃ (x : Int) (a b c : Sl), env = [.fz (.ro ns), .fz (.int 1), .ow [.int x], a, b, c]) (fun k d env hk i => by
      obtain ⟨x, a, b, c, rfl⟩ := i
      obtain ⟨v, q, rfl⟩ := enumI_get hk
      have hkl := (List.getElem?_eq_some_iff.mp q).1
      have hl : (cutL ns (some 1) (some 63)).length ≤ 63 := by
        have e63 : cutN ns.length ns.length (some 63) = min 63 ns.length := cutN_nat _ _ 63
        unfold cutL
        rw [List.length_take, e63]
        omega
      have m1 : op2 .mod (.int (k : Int)) (.int 1) = some (.int 0) := by rw [o_mod (by omega)]; congr 2; omega
      have m2 : op2 .mul (.int v) (.int ((k : Int) + 2)) = some (.int (v * ((k : Int) + 2))) := o_mulr (b64_of (by omega) (by omega))
      have i0 : op2 .ix (.lst [.int x]) (.int 0) = some (.int x) := rfl
      have s0 : ∀ y : D, setAt [.int x] y 0 = some [y] := fun y => rfl
      refine ⟨_, [.fz (.ro ns), .fz (.int 1), .ow [.int (x + v * ((k : Int) + 2))], .fz (.int (k : Int)), .fz (.int v), .fz (.int 0)], rfl, ?_, _, _, _, _, rfl⟩
      simp [q__law_cells_1b, evS, evE, startE, endS, endFl, endIo, R.one, R.all, R.tst, R.bind, ifI, ifL, ifS, O.view, O.still, Sl.d, Sl.own, freezeO, Env.freeze, freezeL, wipeE, backE, store, ownD, afterCall, afterIo, resO, newOp, scalar, thenF, opSem, compEnd, bind1, seqOf, cmpI, kindD, mtOk, O.isSl, O.anySl, parStore, itSem, it1, it2, anyOf, cap, at0, at1, at2, at3, at4, at5, at6, o_add, o_sub, o_mulr, o_lt, o_le, o_gt, o_ge, o_len_t, o_len_l, o_len_r, o_abs, o_int, o_intb, o_min, o_isn, o_isnn, o_neg, i_int_0, i_int_1, i_int_3, i_int_4, i_int_34, i_int_12, i_int_2, i_bl_0, i_bl_1, i_bl_3, i_bl_4, i_bl_34, i_bl_12, i_bl_2, i_tup_0, i_tup_1, i_tup_3, i_tup_4, i_tup_34, i_tup_12, i_tup_2, i_lst_0, i_lst_1, i_lst_3, i_lst_4, i_lst_34, i_lst_12, i_lst_2, i_non_0, i_non_1, i_non_3, i_non_4, i_non_34, i_non_12, i_non_2, o_eqi, o_nei, m1, m2, i0, s0]) (env := [.fz (.ro ns), .fz (.int 1), .ow [.int c0], .no, .no, .no]) ⟨c0, .no, .no, .no, rfl⟩
    obtain ⟨x, a, b, c, rfl⟩ := h2
    refine ⟨x, a, b, c, for_at (os := [.fr (.lst (nI (cutL ns (some 1) (some 63))))]) (e1 := [.fz (.ro ns), .fz (.int 1), .ow [.int c0], .no, .no, .no]) ?_ rfl h1⟩
    have e1 : cutD (.ro ns) (some 1) (some 63) = some (.lst (nI (cutL ns (some 1) (some 63)))) := rfl
    simp [q__law_cells_1s, evS, evE, startE, endS, endFl, endIo, R.one, R.all, R.tst, R.bind, ifI, ifL, ifS, O.view, O.still, Sl.d, Sl.own, freezeO, Env.freeze, freezeL, wipeE, backE, store, ownD, afterCall, afterIo, resO, newOp, scalar, thenF, opSem, compEnd, bind1, seqOf, cmpI, kindD, mtOk, O.isSl, O.anySl, parStore, itSem, it1, it2, anyOf, cap, at0, at1, at2, at3, at4, at5, at6, o_add, o_sub, o_mulr, o_lt, o_le, o_gt, o_ge, o_len_t, o_len_l, o_len_r, o_abs, o_int, o_intb, o_min, o_isn, o_isnn, o_neg, i_int_0, i_int_1, i_int_3, i_int_4, i_int_34, i_int_12, i_int_2, i_bl_0, i_bl_1, i_bl_3, i_bl_4, i_bl_34, i_bl_12, i_bl_2, i_tup_0, i_tup_1, i_tup_3, i_tup_4, i_tup_34, i_tup_12, i_tup_2, i_lst_0, i_lst_1, i_lst_3, i_lst_4, i_lst_34, i_lst_12, i_lst_2, i_non_0, i_non_1, i_non_3, i_non_4, i_non_34, i_non_12, i_non_2, o_eqi, o_nei, e1]
  obtain ⟨x, a, b, c, e⟩ := e
  refine ⟨x, ?_⟩
  simp only [ir__law_cells, startE, evS]
  have hs : (match false, [D.ro ns, D.int 1] with
      | true, .lst xs :: r => Sl.ow xs :: r.map Sl.fz
      | _, _ => [D.ro ns, D.int 1].map Sl.fz) ++ List.replicate (6 - 2) Sl.no = [.fz (.ro ns), .fz (.int 1), .no, .no, .no, .no] := rfl
  rw [hs, hc]
  simp [evS, evE, startE, endS, endFl, endIo, R.one, R.all, R.tst, R.bind, ifI, ifL, ifS, O.view, O.still, Sl.d, Sl.own, freezeO, Env.freeze, freezeL, wipeE, backE, store, ownD, afterCall, afterIo, resO, newOp, scalar, thenF, opSem, compEnd, bind1, seqOf, cmpI, kindD, mtOk, O.isSl, O.anySl, parStore, itSem, it1, it2, anyOf, cap, at0, at1, at2, at3, at4, at5, at6, o_add, o_sub, o_mulr, o_lt, o_le, o_gt, o_ge, o_len_t, o_len_l, o_len_r, o_abs, o_int, o_intb, o_min, o_isn, o_isnn, o_neg, i_int_0, i_int_1, i_int_3, i_int_4, i_int_34, i_int_12, i_int_2, i_bl_0, i_bl_1, i_bl_3, i_bl_4, i_bl_34, i_bl_12, i_bl_2, i_tup_0, i_tup_1, i_tup_3, i_tup_4, i_tup_34, i_tup_12, i_tup_2, i_lst_0, i_lst_1, i_lst_3, i_lst_4, i_lst_34, i_lst_12, i_lst_2, i_non_0, i_non_1, i_non_3, i_non_4, i_non_34, i_non_12, i_non_2, o_eqi, o_nei, e]
theorem rs_sum : ∀ xs : List Int, ((xs.zip xs.tail).map fun p => if p.1 < p.2 then (1 : Int) else 0).sum = rs xs
  | [] => rfl
  | [x] => rfl
  | x :: y :: r => by
    have := rs_sum (y :: r)
    rw [List.tail_cons] at this ⊢
    rw [List.zip_cons_cons, List.map_cons, List.sum_cons, this]
    have e : rs (x :: y :: r) = (if x < y then 1 else 0) + rs (y :: r) := rfl
    rw [e]
    by_cases h : x < y
    · simp only [if_pos h]; omega
    · simp only [if_neg h]; omega
theorem ev_law_rises (n : Nat) (xs : List Int) (hc : xs.length ≤ 1000) : ev (n + 1) kn__law_rises [lI xs] = .ok (.int (rs xs)) false [] := by
  rw [ev_step tb__law_rises rfl]
  have e : evE (C n) q__law_rises_1 [.fz (lI xs), .no, .no] = .ok [.fr (lI ((xs.zip xs.tail).map fun p => if p.1 < p.2 then (1 : Int) else 0))] [.fz (lI xs), .no, .no] :=
    comp_m (own := [1, 2]) (os := [.fz (lI xs), .fr (lI xs.tail)]) (items := (xs.zip xs.tail).map fun p => D.tup [.int p.1, .int p.2])
      (fun d => match d with | .tup [.int a, .int b] => .int (if a < b then 1 else 0) | _ => .non)
      (by simp [q__law_rises_1s, evS, evE, startE, endS, endFl, endIo, R.one, R.all, R.tst, R.bind, ifI, ifL, ifS, O.view, O.still, Sl.d, Sl.own, freezeO, Env.freeze, freezeL, wipeE, backE, store, ownD, afterCall, afterIo, resO, newOp, scalar, thenF, opSem, compEnd, bind1, seqOf, cmpI, kindD, mtOk, O.isSl, O.anySl, parStore, itSem, it1, it2, anyOf, cap, at0, at1, at2, at3, at4, at5, at6, o_add, o_sub, o_mulr, o_lt, o_le, o_gt, o_ge, o_len_t, o_len_l, o_len_r, o_abs, o_int, o_intb, o_min, o_isn, o_isnn, o_neg, i_int_0, i_int_1, i_int_3, i_int_4, i_int_34, i_int_12, i_int_2, i_bl_0, i_bl_1, i_bl_3, i_bl_4, i_bl_34, i_bl_12, i_bl_2, i_tup_0, i_tup_1, i_tup_3, i_tup_4, i_tup_34, i_tup_12, i_tup_2, i_lst_0, i_lst_1, i_lst_3, i_lst_4, i_lst_34, i_lst_12, i_lst_2, i_non_0, i_non_1, i_non_3, i_non_4, i_non_34, i_non_12, i_non_2, o_eqi, o_nei, cut_1l]) (by
        show some (zipD (nI xs) (nI xs.tail)) = _
        rw [zipD_nI]) rfl rfl rfl (fun d hd => by
      obtain ⟨⟨x, y⟩, hx, rfl⟩ := List.mem_map.mp hd
      refine ⟨[.fz (lI xs), .fz (.int x), .fz (.int y)], rfl, ⟨.fz (.int (if x < y then 1 else 0)), ?_, rfl, rfl⟩, rfl⟩
      simp [q__law_rises_1e, evS, evE, startE, endS, endFl, endIo, R.one, R.all, R.tst, R.bind, ifI, ifL, ifS, O.view, O.still, Sl.d, Sl.own, freezeO, Env.freeze, freezeL, wipeE, backE, store, ownD, afterCall, afterIo, resO, newOp, scalar, thenF, opSem, compEnd, bind1, seqOf, cmpI, kindD, mtOk, O.isSl, O.anySl, parStore, itSem, it1, it2, anyOf, cap, at0, at1, at2, at3, at4, at5, at6, o_add, o_sub, o_mulr, o_lt, o_le, o_gt, o_ge, o_len_t, o_len_l, o_len_r, o_abs, o_int, o_intb, o_min, o_isn, o_isnn, o_neg, i_int_0, i_int_1, i_int_3, i_int_4, i_int_34, i_int_12, i_int_2, i_bl_0, i_bl_1, i_bl_3, i_bl_4, i_bl_34, i_bl_12, i_bl_2, i_tup_0, i_tup_1, i_tup_3, i_tup_4, i_tup_34, i_tup_12, i_tup_2, i_lst_0, i_lst_1, i_lst_3, i_lst_4, i_lst_34, i_lst_12, i_lst_2, i_non_0, i_non_1, i_non_3, i_non_4, i_non_34, i_non_12, i_non_2, o_eqi, o_nei]) rfl (by
        rw [List.length_map, List.length_zip]
        exact le_cap (by omega)) (by
        show _ = ((xs.zip xs.tail).map fun p => if p.1 < p.2 then (1 : Int) else 0).map D.int
        rw [List.map_map, List.map_map]
        rfl)
  have e2 := o_sum (xs := (xs.zip xs.tail).map fun p => if p.1 < p.2 then (1 : Int) else 0)
  rw [rs_sum] at e2
  simp [ir__law_rises, evS, evE, startE, endS, endFl, endIo, R.one, R.all, R.tst, R.bind, ifI, ifL, ifS, O.view, O.still, Sl.d, Sl.own, freezeO, Env.freeze, freezeL, wipeE, backE, store, ownD, afterCall, afterIo, resO, newOp, scalar, thenF, opSem, compEnd, bind1, seqOf, cmpI, kindD, mtOk, O.isSl, O.anySl, parStore, itSem, it1, it2, anyOf, cap, at0, at1, at2, at3, at4, at5, at6, o_add, o_sub, o_mulr, o_lt, o_le, o_gt, o_ge, o_len_t, o_len_l, o_len_r, o_abs, o_int, o_intb, o_min, o_isn, o_isnn, o_neg, i_int_0, i_int_1, i_int_3, i_int_4, i_int_34, i_int_12, i_int_2, i_bl_0, i_bl_1, i_bl_3, i_bl_4, i_bl_34, i_bl_12, i_bl_2, i_tup_0, i_tup_1, i_tup_3, i_tup_4, i_tup_34, i_tup_12, i_tup_2, i_lst_0, i_lst_1, i_lst_3, i_lst_4, i_lst_34, i_lst_12, i_lst_2, i_non_0, i_non_1, i_non_3, i_non_4, i_non_34, i_non_12, i_non_2, o_eqi, o_nei, e, e2]
end Lw
end
section
set_option Elab.async false
set_option linter.all false
set_option maxRecDepth 100000
set_option maxHeartbeats 0
namespace Lw
open PySem Ev Mr
theorem last_ix (xs : List Int) {x : Int} (h : xs.getLast? = some x) : op2 .ix (lI xs) (.int (-1)) = some (.int x) := by
  obtain ⟨l, rfl⟩ := List.getLast?_eq_some_iff.mp h
  have e := op_ixl (l ++ [x]) l.length (by simp)
  rw [List.getElem_append_right (Nat.le_refl _)] at e
  simp only [Nat.sub_self, List.getElem_singleton] at e
  rw [← e]
  show (atN (nI (l ++ [x])).length (-1)).bind _ = (atN (nI (l ++ [x])).length (l.length : Int)).bind _
  have e1 : (nI (l ++ [x])).length = l.length + 1 := by rw [List.length_map, List.length_append]; rfl
  rw [e1]
  have e2 : atN (l.length + 1) (-1) = some l.length := by
    unfold atN
    rw [if_neg (by omega), if_pos (by omega)]
    congr 1
    omega
  have e3 : atN (l.length + 1) (l.length : Int) = some l.length := by
    unfold atN
    rw [if_pos (by omega), if_pos (by omega), Int.toNat_natCast]
  rw [e2, e3]
theorem row_turn (n N k : Nat) (L kind : Int) (t : List D) (row : List Int) (v5 v6 : Sl) (ht : Tin N t) (hN : N ≤ 100000) (hr : Rw row k) (hk : k ≤ 60) (hq : 0 ≤ kind) (hq4 : kind < 4) :
    ∃ t' x a b, evS (C (n + 1)) q__law_row_1b [.ow t, .fz (.int L), .fz (.int kind), .ow (nI row), .fz (.int (k : Int)), v5, v6] = .ok .nx [.ow t', .fz (.int L), .fz (.int kind), .ow (nI (row ++ [x])), .fz (.int (k : Int)), a, b] ∧ Tin (N + 3) t' ∧ 0 ≤ x ∧ x ≤ most row := by
  have hl := hr.len
  have m0 := most_nn row
  have m1 := most_le row
  obtain ⟨r1, t1, d1, T1, p1, p2⟩ := ev_take n N t ht (by omega) (most row + 1) (by omega) (by omega)
  have eq1 : op2 .eq (lI row) (.lst []) = some (.bl (decide (row = []))) := o_eql row []
  have ne1 : op2 .ne (lI row) (.lst []) = some (.bl (!decide (row = []))) := by
    rw [o_ne (by show isDatas 19 (nI row) = true; exact isDatas_nI _ _) rfl]
    show some (D.bl (!eqDs (nI row) (nI []))) = _
    rw [eqDs_nI]
  have er := ev_law_rises n row (by omega)
  have hcap : row.length < 16777216 := by omega
  have i1 := io__law_take
  have i2 := io__law_rises
  have hm : (if row = [] then (0 : Int) else 1 + (rs row : Int)) = most row := rfl
  by_cases h0 : row = []
  · rw [if_pos h0] at hm
    rw [← hm] at d1 p2
    have z : r1 = 0 := by omega
    subst z
    have d1 : evFn tb 1000 (n + 1) kn__law_take [.lst t, .int 1] = .ok (.int 0) false t1 := d1
    have eq0 : op2 .eq (.lst []) (.lst []) = some (.bl true) := rfl
    have ne0 : op2 .ne (.lst []) (.lst []) = some (.bl false) := rfl
    by_cases k2 : kind = 2
    · obtain ⟨r2, t2, d2, T2, q1, q2⟩ := ev_take n (N + 1) t1 T1 (by omega) 3 (by omega) (by omega)
      subst k2
      refine ⟨t2, 0, .fz (.int 0), .fz (.int 0), ?_, T2.mono (by omega), by omega, m0⟩
      by_cases c : 0 < r2 <;> simp [q__law_row_1b, evS, evE, startE, endS, endFl, endIo, R.one, R.all, R.tst, R.bind, ifI, ifL, ifS, O.view, O.still, Sl.d, Sl.own, freezeO, Env.freeze, freezeL, wipeE, backE, store, ownD, afterCall, afterIo, resO, newOp, scalar, thenF, opSem, compEnd, bind1, seqOf, cmpI, kindD, mtOk, O.isSl, O.anySl, parStore, itSem, it1, it2, anyOf, cap, at0, at1, at2, at3, at4, at5, at6, o_add, o_sub, o_mulr, o_lt, o_le, o_gt, o_ge, o_len_t, o_len_l, o_len_r, o_abs, o_int, o_intb, o_min, o_isn, o_isnn, o_neg, i_int_0, i_int_1, i_int_3, i_int_4, i_int_34, i_int_12, i_int_2, i_bl_0, i_bl_1, i_bl_3, i_bl_4, i_bl_34, i_bl_12, i_bl_2, i_tup_0, i_tup_1, i_tup_3, i_tup_4, i_tup_34, i_tup_12, i_tup_2, i_lst_0, i_lst_1, i_lst_3, i_lst_4, i_lst_34, i_lst_12, i_lst_2, i_non_0, i_non_1, i_non_3, i_non_4, i_non_34, i_non_12, i_non_2, o_eqi, o_nei, eq0, ne0, h0, i1, d1, d2, c, hcap]
    · refine ⟨t1, 0, .fz (.int 0), .fz (.int 0), ?_, T1.mono (by omega), by omega, m0⟩
      by_cases k3 : kind = 3 <;> by_cases k1 : kind = 1 <;> simp [q__law_row_1b, evS, evE, startE, endS, endFl, endIo, R.one, R.all, R.tst, R.bind, ifI, ifL, ifS, O.view, O.still, Sl.d, Sl.own, freezeO, Env.freeze, freezeL, wipeE, backE, store, ownD, afterCall, afterIo, resO, newOp, scalar, thenF, opSem, compEnd, bind1, seqOf, cmpI, kindD, mtOk, O.isSl, O.anySl, parStore, itSem, it1, it2, anyOf, cap, at0, at1, at2, at3, at4, at5, at6, o_add, o_sub, o_mulr, o_lt, o_le, o_gt, o_ge, o_len_t, o_len_l, o_len_r, o_abs, o_int, o_intb, o_min, o_isn, o_isnn, o_neg, i_int_0, i_int_1, i_int_3, i_int_4, i_int_34, i_int_12, i_int_2, i_bl_0, i_bl_1, i_bl_3, i_bl_4, i_bl_34, i_bl_12, i_bl_2, i_tup_0, i_tup_1, i_tup_3, i_tup_4, i_tup_34, i_tup_12, i_tup_2, i_lst_0, i_lst_1, i_lst_3, i_lst_4, i_lst_34, i_lst_12, i_lst_2, i_non_0, i_non_1, i_non_3, i_non_4, i_non_34, i_non_12, i_non_2, o_eqi, o_nei, eq0, ne0, h0, i1, d1, k1, k2, k3, hcap]
  · rw [if_neg h0] at hm
    rw [← hm] at d1 p2 m0
    rw [← hm]
    obtain ⟨w, hw⟩ : ∃ w, row.getLast? = some w := ⟨row.getLast h0, List.getLast?_eq_some_getLast h0⟩
    have lw := last_ix row hw
    have w1 := last_le hr.asc hw
    have w0 := hr.pos w (List.mem_of_getLast? hw)
    rw [← hm] at w1
    by_cases k1 : kind = 1
    · obtain ⟨r2, t2, d2, T2, q1, q2⟩ := ev_take n (N + 1) t1 T1 (by omega) 2 (by omega) (by omega)
      subst k1
      by_cases c : r2 = 0
      · refine ⟨t2, w, .fz (.int (1 + (rs row : Int))), .fz (.int w), ?_, T2.mono (by omega), w0, w1⟩
        simp [q__law_row_1b, evS, evE, startE, endS, endFl, endIo, R.one, R.all, R.tst, R.bind, ifI, ifL, ifS, O.view, O.still, Sl.d, Sl.own, freezeO, Env.freeze, freezeL, wipeE, backE, store, ownD, afterCall, afterIo, resO, newOp, scalar, thenF, opSem, compEnd, bind1, seqOf, cmpI, kindD, mtOk, O.isSl, O.anySl, parStore, itSem, it1, it2, anyOf, cap, at0, at1, at2, at3, at4, at5, at6, o_add, o_sub, o_mulr, o_lt, o_le, o_gt, o_ge, o_len_t, o_len_l, o_len_r, o_abs, o_int, o_intb, o_min, o_isn, o_isnn, o_neg, i_int_0, i_int_1, i_int_3, i_int_4, i_int_34, i_int_12, i_int_2, i_bl_0, i_bl_1, i_bl_3, i_bl_4, i_bl_34, i_bl_12, i_bl_2, i_tup_0, i_tup_1, i_tup_3, i_tup_4, i_tup_34, i_tup_12, i_tup_2, i_lst_0, i_lst_1, i_lst_3, i_lst_4, i_lst_34, i_lst_12, i_lst_2, i_non_0, i_non_1, i_non_3, i_non_4, i_non_34, i_non_12, i_non_2, o_eqi, o_nei, eq1, ne1, h0, i1, i2, er, d1, d2, c, lw, hcap]
      · refine ⟨t2, r1, .fz (.int (1 + (rs row : Int))), .fz (.int r1), ?_, T2.mono (by omega), p1, by omega⟩
        simp [q__law_row_1b, evS, evE, startE, endS, endFl, endIo, R.one, R.all, R.tst, R.bind, ifI, ifL, ifS, O.view, O.still, Sl.d, Sl.own, freezeO, Env.freeze, freezeL, wipeE, backE, store, ownD, afterCall, afterIo, resO, newOp, scalar, thenF, opSem, compEnd, bind1, seqOf, cmpI, kindD, mtOk, O.isSl, O.anySl, parStore, itSem, it1, it2, anyOf, cap, at0, at1, at2, at3, at4, at5, at6, o_add, o_sub, o_mulr, o_lt, o_le, o_gt, o_ge, o_len_t, o_len_l, o_len_r, o_abs, o_int, o_intb, o_min, o_isn, o_isnn, o_neg, i_int_0, i_int_1, i_int_3, i_int_4, i_int_34, i_int_12, i_int_2, i_bl_0, i_bl_1, i_bl_3, i_bl_4, i_bl_34, i_bl_12, i_bl_2, i_tup_0, i_tup_1, i_tup_3, i_tup_4, i_tup_34, i_tup_12, i_tup_2, i_lst_0, i_lst_1, i_lst_3, i_lst_4, i_lst_34, i_lst_12, i_lst_2, i_non_0, i_non_1, i_non_3, i_non_4, i_non_34, i_non_12, i_non_2, o_eqi, o_nei, eq1, ne1, h0, i1, i2, er, d1, d2, c, lw, hcap]
    · by_cases k2 : kind = 2
      · obtain ⟨r2, t2, d2, T2, q1, q2⟩ := ev_take n (N + 1) t1 T1 (by omega) 3 (by omega) (by omega)
        subst k2
        by_cases c : 0 < r2
        · refine ⟨t2, 1 + (rs row : Int), .fz (.int (1 + (rs row : Int))), .fz (.int (1 + (rs row : Int))), ?_, T2.mono (by omega), m0, by omega⟩
          simp [q__law_row_1b, evS, evE, startE, endS, endFl, endIo, R.one, R.all, R.tst, R.bind, ifI, ifL, ifS, O.view, O.still, Sl.d, Sl.own, freezeO, Env.freeze, freezeL, wipeE, backE, store, ownD, afterCall, afterIo, resO, newOp, scalar, thenF, opSem, compEnd, bind1, seqOf, cmpI, kindD, mtOk, O.isSl, O.anySl, parStore, itSem, it1, it2, anyOf, cap, at0, at1, at2, at3, at4, at5, at6, o_add, o_sub, o_mulr, o_lt, o_le, o_gt, o_ge, o_len_t, o_len_l, o_len_r, o_abs, o_int, o_intb, o_min, o_isn, o_isnn, o_neg, i_int_0, i_int_1, i_int_3, i_int_4, i_int_34, i_int_12, i_int_2, i_bl_0, i_bl_1, i_bl_3, i_bl_4, i_bl_34, i_bl_12, i_bl_2, i_tup_0, i_tup_1, i_tup_3, i_tup_4, i_tup_34, i_tup_12, i_tup_2, i_lst_0, i_lst_1, i_lst_3, i_lst_4, i_lst_34, i_lst_12, i_lst_2, i_non_0, i_non_1, i_non_3, i_non_4, i_non_34, i_non_12, i_non_2, o_eqi, o_nei, eq1, ne1, h0, i1, i2, er, d1, d2, c, lw, hcap]
        · refine ⟨t2, r1, .fz (.int (1 + (rs row : Int))), .fz (.int r1), ?_, T2.mono (by omega), p1, by omega⟩
          simp [q__law_row_1b, evS, evE, startE, endS, endFl, endIo, R.one, R.all, R.tst, R.bind, ifI, ifL, ifS, O.view, O.still, Sl.d, Sl.own, freezeO, Env.freeze, freezeL, wipeE, backE, store, ownD, afterCall, afterIo, resO, newOp, scalar, thenF, opSem, compEnd, bind1, seqOf, cmpI, kindD, mtOk, O.isSl, O.anySl, parStore, itSem, it1, it2, anyOf, cap, at0, at1, at2, at3, at4, at5, at6, o_add, o_sub, o_mulr, o_lt, o_le, o_gt, o_ge, o_len_t, o_len_l, o_len_r, o_abs, o_int, o_intb, o_min, o_isn, o_isnn, o_neg, i_int_0, i_int_1, i_int_3, i_int_4, i_int_34, i_int_12, i_int_2, i_bl_0, i_bl_1, i_bl_3, i_bl_4, i_bl_34, i_bl_12, i_bl_2, i_tup_0, i_tup_1, i_tup_3, i_tup_4, i_tup_34, i_tup_12, i_tup_2, i_lst_0, i_lst_1, i_lst_3, i_lst_4, i_lst_34, i_lst_12, i_lst_2, i_non_0, i_non_1, i_non_3, i_non_4, i_non_34, i_non_12, i_non_2, o_eqi, o_nei, eq1, ne1, h0, i1, i2, er, d1, d2, c, lw, hcap]
      · by_cases k3 : kind = 3
        · subst k3
          refine ⟨t1, if 1 < r1 then 1 else r1, .fz (.int (1 + (rs row : Int))), .fz (.int (if 1 < r1 then 1 else r1)), ?_, T1.mono (by omega), by split <;> omega, by split <;> omega⟩
          simp [q__law_row_1b, evS, evE, startE, endS, endFl, endIo, R.one, R.all, R.tst, R.bind, ifI, ifL, ifS, O.view, O.still, Sl.d, Sl.own, freezeO, Env.freeze, freezeL, wipeE, backE, store, ownD, afterCall, afterIo, resO, newOp, scalar, thenF, opSem, compEnd, bind1, seqOf, cmpI, kindD, mtOk, O.isSl, O.anySl, parStore, itSem, it1, it2, anyOf, cap, at0, at1, at2, at3, at4, at5, at6, o_add, o_sub, o_mulr, o_lt, o_le, o_gt, o_ge, o_len_t, o_len_l, o_len_r, o_abs, o_int, o_intb, o_min, o_isn, o_isnn, o_neg, i_int_0, i_int_1, i_int_3, i_int_4, i_int_34, i_int_12, i_int_2, i_bl_0, i_bl_1, i_bl_3, i_bl_4, i_bl_34, i_bl_12, i_bl_2, i_tup_0, i_tup_1, i_tup_3, i_tup_4, i_tup_34, i_tup_12, i_tup_2, i_lst_0, i_lst_1, i_lst_3, i_lst_4, i_lst_34, i_lst_12, i_lst_2, i_non_0, i_non_1, i_non_3, i_non_4, i_non_34, i_non_12, i_non_2, o_eqi, o_nei, eq1, ne1, h0, i1, i2, er, d1, lw, hcap]
        · refine ⟨t1, r1, .fz (.int (1 + (rs row : Int))), .fz (.int r1), ?_, T1.mono (by omega), p1, by omega⟩
          simp [q__law_row_1b, evS, evE, startE, endS, endFl, endIo, R.one, R.all, R.tst, R.bind, ifI, ifL, ifS, O.view, O.still, Sl.d, Sl.own, freezeO, Env.freeze, freezeL, wipeE, backE, store, ownD, afterCall, afterIo, resO, newOp, scalar, thenF, opSem, compEnd, bind1, seqOf, cmpI, kindD, mtOk, O.isSl, O.anySl, parStore, itSem, it1, it2, anyOf, cap, at0, at1, at2, at3, at4, at5, at6, o_add, o_sub, o_mulr, o_lt, o_le, o_gt, o_ge, o_len_t, o_len_l, o_len_r, o_abs, o_int, o_intb, o_min, o_isn, o_isnn, o_neg, i_int_0, i_int_1, i_int_3, i_int_4, i_int_34, i_int_12, i_int_2, i_bl_0, i_bl_1, i_bl_3, i_bl_4, i_bl_34, i_bl_12, i_bl_2, i_tup_0, i_tup_1, i_tup_3, i_tup_4, i_tup_34, i_tup_12, i_tup_2, i_lst_0, i_lst_1, i_lst_3, i_lst_4, i_lst_34, i_lst_12, i_lst_2, i_non_0, i_non_1, i_non_3, i_non_4, i_non_34, i_non_12, i_non_2, o_eqi, o_nei, eq1, ne1, h0, i1, i2, er, d1, k1, k2, k3, lw, hcap]
theorem ev_row (n N : Nat) (L : Nat) (t : List D) (ht : Tin N t) (hN : N ≤ 90000) (hL : L ≤ 60) :
    ∃ t' row, ev (n + 2) kn__law_row [.lst t, .int (L : Int)] = .ok (tI row) false t' ∧ Tin (N + 1 + 3 * L) t' ∧ Rw row L := by
  obtain ⟨kind, t1, d1, T1, p1, p2⟩ := ev_take n N t ht (by omega) 4 (by omega) (by omega)
  obtain ⟨env', h1, h2⟩ := for_run (t := .nm 4) (body := evS (C (n + 1)) q__law_row_1b) (items := (upto 0 L).map D.int) (fun k env => ∃ t row a b c, env = [.ow t, .fz (.int (L : Int)), .fz (.int kind), .ow (nI row), c, a, b] ∧ Tin (N + 1 + 3 * k) t ∧ Rw row k) (fun k d env hk i => by
    obtain ⟨t, row, a, b, c, rfl, ht, hr⟩ := i
    obtain ⟨hk, rfl⟩ := uptoI_get hk
    rw [Int.zero_add]
    obtain ⟨t', x, a', b', e, ht', x0, x1⟩ := row_turn n (N + 1 + 3 * k) k L kind t row a b ht (by omega) hr (by omega) p1 p2
    exact ⟨_, _, rfl, e, t', _, a', b', _, rfl, ht'.mono (by omega), hr.snoc x0 x1⟩) (env := [.ow t1, .fz (.int (L : Int)), .fz (.int kind), .ow [], .no, .no, .no]) ⟨t1, [], .no, .no, .no, rfl, T1, Rw.nil⟩
  obtain ⟨t', row, a, b, c, rfl, ht', hr⟩ := h2
  rw [List.length_map, upto_len] at ht' hr
  have e : evS (C (n + 1)) q__law_row_1 [.ow t1, .fz (.int (L : Int)), .fz (.int kind), .ow [], .no, .no, .no] = .ok .nx [.ow t', .fz (.int (L : Int)), .fz (.int kind), .ow (nI row), c, a, b] :=
    for_at (os := [.fz (.int (L : Int))]) (by simp [q__law_row_1s, evS, evE, startE, endS, endFl, endIo, R.one, R.all, R.tst, R.bind, ifI, ifL, ifS, O.view, O.still, Sl.d, Sl.own, freezeO, Env.freeze, freezeL, wipeE, backE, store, ownD, afterCall, afterIo, resO, newOp, scalar, thenF, opSem, compEnd, bind1, seqOf, cmpI, kindD, mtOk, O.isSl, O.anySl, parStore, itSem, it1, it2, anyOf, cap, at0, at1, at2, at3, at4, at5, at6, o_add, o_sub, o_mulr, o_lt, o_le, o_gt, o_ge, o_len_t, o_len_l, o_len_r, o_abs, o_int, o_intb, o_min, o_isn, o_isnn, o_neg, i_int_0, i_int_1, i_int_3, i_int_4, i_int_34, i_int_12, i_int_2, i_bl_0, i_bl_1, i_bl_3, i_bl_4, i_bl_34, i_bl_12, i_bl_2, i_tup_0, i_tup_1, i_tup_3, i_tup_4, i_tup_34, i_tup_12, i_tup_2, i_lst_0, i_lst_1, i_lst_3, i_lst_4, i_lst_34, i_lst_12, i_lst_2, i_non_0, i_non_1, i_non_3, i_non_4, i_non_34, i_non_12, i_non_2, o_eqi, o_nei]) (it_rg1 _ (by omega) (by omega)) h1
  refine ⟨t', row, ?_, ht', hr⟩
  rw [ev_step tb__law_row rfl]
  simp [ir__law_row, evS, evE, startE, endS, endFl, endIo, R.one, R.all, R.tst, R.bind, ifI, ifL, ifS, O.view, O.still, Sl.d, Sl.own, freezeO, Env.freeze, freezeL, wipeE, backE, store, ownD, afterCall, afterIo, resO, newOp, scalar, thenF, opSem, compEnd, bind1, seqOf, cmpI, kindD, mtOk, O.isSl, O.anySl, parStore, itSem, it1, it2, anyOf, cap, at0, at1, at2, at3, at4, at5, at6, o_add, o_sub, o_mulr, o_lt, o_le, o_gt, o_ge, o_len_t, o_len_l, o_len_r, o_abs, o_int, o_intb, o_min, o_isn, o_isnn, o_neg, i_int_0, i_int_1, i_int_3, i_int_4, i_int_34, i_int_12, i_int_2, i_bl_0, i_bl_1, i_bl_3, i_bl_4, i_bl_34, i_bl_12, i_bl_2, i_tup_0, i_tup_1, i_tup_3, i_tup_4, i_tup_34, i_tup_12, i_tup_2, i_lst_0, i_lst_1, i_lst_3, i_lst_4, i_lst_34, i_lst_12, i_lst_2, i_non_0, i_non_1, i_non_3, i_non_4, i_non_34, i_non_12, i_non_2, o_eqi, o_nei, io__law_take, d1, e, o_tup]
end Lw
end
section
set_option Elab.async false
set_option linter.all false
set_option maxRecDepth 100000
set_option maxHeartbeats 0
namespace Lw
open PySem Ev Mr
theorem o_in (x : Int) (xs : List Int) : op2 .inn (.int x) (tI xs) = some (.bl (xs.contains x)) := by
  show (if (isData depthLine (D.int x) && isDatas depthLine (nI xs)) = true then some (D.bl ((nI xs).any fun d => eqD d (.int x))) else none) = _
  rw [isDatas_nI]
  show some (D.bl ((nI xs).any fun d => eqD d (.int x))) = _
  congr 2
  rw [List.any_map, Bool.eq_iff_iff, List.any_eq_true, List.contains_iff_mem]
  constructor
  · rintro ⟨y, hy, e⟩
    have : y = x := by simpa [eqD] using e
    rw [← this]; exact hy
  · intro h
    exact ⟨x, h, by simp [eqD]⟩
theorem op_ixD (xs : List Int) (i : Nat) (h : i < xs.length) : op2 .ix (tI xs) (.int i) = some (.int (xs.getD i 0)) := by
  rw [op_ix xs i h, List.getD_eq_getElem?_getD, List.getElem?_eq_getElem h]
  rfl
theorem law_open_t (n : Nat) (ps : List Int) (i : Nat) (hi : i ≤ ps.length) : evE (C n) q__law_open_1t [.fz (tI ps), .fz (iN i)] = .ok [.fz (.bl (okB ps i))] [.fz (tI ps), .fz (iN i)] := by
  cases i with
  | zero => simp [q__law_open_1t, evS, evE, startE, endS, endFl, endIo, R.one, R.all, R.tst, R.bind, ifI, ifL, ifS, O.view, O.still, Sl.d, Sl.own, freezeO, Env.freeze, freezeL, wipeE, backE, store, ownD, afterCall, afterIo, resO, newOp, scalar, thenF, opSem, compEnd, bind1, seqOf, cmpI, kindD, mtOk, O.isSl, O.anySl, parStore, itSem, it1, it2, anyOf, cap, at0, at1, at2, at3, at4, at5, at6, o_add, o_sub, o_mulr, o_lt, o_le, o_gt, o_ge, o_len_t, o_len_l, o_len_r, o_abs, o_int, o_intb, o_min, o_isn, o_isnn, o_neg, i_int_0, i_int_1, i_int_3, i_int_4, i_int_34, i_int_12, i_int_2, i_bl_0, i_bl_1, i_bl_3, i_bl_4, i_bl_34, i_bl_12, i_bl_2, i_tup_0, i_tup_1, i_tup_3, i_tup_4, i_tup_34, i_tup_12, i_tup_2, i_lst_0, i_lst_1, i_lst_3, i_lst_4, i_lst_34, i_lst_12, i_lst_2, i_non_0, i_non_1, i_non_3, i_non_4, i_non_34, i_non_12, i_non_2, o_eqi, o_nei, okB]
  | succ j =>
    have c0 : ¬ ((j : Int) + 1 = 0) := by omega
    have c1 : (j : Int) + 1 - 1 = (j : Int) := by omega
    have e1 := op_ixD ps j (by omega)
    have e2 := cut_to ps j
    have e3 := o_in (ps.getD j 0 - 1) (ps.take j)
    have e4 := okB_spec (ps := ps) (k := j) (getD_lt (by omega))
    rw [e4]
    generalize ps.getD j 0 = v at *
    by_cases c2 : v = 1
    · simp [q__law_open_1t, evS, evE, startE, endS, endFl, endIo, R.one, R.all, R.tst, R.bind, ifI, ifL, ifS, O.view, O.still, Sl.d, Sl.own, freezeO, Env.freeze, freezeL, wipeE, backE, store, ownD, afterCall, afterIo, resO, newOp, scalar, thenF, opSem, compEnd, bind1, seqOf, cmpI, kindD, mtOk, O.isSl, O.anySl, parStore, itSem, it1, it2, anyOf, cap, at0, at1, at2, at3, at4, at5, at6, o_add, o_sub, o_mulr, o_lt, o_le, o_gt, o_ge, o_len_t, o_len_l, o_len_r, o_abs, o_int, o_intb, o_min, o_isn, o_isnn, o_neg, i_int_0, i_int_1, i_int_3, i_int_4, i_int_34, i_int_12, i_int_2, i_bl_0, i_bl_1, i_bl_3, i_bl_4, i_bl_34, i_bl_12, i_bl_2, i_tup_0, i_tup_1, i_tup_3, i_tup_4, i_tup_34, i_tup_12, i_tup_2, i_lst_0, i_lst_1, i_lst_3, i_lst_4, i_lst_34, i_lst_12, i_lst_2, i_non_0, i_non_1, i_non_3, i_non_4, i_non_34, i_non_12, i_non_2, o_eqi, o_nei, c0, c1, e1, c2]
    · simp [q__law_open_1t, evS, evE, startE, endS, endFl, endIo, R.one, R.all, R.tst, R.bind, ifI, ifL, ifS, O.view, O.still, Sl.d, Sl.own, freezeO, Env.freeze, freezeL, wipeE, backE, store, ownD, afterCall, afterIo, resO, newOp, scalar, thenF, opSem, compEnd, bind1, seqOf, cmpI, kindD, mtOk, O.isSl, O.anySl, parStore, itSem, it1, it2, anyOf, cap, at0, at1, at2, at3, at4, at5, at6, o_add, o_sub, o_mulr, o_lt, o_le, o_gt, o_ge, o_len_t, o_len_l, o_len_r, o_abs, o_int, o_intb, o_min, o_isn, o_isnn, o_neg, i_int_0, i_int_1, i_int_3, i_int_4, i_int_34, i_int_12, i_int_2, i_bl_0, i_bl_1, i_bl_3, i_bl_4, i_bl_34, i_bl_12, i_bl_2, i_tup_0, i_tup_1, i_tup_3, i_tup_4, i_tup_34, i_tup_12, i_tup_2, i_lst_0, i_lst_1, i_lst_3, i_lst_4, i_lst_34, i_lst_12, i_lst_2, i_non_0, i_non_1, i_non_3, i_non_4, i_non_34, i_non_12, i_non_2, o_eqi, o_nei, c0, c1, e1, c2, e2, e3]
theorem law_open_1 (n : Nat) (ps : List Int) (hc : ps.length ≤ 100) : evE (C n) q__law_open_1 [.fz (tI ps), .no] = .ok [.fr (.lst (nN (sts ps)))] [.fz (tI ps), .no] :=
  comp_t (own := [1]) (os := [.fz (.int ((ps.length : Int) + 1))]) (List.range (ps.length + 1)) iN (okB ps) iN (by simp [q__law_open_1s, evS, evE, startE, endS, endFl, endIo, R.one, R.all, R.tst, R.bind, ifI, ifL, ifS, O.view, O.still, Sl.d, Sl.own, freezeO, Env.freeze, freezeL, wipeE, backE, store, ownD, afterCall, afterIo, resO, newOp, scalar, thenF, opSem, compEnd, bind1, seqOf, cmpI, kindD, mtOk, O.isSl, O.anySl, parStore, itSem, it1, it2, anyOf, cap, at0, at1, at2, at3, at4, at5, at6, o_add, o_sub, o_mulr, o_lt, o_le, o_gt, o_ge, o_len_t, o_len_l, o_len_r, o_abs, o_int, o_intb, o_min, o_isn, o_isnn, o_neg, i_int_0, i_int_1, i_int_3, i_int_4, i_int_34, i_int_12, i_int_2, i_bl_0, i_bl_1, i_bl_3, i_bl_4, i_bl_34, i_bl_12, i_bl_2, i_tup_0, i_tup_1, i_tup_3, i_tup_4, i_tup_34, i_tup_12, i_tup_2, i_lst_0, i_lst_1, i_lst_3, i_lst_4, i_lst_34, i_lst_12, i_lst_2, i_non_0, i_non_1, i_non_3, i_non_4, i_non_34, i_non_12, i_non_2, o_eqi, o_nei]) (it_rg (ps.length + 1) (by omega)) rfl rfl rfl (fun i hi =>
    ⟨[.fz (tI ps), .fz (iN i)], rfl, law_open_t n ps i (by rw [List.mem_range] at hi; omega), fun _ => ⟨.fz (iN i), by simp [q__law_open_1e, evS, evE, startE, endS, endFl, endIo, R.one, R.all, R.tst, R.bind, ifI, ifL, ifS, O.view, O.still, Sl.d, Sl.own, freezeO, Env.freeze, freezeL, wipeE, backE, store, ownD, afterCall, afterIo, resO, newOp, scalar, thenF, opSem, compEnd, bind1, seqOf, cmpI, kindD, mtOk, O.isSl, O.anySl, parStore, itSem, it1, it2, anyOf, cap, at0, at1, at2, at3, at4, at5, at6, o_add, o_sub, o_mulr, o_lt, o_le, o_gt, o_ge, o_len_t, o_len_l, o_len_r, o_abs, o_int, o_intb, o_min, o_isn, o_isnn, o_neg, i_int_0, i_int_1, i_int_3, i_int_4, i_int_34, i_int_12, i_int_2, i_bl_0, i_bl_1, i_bl_3, i_bl_4, i_bl_34, i_bl_12, i_bl_2, i_tup_0, i_tup_1, i_tup_3, i_tup_4, i_tup_34, i_tup_12, i_tup_2, i_lst_0, i_lst_1, i_lst_3, i_lst_4, i_lst_34, i_lst_12, i_lst_2, i_non_0, i_non_1, i_non_3, i_non_4, i_non_34, i_non_12, i_non_2, o_eqi, o_nei], rfl, rfl⟩, rfl⟩) rfl (by rw [List.length_range]; exact le_cap (by omega))
theorem ev_law_open (n : Nat) (ps : List Int) (hc : ps.length ≤ 100) : ev (n + 1) kn__law_open [tI ps] = .ok (.lst (nN (sts ps))) true [] := by
  rw [ev_step tb__law_open rfl]
  show endS ir__law_open (evS (C n) (.ret q__law_open_1) [.fz (tI ps), .no]) = _
  rw [evS, law_open_1 n ps hc]
  rfl
end Lw
end
section
set_option Elab.async false
set_option linter.all false
set_option maxRecDepth 100000
set_option maxHeartbeats 1000000
namespace Lw
open PySem Ev Mr
abbrev encP : Nat × Nat → D := fun p => .tup [iN p.1, iN p.2]
theorem law_bars_t0 (n : Nat) (x : D) (a : Sl) (p w u v z : Int) (e1 : op2 .ix x (.int w) = some (.int u)) (e2 : op2 .ix x (.int p) = some (.int v)) (e3 : op2 .ix x (.int (p + 1)) = some (.int z)) : evE (C n) q__law_bars_2t [.fz x, a, .fz (.int p), .fz (.int w)] = .ok [.fz (.bl (u == v - 1 && decide (v < z)))] [.fz x, a, .fz (.int p), .fz (.int w)] := by
  by_cases h : u = v - 1
  · simp [q__law_bars_2t, evS, evE, startE, endS, endFl, endIo, R.one, R.all, R.tst, R.bind, ifI, ifL, ifS, O.view, O.still, Sl.d, Sl.own, freezeO, Env.freeze, freezeL, wipeE, backE, store, ownD, afterCall, afterIo, resO, newOp, scalar, thenF, opSem, compEnd, bind1, seqOf, cmpI, kindD, mtOk, O.isSl, O.anySl, parStore, itSem, it1, it2, anyOf, cap, at0, at1, at2, at3, at4, at5, at6, o_add, o_sub, o_mulr, o_lt, o_le, o_gt, o_ge, o_len_t, o_len_l, o_len_r, o_abs, o_int, o_intb, o_min, o_isn, o_isnn, o_neg, i_int_0, i_int_1, i_int_3, i_int_4, i_int_34, i_int_12, i_int_2, i_bl_0, i_bl_1, i_bl_3, i_bl_4, i_bl_34, i_bl_12, i_bl_2, i_tup_0, i_tup_1, i_tup_3, i_tup_4, i_tup_34, i_tup_12, i_tup_2, i_lst_0, i_lst_1, i_lst_3, i_lst_4, i_lst_34, i_lst_12, i_lst_2, i_non_0, i_non_1, i_non_3, i_non_4, i_non_34, i_non_12, i_non_2, o_eqi, o_nei, e1, e2, e3, h]
  · simp [q__law_bars_2t, evS, evE, startE, endS, endFl, endIo, R.one, R.all, R.tst, R.bind, ifI, ifL, ifS, O.view, O.still, Sl.d, Sl.own, freezeO, Env.freeze, freezeL, wipeE, backE, store, ownD, afterCall, afterIo, resO, newOp, scalar, thenF, opSem, compEnd, bind1, seqOf, cmpI, kindD, mtOk, O.isSl, O.anySl, parStore, itSem, it1, it2, anyOf, cap, at0, at1, at2, at3, at4, at5, at6, o_add, o_sub, o_mulr, o_lt, o_le, o_gt, o_ge, o_len_t, o_len_l, o_len_r, o_abs, o_int, o_intb, o_min, o_isn, o_isnn, o_neg, i_int_0, i_int_1, i_int_3, i_int_4, i_int_34, i_int_12, i_int_2, i_bl_0, i_bl_1, i_bl_3, i_bl_4, i_bl_34, i_bl_12, i_bl_2, i_tup_0, i_tup_1, i_tup_3, i_tup_4, i_tup_34, i_tup_12, i_tup_2, i_lst_0, i_lst_1, i_lst_3, i_lst_4, i_lst_34, i_lst_12, i_lst_2, i_non_0, i_non_1, i_non_3, i_non_4, i_non_34, i_non_12, i_non_2, o_eqi, o_nei, e1, e2, e3, h]
theorem law_bars_t (n : Nat) (ps : List Int) (a : Sl) (p k : Nat) (hk : p + 2 + k < ps.length) : evE (C n) q__law_bars_2t [.fz (tI ps), a, .fz (iN p), .fz (iN (p + 2 + k))] = .ok [.fz (.bl (ps.getD (p + 2 + k) 0 == ps.getD p 0 - 1 && decide (ps.getD p 0 < ps.getD (p + 1) 0)))] [.fz (tI ps), a, .fz (iN p), .fz (iN (p + 2 + k))] :=
  law_bars_t0 n (tI ps) a _ _ _ _ _ (op_ixD ps (p + 2 + k) hk) (op_ixD ps p (by omega)) (op_ixD ps (p + 1) (by omega))
theorem law_bars_2 (n : Nat) (ps : List Int) (b : List D) (p : Nat) (hp : p + 2 ≤ 100000) (hc : ps.length ≤ 100) : evE (C n) q__law_bars_2 [.fz (tI ps), .ow b, .fz (iN p), .no] = .ok [.fr (.lst ((barR ps p).map encP))] [.fz (tI ps), .ow b, .fz (iN p), .no] := by
  have := comp_t (C := C n) (t := .nm 3) (k := .rg2) (src := q__law_bars_2s) (tst := q__law_bars_2t) (elt := q__law_bars_2e) (own := [3]) (env := [.fz (tI ps), .ow b, .fz (iN p), .no]) (os := [.fz (.int ((p : Int) + 2)), .fz (iN ps.length)]) (List.range (ps.length - (p + 2))) (fun k => iN (p + 2 + k)) (fun k => ps.getD (p + 2 + k) 0 == ps.getD p 0 - 1 && decide (ps.getD p 0 < ps.getD (p + 1) 0)) (fun k => encP (p, p + 2 + k))
    (by simp [q__law_bars_2s, evS, evE, startE, endS, endFl, endIo, R.one, R.all, R.tst, R.bind, ifI, ifL, ifS, O.view, O.still, Sl.d, Sl.own, freezeO, Env.freeze, freezeL, wipeE, backE, store, ownD, afterCall, afterIo, resO, newOp, scalar, thenF, opSem, compEnd, bind1, seqOf, cmpI, kindD, mtOk, O.isSl, O.anySl, parStore, itSem, it1, it2, anyOf, cap, at0, at1, at2, at3, at4, at5, at6, o_add, o_sub, o_mulr, o_lt, o_le, o_gt, o_ge, o_len_t, o_len_l, o_len_r, o_abs, o_int, o_intb, o_min, o_isn, o_isnn, o_neg, i_int_0, i_int_1, i_int_3, i_int_4, i_int_34, i_int_12, i_int_2, i_bl_0, i_bl_1, i_bl_3, i_bl_4, i_bl_34, i_bl_12, i_bl_2, i_tup_0, i_tup_1, i_tup_3, i_tup_4, i_tup_34, i_tup_12, i_tup_2, i_lst_0, i_lst_1, i_lst_3, i_lst_4, i_lst_34, i_lst_12, i_lst_2, i_non_0, i_non_1, i_non_3, i_non_4, i_non_34, i_non_12, i_non_2, o_eqi, o_nei]) (it_rg2 _ _ (p + 2) _ rfl (by omega) hp (by omega) (by omega)) rfl rfl rfl (fun i hi => ?_) rfl (by rw [List.length_range]; exact le_cap (by omega))
  · rw [q__law_bars_2, this, barR, List.map_map]
    rfl
  · rw [List.mem_range] at hi
    exact ⟨[.fz (tI ps), .ow b, .fz (iN p), .fz (iN (p + 2 + i))], rfl, law_bars_t n ps (.ow b) p i (by omega), fun _ => ⟨.fz (encP (p, p + 2 + i)), by simp [q__law_bars_2e, evS, evE, startE, endS, endFl, endIo, R.one, R.all, R.tst, R.bind, ifI, ifL, ifS, O.view, O.still, Sl.d, Sl.own, freezeO, Env.freeze, freezeL, wipeE, backE, store, ownD, afterCall, afterIo, resO, newOp, scalar, thenF, opSem, compEnd, bind1, seqOf, cmpI, kindD, mtOk, O.isSl, O.anySl, parStore, itSem, it1, it2, anyOf, cap, at0, at1, at2, at3, at4, at5, at6, o_add, o_sub, o_mulr, o_lt, o_le, o_gt, o_ge, o_len_t, o_len_l, o_len_r, o_abs, o_int, o_intb, o_min, o_isn, o_isnn, o_neg, i_int_0, i_int_1, i_int_3, i_int_4, i_int_34, i_int_12, i_int_2, i_bl_0, i_bl_1, i_bl_3, i_bl_4, i_bl_34, i_bl_12, i_bl_2, i_tup_0, i_tup_1, i_tup_3, i_tup_4, i_tup_34, i_tup_12, i_tup_2, i_lst_0, i_lst_1, i_lst_3, i_lst_4, i_lst_34, i_lst_12, i_lst_2, i_non_0, i_non_1, i_non_3, i_non_4, i_non_34, i_non_12, i_non_2, o_eqi, o_nei], rfl, rfl⟩, rfl⟩
theorem ev_law_bars (n : Nat) (ps : List Int) (hc : ps.length ≤ 100) : ev (n + 1) kn__law_bars [tI ps] = .ok (.lst ((barL ps).map encP)) true [] := by
  rw [ev_step tb__law_bars rfl]
  obtain ⟨env', h1, a, rfl, h2⟩ := for_t (t := .nm 2) (body := evS (C n) q__law_bars_1b) iN (fun pre env => ∃ a, env = [.fz (tI ps), .ow ((pre.flatMap (barR ps)).map encP), a, .no] ∧ (pre.flatMap (barR ps)).length ≤ pre.length * 100) (List.range (ps.length - 1)) (fun pre x post env hx i => by
    obtain ⟨a, rfl, i⟩ := i
    have hl := barR_len ps x
    have h100 : pre.length < 100 := by
      have := congrArg List.length hx
      rw [List.length_range, List.length_append, List.length_cons] at this
      omega
    have hx2 : x < ps.length - 1 := by
      have : x ∈ List.range (ps.length - 1) := by rw [hx]; simp
      exact List.mem_range.mp this
    have e := law_bars_2 n ps ((pre.flatMap (barR ps)).map encP) x (by omega) hc
    have hcap : (pre.flatMap (barR ps)).length + (barR ps x).length ≤ 16777216 := by omega
    have e2 : (pre ++ [x]).flatMap (barR ps) = pre.flatMap (barR ps) ++ barR ps x := by simp
    generalize pre.flatMap (barR ps) = u at *
    generalize barR ps x = w at *
    refine ⟨[.fz (tI ps), .ow (u.map encP), .fz (iN x), .no], [.fz (tI ps), .ow ((u ++ w).map encP), .fz (iN x), .no], rfl, ?_, .fz (iN x), by rw [e2], ?_⟩
    · simp [q__law_bars_1b, evS, evE, startE, endS, endFl, endIo, R.one, R.all, R.tst, R.bind, ifI, ifL, ifS, O.view, O.still, Sl.d, Sl.own, freezeO, Env.freeze, freezeL, wipeE, backE, store, ownD, afterCall, afterIo, resO, newOp, scalar, thenF, opSem, compEnd, bind1, seqOf, cmpI, kindD, mtOk, O.isSl, O.anySl, parStore, itSem, it1, it2, anyOf, cap, at0, at1, at2, at3, at4, at5, at6, o_add, o_sub, o_mulr, o_lt, o_le, o_gt, o_ge, o_len_t, o_len_l, o_len_r, o_abs, o_int, o_intb, o_min, o_isn, o_isnn, o_neg, i_int_0, i_int_1, i_int_3, i_int_4, i_int_34, i_int_12, i_int_2, i_bl_0, i_bl_1, i_bl_3, i_bl_4, i_bl_34, i_bl_12, i_bl_2, i_tup_0, i_tup_1, i_tup_3, i_tup_4, i_tup_34, i_tup_12, i_tup_2, i_lst_0, i_lst_1, i_lst_3, i_lst_4, i_lst_34, i_lst_12, i_lst_2, i_non_0, i_non_1, i_non_3, i_non_4, i_non_34, i_non_12, i_non_2, o_eqi, o_nei, e, hcap]
    · rw [e2, List.length_append, List.length_append, List.length_singleton]
      omega) (env := [.fz (tI ps), .ow [], .no, .no]) ⟨.no, rfl, Nat.le_refl _⟩
  have e : evS (C n) q__law_bars_1 [.fz (tI ps), .ow [], .no, .no] = .ok .nx [.fz (tI ps), .ow ((barL ps).map encP), a, .no] :=
    for_at (os := [.fz (.int ((ps.length : Int) - 1))]) (by simp [q__law_bars_1s, evS, evE, startE, endS, endFl, endIo, R.one, R.all, R.tst, R.bind, ifI, ifL, ifS, O.view, O.still, Sl.d, Sl.own, freezeO, Env.freeze, freezeL, wipeE, backE, store, ownD, afterCall, afterIo, resO, newOp, scalar, thenF, opSem, compEnd, bind1, seqOf, cmpI, kindD, mtOk, O.isSl, O.anySl, parStore, itSem, it1, it2, anyOf, cap, at0, at1, at2, at3, at4, at5, at6, o_add, o_sub, o_mulr, o_lt, o_le, o_gt, o_ge, o_len_t, o_len_l, o_len_r, o_abs, o_int, o_intb, o_min, o_isn, o_isnn, o_neg, i_int_0, i_int_1, i_int_3, i_int_4, i_int_34, i_int_12, i_int_2, i_bl_0, i_bl_1, i_bl_3, i_bl_4, i_bl_34, i_bl_12, i_bl_2, i_tup_0, i_tup_1, i_tup_3, i_tup_4, i_tup_34, i_tup_12, i_tup_2, i_lst_0, i_lst_1, i_lst_3, i_lst_4, i_lst_34, i_lst_12, i_lst_2, i_non_0, i_non_1, i_non_3, i_non_4, i_non_34, i_non_12, i_non_2, o_eqi, o_nei]) (it_rgI _ (ps.length - 1) (by omega) (by omega) (by omega)) h1
  generalize (barL ps).map encP = r at *
  simp [ir__law_bars, evS, evE, startE, endS, endFl, endIo, R.one, R.all, R.tst, R.bind, ifI, ifL, ifS, O.view, O.still, Sl.d, Sl.own, freezeO, Env.freeze, freezeL, wipeE, backE, store, ownD, afterCall, afterIo, resO, newOp, scalar, thenF, opSem, compEnd, bind1, seqOf, cmpI, kindD, mtOk, O.isSl, O.anySl, parStore, itSem, it1, it2, anyOf, cap, at0, at1, at2, at3, at4, at5, at6, o_add, o_sub, o_mulr, o_lt, o_le, o_gt, o_ge, o_len_t, o_len_l, o_len_r, o_abs, o_int, o_intb, o_min, o_isn, o_isnn, o_neg, i_int_0, i_int_1, i_int_3, i_int_4, i_int_34, i_int_12, i_int_2, i_bl_0, i_bl_1, i_bl_3, i_bl_4, i_bl_34, i_bl_12, i_bl_2, i_tup_0, i_tup_1, i_tup_3, i_tup_4, i_tup_34, i_tup_12, i_tup_2, i_lst_0, i_lst_1, i_lst_3, i_lst_4, i_lst_34, i_lst_12, i_lst_2, i_non_0, i_non_1, i_non_3, i_non_4, i_non_34, i_non_12, i_non_2, o_eqi, o_nei, e]
theorem isData_encP (n : Nat) (l : List (Nat × Nat)) : isDatas (n + 1) (l.map encP) = true := by
  induction l with
  | nil => rfl
  | cons x r ih => simp [isDatas, isData, ih]
theorem eq_nil_encP (l : List (Nat × Nat)) : op2 .eq (.lst (l.map encP)) (.lst []) = some (.bl (l == [])) := by
  rw [o_eq (by show isDatas 19 (l.map encP) = true; exact isData_encP _ _) rfl]
  cases l <;> rfl
theorem law_gaps_t (n : Nat) (ps : List Int) (h : Np ps) (i : Nat) (hi : i ≤ ps.length) (hc : ps.length ≤ 90) : evE (C (n + 1)) q__law_gaps_1t [.fz (tI ps), .fz (iN i)] = .ok [.fz (.bl (okB ps i))] [.fz (tI ps), .fz (iN i)] := by
  have e1 := cut_to ps i
  have e2 := cut_from ps i
  have e3 : op2 .add (tI (ps.take i)) (.tup [.int ((ps.length : Int) + 1)]) = some (tI (ps.take i ++ [(ps.length : Int) + 1])) := cat_len (ps.take i) [(ps.length : Int) + 1] (by rw [List.length_singleton, List.length_take]; omega)
  have e4 := cat_len (ps.take i ++ [(ps.length : Int) + 1]) (ps.drop i) (by rw [List.length_append, List.length_singleton, List.length_take, List.length_drop]; omega)
  rw [ins_cat] at e4
  have e5 := ev_law_bars n (ins ps i) (by rw [ins_len]; omega)
  have e6 := eq_nil_encP (barL (ins ps i))
  rw [bar_ins h hi] at e6
  generalize (barL (ins ps i)).map encP = r at *
  generalize okB ps i = b at *
  simp [q__law_gaps_1t, evS, evE, startE, endS, endFl, endIo, R.one, R.all, R.tst, R.bind, ifI, ifL, ifS, O.view, O.still, Sl.d, Sl.own, freezeO, Env.freeze, freezeL, wipeE, backE, store, ownD, afterCall, afterIo, resO, newOp, scalar, thenF, opSem, compEnd, bind1, seqOf, cmpI, kindD, mtOk, O.isSl, O.anySl, parStore, itSem, it1, it2, anyOf, cap, at0, at1, at2, at3, at4, at5, at6, o_add, o_sub, o_mulr, o_lt, o_le, o_gt, o_ge, o_len_t, o_len_l, o_len_r, o_abs, o_int, o_intb, o_min, o_isn, o_isnn, o_neg, i_int_0, i_int_1, i_int_3, i_int_4, i_int_34, i_int_12, i_int_2, i_bl_0, i_bl_1, i_bl_3, i_bl_4, i_bl_34, i_bl_12, i_bl_2, i_tup_0, i_tup_1, i_tup_3, i_tup_4, i_tup_34, i_tup_12, i_tup_2, i_lst_0, i_lst_1, i_lst_3, i_lst_4, i_lst_34, i_lst_12, i_lst_2, i_non_0, i_non_1, i_non_3, i_non_4, i_non_34, i_non_12, i_non_2, o_eqi, o_nei, e1, e2, e3]
  rw [e4]
  simp [evS, evE, startE, endS, endFl, endIo, R.one, R.all, R.tst, R.bind, ifI, ifL, ifS, O.view, O.still, Sl.d, Sl.own, freezeO, Env.freeze, freezeL, wipeE, backE, store, ownD, afterCall, afterIo, resO, newOp, scalar, thenF, opSem, compEnd, bind1, seqOf, cmpI, kindD, mtOk, O.isSl, O.anySl, parStore, itSem, it1, it2, anyOf, cap, at0, at1, at2, at3, at4, at5, at6, o_add, o_sub, o_mulr, o_lt, o_le, o_gt, o_ge, o_len_t, o_len_l, o_len_r, o_abs, o_int, o_intb, o_min, o_isn, o_isnn, o_neg, i_int_0, i_int_1, i_int_3, i_int_4, i_int_34, i_int_12, i_int_2, i_bl_0, i_bl_1, i_bl_3, i_bl_4, i_bl_34, i_bl_12, i_bl_2, i_tup_0, i_tup_1, i_tup_3, i_tup_4, i_tup_34, i_tup_12, i_tup_2, i_lst_0, i_lst_1, i_lst_3, i_lst_4, i_lst_34, i_lst_12, i_lst_2, i_non_0, i_non_1, i_non_3, i_non_4, i_non_34, i_non_12, i_non_2, o_eqi, o_nei, io__law_bars, e5, e6]
theorem ev_law_gaps (n : Nat) (ps : List Int) (h : Np ps) (hc : ps.length ≤ 90) : ev (n + 2) kn__law_gaps [tI ps] = .ok (.lst (nN (sts ps))) true [] := by
  rw [ev_step tb__law_gaps rfl]
  have e : evE (C (n + 1)) q__law_gaps_1 [.fz (tI ps), .no] = .ok [.fr (.lst (nN (sts ps)))] [.fz (tI ps), .no] :=
    comp_t (own := [1]) (os := [.fz (.int ((ps.length : Int) + 1))]) (List.range (ps.length + 1)) iN (okB ps) iN (by simp [q__law_gaps_1s, evS, evE, startE, endS, endFl, endIo, R.one, R.all, R.tst, R.bind, ifI, ifL, ifS, O.view, O.still, Sl.d, Sl.own, freezeO, Env.freeze, freezeL, wipeE, backE, store, ownD, afterCall, afterIo, resO, newOp, scalar, thenF, opSem, compEnd, bind1, seqOf, cmpI, kindD, mtOk, O.isSl, O.anySl, parStore, itSem, it1, it2, anyOf, cap, at0, at1, at2, at3, at4, at5, at6, o_add, o_sub, o_mulr, o_lt, o_le, o_gt, o_ge, o_len_t, o_len_l, o_len_r, o_abs, o_int, o_intb, o_min, o_isn, o_isnn, o_neg, i_int_0, i_int_1, i_int_3, i_int_4, i_int_34, i_int_12, i_int_2, i_bl_0, i_bl_1, i_bl_3, i_bl_4, i_bl_34, i_bl_12, i_bl_2, i_tup_0, i_tup_1, i_tup_3, i_tup_4, i_tup_34, i_tup_12, i_tup_2, i_lst_0, i_lst_1, i_lst_3, i_lst_4, i_lst_34, i_lst_12, i_lst_2, i_non_0, i_non_1, i_non_3, i_non_4, i_non_34, i_non_12, i_non_2, o_eqi, o_nei]) (it_rg (ps.length + 1) (by omega)) rfl rfl rfl (fun i hi =>
      ⟨[.fz (tI ps), .fz (iN i)], rfl, law_gaps_t n ps h i (by rw [List.mem_range] at hi; omega) hc, fun _ => ⟨.fz (iN i), by simp [q__law_gaps_1e, evS, evE, startE, endS, endFl, endIo, R.one, R.all, R.tst, R.bind, ifI, ifL, ifS, O.view, O.still, Sl.d, Sl.own, freezeO, Env.freeze, freezeL, wipeE, backE, store, ownD, afterCall, afterIo, resO, newOp, scalar, thenF, opSem, compEnd, bind1, seqOf, cmpI, kindD, mtOk, O.isSl, O.anySl, parStore, itSem, it1, it2, anyOf, cap, at0, at1, at2, at3, at4, at5, at6, o_add, o_sub, o_mulr, o_lt, o_le, o_gt, o_ge, o_len_t, o_len_l, o_len_r, o_abs, o_int, o_intb, o_min, o_isn, o_isnn, o_neg, i_int_0, i_int_1, i_int_3, i_int_4, i_int_34, i_int_12, i_int_2, i_bl_0, i_bl_1, i_bl_3, i_bl_4, i_bl_34, i_bl_12, i_bl_2, i_tup_0, i_tup_1, i_tup_3, i_tup_4, i_tup_34, i_tup_12, i_tup_2, i_lst_0, i_lst_1, i_lst_3, i_lst_4, i_lst_34, i_lst_12, i_lst_2, i_non_0, i_non_1, i_non_3, i_non_4, i_non_34, i_non_12, i_non_2, o_eqi, o_nei], rfl, rfl⟩, rfl⟩) rfl (by rw [List.length_range]; exact le_cap (by omega))
  show endS ir__law_gaps (evS (C (n + 1)) (.ret q__law_gaps_1) [.fz (tI ps), .no]) = _
  rw [evS, e]
  rfl
theorem ev_law_numbers (n : Nat) (r : List Int) (hc : r.length ≤ 61) (ha : Asc r) (hp : Pos r) : ev (n + 3) kn__law_numbers [tI r] = .ok (tI (bld r)) false [] := by
  rw [ev_step tb__law_numbers rfl]
  have e : ∃ a b, evS (C (n + 2)) q__law_numbers_1 [.fz (tI r), .fz (.tup []), .no, .no] = .ok .nx [.fz (tI r), .fz (tI (bld r)), a, b] := by
    obtain ⟨env', h1, h2⟩ := for_run (t := .nm 2) (body := evS (C (n + 2)) q__law_numbers_1b) (items := nI r) (fun k env => ∃ a b, env = [.fz (tI r), .fz (tI (bld (r.take k))), a, b]) (fun k d env hk i => by
      obtain ⟨b, c, rfl⟩ := i
      obtain ⟨x, q, rfl⟩ := nI_get hk
      obtain ⟨g, g1, g2, g3, g4, g5⟩ := step_at ha hp q
      have iv := inv_take ha hp k
      have hl : (bld (r.take k)).length ≤ 70 := by rw [iv.len, List.length_take]; omega
      have hx := hp x (List.mem_of_getElem? q)
      have e1 := nN_get g4
      rw [Int.toNat_of_nonneg hx] at e1
      generalize bld (r.take k) = ps at *
      have f0 := ev_law_gaps n ps iv.np (by omega)
      have f1 := cut_to ps g
      have f2 := cut_from ps g
      have f3 : op2 .add (tI (ps.take g)) (.tup [.int ((ps.length : Int) + 1)]) = some (tI (ps.take g ++ [(ps.length : Int) + 1])) := cat_len (ps.take g) [(ps.length : Int) + 1] (by rw [List.length_singleton, List.length_take]; omega)
      have f4 := cat_len (ps.take g ++ [(ps.length : Int) + 1]) (ps.drop g) (by rw [List.length_append, List.length_singleton, List.length_take, List.length_drop]; omega)
      rw [ins_cat] at f4
      refine ⟨_, [.fz (tI r), .fz (tI (bld (r.take (k + 1)))), .fz (.int x), .fz (.int (g : Int))], rfl, ?_, _, _, rfl⟩
      rw [g5]
      simp [q__law_numbers_1b, evS, evE, startE, endS, endFl, endIo, R.one, R.all, R.tst, R.bind, ifI, ifL, ifS, O.view, O.still, Sl.d, Sl.own, freezeO, Env.freeze, freezeL, wipeE, backE, store, ownD, afterCall, afterIo, resO, newOp, scalar, thenF, opSem, compEnd, bind1, seqOf, cmpI, kindD, mtOk, O.isSl, O.anySl, parStore, itSem, it1, it2, anyOf, cap, at0, at1, at2, at3, at4, at5, at6, o_add, o_sub, o_mulr, o_lt, o_le, o_gt, o_ge, o_len_t, o_len_l, o_len_r, o_abs, o_int, o_intb, o_min, o_isn, o_isnn, o_neg, i_int_0, i_int_1, i_int_3, i_int_4, i_int_34, i_int_12, i_int_2, i_bl_0, i_bl_1, i_bl_3, i_bl_4, i_bl_34, i_bl_12, i_bl_2, i_tup_0, i_tup_1, i_tup_3, i_tup_4, i_tup_34, i_tup_12, i_tup_2, i_lst_0, i_lst_1, i_lst_3, i_lst_4, i_lst_34, i_lst_12, i_lst_2, i_non_0, i_non_1, i_non_3, i_non_4, i_non_34, i_non_12, i_non_2, o_eqi, o_nei, io__law_gaps, f0, f1, f2, f3, e1]
      simp [f4]) (env := [.fz (tI r), .fz (.tup []), .no, .no]) ⟨.no, .no, rfl⟩
    obtain ⟨b, c, rfl⟩ := h2
    rw [nI_len, List.take_length] at h1
    exact ⟨b, c, for_at (os := [.fz (tI r)]) (by simp [q__law_numbers_1s, evS, evE, startE, endS, endFl, endIo, R.one, R.all, R.tst, R.bind, ifI, ifL, ifS, O.view, O.still, Sl.d, Sl.own, freezeO, Env.freeze, freezeL, wipeE, backE, store, ownD, afterCall, afterIo, resO, newOp, scalar, thenF, opSem, compEnd, bind1, seqOf, cmpI, kindD, mtOk, O.isSl, O.anySl, parStore, itSem, it1, it2, anyOf, cap, at0, at1, at2, at3, at4, at5, at6, o_add, o_sub, o_mulr, o_lt, o_le, o_gt, o_ge, o_len_t, o_len_l, o_len_r, o_abs, o_int, o_intb, o_min, o_isn, o_isnn, o_neg, i_int_0, i_int_1, i_int_3, i_int_4, i_int_34, i_int_12, i_int_2, i_bl_0, i_bl_1, i_bl_3, i_bl_4, i_bl_34, i_bl_12, i_bl_2, i_tup_0, i_tup_1, i_tup_3, i_tup_4, i_tup_34, i_tup_12, i_tup_2, i_lst_0, i_lst_1, i_lst_3, i_lst_4, i_lst_34, i_lst_12, i_lst_2, i_non_0, i_non_1, i_non_3, i_non_4, i_non_34, i_non_12, i_non_2, o_eqi, o_nei]) rfl h1⟩
  obtain ⟨a, b, e⟩ := e
  simp [ir__law_numbers, evS, evE, startE, endS, endFl, endIo, R.one, R.all, R.tst, R.bind, ifI, ifL, ifS, O.view, O.still, Sl.d, Sl.own, freezeO, Env.freeze, freezeL, wipeE, backE, store, ownD, afterCall, afterIo, resO, newOp, scalar, thenF, opSem, compEnd, bind1, seqOf, cmpI, kindD, mtOk, O.isSl, O.anySl, parStore, itSem, it1, it2, anyOf, cap, at0, at1, at2, at3, at4, at5, at6, o_add, o_sub, o_mulr, o_lt, o_le, o_gt, o_ge, o_len_t, o_len_l, o_len_r, o_abs, o_int, o_intb, o_min, o_isn, o_isnn, o_neg, i_int_0, i_int_1, i_int_3, i_int_4, i_int_34, i_int_12, i_int_2, i_bl_0, i_bl_1, i_bl_3, i_bl_4, i_bl_34, i_bl_12, i_bl_2, i_tup_0, i_tup_1, i_tup_3, i_tup_4, i_tup_34, i_tup_12, i_tup_2, i_lst_0, i_lst_1, i_lst_3, i_lst_4, i_lst_34, i_lst_12, i_lst_2, i_non_0, i_non_1, i_non_3, i_non_4, i_non_34, i_non_12, i_non_2, o_eqi, o_nei, e]
end Lw
end
section
set_option Elab.async false
set_option linter.all false
set_option maxRecDepth 100000
set_option maxHeartbeats 1000000
namespace Lw
open PySem Ev Mr
mutual
def sd : Nat → D → Bool
  | _, .non => true
  | _, .bl _ => true
  | _, .int _ => true
  | _, .str _ => true
  | n + 1, .tup ds => Nat.ble ds.length cap && sds n ds
  | n + 1, .lst ds => Nat.ble ds.length cap && sds n ds
  | _, _ => false
def sds : Nat → List D → Bool
  | _, [] => true
  | n, d :: ds => sd n d && sds n ds
end
theorem sds_mem {m : Nat} : ∀ {ds : List D}, sds m ds = true → ∀ d ∈ ds, sd m d = true
  | [], _, d, h => by cases h
  | x :: xs, h, d, hd => by
    rw [sds, Bool.and_eq_true] at h
    rcases List.mem_cons.mp hd with rfl | hd
    · exact h.1
    · exact sds_mem h.2 d hd
theorem sds_of {m : Nat} : ∀ {ds : List D}, (∀ d ∈ ds, sd m d = true) → sds m ds = true
  | [], _ => by cases m <;> rfl
  | x :: xs, h => by
    rw [sds, h x List.mem_cons_self, sds_of fun d hd => h d (List.mem_cons_of_mem _ hd)]
    rfl
theorem zip_self : ∀ ds : List D, zipD ds ds = ds.map fun d => D.tup [d, d]
  | [] => rfl
  | d :: ds => by rw [zipD, zip_self ds]; rfl
theorem i_str_0 {x : Str} : op1 (.isi [0]) (.str x) = some (.bl false) := rfl
theorem i_str_1 {x : Str} : op1 (.isi [1]) (.str x) = some (.bl false) := rfl
theorem i_str_2 {x : Str} : op1 (.isi [2]) (.str x) = some (.bl true) := rfl
theorem i_str_12 {x : Str} : op1 (.isi [1, 2]) (.str x) = some (.bl true) := rfl
theorem i_str_34 {x : Str} : op1 (.isi [3, 4]) (.str x) = some (.bl false) := rfl
theorem o_eqb {a b : Bool} : op2 .eq (.bl a) (.bl b) = some (.bl (a == b)) := rfl
theorem o_neb {a b : Bool} : op2 .ne (.bl a) (.bl b) = some (.bl (!(a == b))) := rfl
theorem o_eqs {x : Str} : op2 .eq (.str x) (.str x) = some (.bl true) := by
  rw [o_eq rfl rfl]
  show some (D.bl (decide (x = x))) = _
  rw [decide_eq_true rfl]
theorem all_true (k : Nat) : op1 .all (.lst (List.replicate k (.bl true))) = some (.bl true) := by
  have := o_all (bs := List.replicate k true)
  rw [List.map_replicate] at this
  rw [this]
  congr 2
  rw [List.all_eq_true]
  intro b hb
  exact (List.mem_replicate.mp hb).2
theorem ev_same : ∀ (m : Nat) (d : D), sd m d = true → ∀ n, ev (n + m + 1) kn__law_same [d, d] = .ok (.bl true) false []
  | m, .non, h, n => by rw [ev_step tb__law_same rfl]; simp [ir__law_same, evS, evE, startE, endS, endFl, endIo, R.one, R.all, R.tst, R.bind, ifI, ifL, ifS, O.view, O.still, Sl.d, Sl.own, freezeO, Env.freeze, freezeL, wipeE, backE, store, ownD, afterCall, afterIo, resO, newOp, scalar, thenF, opSem, compEnd, bind1, seqOf, cmpI, kindD, mtOk, O.isSl, O.anySl, parStore, itSem, it1, it2, anyOf, cap, at0, at1, at2, at3, at4, at5, at6, o_add, o_sub, o_mulr, o_lt, o_le, o_gt, o_ge, o_len_t, o_len_l, o_len_r, o_abs, o_int, o_intb, o_min, o_isn, o_isnn, o_neg, i_int_0, i_int_1, i_int_3, i_int_4, i_int_34, i_int_12, i_int_2, i_bl_0, i_bl_1, i_bl_3, i_bl_4, i_bl_34, i_bl_12, i_bl_2, i_tup_0, i_tup_1, i_tup_3, i_tup_4, i_tup_34, i_tup_12, i_tup_2, i_lst_0, i_lst_1, i_lst_3, i_lst_4, i_lst_34, i_lst_12, i_lst_2, i_non_0, i_non_1, i_non_3, i_non_4, i_non_34, i_non_12, i_non_2, o_eqi, o_nei, isNonD]
  | m, .bl b, h, n => by rw [ev_step tb__law_same rfl]; simp [ir__law_same, evS, evE, startE, endS, endFl, endIo, R.one, R.all, R.tst, R.bind, ifI, ifL, ifS, O.view, O.still, Sl.d, Sl.own, freezeO, Env.freeze, freezeL, wipeE, backE, store, ownD, afterCall, afterIo, resO, newOp, scalar, thenF, opSem, compEnd, bind1, seqOf, cmpI, kindD, mtOk, O.isSl, O.anySl, parStore, itSem, it1, it2, anyOf, cap, at0, at1, at2, at3, at4, at5, at6, o_add, o_sub, o_mulr, o_lt, o_le, o_gt, o_ge, o_len_t, o_len_l, o_len_r, o_abs, o_int, o_intb, o_min, o_isn, o_isnn, o_neg, i_int_0, i_int_1, i_int_3, i_int_4, i_int_34, i_int_12, i_int_2, i_bl_0, i_bl_1, i_bl_3, i_bl_4, i_bl_34, i_bl_12, i_bl_2, i_tup_0, i_tup_1, i_tup_3, i_tup_4, i_tup_34, i_tup_12, i_tup_2, i_lst_0, i_lst_1, i_lst_3, i_lst_4, i_lst_34, i_lst_12, i_lst_2, i_non_0, i_non_1, i_non_3, i_non_4, i_non_34, i_non_12, i_non_2, o_eqi, o_nei, isNonD, o_eqb]
  | m, .int i, h, n => by rw [ev_step tb__law_same rfl]; simp [ir__law_same, evS, evE, startE, endS, endFl, endIo, R.one, R.all, R.tst, R.bind, ifI, ifL, ifS, O.view, O.still, Sl.d, Sl.own, freezeO, Env.freeze, freezeL, wipeE, backE, store, ownD, afterCall, afterIo, resO, newOp, scalar, thenF, opSem, compEnd, bind1, seqOf, cmpI, kindD, mtOk, O.isSl, O.anySl, parStore, itSem, it1, it2, anyOf, cap, at0, at1, at2, at3, at4, at5, at6, o_add, o_sub, o_mulr, o_lt, o_le, o_gt, o_ge, o_len_t, o_len_l, o_len_r, o_abs, o_int, o_intb, o_min, o_isn, o_isnn, o_neg, i_int_0, i_int_1, i_int_3, i_int_4, i_int_34, i_int_12, i_int_2, i_bl_0, i_bl_1, i_bl_3, i_bl_4, i_bl_34, i_bl_12, i_bl_2, i_tup_0, i_tup_1, i_tup_3, i_tup_4, i_tup_34, i_tup_12, i_tup_2, i_lst_0, i_lst_1, i_lst_3, i_lst_4, i_lst_34, i_lst_12, i_lst_2, i_non_0, i_non_1, i_non_3, i_non_4, i_non_34, i_non_12, i_non_2, o_eqi, o_nei, isNonD]
  | m, .str x, h, n => by rw [ev_step tb__law_same rfl]; simp [ir__law_same, evS, evE, startE, endS, endFl, endIo, R.one, R.all, R.tst, R.bind, ifI, ifL, ifS, O.view, O.still, Sl.d, Sl.own, freezeO, Env.freeze, freezeL, wipeE, backE, store, ownD, afterCall, afterIo, resO, newOp, scalar, thenF, opSem, compEnd, bind1, seqOf, cmpI, kindD, mtOk, O.isSl, O.anySl, parStore, itSem, it1, it2, anyOf, cap, at0, at1, at2, at3, at4, at5, at6, o_add, o_sub, o_mulr, o_lt, o_le, o_gt, o_ge, o_len_t, o_len_l, o_len_r, o_abs, o_int, o_intb, o_min, o_isn, o_isnn, o_neg, i_int_0, i_int_1, i_int_3, i_int_4, i_int_34, i_int_12, i_int_2, i_bl_0, i_bl_1, i_bl_3, i_bl_4, i_bl_34, i_bl_12, i_bl_2, i_tup_0, i_tup_1, i_tup_3, i_tup_4, i_tup_34, i_tup_12, i_tup_2, i_lst_0, i_lst_1, i_lst_3, i_lst_4, i_lst_34, i_lst_12, i_lst_2, i_non_0, i_non_1, i_non_3, i_non_4, i_non_34, i_non_12, i_non_2, o_eqi, o_nei, isNonD, i_str_0, i_str_1, i_str_2, i_str_12, i_str_34, o_eqb, o_eqs]
  | 0, .tup ds, h, n => by cases h
  | 0, .lst ds, h, n => by cases h
  | m + 1, .tup ds, h, n => by
    rw [sd, Bool.and_eq_true, Nat.ble_eq] at h
    rw [ev_step tb__law_same rfl]
    have e : evE (C (n + (m + 1))) q__law_same_1 [.fz (.tup ds), .fz (.tup ds), .no, .no] = .ok [.fr (.lst (ds.map fun _ => .bl true))] [.fz (.tup ds), .fz (.tup ds), .no, .no] :=
      comp_tm (own := [2, 3]) (os := [.fz (.tup ds), .fz (.tup ds)]) ds (fun d => D.tup [d, d]) (fun _ => .bl true) (by simp [q__law_same_1s, evS, evE, startE, endS, endFl, endIo, R.one, R.all, R.tst, R.bind, ifI, ifL, ifS, O.view, O.still, Sl.d, Sl.own, freezeO, Env.freeze, freezeL, wipeE, backE, store, ownD, afterCall, afterIo, resO, newOp, scalar, thenF, opSem, compEnd, bind1, seqOf, cmpI, kindD, mtOk, O.isSl, O.anySl, parStore, itSem, it1, it2, anyOf, cap, at0, at1, at2, at3, at4, at5, at6, o_add, o_sub, o_mulr, o_lt, o_le, o_gt, o_ge, o_len_t, o_len_l, o_len_r, o_abs, o_int, o_intb, o_min, o_isn, o_isnn, o_neg, i_int_0, i_int_1, i_int_3, i_int_4, i_int_34, i_int_12, i_int_2, i_bl_0, i_bl_1, i_bl_3, i_bl_4, i_bl_34, i_bl_12, i_bl_2, i_tup_0, i_tup_1, i_tup_3, i_tup_4, i_tup_34, i_tup_12, i_tup_2, i_lst_0, i_lst_1, i_lst_3, i_lst_4, i_lst_34, i_lst_12, i_lst_2, i_non_0, i_non_1, i_non_3, i_non_4, i_non_34, i_non_12, i_non_2, o_eqi, o_nei]) (by show some (zipD ds ds) = _; rw [zip_self]) rfl rfl rfl (fun d hd => by
        have ih := ev_same m d (sds_mem h.2 d hd) n
        exact ⟨[.fz (.tup ds), .fz (.tup ds), .fz d, .fz d], rfl, ⟨.fz (.bl true), by simp [q__law_same_1e, evS, evE, startE, endS, endFl, endIo, R.one, R.all, R.tst, R.bind, ifI, ifL, ifS, O.view, O.still, Sl.d, Sl.own, freezeO, Env.freeze, freezeL, wipeE, backE, store, ownD, afterCall, afterIo, resO, newOp, scalar, thenF, opSem, compEnd, bind1, seqOf, cmpI, kindD, mtOk, O.isSl, O.anySl, parStore, itSem, it1, it2, anyOf, cap, at0, at1, at2, at3, at4, at5, at6, o_add, o_sub, o_mulr, o_lt, o_le, o_gt, o_ge, o_len_t, o_len_l, o_len_r, o_abs, o_int, o_intb, o_min, o_isn, o_isnn, o_neg, i_int_0, i_int_1, i_int_3, i_int_4, i_int_34, i_int_12, i_int_2, i_bl_0, i_bl_1, i_bl_3, i_bl_4, i_bl_34, i_bl_12, i_bl_2, i_tup_0, i_tup_1, i_tup_3, i_tup_4, i_tup_34, i_tup_12, i_tup_2, i_lst_0, i_lst_1, i_lst_3, i_lst_4, i_lst_34, i_lst_12, i_lst_2, i_non_0, i_non_1, i_non_3, i_non_4, i_non_34, i_non_12, i_non_2, o_eqi, o_nei, io__law_same, ← Nat.add_assoc, ih], rfl, rfl⟩, rfl⟩) rfl h.1
    rw [List.map_const'] at e
    have e2 := all_true ds.length
    simp [ir__law_same, evS, evE, startE, endS, endFl, endIo, R.one, R.all, R.tst, R.bind, ifI, ifL, ifS, O.view, O.still, Sl.d, Sl.own, freezeO, Env.freeze, freezeL, wipeE, backE, store, ownD, afterCall, afterIo, resO, newOp, scalar, thenF, opSem, compEnd, bind1, seqOf, cmpI, kindD, mtOk, O.isSl, O.anySl, parStore, itSem, it1, it2, anyOf, cap, at0, at1, at2, at3, at4, at5, at6, o_add, o_sub, o_mulr, o_lt, o_le, o_gt, o_ge, o_len_t, o_len_l, o_len_r, o_abs, o_int, o_intb, o_min, o_isn, o_isnn, o_neg, i_int_0, i_int_1, i_int_3, i_int_4, i_int_34, i_int_12, i_int_2, i_bl_0, i_bl_1, i_bl_3, i_bl_4, i_bl_34, i_bl_12, i_bl_2, i_tup_0, i_tup_1, i_tup_3, i_tup_4, i_tup_34, i_tup_12, i_tup_2, i_lst_0, i_lst_1, i_lst_3, i_lst_4, i_lst_34, i_lst_12, i_lst_2, i_non_0, i_non_1, i_non_3, i_non_4, i_non_34, i_non_12, i_non_2, o_eqi, o_nei, e, e2, o_neb]
  | m + 1, .lst ds, h, n => by
    rw [sd, Bool.and_eq_true, Nat.ble_eq] at h
    rw [ev_step tb__law_same rfl]
    have e : evE (C (n + (m + 1))) q__law_same_1 [.fz (.lst ds), .fz (.lst ds), .no, .no] = .ok [.fr (.lst (ds.map fun _ => .bl true))] [.fz (.lst ds), .fz (.lst ds), .no, .no] :=
      comp_tm (own := [2, 3]) (os := [.fz (.lst ds), .fz (.lst ds)]) ds (fun d => D.tup [d, d]) (fun _ => .bl true) (by simp [q__law_same_1s, evS, evE, startE, endS, endFl, endIo, R.one, R.all, R.tst, R.bind, ifI, ifL, ifS, O.view, O.still, Sl.d, Sl.own, freezeO, Env.freeze, freezeL, wipeE, backE, store, ownD, afterCall, afterIo, resO, newOp, scalar, thenF, opSem, compEnd, bind1, seqOf, cmpI, kindD, mtOk, O.isSl, O.anySl, parStore, itSem, it1, it2, anyOf, cap, at0, at1, at2, at3, at4, at5, at6, o_add, o_sub, o_mulr, o_lt, o_le, o_gt, o_ge, o_len_t, o_len_l, o_len_r, o_abs, o_int, o_intb, o_min, o_isn, o_isnn, o_neg, i_int_0, i_int_1, i_int_3, i_int_4, i_int_34, i_int_12, i_int_2, i_bl_0, i_bl_1, i_bl_3, i_bl_4, i_bl_34, i_bl_12, i_bl_2, i_tup_0, i_tup_1, i_tup_3, i_tup_4, i_tup_34, i_tup_12, i_tup_2, i_lst_0, i_lst_1, i_lst_3, i_lst_4, i_lst_34, i_lst_12, i_lst_2, i_non_0, i_non_1, i_non_3, i_non_4, i_non_34, i_non_12, i_non_2, o_eqi, o_nei]) (by show some (zipD ds ds) = _; rw [zip_self]) rfl rfl rfl (fun d hd => by
        have ih := ev_same m d (sds_mem h.2 d hd) n
        exact ⟨[.fz (.lst ds), .fz (.lst ds), .fz d, .fz d], rfl, ⟨.fz (.bl true), by simp [q__law_same_1e, evS, evE, startE, endS, endFl, endIo, R.one, R.all, R.tst, R.bind, ifI, ifL, ifS, O.view, O.still, Sl.d, Sl.own, freezeO, Env.freeze, freezeL, wipeE, backE, store, ownD, afterCall, afterIo, resO, newOp, scalar, thenF, opSem, compEnd, bind1, seqOf, cmpI, kindD, mtOk, O.isSl, O.anySl, parStore, itSem, it1, it2, anyOf, cap, at0, at1, at2, at3, at4, at5, at6, o_add, o_sub, o_mulr, o_lt, o_le, o_gt, o_ge, o_len_t, o_len_l, o_len_r, o_abs, o_int, o_intb, o_min, o_isn, o_isnn, o_neg, i_int_0, i_int_1, i_int_3, i_int_4, i_int_34, i_int_12, i_int_2, i_bl_0, i_bl_1, i_bl_3, i_bl_4, i_bl_34, i_bl_12, i_bl_2, i_tup_0, i_tup_1, i_tup_3, i_tup_4, i_tup_34, i_tup_12, i_tup_2, i_lst_0, i_lst_1, i_lst_3, i_lst_4, i_lst_34, i_lst_12, i_lst_2, i_non_0, i_non_1, i_non_3, i_non_4, i_non_34, i_non_12, i_non_2, o_eqi, o_nei, io__law_same, ← Nat.add_assoc, ih], rfl, rfl⟩, rfl⟩) rfl h.1
    rw [List.map_const'] at e
    have e2 := all_true ds.length
    simp [ir__law_same, evS, evE, startE, endS, endFl, endIo, R.one, R.all, R.tst, R.bind, ifI, ifL, ifS, O.view, O.still, Sl.d, Sl.own, freezeO, Env.freeze, freezeL, wipeE, backE, store, ownD, afterCall, afterIo, resO, newOp, scalar, thenF, opSem, compEnd, bind1, seqOf, cmpI, kindD, mtOk, O.isSl, O.anySl, parStore, itSem, it1, it2, anyOf, cap, at0, at1, at2, at3, at4, at5, at6, o_add, o_sub, o_mulr, o_lt, o_le, o_gt, o_ge, o_len_t, o_len_l, o_len_r, o_abs, o_int, o_intb, o_min, o_isn, o_isnn, o_neg, i_int_0, i_int_1, i_int_3, i_int_4, i_int_34, i_int_12, i_int_2, i_bl_0, i_bl_1, i_bl_3, i_bl_4, i_bl_34, i_bl_12, i_bl_2, i_tup_0, i_tup_1, i_tup_3, i_tup_4, i_tup_34, i_tup_12, i_tup_2, i_lst_0, i_lst_1, i_lst_3, i_lst_4, i_lst_34, i_lst_12, i_lst_2, i_non_0, i_non_1, i_non_3, i_non_4, i_non_34, i_non_12, i_non_2, o_eqi, o_nei, e, e2, o_neb]
theorem sd_tI (m : Nat) (xs : List Int) (h : xs.length ≤ cap) : sd (m + 1) (tI xs) = true := by
  rw [sd, Bool.and_eq_true, Nat.ble_eq]
  exact ⟨by rw [List.length_map]; exact h, sds_of fun d hd => by
    obtain ⟨i, _, rfl⟩ := List.mem_map.mp hd
    cases m <;> rfl⟩
theorem sd_lI (m : Nat) (xs : List Int) (h : xs.length ≤ cap) : sd (m + 1) (lI xs) = true := by
  rw [sd, Bool.and_eq_true, Nat.ble_eq]
  exact ⟨by rw [List.length_map]; exact h, sds_of fun d hd => by
    obtain ⟨i, _, rfl⟩ := List.mem_map.mp hd
    cases m <;> rfl⟩
theorem sd_nN (m : Nat) (xs : List Nat) (h : xs.length ≤ cap) : sd (m + 1) (.tup (nN xs)) = true := by
  rw [sd, Bool.and_eq_true, Nat.ble_eq]
  exact ⟨by rw [List.length_map]; exact h, sds_of fun d hd => by
    obtain ⟨i, _, rfl⟩ := List.mem_map.mp hd
    cases m <;> rfl⟩
end Lw
end
section
set_option Elab.async false
set_option linter.all false
set_option maxRecDepth 100000
set_option maxHeartbeats 1000000
namespace Lw
open PySem Ev Mr
theorem o_lenI (xs : List Int) : op1 .len (tI xs) = some (.int xs.length) := by
  show some (D.int ((nI xs).length : Int)) = _
  rw [nI_len]
theorem o_lenN (xs : List Nat) : op1 .len (.tup (nN xs)) = some (.int xs.length) := by
  show some (D.int ((nN xs).length : Int)) = _
  rw [List.length_map]
theorem sd3 {a b c : D} (ha : sd 1 a = true) (hb : sd 1 b = true) (hc : sd 1 c = true) : sd 2 (.lst [a, b, c]) = true := by
  show (Nat.ble 3 cap && (sd 1 a && (sd 1 b && (sd 1 c && true)))) = true
  rw [ha, hb, hc]
  rfl
theorem sd2 {a b : D} (ha : sd 1 a = true) (hb : sd 1 b = true) : sd 2 (.lst [a, b]) = true := by
  show (Nat.ble 2 cap && (sd 1 a && (sd 1 b && true))) = true
  rw [ha, hb]
  rfl
theorem sd4 {a b c d : D} (ha : sd 1 a = true) (hb : sd 1 b = true) (hc : sd 1 c = true) (hd : sd 1 d = true) : sd 2 (.lst [a, b, c, d]) = true := by
  show (Nat.ble 4 cap && (sd 1 a && (sd 1 b && (sd 1 c && (sd 1 d && true))))) = true
  rw [ha, hb, hc, hd]
  rfl
theorem lap_one_1 (n : Nat) (a b : Sl) (ps : List Int) (k : Int) (hc : ps.length ≤ 100) : evE (C n) q__law_lap_one_1 [a, b, .fz (tI ps), .fz (.int k), .no] = .ok [.fr (lI (ps.filter fun v => decide (v ≤ k)))] [a, b, .fz (tI ps), .fz (.int k), .no] :=
  (comp_t (own := [4]) (os := [.fz (tI ps)]) ps D.int (fun v => decide (v ≤ k)) D.int (by simp [q__law_lap_one_1s, evS, evE, startE, endS, endFl, endIo, R.one, R.all, R.tst, R.bind, ifI, ifL, ifS, O.view, O.still, Sl.d, Sl.own, freezeO, Env.freeze, freezeL, wipeE, backE, store, ownD, afterCall, afterIo, resO, newOp, scalar, thenF, opSem, compEnd, bind1, seqOf, cmpI, kindD, mtOk, O.isSl, O.anySl, parStore, itSem, it1, it2, anyOf, cap, at0, at1, at2, at3, at4, at5, at6, o_add, o_sub, o_mulr, o_lt, o_le, o_gt, o_ge, o_len_t, o_len_l, o_len_r, o_abs, o_int, o_intb, o_min, o_isn, o_isnn, o_neg, i_int_0, i_int_1, i_int_3, i_int_4, i_int_34, i_int_12, i_int_2, i_bl_0, i_bl_1, i_bl_3, i_bl_4, i_bl_34, i_bl_12, i_bl_2, i_tup_0, i_tup_1, i_tup_3, i_tup_4, i_tup_34, i_tup_12, i_tup_2, i_lst_0, i_lst_1, i_lst_3, i_lst_4, i_lst_34, i_lst_12, i_lst_2, i_non_0, i_non_1, i_non_3, i_non_4, i_non_34, i_non_12, i_non_2, o_eqi, o_nei]) rfl rfl rfl rfl (fun v hv =>
    ⟨[a, b, .fz (tI ps), .fz (.int k), .fz (.int v)], rfl, by simp [q__law_lap_one_1t, evS, evE, startE, endS, endFl, endIo, R.one, R.all, R.tst, R.bind, ifI, ifL, ifS, O.view, O.still, Sl.d, Sl.own, freezeO, Env.freeze, freezeL, wipeE, backE, store, ownD, afterCall, afterIo, resO, newOp, scalar, thenF, opSem, compEnd, bind1, seqOf, cmpI, kindD, mtOk, O.isSl, O.anySl, parStore, itSem, it1, it2, anyOf, cap, at0, at1, at2, at3, at4, at5, at6, o_add, o_sub, o_mulr, o_lt, o_le, o_gt, o_ge, o_len_t, o_len_l, o_len_r, o_abs, o_int, o_intb, o_min, o_isn, o_isnn, o_neg, i_int_0, i_int_1, i_int_3, i_int_4, i_int_34, i_int_12, i_int_2, i_bl_0, i_bl_1, i_bl_3, i_bl_4, i_bl_34, i_bl_12, i_bl_2, i_tup_0, i_tup_1, i_tup_3, i_tup_4, i_tup_34, i_tup_12, i_tup_2, i_lst_0, i_lst_1, i_lst_3, i_lst_4, i_lst_34, i_lst_12, i_lst_2, i_non_0, i_non_1, i_non_3, i_non_4, i_non_34, i_non_12, i_non_2, o_eqi, o_nei], fun _ => ⟨.fz (.int v), by simp [q__law_lap_one_1e, evS, evE, startE, endS, endFl, endIo, R.one, R.all, R.tst, R.bind, ifI, ifL, ifS, O.view, O.still, Sl.d, Sl.own, freezeO, Env.freeze, freezeL, wipeE, backE, store, ownD, afterCall, afterIo, resO, newOp, scalar, thenF, opSem, compEnd, bind1, seqOf, cmpI, kindD, mtOk, O.isSl, O.anySl, parStore, itSem, it1, it2, anyOf, cap, at0, at1, at2, at3, at4, at5, at6, o_add, o_sub, o_mulr, o_lt, o_le, o_gt, o_ge, o_len_t, o_len_l, o_len_r, o_abs, o_int, o_intb, o_min, o_isn, o_isnn, o_neg, i_int_0, i_int_1, i_int_3, i_int_4, i_int_34, i_int_12, i_int_2, i_bl_0, i_bl_1, i_bl_3, i_bl_4, i_bl_34, i_bl_12, i_bl_2, i_tup_0, i_tup_1, i_tup_3, i_tup_4, i_tup_34, i_tup_12, i_tup_2, i_lst_0, i_lst_1, i_lst_3, i_lst_4, i_lst_34, i_lst_12, i_lst_2, i_non_0, i_non_1, i_non_3, i_non_4, i_non_34, i_non_12, i_non_2, o_eqi, o_nei], rfl, rfl⟩, rfl⟩) rfl (le_cap (by omega)))
theorem ev_lap_one (n N : Nat) (t : List D) (ht : Tin N t) (hN : N ≤ 80000) : ∃ t', ev (n + 8) kn__law_lap_one [.lst t] = .ok (.bl true) false t' ∧ Tin (N + 40) t' := by
  obtain ⟨L, t1, d1, T1, p1, p2⟩ := ev_take (n + 6) N t ht (by omega) 11 (by omega) (by omega)
  obtain ⟨L, rfl⟩ : ∃ l : Nat, L = l := ⟨L.toNat, by omega⟩
  obtain ⟨t2, row, d2, T2, rw_⟩ := ev_row (n + 5) (N + 1) L t1 T1 (by omega) (by omega)
  have hl := rw_.len
  obtain ⟨k, t3, d3, T3, k1, k2⟩ := ev_take (n + 6) _ t2 T2 (by omega) ((row.length : Int) + 1) (by omega) (by omega)
  obtain ⟨k, rfl⟩ : ∃ l : Nat, k = l := ⟨k.toNat, by omega⟩
  have hb := rw_.bound (by omega)
  have tr : Rw (row.take k) k := ⟨by rw [List.length_take]; omega, asc_take rw_.asc k, pos_take rw_.pos k⟩
  have iv := inv_of _ row rfl rw_.asc rw_.pos
  have f1 := ev_law_numbers (n + 4) row (by omega) rw_.asc rw_.pos
  have f2 := ev_numbers_of_row (n + 1) row (by omega) rw_.asc hb
  have f3 := ev_row_of_numbers n row (by omega) rw_.asc rw_.pos
  have f4 := ev_is_barred (n + 1) (bld row) iv.np (by rw [iv.len]; omega)
  have f5 := ev_same 2 (.lst [tI (bld row), tI row, .bl false]) (sd3 (sd_tI 0 _ (le_cap (by rw [iv.len]; omega))) (sd_tI 0 _ (le_cap (by omega))) rfl) (n + 4)
  have f6 := cut_to row k
  have f7 := ev_numbers_of_row (n + 1) (row.take k) (by rw [tr.len]; omega) tr.asc (tr.bound (by omega))
  have f8 := ev_sites n (bld row) iv.np (by rw [iv.len]; omega)
  have f9 := o_lenN (sts (bld row))
  have fa := lap_one_1 (n + 7) (.ow t3) (.fz (tI row)) (bld row) k (by rw [iv.len]; omega)
  rw [bld_upto rw_.asc rw_.pos k (by omega)] at fa
  have fb := ev_rises (n + 1) row (by omega) rw_.asc hb
  have fc : op2 .ne (tI row) (.tup []) = _ := o_net row []
  have fd : ((sts (bld row)).length : Int) = if row = [] then (1 : Int) else (rs row : Int) + 2 := by
    rw [iv.gaps]
    split <;> rfl
  have fe := ev_same 2 (.lst [tI (bld (row.take k)), .int ((sts (bld row)).length : Int)]) (sd2 (sd_tI 0 _ (le_cap (by rw [bld_len tr.asc tr.pos, tr.len]; omega))) rfl) (n + 4)
  have hg : ((sts (bld row)).length : Int) ≤ 20 := by
    rw [fd]
    have := rs_le row
    split
    · omega
    · have := this ‹_›; omega
  obtain ⟨env', g1, a, rfl⟩ := for_t (t := .nm 4) (body := evS (C (n + 7)) q__law_lap_one_2b) iN (fun pre env => ∃ a, env = [.ow t3, .fz (tI row), .fz (tI (bld row)), .fz (.int k), a]) (List.range (sts (bld row)).length) (fun pre x post env hx i => by
    obtain ⟨a, rfl⟩ := i
    have hx2 : x < (sts (bld row)).length := by
      have : x ∈ List.range (sts (bld row)).length := by rw [hx]; simp
      exact List.mem_range.mp this
    obtain ⟨g, e1, e2, e3⟩ := put_eq rw_.asc rw_.pos hx2
    have b1 := e3.bound (by omega)
    have h1 := ev_put_in (n + 1) (bld row) iv.np (by rw [iv.len]; omega) x g e1
    rw [e2] at h1
    have h2 := ev_row_of_numbers n (row ++ [(x : Int)]) (by rw [e3.len]; omega) e3.asc e3.pos
    have h3 := ev_numbers_of_row (n + 1) (row ++ [(x : Int)]) (by rw [e3.len]; omega) e3.asc b1
    have h4 : op2 .add (tI row) (.tup [.int (x : Int)]) = some (tI (row ++ [(x : Int)])) := cat_len row [(x : Int)] (by rw [List.length_singleton]; omega)
    have h5 := ev_same 2 (.lst [tI (bld (row ++ [(x : Int)])), tI (row ++ [(x : Int)])]) (sd2 (sd_tI 0 _ (le_cap (by rw [bld_len e3.asc e3.pos, e3.len]; omega))) (sd_tI 0 _ (le_cap (by rw [e3.len]; omega)))) (n + 4)
    refine ⟨[.ow t3, .fz (tI row), .fz (tI (bld row)), .fz (.int k), .fz (iN x)], [.ow t3, .fz (tI row), .fz (tI (bld row)), .fz (.int k), .fz (iN x)], rfl, ?_, _, rfl⟩
    generalize bld (row ++ [(x : Int)]) = u at *
    generalize row ++ [(x : Int)] = w at *
    generalize bld row = z at *
    simp [q__law_lap_one_2b, evS, evE, startE, endS, endFl, endIo, R.one, R.all, R.tst, R.bind, ifI, ifL, ifS, O.view, O.still, Sl.d, Sl.own, freezeO, Env.freeze, freezeL, wipeE, backE, store, ownD, afterCall, afterIo, resO, newOp, scalar, thenF, opSem, compEnd, bind1, seqOf, cmpI, kindD, mtOk, O.isSl, O.anySl, parStore, itSem, it1, it2, anyOf, cap, at0, at1, at2, at3, at4, at5, at6, o_add, o_sub, o_mulr, o_lt, o_le, o_gt, o_ge, o_len_t, o_len_l, o_len_r, o_abs, o_int, o_intb, o_min, o_isn, o_isnn, o_neg, i_int_0, i_int_1, i_int_3, i_int_4, i_int_34, i_int_12, i_int_2, i_bl_0, i_bl_1, i_bl_3, i_bl_4, i_bl_34, i_bl_12, i_bl_2, i_tup_0, i_tup_1, i_tup_3, i_tup_4, i_tup_34, i_tup_12, i_tup_2, i_lst_0, i_lst_1, i_lst_3, i_lst_4, i_lst_34, i_lst_12, i_lst_2, i_non_0, i_non_1, i_non_3, i_non_4, i_non_34, i_non_12, i_non_2, o_eqi, o_nei, io__law_same, io_put_in, io_row_of_numbers, io_numbers_of_row, h1, h2, h3, h4, h5]) (env := [.ow t3, .fz (tI row), .fz (tI (bld row)), .fz (.int k), .no]) ⟨.no, rfl⟩
  have g2 : evS (C (n + 7)) q__law_lap_one_2 [.ow t3, .fz (tI row), .fz (tI (bld row)), .fz (.int k), .no] = .ok .nx [.ow t3, .fz (tI row), .fz (tI (bld row)), .fz (.int k), a] :=
    for_at (os := [.fz (.int ((sts (bld row)).length : Int))]) (by simp [q__law_lap_one_2s, evS, evE, startE, endS, endFl, endIo, R.one, R.all, R.tst, R.bind, ifI, ifL, ifS, O.view, O.still, Sl.d, Sl.own, freezeO, Env.freeze, freezeL, wipeE, backE, store, ownD, afterCall, afterIo, resO, newOp, scalar, thenF, opSem, compEnd, bind1, seqOf, cmpI, kindD, mtOk, O.isSl, O.anySl, parStore, itSem, it1, it2, anyOf, cap, at0, at1, at2, at3, at4, at5, at6, o_add, o_sub, o_mulr, o_lt, o_le, o_gt, o_ge, o_len_t, o_len_l, o_len_r, o_abs, o_int, o_intb, o_min, o_isn, o_isnn, o_neg, i_int_0, i_int_1, i_int_3, i_int_4, i_int_34, i_int_12, i_int_2, i_bl_0, i_bl_1, i_bl_3, i_bl_4, i_bl_34, i_bl_12, i_bl_2, i_tup_0, i_tup_1, i_tup_3, i_tup_4, i_tup_34, i_tup_12, i_tup_2, i_lst_0, i_lst_1, i_lst_3, i_lst_4, i_lst_34, i_lst_12, i_lst_2, i_non_0, i_non_1, i_non_3, i_non_4, i_non_34, i_non_12, i_non_2, o_eqi, o_nei, io_sites, f8, f9]) (it_rg _ (by omega)) g1
  refine ⟨t3, ?_, T3.mono (by omega)⟩
  rw [ev_step tb__law_lap_one rfl]
  have fx := io__law_take
  have fy := io__law_row
  generalize bld (row.take k) = u at *
  generalize row.take k = w at *
  generalize bld row = z at *
  by_cases h : row = []
  · rw [if_pos h] at fd
    rw [decide_eq_true h] at fc
    rw [fd] at f9 fe
    simp [ir__law_lap_one, evS, evE, startE, endS, endFl, endIo, R.one, R.all, R.tst, R.bind, ifI, ifL, ifS, O.view, O.still, Sl.d, Sl.own, freezeO, Env.freeze, freezeL, wipeE, backE, store, ownD, afterCall, afterIo, resO, newOp, scalar, thenF, opSem, compEnd, bind1, seqOf, cmpI, kindD, mtOk, O.isSl, O.anySl, parStore, itSem, it1, it2, anyOf, cap, at0, at1, at2, at3, at4, at5, at6, o_add, o_sub, o_mulr, o_lt, o_le, o_gt, o_ge, o_len_t, o_len_l, o_len_r, o_abs, o_int, o_intb, o_min, o_isn, o_isnn, o_neg, i_int_0, i_int_1, i_int_3, i_int_4, i_int_34, i_int_12, i_int_2, i_bl_0, i_bl_1, i_bl_3, i_bl_4, i_bl_34, i_bl_12, i_bl_2, i_tup_0, i_tup_1, i_tup_3, i_tup_4, i_tup_34, i_tup_12, i_tup_2, i_lst_0, i_lst_1, i_lst_3, i_lst_4, i_lst_34, i_lst_12, i_lst_2, i_non_0, i_non_1, i_non_3, i_non_4, i_non_34, i_non_12, i_non_2, o_eqi, o_nei, fx, fy, d1, d2, io__law_numbers, f1, io_numbers_of_row, f2, io_row_of_numbers, f3, io_is_barred, f4, io__law_same, f5, d3, f6, f7, io_sites, f8, f9, fa, fc, fe, g2, o_tup]
  · rw [if_neg h] at fd
    rw [decide_eq_false h] at fc
    rw [fd] at f9 fe
    simp [ir__law_lap_one, evS, evE, startE, endS, endFl, endIo, R.one, R.all, R.tst, R.bind, ifI, ifL, ifS, O.view, O.still, Sl.d, Sl.own, freezeO, Env.freeze, freezeL, wipeE, backE, store, ownD, afterCall, afterIo, resO, newOp, scalar, thenF, opSem, compEnd, bind1, seqOf, cmpI, kindD, mtOk, O.isSl, O.anySl, parStore, itSem, it1, it2, anyOf, cap, at0, at1, at2, at3, at4, at5, at6, o_add, o_sub, o_mulr, o_lt, o_le, o_gt, o_ge, o_len_t, o_len_l, o_len_r, o_abs, o_int, o_intb, o_min, o_isn, o_isnn, o_neg, i_int_0, i_int_1, i_int_3, i_int_4, i_int_34, i_int_12, i_int_2, i_bl_0, i_bl_1, i_bl_3, i_bl_4, i_bl_34, i_bl_12, i_bl_2, i_tup_0, i_tup_1, i_tup_3, i_tup_4, i_tup_34, i_tup_12, i_tup_2, i_lst_0, i_lst_1, i_lst_3, i_lst_4, i_lst_34, i_lst_12, i_lst_2, i_non_0, i_non_1, i_non_3, i_non_4, i_non_34, i_non_12, i_non_2, o_eqi, o_nei, fx, fy, d1, d2, io__law_numbers, f1, io_numbers_of_row, f2, io_row_of_numbers, f3, io_is_barred, f4, io__law_same, f5, d3, f6, f7, io_sites, f8, f9, fa, fc, fe, g2, o_tup, io_rises, fb]
end Lw
end
section
set_option Elab.async false
set_option linter.all false
set_option maxRecDepth 100000
set_option maxHeartbeats 1000000
namespace Lw
open PySem Ev Mr
theorem ev_long (n N : Nat) (t : List D) (ht : Tin N t) (hN : N ≤ 80000) : ∃ t', ev (n + 8) kn__law_long [.lst t] = .ok (.bl true) false t' ∧ Tin (N + 190) t' := by
  obtain ⟨L, t1, d1, T1, p1, p2⟩ := ev_take (n + 6) N t ht (by omega) 41 (by omega) (by omega)
  obtain ⟨L, rfl⟩ : ∃ l : Nat, L = l := ⟨L.toNat, by omega⟩
  obtain ⟨t2, row, d2, T2, rw_⟩ := ev_row (n + 5) (N + 1) (20 + L) t1 T1 (by omega) (by omega)
  have d2 : ev (n + 5 + 2) kn__law_row [.lst t1, .int (20 + (L : Int))] = .ok (tI row) false t2 := d2
  have hl := rw_.len
  have hb := rw_.bound (by omega)
  have ha := rw_.asc
  have hp := rw_.pos
  have iv := inv_of _ row rfl ha hp
  have e : ∃ a b, evS (C (n + 7)) q__law_long_1 [.ow t2, .fz (tI row), .fz (.tup []), .no, .no] = .ok .nx [.ow t2, .fz (tI row), .fz (tI (bld row)), a, b] := by
    obtain ⟨env', h1, h2⟩ := for_run (t := .nm 3) (body := evS (C (n + 7)) q__law_long_1b) (items := nI row) (fun k env => ∃ a b, env = [.ow t2, .fz (tI row), .fz (tI (bld (row.take k))), a, b]) (fun k d env hk i => by
      obtain ⟨b, c, rfl⟩ := i
      obtain ⟨x, q, rfl⟩ := nI_get hk
      obtain ⟨g, g1, g2, g3, g4, g5⟩ := step_at ha hp q
      have iv := inv_take ha hp k
      have hl : (bld (row.take k)).length ≤ 70 := by rw [iv.len, List.length_take]; omega
      have hx := hp x (List.mem_of_getElem? q)
      have e1 := nN_get g4
      rw [Int.toNat_of_nonneg hx] at e1
      generalize bld (row.take k) = ps at *
      have f0 := ev_law_open (n + 6) ps (by omega)
      have f1 := cut_to ps g
      have f2 := cut_from ps g
      have f3 : op2 .add (tI (ps.take g)) (.tup [.int ((ps.length : Int) + 1)]) = some (tI (ps.take g ++ [(ps.length : Int) + 1])) := cat_len (ps.take g) [(ps.length : Int) + 1] (by rw [List.length_singleton, List.length_take]; omega)
      have f4 := cat_len (ps.take g ++ [(ps.length : Int) + 1]) (ps.drop g) (by rw [List.length_append, List.length_singleton, List.length_take, List.length_drop]; omega)
      rw [ins_cat] at f4
      refine ⟨_, [.ow t2, .fz (tI row), .fz (tI (bld (row.take (k + 1)))), .fz (.int x), .fz (.int (g : Int))], rfl, ?_, _, _, rfl⟩
      rw [g5]
      simp [q__law_long_1b, evS, evE, startE, endS, endFl, endIo, R.one, R.all, R.tst, R.bind, ifI, ifL, ifS, O.view, O.still, Sl.d, Sl.own, freezeO, Env.freeze, freezeL, wipeE, backE, store, ownD, afterCall, afterIo, resO, newOp, scalar, thenF, opSem, compEnd, bind1, seqOf, cmpI, kindD, mtOk, O.isSl, O.anySl, parStore, itSem, it1, it2, anyOf, cap, at0, at1, at2, at3, at4, at5, at6, o_add, o_sub, o_mulr, o_lt, o_le, o_gt, o_ge, o_len_t, o_len_l, o_len_r, o_abs, o_int, o_intb, o_min, o_isn, o_isnn, o_neg, i_int_0, i_int_1, i_int_3, i_int_4, i_int_34, i_int_12, i_int_2, i_bl_0, i_bl_1, i_bl_3, i_bl_4, i_bl_34, i_bl_12, i_bl_2, i_tup_0, i_tup_1, i_tup_3, i_tup_4, i_tup_34, i_tup_12, i_tup_2, i_lst_0, i_lst_1, i_lst_3, i_lst_4, i_lst_34, i_lst_12, i_lst_2, i_non_0, i_non_1, i_non_3, i_non_4, i_non_34, i_non_12, i_non_2, o_eqi, o_nei, io__law_open, f0, f1, f2, f3, e1]
      simp [f4]) (env := [.ow t2, .fz (tI row), .fz (.tup []), .no, .no]) ⟨.no, .no, rfl⟩
    obtain ⟨b, c, rfl⟩ := h2
    rw [nI_len, List.take_length] at h1
    exact ⟨b, c, for_at (os := [.fz (tI row)]) (by simp [q__law_long_1s, evS, evE, startE, endS, endFl, endIo, R.one, R.all, R.tst, R.bind, ifI, ifL, ifS, O.view, O.still, Sl.d, Sl.own, freezeO, Env.freeze, freezeL, wipeE, backE, store, ownD, afterCall, afterIo, resO, newOp, scalar, thenF, opSem, compEnd, bind1, seqOf, cmpI, kindD, mtOk, O.isSl, O.anySl, parStore, itSem, it1, it2, anyOf, cap, at0, at1, at2, at3, at4, at5, at6, o_add, o_sub, o_mulr, o_lt, o_le, o_gt, o_ge, o_len_t, o_len_l, o_len_r, o_abs, o_int, o_intb, o_min, o_isn, o_isnn, o_neg, i_int_0, i_int_1, i_int_3, i_int_4, i_int_34, i_int_12, i_int_2, i_bl_0, i_bl_1, i_bl_3, i_bl_4, i_bl_34, i_bl_12, i_bl_2, i_tup_0, i_tup_1, i_tup_3, i_tup_4, i_tup_34, i_tup_12, i_tup_2, i_lst_0, i_lst_1, i_lst_3, i_lst_4, i_lst_34, i_lst_12, i_lst_2, i_non_0, i_non_1, i_non_3, i_non_4, i_non_34, i_non_12, i_non_2, o_eqi, o_nei]) rfl h1⟩
  obtain ⟨a, b, e⟩ := e
  have f2 := ev_numbers_of_row (n + 1) row (by omega) ha hb
  have f3 := ev_row_of_numbers n row (by omega) ha hp
  have f8 := ev_sites n (bld row) iv.np (by rw [iv.len]; omega)
  have f9 := ev_law_open (n + 6) (bld row) (by rw [iv.len]; omega)
  have hs : (sts (bld row)).length ≤ 1000 := by
    have := gaps_most ha hp
    have := most_le row
    omega
  have f5 := ev_same 2 (.lst [tI (bld row), tI row, .tup (nN (sts (bld row)))]) (sd3 (sd_tI 0 _ (le_cap (by rw [iv.len]; omega))) (sd_tI 0 _ (le_cap (by omega))) (sd_nN 0 _ (le_cap hs))) (n + 4)
  refine ⟨t2, ?_, T2.mono (by omega)⟩
  rw [ev_step tb__law_long rfl]
  have fx := io__law_take
  have fy := io__law_row
  generalize nN (sts (bld row)) = u at *
  generalize bld row = z at *
  simp [ir__law_long, evS, evE, startE, endS, endFl, endIo, R.one, R.all, R.tst, R.bind, ifI, ifL, ifS, O.view, O.still, Sl.d, Sl.own, freezeO, Env.freeze, freezeL, wipeE, backE, store, ownD, afterCall, afterIo, resO, newOp, scalar, thenF, opSem, compEnd, bind1, seqOf, cmpI, kindD, mtOk, O.isSl, O.anySl, parStore, itSem, it1, it2, anyOf, cap, at0, at1, at2, at3, at4, at5, at6, o_add, o_sub, o_mulr, o_lt, o_le, o_gt, o_ge, o_len_t, o_len_l, o_len_r, o_abs, o_int, o_intb, o_min, o_isn, o_isnn, o_neg, i_int_0, i_int_1, i_int_3, i_int_4, i_int_34, i_int_12, i_int_2, i_bl_0, i_bl_1, i_bl_3, i_bl_4, i_bl_34, i_bl_12, i_bl_2, i_tup_0, i_tup_1, i_tup_3, i_tup_4, i_tup_34, i_tup_12, i_tup_2, i_lst_0, i_lst_1, i_lst_3, i_lst_4, i_lst_34, i_lst_12, i_lst_2, i_non_0, i_non_1, i_non_3, i_non_4, i_non_34, i_non_12, i_non_2, o_eqi, o_nei, fx, fy, d1, d2, e, io_numbers_of_row, f2, io_row_of_numbers, f3, io_sites, f8, io__law_open, f9, o_tup, io__law_same, f5]
theorem ev_law (n : Nat) (ns : List Int) : ∃ io, ev (n + 9) kn_law [.ro ns] = .ok (.bl true) false io := by
  obtain ⟨x, d1⟩ := ev_cells (n + 7) ns
  obtain ⟨t, d2, T0⟩ := ev_box (n + 7) x
  obtain ⟨env', g1, t', a, rfl, T1⟩ := for_t (t := .nm 2) (body := evS (C (n + 8)) q_law_1b) iN (fun pre env => ∃ t a, env = [.fz (.ro ns), .ow t, a, .no] ∧ Tin (pre.length * 40) t) (List.range 5) (fun pre x post env hx i => by
    obtain ⟨t, a, rfl, T⟩ := i
    have hp : pre.length < 5 := by
      have := congrArg List.length hx
      rw [List.length_append, List.length_cons, List.length_range] at this
      omega
    obtain ⟨t', e, T'⟩ := ev_lap_one n _ t T (by omega)
    refine ⟨[.fz (.ro ns), .ow t, .fz (iN x), .no], [.fz (.ro ns), .ow t', .fz (iN x), .no], rfl, ?_, t', _, rfl, T'.mono (by rw [List.length_append, List.length_singleton]; omega)⟩
    simp [q_law_1b, evS, evE, startE, endS, endFl, endIo, R.one, R.all, R.tst, R.bind, ifI, ifL, ifS, O.view, O.still, Sl.d, Sl.own, freezeO, Env.freeze, freezeL, wipeE, backE, store, ownD, afterCall, afterIo, resO, newOp, scalar, thenF, opSem, compEnd, bind1, seqOf, cmpI, kindD, mtOk, O.isSl, O.anySl, parStore, itSem, it1, it2, anyOf, cap, at0, at1, at2, at3, at4, at5, at6, o_add, o_sub, o_mulr, o_lt, o_le, o_gt, o_ge, o_len_t, o_len_l, o_len_r, o_abs, o_int, o_intb, o_min, o_isn, o_isnn, o_neg, i_int_0, i_int_1, i_int_3, i_int_4, i_int_34, i_int_12, i_int_2, i_bl_0, i_bl_1, i_bl_3, i_bl_4, i_bl_34, i_bl_12, i_bl_2, i_tup_0, i_tup_1, i_tup_3, i_tup_4, i_tup_34, i_tup_12, i_tup_2, i_lst_0, i_lst_1, i_lst_3, i_lst_4, i_lst_34, i_lst_12, i_lst_2, i_non_0, i_non_1, i_non_3, i_non_4, i_non_34, i_non_12, i_non_2, o_eqi, o_nei, io__law_lap_one, e]) (env := [.fz (.ro ns), .ow t, .no, .no]) ⟨t, .no, rfl, T0⟩
  have g2 : evS (C (n + 8)) q_law_1 [.fz (.ro ns), .ow t, .no, .no] = .ok .nx [.fz (.ro ns), .ow t', a, .no] :=
    for_at (os := [.fz (.int 5)]) (by simp [q_law_1s, evS, evE, startE, endS, endFl, endIo, R.one, R.all, R.tst, R.bind, ifI, ifL, ifS, O.view, O.still, Sl.d, Sl.own, freezeO, Env.freeze, freezeL, wipeE, backE, store, ownD, afterCall, afterIo, resO, newOp, scalar, thenF, opSem, compEnd, bind1, seqOf, cmpI, kindD, mtOk, O.isSl, O.anySl, parStore, itSem, it1, it2, anyOf, cap, at0, at1, at2, at3, at4, at5, at6, o_add, o_sub, o_mulr, o_lt, o_le, o_gt, o_ge, o_len_t, o_len_l, o_len_r, o_abs, o_int, o_intb, o_min, o_isn, o_isnn, o_neg, i_int_0, i_int_1, i_int_3, i_int_4, i_int_34, i_int_12, i_int_2, i_bl_0, i_bl_1, i_bl_3, i_bl_4, i_bl_34, i_bl_12, i_bl_2, i_tup_0, i_tup_1, i_tup_3, i_tup_4, i_tup_34, i_tup_12, i_tup_2, i_lst_0, i_lst_1, i_lst_3, i_lst_4, i_lst_34, i_lst_12, i_lst_2, i_non_0, i_non_1, i_non_3, i_non_4, i_non_34, i_non_12, i_non_2, o_eqi, o_nei]) (it_rg 5 (by omega)) g1
  obtain ⟨t2, e2, T2⟩ := ev_long n _ t' T1 (by rw [List.length_range]; omega)
  have Q6 : Rw [0, 1, 0, 1, 3, 1] 6 := (((((Rw.nil.snoc (x := 0) (by decide) (by decide)).snoc (x := 1) (by decide) (by decide)).snoc (x := 0) (by decide) (by decide)).snoc (x := 1) (by decide) (by decide)).snoc (x := 3) (by decide) (by decide)).snoc (x := 1) (by decide) (by decide)
  have Q3 : Rw [0, 1, 1] 3 := ((Rw.nil.snoc (x := 0) (by decide) (by decide)).snoc (x := 1) (by decide) (by decide)).snoc (x := 1) (by decide) (by decide)
  have h1 := ev_numbers_of_row (n + 2) [0, 1, 0, 1, 3, 1] (by decide) Q6.asc (Q6.bound (by decide))
  rw [show bld [0, 1, 0, 1, 3, 1] = [3, 1, 6, 4, 2, 5] by decide] at h1
  have h2 := ev_row_of_numbers (n + 1) [0, 1, 1] (by decide) Q3.asc Q3.pos
  rw [show bld [0, 1, 1] = [1, 3, 2] by decide] at h2
  have h3 := ev_numbers_of_row (n + 2) [] (by decide) Rw.nil.asc (Rw.nil.bound (by decide))
  rw [show bld [] = [] by decide] at h3
  have h4 := ev_row_of_numbers (n + 1) [] (by decide) Rw.nil.asc Rw.nil.pos
  rw [show bld [] = [] by decide] at h4
  have h5 := ev_same 2 (.lst [tI [3, 1, 6, 4, 2, 5], tI [0, 1, 1], tI [], tI []]) (by decide) (n + 5)
  refine ⟨[], ?_⟩
  rw [ev_step tb_law rfl]
  have h1 : ev (n + 8) kn_numbers_of_row [.tup [.int 0, .int 1, .int 0, .int 1, .int 3, .int 1]] = .ok (.tup [.int 3, .int 1, .int 6, .int 4, .int 2, .int 5]) false [] := h1
  have h2 : ev (n + 8) kn_row_of_numbers [.tup [.int 1, .int 3, .int 2]] = .ok (.tup [.int 0, .int 1, .int 1]) false [] := h2
  have h3 : ev (n + 8) kn_numbers_of_row [.tup []] = .ok (.tup []) false [] := h3
  have h4 : ev (n + 8) kn_row_of_numbers [.tup []] = .ok (.tup []) false [] := h4
  have h5 : ev (n + 8) kn__law_same [.lst [.tup [.int 3, .int 1, .int 6, .int 4, .int 2, .int 5], .tup [.int 0, .int 1, .int 1], .tup [], .tup []], .lst [.tup [.int 3, .int 1, .int 6, .int 4, .int 2, .int 5], .tup [.int 0, .int 1, .int 1], .tup [], .tup []]] = .ok (.bl true) false [] := h5
  simp [ir_law, evS, evE, startE, endS, endFl, endIo, R.one, R.all, R.tst, R.bind, ifI, ifL, ifS, O.view, O.still, Sl.d, Sl.own, freezeO, Env.freeze, freezeL, wipeE, backE, store, ownD, afterCall, afterIo, resO, newOp, scalar, thenF, opSem, compEnd, bind1, seqOf, cmpI, kindD, mtOk, O.isSl, O.anySl, parStore, itSem, it1, it2, anyOf, cap, at0, at1, at2, at3, at4, at5, at6, o_add, o_sub, o_mulr, o_lt, o_le, o_gt, o_ge, o_len_t, o_len_l, o_len_r, o_abs, o_int, o_intb, o_min, o_isn, o_isnn, o_neg, i_int_0, i_int_1, i_int_3, i_int_4, i_int_34, i_int_12, i_int_2, i_bl_0, i_bl_1, i_bl_3, i_bl_4, i_bl_34, i_bl_12, i_bl_2, i_tup_0, i_tup_1, i_tup_3, i_tup_4, i_tup_34, i_tup_12, i_tup_2, i_lst_0, i_lst_1, i_lst_3, i_lst_4, i_lst_34, i_lst_12, i_lst_2, i_non_0, i_non_1, i_non_3, i_non_4, i_non_34, i_non_12, i_non_2, o_eqi, o_nei, io__law_cells, d1, io__law_box, d2, g2, io__law_long, e2, io_numbers_of_row, h1, h3, io_row_of_numbers, h2, h4, io__law_same, h5]
end Lw
end
theorem PySem.Challenge.cw_ascentrows_k38_main_rows_and_orders_of_n_holds : PySem.Challenge.rw_ascentrows_k38_main_rows_and_orders_of_n.Holds := by
  exact holds_of fun ns h => Lw.ev_law 7 ns
