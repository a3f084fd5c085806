import PyProof.Rows.All
import Wide.All
import OpenK.AllK
import Wide.FinOn
import HandS.ForMost
import HandS.TupAny
import HandS.Deep
import HandS.Style
import HandS.Walk
import HandS.IsInst
import KE.SortData
import HandS.TupSets
import HandS.Wide
import KE.DataCmp
import KE.DataMinMax
import KE.KDictKeyed
import HandS.TupMul
import HandS.Dict
import HandS.Text
import PyProof.ListStr
import HandS.ExcOwn
import HandS.WordsExc
import KE.GoesEnum
import KE.GoesMore
import KE.GoesZip
import HandS.Conv
import KE.KDictWalk
import KE.KDictSum
import KE.KDictCopyH
import PyProof.CollectStr
import PyProof.TupleOfSeq
import HandS.ExcIs
import HandS.SetFor
import HandS.SetKeys
import PyProof.SetRoads
import HandS.Strs
import HandS.SortKw
import HandS.Replace
import HandS.Defaults
import HandS.HeadHook1
import HandS.HeadHook2
import HandS.HeadHook4
import HandS.Head0
import HandS.Head1
import HandS.Head2
import HandS.HeadEnd
import PyProof.StrLawsIn
import KE.KStateDown
import Lean
import HandS.More
import PySem.Challenge.RW_tablebreaks_k05_tables
set_option Elab.async false
set_option linter.all false
/-! Rf, part A: the core syntax and its evaluator. Plain Lean, no program. -/
namespace Rf
open PySem

abbrev D := PyData
inductive R (α : Type) where
  | ok (a : α) | exc (c : Str) | bad
def R.bind {α β : Type} (x : R α) (f : α → R β) : R β := match x with
  | .ok a => f a
  | .exc c => .exc c
  | .bad => .bad
@[simp] theorem R.bind_ok {α β : Type} (a : α) (f : α → R β) : (R.ok a).bind f = f a := rfl
@[simp] theorem R.bind_exc {α β : Type} (c : Str) (f : α → R β) : (R.exc c : R α).bind f = .exc c := rfl
@[simp] theorem R.bind_bad {α β : Type} (f : α → R β) : (R.bad : R α).bind f = .bad := rfl
/-- an exception isn't carried -/
def R.nox {α : Type} (x : R α) : R α := match x with
  | .ok a => .ok a
  | _ => .bad
@[simp] theorem R.nox_ok {α : Type} (a : α) : (R.ok a).nox = .ok a := rfl
def R.chk {α : Type} (b : Bool) (x : R α) : R α := match b with | true => x | false => .bad
@[simp] theorem R.chk_true {α : Type} (x : R α) : R.chk true x = x := rfl
@[simp] theorem R.chk_false {α : Type} (x : R α) : R.chk false x = .bad := rfl

inductive Bop where | add | sub | mul | fdiv | mod | pow
  deriving DecidableEq
inductive Cop where | lt | le | gt | ge | eq | ne | isin | notin | is | isnot
  deriving DecidableEq
/-- built-in functions of values -/
inductive BI where | len | all | sum | sorted | rsorted | lenset | sortset | list | tuple | int | isInt | isBool | isTuple | isStr | isList | min | max | str | join | index | dict | lrange | trange
  deriving DecidableEq

inductive C where
  | nil | cons (h t : C)
  | var (i : Nat) | cst (d : PyData) | glob (x : Str)
  | bin (o : Bop) (a b : C) | cmp (o : Cop) (a b : C) | chain (o1 o2 : Cop) (a b c : C)
  | band (es : C) | bor (es : C) | bnot (a : C) | neg (a : C) | ife (c a b : C)
  | tup (es : C) | lst (es : C)
  | idx (a b : C) | sl (a lo hi : C) | rev (a : C)
  | call (f : Str) (es : C) | bi (b : BI) (es : C)
  | dnew | dget (a b c : C) | itm (a : C) | enum (a : C) | zip (a b : C) | rng (es : C)
  | lc (tg : C) (it : C) (cond : C) (elt : C)
  -- statements
  | skip | seq (a b : C) | asg (i : Nat) (own : Bool) (e : C) | unp (tg : C) (e : C) | par (tg : C) (own : List Bool) (es : C)
  | iff (c a b : C) | for_ (tg it body : C) | while_ (c body : C)
  | ret (e : C) | app (i : Nat) (e : C) | ext (i : Nat) (e : C) | exp (e : C) | fz (i : Nat) (rest : C)
  | dput (i : Nat) (k v : C) | apop (i j : Nat) (e : C) | popu (tg : C) (j : Nat)
  | raise (x : Str) | calls (fs : List Str) (k es : C) | tryx (x : Str) (ei fi : Nat) (gs : List (List Str)) (body : C)

/-! ### values -/
def lineN : Nat := 16777216
def items : D → R (List D)
  | .list ds => .ok ds
  | .tuple ds => .ok ds
  | .str z => R.chk (decide (z.length ≤ lineN)) (.ok (z.cps.toList.map fun c => .str ⟨#[c]⟩))
  | _ => .bad
def itemsK : D → R (List D)
  | .dict kvs => .ok (kvs.map (·.1))
  | d => items d
def toBool : D → R Bool | .bool b => .ok b | _ => .bad

def addD : D → D → R D
  | .int i, .int j => .ok (.int (i + j))
  | .str a, .str b => R.chk (decide (a.length + b.length ≤ lineN)) (.ok (.str (a ++ b)))
  | .tuple a, .tuple b => R.chk (decide (a.length + b.length ≤ lineN)) (.ok (.tuple (a ++ b)))
  | .list a, .list b => R.chk (decide (a.length + b.length ≤ lineN)) (.ok (.list (a ++ b)))
  | _, _ => .bad
def mulOk (i j : Int) : Bool := (decide (-(2 ^ 64) < i) && decide (i < 2 ^ 64)) || (decide (-(2 ^ 64) < j) && decide (j < 2 ^ 64))
def mulD : D → D → R D
  | .int i, .int j => R.chk (mulOk i j) (.ok (.int (i * j)))
  | .list a, .int k => R.chk (decide (-(2 ^ 63) ≤ k) && decide (k < 2 ^ 63) && decide (a.length * k.toNat ≤ lineN)) (.ok (.list (List.replicate k.toNat a).flatten))
  | .tuple a, .int k => R.chk (decide (2 ≤ k) && decide (k ≤ 1000) && !a.isEmpty && decide (a.length ≤ 1000)) (.ok (.tuple (List.replicate k.toNat a).flatten))
  | _, _ => .bad
def binD : Bop → D → D → R D
  | .add, a, b => addD a b
  | .sub, .int i, .int j => .ok (.int (i - j))
  | .mul, a, b => mulD a b
  | .fdiv, .int i, .int j => R.chk (decide (0 < j) && decide (j < 2 ^ 200)) (.ok (.int (i / j)))
  | .mod, .int i, .int j => R.chk (decide (0 < j)) (.ok (.int (i % j)))
  | .pow, .int i, .int j => R.chk (decide (0 ≤ j) && decide (j ≤ 1000000) && decide (i.natAbs < 2 ^ 64)) (.ok (.int (i ^ j.toNat)))
  | _, _, _ => .bad

/-- order of intsOf, texts, tuples of these -/
def strLt (a b : Str) : Bool := decide (a.cps.toList < b.cps.toList)
def shp (d : D) : Bool := SeqAt.shaped d
def eqD (d e : D) : R Bool := R.chk (shp d && shp e) (.ok (PyData.eqv d e))
def inD (d : D) : D → R Bool
  | .list ds => R.chk (shp d && shp (.list ds)) (.ok (ds.any fun z => PyData.eqv z d))
  | .tuple ds => R.chk (shp d && shp (.tuple ds)) (.ok (ds.any fun z => PyData.eqv z d))
  | .str z => match d with
    | .str x => .ok (!(Builtin.Str.occurrences z x 0 z.length 1).isEmpty)
    | _ => .bad
  | _ => .bad
def isNone : D → Bool | .none => true | _ => false
mutual
/-- no dict within -/
def nodic : D → Bool
  | .dict _ => false
  | .list ds => nodics ds
  | .tuple ds => nodics ds
  | .none => true
  | .bool _ => true
  | .int _ => true
  | .str _ => true
def nodics : List D → Bool
  | [] => true
  | d :: ds => nodic d && nodics ds
end
/-- tuples in their order -/
def ordT (d e : D) (b : Bool) : R Bool := R.chk (PySem.W.alike d e && decide (d.depth ≤ 60) && nodic d && nodic e) (.ok b)
def cmpB : Cop → D → D → R Bool
  | .lt, .int i, .int j => .ok (decide (i < j))
  | .le, .int i, .int j => .ok (decide (i ≤ j))
  | .gt, .int i, .int j => .ok (decide (j < i))
  | .ge, .int i, .int j => .ok (decide (j ≤ i))
  | .lt, .str a, .str b => .ok (strLt a b)
  | .lt, .tuple a, .tuple b => ordT (.tuple a) (.tuple b) (PySem.W.dataLt (.tuple a) (.tuple b))
  | .gt, .tuple a, .tuple b => ordT (.tuple a) (.tuple b) (PySem.W.dataLt (.tuple b) (.tuple a))
  | .le, .tuple a, .tuple b => ordT (.tuple a) (.tuple b) (!PySem.W.dataLt (.tuple b) (.tuple a))
  | .ge, .tuple a, .tuple b => ordT (.tuple a) (.tuple b) (!PySem.W.dataLt (.tuple a) (.tuple b))
  | .eq, d, e => eqD d e
  | .ne, d, e => (eqD d e).bind fun b => .ok (!b)
  | .isin, d, e => inD d e
  | .notin, d, e => (inD d e).bind fun b => .ok (!b)
  | .is, d, .none => .ok (isNone d)
  | .isnot, d, .none => .ok (!isNone d)
  | .is, .bool a, .bool b => .ok (decide (a = b))
  | .isnot, .bool a, .bool b => .ok (!decide (a = b))
  | _, _, _ => .bad
def cmpD (o : Cop) (d e : D) : R D := (cmpB o d e).bind fun b => .ok (.bool b)

/-! dicts: keys ints and texts, or tuples of ints and None, nested -/
def isLeafK : D → Bool | .int _ => true | .str _ => true | _ => false
mutual
def nkey : D → Bool
  | .int _ => true
  | .none => true
  | .tuple ds => nkeys ds
  | .bool _ => false
  | .str _ => false
  | .list _ => false
  | .dict _ => false
def nkeys : List D → Bool
  | [] => true
  | d :: ds => nkey d && nkeys ds
end
def isNestK (d : D) : Bool := match d with | .tuple ds => nkeys ds && decide (d.depth ≤ 7) | _ => false
def keysOk (ks : List D) : Bool := ks.all isLeafK || ks.all isNestK
def dfind (kvs : List (D × D)) (k : D) : Option D := (kvs.find? fun p => PyData.eqv p.1 k).map (·.2)
def dputL (kvs : List (D × D)) (k v : D) : List (D × D) := match kvs.any fun p => PyData.eqv p.1 k with
  | true => kvs.map fun p => match PyData.eqv p.1 k with | true => (p.1, v) | false => p
  | false => kvs ++ [(k, v)]
def keyOk (kvs : List (D × D)) (k : D) : Bool := (isLeafK k && kvs.all fun p => isLeafK p.1) || (isNestK k && kvs.all fun p => isNestK p.1)
def dgetD : D → D → D → R D
  | .dict kvs, k, x => R.chk (keyOk kvs k) (.ok ((dfind kvs k).getD x))
  | _, _, _ => .bad
def pairsOf : List D → R (List (D × D))
  | [] => .ok []
  | .tuple [k, v] :: r => (pairsOf r).bind fun ps => .ok ((k, v) :: ps)
  | _ :: _ => .bad
def dictD : D → R D
  | .list ds => (pairsOf ds).bind fun ps => R.chk (keysOk (ps.map (·.1)) && decide (ps.length ≤ 100000)) (.ok (.dict (ps.foldl (fun acc p => dputL acc p.1 p.2) [])))
  | _ => .bad
def ixD : D → D → R D
  | .dict kvs, k => R.chk (keyOk kvs k) (match dfind kvs k with | some d => .ok d | none => .bad)
  | .list ds, .int i => match L2.atI ds i with | some d => .ok d | none => .bad
  | .tuple ds, .int i => match L2.atI ds i with | some d => .ok d | none => .bad
  | .str z, .int i => R.chk (decide (z.length ≤ lineN)) (match L2.atI z.cps.toList i with | some c => .ok (.str ⟨#[c]⟩) | none => .bad)
  | _, _ => .bad
def cutL {α : Type} (ds : List α) (lo hi : Option Int) : List α := (ds.drop (HT.sIx ds.length 0 lo)).take (HT.sIx ds.length ds.length hi - HT.sIx ds.length 0 lo)
def slD (d : D) (lo hi : Option Int) : R D := match d with
  | .list ds => .ok (.list (cutL ds lo hi))
  | .tuple ds => .ok (.tuple (cutL ds lo hi))
  | .str z => R.chk (decide (z.length ≤ lineN)) (.ok (.str (L2.cutS z lo hi)))
  | _ => .bad
def revD : D → R D
  | .list ds => .ok (.list ds.reverse)
  | .tuple ds => R.chk (decide (ds.length ≤ lineN)) (.ok (.tuple ds.reverse))
  | .str z => R.chk (decide (z.length ≤ lineN)) (.ok (.str ⟨z.cps.toList.reverse.toArray⟩))
  | _ => .bad

def boolsOf : List D → R (List Bool)
  | [] => .ok []
  | .bool b :: r => (boolsOf r).bind fun bs => .ok (b :: bs)
  | _ :: _ => .bad
def intsOf : List D → R (List Int)
  | [] => .ok []
  | .int b :: r => (intsOf r).bind fun bs => .ok (b :: bs)
  | _ :: _ => .bad
def lenD : D → R D
  | .list ds => .ok (.int ds.length)
  | .tuple ds => .ok (.int ds.length)
  | .str z => R.chk (decide (z.length ≤ lineN)) (.ok (.int z.length))
  | _ => .bad
def isIntD : D → Bool | .int _ => true | .bool _ => true | _ => false
def isBoolD : D → Bool | .bool _ => true | _ => false
def isTupleD : D → Bool | .tuple _ => true | _ => false
def isListD : D → Bool | .list _ => true | _ => false
def isStrD : D → Bool | .str _ => true | _ => false
/-- dicts are not asked -/
def isq (b : Bool) (d : D) : R D := match d with | .dict _ => .bad | _ => .ok (.bool b)
/-! sorting, sets -/
def ins {α : Type} (le : α → α → Bool) (x : α) : List α → List α
  | [] => [x]
  | y :: ys => match le x y with | true => x :: y :: ys | false => y :: ins le x ys
def isort {α : Type} (le : α → α → Bool) : List α → List α
  | [] => []
  | x :: xs => ins le x (isort le xs)
def alikeAllB (ds : List D) : Bool := ds.all fun a => ds.all fun b => PySem.W.alike a b
def sortableB (ds : List D) : Bool := (ds.all fun d => match d with | .tuple (_ :: _) => true | _ => false) || ds.all fun d => match d with | .none => false | .tuple _ => false | _ => true
def depthB (ds : List D) : Bool := ds.all fun d => decide (d.depth ≤ 60)
def sortD (rev : Bool) (ds : List D) : R D := R.chk (decide (ds.length ≤ lineN) && alikeAllB ds && sortableB ds && depthB ds && nodics ds) (.ok (.list (isort (PySem.W.dataLe rev id) ds)))
def tupInts : D → R (List Int) | .tuple ds => intsOf ds | _ => .bad
def keysD : List D → R (List (List Int))
  | [] => .ok []
  | d :: r => (tupInts d).bind fun k => (keysD r).bind fun ks => .ok (k :: ks)
def distinct {α : Type} [DecidableEq α] : List α → List α
  | [] => []
  | x :: xs => match decide (x ∈ xs) with | true => distinct xs | false => x :: distinct xs
def rangeD (lo : Int) (n : Nat) : List D := (List.range n).map fun i => .int (lo + (i : Nat))
def rngD : List D → R (List D)
  | [.int j] => R.chk (decide (-(2 ^ 62) ≤ j) && decide (j < 2 ^ 62) && decide (j.toNat ≤ lineN)) (.ok (rangeD 0 j.toNat))
  | [.int i, .int j] => R.chk (decide (-(2 ^ 62) ≤ i) && decide (i < 2 ^ 62) && decide (-(2 ^ 62) ≤ j) && decide (j < 2 ^ 62) && decide ((j - i).toNat ≤ lineN)) (.ok (rangeD i (j - i).toNat))
  | _ => .bad
/-- the least of ints (and the greatest); the least of tuples -/
def minT (d : D) (ds : List D) : R D := R.chk (decide (ds.length ≤ 1000000) && alikeAllB (d :: ds) && depthB (d :: ds) && nodics (d :: ds)) (.ok (PySem.W.minD d ds))
def minD : List D → R D
  | [] => .bad
  | d :: ds => match isTupleD d with
    | true => minT d ds
    | false => (intsOf (d :: ds)).bind fun is => match is with | [] => .bad | i :: r => .ok (.int (r.foldl min i))
def maxD : List D → R D
  | [] => .bad
  | d :: ds => (intsOf (d :: ds)).bind fun is => match is with | [] => .bad | i :: r => .ok (.int (r.foldl max i))
def strsOf : List D → R (List Str)
  | [] => .ok []
  | .str b :: r => (strsOf r).bind fun bs => .ok (b :: bs)
  | _ :: _ => .bad
/-- the number of different ones -/
def lenSetL (ds : List D) : R D := match ds with
  | .int _ :: _ => (intsOf ds).bind fun is => R.chk (decide (is.length ≤ 4000)) (.ok (.int (distinct is).length))
  | _ => (strsOf ds).bind fun zs => R.chk (decide (zs.length ≤ 4000)) (.ok (.int (distinct zs).length))
def lenSetT (ds : List D) : R D := R.chk (decide (ds.length < 64)) ((keysD ds).bind fun ks => .ok (.int (distinct ks).length))
def isTupL : List D → Bool | .tuple _ :: _ => true | _ => false
def lenSetD : D → R D
  | .list ds => match isTupL ds with | true => lenSetT ds | false => lenSetL ds
  | .tuple ds => lenSetL ds
  | _ => .bad
/-- texts joined -/
def joinD : D → D → R D
  | .str sep, .list ds => (strsOf ds).bind fun zs => R.chk (decide ((zs.map (·.length)).sum + zs.length * sep.length ≤ lineN)) (.ok (.str (Str.join sep zs)))
  | .str sep, .tuple ds => (strsOf ds).bind fun zs => R.chk (decide ((zs.map (·.length)).sum + zs.length * sep.length ≤ lineN)) (.ok (.str (Str.join sep zs)))
  | _, _ => .bad
/-- the set of them, in order -/
def sortSetI (is : List Int) : List Int := isort (fun a b => decide (a ≤ b)) (distinct is)
def strLe (a b : Str) : Bool := !strLt b a
def sortSetS (is : List Str) : List Str := isort strLe (distinct is)
def encPI (p : Int × Int) : D := .tuple [.int p.1, .int p.2]
def pairsI : List D → R (List (Int × Int))
  | [] => .ok []
  | .tuple [.int x, .int y] :: r => R.chk (decide (0 ≤ x) && decide (x < 64) && decide (0 ≤ y) && decide (y < 64)) ((pairsI r).bind fun ps => .ok ((x, y) :: ps))
  | _ :: _ => .bad
def pairLe (a b : Int × Int) : Bool := decide (a.1 < b.1) || (decide (a.1 = b.1) && decide (a.2 ≤ b.2))
def sortSetP (ps : List (Int × Int)) : List (Int × Int) := isort pairLe (distinct ps)
def isIntL : List D → Bool | .int _ :: _ => true | _ => false
def sortSetL (ds : List D) : R D := match isIntL ds with
  | true => (intsOf ds).bind fun is => R.chk (decide (is.length ≤ 4000) && decide ((distinct is).length < 64)) (.ok (.list ((sortSetI is).map .int)))
  | false => match isTupL ds with
    | true => (pairsI ds).bind fun ps => R.chk (decide (ps.length < 64)) (.ok (.list ((sortSetP ps).map encPI)))
    | false => (strsOf ds).bind fun zs => R.chk (decide (zs.length ≤ 4000)) (.ok (.list ((sortSetS zs).map .str)))
def sortSetD : D → R D
  | .list ds => sortSetL ds
  | .str z => sortSetL (z.cps.toList.map fun c => .str ⟨#[c]⟩)
  | _ => .bad
def indexD : D → D → R D
  | .list ds, k => R.chk (shp k && shp (.list ds)) (match ds.findIdx? fun z => PyData.eqv z k with | some i => .ok (.int i) | none => .bad)
  | .str z, .str x => match Builtin.Str.occurrences z x 0 z.length 1 with | i :: _ => .ok (.int (i : Nat)) | [] => .bad
  | _, _ => .bad
def biD : BI → List D → R D
  | .join, [d, e] => joinD d e
  | .index, [d, e] => indexD d e
  | .dict, [d] => dictD d
  | .sortset, [d] => sortSetD d
  | .lrange, ds => (rngD ds).bind fun r => .ok (.list r)
  | .trange, ds => (rngD ds).bind fun r => .ok (.tuple r)
  | .rsorted, [.dict kvs] => sortD true (kvs.map (·.1))
  | .rsorted, [.list ds] => sortD true ds
  | .sorted, [.tuple ds] => sortD false ds
  | .sorted, [.dict kvs] => sortD false (kvs.map (·.1))
  | .sorted, [.str z] => R.chk (decide (z.length ≤ lineN)) (sortD false (z.cps.toList.map fun c => .str ⟨#[c]⟩))
  | .sorted, [.list ds] => sortD false ds
  | .lenset, [d] => lenSetD d
  | .min, [.list ds] => minD ds
  | .max, [.list ds] => maxD ds
  | .list, [.str z] => R.chk (decide (z.length ≤ lineN)) (.ok (.list (z.cps.toList.map fun c => .str ⟨#[c]⟩)))
  | .min, [.int i, .int j] => .ok (.int (if j < i then j else i))
  | .max, [.int i, .int j] => .ok (.int (if j > i then j else i))
  | .len, [d] => lenD d
  | .all, [.list ds] => (boolsOf ds).bind fun bs => .ok (.bool (bs.all id))
  | .sum, [.list ds] => (intsOf ds).bind fun is => .ok (.int is.sum)
  | .list, [.list ds] => .ok (.list ds)
  | .list, [.tuple ds] => .ok (.list ds)
  | .tuple, [.list ds] => .ok (.tuple ds)
  | .tuple, [.tuple ds] => .ok (.tuple ds)
  | .int, [.int i] => .ok (.int i)
  | .isInt, [d] => isq (isIntD d) d
  | .isBool, [d] => isq (isBoolD d) d
  | .isTuple, [d] => isq (isTupleD d) d
  | .isList, [d] => isq (isListD d) d
  | .isStr, [d] => isq (isStrD d) d
  | _, _ => .bad

/-! ### the environment -/
abbrev Env := List (Option (Bool × D))
/-- the value of a name; t: where a value is only read (its own list may be handed) -/
def getV (t : Bool) (env : Env) (i : Nat) : R D := match env[i]? with
  | some (some (o, d)) => R.chk (t || !o) (.ok d)
  | _ => .bad
/-- names as targets: a name, or a tuple of names -/
def bindTs : C → List D → Env → R Env
  | .nil, [], env => .ok env
  | .cons (.var i) t, d :: ds, env => R.chk (decide (i < env.length)) (bindTs t ds (env.set i (some (false, d))))
  | _, _, _ => .bad
def bindT : C → D → Env → R Env
  | .var i, d, env => R.chk (decide (i < env.length)) (.ok (env.set i (some (false, d))))
  | .tup ts, .tuple ds, env => bindTs ts ds env
  | _, _, _ => .bad
def tgVars : C → List Nat
  | .var i => [i]
  | .nil => []
  | .cons h t => tgVars h ++ tgVars t
  | .tup ts => tgVars ts
  | _ => []
def wipeE (env : Env) : List Nat → Env
  | [] => env
  | v :: vs => (wipeE env vs).set v none
def pairs : Int → List D → List D
  | _, [] => []
  | k, d :: ds => .tuple [.int k, d] :: pairs (k + 1) ds
def zips : List D → List D → List D
  | a :: as, b :: bs => .tuple [a, b] :: zips as bs
  | _, _ => []
/-- a comprehension's items -/
def lcGo (f : D → R (Option D)) : List D → R (List D)
  | [] => .ok []
  | x :: xs => (f x).bind fun o => (lcGo f xs).bind fun r => .ok (match o with | some d => d :: r | none => r)
/-- which of the functions -/
def pickF (fs : List Str) : D → R Str | .int i => (match L2.atI fs i with | some f => .ok f | none => .bad) | _ => .bad
def optInt : D → R (Option Int) | .int i => .ok (some i) | _ => .bad

def isDicD : D → Bool | .dict _ => true | _ => false
def negD : D → R D | .int i => .ok (.int (-i)) | _ => .bad
/-- what a text's names mean: its defs, its constants -/
structure Sig where
  cl : Str → List D → R D
  gl : Str → R D
  /-- is the class a subclass of the other -/
  sub : Str → Str → Bool
mutual
def ev (S : Sig) (t : Bool) : C → Env → R D
  | .var i, env => getV t env i
  | .cst d, _ => .ok d
  | .glob x, _ => S.gl x
  | .bin o a b, env => (ev S true a env).bind fun x => (ev S true b env).bind fun y => binD o x y
  | .cmp o a b, env => (ev S true a env).bind fun x => (ev S true b env).bind fun y => cmpD o x y
  | .chain o1 o2 a b c, env => (ev S true a env).bind fun x => (ev S true b env).bind fun y => (cmpB o1 x y).bind fun k =>
      match k with | true => (ev S true c env).bind fun z => cmpD o2 y z | false => .ok (.bool false)
  | .band es, env => evAnd S es env
  | .bor es, env => evOr S es env
  | .neg a, env => (ev S true a env).bind negD
  | .bnot a, env => (ev S true a env).bind fun x => (toBool x).bind fun k => .ok (.bool (!k))
  | .ife c a b, env => (ev S true c env).bind fun x => (toBool x).bind fun k => match k with | true => ev S false a env | false => ev S false b env
  | .tup es, env => (evs S false es env).bind fun ds => R.chk (decide (ds.length ≤ lineN)) (.ok (.tuple ds))
  | .lst es, env => (evs S false es env).bind fun ds => R.chk (decide (ds.length ≤ lineN)) (.ok (.list ds))
  | .idx a b, env => (ev S true a env).bind fun x => (ev S true b env).bind fun y => ixD x y
  | .sl a lo hi, env => (ev S true a env).bind fun x => (evO S lo env).bind fun l => (evO S hi env).bind fun h => slD x l h
  | .rev a, env => (ev S true a env).bind fun x => revD x
  | .call f es, env => (evs S false es env).bind fun ds => S.cl f ds
  | .calls fs k es, env => (ev S true k env).bind fun x => (pickF fs x).bind fun f => (evs S false es env).bind fun ds => S.cl f ds
  | .bi b es, env => (evs S true es env).bind fun ds => biD b ds
  | .dnew, _ => .ok (.dict [])
  | .dget a b c, env => (ev S true a env).bind fun x => R.chk (isDicD x) ((ev S true b env).bind fun y => (ev S false c env).bind fun z => dgetD x y z)
  | .lc tg it cond elt, env => (its S it env).bind fun xs =>
      (lcGo (fun x => ((bindT tg x (wipeE env (tgVars tg))).bind fun env' => (evC S cond env').bind fun k => match k with | true => (ev S false elt env').bind fun d => .ok (some d) | false => .ok none).nox) xs).bind fun ds => .ok (.list ds)
  | _, _ => .bad
def evC (S : Sig) : C → Env → R Bool
  | .nil, _ => .ok true
  | .cons c .nil, env => (ev S true c env).bind toBool
  | _, _ => .bad
def evAnd (S : Sig) : C → Env → R D
  | .cons a .nil, env => ev S false a env
  | .cons a r, env => (ev S true a env).bind fun x => (toBool x).bind fun k => match k with | true => evAnd S r env | false => .ok (.bool false)
  | _, _ => .bad
def evOr (S : Sig) : C → Env → R D
  | .cons a .nil, env => ev S false a env
  | .cons a r, env => (ev S true a env).bind fun x => (toBool x).bind fun k => match k with | true => .ok (.bool true) | false => evOr S r env
  | _, _ => .bad
def evO (S : Sig) : C → Env → R (Option Int)
  | .nil, _ => .ok none
  | .cons a .nil, env => (ev S true a env).bind optInt
  | _, _ => .bad
def evs (S : Sig) (t : Bool) : C → Env → R (List D)
  | .nil, _ => .ok []
  | .cons h r, env => (ev S t h env).bind fun d => (evs S t r env).bind fun ds => .ok (d :: ds)
  | _, _ => .bad
def its (S : Sig) : C → Env → R (List D)
  | .itm a, env => (ev S false a env).bind itemsK
  | .enum a, env => (ev S false a env).bind fun d => (items d).bind fun xs => .ok (pairs 0 xs)
  | .zip a b, env => (ev S false a env).bind fun d => (ev S false b env).bind fun e => (items d).bind fun xs => (items e).bind fun ys => .ok (zips xs ys)
  | .rng es, env => (evs S true es env).bind rngD
  | _, _ => .bad
end

/-! ### statements -/
inductive SR where
  | nx (env : Env) | rt (d : D) | bk (env : Env) | ct (env : Env) | exc (c : Str) (env : Env) | bad
def R.toS {α : Type} (x : R α) (env : Env) (f : α → SR) : SR := match x with
  | .ok a => f a
  | .exc c => .exc c env
  | .bad => .bad
@[simp] theorem R.toS_ok {α : Type} (a : α) (env : Env) (f : α → SR) : (R.ok a).toS env f = f a := rfl
@[simp] theorem R.toS_exc {α : Type} (c : Str) (env : Env) (f : α → SR) : (R.exc c : R α).toS env f = .exc c env := rfl
@[simp] theorem R.toS_bad {α : Type} (env : Env) (f : α → SR) : (R.bad : R α).toS env f = .bad := rfl
def SR.then (r : SR) (f : Env → SR) : SR := match r with
  | .nx env => f env
  | .rt d => .rt d
  | .bk env => .bk env
  | .ct env => .ct env
  | .exc c env => .exc c env
  | .bad => .bad
@[simp] theorem SR.then_nx (env : Env) (f : Env → SR) : (SR.nx env).then f = f env := rfl
@[simp] theorem SR.then_rt (d : D) (f : Env → SR) : (SR.rt d).then f = .rt d := rfl
@[simp] theorem SR.then_exc (c : Str) (env : Env) (f : Env → SR) : (SR.exc c env).then f = .exc c env := rfl
@[simp] theorem SR.then_bad (f : Env → SR) : (SR.bad).then f = .bad := rfl
@[simp] theorem SR.then_bk (env : Env) (f : Env → SR) : (SR.bk env).then f = .bk env := rfl
@[simp] theorem SR.then_ct (env : Env) (f : Env → SR) : (SR.ct env).then f = .ct env := rfl
/-- behind a turn -/
def SR.turn (r : SR) (f : Env → SR) : SR := match r with
  | .nx env => f env
  | .ct env => f env
  | .bk env => .nx env
  | .rt d => .rt d
  | .exc c env => .exc c env
  | .bad => .bad
def forGo (f : D → Env → SR) : List D → Env → SR
  | [], env => .nx env
  | x :: xs, env => (f x env).turn (forGo f xs)
def whileGo (c : Env → R Bool) (f : Env → SR) : Nat → Env → SR
  | 0, _ => .bad
  | n + 1, env => (c env).toS env fun k => match k with
    | false => .nx env
    | true => (f env).turn (whileGo c f n)
def putO (env : Env) (i : Nat) (own : Bool) (d : D) : SR := match own, d with
  | true, .list ds => .nx (env.set i (some (true, .list ds)))
  | true, .dict ds => .nx (env.set i (some (true, .dict ds)))
  | true, _ => .bad
  | false, d => .nx (env.set i (some (false, d)))
def chkS (b : Bool) (x : SR) : SR := match b with | true => x | false => .bad
@[simp] theorem chkS_true (x : SR) : chkS true x = x := rfl
@[simp] theorem chkS_false (x : SR) : chkS false x = .bad := rfl
/-- the list that the slot owns grows -/
def appO (env : Env) (i : Nat) (ds : List D) : SR := match env[i]? with
  | some (some (true, .list xs)) => chkS (decide (xs.length + ds.length ≤ lineN)) (.nx (env.set i (some (true, .list (xs ++ ds)))))
  | _ => .bad
def ownL (env : Env) (i : Nat) : Bool := match env[i]? with
  | some (some (true, .list _)) => true
  | _ => false
def freeze (env : Env) (i : Nat) : Env := match env[i]? with
  | some (some (_, d)) => env.set i (some (false, d))
  | _ => env
/-- the dict (or the list) that the slot owns takes a value -/
def dputO (env : Env) (i : Nat) (k v : D) : SR := match env[i]? with
  | some (some (true, .dict kvs)) => chkS (keyOk kvs k && decide (kvs.length < lineN)) (.nx (env.set i (some (true, .dict (dputL kvs k v)))))
  | _ => .bad
/-- an item leaves the list that the slot owns -/
def popL (xs : List D) (i : Int) : Option (D × List D) := match L2.ixN xs.length i with
  | some n => (match xs[n]? with | some d => some (d, xs.eraseIdx n) | none => none)
  | none => none
def popO (env : Env) (j : Nat) (k : D) : R (D × Env) := match env[j]?, k with
  | some (some (true, .list xs)), .int i => R.chk (decide (xs.length ≤ lineN)) (match popL xs i with
    | some (d, r) => .ok (d, env.set j (some (true, .list r)))
    | none => .bad)
  | _, _ => .bad
def ownDi (env : Env) (i : Nat) : Bool := match env[i]? with
  | some (some (true, .dict _)) => true
  | _ => false
def unlist : D → R (List D) | .list ds => .ok ds | _ => .bad
def ownD : D → R D | .list ds => .ok (.list ds) | .dict kvs => .ok (.dict kvs) | _ => .bad
/-- several values, each to its name: what is laid beside the slots -/
def evPar (S : Sig) : C → List Bool → Env → R Env
  | .nil, [], _ => .ok []
  | .cons e r, true :: os, env => (ev S false e env).bind fun d => (ownD d).bind fun d => (evPar S r os env).bind fun ts => .ok (some (true, d) :: ts)
  | .cons e r, false :: os, env => (ev S false e env).bind fun d => (evPar S r os env).bind fun ts => .ok (some (false, d) :: ts)
  | _, _, _ => .bad
def putPar : C → Env → Env → R Env
  | .nil, [], env => .ok env
  | .cons (.var i) r, t :: ts, env => R.chk (decide (i < env.length)) (putPar r ts (env.set i t))
  | _, _, _ => .bad
/-- the first True -/
def firstTrue : List Bool → R D
  | [] => .bad
  | true :: _ => .ok (.int 0)
  | false :: r => (firstTrue r).bind fun d => match d with | .int i => .ok (.int (i + 1)) | _ => .bad
def ex (S : Sig) (fuel : Nat) : C → Env → SR
  | .tryx x ei fi gs body, env => match ex S fuel body env with
    | .exc n env' => match S.sub n x with | true => chkS (decide (ei < env'.length) && decide (fi < env'.length)) ((firstTrue (gs.flatten.map (S.sub n))).toS env' .rt) | false => .bad
    | r => r
  | .skip, env => .nx env
  | .seq a b, env => (ex S fuel a env).then (ex S fuel b)
  | .fz i r, env => ex S fuel r (freeze env i)
  | .asg i own e, env => (ev S false e env).toS env fun d => chkS (decide (i < env.length)) (putO env i own d)
  | .unp tg e, env => (ev S false e env).toS env fun d => (bindT tg d env).toS env .nx
  | .par tg own es, env => (evPar S es own env).toS env fun ts => (putPar tg ts env).toS env .nx
  | .iff c a b, env => ((ev S true c env).bind toBool).toS env fun k => match k with | true => ex S fuel a env | false => ex S fuel b env
  | .for_ tg it body, env => (its S it env).toS env fun xs => forGo (fun x env => (bindT tg x env).toS env (ex S fuel body)) xs env
  | .while_ c body, env => whileGo (fun env => (ev S true c env).bind toBool) (ex S fuel body) fuel env
  | .ret e, env => (ev S false e env).toS env .rt
  | .app i e, env => chkS (ownL env i) ((ev S false e env).toS env fun d => appO env i [d])
  | .ext i e, env => chkS (ownL env i) ((ev S false e env).toS env fun d => (unlist d).toS env fun ds => appO env i ds)
  | .exp e, env => (ev S false e env).toS env fun _ => .nx env
  | .dput i k v, env => chkS (ownDi env i) ((ev S false v env).toS env fun y => (ev S false k env).toS env fun x => dputO env i x y)
  | .apop i j e, env => chkS (ownL env i && ownL env j && decide (i ≠ j)) ((ev S false e env).toS env fun k => (popO env j k).toS env fun p => appO p.2 i [p.1])
  | .popu tg j, env => (popO env j (.int (-1))).toS env fun p => (bindT tg p.1 p.2).toS env .nx
  | .raise x, env => .exc x env
  | _, _ => .bad
/-- a def called: its body from its arguments -/
structure Def where
  names : Nat
  arity : Nat
  body : C
def SR.fin (r : SR) : R D := match r with
  | .rt d => .ok d
  | .nx _ => .ok .none
  | .exc c _ => .exc c
  | _ => .bad
def startE (n : Nat) (ds : List D) : Env := ds.map (fun d => some (false, d)) ++ List.replicate (n - ds.length) none
def callD (defs : Str → Option Def) (gl : Str → R D) (sub : Str → Str → Bool) (fuel : Nat) : Nat → Str → List D → R D
  | 0, _, _ => .bad
  | n + 1, f, ds => match defs f with
    | none => .bad
    | some df => R.chk (decide (ds.length = df.arity)) (ex ⟨callD defs gl sub fuel n, gl, sub⟩ fuel df.body (startE df.names ds)).fin
end Rf

set_option Elab.async false
set_option linter.all false
set_option maxHeartbeats 1000000
/-! Rf, part B: data in the heap; the operations by their rules. -/
namespace Rf
open PySem PySem.Spec PyProof.Rows L2

theorem lineN_eq : lineN = sizeLine := by rw [sizeLine_eq]; rfl
theorem chk_ok {α : Type} {b : Bool} {x : R α} {a : α} (h : R.chk b x = .ok a) : b = true ∧ x = .ok a := by
  cases b with
  | true => exact ⟨rfl, h⟩
  | false => cases h
theorem bind_ok {α β : Type} {x : R α} {f : α → R β} {b : β} (h : x.bind f = .ok b) : ∃ a, x = .ok a ∧ f a = .ok b := by
  cases x with
  | ok a => exact ⟨a, rfl, h⟩
  | exc c => cases h
  | bad => cases h

/-! ### heaps -/
def Gr (F H H' : Hp) : Hp := fun a => match H a with | none => H' a | some _ => F a
theorem gr_none {F H H' : Hp} {a : Addr} (h : H a = none) : Gr F H H' a = H' a := by unfold Gr; rw [h]
theorem gr_some {F H H' : Hp} {a : Addr} {o : HO} (h : H a = some o) : Gr F H H' a = F a := by unfold Gr; rw [h]
theorem gr_sub {F H H' : Hp} (f : Same F H) (s : Same H H') : Same (Gr F H H') H' := fun a o e => by
  cases q : H a with
  | none => rw [gr_none q] at e; exact e
  | some u => rw [gr_some q] at e; exact s a o (f a o e)
theorem gr_F {F H H' : Hp} (f : Same F H) : Same F (Gr F H H') := fun a o e => by
  rw [gr_some (f a o e)]; exact e
theorem gr_left {F H H1 H2 : Hp} (s : Same H1 H2) : Same (Gr F H H1) (Gr F H H2) := fun a o e => by
  cases q : H a with
  | none => rw [gr_none q] at e ⊢; exact s a o e
  | some u => rw [gr_some q] at e ⊢; exact e
theorem gr_gr {F H H1 H2 : Hp} (s : Same H H1) (s2 : Same H1 H2) : Same (Gr (Gr F H H1) H1 H2) (Gr F H H2) := fun a o e => by
  cases q1 : H1 a with
  | none =>
    rw [gr_none q1] at e
    have q : H a = none := s.free q1
    rw [gr_none q]; exact e
  | some u =>
    rw [gr_some q1] at e
    exact gr_left s2 a o e
theorem gr_right {F H H1 H2 : Hp} (f : Same F H) (s : Same H H1) (s2 : Same H1 H2) : Same (Gr F H1 H2) (Gr F H H2) := fun a o e => by
  cases q1 : H1 a with
  | none =>
    rw [gr_none q1] at e
    have q : H a = none := s.free q1
    rw [gr_none q]; exact e
  | some u =>
    rw [gr_some q1] at e
    rw [gr_some (f a o e)]; exact e
theorem gr_self {F H : Hp} : Same (Gr F H H) F := fun a o e => by
  cases q : H a with
  | none => rw [gr_none q, q] at e; cases e
  | some u => rw [gr_some q] at e; exact e
theorem same_upd {H : Hp} {p : Addr} {o : HO} (h : H p = none) : Same H (upd H p o) := fun a u e => by
  rw [upd_ne (ne_of_none e h)]; exact e

theorem _root_.L2.Same.rd {H H' : Hp} {a : Addr} {u : HO} (e : Same H H') (h : Rd H a u) : Rd H' a u := by
  rcases h with h | ⟨o, h⟩
  · exact .inl (e _ _ h)
  · exact .inr ⟨o, e _ _ h⟩
theorem _root_.L2.Same.sqL {K : PySem.W.Frag} {H H' : Hp} {a : Addr} {xs : List V} (e : Same H H') (h : SqL K H a xs) : SqL K H' a xs := by
  rcases h with h | h
  · exact .inl (e.rd h)
  · exact .inr h
theorem _root_.L2.Same.sqT {K : PySem.W.Frag} {H H' : Hp} {a : Addr} {xs : List V} (e : Same H H') (h : SqT K H a xs) : SqT K H' a xs := by
  rcases h with h | h
  · exact .inl (e.rd h)
  · exact .inr h

/-! ### dicts: their objects -/
def kD : Key → D | .inl i => .int i | .inr z => .str z
mutual
/-- a datum as a key -/
def nkOf : D → NestedKey
  | .int i => .num i
  | .none => .none
  | .tuple ds => .tup (nksOf ds)
  | .bool _ => .none
  | .str x => .text x
  | .list _ => .none
  | .dict _ => .none
def nksOf : List D → List NestedKey
  | [] => []
  | d :: ds => nkOf d :: nksOf ds
end
/-- a dict whose keys are tuples of ints and None, nested -/
def dN (a : Addr) (ents : List (D × Addr × V)) : HO := .ext fun h => ents.length ≤ sizeLine ∧ (a == sysModules) = false ∧ (ents.map fun e => nkOf e.1).Nodup ∧
  ∃ xs : List (NestedKey × Addr × Value), Paired (fun (p : D × Addr × V) (q : NestedKey × Addr × Value) => q.1 = nkOf p.1 ∧ p.2.1 = q.2.1 ∧ RelV p.2.2 q.2.2) ents xs ∧
  ∃ o es ep, h.get? a = some o ∧ o.ExactDict ∧ o.data = .dict es ep ∧ ∀ (P : Program) (w : World), es.toList = xs.map (entryOfKey (nestedKind P w))
/-- o is a dict's object: its keys, as values and as data, and what they map to -/
def DO (a : Addr) (o : HO) (kv : List V) (ks : List D) (vv : List V) : Prop :=
  (∃ ents : List (Key × V), o = .dK ents ∧ kv = ents.map (fun e => kV e.1) ∧ ks = ents.map (fun e => kD e.1) ∧ vv = ents.map (·.2)) ∨
  (∃ ents : List (D × Addr × V), o = dN a ents ∧ kv = ents.map (fun e => V.ref e.2.1) ∧ ks = ents.map (·.1) ∧ vv = ents.map (·.2.2) ∧ ∀ e ∈ ents, isNestK e.1 = true)
theorem DO.len {a : Addr} {o : HO} {kv : List V} {ks : List D} {vv : List V} (h : DO a o kv ks vv) : kv.length = ks.length ∧ vv.length = ks.length := by
  rcases h with ⟨ents, _, rfl, rfl, rfl⟩ | ⟨ents, _, rfl, rfl, rfl, _⟩ <;> simp

/-! ### data in the heap -/
mutual
inductive Rp (K : PySem.W.Frag) (H : Hp) : V → D → Prop
  | dic {a : Addr} {ob : Obj} {o : HO} {kv vv : List V} {ks ds : List D} {kvs : List (D × D)} : H a = some (.frz ob o) → DO a o kv ks vv → RpL K H kv ks → RpL K H vv ds → kvs = ks.zip ds → Rp K H (.ref a) (.dict kvs)
  | non : Rp K H .non .none
  | bl (b : Bool) : Rp K H (.bl b) (.bool b)
  | int (i : Int) : Rp K H (.int i) (.int i)
  | str (x : Str) : Rp K H (.str x) (.str x)
  | lst {a : Addr} {xs : List V} {ds : List D} : SqL K H a xs → RpL K H xs ds → Rp K H (.ref a) (.list ds)
  | tup {a : Addr} {xs : List V} {ds : List D} : SqT K H a xs → RpL K H xs ds → Rp K H (.ref a) (.tuple ds)
inductive RpL (K : PySem.W.Frag) (H : Hp) : List V → List D → Prop
  | nil : RpL K H [] []
  | cons {v : V} {vs : List V} {d : D} {ds : List D} : Rp K H v d → RpL K H vs ds → RpL K H (v :: vs) (d :: ds)
end
mutual
theorem Rp.mono {K : PySem.W.Frag} {H H' : Hp} (s : Same H H') : ∀ {v : V} {d : D}, Rp K H v d → Rp K H' v d
  | _, _, .dic h1 h2 r1 r2 e => .dic (s _ _ h1) h2 (RpL.mono s r1) (RpL.mono s r2) e
  | _, _, .non => .non
  | _, _, .bl b => .bl b
  | _, _, .int i => .int i
  | _, _, .str x => .str x
  | _, _, .lst h r => .lst (s.sqL h) (RpL.mono s r)
  | _, _, .tup h r => .tup (s.sqT h) (RpL.mono s r)
theorem RpL.mono {K : PySem.W.Frag} {H H' : Hp} (s : Same H H') : ∀ {vs : List V} {ds : List D}, RpL K H vs ds → RpL K H' vs ds
  | _, _, .nil => .nil
  | _, _, .cons h r => .cons (Rp.mono s h) (RpL.mono s r)
end
mutual
theorem Rp.dp {K : PySem.W.Frag} {H : Hp} : ∀ {v : V} {d : D}, Rp K H v d → nodic d = true → Dp K H v d
  | _, _, .non, _ => .non
  | _, _, .bl b, _ => .bl b
  | _, _, .int i, _ => .int i
  | _, _, .str x, _ => .str x
  | _, _, .lst h r, n => .lst h (RpL.dp r (by rw [nodic] at n; exact n))
  | _, _, .tup h r, n => .tup h (RpL.dp r (by rw [nodic] at n; exact n))
  | _, _, .dic _ _ _ _ _, n => by rw [nodic] at n; cases n
theorem RpL.dp {K : PySem.W.Frag} {H : Hp} : ∀ {vs : List V} {ds : List D}, RpL K H vs ds → nodics ds = true → DpAll K H vs ds
  | _, _, .nil, _ => .nil
  | _, _, .cons h r, n => by
    rw [nodics, Bool.and_eq_true] at n
    exact .cons (Rp.dp h n.1) (RpL.dp r n.2)
end
mutual
theorem nodic_lay : ∀ {d : D}, d.canLay0 = true → nodic d = true
  | .none, _ => rfl
  | .bool _, _ => rfl
  | .int _, _ => rfl
  | .str _, _ => rfl
  | .list _, h => by rw [nodic]; exact nodics_lay h
  | .tuple _, h => by rw [nodic]; exact nodics_lay h
  | .dict _, h => by cases h
theorem nodics_lay : ∀ {ds : List D}, PyData.canLayAll0 ds = true → nodics ds = true
  | [], _ => rfl
  | d :: ds, h => by
    have h : (d.canLay0 && PyData.canLayAll0 ds) = true := h
    rw [Bool.and_eq_true] at h
    rw [nodics, nodic_lay h.1, nodics_lay h.2]; rfl
end
theorem nodic_shp {d : D} (h : SeqAt.shaped d = true) : nodic d = true := nodic_lay (SeqAt.canLay_of_shaped h)
/-- a dict's object and what is within -/
def DR (K : PySem.W.Frag) (G : Hp) (a : Addr) (o : HO) (kvs : List (D × D)) : Prop := ∃ kv ks vv ds, DO a o kv ks vv ∧ RpL K G kv ks ∧ RpL K G vv ds ∧ kvs = ks.zip ds
theorem DR.mono {K : PySem.W.Frag} {G G' : Hp} {a : Addr} {o : HO} {kvs : List (D × D)} (h : DR K G a o kvs) (s : Same G G') : DR K G' a o kvs := by
  obtain ⟨kv, ks, vv, ds, h1, h2, h3, h4⟩ := h
  exact ⟨kv, ks, vv, ds, h1, RpL.mono s h2, RpL.mono s h3, h4⟩
/-- the top in H, what is within in G -/
def RpT (K : PySem.W.Frag) (G H : Hp) (v : V) : D → Prop
  | .none => v = .non
  | .bool b => v = .bl b
  | .int i => v = .int i
  | .str z => v = .str z
  | .list ds => ∃ a vs, v = .ref a ∧ SqL K H a vs ∧ RpL K G vs ds
  | .tuple ds => ∃ a vs, v = .ref a ∧ SqT K G a vs ∧ RpL K G vs ds
  | .dict kvs => ∃ a o, v = .ref a ∧ Rd H a o ∧ DR K G a o kvs
section
variable {K : PySem.W.Frag} {F G H H' H1 : Hp} {v : V} {d : D} {vs : List V} {ds : List D}
theorem Rp.top (h : Rp K G v d) (s : Same G H) : RpT K G H v d := by
  cases h with
  | non => rfl
  | bl b => rfl
  | int i => rfl
  | str x => rfl
  | lst h r => exact ⟨_, _, rfl, s.sqL h, r⟩
  | tup h r => exact ⟨_, _, rfl, h, r⟩
  | dic h1 h2 r1 r2 e => exact ⟨_, _, rfl, .inr ⟨_, s _ _ h1⟩, _, _, _, _, h2, r1, r2, e⟩
theorem RpT.rp (h : RpT K G H v d) (s : Same G H) (nd : ∀ k, d ≠ .dict k) : Rp K H v d := by
  cases d with
  | none => cases (show v = .non from h); exact .non
  | bool b => cases (show v = .bl b from h); exact .bl b
  | int i => cases (show v = .int i from h); exact .int i
  | str z => cases (show v = .str z from h); exact .str z
  | list ds => obtain ⟨a, vs, rfl, h1, h2⟩ := h; exact .lst h1 (RpL.mono s h2)
  | tuple ds => obtain ⟨a, vs, rfl, h1, h2⟩ := h; exact .tup (s.sqT h1) (RpL.mono s h2)
  | dict k => exact (nd k rfl).elim
theorem RpT.dp2 (h : RpT K G H v d) (s : Same G H) (n : nodic d = true) : Dp K H v d := (h.rp s fun k z => by subst z; cases n).dp n
theorem RpT.mono {G' : Hp} (h : RpT K G H v d) (g : Same G G') (s : Same H H') : RpT K G' H' v d := by
  cases d with
  | none => exact h
  | bool b => exact h
  | int i => exact h
  | str z => exact h
  | list ds => obtain ⟨a, vs, rfl, h1, h2⟩ := h; exact ⟨a, vs, rfl, s.sqL h1, RpL.mono g h2⟩
  | tuple ds => obtain ⟨a, vs, rfl, h1, h2⟩ := h; exact ⟨a, vs, rfl, g.sqT h1, RpL.mono g h2⟩
  | dict _ => obtain ⟨a, o, rfl, h1, h2⟩ := h; exact ⟨a, o, rfl, s.rd h1, h2.mono g⟩
theorem RpL.length : ∀ {vs : List V} {ds : List D}, RpL K H vs ds → vs.length = ds.length
  | _, _, .nil => rfl
  | _, _, .cons _ r => by simp only [List.length_cons]; rw [RpL.length r]
theorem RpL.get : ∀ {vs : List V} {ds : List D} {i : Nat} {d : D}, RpL K H vs ds → ds[i]? = some d → ∃ v, vs[i]? = some v ∧ Rp K H v d
  | _, _, _, _, .nil, e => by simp at e
  | _, _, 0, _, .cons h _, e => by simp at e; subst e; exact ⟨_, rfl, h⟩
  | _, _, i + 1, d, .cons _ r, e => by
    obtain ⟨v, h1, h2⟩ := RpL.get (i := i) (d := d) r (by simpa using e)
    exact ⟨v, by simpa using h1, h2⟩
theorem RpL.app : ∀ {vs us : List V} {ds es : List D}, RpL K H vs ds → RpL K H us es → RpL K H (vs ++ us) (ds ++ es)
  | _, _, _, _, .nil, s => s
  | _, _, _, _, .cons h r, s => .cons h (RpL.app r s)
theorem RpL.take : ∀ {vs : List V} {ds : List D} (n : Nat), RpL K H vs ds → RpL K H (vs.take n) (ds.take n)
  | _, _, 0, _ => .nil
  | _, _, _ + 1, .nil => .nil
  | _, _, n + 1, .cons h r => .cons h (RpL.take n r)
theorem RpL.drop : ∀ {vs : List V} {ds : List D} (n : Nat), RpL K H vs ds → RpL K H (vs.drop n) (ds.drop n)
  | _, _, 0, r => r
  | _, _, _ + 1, .nil => .nil
  | _, _, n + 1, .cons _ r => RpL.drop n r
theorem RpL.rev : ∀ {vs : List V} {ds : List D}, RpL K H vs ds → RpL K H vs.reverse ds.reverse
  | _, _, .nil => .nil
  | _, _, .cons h r => by simp only [List.reverse_cons]; exact (RpL.rev r).app (.cons h .nil)
theorem RpL.cut {lo hi : Option Int} (h : RpL K H vs ds) : RpL K H (cutV vs lo hi) (cutL ds lo hi) := by
  unfold cutV cutL
  rw [h.length]
  exact (h.drop _).take _
theorem RpL.rep : ∀ (n : Nat), RpL K H vs ds → RpL K H (List.replicate n vs).flatten (List.replicate n ds).flatten
  | 0, _ => .nil
  | n + 1, h => by simp only [List.replicate_succ, List.flatten_cons]; exact h.app (RpL.rep n h)
theorem atI_rp {i : Int} (h : RpL K H vs ds) (e : atI ds i = some d) : ∃ v, atI vs i = some v ∧ Rp K H v d := by
  unfold atI at e ⊢
  rw [h.length]
  cases q : ixN ds.length i with
  | none => rw [q] at e; cases e
  | some j =>
    rw [q] at e
    obtain ⟨v, h1, h2⟩ := h.get (i := j) (d := d) e
    exact ⟨v, h1, h2⟩
theorem RpL.intsOf : ∀ {ds : List D} {is : List Int} {vs : List V}, RpL K H vs ds → intsOf ds = .ok is → vs = is.map V.int
  | [], is, _, .nil, e => by cases e; rfl
  | _ :: _, is, _, .cons h r, e => by
    cases h with
    | int i =>
      obtain ⟨bs, e1, e2⟩ := bind_ok (show (Rf.intsOf _).bind _ = _ from e)
      cases e2
      rw [RpL.intsOf r e1]; rfl
    | _ => cases e
theorem RpL.boolsOf : ∀ {ds : List D} {is : List Bool} {vs : List V}, RpL K H vs ds → boolsOf ds = .ok is → vs = is.map V.bl
  | [], is, _, .nil, e => by cases e; rfl
  | _ :: _, is, _, .cons h r, e => by
    cases h with
    | bl i =>
      obtain ⟨bs, e1, e2⟩ := bind_ok (show (Rf.boolsOf _).bind _ = _ from e)
      cases e2
      rw [RpL.boolsOf r e1]; rfl
    | _ => cases e
end

/-! ### what is wanted of a result -/
def PostV (K : PySem.W.Frag) (F H : Hp) (r : R D) (Q : VK) : Prop := match r with
  | .ok d => ∀ v H', Same H H' → Rp K (Gr F H H') v d → Q v H'
  | _ => False
/-- a new list -/
def PostN (K : PySem.W.Frag) (F H : Hp) (ds : List D) (Q : VK) : Prop :=
  ∀ vs H1 p, Same H H1 → H1 p = none → RpL K (Gr F H H1) vs ds → Q (.ref p) (upd H1 p (.lst vs))
theorem PostV.n {K : PySem.W.Frag} {F H : Hp} {ds : List D} {Q : VK} (f : Same F H) (h : PostV K F H (.ok (.list ds)) Q) : PostN K F H ds Q := fun vs H1 p s n r =>
  h _ _ (fun a o e => same_upd n a o (s a o e)) (.lst (.inl (.inl (by rw [gr_none (s.free n), upd_same]))) (RpL.mono (gr_left (same_upd n)) r))
/-- a new tuple -/
theorem PostV.t {K : PySem.W.Frag} {F H : Hp} {ds : List D} {Q : VK} {vs : List V} {p : Addr} (f : Same F H) (h : PostV K F H (.ok (.tuple ds)) Q) (n : H p = none) (r : RpL K F vs ds) : Q (.ref p) (upd H p (.tup vs)) :=
  h _ _ (same_upd n) (.tup (.inl (.inl (by rw [gr_none n, upd_same]))) (RpL.mono (gr_F f) r))
theorem PostV.here {K : PySem.W.Frag} {F H : Hp} {d : D} {Q : VK} {v : V} (f : Same F H) (h : PostV K F H (.ok d) Q) (r : Rp K F v d) : Q v H :=
  h v H (fun _ _ e => e) (Rp.mono (gr_F f) r)
theorem PostV.newL {K : PySem.W.Frag} {F H : Hp} {ds : List D} {Q : VK} {vs : List V} {p : Addr} (f : Same F H) (h : PostV K F H (.ok (.list ds)) Q) (n : H p = none) (r : RpL K F vs ds) : Q (.ref p) (upd H p (.lst vs)) :=
  h.n f vs H p (fun _ _ e => e) n (RpL.mono (gr_F f) r)

/-- an operation on two values does what g says -/
def rOp (K : PySem.W.Frag) (g : D → D → R D) : R2 := fun x y H Q => ∃ F d e, Same F H ∧ RpT K F H x d ∧ RpT K F H y e ∧ PostV K F H (g d e) Q

section
variable {X : Cx}
theorem op_subD : OpR X (binaryOp .Sub) (rOp X.K (binD .sub)) := by
  intro pins s σ H x y v u Q I rx ry ⟨F, d, e, f, hx, hy, q⟩
  cases d <;> cases e <;> try exact q.elim
  rename_i i j
  exact op_sub pins s σ H x y v u Q I rx ry ⟨i, j, hx, hy, q.here f (.int _)⟩
theorem op_fdivD : OpR X (binaryOp .FloorDiv) (rOp X.K (binD .fdiv)) := by
  intro pins s σ H x y v u Q I rx ry ⟨F, d, e, f, hx, hy, q⟩
  cases d <;> cases e <;> try exact q.elim
  rename_i i j
  have q' : PostV X.K F H (R.chk (decide (0 < j) && decide (j < 2 ^ 200)) (.ok (.int (i / j)))) Q := q
  cases c : (decide (0 < j) && decide (j < 2 ^ 200)) with
  | false => rw [c] at q'; exact q'.elim
  | true =>
    rw [c] at q'
    simp only [Bool.and_eq_true, decide_eq_true_eq] at c
    exact op_fdivW pins s σ H x y v u Q I rx ry ⟨i, j, hx, hy, wide_div (b := 200) c.1 (by have := c.1; have := c.2; omega) (by decide) (by decide), PostV.here f q' (.int _)⟩
theorem op_modD : OpR X (binaryOp .Mod) (rOp X.K (binD .mod)) := by
  intro pins s σ H x y v u Q I rx ry ⟨F, d, e, f, hx, hy, q⟩
  cases d <;> cases e <;> try exact q.elim
  rename_i i j
  have q' : PostV X.K F H (R.chk (decide (0 < j)) (.ok (.int (i % j)))) Q := q
  cases c : (decide (0 < j)) with
  | false => rw [c] at q'; exact q'.elim
  | true =>
    rw [c] at q'
    simp only [decide_eq_true_eq] at c
    exact op_mod pins s σ H x y v u Q I rx ry ⟨i, j, hx, hy, c, PostV.here f q' (.int _)⟩
theorem op_powD : OpR X (binaryOp .Pow) (rOp X.K (binD .pow)) := by
  intro pins s σ H x y v u Q I rx ry ⟨F, d, e, f, hx, hy, q⟩
  cases d <;> cases e <;> try exact q.elim
  rename_i i j
  have q' : PostV X.K F H (R.chk (decide (0 ≤ j) && decide (j ≤ 1000000) && decide (i.natAbs < 2 ^ 64)) (.ok (.int (i ^ j.toNat)))) Q := q
  cases c : (decide (0 ≤ j) && decide (j ≤ 1000000) && decide (i.natAbs < 2 ^ 64)) with
  | false => rw [c] at q'; exact q'.elim
  | true =>
    rw [c] at q'
    simp only [Bool.and_eq_true, decide_eq_true_eq] at c
    exact op_pow pins s σ H x y v u Q I rx ry ⟨i, j, hx, hy, ⟨c.1.1, c.1.2, c.2⟩, PostV.here f q' (.int _)⟩

/-! ### + and * -/
/-- a list that is read, as its object stands -/
def LsAt (h : Heap) (a : Addr) (its : Array Value) (n : Nat) (sl : Array (Option Value)) : Prop := h.get? a = some { cls := .type "list", dict := none, data := .seq its n, slots := sl }
theorem Inv.sqM {pins : List (Addr × Obj)} {σ : L2.St} {H : Hp} {s : Shared} {l : Addr} {xs : List V} (I : Inv X pins σ H s) (hH : SqL X.K H l xs) : xs.length ≤ sizeLine ∧ ∃ (its : List Value) (n : Nat) (sl : Array (Option Value)), Vals xs its ∧ xs.length = its.length ∧ LsAt s.heap l its.toArray n sl := by
  obtain ⟨its, r, ⟨o, n, e, c, d, q⟩, z⟩ := I.list hH
  refine ⟨z, its, n, o.slots, r, r.length, ?_⟩
  unfold LsAt
  rw [e]
  obtain ⟨oc, od, dt, osl⟩ := o
  cases c; cases d; cases q
  rfl
theorem m_add (l : Addr) (items : Array Value) (n : Nat) (b : Addr) (items2 : Array Value) (n2 : Nat) (sl sl2 : Array (Option Value)) (hc0 : items.size + items2.size ≤ sizeLine) :
    Meets (Builtin.«list.__add__» ⟨[.ref l, .ref b], []⟩) (fun _ R s => LsAt s.heap l items n sl ∧ LsAt s.heap b items2 n2 sl2 ∧ R (.ok (.ret (Value.ref s.heap.objs.size))) { s with heap := s.heap.push { cls := Value.type "list", data := Data.seq (items ++ items2) }, toks := s.toks }) :=
  .of_wp fun prog w A R s h => by obtain ⟨hp, g, d, tk, os⟩ := s; obtain ⟨hl, hb, h⟩ := h; unfold LsAt at hl hb; have f1 := AutoSeq1.idx_int; have f2 := AutoSeq1.sub_tuple_tuple; have f3 := AutoSeq1.sub_list_list; have f4 := AutoSeq1.sub_tuple_list; have f5 := AutoSeq1.sub_list_tuple; wp_walk using AutoSeq1.wpAny_loadPart' hl, AutoSeq1.wpAny_loadPart' hb; exact ⟨_, rfl, h⟩
theorem m_rmul (a : Int) (t : Tok) (l : Addr) (items : Array Value) (n : Nat) (sl : Array (Option Value)) :
    Meets (Builtin.«int.__rmul__» ⟨[.int a t, .ref l], []⟩) (fun _ R s => LsAt s.heap l items n sl ∧ R (.ok (.ret Value.notImplemented)) s) :=
  .of_wp fun prog w A R s h => by obtain ⟨hp, g, d, tk, os⟩ := s; obtain ⟨hl, h⟩ := h; unfold LsAt at hl; wp_walk; exact ⟨_, rfl, h⟩
theorem m_mul (l : Addr) (items : Array Value) (n : Nat) (sl : Array (Option Value)) (x : Int) (u : Tok) (hc0 : ¬(!Builtin.List.listFitsIndex x) = true) (hc1 : ¬items.size * x.toNat > (2 ^ 63 - 1) / 8) (hc2 : ¬Builtin.List.listTooLong (items.size * x.toNat) = true) :
    Meets (Builtin.«list.__mul__» ⟨[.ref l, .int x u], []⟩) (fun _ R s => LsAt s.heap l items n sl ∧ R (.ok (.ret (Value.ref s.heap.objs.size))) { s with heap := s.heap.push { cls := Value.type "list", data := Data.seq (List.foldl (fun x1 x2 => x1 ++ x2) #[] (List.replicate (if items.isEmpty = true then 0 else x.toNat) items)) }, toks := s.toks }) :=
  .of_wp fun prog w A R s h => by
    obtain ⟨hp, g, d, tk, os⟩ := s; obtain ⟨hl, h⟩ := h
    unfold LsAt at hl
    have hsz := AutoListH.joined_fits hc2
    wp_walk; refine wpAny_ite_false (decide_eq_false (Nat.not_lt.mpr hsz)) ?_; wp_walk; exact ⟨_, rfl, h⟩
def rCatD (K : PySem.W.Frag) : R2 := fun x y H Q => ∃ l b xs zs, x = .ref l ∧ y = .ref b ∧ SqL K H l xs ∧ SqL K H b zs ∧ xs.length + zs.length ≤ sizeLine ∧ ∀ p, H p = none → Q (.ref p) (upd H p (.lst (xs ++ zs)))
theorem op_catD : OpR X (binaryOp .Add) (rCatD X.K) := by
  intro pins s σ H x y v u Q I rx ry h
  obtain ⟨l, b, xs, zs, rfl, rfl, hH, hB, hz, q⟩ := h
  cases rx
  cases ry
  obtain ⟨z, its, n, sl, r, hl, e⟩ := Inv.sqM I hH
  obtain ⟨z2, its2, n2, sl2, r2, hl2, e2⟩ := Inv.sqM I hB
  refine concat_meets ⟨_, e, rfl⟩ ⟨_, e2, rfl⟩ noFill_list_add seq_list_add F.slot_list_add F.entry_list_add (F.args_list_add_2 _ _) (m_add l its.toArray n b its2.toArray n2 sl sl2 (by rw [List.size_toArray, List.size_toArray]; omega)) ⟨e, e2, ?_⟩
  have ea : its.toArray ++ its2.toArray = (its ++ its2).toArray := by simp
  rw [ea]
  exact ⟨.ref _, _, I.lnew (t' := s.toks) (r.append r2) (by rw [List.length_append]; omega), rfl, q _ I.fresh⟩
theorem op_addD : OpR X (binaryOp .Add) (rOp X.K (binD .add)) := by
  intro pins s σ H x y v u Q I rx ry ⟨F, d, e, f, hx, hy, q⟩
  cases d <;> cases e <;> try exact q.elim
  case int i j => exact op_add pins s σ H x y v u Q I rx ry ⟨i, j, hx, hy, q.here f (.int _)⟩
  case str a b =>
    have q' : PostV X.K F H (R.chk (decide (a.length + b.length ≤ lineN)) (.ok (.str (a ++ b)))) Q := q
    cases c : (decide (a.length + b.length ≤ lineN)) with
    | false => rw [c] at q'; exact q'.elim
    | true =>
      rw [c] at q'
      simp only [decide_eq_true_eq, lineN_eq] at c
      exact op_add_str pins s σ H x y v u Q I rx ry ⟨a, b, hx, hy, c, PostV.here f q' (.str _)⟩
  case list a b =>
    obtain ⟨l, xs, rfl, hl, rl⟩ := hx
    obtain ⟨m, zs, rfl, hm, rm⟩ := hy
    have q' : PostV X.K F H (R.chk (decide (a.length + b.length ≤ lineN)) (.ok (.list (a ++ b)))) Q := q
    cases c : (decide (a.length + b.length ≤ lineN)) with
    | false => rw [c] at q'; exact q'.elim
    | true =>
      rw [c] at q'
      simp only [decide_eq_true_eq, lineN_eq] at c
      exact op_catD pins s σ H _ _ v u Q I rx ry ⟨l, m, xs, zs, rfl, rfl, hl, hm, by rw [rl.length, rm.length]; exact c, fun p hp => PostV.newL f q' hp (rl.app rm)⟩
  case tuple a b =>
    obtain ⟨l, xs, rfl, hl, rl⟩ := hx
    obtain ⟨m, zs, rfl, hm, rm⟩ := hy
    have q' : PostV X.K F H (R.chk (decide (a.length + b.length ≤ lineN)) (.ok (.tuple (a ++ b)))) Q := q
    cases c : (decide (a.length + b.length ≤ lineN)) with
    | false => rw [c] at q'; exact q'.elim
    | true =>
      rw [c] at q'
      simp only [decide_eq_true_eq, lineN_eq] at c
      refine op_catA pins s σ H _ _ v u Q I rx ry ⟨l, m, xs, zs, rfl, rfl, f.sqT hl, f.sqT hm, by rw [rl.length, rm.length]; exact c, fun e => ?_, fun _ e => ?_, fun _ _ p hp => PostV.t f q' hp (rl.app rm)⟩
      · subst e; cases rl; exact PostV.here f q' (.tup hm rm)
      · subst e; cases rm; exact PostV.here f q' (.tup hl (by rw [List.append_nil]; exact rl))
def rRepD (K : PySem.W.Frag) : R2 := fun x y H Q => ∃ l k xs, x = .ref l ∧ y = .int k ∧ SqL K H l xs ∧ -(2 ^ 63) ≤ k ∧ k < 2 ^ 63 ∧ xs.length * k.toNat ≤ sizeLine ∧
  ∀ p, H p = none → Q (.ref p) (upd H p (.lst (List.replicate k.toNat xs).flatten))
theorem op_repD : OpR X (binaryOp .Mult) (rRepD X.K) := by
  intro pins s σ H x y v u Q I rx ry h
  obtain ⟨l, k, xs, rfl, rfl, hH, h1, h2, hz, q⟩ := h
  cases rx
  obtain ⟨t, rfl⟩ := ry
  obtain ⟨z, its, n, sl, r, hl, e⟩ := Inv.sqM I hH
  have hlen : its.toArray.size * k.toNat ≤ sizeLine := by rw [List.size_toArray, ← hl]; exact hz
  have hcap : ¬ its.toArray.size * k.toNat > (2 ^ 63 - 1) / 8 := by
    have : (sizeLine : Nat) ≤ (2 ^ 63 - 1) / 8 := by decide
    omega
  have hfit : ¬ (!Builtin.List.listFitsIndex k) = true := by
    rw [fitsIndex_both h1 h2]
    exact Bool.false_ne_true
  have hlong : ¬ Builtin.List.listTooLong (its.toArray.size * k.toNat) = true := by
    rw [notLongL hlen]
    exact Bool.false_ne_true
  have hnew : List.foldl (fun x1 x2 => x1 ++ x2) #[] (List.replicate (if its.toArray.isEmpty = true then 0 else k.toNat) its.toArray) = (List.replicate k.toNat its).flatten.toArray := by
    have f0 : ∀ m : Nat, List.foldl (fun x1 x2 => x1 ++ x2) #[] (List.replicate m its.toArray) = (List.replicate m its).flatten.toArray := fun m => by
      have := foldl_rep its m []
      rw [List.nil_append] at this
      exact this
    rw [f0]
    cases its with
    | nil => simp
    | cons a r' => rw [if_neg (by simp)]
  refine wpAny_binaryOp_repeat_ref (T := "list") (U := "int") (by decide) ⟨_, e, rfl⟩ (fun s' => typeIs_int s' k t) noFill_list_mul F.fills_int_mul F.slot_int_rmul repeat_list F.slot_int_index.lookup
    (call_meets F.slot_int_rmul (typeIs_int s k t) F.entry_int_rmul (F.args_int_rmul_2 _ _) (m_rmul k t l its.toArray n sl)
      ⟨e, rfl, ⟨_, e, rfl⟩, call_meets F.slot_list_mul ⟨_, e, rfl⟩ F.entry_list_mul (F.args_list_mul_2 _ _) (m_mul l its.toArray n sl k t hfit hcap hlong) ⟨e, ?_⟩⟩)
  rw [hnew]
  exact ⟨.ref _, _, I.lnew (t' := s.toks) (r.rep k.toNat) (by rw [PyProof.Rows.lm_len_rep_flat, Nat.mul_comm]; exact hz), rfl, q _ I.fresh⟩
theorem op_mulD : OpR X (binaryOp .Mult) (rOp X.K (binD .mul)) := by
  intro pins s σ H x y v u Q I rx ry ⟨F, d, e, f, hx, hy, q⟩
  cases d <;> cases e <;> try exact q.elim
  case int i j =>
    have q' : PostV X.K F H (R.chk (mulOk i j) (.ok (.int (i * j)))) Q := q
    cases c : mulOk i j with
    | false => rw [c] at q'; exact q'.elim
    | true =>
      rw [c] at q'
      unfold mulOk at c
      simp only [Bool.or_eq_true, Bool.and_eq_true, decide_eq_true_eq] at c
      exact op_mul pins s σ H x y v u Q I rx ry ⟨i, j, hx, hy, c, PostV.here f q' (.int _)⟩
  case list a k =>
    obtain ⟨l, xs, rfl, hl, rl⟩ := hx
    have q' : PostV X.K F H (R.chk (decide (-(2 ^ 63) ≤ k) && decide (k < 2 ^ 63) && decide (a.length * k.toNat ≤ lineN)) (.ok (.list (List.replicate k.toNat a).flatten))) Q := q
    cases c : (decide (-(2 ^ 63) ≤ k) && decide (k < 2 ^ 63) && decide (a.length * k.toNat ≤ lineN)) with
    | false => rw [c] at q'; exact q'.elim
    | true =>
      rw [c] at q'
      simp only [Bool.and_eq_true, decide_eq_true_eq, lineN_eq] at c
      exact op_repD pins s σ H _ y v u Q I rx ry ⟨l, k, xs, rfl, hy, hl, c.1.1, c.1.2, by rw [rl.length]; exact c.2, fun p hp => PostV.newL f q' hp (rl.rep _)⟩
  case tuple a k =>
    obtain ⟨l, xs, rfl, hl, rl⟩ := hx
    have q' : PostV X.K F H (R.chk (decide (2 ≤ k) && decide (k ≤ 1000) && !a.isEmpty && decide (a.length ≤ 1000)) (.ok (.tuple (List.replicate k.toNat a).flatten))) Q := q
    cases c : (decide (2 ≤ k) && decide (k ≤ 1000) && !a.isEmpty && decide (a.length ≤ 1000)) with
    | false => rw [c] at q'; exact q'.elim
    | true =>
      rw [c] at q'
      simp only [Bool.and_eq_true, decide_eq_true_eq, Bool.not_eq_true'] at c
      exact op_repT pins s σ H _ y v u Q I rx ry ⟨l, k, xs, rfl, hy, f.sqT hl, fun z => (by subst z; cases rl; cases c.1.2), c.1.1.1, c.1.1.2, by rw [rl.length]; exact c.2, fun p hp => PostV.t f q' hp (rl.rep _)⟩
/-- the binary operators -/
def bopS : Bop → Operator
  | .add => .Add | .sub => .Sub | .mul => .Mult | .fdiv => .FloorDiv | .mod => .Mod | .pow => .Pow
theorem op_bin (o : Bop) : OpR X (binaryOp (bopS o)) (rOp X.K (binD o)) := by
  cases o
  · exact op_addD
  · exact op_subD
  · exact op_mulD
  · exact op_fdivD
  · exact op_modD
  · exact op_powD

/-! ### comparisons -/
def rOpB (K : PySem.W.Frag) (g : D → D → R Bool) : R2 := fun x y H Q => ∃ F d e k, Same F H ∧ RpT K F H x d ∧ RpT K F H y e ∧ g d e = .ok k ∧ Q (.bl k) H
theorem ordT_ok {d e : D} {b k : Bool} (h : ordT d e b = .ok k) : PySem.W.alike d e = true ∧ d.depth ≤ 60 ∧ nodic d = true ∧ nodic e = true ∧ k = b := by
  obtain ⟨h1, h2⟩ := chk_ok h
  simp only [Bool.and_eq_true, decide_eq_true_eq] at h1
  cases h2
  exact ⟨h1.1.1.1, h1.1.1.2, h1.1.2, h1.2, rfl⟩
theorem eqD_ok {d e : D} {k : Bool} (h : eqD d e = .ok k) : SeqAt.shaped d = true ∧ SeqAt.shaped e = true ∧ k = PyData.eqv d e := by
  obtain ⟨h1, h2⟩ := chk_ok h
  simp only [Bool.and_eq_true] at h1
  cases h2
  exact ⟨h1.1, h1.2, rfl⟩
variable (hu : X.A.units + 65 < cLine)
include hu
theorem op_eqB : OpR X (compareOp .Eq) (rOpB X.K (cmpB .eq)) := by
  intro pins s σ H x y v u Q I rx ry ⟨F, d, e, k, f, hx, hy, g, q⟩
  obtain ⟨s1, s2, rfl⟩ := eqD_ok g
  exact op_eqD (by omega) pins s σ H x y v u Q I rx ry ⟨d, e, (hx.dp2 f (nodic_shp s1)), (hy.dp2 f (nodic_shp s2)), s1, s2, q⟩
theorem op_neB : OpR X (compareOp .NotEq) (rOpB X.K (cmpB .ne)) := by
  intro pins s σ H x y v u Q I rx ry ⟨F, d, e, k, f, hx, hy, g, q⟩
  obtain ⟨b, g1, g2⟩ := bind_ok (show (eqD d e).bind (fun b => .ok (!b)) = .ok k from g)
  obtain ⟨s1, s2, rfl⟩ := eqD_ok g1
  cases g2
  exact op_neD (by omega) pins s σ H x y v u Q I rx ry ⟨d, e, (hx.dp2 f (nodic_shp s1)), (hy.dp2 f (nodic_shp s2)), s1, s2, q⟩
theorem op_ltB : OpR X (compareOp .Lt) (rOpB X.K (cmpB .lt)) := by
  intro pins s σ H x y v u Q I rx ry ⟨F, d, e, k, f, hx, hy, g, q⟩
  cases d <;> cases e <;> try (cases g; done)
  case int.int => cases g; exact op_lt pins s σ H x y v u Q I rx ry ⟨_, _, hx, hy, q⟩
  case str.str => cases g; exact op_lt_str pins s σ H x y v u Q I rx ry ⟨_, _, hx, hy, q⟩
  case tuple.tuple =>
    obtain ⟨g1, g2, n1, n2, rfl⟩ := ordT_ok g
    obtain ⟨as, r1⟩ := Dp.reads I _ x v (hx.dp2 f n1) rx
    obtain ⟨bs, r2⟩ := Dp.reads I _ y u (hy.dp2 f n2) ry
    exact PySem.W.rcLt_alike _ _ _ _ _ _ _ _ r1 r2 g1 (fun z => nomatch z) (by omega) _ _ _ _ ⟨.bl _, H, I, rfl, q⟩
theorem op_leB : OpR X (compareOp .LtE) (rOpB X.K (cmpB .le)) := by
  intro pins s σ H x y v u Q I rx ry ⟨F, d, e, k, f, hx, hy, g, q⟩
  cases d <;> cases e <;> try (cases g; done)
  case int.int => cases g; exact op_le pins s σ H x y v u Q I rx ry ⟨_, _, hx, hy, q⟩
  case tuple.tuple =>
    obtain ⟨g1, g2, n1, n2, rfl⟩ := ordT_ok g
    obtain ⟨as, r1⟩ := Dp.reads I _ x v (hx.dp2 f n1) rx
    obtain ⟨bs, r2⟩ := Dp.reads I _ y u (hy.dp2 f n2) ry
    exact PySem.W.rcLe_alike _ _ _ _ _ _ _ _ r1 r2 g1 (fun z => nomatch z) (by omega) _ _ _ _ ⟨.bl _, H, I, rfl, q⟩
theorem op_gtB : OpR X (compareOp .Gt) (rOpB X.K (cmpB .gt)) := by
  intro pins s σ H x y v u Q I rx ry ⟨F, d, e, k, f, hx, hy, g, q⟩
  cases d <;> cases e <;> try (cases g; done)
  case int.int => cases g; exact op_gt pins s σ H x y v u Q I rx ry ⟨_, _, hx, hy, q⟩
  case tuple.tuple =>
    obtain ⟨g1, g2, n1, n2, rfl⟩ := ordT_ok g
    obtain ⟨as, r1⟩ := Dp.reads I _ x v (hx.dp2 f n1) rx
    obtain ⟨bs, r2⟩ := Dp.reads I _ y u (hy.dp2 f n2) ry
    exact PySem.W.rcGt_alike _ _ _ _ _ _ _ _ r1 r2 g1 (fun z => nomatch z) (by omega) _ _ _ _ ⟨.bl _, H, I, rfl, q⟩
theorem op_geB : OpR X (compareOp .GtE) (rOpB X.K (cmpB .ge)) := by
  intro pins s σ H x y v u Q I rx ry ⟨F, d, e, k, f, hx, hy, g, q⟩
  cases d <;> cases e <;> try (cases g; done)
  case int.int => cases g; exact op_ge pins s σ H x y v u Q I rx ry ⟨_, _, hx, hy, q⟩
  case tuple.tuple =>
    obtain ⟨g1, g2, n1, n2, rfl⟩ := ordT_ok g
    obtain ⟨as, r1⟩ := Dp.reads I _ x v (hx.dp2 f n1) rx
    obtain ⟨bs, r2⟩ := Dp.reads I _ y u (hy.dp2 f n2) ry
    exact PySem.W.rcGe_alike _ _ _ _ _ _ _ _ r1 r2 g1 (fun z => nomatch z) (by omega) _ _ _ _ ⟨.bl _, H, I, rfl, q⟩
theorem RpT.none_iff {K : PySem.W.Frag} {F H : Hp} {x : V} {d : D} (h : RpT K F H x d) : decide (x = .non) = isNone d := by
  cases d with
  | none => cases (show x = .non from h); rfl
  | bool b => cases (show x = .bl b from h); rfl
  | int i => cases (show x = .int i from h); rfl
  | str z => cases (show x = .str z from h); rfl
  | list ds => obtain ⟨a, vs, rfl, _⟩ := h; rfl
  | tuple ds => obtain ⟨a, vs, rfl, _⟩ := h; rfl
  | dict _ => obtain ⟨a, vs, rfl, _⟩ := h; rfl
theorem op_isB : OpR X (compareOp .Is) (rOpB X.K (cmpB .is)) := by
  intro pins s σ H x y v u Q I rx ry ⟨F, d, e, k, f, hx, hy, g, q⟩
  cases e with
  | none =>
    have g' : R.ok (isNone d) = R.ok k := by cases d <;> exact g
    cases g'
    cases (show y = .non from hy)
    exact op_isN pins s σ H x _ v u Q I rx ry ⟨rfl, by rw [RpT.none_iff hu hx]; exact q⟩
  | bool b =>
    cases d <;> cases g
    cases (show x = .bl _ from hx)
    cases (show y = .bl _ from hy)
    exact op_isBl pins s σ H _ _ v u Q I rx ry ⟨_, _, rfl, rfl, q⟩
  | _ => cases d <;> cases g
theorem op_isnotB : OpR X (compareOp .IsNot) (rOpB X.K (cmpB .isnot)) := by
  intro pins s σ H x y v u Q I rx ry ⟨F, d, e, k, f, hx, hy, g, q⟩
  cases e with
  | none =>
    have g' : R.ok (!isNone d) = R.ok k := by cases d <;> exact g
    cases g'
    cases (show y = .non from hy)
    exact op_notN pins s σ H x _ v u Q I rx ry ⟨rfl, by rw [RpT.none_iff hu hx]; exact q⟩
  | bool b =>
    cases d <;> cases g
    cases (show x = .bl _ from hx)
    cases (show y = .bl _ from hy)
    exact op_notBl pins s σ H _ _ v u Q I rx ry ⟨_, _, rfl, rfl, q⟩
  | _ => cases d <;> cases g
theorem op_inB : OpR X (compareOp .In) (rOpB X.K (cmpB .isin)) := by
  intro pins s σ H x y v u Q I rx ry ⟨F, d, e, k, f, hx, hy, g, q⟩
  have g : inD d e = .ok k := g
  cases e with
  | list ds =>
    obtain ⟨h1, h2⟩ := chk_ok (show R.chk (shp d && shp (.list ds)) _ = _ from g)
    simp only [Bool.and_eq_true] at h1
    cases h2
    exact op_inD hu pins s σ H x y v u Q I rx ry ⟨d, ds, (hx.dp2 f (nodic_shp h1.1)), (hy.dp2 f (nodic_shp h1.2)), h1.1, h1.2, q⟩
  | tuple ds =>
    obtain ⟨h1, h2⟩ := chk_ok (show R.chk (shp d && shp (.tuple ds)) _ = _ from g)
    simp only [Bool.and_eq_true] at h1
    cases h2
    obtain ⟨as, r1⟩ := Dp.reads I d x v ((hx.dp2 f (nodic_shp h1.1))) rx
    obtain ⟨bs, r2⟩ := Dp.reads I (.tuple ds) y u ((hy.dp2 f (nodic_shp h1.2))) ry
    exact SeqAt.in_tuple_reads r2 r1 (SeqAt.canLay_of_shaped h1.2) (SeqAt.canLay_of_shaped h1.1) (room_in_shaped h1.1 hu) ⟨.bl _, H, I, rfl, q⟩
  | str z =>
    cases d <;> cases g
    exact op_in_str pins s σ H x y v u Q I rx ry ⟨_, _, hx, hy, q⟩
  | _ => cases g
theorem op_notinB : OpR X (compareOp .NotIn) (rOpB X.K (cmpB .notin)) := by
  intro pins s σ H x y v u Q I rx ry ⟨F, d, e, k, f, hx, hy, g0, q⟩
  obtain ⟨b, g, g2⟩ := bind_ok (show (inD d e).bind (fun b => .ok (!b)) = .ok k from g0)
  clear g0
  cases g2
  cases e with
  | list ds =>
    obtain ⟨h1, h2⟩ := chk_ok (show R.chk (shp d && shp (.list ds)) _ = _ from g)
    simp only [Bool.and_eq_true] at h1
    cases h2
    exact op_notInD hu pins s σ H x y v u Q I rx ry ⟨d, ds, (hx.dp2 f (nodic_shp h1.1)), (hy.dp2 f (nodic_shp h1.2)), h1.1, h1.2, q⟩
  | tuple ds =>
    obtain ⟨h1, h2⟩ := chk_ok (show R.chk (shp d && shp (.tuple ds)) _ = _ from g)
    simp only [Bool.and_eq_true] at h1
    cases h2
    obtain ⟨as, r1⟩ := Dp.reads I d x v ((hx.dp2 f (nodic_shp h1.1))) rx
    obtain ⟨bs, r2⟩ := Dp.reads I (.tuple ds) y u ((hy.dp2 f (nodic_shp h1.2))) ry
    exact SeqAt.notIn_tuple_reads r2 r1 (SeqAt.canLay_of_shaped h1.2) (SeqAt.canLay_of_shaped h1.1) (room_in_shaped h1.1 hu) ⟨.bl _, H, I, rfl, q⟩
  | str z =>
    cases d <;> cases g
    exact op_notin_str pins s σ H x y v u Q I rx ry ⟨_, _, hx, hy, q⟩
  | _ => cases g
def copS : Cop → CmpOp
  | .lt => .Lt | .le => .LtE | .gt => .Gt | .ge => .GtE | .eq => .Eq | .ne => .NotEq | .isin => .In | .notin => .NotIn | .is => .Is | .isnot => .IsNot
theorem op_cmp (o : Cop) : OpR X (compareOp (copS o)) (rOpB X.K (cmpB o)) := by
  cases o
  · exact op_ltB hu
  · exact op_leB hu
  · exact op_gtB hu
  · exact op_geB hu
  · exact op_eqB hu
  · exact op_neB hu
  · exact op_inB hu
  · exact op_notinB hu
  · exact op_isB hu
  · exact op_isnotB hu
end
end Rf

set_option Elab.async false
set_option linter.all false
set_option maxHeartbeats 1000000
/-! Rf, part N: dicts in the heap. -/
namespace Rf
open PySem PySem.Spec PyProof.Rows L2

/-! ### keys that are tuples -/
mutual
theorem nk_data : ∀ {d : D}, nkey d = true → (nkOf d).data = d
  | .int _, _ => rfl
  | .none, _ => rfl
  | .tuple ds, h => by rw [nkey] at h; rw [nkOf, NestedKey.data, nks_data h]
  | .bool _, h => by rw [nkey] at h; cases h
  | .str _, h => by rw [nkey] at h; cases h
  | .list _, h => by rw [nkey] at h; cases h
  | .dict _, h => by rw [nkey] at h; cases h
theorem nks_data : ∀ {ds : List D}, nkeys ds = true → NestedKey.datas (nksOf ds) = ds
  | [], _ => rfl
  | d :: ds, h => by
    rw [nkeys, Bool.and_eq_true] at h
    rw [nksOf, NestedKey.datas, nk_data h.1, nks_data h.2]
end
mutual
theorem nk_hash (w w' : World) : ∀ {d : D}, nkey d = true → (nkOf d).hash w = (nkOf d).hash w'
  | .int _, _ => rfl
  | .none, _ => rfl
  | .tuple ds, h => by rw [nkey] at h; rw [nkOf, NestedKey.hash, NestedKey.hash, nks_hash w w' h]
  | .bool _, h => by rw [nkey] at h; cases h
  | .str _, h => by rw [nkey] at h; cases h
  | .list _, h => by rw [nkey] at h; cases h
  | .dict _, h => by rw [nkey] at h; cases h
theorem nks_hash (w w' : World) : ∀ {ds : List D}, nkeys ds = true → NestedKey.hashes w (nksOf ds) = NestedKey.hashes w' (nksOf ds)
  | [], _ => rfl
  | d :: ds, h => by
    rw [nkeys, Bool.and_eq_true] at h
    rw [nksOf, NestedKey.hashes, NestedKey.hashes, nk_hash w w' h.1, nks_hash w w' h.2]
end
mutual
theorem nk_depth : ∀ {d : D}, nkey d = true → (nkOf d).depth = d.depth
  | .int _, _ => rfl
  | .none, _ => rfl
  | .tuple ds, h => by rw [nkey] at h; rw [nkOf, NestedKey.depth, PyData.depth, nks_depth h]
  | .bool _, h => by rw [nkey] at h; cases h
  | .str _, h => by rw [nkey] at h; cases h
  | .list _, h => by rw [nkey] at h; cases h
  | .dict _, h => by rw [nkey] at h; cases h
theorem nks_depth : ∀ {ds : List D}, nkeys ds = true → NestedKey.depthAll (nksOf ds) = PyData.depthAll ds
  | [], _ => rfl
  | d :: ds, h => by
    rw [nkeys, Bool.and_eq_true] at h
    rw [nksOf, NestedKey.depthAll, PyData.depthAll, nk_depth h.1, nks_depth h.2]
end
mutual
theorem nk_eqv : ∀ {d e : D}, nkey d = true → nkey e = true → PyData.eqv d e = NestedKey.beq (nkOf d) (nkOf e) := fun {d e} h g => by
  cases d <;> cases e <;> first
    | (rw [nkey] at h; cases h; done)
    | (rw [nkey] at g; cases g; done)
    | rfl
    | skip
  case tuple.tuple xs ys =>
    rw [nkey] at h g
    rw [nkOf, nkOf, NestedKey.beq, PyData.eqv]
    exact nks_eqv h g
theorem nks_eqv : ∀ {ds es : List D}, nkeys ds = true → nkeys es = true → PyData.eqvAll ds es = NestedKey.beqAll (nksOf ds) (nksOf es)
  | [], [], _, _ => rfl
  | [], _ :: _, _, _ => rfl
  | _ :: _, [], _, _ => rfl
  | d :: ds, e :: es, h, g => by
    rw [nkeys, Bool.and_eq_true] at h g
    rw [nksOf, nksOf, NestedKey.beqAll, PyData.eqvAll, nk_eqv h.1 g.1, nks_eqv h.2 g.2]
end
theorem nest_key {d : D} (h : isNestK d = true) : nkey d = true ∧ (nkOf d).depth ≤ 8 := by
  cases d with
  | tuple ds =>
    have h : (nkeys ds && decide ((PyData.tuple ds).depth ≤ 7)) = true := h
    simp only [Bool.and_eq_true, decide_eq_true_eq] at h
    have k : nkey (.tuple ds) = true := by rw [nkey]; exact h.1
    exact ⟨k, by rw [nk_depth k]; omega⟩
  | _ => cases h
theorem nest_eqv {d e : D} (h : isNestK d = true) (g : isNestK e = true) : PyData.eqv d e = decide (nkOf d = nkOf e) := by
  rw [nk_eqv (nest_key h).1 (nest_key g).1, NestedKey.decide_eq]
theorem nest_noleaf {d : D} (h : isNestK d = true) : isLeafK d = false := by
  cases d <;> first
    | rfl
    | cases h
theorem leaf_key {d : D} (h : isLeafK d = true) : ∃ k : Key, d = kD k := by
  cases d <;> first
    | (cases h; done)
    | exact ⟨.inl _, rfl⟩
    | exact ⟨.inr _, rfl⟩
theorem kD_leaf (k : Key) : isLeafK (kD k) = true := by cases k <;> rfl
theorem kD_eqv (a b : Key) : PyData.eqv (kD a) (kD b) = decide (a = b) := by
  cases a <;> cases b
  case inl.inl i j => show (i == j) = _; by_cases q : i = j <;> simp [q]
  case inl.inr => rfl
  case inr.inl => rfl
  case inr.inr i j => show (i == j) = _; by_cases q : i = j <;> simp [q]
theorem kD_rp {K : PySem.W.Frag} {G : Hp} (k : Key) : Rp K G (kV k) (kD k) := by
  cases k with
  | inl i => exact .int i
  | inr z => exact .str z
theorem rp_leaf {K : PySem.W.Frag} {G : Hp} {v : V} {k : Key} (h : Rp K G v (kD k)) : v = kV k := by
  cases k <;> cases h <;> rfl

section
variable {X : Cx} {pins : List (Addr × Obj)} {σ : L2.St} {H : Hp} {s : Shared}
/-- a key's tuple stands in the heap -/
theorem isTup_nested {h : Heap} {a : Addr} {its : List Value} {ks : List NestedKey} (t : IsTup h a its.toArray) (r : NestedAll h ks its) : NestedIs h (.tup ks) (.ref a) := by
  obtain ⟨o, e, c, n, dd⟩ := t
  exact .tup e c dd (by simpa using r)
mutual
theorem nested_of (I : Inv X pins σ H s) : ∀ {d : D} {v : V} {u : Value}, Rp X.K H v d → nkey d = true → RelV v u → NestedIs s.heap (nkOf d) u
  | .int _, _, _, .int i, _, r => by obtain ⟨t, rfl⟩ := (show ∃ t, _ = Value.int i t from r); exact .int i t
  | .none, _, _, .non, _, r => by cases (show _ = Value.none from r); exact .none
  | .tuple ds, _, _, .tup h rl, k, r => by
    rw [nkey] at k
    obtain ⟨its, rv, tp, _⟩ := I.tuple h
    cases (show _ = Value.ref _ from r)
    rw [nkOf]
    exact isTup_nested tp (nesteds_of I rl k rv)
  | .bool _, _, _, _, k, _ => by rw [nkey] at k; cases k
  | .str _, _, _, _, k, _ => by rw [nkey] at k; cases k
  | .list _, _, _, _, k, _ => by rw [nkey] at k; cases k
  | .dict _, _, _, _, k, _ => by rw [nkey] at k; cases k
theorem nesteds_of (I : Inv X pins σ H s) : ∀ {ds : List D} {vs : List V} {us : List Value}, RpL X.K H vs ds → nkeys ds = true → Vals vs us → NestedAll s.heap (nksOf ds) us
  | [], _, _, .nil, _, r => by cases r; exact .nil
  | d :: ds, _, _, .cons h rl, k, r => by
    rw [nkeys, Bool.and_eq_true] at k
    cases r with
    | cons r1 r2 => exact .cons (nested_of I h k.1 r1) (nesteds_of I rl k.2 r2)
end
theorem key_nested (I : Inv X pins σ H s) {d : D} {v : V} {u : Value} (h : Rp X.K H v d) (k : isNestK d = true) (r : RelV v u) : ∃ b, u = .ref b ∧ v = .ref b ∧ (nestedKind X.prog X.w).is s.heap (nkOf d) b := by
  obtain ⟨k1, k2⟩ := nest_key k
  have n := nested_of I h k1 r
  cases d with
  | tuple ds =>
    cases h with
    | tup _ _ =>
      cases (show u = Value.ref _ from r)
      exact ⟨_, rfl, rfl, n, k2⟩
  | _ => cases k
end

/-! ### rows -/
def RK (K : PySem.W.Frag) (G : Hp) : List (Key × V) → List (D × D) → Prop := Paired fun e p => p.1 = kD e.1 ∧ Rp K G e.2 p.2
def RN (K : PySem.W.Frag) (G : Hp) : List (D × Addr × V) → List (D × D) → Prop := Paired fun e p => p.1 = e.1 ∧ isNestK e.1 = true ∧ Rp K G (.ref e.2.1) e.1 ∧ Rp K G e.2.2 p.2
section
variable {K : PySem.W.Frag} {G : Hp} {a : Addr} {o : HO} {kvs : List (D × D)}
theorem rk_of : ∀ {ents : List (Key × V)} {ds : List D}, RpL K G (ents.map (·.2)) ds → RK K G ents ((ents.map fun e => kD e.1).zip ds)
  | [], _, .nil => .nil
  | e :: ents, _, .cons h r => .cons ⟨rfl, h⟩ (rk_of r)
theorem rn_of : ∀ {ents : List (D × Addr × V)} {ds : List D}, RpL K G (ents.map fun e => V.ref e.2.1) (ents.map (·.1)) → RpL K G (ents.map (·.2.2)) ds → (∀ e ∈ ents, isNestK e.1 = true) → RN K G ents ((ents.map (·.1)).zip ds)
  | [], _, _, .nil, _ => .nil
  | e :: ents, _, .cons k kr, .cons h r, n => .cons ⟨rfl, n e (List.mem_cons_self ..), k, h⟩ (rn_of kr r fun x hx => n x (List.mem_cons_of_mem _ hx))
theorem of_rk : ∀ {ents : List (Key × V)} {kvs : List (D × D)}, RK K G ents kvs → ∃ ds, RpL K G (ents.map fun e => kV e.1) (ents.map fun e => kD e.1) ∧ RpL K G (ents.map (·.2)) ds ∧ kvs = (ents.map fun e => kD e.1).zip ds
  | _, _, .nil => ⟨[], .nil, .nil, rfl⟩
  | _, _, @Paired.cons _ _ _ e p _ _ h r => by
    obtain ⟨ds, r1, r2, r3⟩ := of_rk r
    obtain ⟨p1, p2⟩ := p
    obtain ⟨h1, h2⟩ := h
    have h1 : p1 = kD e.1 := h1
    subst h1
    exact ⟨p2 :: ds, .cons (kD_rp _) r1, .cons h2 r2, by rw [r3]; rfl⟩
theorem of_rn : ∀ {ents : List (D × Addr × V)} {kvs : List (D × D)}, RN K G ents kvs → ∃ ds, RpL K G (ents.map fun e => V.ref e.2.1) (ents.map (·.1)) ∧ RpL K G (ents.map (·.2.2)) ds ∧ kvs = (ents.map (·.1)).zip ds ∧ ∀ e ∈ ents, isNestK e.1 = true
  | _, _, .nil => ⟨[], .nil, .nil, rfl, fun _ z => nomatch z⟩
  | _, _, @Paired.cons _ _ _ e p _ _ h r => by
    obtain ⟨ds, r1, r2, r3, r4⟩ := of_rn r
    obtain ⟨p1, p2⟩ := p
    obtain ⟨h1, hn, h2, h3⟩ := h
    cases h1
    refine ⟨p2 :: ds, .cons h2 r1, .cons h3 r2, by rw [r3]; rfl, fun x hx => ?_⟩
    rcases List.mem_cons.mp hx with rfl | hx
    · exact hn
    · exact r4 x hx
theorem dr_rows : DR K G a o kvs ↔ (∃ ents, o = .dK ents ∧ RK K G ents kvs) ∨ ∃ ents, o = dN a ents ∧ RN K G ents kvs := by
  constructor
  · rintro ⟨kv, ks, vv, ds, d, r1, r2, rfl⟩
    rcases d with ⟨ents, rfl, rfl, rfl, rfl⟩ | ⟨ents, rfl, rfl, rfl, rfl, hn⟩
    · exact .inl ⟨ents, rfl, rk_of r2⟩
    · exact .inr ⟨ents, rfl, rn_of r1 r2 hn⟩
  · rintro (⟨ents, rfl, r⟩ | ⟨ents, rfl, r⟩)
    · obtain ⟨ds, r1, r2, rfl⟩ := of_rk r
      exact ⟨_, _, _, ds, .inl ⟨ents, rfl, rfl, rfl, rfl⟩, r1, r2, rfl⟩
    · obtain ⟨ds, r1, r2, rfl, hn⟩ := of_rn r
      exact ⟨_, _, _, ds, .inr ⟨ents, rfl, rfl, rfl, rfl, hn⟩, r1, r2, rfl⟩

/-! ### look-ups and stores -/
theorem RK.find (k : Key) : ∀ {ents : List (Key × V)} {kvs : List (D × D)}, RK K G ents kvs → (valV ents k = none ∧ dfind kvs (kD k) = none) ∨ ∃ v d, valV ents k = some v ∧ dfind kvs (kD k) = some d ∧ Rp K G v d
  | _, _, .nil => .inl ⟨rfl, rfl⟩
  | _, _, @Paired.cons _ _ _ e p _ _ h r => by
    obtain ⟨p1, p2⟩ := p
    obtain ⟨h1, h2⟩ := h
    have h1 : p1 = kD e.1 := h1
    subst h1
    by_cases q : e.1 = k
    · refine .inr ⟨e.2, p2, valV_pos q, ?_, h2⟩
      unfold dfind
      rw [List.find?_cons]
      simp only [kD_eqv, q, decide_true, Option.map_some]
    · rw [valV_neg q]
      have e2 : ∀ l : List (D × D), dfind ((kD e.1, p2) :: l) (kD k) = dfind l (kD k) := fun l => by
        unfold dfind
        rw [List.find?_cons]
        simp only [kD_eqv, q, decide_false]
      rw [e2]
      exact RK.find k r
theorem RK.any (k : Key) {ents : List (Key × V)} {kvs : List (D × D)} (r : RK K G ents kvs) : (kvs.any fun p => PyData.eqv p.1 (kD k)) = ents.any fun e => decide (e.1 = k) := by
  unfold RK at r
  induction r with
  | nil => rfl
  | cons h t ih => rw [List.any_cons, List.any_cons, ih, h.1, kD_eqv]
theorem RK.put {ents : List (Key × V)} {kvs : List (D × D)} {k : Key} {v : V} {d : D} (r : RK K G ents kvs) (h : Rp K G v d) : RK K G (putK ents k v) (dputL kvs (kD k) d) := by
  unfold putK dputL
  rw [r.any k]
  cases q : ents.any fun e => decide (e.1 = k) with
  | true =>
    rw [if_pos rfl]
    clear q
    unfold RK at r ⊢
    induction r with
    | nil => exact .nil
    | @cons e p es ps hh t ih =>
      rw [List.map_cons, List.map_cons]
      refine .cons ?_ ih
      obtain ⟨p1, p2⟩ := p
      obtain ⟨h1, h2⟩ := hh
      have h1 : p1 = kD e.1 := h1
      subst h1
      by_cases q : e.1 = k
      · simp only [kD_eqv, q, decide_true, if_pos]
        exact ⟨trivial, h⟩
      · simp only [kD_eqv, q, decide_false, if_neg, not_false_eq_true]
        exact ⟨trivial, h2⟩
  | false =>
    rw [if_neg (by decide)]
    exact Paired.snoc r ⟨rfl, h⟩
theorem RK.length {ents : List (Key × V)} {kvs : List (D × D)} (r : RK K G ents kvs) : ents.length = kvs.length := Paired.length r
theorem RN.length {ents : List (D × Addr × V)} {kvs : List (D × D)} (r : RN K G ents kvs) : ents.length = kvs.length := Paired.length r
theorem RK.leaf {ents : List (Key × V)} {kvs : List (D × D)} (r : RK K G ents kvs) : (kvs.all fun p => isLeafK p.1) = true := by
  unfold RK at r
  induction r with
  | nil => rfl
  | cons h t ih => rw [List.all_cons, ih, h.1, kD_leaf]; rfl
theorem RN.nest {ents : List (D × Addr × V)} {kvs : List (D × D)} (r : RN K G ents kvs) : (kvs.all fun p => isNestK p.1) = true := by
  unfold RN at r
  induction r with
  | nil => rfl
  | cons h t ih => rw [List.all_cons, ih, h.1, h.2.1]; rfl
/-- the raw entries of a dict with tuples for keys -/
def RX : List (D × Addr × V) → List (NestedKey × Addr × Value) → Prop := Paired fun p q => q.1 = nkOf p.1 ∧ p.2.1 = q.2.1 ∧ RelV p.2.2 q.2.2
theorem RN.find {k : D} (hk : isNestK k = true) : ∀ {ents : List (D × Addr × V)} {kvs : List (D × D)} {xs : List (NestedKey × Addr × Value)}, RN K G ents kvs → RX ents xs →
    (atKey xs (nkOf k) = none ∧ dfind kvs k = none) ∨ ∃ p v d, atKey xs (nkOf k) = some p ∧ RelV v p.2 ∧ dfind kvs k = some d ∧ Rp K G v d
  | _, _, _, .nil, .nil => .inl ⟨rfl, rfl⟩
  | _, _, _, @Paired.cons _ _ _ e p _ _ h r, @Paired.cons _ _ _ _ x _ _ g t => by
    obtain ⟨p1, p2⟩ := p
    obtain ⟨h1, hn, h2, h3⟩ := h
    cases h1
    obtain ⟨g1, g2, g3⟩ := g
    by_cases q : nkOf e.1 = nkOf k
    · refine .inr ⟨x.2, e.2.2, p2, ?_, g3, ?_, h3⟩
      · simp [atKey, g1, q]
      · unfold dfind
        rw [List.find?_cons]
        simp only [nest_eqv hn hk, q, decide_true, Option.map_some]
    · have e1 : ∀ l, atKey (x :: l) (nkOf k) = atKey l (nkOf k) := fun l => by simp [atKey, g1, q]
      have e2 : ∀ l : List (D × D), dfind ((e.1, p2) :: l) k = dfind l k := fun l => by
        unfold dfind
        rw [List.find?_cons]
        simp only [nest_eqv hn hk, q, decide_false]
      rw [e1, e2]
      exact RN.find hk r t
def putN (ents : List (D × Addr × V)) (k : D) (b : Addr) (v : V) : List (D × Addr × V) :=
  match ents.any fun e => decide (nkOf e.1 = nkOf k) with
  | true => ents.map fun e => match decide (nkOf e.1 = nkOf k) with | true => (e.1, e.2.1, v) | false => e
  | false => ents ++ [(k, b, v)]
theorem RN.any {k : D} (hk : isNestK k = true) {ents : List (D × Addr × V)} {kvs : List (D × D)} (r : RN K G ents kvs) : (kvs.any fun p => PyData.eqv p.1 k) = ents.any fun e => decide (nkOf e.1 = nkOf k) := by
  unfold RN at r
  induction r with
  | nil => rfl
  | cons h t ih => rw [List.any_cons, List.any_cons, ih, h.1, nest_eqv h.2.1 hk]
theorem RN.put {ents : List (D × Addr × V)} {kvs : List (D × D)} {k : D} {b : Addr} {v : V} {d : D} (hk : isNestK k = true) (r : RN K G ents kvs) (rk : Rp K G (.ref b) k) (h : Rp K G v d) : RN K G (putN ents k b v) (dputL kvs k d) := by
  unfold putN dputL
  rw [r.any hk]
  cases q : ents.any fun e => decide (nkOf e.1 = nkOf k) with
  | true =>
    clear q
    unfold RN at r ⊢
    induction r with
    | nil => exact .nil
    | @cons e p es ps hh t ih =>
      rw [List.map_cons, List.map_cons]
      refine .cons ?_ ih
      obtain ⟨p1, p2⟩ := p
      obtain ⟨h1, hn, h2, h3⟩ := hh
      cases h1
      simp only [nest_eqv hn hk]
      cases decide (nkOf e.1 = nkOf k) with
      | true => exact ⟨rfl, hn, h2, h⟩
      | false => exact ⟨rfl, hn, h2, h3⟩
  | false => exact Paired.snoc r ⟨rfl, hk, rk, h⟩
theorem RX.put {ents : List (D × Addr × V)} {xs : List (NestedKey × Addr × Value)} {k : D} {b : Addr} {v : V} {u : Value} (r : RX ents xs) (h : RelV v u) : RX (putN ents k b v) (storedH xs (nkOf k) b u) := by
  have ea : (atKey xs (nkOf k)).isSome = ents.any fun e => decide (nkOf e.1 = nkOf k) := by
    unfold RX at r
    induction r with
    | nil => rfl
    | @cons e x es xs g t ih =>
      rw [List.any_cons, ← ih]
      by_cases q : nkOf e.1 = nkOf k
      · simp [atKey, g.1, q]
      · simp [atKey, g.1, q]
  unfold putN storedH
  rw [ea]
  cases q : ents.any fun e => decide (nkOf e.1 = nkOf k) with
  | true =>
    clear q ea
    rw [if_pos rfl]
    unfold RX at r ⊢
    induction r with
    | nil => exact .nil
    | @cons e x es xs g t ih =>
      rw [List.map_cons, List.map_cons]
      refine .cons ?_ ih
      obtain ⟨g1, g2, g3⟩ := g
      by_cases q : nkOf e.1 = nkOf k
      · simp only [q, decide_true]
        unfold putAt
        rw [if_pos (g1.trans q)]
        exact ⟨g1.trans q, g2, h⟩
      · simp only [q, decide_false]
        unfold putAt
        rw [if_neg (fun z => q (g1.symm.trans z))]
        exact ⟨g1, g2, g3⟩
  | false =>
    rw [if_neg (by decide)]
    exact Paired.snoc r ⟨rfl, rfl, h⟩
theorem length_putN (ents : List (D × Addr × V)) (k : D) (b : Addr) (v : V) : (putN ents k b v).length ≤ ents.length + 1 := by
  unfold putN
  split
  · rw [List.length_map]; omega
  · rw [List.length_append]; simp
end
end Rf

set_option Elab.async false
set_option linter.all false
set_option maxHeartbeats 1000000
/-! Rf, part N2: dicts: their operations by the library's rules. -/
namespace Rf
open PySem PySem.Spec PyProof.Rows L2

theorem rx_keys {ents : List (D × Addr × V)} {xs : List (NestedKey × Addr × Value)} (r : RX ents xs) : xs.map (·.1) = ents.map fun e => nkOf e.1 := by
  unfold RX at r
  induction r with
  | nil => rfl
  | cons h t ih => rw [List.map_cons, List.map_cons, ih, h.1]
theorem dN_ok {P : Program} {w : World} {H' : Hp} {h' : Heap} {a : Addr} {ents : List (D × Addr × V)} {xs : List (NestedKey × Addr × Value)} (z : ents.length ≤ sizeLine) (hd : (a == sysModules) = false) (rx : RX ents xs)
    (hn : ∀ e ∈ ents, isNestK e.1 = true) (dd : h'.DictOfH (nestedKind P w) a xs) : ObjOk P w H' h' a (dN a ents) := by
  obtain ⟨o, es, ep, h1, h2, h3, h4, hq, h5⟩ := dd
  refine ⟨⟨z, hd, by rw [← rx_keys rx]; exact h5, xs, rx, o, es, ep, h1, h2, h3, fun P' w' => ?_⟩, ⟨o, h1⟩, fun g1 g2 q k => ?_⟩
  · rw [h4]
    clear h4 h5 h1 h2 h3 hq
    unfold RX at rx
    induction rx with
    | nil => rfl
    | @cons e x es xs g t ih =>
      rw [List.map_cons, List.map_cons, ih (Nat.le_trans (Nat.le_succ _) (by simpa using z)) (fun y hy => hn y (List.mem_cons_of_mem _ hy))]
      congr 1
      unfold entryOfKey
      have e1 : (nestedKind P w).hash x.1 = (nestedKind P' w').hash x.1 := by
        show x.1.hash w = x.1.hash w'
        rw [g.1]
        exact nk_hash w w' (nest_key (hn e (List.mem_cons_self ..))).1
      rw [e1]
  · obtain ⟨q1, q2, q3, ys, ry, o2, es2, ep2, e1, e2, e3, e4⟩ := q
    exact ⟨q1, q2, q3, ys, ry, o2, es2, ep2, k _ e1, e2, e3, e4⟩
mutual
theorem nodic_nk : ∀ {d : D}, nkey d = true → nodic d = true
  | .int _, _ => rfl
  | .none, _ => rfl
  | .tuple ds, h => by rw [nkey] at h; rw [nodic]; exact nodics_nk h
  | .bool _, h => by rw [nkey] at h; cases h
  | .str _, h => by rw [nkey] at h; cases h
  | .list _, h => by rw [nkey] at h; cases h
  | .dict _, h => by rw [nkey] at h; cases h
theorem nodics_nk : ∀ {ds : List D}, nkeys ds = true → nodics ds = true
  | [], _ => rfl
  | d :: ds, h => by
    rw [nkeys, Bool.and_eq_true] at h
    rw [nodics, nodic_nk h.1, nodics_nk h.2]; rfl
end
/-- what is no list (nor a dict) stands deep -/
theorem RpT.deep {K : PySem.W.Frag} {F H : Hp} {v : V} {d : D} (h : RpT K F H v d) (n : nodic d = true) (nl : ∀ ds, d ≠ .list ds) : Rp K F v d := by
  cases d with
  | none => cases (show v = .non from h); exact .non
  | bool b => cases (show v = .bl b from h); exact .bl b
  | int i => cases (show v = .int i from h); exact .int i
  | str z => cases (show v = .str z from h); exact .str z
  | list ds => exact (nl ds rfl).elim
  | tuple ds => obtain ⟨a, vs, rfl, h1, h2⟩ := h; exact .tup h1 h2
  | dict _ => cases n
section
variable {X : Cx} {pins : List (Addr × Obj)} {σ : L2.St} {F H : Hp} {s : Shared} {a : Addr} {o : HO} {kvs : List (D × D)} {k : D}
theorem rn_nil_of_leaf {ents : List (D × Addr × V)} (r : RN X.K F ents kvs) (hl : (kvs.all fun p => isLeafK p.1) = true) : ents = [] ∧ kvs = [] := by
  cases r with
  | nil => exact ⟨rfl, rfl⟩
  | cons h t =>
    rw [List.all_cons, Bool.and_eq_true, h.1, nest_noleaf h.2.1] at hl
    cases hl.1
theorem rk_nil_of_nest {ents : List (Key × V)} (r : RK X.K F ents kvs) (hl : (kvs.all fun p => isNestK p.1) = true) : ents = [] ∧ kvs = [] := by
  cases r with
  | nil => exact ⟨rfl, rfl⟩
  | @cons e p _ _ h t =>
    rw [List.all_cons, Bool.and_eq_true, h.1] at hl
    have := nest_noleaf hl.1
    rw [kD_leaf] at this
    cases this
theorem arr_nil {α : Type} {es : Array α} (h : es.toList = []) : es = #[] := Array.toList_inj.mp (by simpa using h)
theorem dd_L (I : Inv X pins σ H s) (e : Rd H a o) (d : DR X.K F a o kvs) (hl : (kvs.all fun p => isLeafK p.1) = true) :
    ∃ ents vs, RK X.K F ents kvs ∧ ents.length ≤ sizeLine ∧ (a == sysModules) = false ∧ KV ents vs ∧ s.heap.DictOf (mixKind X.prog X.w) a vs := by
  rcases dr_rows.mp d with ⟨ents, rfl, r⟩ | ⟨ents, rfl, r⟩
  · obtain ⟨z, hd, vs, rel, dd⟩ := dk_rd I.hok e
    exact ⟨ents, vs, r, z, hd, rel, dd⟩
  · obtain ⟨rfl, rfl⟩ := rn_nil_of_leaf r hl
    obtain ⟨⟨_, hd, _, xs, rx, ob, es, ep, e1, e2, e3, e4⟩, _⟩ := e.ok I.hok
    cases rx
    have en := arr_nil (e4 X.prog X.w)
    subst en
    exact ⟨[], [], .nil, Nat.zero_le _, hd, .nil, ob, #[], ep, e1, e2, e3, fun x hx => by simp at hx, .nil, List.nodup_nil⟩
theorem dd_N (I : Inv X pins σ H s) (f : Same F H) (e : Rd H a o) (d : DR X.K F a o kvs) (hl : (kvs.all fun p => isNestK p.1) = true) :
    ∃ ents xs, RN X.K F ents kvs ∧ ents.length ≤ sizeLine ∧ (a == sysModules) = false ∧ RX ents xs ∧ s.heap.DictOfH (nestedKind X.prog X.w) a xs := by
  rcases dr_rows.mp d with ⟨ents, rfl, r⟩ | ⟨ents, rfl, r⟩
  · obtain ⟨rfl, rfl⟩ := rk_nil_of_nest r hl
    obtain ⟨z, hd, vs, rel, ob, es, ep, e1, e2, e3, _, e4, _⟩ := dk_rd I.hok e
    cases rel
    have en : es.toList = [] := by
      generalize es.toList = l at e4
      cases e4
      rfl
    have en := arr_nil en
    subst en
    exact ⟨[], [], .nil, Nat.zero_le _, hd, .nil, ob, #[], ep, e1, e2, e3, rfl, (fun _ z => nomatch z), List.nodup_nil⟩
  · obtain ⟨⟨z, hd, nd, xs, rx, ob, es, ep, e1, e2, e3, e4⟩, zz⟩ := e.ok I.hok
    refine ⟨ents, xs, r, z, hd, rx, ob, es, ep, e1, e2, e3, e4 X.prog X.w, ?_, by rw [rx_keys rx]; exact nd⟩
    clear e4 e3 e2 e1 nd z d e hl zz
    intro x hx
    have rx : RX ents xs := rx
    unfold RX at rx
    unfold RN at r
    induction rx generalizing kvs with
    | nil => cases hx
    | @cons en y es ys g t ih =>
      cases r with
      | cons h r =>
        rcases List.mem_cons.mp hx with rfl | hx
        · obtain ⟨b, e1, e2, e3⟩ := key_nested I (Rp.mono f h.2.2.1) h.2.1 rfl
          cases e2
          rw [g.1, ← g.2.1]
          exact e3
        · exact ih r t hx
theorem room_N (hu : X.A.units + 65 < cLine) : (nestedKind X.prog X.w).room X.A.in1 := by
  show X.A.in1.units + 8 < cLine
  have : X.A.in1.units = X.A.units + 1 := rfl
  omega
theorem keyOk_or (h : keyOk kvs k = true) : (isLeafK k = true ∧ (kvs.all fun p => isLeafK p.1) = true) ∨ (isNestK k = true ∧ (kvs.all fun p => isNestK p.1) = true) := by
  unfold keyOk at h
  rw [Bool.or_eq_true, Bool.and_eq_true, Bool.and_eq_true] at h
  exact h
/-- d[k], there -/
theorem q_getItem {Q : Value → Shared → Prop} {E : Value → Shared → Prop} (hu : X.A.units + 65 < cLine) (I : Inv X pins σ H s) (f : Same F H) (e : Rd H a o) (d : DR X.K F a o kvs) (hk : keyOk kvs k = true) {y : V} {u : Value} (rk : Rp X.K F y k) (ry : RelV y u) {dv : D} (hf : dfind kvs k = some dv)
    (h : ∀ v w' s', Inv X pins σ H s' → RelV v w' → Rp X.K F v dv → Q w' s') : wpAny (model X.prog X.w) X.A (getItem (.ref a) u) Q E s := by
  rcases keyOk_or hk with ⟨k1, k2⟩ | ⟨k1, k2⟩
  · obtain ⟨key, rfl⟩ := leaf_key k1
    have ey := rp_leaf rk
    subst ey
    obtain ⟨ents, vs, r, z, hd, rel, dd⟩ := dd_L I e d k2
    rcases r.find key with ⟨_, q⟩ | ⟨v, d2, q1, q2, rv⟩
    · rw [hf] at q; cases q
    · rw [hf] at q2; cases q2
      obtain ⟨w', hw, rw'⟩ := RelO.some_of (v := v) (o := valueAt vs key) (by rw [← q1]; exact rel.val key)
      exact wpAny_getItem_of (kV_is ry) dd.mapOf hw (h v w' _ (I.tok _) rw' rv)
  · obtain ⟨b, rfl, rfl, kb⟩ := key_nested I (Rp.mono f rk) k1 ry
    obtain ⟨ents, xs, r, z, hd, rx, dd⟩ := dd_N I f e d k2
    rcases r.find k1 rx with ⟨_, q⟩ | ⟨p, v, d2, q1, q3, q2, rv⟩
    · rw [hf] at q; cases q
    · rw [hf] at q2; cases q2
      exact wpAny_getItem_heap (room_N hu) kb dd q1 (h v _ _ (I.tok _) q3 rv)
theorem ddT (I : Inv X pins σ H s) (e : Rd H a o) (d : DR X.K F a o kvs) : s.TypeIs (.ref a) "dict" := by
  rcases dr_rows.mp d with ⟨ents, rfl, r⟩ | ⟨ents, rfl, r⟩
  · obtain ⟨z, hd, vs, rel, dd⟩ := dk_rd I.hok e
    exact dd.typeIs
  · obtain ⟨⟨_, hd, _, xs, rx, ob, es, ep, e1, e2, e3, e4⟩, _⟩ := e.ok I.hok
    exact ⟨ob, e1, e2.1⟩
/-- d.get(k, x) -/
theorem q_get2 {Q : Value → Shared → Prop} {E : Value → Shared → Prop} (hu : X.A.units + 65 < cLine) (I : Inv X pins σ H s) (f : Same F H) (e : Rd H a o) (d : DR X.K F a o kvs) (hk : keyOk kvs k = true) {y x : V} {u r : Value} (rk : Rp X.K F y k) (ry : RelV y u) {dx : D} (rx0 : Rp X.K F x dx) (rr : RelV x r)
    (h : ∀ v w' s', Inv X pins σ H s' → RelV v w' → Rp X.K F v ((dfind kvs k).getD dx) → Q w' s') : wpAny (model X.prog X.w) X.A (call (.builtin "dict.get") [.ref a, u, r]) Q E s := by
  rcases keyOk_or hk with ⟨k1, k2⟩ | ⟨k1, k2⟩
  · obtain ⟨key, rfl⟩ := leaf_key k1
    have ey := rp_leaf rk
    subst ey
    obtain ⟨ents, vs, rr2, z, hd, rel, dd⟩ := dd_L I e d k2
    refine call_meetsIn PySem.F.slot_dict_get dd.typeIs PySem.F.entry_dict_get (PySem.F.args_dict_get_3 _ _ _) (meets_dict_get_default (mixKind X.prog X.w) a (kV_is ry) hd r) ⟨_, dd.mapOf, ?_⟩
    have rg := rel.val key
    rcases rr2.find key with ⟨q1, q2⟩ | ⟨v, d2, q1, q2, rv⟩
    · rw [q2] at h
      refine h x _ _ (I.tok _) ?_ rx0
      have := rg.getD rr
      rw [q1] at this
      exact this
    · rw [q2] at h
      refine h v _ _ (I.tok _) ?_ rv
      have := rg.getD rr
      rw [q1] at this
      exact this
  · obtain ⟨b, rfl, rfl, kb⟩ := key_nested I (Rp.mono f rk) k1 ry
    obtain ⟨ents, xs, rr2, z, hd, rx, dd⟩ := dd_N I f e d k2
    refine call_meetsIn PySem.F.slot_dict_get dd.typeIs PySem.F.entry_dict_get (PySem.F.args_dict_get_3 _ _ _) (meetsH_dict_get_default (nestedKind X.prog X.w) a b hd r) ⟨room_N hu, nkOf k, xs, kb, dd, ?_⟩
    rcases rr2.find k1 rx with ⟨q1, q2⟩ | ⟨p, v, d2, q1, q3, q2, rv⟩
    · rw [q2] at h
      rw [q1]
      exact h x _ _ (I.tok _) rr rx0
    · rw [q2] at h
      rw [q1]
      exact h v _ _ (I.tok _) q3 rv
/-- d[k] = v -/
theorem q_setItem {Q : Unit → Shared → Prop} {E : Value → Shared → Prop} (hu : X.A.units + 65 < cLine) (I : Inv X pins σ H s) (f : Same F H) (e : H a = some o) (d : DR X.K F a o kvs) (hk : keyOk kvs k = true) (hz : kvs.length < sizeLine) {y x : V} {u r : Value} (rk : Rp X.K F y k) (ry : RelV y u) {dx : D} (rx0 : Rp X.K F x dx) (rr : RelV x r)
    (h : ∀ o' s', DR X.K F a o' (dputL kvs k dx) → Inv X pins σ (upd H a o') s' → Q () s') : wpAny (model X.prog X.w) X.A (setItem (.ref a) u r) Q E s := by
  have mu : Mut (H a) := by
    rw [e]
    rcases dr_rows.mp d with ⟨ents, rfl, _⟩ | ⟨ents, rfl, _⟩ <;> trivial
  rcases keyOk_or hk with ⟨k1, k2⟩ | ⟨k1, k2⟩
  · obtain ⟨key, rfl⟩ := leaf_key k1
    have ey := rp_leaf rk
    subst ey
    obtain ⟨ents, vs, r2, z, hd, rel, dd⟩ := dd_L I (.inl e) d k2
    have hvs : vs.length ≤ sizeLine := by rw [← rel.length]; exact z
    refine wpAny_setItem_pairs (hsz := hvs) (kV_is ry) dd fun h' dd' hs => h (.dK (putK ents key x)) _ (dr_rows.mpr (.inl ⟨_, rfl, r2.put rx0⟩)) ?_
    have he : ∃ q, h'.get? a = some q := let ⟨q, _, _, hq, _⟩ := dd'; ⟨q, hq⟩
    refine d_write I mu hs he (dk_new ?_ hd (rel.put key rr) dd')
    have := length_putK ents key x
    have := r2.length
    omega
  · obtain ⟨b, rfl, rfl, kb⟩ := key_nested I (Rp.mono f rk) k1 ry
    obtain ⟨ents, xs, r2, z, hd, rx, dd⟩ := dd_N I f (.inl e) d k2
    have hxs : xs.length ≤ sizeLine := by rw [← Paired.length rx]; exact z
    have rn := r2.put (b := b) (v := x) k1 rk rx0
    refine wpAny_setItem_heap (hsz := hxs) (room_N hu) kb dd fun h' dd' hs => h (dN a (putN ents k b x)) _ (dr_rows.mpr (.inr ⟨_, rfl, rn⟩)) ?_
    have he : ∃ q, h'.get? a = some q := let ⟨q, _, _, hq, _⟩ := dd'; ⟨q, hq⟩
    obtain ⟨_, _, _, _, hn⟩ := of_rn rn
    refine d_write I mu hs he (dN_ok ?_ hd (rx.put rr) hn dd')
    have := length_putN ents k b x
    have := r2.length
    omega
/-- what may be read as a dict has no dict of its own -/
theorem ddN (I : Inv X pins σ H s) (e : Rd H a o) (d : DR X.K F a o kvs) : ∃ ob, s.heap.get? a = some ob ∧ ob.ExactDict := by
  rcases dr_rows.mp d with ⟨ents, rfl, r⟩ | ⟨ents, rfl, r⟩
  · obtain ⟨z, hd, vs, rel, ob, es, ep, e1, e2, _⟩ := dk_rd I.hok e
    exact ⟨ob, e1, e2⟩
  · obtain ⟨⟨_, hd, _, xs, rx, ob, es, ep, e1, e2, e3, e4⟩, _⟩ := e.ok I.hok
    exact ⟨ob, e1, e2⟩
/-- an object that may be written stands still from here on: its very object is known -/
theorem Inv.frz (I : Inv X pins σ H s) {u : HO} (e : H a = some u) (mu : Mut (some u)) (eo : ∃ ob, s.heap.get? a = some ob) : ∃ ob, Inv X pins σ (upd H a (.frz ob u)) s := by
  have ok := I.hok a _ e
  obtain ⟨ob, eo⟩ := eo
  have mu' : Mut (H a) := by rw [e]; exact mu
  refine ⟨ob, I.un (h' := s.heap) (t' := s.toks) (Un.write mu' (.inl rfl) (fun _ _ _ q => q) ⟨ob, eo⟩) (I.hok.write mu' (.inl rfl) (fun _ _ _ q => q) ⟨ob, eo⟩ ⟨eo, ?_⟩)⟩
  refine ok.stay (fun _ _ _ q => q) (fun b q => ?_) fun b xs q => ?_
  · rw [upd_ne]; exact q
    rintro rfl; rw [e] at q; cases q; exact mu
  · rw [upd_ne]; exact q
    rintro rfl; rw [e] at q; cases q; exact mu
theorem Inv.frzD (I : Inv X pins σ H s) (e : H a = some o) (d : DR X.K F a o kvs) : ∃ ob, Inv X pins σ (upd H a (.frz ob o)) s :=
  let ⟨ob, h, _⟩ := ddN I (.inl e) d
  Inv.frz I e (by rcases dr_rows.mp d with ⟨ents, rfl, _⟩ | ⟨ents, rfl, _⟩ <;> trivial) ⟨ob, h⟩
theorem DR.mut (d : DR X.K F a o kvs) : Mut (some o) := by
  rcases dr_rows.mp d with ⟨ents, rfl, _⟩ | ⟨ents, rfl, _⟩ <;> trivial
end
end Rf

set_option Elab.async false
set_option linter.all false
set_option maxHeartbeats 1000000
/-! Rf, part B2: subscripts, slices, built-in functions by their rules. -/
namespace Rf
open PySem PySem.Spec PyProof.Rows L2
section
variable {X : Cx}
/-- d[k] by values -/
theorem item_dict {value slice : Expr} {s : Shared} {a : Addr} {u : Value} {Q : Value → Shared → Prop} {E : Value → Shared → Prop} (hT : s.TypeIs (.ref a) "dict") (h : wpAny (model X.prog X.w) X.A (getItem (.ref a) u) Q E s)
    (hs : subscripted slice false (.ref a) u = operate [.ref a, u] (getItem (.ref a) u)) : wpAny (model X.prog X.w) X.A (subscriptTail value slice (.ref a) u) Q E s := by
  unfold subscriptTail
  refine wpAny_bind ?_
  rw [getitemInPython_of_ne hT.not_modules]
  refine wpAny_bind (wpAny_specialOf hT PySem.F.slot_dict_getitem.lookup ?_)
  have fin : wpAny (model X.prog X.w) X.A (subscripted slice false (.ref a) u) (fun r s₃ => wpAny (model X.prog X.w) X.A (letTemporaryGo value (.ref a) r >>= fun _ => pure r) Q E s₃) E s := by
    rw [hs]
    exact wpAny_operating (wpAny_mono h (fun r s₃ h₃ => wpAny_bind (wpAny_letTemporaryGo (wpAny_pure h₃))) fun _ _ x => x)
  first
    | exact wpAny_pure (wpAny_bind fin)
    | exact wpAny_bind (wpAny_pure (wpAny_bind fin))
    | exact wpAny_bind fin
/-- a key stands deep -/
theorem key_deep {K : PySem.W.Frag} {F H : Hp} {kvs : List (D × D)} {k : D} {y : V} (c : keyOk kvs k = true) (h : RpT K F H y k) : Rp K F y k := by
  rcases keyOk_or c with ⟨k1, _⟩ | ⟨k1, _⟩
  · cases k <;> first
      | (cases k1; done)
      | exact h.deep rfl fun _ z => nomatch z
  · cases k with
    | tuple ds => exact h.deep (nodic_nk (nest_key k1).1) fun _ z => nomatch z
    | _ => cases k1
theorem ix_D (hu : X.A.units + 65 < cLine) : IxR X (rOp X.K ixD) := by
  intro value slice pins s σ H x y v u Q I rx ry ⟨F, d, e, f, hx, hy, q⟩ hs
  cases d with
  | dict kvs =>
    obtain ⟨a, o, rfl, h1, h2⟩ := hx
    cases (show v = Value.ref a from rx)
    have q : PostV X.K F H (R.chk (keyOk kvs e) (match dfind kvs e with | some d => .ok d | none => .bad)) Q := q
    cases c : keyOk kvs e with
    | false => rw [c] at q; exact q.elim
    | true =>
      rw [c] at q
      cases c2 : dfind kvs e with
      | none => rw [c2] at q; exact q.elim
      | some dv =>
        rw [c2] at q
        have ry' : Rp X.K F y e := key_deep c hy
        exact item_dict (ddT I h1 h2) (q_getItem hu I f h1 h2 c ry' ry c2 fun v w' s' I' r1 r2 => ⟨v, H, I', r1, PostV.here f q r2⟩) hs
  | list ds =>
    cases e with
    | int i =>
      obtain ⟨l, xs, rfl, hl, rl⟩ := hx
      have q' : PostV X.K F H (match L2.atI ds i with | some d => .ok d | none => .bad) Q := q
      cases c : L2.atI ds i with
      | none => rw [c] at q'; exact q'.elim
      | some d =>
        rw [c] at q'
        obtain ⟨z, h1, h2⟩ := atI_rp rl c
        exact ix_list value slice pins s σ H _ y v u Q I rx ry ⟨l, xs, i, z, rfl, hy, hl, h1, PostV.here f q' h2⟩ hs
    | _ => exact q.elim
  | tuple ds =>
    cases e with
    | int i =>
      obtain ⟨l, xs, rfl, hl, rl⟩ := hx
      have q' : PostV X.K F H (match L2.atI ds i with | some d => .ok d | none => .bad) Q := q
      cases c : L2.atI ds i with
      | none => rw [c] at q'; exact q'.elim
      | some d =>
        rw [c] at q'
        obtain ⟨z, h1, h2⟩ := atI_rp rl c
        exact ix_tup value slice pins s σ H _ y v u Q I rx ry ⟨l, xs, i, z, rfl, hy, f.sqT hl, h1, PostV.here f q' h2⟩ hs
    | _ => exact q.elim
  | str z =>
    cases e with
    | int i =>
      have q' : PostV X.K F H (R.chk (decide (z.length ≤ lineN)) (match L2.atI z.cps.toList i with | some c => .ok (.str ⟨#[c]⟩) | none => .bad)) Q := q
      cases c : decide (z.length ≤ lineN) with
      | false => rw [c] at q'; exact q'.elim
      | true =>
        rw [c] at q'
        simp only [decide_eq_true_eq, lineN_eq] at c
        cases c2 : L2.atI z.cps.toList i with
        | none => rw [c2] at q'; exact q'.elim
        | some k =>
          rw [c2] at q'
          exact ix_str value slice pins s σ H x y v u Q I rx ry ⟨z, i, k, hx, hy, c, c2, PostV.here f q' (.str _)⟩ hs
    | _ => exact q.elim
  | _ => cases e <;> exact q.elim

def rSlD (K : PySem.W.Frag) : V → Option Int → Option Int → Hp → VK → Prop := fun x lo hi H Q => ∃ F d, Same F H ∧ RpT K F H x d ∧ PostV K F H (slD d lo hi) Q
theorem cutL_whole {α : Type} {xs : List α} {lo hi : Option Int} (h : HT.sIx xs.length 0 lo = 0 ∧ HT.sIx xs.length xs.length hi = xs.length) : cutL xs lo hi = xs := by
  unfold cutL
  rw [h.1, h.2]
  simp
theorem sl_D : SlR X (rSlD X.K) := by
  intro pins s σ H x v vl vu lo hi sl Q I rx hs pl pu ⟨F, d, f, hx, q⟩
  cases d <;> try exact q.elim
  case list ds =>
    obtain ⟨l, xs, rfl, hl, rl⟩ := hx
    have q' : PostV X.K F H (.ok (.list (cutL ds lo hi))) Q := q
    exact sl_list pins s σ H _ v vl vu lo hi sl Q I rx hs pl pu ⟨l, xs, rfl, hl, fun p hp => PostV.newL f q' hp rl.cut⟩
  case tuple ds =>
    obtain ⟨l, xs, rfl, hl, rl⟩ := hx
    have q' : PostV X.K F H (.ok (.tuple (cutL ds lo hi))) Q := q
    refine sl_tupA pins s σ H _ v vl vu lo hi sl Q I rx hs pl pu ⟨l, xs, rfl, f.sqT hl, fun hw => ?_, fun _ p hp => PostV.t f q' hp rl.cut⟩
    rw [rl.length] at hw
    rw [cutL_whole hw] at q'
    exact PostV.here f q' (.tup hl rl)
  case str z =>
    have q' : PostV X.K F H (R.chk (decide (z.length ≤ lineN)) (.ok (.str (L2.cutS z lo hi)))) Q := q
    cases c : decide (z.length ≤ lineN) with
    | false => rw [c] at q'; exact q'.elim
    | true =>
      rw [c] at q'
      simp only [decide_eq_true_eq, lineN_eq] at c
      exact sl_str pins s σ H x v vl vu lo hi sl Q I rx hs pl pu ⟨z, hx, c, PostV.here f q' (.str _)⟩

/-! ### built-in functions -/
theorem fold_min : ∀ (l : List Int) (i m : Int), m ∈ i :: l → (∀ y, y ∈ i :: l → m ≤ y) → m = l.foldl min i
  | [], i, m, h, _ => by simpa using h
  | x :: l, i, m, h, hle => by
    rw [List.foldl_cons]
    refine fold_min l (min i x) m ?_ fun y hy => ?_
    · have h1 := hle i (by simp)
      have h2 := hle x (by simp)
      simp only [List.mem_cons] at h ⊢
      rcases h with h | h | h
      · left; omega
      · left; omega
      · right; exact h
    · have h1 := hle i (by simp)
      have h2 := hle x (by simp)
      rcases List.mem_cons.mp hy with rfl | hy
      · omega
      · exact hle y (by simp [hy])
theorem fold_max : ∀ (l : List Int) (i m : Int), m ∈ i :: l → (∀ y, y ∈ i :: l → y ≤ m) → m = l.foldl max i
  | [], i, m, h, _ => by simpa using h
  | x :: l, i, m, h, hle => by
    rw [List.foldl_cons]
    refine fold_max l (max i x) m ?_ fun y hy => ?_
    · have h1 := hle i (by simp)
      have h2 := hle x (by simp)
      simp only [List.mem_cons] at h ⊢
      rcases h with h | h | h
      · left; omega
      · left; omega
      · right; exact h
    · have h1 := hle i (by simp)
      have h2 := hle x (by simp)
      rcases List.mem_cons.mp hy with rfl | hy
      · omega
      · exact hle y (by simp [hy])
def RpTs (K : PySem.W.Frag) (F H : Hp) : List V → List D → Prop
  | [], [] => True
  | v :: vs, d :: ds => RpT K F H v d ∧ RpTs K F H vs ds
  | _, _ => False
theorem RpTs.one {K : PySem.W.Frag} {F H : Hp} {vs : List V} {d : D} (h : RpTs K F H vs [d]) : ∃ v, vs = [v] ∧ RpT K F H v d := by
  cases vs with
  | nil => exact h.elim
  | cons v r =>
    cases r with
    | nil => exact ⟨v, rfl, h.1⟩
    | cons _ _ => exact h.2.elim
theorem RpTs.two {K : PySem.W.Frag} {F H : Hp} {vs : List V} {d e : D} (h : RpTs K F H vs [d, e]) : ∃ v w, vs = [v, w] ∧ RpT K F H v d ∧ RpT K F H w e := by
  cases vs with
  | nil => exact h.elim
  | cons v r =>
    obtain ⟨w, rfl, h2⟩ := RpTs.one h.2
    exact ⟨v, w, rfl, h.1, h2⟩
theorem RpTs.length {K : PySem.W.Frag} {F H : Hp} : ∀ {vs : List V} {ds : List D}, RpTs K F H vs ds → vs.length = ds.length
  | [], [], _ => rfl
  | _ :: _, _ :: _, h => by simp only [List.length_cons]; rw [RpTs.length h.2]
  | [], _ :: _, h => h.elim
  | _ :: _, [], h => h.elim
theorem RpTs.mono {K : PySem.W.Frag} {F F' H H' : Hp} (g : Same F F') (s : Same H H') : ∀ {vs : List V} {ds : List D}, RpTs K F H vs ds → RpTs K F' H' vs ds
  | [], [], _ => trivial
  | _ :: _, _ :: _, h => ⟨h.1.mono g s, RpTs.mono g s h.2⟩
  | [], _ :: _, h => h.elim
  | _ :: _, [], h => h.elim
/-- a call of built-in b does what biD says -/
def rBI (K : PySem.W.Frag) (b : BI) : List V → Hp → VK → Prop := fun xs H Q => ∃ F ds, Same F H ∧ RpTs K F H xs ds ∧ PostV K F H (biD b ds) Q
/-- biD is asked of one value -/
theorem rBI.one {K : PySem.W.Frag} {b : BI} {xs : List V} {H : Hp} {Q : VK} (h1 : biD b [] = .bad) (h2 : ∀ a c r, biD b (a :: c :: r) = .bad) (h : rBI K b xs H Q) : ∃ F d x, xs = [x] ∧ Same F H ∧ RpT K F H x d ∧ PostV K F H (biD b [d]) Q := by
  obtain ⟨F, ds, f, r, q⟩ := h
  match ds, r, q with
  | [], r, q => rw [h1] at q; exact q.elim
  | [d], r, q =>
    obtain ⟨v, rfl, hv⟩ := r.one
    exact ⟨F, d, v, rfl, f, hv, q⟩
  | a :: c :: t, r, q => rw [h2] at q; exact q.elim
theorem cr_len : CallR X (.builtin "len") (rBI X.K .len) := by
  intro pins s σ H xs us Q I r h
  obtain ⟨F, d, x, rfl, f, hx, q0⟩ := rBI.one rfl (by intro a c r; cases a <;> rfl) h
  have q : PostV X.K F H (lenD d) Q := q0
  clear q0
  cases d <;> try exact q.elim
  case list ds =>
    obtain ⟨l, vs, rfl, hl, rl⟩ := hx
    exact call_len pins s σ H _ us Q I r ⟨_, vs.length, rfl, .inl ⟨vs, hl, rfl⟩, by rw [rl.length]; exact PostV.here f q (.int _)⟩
  case tuple ds =>
    obtain ⟨l, vs, rfl, hl, rl⟩ := hx
    exact call_len pins s σ H _ us Q I r ⟨_, vs.length, rfl, .inr ⟨vs, f.sqT hl, rfl⟩, by rw [rl.length]; exact PostV.here f q (.int _)⟩
  case str z =>
    have q' : PostV X.K F H (R.chk (decide (z.length ≤ lineN)) (.ok (.int z.length))) Q := q
    cases c : decide (z.length ≤ lineN) with
    | false => rw [c] at q'; exact q'.elim
    | true =>
      rw [c] at q'
      simp only [decide_eq_true_eq, lineN_eq] at c
      cases (show x = .str z from hx)
      exact call_len pins s σ H _ us Q I r ⟨_, z.length, rfl, ⟨c, rfl⟩, PostV.here f q' (.int _)⟩
theorem cr_allD (hc : X.calm = true) : CallR X (.builtin "all") (rBI X.K .all) := by
  intro pins s σ H xs us Q I r h
  obtain ⟨F, d, x, rfl, f, hx, q⟩ := rBI.one rfl (by intro a c r; cases a <;> rfl) h
  cases d <;> try exact q.elim
  case list ds =>
    obtain ⟨l, vs, rfl, hl, rl⟩ := hx
    have q : PostV X.K F H ((boolsOf ds).bind fun bs => .ok (.bool (bs.all id))) Q := q
    cases c : boolsOf ds with
    | ok bs =>
      rw [c] at q
      have e := rl.boolsOf c
      subst e
      exact cr_all hc pins s σ H _ us Q I r ⟨l, bs, rfl, hl, PostV.here f q (.bl _)⟩
    | exc c => rw [c] at q; exact q.elim
    | bad => rw [c] at q; exact q.elim
theorem cr_sumD (hc : X.calm = true) : CallR X (.builtin "sum") (rBI X.K .sum) := by
  intro pins s σ H xs us Q I r h
  obtain ⟨F, d, x, rfl, f, hx, q⟩ := rBI.one rfl (by intro a c r; cases a <;> rfl) h
  cases d <;> try exact q.elim
  case list ds =>
    obtain ⟨l, vs, rfl, hl, rl⟩ := hx
    have q : PostV X.K F H ((intsOf ds).bind fun bs => .ok (.int bs.sum)) Q := q
    cases c : intsOf ds with
    | ok bs =>
      rw [c] at q
      have e := rl.intsOf c
      subst e
      exact cr_sum hc pins s σ H _ us Q I r ⟨l, bs, rfl, hl, PostV.here f q (.int _)⟩
    | exc c => rw [c] at q; exact q.elim
    | bad => rw [c] at q; exact q.elim
theorem vals_get : ∀ {xs : List V} {us : List Value}, xs.length = us.length → (∀ (j : Nat) (v : Value), us[j]? = some v → ∃ x, xs[j]? = some x ∧ RelV x v) → Vals xs us
  | [], [], _, _ => .nil
  | [], _ :: _, h, _ => by cases h
  | _ :: _, [], h, _ => by cases h
  | x :: xs, u :: us, h, g => by
    refine .cons ?_ (vals_get (by simpa using h) fun j v e => ?_)
    · obtain ⟨y, e, r⟩ := g 0 u rfl
      cases e
      exact r
    · obtain ⟨y, e, r⟩ := g (j + 1) v (by simpa using e)
      exact ⟨y, by simpa using e, r⟩
theorem signs_vals {z : Str} {acc : Array Value} (h : ItemsOf (SignAt z) acc z.cps.size) : Vals (z.cps.toList.map fun c => V.str ⟨#[c]⟩) acc.toList := by
  refine vals_get (by rw [List.length_map, Array.length_toList, Array.length_toList]; exact h.1.symm) fun j v e => ?_
  obtain ⟨c, u, h1, rfl⟩ := h.2 j v (by simpa using e)
  exact ⟨.str ⟨#[c]⟩, by simp [h1], ⟨u, rfl⟩⟩
theorem strs_rp {K : PySem.W.Frag} {F : Hp} : ∀ (l : List Nat), RpL K F (l.map fun c => V.str ⟨#[c]⟩) (l.map fun c => PyData.str ⟨#[c]⟩)
  | [] => .nil
  | _ :: l => .cons (.str _) (strs_rp l)
theorem cr_listD (hc : X.calm = true) : CallR X (.type "list") (rBI X.K .list) := by
  intro pins s σ H xs us Q I r h
  obtain ⟨F, d, x, rfl, f, hx, q⟩ := rBI.one rfl (by intro a c r; cases a <;> rfl) h
  cases d <;> try exact q.elim
  case list ds =>
    obtain ⟨l, vs, rfl, hl, rl⟩ := hx
    exact call_list_of pins s σ H _ us Q I r ⟨l, vs, rfl, .inl hl, fun p hp => PostV.newL f q hp rl⟩
  case tuple ds =>
    obtain ⟨l, vs, rfl, hl, rl⟩ := hx
    exact call_list_of pins s σ H _ us Q I r ⟨l, vs, rfl, .inr (f.sqT hl), fun p hp => PostV.newL f q hp rl⟩
  case str z =>
    have q' : PostV X.K F H (R.chk (decide (z.length ≤ lineN)) (.ok (.list (z.cps.toList.map fun c => .str ⟨#[c]⟩)))) Q := q
    cases c : decide (z.length ≤ lineN) with
    | false => rw [c] at q'; exact q'.elim
    | true =>
      rw [c] at q'
      simp only [decide_eq_true_eq, lineN_eq] at c
      cases (show x = .str z from hx)
      obtain ⟨u, eu, rx⟩ := vals1 r
      subst eu
      obtain ⟨t, rfl⟩ := (show ∃ t, u = Value.str z t from rx)
      refine call_list_str (hn := c) (I.ok.hd hc) z t fun h' tk acc' c' hk hS hi => ?_
      have hn : H s.heap.objs.size = none := I.hok.fresh (Nat.le_refl _)
      have hv : Vals (z.cps.toList.map fun c => V.str ⟨#[c]⟩) acc'.toList := signs_vals hi
      have J : Inv X pins σ (upd H s.heap.objs.size (.lst (z.cps.toList.map fun c => V.str ⟨#[c]⟩))) { s with heap := h', toks := tk } :=
        I.laid (t' := tk) hk (Nat.le_refl _) ⟨by rw [List.length_map, Array.length_toList]; exact c, acc'.toList, c', hv, by simpa using hS⟩
      exact ⟨.ref _, _, J, rfl, PostV.newL f q' hn (strs_rp _)⟩
theorem cr_tupleD : CallR X (.type "tuple") (rBI X.K .tuple) := by
  intro pins s σ H xs us Q I r h
  obtain ⟨F, d, x, rfl, f, hx, q⟩ := rBI.one rfl (by intro a c r; cases a <;> rfl) h
  cases d <;> try exact q.elim
  case list ds =>
    obtain ⟨l, vs, rfl, hl, rl⟩ := hx
    exact call_tuple_of pins s σ H _ us Q I r ⟨l, vs, rfl, .inl ⟨hl, fun p hp => PostV.t f q hp rl⟩⟩
  case tuple ds =>
    obtain ⟨l, vs, rfl, hl, rl⟩ := hx
    exact call_tuple_of pins s σ H _ us Q I r ⟨l, vs, rfl, .inr ⟨f.sqT hl, PostV.here f q (.tup hl rl)⟩⟩
theorem cr_intD : CallR X (.type "int") (rBI X.K .int) := by
  intro pins s σ H xs us Q I r h
  obtain ⟨F, d, x, rfl, f, hx, q⟩ := rBI.one rfl (by intro a c r; cases a <;> rfl) h
  cases d <;> try exact q.elim
  case int i =>
    cases (show x = .int i from hx)
    exact call_int1 pins s σ H _ us Q I r (.inl ⟨i, rfl, PostV.here f q (.int _)⟩)

theorem RpTs.ints {K : PySem.W.Frag} {F H : Hp} {vs : List V} {i j : Int} (h : RpTs K F H vs [.int i, .int j]) : vs = [.int i, .int j] := by
  obtain ⟨v, w, rfl, h1, h2⟩ := h.two
  cases (show v = .int i from h1)
  cases (show w = .int j from h2)
  rfl
theorem depthAll_le : ∀ {ds : List D}, depthB ds = true → PyData.depthAll ds ≤ 60
  | [], _ => Nat.zero_le _
  | d :: ds, h => by
    obtain ⟨h1, h2⟩ := (Bool.and_eq_true _ _).mp (show (decide (d.depth ≤ 60) && depthB ds) = true from h)
    exact Nat.max_le.mpr ⟨of_decide_eq_true h1, depthAll_le h2⟩
/-- min of a list, and where it stands -/
theorem min_list_at {prog : Program} {w : World} {A : Around} {E : Value → Shared → Prop} {s : Shared} {l : Addr} {vs : Array Value} {x : PyData} {xs : List PyData} {as : List Addr} {Q : Value → Shared → Prop} (hh : A.handled = none) (hl : s.heap.IsList l vs) (hr : ReadsAll s.heap vs.toList (x :: xs) as) (ha : PySem.W.AlikeAll (x :: xs)) (hu : A.units + 1 + PyData.depthAll (x :: xs) < cLine)
    (h : ∀ (i : Nat) v h' tk, vs[i]? = some v → (x :: xs)[i]? = some (PySem.W.minD x xs) → (∀ b o, s.heap.get? b = some o → h'.get? b = some o) → Q v { s with heap := h', toks := tk }) :
    wpAny (model prog w) A (call (.builtin "min") [.ref l]) Q E s := by
  have hn : vs.size = xs.length + 1 := PySem.W.readsAll_len hr
  refine PySem.call_min_walkH (PySem.W.iter_listW (A := A.in1) hh hl fun s₂ e W st hfp hw hk => ?_)
  refine ⟨_, _, _, _, _, _, _, s.heap, _, rfl, W, st, hfp, by omega, hw, hk, PySem.W.cmpIn_lt (A := A.in1) hr ha (by show A.units + 1 + _ < _; exact hu), fun v s' hP m => ?_⟩
  obtain ⟨h', tk, rfl, hk'⟩ := PySem.W.moved_old e rfl m
  obtain ⟨e1, e2⟩ := PySem.W.argBest_fold PySem.W.dataLt PyData.none x xs xs.length (Nat.le_refl _)
  rw [List.take_length] at e2
  have e3 : vs.size - 1 = xs.length := by omega
  rw [e3] at hP
  refine h _ v h' tk hP ?_ hk'
  unfold PySem.W.minD
  rw [← e2, List.getD_eq_getElem?_getD]
  rw [List.getElem?_eq_getElem (by rw [List.length_cons]; exact Nat.lt_succ_of_le e1)]
  rfl
theorem cr_mmD {b : BI} {nm : String} (hb : (b = .min ∧ nm = "min") ∨ (b = .max ∧ nm = "max")) (hc : X.calm = true) (hu : X.A.units + 65 < cLine) : CallR X (.builtin nm) (rBI X.K b) := by
  intro pins s σ H xs us Q I r ⟨F, ds, f, h, q⟩
  match ds, h, q with
  | [], h, q => rcases hb with ⟨rfl, rfl⟩ | ⟨rfl, rfl⟩ <;> exact q.elim
  | [d], h, q =>
    obtain ⟨x, rfl, hx⟩ := h.one
    cases d with
    | list ds =>
      obtain ⟨l, vs, rfl, hl, rl⟩ := hx
      cases ds with
      | nil => rcases hb with ⟨rfl, rfl⟩ | ⟨rfl, rfl⟩ <;> exact q.elim
      | cons d0 ds =>
        rcases hb with ⟨rfl, rfl⟩ | ⟨rfl, rfl⟩
        · have q0 : PostV X.K F H (match isTupleD d0 with | true => minT d0 ds | false => (intsOf (d0 :: ds)).bind fun is => match is with | [] => .bad | i :: r => .ok (.int (r.foldl min i))) Q := q
          clear q
          cases ct : isTupleD d0 with
          | true =>
            rw [ct] at q0
            have q0 : PostV X.K F H (R.chk (decide (ds.length ≤ 1000000) && alikeAllB (d0 :: ds) && depthB (d0 :: ds) && nodics (d0 :: ds)) (.ok (PySem.W.minD d0 ds))) Q := q0
            cases c : (decide (ds.length ≤ 1000000) && alikeAllB (d0 :: ds) && depthB (d0 :: ds) && nodics (d0 :: ds)) with
            | false => rw [c] at q0; exact q0.elim
            | true =>
              rw [c] at q0
              simp only [Bool.and_eq_true, decide_eq_true_eq] at c
              obtain ⟨⟨⟨c1, c2⟩, c3⟩, c4⟩ := c
              rw [Vals.ref1 r]
              obtain ⟨its, rv, pl, hz⟩ := I.list hl
              obtain ⟨as, rd⟩ := Dp.readsAll I _ _ _ (RpL.dp (RpL.mono f rl) c4) rv
              have al : PySem.W.AlikeAll (d0 :: ds) := by
                refine ⟨fun a ha b hb => List.all_eq_true.mp (List.all_eq_true.mp c2 a ha) b hb, fun a ha z => ?_⟩
                subst z
                have h1 := List.all_eq_true.mp (List.all_eq_true.mp c2 d0 (List.mem_cons_self ..)) _ ha
                cases d0 with
                | tuple es => cases es <;> exact nomatch h1
                | _ => cases ct
              refine min_list_at (I.ok.hd hc) pl.isList rd al (by have := depthAll_le c3; omega) fun i v h' tk e1 e2 k => ?_
              obtain ⟨y, h1, h2⟩ := rl.get e2
              have e1 : its[i]? = some v := by simpa using e1
              obtain ⟨u, g1, g2⟩ := rv.get h1
              rw [e1] at g1
              cases g1
              exact ⟨y, H, I.kept (t' := tk) k, g2, PostV.here f q0 h2⟩
          | false =>
          rw [ct] at q0
          have q : PostV X.K F H ((intsOf (d0 :: ds)).bind fun is => match is with | [] => .bad | i :: r => .ok (.int (r.foldl min i))) Q := q0
          cases c : intsOf (d0 :: ds) with
          | ok is =>
            rw [c] at q
            have e := rl.intsOf c
            subst e
            cases is with
            | nil => exact q.elim
            | cons i is =>
              refine cr_min hc pins s σ H _ us Q I r ⟨l, i :: is, rfl, hl, Nat.succ_pos _, fun m hm hle => ?_⟩
              have e : m = is.foldl min i := fold_min is i m hm hle
              rw [e]
              exact PostV.here f q (.int _)
          | exc c => rw [c] at q; exact q.elim
          | bad => rw [c] at q; exact q.elim
        · have q : PostV X.K F H ((intsOf (d0 :: ds)).bind fun is => match is with | [] => .bad | i :: r => .ok (.int (r.foldl max i))) Q := q
          cases c : intsOf (d0 :: ds) with
          | ok is =>
            rw [c] at q
            have e := rl.intsOf c
            subst e
            cases is with
            | nil => exact q.elim
            | cons i is =>
              refine cr_max hc pins s σ H _ us Q I r ⟨l, i :: is, rfl, hl, Nat.succ_pos _, fun m hm hle => ?_⟩
              have e : m = is.foldl max i := fold_max is i m hm hle
              rw [e]
              exact PostV.here f q (.int _)
          | exc c => rw [c] at q; exact q.elim
          | bad => rw [c] at q; exact q.elim
    | _ => rcases hb with ⟨rfl, rfl⟩ | ⟨rfl, rfl⟩ <;> exact q.elim
  | [a, c], h, q =>
    have key : ∃ i j, a = .int i ∧ c = .int j := by
      rcases hb with ⟨rfl, rfl⟩ | ⟨rfl, rfl⟩ <;> cases a <;> cases c <;> first
        | exact ⟨_, _, rfl, rfl⟩
        | exact q.elim
    obtain ⟨i, j, rfl, rfl⟩ := key
    have e := RpTs.ints h
    subst e
    rcases hb with ⟨rfl, rfl⟩ | ⟨rfl, rfl⟩
    · exact call_min2 hc pins s σ H _ us Q I r ⟨i, j, rfl, PostV.here f q (.int _)⟩
    · exact call_max2 hc pins s σ H _ us Q I r ⟨i, j, rfl, PostV.here f q (.int _)⟩
  | a :: c :: e :: t, h, q => rcases hb with ⟨rfl, rfl⟩ | ⟨rfl, rfl⟩ <;> cases a <;> cases c <;> exact q.elim
theorem cr_min2D (hc : X.calm = true) (hu : X.A.units + 65 < cLine) : CallR X (.builtin "min") (rBI X.K .min) := cr_mmD (.inl ⟨rfl, rfl⟩) hc hu
theorem cr_max2D (hc : X.calm = true) (hu : X.A.units + 65 < cLine) : CallR X (.builtin "max") (rBI X.K .max) := cr_mmD (.inr ⟨rfl, rfl⟩) hc hu
/-! ### isinstance -/
def tyD : D → String
  | .none => "NoneType" | .bool _ => "bool" | .int _ => "int" | .str _ => "str" | .list _ => "list" | .tuple _ => "tuple" | .dict _ => "dict"
theorem RpT.ty {K : PySem.W.Frag} {F H : Hp} {x : V} {d : D} (f : Same F H) (h : RpT K F H x d) (nd : ∀ k, d ≠ .dict k) : TyX K H x (.type (tyD d)) := by
  cases d with
  | none => cases (show x = .non from h); exact .base .non
  | bool b => cases (show x = .bl b from h); exact .base (.bl b)
  | int i => cases (show x = .int i from h); exact .base (.int i)
  | str z => cases (show x = .str z from h); exact .base (.str z)
  | list ds =>
    obtain ⟨a, vs, rfl, h1, h2⟩ := h
    rcases h1 with (h1 | ⟨o, h1⟩) | ⟨o, its, n, h1, h2, _⟩
    · exact .base (.lst h1)
    · exact .base (.frz h1)
    · exact .kList h1 h2
  | tuple ds =>
    obtain ⟨a, vs, rfl, h1, h2⟩ := h
    rcases f.sqT h1 with (h1 | ⟨o, h1⟩) | ⟨o, its, n, h1, h2, _⟩
    · exact .base (.tup h1)
    · exact .fTuple h1
    · exact .kTuple h1 h2
  | dict k => exact (nd k rfl).elim
/-- isinstance(x, T), T a built-in class -/
def rIs (K : PySem.W.Frag) (T : String) : List V → Hp → VK → Prop := fun xs H Q => ∃ F x d b, xs = [x, .ty T] ∧ Same F H ∧ RpT K F H x d ∧ (∀ k, d ≠ .dict k) ∧ kitB (tyD d) T = some b ∧ Q (.bl b) H
theorem cr_is {T : String} : CallR X (.builtin "isinstance") (rIs X.K T) := by
  intro pins s σ H xs us Q I r ⟨F, x, d, b, e, f, hx, nd, k, q⟩
  subst e
  exact call_isi pins s σ H _ us Q I r ⟨x, .ty T, .type (tyD d), .type T, b, rfl, .ty T, hx.ty f nd, kit_ty k, q⟩
def isTy : BI → Option String
  | .isInt => some "int" | .isBool => some "bool" | .isTuple => some "tuple" | .isList => some "list" | .isStr => some "str" | _ => none
theorem is_ans {b : BI} {T : String} (h : isTy b = some T) (d : D) (hd : ∀ k, d ≠ .dict k) : ∃ k, biD b [d] = .ok (.bool k) ∧ kitB (tyD d) T = some k := by
  cases b <;> cases h <;> cases d <;> first
    | (refine ⟨true, rfl, ?_⟩; dsimp only [tyD]; decide +kernel)
    | (refine ⟨false, rfl, ?_⟩; dsimp only [tyD]; decide +kernel)
    | exact (hd _ rfl).elim
end
end Rf

set_option Elab.async false
set_option linter.all false
set_option maxHeartbeats 1000000
/-! Rf, part N3: dict(pairs). -/
namespace Rf
open PySem PySem.Spec PyProof.Rows L2

theorem PostV.d {K : PySem.W.Frag} {F H : Hp} {kvs : List (D × D)} {Q : VK} {p : Addr} {o : HO} (f : Same F H) (h : PostV K F H (.ok (.dict kvs)) Q) (n : H p = none) {ob : Obj} (r : DR K F p o kvs) : Q (.ref p) (upd H p (.frz ob o)) := by
  obtain ⟨kv, ks, vv, ds, h1, h2, h3, h4⟩ := r
  exact h _ _ (same_upd n) (.dic (by rw [gr_none n, upd_same]) h1 (RpL.mono (gr_F f) h2) (RpL.mono (gr_F f) h3) h4)
section
variable {K : PySem.W.Frag} {F H : Hp}
def PR (K : PySem.W.Frag) (F : Hp) : List (Addr × V × V) → List (D × D) → Prop := Paired fun e p => SqT K F e.1 [e.2.1, e.2.2] ∧ Rp K F e.2.1 p.1 ∧ Rp K F e.2.2 p.2
theorem pairs_inv : ∀ {ds : List D} {ps : List (D × D)} {vs : List V}, pairsOf ds = .ok ps → RpL K F vs ds → ∃ es, vs = es.map (fun e => V.ref e.1) ∧ PR K F es ps := fun {ds} => by
  induction ds with
  | nil => intro ps vs e r; cases e; cases r; exact ⟨[], rfl, .nil⟩
  | cons d ds ih =>
    intro ps vs e r
    unfold pairsOf at e
    split at e
    · rename_i z; cases z
    · rename_i k v r' z
      cases z
      obtain ⟨ps', e1, e2⟩ := bind_ok e
      cases e2
      cases r with
      | cons h r =>
        obtain ⟨es, rfl, p⟩ := ih e1 r
        cases h with
        | tup hs hr =>
          cases hr with
          | cons a1 hr =>
            cases hr with
            | cons a2 hr =>
              cases hr
              exact ⟨(_, _, _) :: es, rfl, .cons ⟨hs, a1, a2⟩ p⟩
    · cases e
theorem rk_merge : ∀ {more : List (Key × V)} {ps kvs : List (D × D)} {ents : List (Key × V)}, Paired (fun (e : Key × V) (p : D × D) => p.1 = kD e.1 ∧ Rp K F e.2 p.2) more ps → RK K F ents kvs → RK K F (mergeK ents more) (ps.foldl (fun acc p => dputL acc p.1 p.2) kvs)
  | _, _, _, _, .nil, r => r
  | _, _, _, _, @Paired.cons _ _ _ e p _ _ h t, r => by
    obtain ⟨p1, p2⟩ := p
    have h1 : p1 = kD e.1 := h.1
    subst h1
    have q := rk_merge t (r.put (k := e.1) h.2)
    exact q
def mergeN (ents more : List (D × Addr × V)) : List (D × Addr × V) := more.foldl (fun acc e => putN acc e.1 e.2.1 e.2.2) ents
theorem rn_merge : ∀ {more : List (D × Addr × V)} {ps kvs : List (D × D)} {ents : List (D × Addr × V)}, RN K F more ps → RN K F ents kvs → RN K F (mergeN ents more) (ps.foldl (fun acc p => dputL acc p.1 p.2) kvs)
  | _, _, _, _, .nil, r => r
  | _, _, _, _, @Paired.cons _ _ _ e p _ _ h t, r => by
    obtain ⟨p1, p2⟩ := p
    have h1 : p1 = e.1 := h.1
    subst h1
    have q := rn_merge t (r.put h.2.1 h.2.2.1 h.2.2.2)
    exact q
theorem rx_merge : ∀ {more : List (D × Addr × V)} {ys xs : List (NestedKey × Addr × Value)} {ents : List (D × Addr × V)}, RX more ys → RX ents xs → RX (mergeN ents more) (storedAllH xs ys)
  | _, _, _, _, .nil, r => r
  | _, _, _, _, @Paired.cons _ _ _ e y _ _ h t, r => by
    obtain ⟨y1, y2, y3⟩ := y
    have h1 : y1 = nkOf e.1 := h.1
    have h2 : e.2.1 = y2 := h.2.1
    subst h1 h2
    have q := rx_merge t (r.put (k := e.1) h.2.2 (b := e.2.1))
    exact q
theorem length_mergeN (more : List (D × Addr × V)) : ∀ ents, (mergeN ents more).length ≤ ents.length + more.length := by
  unfold mergeN
  induction more with
  | nil => exact fun _ => Nat.le_refl _
  | cons e more ih =>
    intro ents
    have h1 := ih (putN ents e.1 e.2.1 e.2.2)
    have h2 := length_putN ents e.1 e.2.1 e.2.2
    rw [List.foldl_cons, List.length_cons]
    omega
theorem pr_leaf : ∀ {es : List (Addr × V × V)} {ps : List (D × D)}, PR K F es ps → (ps.map (·.1)).all isLeafK = true → ∃ more : List (Key × V), Paired (fun p kv => SqT K F p [kV kv.1, kv.2]) (es.map (·.1)) more ∧ Paired (fun (e : Key × V) (p : D × D) => p.1 = kD e.1 ∧ Rp K F e.2 p.2) more ps
  | _, _, .nil, _ => ⟨[], .nil, .nil⟩
  | _, _, @Paired.cons _ _ _ e p _ _ h t, l => by
    rw [List.map_cons, List.all_cons, Bool.and_eq_true] at l
    obtain ⟨more, m1, m2⟩ := pr_leaf t l.2
    obtain ⟨key, ek⟩ := leaf_key l.1
    have ev := h.2.1
    rw [ek] at ev
    have ev := rp_leaf ev
    exact ⟨(key, e.2.2) :: more, .cons (by rw [← ev]; exact h.1) m1, .cons ⟨ek, h.2.2⟩ m2⟩
theorem rpN_ref {v : V} {d : D} (h : Rp K F v d) (k : isNestK d = true) : ∃ b, v = .ref b := by
  cases d with
  | tuple ds => cases h with | tup _ _ => exact ⟨_, rfl⟩
  | _ => cases k
theorem pr_nest : ∀ {es : List (Addr × V × V)} {ps : List (D × D)}, PR K F es ps → (ps.map (·.1)).all isNestK = true → ∃ more : List (D × Addr × V), RN K F more ps ∧ Paired (fun (e : Addr × V × V) (m : D × Addr × V) => SqT K F e.1 [.ref m.2.1, m.2.2]) es more
  | _, _, .nil, _ => ⟨[], .nil, .nil⟩
  | _, _, @Paired.cons _ _ _ e p _ _ h t, l => by
    rw [List.map_cons, List.all_cons, Bool.and_eq_true] at l
    obtain ⟨more, m1, m2⟩ := pr_nest t l.2
    obtain ⟨b, eb⟩ := rpN_ref h.2.1 l.1
    refine ⟨(p.1, b, e.2.2) :: more, .cons ⟨rfl, l.1, by have := h.2.1; rw [eb] at this; exact this, h.2.2⟩ m1, .cons ?_ m2⟩
    rw [← eb]
    exact h.1
end
theorem refs_vals : ∀ {es : List (Addr × V × V)} {its : List Value}, Vals (es.map fun e => V.ref e.1) its → its = es.map fun e => Value.ref e.1
  | [], _, r => by cases r; rfl
  | e :: es, _, r => by
    rw [List.map_cons] at r
    cases r with
    | @cons _ u _ us h t =>
      cases (show u = Value.ref e.1 from h)
      rw [refs_vals t]
      rfl
section
variable {X : Cx} {pins : List (Addr × Obj)} {σ : L2.St} {F H : Hp} {s : Shared}
/-- the raw pairs -/
theorem raw_pairs (I : Inv X pins σ H s) (f : Same F H) : ∀ {es : List (Addr × V × V)} {more : List (D × Addr × V)} {ps : List (D × D)}, Paired (fun (e : Addr × V × V) (m : D × Addr × V) => SqT X.K F e.1 [.ref m.2.1, m.2.2]) es more → RN X.K F more ps →
    ∃ ys : List (NestedKey × Addr × Value), RX more ys ∧ es.length = ys.length ∧ (∀ x ∈ ys, (nestedKind X.prog X.w).is s.heap x.1 x.2.1) ∧ ∀ (j : Nat) (y : NestedKey × Addr × Value), ys[j]? = some y → ∃ e, es[j]? = some e ∧ PairAt s.heap e.1 (.ref y.2.1) y.2.2
  | _, _, _, .nil, .nil => ⟨[], .nil, rfl, (fun _ z => nomatch z), fun j y z => by simp at z⟩
  | _, _, _, @Paired.cons _ _ _ e m es more h t, @Paired.cons _ _ _ _ p _ _ g r => by
    obtain ⟨ys, y1, y2, y3, y4⟩ := raw_pairs I f t r
    obtain ⟨its, rv, tp, _⟩ := I.tuple (f.sqT h)
    obtain ⟨u1, u2, rfl⟩ : ∃ u1 u2, its = [u1, u2] := by
      cases rv with
      | cons _ rv => cases rv with
        | cons _ rv => cases rv; exact ⟨_, _, rfl⟩
    cases rv with
    | cons a1 rv =>
      cases rv with
      | cons a2 _ =>
        cases (show u1 = Value.ref m.2.1 from a1)
        obtain ⟨b, eb, ev, kb⟩ := key_nested I (Rp.mono f g.2.2.1) g.2.1 (show RelV (.ref m.2.1) (.ref m.2.1) from rfl)
        cases ev
        refine ⟨(nkOf m.1, m.2.1, u2) :: ys, .cons ⟨rfl, rfl, a2⟩ y1, by rw [List.length_cons, List.length_cons, y2], fun x hx => ?_, fun j y hy => ?_⟩
        · rcases List.mem_cons.mp hx with rfl | hx
          · exact kb
          · exact y3 x hx
        · cases j with
          | zero =>
            rw [List.getElem?_cons_zero] at hy ⊢
            cases hy
            exact ⟨e, rfl, .inl tp⟩
          | succ j =>
            rw [List.getElem?_cons_succ] at hy ⊢
            exact y4 j y hy
theorem cr_dictD (hc : X.calm = true) (hu : X.A.units + 65 < cLine) : CallR X (.type "dict") (rBI X.K .dict) := by
  intro pins s σ H xs us Q I r h
  obtain ⟨F, d, x, rfl, f, hx, q⟩ := rBI.one rfl (by intro a c r; rfl) h
  have q0 : PostV X.K F H (dictD d) Q := q
  clear q
  have q := q0
  clear q0
  cases d <;> try exact q.elim
  case list ds =>
    obtain ⟨l, vs, rfl, hl, rl⟩ := hx
    have q : PostV X.K F H ((pairsOf ds).bind fun ps => R.chk (keysOk (ps.map (·.1)) && decide (ps.length ≤ 100000)) (.ok (.dict (ps.foldl (fun acc p => dputL acc p.1 p.2) [])))) Q := q
    cases c : pairsOf ds with
    | exc n => rw [c] at q; exact q.elim
    | bad => rw [c] at q; exact q.elim
    | ok ps =>
      rw [c] at q
      have q : PostV X.K F H (R.chk (keysOk (ps.map (·.1)) && decide (ps.length ≤ 100000)) (.ok (.dict (ps.foldl (fun acc p => dputL acc p.1 p.2) [])))) Q := q
      cases c2 : (keysOk (ps.map (·.1)) && decide (ps.length ≤ 100000)) with
      | false => rw [c2] at q; exact q.elim
      | true =>
        rw [c2] at q
        rw [Bool.and_eq_true, decide_eq_true_eq] at c2
        obtain ⟨es, rfl, pr⟩ := pairs_inv c rl
        have k := c2.1
        unfold keysOk at k
        rw [Bool.or_eq_true] at k
        rcases k with k | k
        · obtain ⟨more, m1, m2⟩ := pr_leaf pr k
          refine wpAny_mono (call_dictP hc pins s σ H _ us (fun v H' => ∃ p, v = .ref p ∧ H p = none ∧ H' = upd H p (.dK (mergeK [] more))) I r ⟨l, es.map (·.1), more, rfl, by rw [List.map_map]; exact hl, ?_, fun p hp => ⟨p, rfl, hp, rfl⟩⟩) (fun u s' z => ?_) fun _ _ z => z
          · exact Paired.mapP m1 fun a b z => f.sqT z
          · obtain ⟨v, H', I', rv, p, rfl, hp, rfl⟩ := z
            obtain ⟨ob, I2⟩ := Inv.frzD I' upd_same (dr_rows.mpr (.inl ⟨_, rfl, rk_merge m2 .nil⟩))
            rw [upd_upd] at I2
            exact ⟨.ref p, _, I2, rv, PostV.d f q hp (dr_rows.mpr (.inl ⟨_, rfl, rk_merge m2 .nil⟩))⟩
        · obtain ⟨more, m1, m2⟩ := pr_nest pr k
          obtain ⟨ys, y1, y2, y3, y4⟩ := raw_pairs I f m2 m1
          obtain ⟨u, eu, rx⟩ := vals1 r
          subst eu
          cases rx
          obtain ⟨z, its, n, sl, rv, hlen, ls⟩ := Inv.sqM I hl
          have ei : its = es.map (fun e => Value.ref e.1) := refs_vals rv
          subst ei
          have hn : H s.heap.objs.size = none := I.hok.fresh (Nat.le_refl _)
          have hm : (s.heap.objs.size == sysModules) = false := beq_eq_false_iff_ne.mpr (Nat.ne_of_gt I.big)
          let Ts : Nat → Addr := fun j => (es.map (·.1)).getD j 0
          let prs : List (Value × Value) := ys.map fun y => (.ref y.2.1, y.2.2)
          have hlp : prs.length = es.length := by rw [List.length_map, y2]
          have hsz : prs.length ≤ sizeLine := by
            rw [hlp, ← List.length_map (f := fun e : Addr × V × V => V.ref e.1)]
            exact z
          have P := PairArg.list (prog := X.prog) (w := X.w) l (es.map fun e => Value.ref e.1).toArray Ts prs
          refine call_dict_pairsH (knd := nestedKind X.prog X.w) (ps := ys) P (I.ok.hd hc) (show X.A.in1.in1.units + 8 < cLine by have : X.A.in1.in1.units = X.A.units + 2 := rfl; omega) ⟨⟨_, _, ls, rfl, rfl, rfl⟩, ⟨by simp [hlp], fun j k v hj => ?_⟩⟩ ⟨by rw [List.length_map], fun j k v hj => ?_⟩ (fun h' hk x hx => ?_) hsz fun h' tk hd' hk => ?_
          · rw [List.getElem?_map] at hj
            cases ey : ys[j]? with
            | none => rw [ey] at hj; cases hj
            | some y =>
              rw [ey] at hj
              obtain ⟨e, e1, e2⟩ := y4 j y ey
              cases hj
              have eT : Ts j = e.1 := by
                show (es.map (·.1)).getD j 0 = e.1
                rw [List.getD_eq_getElem?_getD, List.getElem?_map, e1]
                rfl
              rw [eT]
              exact ⟨by simp [e1], e2⟩
          · have hj : prs[j]? = some (k, v) := hj
            rw [List.getElem?_map] at hj
            cases ey : ys[j]? with
            | none => rw [ey] at hj; cases hj
            | some y =>
              rw [ey] at hj
              cases hj
              exact ⟨y.1, y.2.1, rfl, rfl⟩
          · refine nestedKind_stays.stays (fun b o vs n e _ => hk b o (Nat.ne_of_lt (Heap.lt_size e)) (fun z => nomatch z) e) (y3 x hx)
          · have rx2 := rx_merge y1 (xs := []) (ents := []) .nil
            have rn2 := rn_merge m1 (kvs := []) (ents := []) .nil
            obtain ⟨_, _, _, _, hnn⟩ := of_rn rn2
            have hlen : (mergeN [] more).length ≤ sizeLine := by
              have h1 := length_mergeN more []
              have h2 : more.length = ys.length := Paired.length y1
              have h3 : prs.length = ys.length := List.length_map ..
              rw [List.length_nil] at h1
              omega
            have hk' : ∀ b o, s.heap.get? b = some o → h'.get? b = some o := fun b o e => hk b o (fun z => nomatch z) e
            obtain ⟨ob, I2⟩ := Inv.frzD (I.laid (t' := tk) hk' (Nat.le_refl _) (dN_ok hlen hm rx2 hnn hd')) upd_same (dr_rows.mpr (.inr ⟨_, rfl, rn2⟩))
            rw [upd_upd] at I2
            exact ⟨.ref s.heap.objs.size, _, I2, rfl, PostV.d f q hn (dr_rows.mpr (.inr ⟨_, rfl, rn2⟩))⟩
end
end Rf

set_option Elab.async false
set_option linter.all false
set_option maxHeartbeats 1000000
/-! Rf, part C: the meaning of expressions. -/
namespace Rf
open PySem PySem.Spec PyProof.Rows L2

/-! ### no built-in operation lets an own exception out -/
theorem chk_noexc {α : Type} {b : Bool} {x : R α} {n : Str} (h : x ≠ .exc n) : R.chk b x ≠ .exc n := by
  cases b with
  | true => exact h
  | false => intro z; cases z
theorem chkok_noexc {α : Type} {b : Bool} {a : α} {n : Str} : R.chk b (R.ok a) ≠ .exc n := chk_noexc fun z => nomatch z
theorem binD_noexc {o : Bop} {d e : D} {n : Str} : binD o d e ≠ .exc n := by
  intro h
  cases o <;> cases d <;> cases e <;> first
    | cases h
    | exact chkok_noexc h
theorem eqD_noexc {d e : D} {n : Str} : eqD d e ≠ .exc n := chk_noexc fun z => nomatch z
theorem inD_noexc {d e : D} {n : Str} : inD d e ≠ .exc n := by
  intro h
  cases e with
  | list ds => exact chkok_noexc h
  | tuple ds => exact chkok_noexc h
  | str z => cases d <;> cases h
  | _ => cases h
theorem bind_noexc {α β : Type} {x : R α} {f : α → R β} {n : Str} (h : x ≠ .exc n) (h2 : ∀ a, f a ≠ .exc n) : x.bind f ≠ .exc n := by
  cases x with
  | ok a => exact h2 a
  | exc c => intro z; cases z; exact h rfl
  | bad => intro z; cases z
theorem cmpB_noexc {o : Cop} {d e : D} {n : Str} : cmpB o d e ≠ .exc n := by
  cases o
  case eq => exact eqD_noexc
  case ne => exact bind_noexc eqD_noexc fun _ z => nomatch z
  case isin => exact inD_noexc
  case notin => exact bind_noexc inD_noexc fun _ z => nomatch z
  all_goals
    intro h
    cases d <;> cases e <;> first
      | (cases h; done)
      | exact chkok_noexc h
theorem cmpD_noexc {o : Cop} {d e : D} {n : Str} : cmpD o d e ≠ .exc n := bind_noexc cmpB_noexc fun _ z => nomatch z
theorem ix_l {ds : List D} {i : Int} {n : Str} (h : (match L2.atI ds i with | some d => R.ok d | none => .bad) = .exc n) : False := by
  cases c : L2.atI ds i <;> rw [c] at h <;> cases h
theorem ixD_noexc {d e : D} {n : Str} : ixD d e ≠ .exc n := by
  intro h
  by_cases hd : ∃ kvs, d = .dict kvs
  · obtain ⟨kvs, rfl⟩ := hd
    refine chk_noexc ?_ (show R.chk (keyOk kvs e) (match dfind kvs e with | some d => .ok d | none => .bad) = .exc n from h)
    intro h
    cases c : dfind kvs e <;> rw [c] at h <;> cases h
  cases d <;> cases e <;> first
    | exact (hd ⟨_, rfl⟩).elim
    | cases h
    | skip
  case neg.list.int => rename_i ds i; exact ix_l h
  case neg.tuple.int => rename_i ds i; exact ix_l h
  case neg.str.int => 
    rename_i z i
    refine chk_noexc ?_ (show R.chk (decide (z.length ≤ lineN)) (match L2.atI z.cps.toList i with | some c => R.ok (PyData.str ⟨#[c]⟩) | none => .bad) = .exc n from h)
    intro h
    cases c : L2.atI z.cps.toList i <;> rw [c] at h <;> cases h
theorem slD_noexc {d : D} {lo hi : Option Int} {n : Str} : slD d lo hi ≠ .exc n := by
  intro h
  cases d <;> first
    | cases h
    | exact chkok_noexc h
theorem boolsOf_noexc {n : Str} : ∀ {ds : List D}, boolsOf ds ≠ .exc n
  | [] => fun z => nomatch z
  | .bool b :: r => bind_noexc boolsOf_noexc fun _ z => nomatch z
  | .none :: _ => fun z => nomatch z
  | .int _ :: _ => fun z => nomatch z
  | .str _ :: _ => fun z => nomatch z
  | .list _ :: _ => fun z => nomatch z
  | .tuple _ :: _ => fun z => nomatch z
  | .dict _ :: _ => fun z => nomatch z
theorem intsOf_noexc {n : Str} : ∀ {ds : List D}, intsOf ds ≠ .exc n
  | [] => fun z => nomatch z
  | .int b :: r => bind_noexc intsOf_noexc fun _ z => nomatch z
  | .none :: _ => fun z => nomatch z
  | .bool _ :: _ => fun z => nomatch z
  | .str _ :: _ => fun z => nomatch z
  | .list _ :: _ => fun z => nomatch z
  | .tuple _ :: _ => fun z => nomatch z
  | .dict _ :: _ => fun z => nomatch z
theorem bindok_noexc {α β : Type} {x : R α} {f : α → β} {n : Str} (h : x ≠ .exc n) : (x.bind fun a => R.ok (f a)) ≠ .exc n := bind_noexc h fun _ z => nomatch z
theorem tupInts_noexc {n : Str} {d : D} : tupInts d ≠ .exc n := by
  cases d <;> first
    | exact intsOf_noexc
    | (intro z; cases z; done)
theorem keysD_noexc {n : Str} : ∀ {ds : List D}, keysD ds ≠ .exc n
  | [] => fun z => nomatch z
  | d :: r => bind_noexc tupInts_noexc fun _ => bind_noexc keysD_noexc fun _ z => nomatch z
theorem isq_noexc {b : Bool} {d : D} {n : Str} : isq b d ≠ .exc n := by
  cases d <;> exact fun z => nomatch z
theorem strsOf_noexc {n : Str} : ∀ {ds : List D}, strsOf ds ≠ .exc n
  | [] => fun z => nomatch z
  | .str b :: r => bind_noexc strsOf_noexc fun _ z => nomatch z
  | .none :: _ => fun z => nomatch z
  | .int _ :: _ => fun z => nomatch z
  | .bool _ :: _ => fun z => nomatch z
  | .list _ :: _ => fun z => nomatch z
  | .tuple _ :: _ => fun z => nomatch z
  | .dict _ :: _ => fun z => nomatch z
theorem lenSetL_noexc {ds : List D} {n : Str} : lenSetL ds ≠ .exc n := by
  unfold lenSetL
  split
  · exact bind_noexc intsOf_noexc fun _ => chkok_noexc
  · exact bind_noexc strsOf_noexc fun _ => chkok_noexc
theorem lenSetD_noexc {d : D} {n : Str} : lenSetD d ≠ .exc n := by
  unfold lenSetD
  split
  · split
    · exact chk_noexc (bindok_noexc keysD_noexc)
    · exact lenSetL_noexc
  · exact lenSetL_noexc
  · exact fun z => nomatch z
theorem joinD_noexc {d e : D} {n : Str} : joinD d e ≠ .exc n := by
  unfold joinD
  split
  · exact bind_noexc strsOf_noexc fun _ => chkok_noexc
  · exact bind_noexc strsOf_noexc fun _ => chkok_noexc
  · exact fun z => nomatch z
theorem indexD_noexc {d e : D} {n : Str} : indexD d e ≠ .exc n := by
  unfold indexD
  split
  · exact chk_noexc (by split <;> exact fun z => nomatch z)
  · split <;> exact fun z => nomatch z
  · exact fun z => nomatch z
theorem pairsOf_noexc {n : Str} : ∀ {ds : List D}, pairsOf ds ≠ .exc n := fun {ds} => by
  induction ds with
  | nil => exact fun z => nomatch z
  | cons d ds ih =>
    unfold pairsOf
    split
    · exact fun z => nomatch z
    · rename_i z; cases z; exact bind_noexc ih fun _ z => nomatch z
    · exact fun z => nomatch z
theorem dictD_noexc {d : D} {n : Str} : dictD d ≠ .exc n := by
  unfold dictD
  split
  · exact bind_noexc pairsOf_noexc fun _ => chkok_noexc
  · exact fun z => nomatch z
theorem pairsI_noexc {n : Str} : ∀ {ds : List D}, pairsI ds ≠ .exc n := fun {ds} => by
  induction ds with
  | nil => exact fun z => nomatch z
  | cons d ds ih =>
    unfold pairsI
    split
    · exact fun z => nomatch z
    · rename_i z; cases z; exact chk_noexc (bind_noexc ih fun _ z => nomatch z)
    · exact fun z => nomatch z
theorem sortSetL_noexc {ds : List D} {n : Str} : sortSetL ds ≠ .exc n := by
  unfold sortSetL
  split
  · exact bind_noexc intsOf_noexc fun _ => chkok_noexc
  · split
    · exact bind_noexc pairsI_noexc fun _ => chkok_noexc
    · exact bind_noexc strsOf_noexc fun _ => chkok_noexc
theorem sortSetD_noexc {d : D} {n : Str} : sortSetD d ≠ .exc n := by
  unfold sortSetD
  split
  · exact sortSetL_noexc
  · exact sortSetL_noexc
  · exact fun z => nomatch z
theorem rngD_noexc {ds : List D} {n : Str} : rngD ds ≠ .exc n := by
  unfold rngD
  split
  · exact chkok_noexc
  · exact chkok_noexc
  · exact fun z => nomatch z
theorem minD_noexc {ds : List D} {n : Str} : minD ds ≠ .exc n := by
  unfold minD
  split
  · exact fun z => nomatch z
  · split
    · exact chkok_noexc
    · exact bind_noexc intsOf_noexc fun is => by cases is <;> exact fun z => nomatch z
theorem maxD_noexc {ds : List D} {n : Str} : maxD ds ≠ .exc n := by
  unfold maxD
  split
  · exact fun z => nomatch z
  · exact bind_noexc intsOf_noexc fun is => by cases is <;> exact fun z => nomatch z
theorem lenD_noexc {d : D} {n : Str} : lenD d ≠ .exc n := by
  unfold lenD
  split <;> first
    | exact chkok_noexc
    | exact fun z => nomatch z
theorem sortD_noexc {b : Bool} {ds : List D} {n : Str} : sortD b ds ≠ .exc n := chkok_noexc
theorem biD_noexc {b : BI} {ds : List D} {n : Str} : biD b ds ≠ .exc n := by
  unfold biD
  split <;> first
    | exact joinD_noexc
    | exact indexD_noexc
    | exact dictD_noexc
    | exact sortSetD_noexc
    | exact bind_noexc rngD_noexc fun _ z => nomatch z
    | exact sortD_noexc
    | exact chk_noexc sortD_noexc
    | exact lenSetD_noexc
    | exact minD_noexc
    | exact maxD_noexc
    | exact chkok_noexc
    | exact lenD_noexc
    | exact bindok_noexc boolsOf_noexc
    | exact bindok_noexc intsOf_noexc
    | exact isq_noexc
    | exact fun z => nomatch z

/-! ### slots -/
/-- the object o of the frame's own holds d -/
def OR (K : PySem.W.Frag) (F : Hp) (a : Addr) (o : HO) : D → Prop
  | .list ds => ∃ vs, o = .lst vs ∧ RpL K F vs ds
  | .dict kvs => DR K F a o kvs
  | _ => False
def Own (K : PySem.W.Frag) (F H : Hp) (v : V) (d : D) : Prop := ∃ a o, v = .ref a ∧ F a = none ∧ H a = some o ∧ OR K F a o d
theorem OR.mono {K : PySem.W.Frag} {F F' : Hp} {a : Addr} {o : HO} {d : D} (h : OR K F a o d) (s : Same F F') : OR K F' a o d := by
  cases d with
  | list ds => obtain ⟨vs, e, r⟩ := h; exact ⟨vs, e, RpL.mono s r⟩
  | dict kvs => exact DR.mono h s
  | _ => exact h.elim
theorem OR.rpT {K : PySem.W.Frag} {F G H : Hp} {a : Addr} {o : HO} {d : D} (h : OR K F a o d) (s : Same F G) (e : H a = some o) : RpT K G H (.ref a) d := by
  cases d with
  | list ds => obtain ⟨vs, rfl, r⟩ := h; exact ⟨a, vs, rfl, .inl (.inl e), RpL.mono s r⟩
  | dict kvs => exact ⟨a, o, rfl, .inl e, DR.mono h s⟩
  | _ => exact h.elim
/-- slot by slot: what stands there -/
def Sl (K : PySem.W.Frag) (F H : Hp) : Option (Bool × D) → Option V → Prop
  | none, _ => True
  | some (false, d), some v => Rp K F v d
  | some (true, d), some v => Own K F H v d
  | some _, none => False
structure Ss (K : PySem.W.Frag) (F H : Hp) (env : Env) (σ : L2.St) : Prop where
  sub : Same F H
  len : σ.length = env.length
  slot : ∀ (i : Nat) (b : Option (Bool × D)), env[i]? = some b → ∃ v : Option V, σ[i]? = some v ∧ Sl K F H b v
  apart : ∀ (i j : Nat) (di dj : D) (a : Addr), i ≠ j → env[i]? = some (some (true, di)) → env[j]? = some (some (true, dj)) → σ[i]? = some (some (.ref a)) → σ[j]? = some (some (.ref a)) → False
section
variable {K : PySem.W.Frag} {F F' H H' H1 : Hp} {env : Env} {σ : L2.St}
theorem Own.mono {v : V} {d : D} (h : Own K F H v d) (s : Same H H') : Own K F H' v d := by
  obtain ⟨a, o, rfl, f, h1, r⟩ := h
  exact ⟨a, o, rfl, f, s _ _ h1, r⟩
theorem Sl.mono {b : Option (Bool × D)} {v : Option V} (h : Sl K F H b v) (s : Same H H') : Sl K F H' b v := by
  match b, v, h with
  | none, _, _ => trivial
  | some (false, d), some v, h => exact h
  | some (true, d), some v, h => exact Own.mono h s
theorem Ss.grow (h : Ss K F H env σ) (s : Same H H') : Ss K F H' env σ :=
  ⟨h.sub.trans s, h.len, fun i b e => let ⟨v, h1, h2⟩ := h.slot i b e; ⟨v, h1, h2.mono s⟩, h.apart⟩
/-- the new objects join what stands still -/
theorem Ss.growF (h : Ss K F H env σ) (s : Same H H') : Ss K (Gr F H H') H' env σ := by
  refine ⟨gr_sub h.sub s, h.len, fun i b e => ?_, h.apart⟩
  obtain ⟨v, h1, h2⟩ := h.slot i b e
  refine ⟨v, h1, ?_⟩
  match b, v, h2 with
  | none, _, _ => trivial
  | some (false, d), some v, h2 => exact Rp.mono (gr_F h.sub) h2
  | some (true, d), some v, h2 =>
    obtain ⟨a, o, rfl, f, h3, r⟩ := h2
    exact ⟨a, o, rfl, by rw [gr_some h3]; exact f, s _ _ h3, r.mono (gr_F h.sub)⟩
end

/-! ### results -/
/-- how a result is laid: t: its top may be a list of the frame's own -/
def RpB (t : Bool) (K : PySem.W.Frag) (G H : Hp) (v : V) (d : D) : Prop := match t with
  | true => RpT K G H v d
  | false => Rp K G v d
theorem RpB.of {t : Bool} {K : PySem.W.Frag} {G H : Hp} {v : V} {d : D} (h : Rp K G v d) (s : Same G H) : RpB t K G H v d := by
  cases t with
  | true => exact h.top s
  | false => exact h
theorem RpB.rt {t : Bool} {K : PySem.W.Frag} {G H : Hp} {v : V} {d : D} (h : RpB t K G H v d) (s : Same G H) : RpT K G H v d := by
  cases t with
  | true => exact h
  | false => exact Rp.top h s
abbrev ExA := Str → Option Addr
def Exc (ca : ExA) (W : WX) (H : Hp) (σ : L2.St) (n : Str) : Prop := ∀ H' C, Same H H' → ca n = some C → W (.ref C) none σ H'
def PG {α : Type} (ca : ExA) (W : WX) (H : Hp) (σ : L2.St) (r : R α) (k : α → Prop) : Prop := match r with
  | .ok a => k a
  | .exc n => Exc ca W H σ n
  | .bad => False
section
variable {α β : Type} {ca : ExA} {W : WX} {H H' : Hp} {σ : L2.St}
theorem PG.of_bind {r : R α} {f : α → R β} {k : β → Prop} (h : PG ca W H σ (r.bind f) k) : PG ca W H σ r fun a => PG ca W H σ (f a) k := by
  cases r with
  | ok a => exact h
  | exc n => exact h
  | bad => exact h
theorem PG.imp {r : R α} {k k' : α → Prop} (h : PG ca W H σ r k) (i : ∀ a, k a → k' a) : PG ca W H σ r k' := by
  cases r with
  | ok a => exact i a h
  | exc n => exact h
  | bad => exact h
theorem PG.later {r : R α} {k : α → Prop} (h : PG ca W H σ r k) (s : Same H H') : PG ca W H' σ r k := by
  cases r with
  | ok a => exact h
  | exc n => exact fun H2 C s2 e => h H2 C (s.trans s2) e
  | bad => exact h
theorem PG.go {r : R α} {k k' : α → Prop} (h : PG ca W H σ r k) (s : Same H H') (i : ∀ a, k a → k' a) : PG ca W H' σ r k' := (h.later s).imp i
theorem PG.ok {r : R α} {k : α → Prop} {a : α} (h : PG ca W H σ r k) (e : r = .ok a) : k a := by subst e; exact h
end
/-- what is wanted of an expression's value -/
abbrev WB (t : Bool) (K : PySem.W.Frag) (F H : Hp) (Q : VK) (d : D) : Prop := ∀ v H', Same H H' → RpB t K (Gr F H H') H' v d → Q v H'
/-- the reading of an expression: what it evaluates to by ev -/
def rd (S : Sig) (ca : ExA) (W : WX) (K : PySem.W.Frag) (t : Bool) (c : C) : TE := fun σ H Q => ∃ F env, Ss K F H env σ ∧ PG ca W H σ (ev S t c env) (WB t K F H Q)
def rdA (S : Sig) (ca : ExA) (W : WX) (K : PySem.W.Frag) (t : Bool) (c : C) : TA := fun σ H Q => ∃ F env, Ss K F H env σ ∧ PG ca W H σ (evs S t c env)
  (fun ds => ∀ vs H', Same H H' → (match t with | true => RpTs K (Gr F H H') H' vs ds | false => RpL K (Gr F H H') vs ds) → Q vs H')
def rdT (S : Sig) (ca : ExA) (W : WX) (K : PySem.W.Frag) (c : C) : TT := fun σ H Q => ∃ F env, Ss K F H env σ ∧ PG ca W H σ ((ev S true c env).bind toBool) (fun b => ∀ H', Same H H' → Q b H')
theorem _root_.L2.PE.imp {X : Cx} {e : Expr} {t t' : TE} (h : PE X e t) (i : ∀ σ H Q, t' σ H Q → t σ H Q) : PE X e t' := ⟨fun pins s σ H Q I w => h.run pins s σ H Q I (i _ _ _ w)⟩
theorem _root_.L2.PT.imp {X : Cx} {e : Expr} {t t' : TT} (h : PT X e t) (i : ∀ σ H Q, t' σ H Q → t σ H Q) : PT X e t' := ⟨fun pins s σ H Q I w => h.run pins s σ H Q I (i _ _ _ w)⟩
theorem _root_.L2.PW.imp {X : Cx} {e : Expr} {t t' : TT} (h : PW X e t) (i : ∀ σ H Q, t' σ H Q → t σ H Q) : PW X e t' := ⟨fun wh pins s σ H Q I w => h.run wh pins s σ H Q I (i _ _ _ w)⟩
theorem _root_.L2.PA.imp {X : Cx} {es : List Expr} {t t' : TA} (h : PA X es t) (i : ∀ σ H Q, t' σ H Q → t σ H Q) : PA X es t' := ⟨fun pos pins s σ H Q I w => h.run pos pins s σ H Q I (i _ _ _ w)⟩
theorem _root_.L2.PS.imp {X : Cx} {e : Stmt} {t t' : TS} (h : PS X e t) (i : ∀ D σ H, t' D σ H → t D σ H) : PS X e t' := ⟨fun pins s σ H D I w => h.run pins s σ H D I (i _ _ _ w)⟩
theorem _root_.L2.PSs.imp {X : Cx} {e : List Stmt} {t t' : TS} (h : PSs X e t) (i : ∀ D σ H, t' D σ H → t D σ H) : PSs X e t' := ⟨fun pins s σ H D I w => h.run pins s σ H D I (i _ _ _ w)⟩

section
variable {S : Sig} {ca : ExA} {W : WX} {X : Cx} {t : Bool} {a b c : C} {ea eb ec : Expr} {pos : Pos}
/-- two operands, then an operation -/
theorem rd_two {g : D → D → R D} {r : R2} {σ : L2.St} {H : Hp} {Q : VK} {F : Hp} {env : Env} (ne : ∀ d e n, g d e ≠ .exc n) (s : Ss X.K F H env σ)
    (p : PG ca W H σ ((ev S true a env).bind fun x => (ev S true b env).bind fun y => g x y) (WB t X.K F H Q))
    (hr : ∀ x y H' Q', rOp X.K g x y H' Q' → r x y H' Q') : tOp r (rd S ca W X.K true a) (rd S ca W X.K true b) σ H Q := by
  refine ⟨F, env, s, p.of_bind.imp fun d p x H1 s1 rx => ⟨F, env, s.grow s1, p.of_bind.go s1 fun e p y H2 s2 ry => hr _ _ _ _ ?_⟩⟩
  have s12 := s1.trans s2
  refine ⟨Gr F H H2, d, e, gr_sub s.sub s12, RpT.mono rx (gr_left s2) s2, RpT.mono ry (gr_right s.sub s1 s2) (fun _ _ z => z), ?_⟩
  unfold PostV
  cases q : g d e with
  | ok k =>
    rw [q] at p
    intro v H' s3 rv
    have rv' := Rp.mono (gr_gr s12 s3) rv
    exact p v H' (s12.trans s3) (RpB.of rv' (gr_sub s.sub (s12.trans s3)))
  | exc n => exact (ne d e n q).elim
  | bad => rw [q] at p; exact p
theorem se_var {i : Nat} {x : Str} (hN : X.N[i]? = some x) (hv : Vis X.env.scope x) (hd : (x == ("__debug__" : Str)) = false) (hcd : (x == ("__classdict__" : Str)) = false) : PE X (.Name x pos) (rd S ca W X.K t (.var i)) := by
  refine (pe_var hN hv hd hcd).imp fun σ H Q ⟨F, env, s, p⟩ => ?_
  have p : PG ca W H σ (getV t env i) (WB t X.K F H Q) := by
    have e : ev S t (.var i) env = getV t env i := by rw [ev]
    rw [e] at p; exact p
  unfold getV at p
  cases q : env[i]? with
  | none => rw [q] at p; exact p.elim
  | some o =>
    rw [q] at p
    obtain ⟨v, h1, h2⟩ := s.slot i o q
    match o, v, h2, p with
    | none, _, _, p => exact p.elim
    | some (true, d), some v, h2, p =>
      cases t with
      | false => exact p.elim
      | true =>
        refine ⟨v, h1, p v H (fun _ _ z => z) ?_⟩
        obtain ⟨l, o, rfl, f, h3, r⟩ := h2
        exact r.rpT (gr_F s.sub) h3
    | some (false, d), some v, h2, p =>
      have p : WB t X.K F H Q d := by cases t <;> exact p
      exact ⟨v, h1, p v H (fun _ _ z => z) (RpB.of (Rp.mono (gr_F s.sub) h2) (gr_sub s.sub fun _ _ z => z))⟩
/-- a constant of any kind -/
theorem rd_c {d : D} {v : V} {σ : L2.St} {H : Hp} {Q : VK} (h : rd S ca W X.K t (.cst d) σ H Q) (r : ∀ G, Rp X.K G v d) : Q v H := by
  obtain ⟨F, env, s, p⟩ := h
  have p : PG ca W H σ (.ok d) (WB t X.K F H Q) := by
    have e : ev S t (.cst d) env = .ok d := by rw [ev]
    rw [e] at p; exact p
  exact p v H (fun _ _ z => z) (RpB.of (r _) (gr_sub s.sub fun _ _ z => z))
theorem se_int {i : Int} {k : Nat} : PE X (.Constant (.int i) k pos) (rd S ca W X.K t (.cst (.int i))) := pe_int.imp fun _ _ _ h => rd_c h fun _ => .int i
theorem se_bool {b : Bool} {k : Nat} : PE X (.Constant (.bool b) k pos) (rd S ca W X.K t (.cst (.bool b))) := pe_bl.imp fun _ _ _ h => rd_c h fun _ => .bl b
theorem se_none {k : Nat} : PE X (.Constant .none k pos) (rd S ca W X.K t (.cst .none)) := pe_non.imp fun _ _ _ h => rd_c h fun _ => .non
theorem se_str {z : Str} {k : Nat} : PE X (.Constant (.str z) k pos) (rd S ca W X.K t (.cst (.str z))) := pe_str.imp fun _ _ _ h => rd_c h fun _ => .str z
theorem same_none {H : Hp} : Same (fun _ => none) H := fun _ _ e => nomatch e
theorem se_glob {x : Str} {v : V} {u : Value} {d : D} (hg : Gl X x) (hm : X.mg x = some u) (r : RelV v u) (hd : (x == ("__debug__" : Str)) = false) (e : S.gl x = .ok d) (rp : Rp X.K (fun _ => none) v d) : PE X (.Name x pos) (rd S ca W X.K t (.glob x)) := by
  refine (pe_glob hg hm r hd).imp fun σ H Q ⟨F, env, s, p⟩ => ?_
  have p : PG ca W H σ (.ok d) (WB t X.K F H Q) := by
    have e : ev S t (.glob x) env = .ok d := by rw [ev]; exact e
    rw [e] at p; exact p
  exact p v H (fun _ _ z => z) (RpB.of (Rp.mono same_none rp) (gr_sub s.sub fun _ _ z => z))
theorem se_bin {o : Bop} (ha : PE X ea (rd S ca W X.K true a)) (hb : PE X eb (rd S ca W X.K true b)) : PE X (.BinOp ea (bopS o) eb pos) (rd S ca W X.K t (.bin o a b)) := by
  refine (pe_op (op_bin o) ha hb).imp fun σ H Q ⟨F, env, s, p⟩ => ?_
  rw [ev] at p
  exact rd_two (fun _ _ _ => binD_noexc) s p fun _ _ _ _ h => h
theorem se_idx (hu : X.A.units + 65 < cLine) (ha : PE X ea (rd S ca W X.K true a)) (hb : PE X eb (rd S ca W X.K true b)) (hs : PlainIx eb) : PE X (.Subscript ea eb pos) (rd S ca W X.K t (.idx a b)) := by
  refine (pe_ix (ix_D hu) ha hb hs).imp fun σ H Q ⟨F, env, s, p⟩ => ?_
  rw [ev] at p
  exact rd_two (fun _ _ _ => ixD_noexc) s p fun _ _ _ _ h => h
/-- rOp's form of a comparison -/
theorem cmp_r {o : Cop} {x y : V} {H : Hp} {Q : VK} (h : rOp X.K (cmpD o) x y H Q) : rOpB X.K (cmpB o) x y H Q := by
  obtain ⟨F, d, e, f, hx, hy, q⟩ := h
  cases g : cmpB o d e with
  | ok k =>
    have q : PostV X.K F H (.ok (.bool k)) Q := by
      have e2 : cmpD o d e = .ok (.bool k) := by unfold cmpD; rw [g]; rfl
      rw [← e2]; exact q
    exact ⟨F, d, e, k, f, hx, hy, g, PostV.here f q (.bl k)⟩
  | exc n => exact (cmpB_noexc g).elim
  | bad =>
    have e2 : cmpD o d e = .bad := by unfold cmpD; rw [g]; rfl
    rw [e2] at q; exact q.elim
theorem se_cmp {o : Cop} (hu : X.A.units + 65 < cLine) (ha : PE X ea (rd S ca W X.K true a)) (hb : PE X eb (rd S ca W X.K true b)) (hm : behindInMarks (copS o) eb = false) : PE X (.Compare ea [copS o] [eb] pos) (rd S ca W X.K t (.cmp o a b)) := by
  refine (pe_cmpR (op_cmp hu o) ha hb hm).imp fun σ H Q ⟨F, env, s, p⟩ => ?_
  rw [ev] at p
  exact rd_two (fun _ _ _ => cmpD_noexc) s p fun _ _ _ _ h => cmp_r h
theorem toBool_bool {b : Bool} : toBool (.bool b) = .ok b := rfl
theorem st_cmp {o : Cop} (hu : X.A.units + 65 < cLine) (ha : PE X ea (rd S ca W X.K true a)) (hb : PE X eb (rd S ca W X.K true b)) (hm : behindInMarks (copS o) eb = false) : PT X (.Compare ea [copS o] [eb] pos) (rdT S ca W X.K (.cmp o a b)) := by
  refine (pt_cmpR (op_cmp hu o) ha hb hm).imp fun σ H Q ⟨F, env, s, p⟩ => ?_
  rw [ev] at p
  refine ⟨F, env, s, p.of_bind.of_bind.imp fun d p x H1 s1 rx => ⟨F, env, s.grow s1, p.of_bind.go s1 fun e p y H2 s2 ry => ?_⟩⟩
  have s12 := s1.trans s2
  cases g : cmpB o d e with
  | ok k =>
    have e2 : cmpD o d e = .ok (.bool k) := by unfold cmpD; rw [g]; rfl
    rw [e2] at p
    exact ⟨Gr F H H2, d, e, k, gr_sub s.sub s12, RpT.mono rx (gr_left s2) s2, RpT.mono ry (gr_right s.sub s1 s2) (fun _ _ z => z), g, k, rfl, p H2 s12⟩
  | exc n => exact (cmpB_noexc g).elim
  | bad =>
    have e2 : cmpD o d e = .bad := by unfold cmpD; rw [g]; rfl
    rw [e2] at p; exact p.elim
end
end Rf

set_option Elab.async false
set_option linter.all false
set_option maxHeartbeats 1000000
/-! Rf, part D: further expressions: argument lists, displays, calls, and, or, not, chains. -/
namespace Rf
open PySem PySem.Spec PyProof.Rows L2

def RpBs (t : Bool) (K : PySem.W.Frag) (G H : Hp) (vs : List V) (ds : List D) : Prop := match t with
  | true => RpTs K G H vs ds
  | false => RpL K G vs ds
theorem RpBs.cons {t : Bool} {K : PySem.W.Frag} {G H : Hp} {v : V} {vs : List V} {d : D} {ds : List D} (h : RpB t K G H v d) (r : RpBs t K G H vs ds) : RpBs t K G H (v :: vs) (d :: ds) := by
  cases t with
  | true => exact ⟨h, r⟩
  | false => exact RpL.cons h r
theorem RpBs.nil {t : Bool} {K : PySem.W.Frag} {G H : Hp} : RpBs t K G H [] [] := by
  cases t with
  | true => trivial
  | false => exact RpL.nil
theorem RpB.mono {t : Bool} {K : PySem.W.Frag} {G G' H H' : Hp} {v : V} {d : D} (h : RpB t K G H v d) (g : Same G G') (s : Same H H') : RpB t K G' H' v d := by
  cases t with
  | true => exact RpT.mono h g s
  | false => exact Rp.mono g h
theorem RpBs.mono {t : Bool} {K : PySem.W.Frag} {G G' H H' : Hp} {vs : List V} {ds : List D} (h : RpBs t K G H vs ds) (g : Same G G') (s : Same H H') : RpBs t K G' H' vs ds := by
  cases t with
  | true => exact RpTs.mono g s h
  | false => exact RpL.mono g h
theorem rdA_eq {S : Sig} {ca : ExA} {W : WX} {K : PySem.W.Frag} {t : Bool} {c : C} {σ : L2.St} {H : Hp} {Q : List V → Hp → Prop} :
    rdA S ca W K t c σ H Q ↔ ∃ F env, Ss K F H env σ ∧ PG ca W H σ (evs S t c env) (fun ds => ∀ vs H', Same H H' → RpBs t K (Gr F H H') H' vs ds → Q vs H') := by
  cases t <;> exact Iff.rfl
theorem same_refl {H : Hp} : Same H H := fun _ _ z => z

theorem WB.n {t : Bool} {K : PySem.W.Frag} {F H H1 : Hp} {Q : VK} {ds : List D} {vs : List V} {p : Addr} (f : Same F H) (h : WB t K F H Q (.list ds)) (s : Same H H1) (n : H1 p = none) (r : RpL K (Gr F H H1) vs ds) : Q (.ref p) (upd H1 p (.lst vs)) :=
  have s2 : Same H (upd H1 p (.lst vs)) := s.trans (same_upd n)
  h _ _ s2 (RpB.of (.lst (.inl (.inl (by rw [gr_none (s.free n), upd_same]))) (RpL.mono (gr_left (same_upd n)) r)) (gr_sub f s2))
theorem WB.t {t : Bool} {K : PySem.W.Frag} {F H H1 : Hp} {Q : VK} {ds : List D} {vs : List V} {p : Addr} (f : Same F H) (h : WB t K F H Q (.tuple ds)) (s : Same H H1) (n : H1 p = none) (r : RpL K (Gr F H H1) vs ds) : Q (.ref p) (upd H1 p (.tup vs)) :=
  have s2 : Same H (upd H1 p (.tup vs)) := s.trans (same_upd n)
  h _ _ s2 (RpB.of (.tup (.inl (.inl (by rw [gr_none (s.free n), upd_same]))) (RpL.mono (gr_left (same_upd n)) r)) (gr_sub f s2))
/-- a value without parts -/
theorem WB.s {t : Bool} {K : PySem.W.Frag} {F H H1 : Hp} {Q : VK} {d : D} {v : V} (f : Same F H) (h : WB t K F H Q d) (s : Same H H1) (r : ∀ G, Rp K G v d) : Q v H1 := h v H1 s (RpB.of (r _) (gr_sub f s))

def notStar : Expr → Bool | .Starred _ _ => false | _ => true
theorem star_cons {e : Expr} {es : List Expr} {env : PySem.Env} (h : notStar e = true) : starEach (e :: es) env = (false, eval e env) :: starEach es env := by
  cases e <;> first
    | rfl
    | cases h
theorem star_any {pos : Pos} {env : PySem.Env} : ∀ {es : List Expr}, es.all notStar = true → (backTo pos (starEach es env)).any (·.1) = false
  | [], _ => rfl
  | e :: es, h => by
    rw [List.all_cons, Bool.and_eq_true] at h
    rw [star_cons h.1]
    show ((false, _) :: backTo pos (starEach es env)).any (·.1) = false
    rw [List.any_cons, star_any h.2]; rfl
theorem ev_true {S : Sig} {a : C} {env : Env} : ev S false a env = ev S true a env ∨ ev S false a env = .bad := by
  cases a with
  | var i =>
    rw [ev, ev]
    unfold getV
    cases env[i]? with
    | none => exact .inl rfl
    | some o => match o with
      | none => exact .inl rfl
      | some (true, d) => exact .inr rfl
      | some (false, d) => exact .inl rfl
  | _ => exact .inl (by simp only [ev])

section
variable {S : Sig} {ca : ExA} {W : WX} {X : Cx} {t : Bool} {a b c : C} {ea eb ec : Expr} {es : List Expr} {pos : Pos}
theorem sa_nil : PA X [] (rdA S ca W X.K t .nil) := by
  refine pa_nil.imp fun σ H Q h => ?_
  obtain ⟨F, env, s, p⟩ := rdA_eq.mp h
  rw [evs] at p
  exact p [] H same_refl .nil
theorem sa_cons (ha : PE X ea (rd S ca W X.K t a)) (hr : PA X es (rdA S ca W X.K t b)) (hs : notStar ea = true) : PA X (ea :: es) (rdA S ca W X.K t (.cons a b)) := by
  refine (pa_cons ha hr (star_cons hs)).imp fun σ H Q h => ?_
  obtain ⟨F, env, s, p⟩ := rdA_eq.mp h
  rw [evs] at p
  refine ⟨F, env, s, p.of_bind.imp fun d p x H1 s1 rx => rdA_eq.mpr ⟨F, env, s.grow s1, p.of_bind.go s1 fun ds p vs H2 s2 rs => ?_⟩⟩
  exact p (x :: vs) H2 (s1.trans s2) (.cons (RpB.mono rx (gr_left s2) s2) (RpBs.mono rs (gr_right s.sub s1 s2) same_refl))
theorem se_tup {k : Nat} (h : PA X es (rdA S ca W X.K false a)) : PE X (.Tuple es k pos) (rd S ca W X.K t (.tup a)) := by
  refine (pe_tup h).imp fun σ H Q ⟨F, env, s, p⟩ => ?_
  rw [ev] at p
  refine ⟨F, env, s, p.of_bind.imp fun ds p vs H1 s1 rs => ?_⟩
  have rs : RpL X.K (Gr F H H1) vs ds := rs
  cases q : decide (ds.length ≤ lineN) with
  | false => rw [q] at p; exact p.elim
  | true =>
    rw [q] at p
    simp only [decide_eq_true_eq, lineN_eq] at q
    exact ⟨by rw [rs.length]; exact q, fun l hl => WB.t s.sub p s1 hl rs⟩
theorem se_lst (h : PA X es (rdA S ca W X.K false a)) : PE X (.List es pos) (rd S ca W X.K t (.lst a)) := by
  refine (pe_lst h).imp fun σ H Q ⟨F, env, s, p⟩ => ?_
  rw [ev] at p
  refine ⟨F, env, s, p.of_bind.imp fun ds p vs H1 s1 rs => ?_⟩
  have rs : RpL X.K (Gr F H H1) vs ds := rs
  cases q : decide (ds.length ≤ lineN) with
  | false => rw [q] at p; exact p.elim
  | true =>
    rw [q] at p
    simp only [decide_eq_true_eq, lineN_eq] at q
    exact ⟨by rw [rs.length]; exact q, fun l hl => WB.n s.sub p s1 hl rs⟩

/-! ### calls of built-in functions -/
def biNm : BI → Str
  | .len => "len" | .all => "all" | .sum => "sum" | .sorted => "sorted" | .list => "list" | .tuple => "tuple" | .int => "int" | .min => "min" | .max => "max" | .str => "str" | .dict => "dict" | .lrange => "list" | .trange => "tuple"
  | _ => "isinstance"
/-- which have their rule -/
def biR : BI → Bool
  | .len => true | .all => true | .sum => true | .list => true | .tuple => true | .int => true | .min => true | .max => true | .dict => true | _ => false
theorem rd_bi {bi : BI} {σ : L2.St} {H : Hp} {Q : VK} (h : rd S ca W X.K t (.bi bi a) σ H Q) : tCB (rBI X.K bi) (rdA S ca W X.K true a) σ H Q := by
  obtain ⟨F, env, s, p⟩ := h
  rw [ev] at p
  refine rdA_eq.mpr ⟨F, env, s, p.of_bind.imp fun ds p vs H1 s1 rs => ?_⟩
  refine ⟨Gr F H H1, ds, gr_sub s.sub s1, rs, ?_⟩
  unfold PostV
  cases q : biD bi ds with
  | ok k =>
    rw [q] at p
    intro v H' s3 rv
    exact p v H' (s1.trans s3) (RpB.of (Rp.mono (gr_gr s1 s3) rv) (gr_sub s.sub (s1.trans s3)))
  | exc n => exact (biD_noexc q).elim
  | bad => rw [q] at p; exact p
theorem se_bi {bi : BI} {x : Str} {p : Pos} (hb : biR bi = true) (hx : biNm bi = x) (hc : X.calm = true) (hu : X.A.units + 65 < cLine) (hg : Gl X x) (hm : X.mg x = none) (ha : PA X (ea :: es) (rdA S ca W X.K true a)) (hs : (ea :: es).all notStar = true) :
    PE X (.Call (.Name x p) (ea :: es) [] pos) (rd S ca W X.K t (.bi bi a)) := by
  subst hx
  rw [List.all_cons, Bool.and_eq_true] at hs
  have he := star_cons (es := es) (env := X.env) hs.1
  have hp := star_any (pos := pos) (env := X.env) hs.2
  refine L2.PE.imp (t := tCB (rBI X.K bi) (rdA S ca W X.K true a)) ?_ fun σ H Q h => rd_bi h
  cases bi <;> first
    | exact absurd hb (by decide)
    | exact pe_callB cr_len hg hm boot_len ha (by decide) (by decide) he hp
    | exact pe_callB (cr_allD hc) hg hm (by decide +kernel) ha (by decide) (by decide) he hp
    | exact pe_callB (cr_sumD hc) hg hm (by decide +kernel) ha (by decide) (by decide) he hp
    | exact pe_callB (cr_min2D hc hu) hg hm (by decide +kernel) ha (by decide) (by decide) he hp
    | exact pe_callB (cr_max2D hc hu) hg hm (by decide +kernel) ha (by decide) (by decide) he hp
    | exact pe_callTy (cr_dictD hc hu) hg hm (by decide +kernel) ha (by decide) (by decide) he hp
    | exact pe_callTy (cr_listD hc) hg hm (by decide +kernel) ha (by decide) (by decide) he hp
    | exact pe_callTy cr_tupleD hg hm (by decide +kernel) ha (by decide) (by decide) he hp
    | exact pe_callTy cr_intD hg hm (by decide +kernel) ha (by decide) (by decide) he hp
theorem se_is {bi : BI} {T : String} {x ty : Str} {p p2 : Pos} (hi : isTy bi = some T) (hx : x = "isinstance") (hg : Gl X x) (hm : X.mg x = none) (hg2 : Gl X ty) (hm2 : X.mg ty = none) (hb2 : bootBuiltins ty = some (.type T)) (hn2 : ty ≠ "__name__") (hd2 : (ty == ("__debug__" : Str)) = false)
    (ha : PE X ea (rd S ca W X.K true a)) (hs : notStar ea = true) :
    PE X (.Call (.Name x p) [ea, .Name ty p2] [] pos) (rd S ca W X.K t (.bi bi (.cons a .nil))) := by
  subst hx
  have hty : PE X (.Name ty p2) (tC (.ty T)) := pe_bltn hg2 hm2 hb2 rfl hn2 hd2
  have he := star_cons (es := [.Name ty p2]) (env := X.env) hs
  refine L2.PE.imp (t := tCB (rIs X.K T) (tCons (rd S ca W X.K true a) (tCons (tC (.ty T)) tNil))) (pe_callB cr_is hg hm (by decide +kernel) (pa_cons ha (pa_cons hty pa_nil rfl) he) (by decide) (by decide) he rfl) fun σ H Q ⟨F, env, s, p⟩ => ?_
  rw [ev] at p
  have e1 : evs S true (.cons a .nil) env = (ev S true a env).bind fun d => .ok [d] := by rw [evs, evs]; rfl
  rw [e1] at p
  refine ⟨F, env, s, p.of_bind.of_bind.imp fun d p x H1 s1 rx => ?_⟩
  have rx : RpT X.K (Gr F H H1) H1 x d := rx
  have p : PG ca W H σ (biD bi [d]) (WB t X.K F H Q) := p
  have nd : ∀ k, d ≠ .dict k := fun k z => by subst z; cases bi <;> cases hi <;> exact p.elim
  obtain ⟨k, h1, h2⟩ := is_ans hi d nd
  rw [h1] at p
  exact ⟨Gr F H H1, x, d, k, rfl, gr_sub s.sub s1, rx, nd, h2, WB.s s.sub p s1 fun _ => .bl k⟩

/-! ### calls of the text's own defs -/
def spD (K : PySem.W.Frag) (S : Sig) (ca : ExA) (f : Str) (n : Nat) : Sp := fun vs H Q E => vs.length = n ∧ ∃ F ds, Same F H ∧ RpL K F vs ds ∧
  PG ca (fun cls d _ H' => E cls d H') H [] (S.cl f ds) (fun d => ∀ v H', Same H H' → Rp K (Gr F H H') v d → Q v H')
theorem rd_call {f : Str} {n : Nat} {σ : L2.St} {H : Hp} {Q : VK} (h : rd S ca W X.K t (.call f a) σ H Q) (hn : ∀ env ds, evs S false a env = .ok ds → ds.length = n) : tCallS (spD X.K S ca f n) (WE W) (rdA S ca W X.K false a) σ H Q := by
  obtain ⟨F, env, s, p⟩ := h
  rw [ev] at p
  cases q : evs S false a env with
  | ok ds =>
    rw [q] at p
    have hl := hn env ds q
    refine rdA_eq.mpr ⟨F, env, s, ?_⟩
    rw [q]
    intro vs H1 s1 rs
    have rs : RpL X.K (Gr F H H1) vs ds := rs
    have p : PG ca W H σ (S.cl f ds) (WB t X.K F H Q) := p
    refine ⟨by rw [rs.length]; exact hl, Gr F H H1, ds, gr_sub s.sub s1, rs, ?_⟩
    cases q2 : S.cl f ds with
    | ok d =>
      rw [q2] at p
      intro v H' s2 rv
      exact p v H' (s1.trans s2) (RpB.of (Rp.mono (gr_gr s1 s2) rv) (gr_sub s.sub (s1.trans s2)))
    | exc n =>
      rw [q2] at p
      exact fun H' C s2 e => p H' C (s1.trans s2) e
    | bad => rw [q2] at p; exact p
  | exc n =>
    refine rdA_eq.mpr ⟨F, env, s, ?_⟩
    rw [q] at p ⊢
    exact p
  | bad => rw [q] at p; exact p.elim
/-- as many as are written -/
def cLen : C → Nat
  | .cons _ r => cLen r + 1
  | _ => 0
theorem evs_inv {S : Sig} {t : Bool} {env : Env} {a : C} {ds : List D} (e : evs S t a env = .ok ds) : (a = .nil ∧ ds = []) ∨ ∃ h r d ds', a = .cons h r ∧ ds = d :: ds' ∧ ev S t h env = .ok d ∧ evs S t r env = .ok ds' := by
  unfold evs at e
  split at e
  · cases e; exact .inl ⟨rfl, rfl⟩
  · obtain ⟨d, e1, e2⟩ := bind_ok e
    obtain ⟨ds', e3, e4⟩ := bind_ok e2
    cases e4
    exact .inr ⟨_, _, _, _, rfl, rfl, e1, e3⟩
  · cases e
theorem evs_len {S : Sig} {t : Bool} {env : Env} {ds : List D} : ∀ {a : C}, evs S t a env = .ok ds → ds.length = cLen a := by
  induction ds with
  | nil =>
    intro a e
    rcases evs_inv e with ⟨rfl, _⟩ | ⟨_, _, _, _, _, z, _⟩
    · rfl
    · cases z
  | cons d ds ih =>
    intro a e
    rcases evs_inv e with ⟨_, z⟩ | ⟨h, r, _, _, rfl, z, _, e⟩
    · cases z
    · cases z
      rw [List.length_cons, ih e]; rfl
theorem se_call {f : Str} {n k : Nat} {fa : Addr} {fd : FuncData} {ps : List Str} {p : Pos} (G : FnOk X.prog X.w X.K X.mg X.base (L2.CX X.prog X.w) k fa fd ps (spD X.K S ca f n)) (hr : Room k X.A) (hg : Gl X f) (hm : X.mg f = some (.ref fa)) (hk : PySem.W.keepIn X.K (.ref fa) = true)
    (hb : Binds X.K fd ps []) (tk : Takes X W) (ha : PA X (ea :: es) (rdA S ca W X.K false a)) (hn : cLen a = n) (hd : (f == ("__debug__" : Str)) = false) (hs : (ea :: es).all notStar = true) : PE X (.Call (.Name f p) (ea :: es) [] pos) (rd S ca W X.K t (.call f a)) := by
  rw [List.all_cons, Bool.and_eq_true] at hs
  exact (pe_callS G hr hg hm hk hb (passAt tk) ha hd (star_cons hs.1) (star_any hs.2)).imp fun σ H Q h => rd_call h fun env ds e => by rw [evs_len e]; exact hn

/-! ### tests -/
theorem RpT.bl {K : PySem.W.Frag} {F H : Hp} {x : V} {b : Bool} (h : RpT K F H x (.bool b)) : x = .bl b := h
theorem toBool_ok {d : D} {k : Bool} (h : toBool d = .ok k) : d = .bool k := by
  cases d <;> cases h
  rfl
theorem toBool_noexc {d : D} {n : Str} : toBool d ≠ .exc n := by
  cases d <;> exact fun z => nomatch z
theorem rdT_val {σ : L2.St} {H : Hp} {Q : Bool → Hp → Prop} (h : rdT S ca W X.K a σ H Q) : tB (rd S ca W X.K true a) σ H Q := by
  obtain ⟨F, env, s, p⟩ := h
  refine ⟨F, env, s, p.of_bind.imp fun d p x H1 s1 rx => ?_⟩
  have rx : RpT X.K (Gr F H H1) H1 x d := rx
  cases q : toBool d with
  | ok k =>
    rw [q] at p
    have e := toBool_ok q
    subst e
    exact ⟨k, rx, p H1 s1⟩
  | exc n => exact (toBool_noexc q).elim
  | bad => rw [q] at p; exact p.elim
def plainT : Expr → Bool
  | .BoolOp _ _ _ => false | .UnaryOp _ _ _ => false | .Compare _ _ _ _ => false | .IfExp _ _ _ _ => false | .NamedExpr _ _ _ => false | .Constant _ _ _ => false | .Tuple _ _ _ => false | .List _ _ => false | .Set _ _ _ => false | .Dict _ _ _ => false | _ => true
theorem st_val (he : PE X ea (rd S ca W X.K true a)) (hp : ∀ whole, isTrue ea X.env whole = (do let v ← whole; standAt ea.pos; holding [v] (truthy v))) : PT X ea (rdT S ca W X.K a) :=
  (pt_val he hp).imp fun σ H Q h => rdT_val h
end
end Rf

set_option Elab.async false
set_option linter.all false
set_option maxHeartbeats 1000000
/-! Rf, part I: what a for or a comprehension walks: lists, tuples, texts, ranges, enumerate and zip of these. -/
namespace Rf
open PySem PySem.Spec PyProof.Rows L2

/-! ### sources -/
inductive Sr where
  | lst (a : Addr) | tup (a : Addr) | str (z : Str)
def SrOk (K : PySem.W.Frag) (H : Hp) : Sr → List V → Prop
  | .lst a, vs => SqL K H a vs
  | .tup a, vs => SqT K H a vs
  | .str z, vs => vs = z.cps.toList.map fun c => V.str ⟨#[c]⟩
def SrIt (h : Heap) (it : Addr) (i : Nat) : Sr → Prop
  | .lst a => h.IsListIter it a i
  | .tup a => h.IsTupleIter it a i
  | .str z => ∃ t, h.IsStrIter it (strIterType z) z t i
def SrV : Sr → Value → Prop
  | .lst a, v => v = .ref a
  | .tup a, v => v = .ref a
  | .str z, v => ∃ t, v = .str z t
def srAd : Sr → List Addr
  | .lst a => [a]
  | .tup a => [a]
  | .str _ => []
theorem SrIt.at {h h' : Heap} {it : Addr} {i : Nat} {sr : Sr} (x : SrIt h it i sr) (k : ∀ o, h.get? it = some o → h'.get? it = some o) : SrIt h' it i sr := by
  cases sr with
  | lst a => obtain ⟨o, e, r⟩ := x; exact ⟨o, k o e, r⟩
  | tup a => obtain ⟨o, e, r⟩ := x; exact ⟨o, k o e, r⟩
  | str z => obtain ⟨t, o, e, r⟩ := x; exact ⟨t, o, k o e, r⟩
theorem SrIt.obj {h : Heap} {it : Addr} {i : Nat} {sr : Sr} (x : SrIt h it i sr) : ∃ o, h.get? it = some o ∧ ∀ v, o.data ≠ .cell v := by
  cases sr with
  | lst a => obtain ⟨o, e, _, d⟩ := x; exact ⟨o, e, fun v q => by rw [d] at q; cases q⟩
  | tup a => obtain ⟨o, e, _, d⟩ := x; exact ⟨o, e, fun v q => by rw [d] at q; cases q⟩
  | str z => obtain ⟨t, o, e, _, d⟩ := x; exact ⟨o, e, fun v q => by rw [d] at q; cases q⟩
theorem SrOk.mono {K : PySem.W.Frag} {H H' : Hp} {sr : Sr} {vs : List V} (s : Same H H') (h : SrOk K H sr vs) : SrOk K H' sr vs := by
  cases sr with
  | lst a => exact s.sqL h
  | tup a => exact s.sqT h
  | str z => exact h
section
variable {X : Cx} {pins : List (Addr × Obj)} {σ : L2.St} {H : Hp} {s : Shared}
theorem SrOk.inj (I : Inv X pins σ H s) {sr : Sr} {vs ws : List V} (h : SrOk X.K H sr vs) (h' : SrOk X.K H sr ws) : vs = ws := by
  cases sr with
  | lst a => exact I.list_inj h h'
  | tup a => exact I.tuple_inj h h'
  | str z => exact (show vs = _ from h).trans (show ws = _ from h').symm
theorem SrOk.len (I : Inv X pins σ H s) {sr : Sr} {vs : List V} (h : SrOk X.K H sr vs) (hz : ∀ z, sr = .str z → z.length ≤ lineN) : vs.length ≤ lineN := by
  rw [lineN_eq]
  cases sr with
  | lst a => obtain ⟨_, _, _, z⟩ := I.list h; exact z
  | tup a => obtain ⟨_, _, _, z⟩ := I.tuple h; exact z
  | str z =>
    cases (show vs = _ from h)
    have := hz z rfl
    rw [lineN_eq] at this
    rw [List.length_map]
    exact this
/-- what a source's iterator draws -/
theorem sr_draws (I : Inv X pins σ H s) (hh : X.A.handled = none) {sr : Sr} {vs : List V} {it : Addr} {i : Nat} (h : SrOk X.K H sr vs) (hit : SrIt s.heap it i sr) (hne : ∀ a ∈ srAd sr, a ≠ it) :
    ∃ (P : Nat → Value → Prop) (St : Nat → Heap → Prop), Draws X.prog X.w X.A.in1 it (it :: srAd sr) vs.length P St ∧ (∀ i x, P i x → ∃ v, vs[i]? = some v ∧ RelV v x) ∧ St i s.heap ∧ ∀ i h, St i h → SrIt h it i sr := by
  have hh' : X.A.in1.handled = none := hh
  cases sr with
  | lst a =>
    obtain ⟨its, r, p, z⟩ := I.list h
    refine ⟨fun i v => its.toArray[i]? = some v, fun i h => h.IsListIter it a i ∧ h.IsList a its.toArray, by rw [r.length, ← List.size_toArray]; exact Draws.list hh' it a (hne a (by simp [srAd])) its.toArray, fun i x hx => ?_, ⟨hit, p.isList⟩, fun i h st => st.1⟩
    have hx : its[i]? = some x := by simpa using hx
    cases e : vs[i]? with
    | none => rw [Vals.none_of r e] at hx; cases hx
    | some v =>
      obtain ⟨u, h1, h2⟩ := Vals.get r e
      rw [hx] at h1; cases h1
      exact ⟨v, rfl, h2⟩
  | tup a =>
    obtain ⟨its, r, p, z⟩ := I.tuple h
    refine ⟨fun i v => its.toArray[i]? = some v, fun i h => h.IsTupleIter it a i ∧ h.IsTuple a its.toArray, by rw [r.length, ← List.size_toArray]; exact Draws.tuple hh' it a (hne a (by simp [srAd])) its.toArray, fun i x hx => ?_, ⟨hit, show s.heap.IsTuple a its.toArray from p⟩, fun i h st => st.1⟩
    have hx : its[i]? = some x := by simpa using hx
    cases e : vs[i]? with
    | none => rw [Vals.none_of r e] at hx; cases hx
    | some v =>
      obtain ⟨u, h1, h2⟩ := Vals.get r e
      rw [hx] at h1; cases h1
      exact ⟨v, rfl, h2⟩
  | str z =>
    cases (show vs = _ from h)
    obtain ⟨t, hit⟩ := hit
    refine ⟨_, _, by rw [List.length_map, Array.length_toList]; exact Draws.text hh' it z t, fun i x hx => ?_, hit, fun i h st => ⟨t, st⟩⟩
    obtain ⟨c, u, h1, rfl⟩ := hx
    exact ⟨.str ⟨#[c]⟩, by simp [h1], ⟨u, rfl⟩⟩
/-- iter(v) makes one object -/
theorem sr_begins (I : Inv X pins σ H s) {sr : Sr} {vs : List V} {v : Value} (h : SrOk X.K H sr vs) (hv : SrV sr v) :
    ∃ (o : Obj) (Hb : Heap → Prop), Begins v o Hb ∧ Hb s.heap ∧ (∀ (h : Heap) (it : Addr), h.get? it = some o → SrIt h it 0 sr) ∧ ∀ a ∈ srAd sr, a < s.heap.objs.size := by
  cases sr with
  | lst a =>
    cases (show v = .ref a from hv)
    obtain ⟨its, r, p, z⟩ := I.list h
    exact ⟨_, _, begins_list a its.toArray, p.isList, fun h it e => ⟨_, e, rfl, rfl⟩, fun b hb => by cases (List.mem_singleton.mp hb); exact p.lt⟩
  | tup a =>
    cases (show v = .ref a from hv)
    obtain ⟨its, r, p, z⟩ := I.tuple h
    exact ⟨_, _, begins_tuple a its.toArray, (show s.heap.IsTuple a its.toArray from p), fun h it e => ⟨_, e, rfl, rfl⟩, fun b hb => by cases (List.mem_singleton.mp hb); exact p.lt⟩
  | str z =>
    obtain ⟨t, rfl⟩ := (show ∃ t, v = .str z t from hv)
    exact ⟨_, _, begins_text z t, trivial, fun h it e => ⟨t, _, e, rfl, rfl⟩, fun b hb => nomatch hb⟩
end

/-! ### pairs: a step of a walk whose targets are tuples -/
theorem pair_step {X : Cx} {pins : List (Addr × Obj)} {σ : L2.St} {H : Hp} {s : Shared} {E : Value → Shared → Prop} {I : Addr} {fp wr : List Addr} {n i : Nat} {Pt : Nat → Array Value → Prop} {St : Nat → Heap → Prop} {Mid : Nat → Addr → Heap → Prop} {elts : List Expr} {kk : Nat} {tpos : Pos} {x y : V}
    (W : WalksT X.prog X.w X.A I fp wr n Pt St Mid) (J : Inv X pins σ H s) (hf : ∀ b ∈ wr, FpOk X pins H b) (hi : i < n) (st : St i s.heap) (rel : ∀ vals, Pt i vals → ∃ u1 u2, vals = #[u1, u2] ∧ RelV x u1 ∧ RelV y u2) :
    wpAny (model X.prog X.w) X.A (pyNext (.ref I)) (fun r s1 => ∃ u, r = some u ∧
      wpAny (model X.prog X.w) X.A (letOwnedTupleGo (.Tuple elts kk tpos) (.ref I) u) (fun _ s2 => ∃ T, u = .ref T ∧ H T = none ∧ s.heap.objs.size ≤ T ∧ Inv X pins σ (upd H T (.tup [x, y])) s2 ∧ St (i + 1) s2.heap) E s1) E s := by
  refine W.item i s _ _ hi st fun T vals h' tk hp hT hIs mid keep => ⟨_, rfl, ?_⟩
  obtain ⟨u1, u2, rfl, r1, r2⟩ := rel vals hp
  refine W.go elts kk tpos i T { s with heap := h', toks := tk } _ _ mid fun h'' st'' keep2 => ?_
  have hn : H T = none := J.hok.fresh hT
  have hIs2 : h''.IsTuple T #[u1, u2] := by
    obtain ⟨o, e, r⟩ := hIs
    exact ⟨o, keep2 T o (W.apart _ _ _ mid) e, r⟩
  refine ⟨T, rfl, hn, hT, J.turnedNew (t' := tk) (ch := wr) (fun b o hb e => keep2 b o hb (keep b o hb e)) hf hT ?_, st''⟩
  exact ⟨by show 2 ≤ sizeLine; decide, [u1, u2], .cons r1 (.cons r2 .nil), hIs2⟩
theorem pair_done {X : Cx} {pins : List (Addr × Obj)} {σ : L2.St} {H : Hp} {s : Shared} {E : Value → Shared → Prop} {I : Addr} {fp wr : List Addr} {n : Nat} {Pt : Nat → Array Value → Prop} {St : Nat → Heap → Prop} {Mid : Nat → Addr → Heap → Prop}
    (W : WalksT X.prog X.w X.A I fp wr n Pt St Mid) (J : Inv X pins σ H s) (hf : ∀ b ∈ wr, FpOk X pins H b) (st : St n s.heap) :
    wpAny (model X.prog X.w) X.A (pyNext (.ref I)) (fun r s1 => r = none ∧ Inv X pins σ H s1) E s :=
  W.done s _ _ st fun h' tk keep => ⟨rfl, J.turnedL (t' := tk) (ch := wr) keep hf⟩

/-! ### enumerate -/
def JEnum (K : PySem.W.Frag) (sr : Sr) : It :=
  ⟨fun i H => ∃ xs, SrOk K H sr xs ∧ i < xs.length,
   fun i H v H' => ∃ T x, v = .ref T ∧ H T = none ∧ H' = upd H T (.tup [.int (i : Nat), x]) ∧ ∀ xs, SrOk K H sr xs → xs[i]? = some x,
   fun i H => ∃ xs, SrOk K H sr xs ∧ xs.length = i⟩
theorem turn_enumD {P : Program} {w : World} {K : PySem.W.Frag} {elts : List Expr} {kk : Nat} {tpos : Pos} (N : Nat) (sr : Sr) (hN : ∀ a ∈ srAd sr, a < N) :
    Turn P w K (.Tuple elts kk tpos) (JEnum K sr) [N + 1, N] (N + 1) (fun i h => (∃ old, IsEnum h (N + 1) N ((i : Nat) : Int) old) ∧ SrIt h N i sr) where
  mem := by simp
  obj := fun i h st b hb => by
    obtain ⟨⟨old, he⟩, hit⟩ := st
    have e' : b = N + 1 ∨ b = N := by simpa using hb
    rcases e' with z | z
    · rw [z]; exact ⟨_, he, fun v q => nomatch q⟩
    · rw [z]; exact hit.obj
  keep := fun i h h' st k => let ⟨⟨old, he⟩, hi⟩ := st; ⟨⟨old, k (N + 1) (by simp) _ he⟩, hi.at fun o q => k N (by simp) o q⟩
  item := by
    intro X hP hw hK hc i pins s σ H E I hf st hg
    subst hP hw hK
    obtain ⟨⟨old, he⟩, hit⟩ := st
    obtain ⟨xs, hq, hx⟩ := hg
    have hne : ∀ a ∈ srAd sr, a ≠ N := fun a ha z => by have := hN a ha; rw [z] at this; exact absurd this (Nat.lt_irrefl _)
    obtain ⟨Pd, Sd, D, hP, hS, hB⟩ := sr_draws I (I.ok.hd hc) hq hit hne
    have hef : (N + 1) ∉ N :: srAd sr := fun hm => by
      rcases List.mem_cons.mp hm with e | hm
      · exact absurd e (Nat.succ_ne_self _)
      · have q : (N + 1 : Nat) < N := hN _ hm
        omega
    have W := WalksT.enumFrom (prog := X.prog) (w := X.w) (A := X.A) 0 D (N + 1) (Nat.succ_ne_self _) hef (List.mem_cons_self ..)
    have e0 : ∀ i : Nat, (0 : Int) + (i : Int) = (i : Int) := fun i => by omega
    refine thn (pair_step (i := i) (x := .int (i : Nat)) (y := xs[i]) W I (fun b hb => hf b hb) hx ⟨⟨old, by rw [e0]; exact he⟩, hS⟩ fun vals hp => ?_) fun r s1 ⟨u, hu, h1⟩ => ⟨u, hu, thn h1 fun _ s2 ⟨T, eT, hT, hsz, I2, ⟨old2, st2⟩, st3⟩ => ?_⟩
    · obtain ⟨t, x, hx', rfl⟩ := hp
      obtain ⟨v, h1, h2⟩ := hP i x hx'
      have : xs[i] = v := by
        have h3 := List.getElem?_eq_getElem hx
        rw [h3] at h1; exact Option.some.inj h1
      rw [this]
      exact ⟨_, _, rfl, ⟨t, by rw [e0]⟩, h2⟩
    · refine ⟨.ref T, _, I2, eT ▸ rfl, ⟨T, xs[i], rfl, hT, rfl, fun ys hy => by rw [SrOk.inj I hy hq]; exact List.getElem?_eq_getElem hx⟩, ⟨⟨old2, ?_⟩, hB _ _ st3⟩, fun b hb => ?_⟩
      · rw [e0] at st2; exact st2
      · have hb' : b < s.heap.objs.size := by
          have e' : b = N + 1 ∨ b = N := by simpa using hb
          rcases e' with z | z
          · rw [z]; exact Heap.lt_size he
          · rw [z]; obtain ⟨o, q, _⟩ := hit.obj; exact Heap.lt_size q
        rw [upd_ne (Nat.ne_of_lt (Nat.lt_of_lt_of_le hb' hsz))]
        exact (hf b hb).1
  done := by
    intro X hP hw hK hc i pins s σ H E I hf st hg
    subst hP hw hK
    obtain ⟨⟨old, he⟩, hit⟩ := st
    obtain ⟨xs, hq, hx⟩ := hg
    have hne : ∀ a ∈ srAd sr, a ≠ N := fun a ha z => by have := hN a ha; rw [z] at this; exact absurd this (Nat.lt_irrefl _)
    obtain ⟨Pd, Sd, D, hP, hS, hB⟩ := sr_draws I (I.ok.hd hc) hq hit hne
    have hef : (N + 1) ∉ N :: srAd sr := fun hm => by
      rcases List.mem_cons.mp hm with e | hm
      · exact absurd e (Nat.succ_ne_self _)
      · have q : (N + 1 : Nat) < N := hN _ hm
        omega
    have W := WalksT.enumFrom (prog := X.prog) (w := X.w) (A := X.A) 0 D (N + 1) (Nat.succ_ne_self _) hef (List.mem_cons_self ..)
    have e0 : ∀ i : Nat, (0 : Int) + (i : Int) = (i : Int) := fun i => by omega
    exact pair_done W I (fun b hb => hf b hb) ⟨⟨old, by rw [e0, hx]; exact he⟩, by rw [hx]; exact hS⟩
  self := fun A i s Q E st h => let ⟨⟨_, he⟩, _⟩ := st; wpAny_pyIter_enum he h

/-! ### zip -/
def JZip (K : PySem.W.Frag) (s1 s2 : Sr) : It :=
  ⟨fun i H => ∃ xs ys, SrOk K H s1 xs ∧ SrOk K H s2 ys ∧ i < min xs.length ys.length,
   fun i H v H' => ∃ T x y, v = .ref T ∧ H T = none ∧ H' = upd H T (.tup [x, y]) ∧ (∀ xs, SrOk K H s1 xs → xs[i]? = some x) ∧ ∀ ys, SrOk K H s2 ys → ys[i]? = some y,
   fun i H => ∃ xs ys, SrOk K H s1 xs ∧ SrOk K H s2 ys ∧ min xs.length ys.length = i⟩
theorem turn_zipD {P : Program} {w : World} {K : PySem.W.Frag} {elts : List Expr} {kk : Nat} {tpos : Pos} (N : Nat) (s1 s2 : Sr) (hN1 : ∀ a ∈ srAd s1, a < N) (hN2 : ∀ a ∈ srAd s2, a < N) :
    Turn P w K (.Tuple elts kk tpos) (JZip K s1 s2) [N + 4, N + 2, N + 3, N, N + 1] (N + 4)
      (fun i h => IsZip h (N + 4) (N + 2) (N + 3) .none ∧ IsTupOf2 h (N + 2) (.ref N) (.ref (N + 1)) ∧ (∃ x y, IsTupOf2 h (N + 3) x y) ∧ SrIt h N i s1 ∧ SrIt h (N + 1) i s2) where
  mem := by simp
  obj := fun i h st b hb => by
    obtain ⟨hz, hTI, ⟨x, y, hTO⟩, h1, h2⟩ := st
    have e' : b = N + 4 ∨ b = N + 2 ∨ b = N + 3 ∨ b = N ∨ b = N + 1 := by simpa using hb
    rcases e' with q | q | q | q | q
    · rw [q]; exact ⟨_, hz, fun v q => nomatch q⟩
    · rw [q]; exact ⟨_, hTI, fun v q => nomatch q⟩
    · rw [q]; exact ⟨_, hTO, fun v q => nomatch q⟩
    · rw [q]; exact h1.obj
    · rw [q]; exact h2.obj
  keep := fun i h h' st k => by
    obtain ⟨hz, hTI, ⟨x, y, hTO⟩, h1, h2⟩ := st
    exact ⟨k _ (by simp) _ hz, k _ (by simp) _ hTI, ⟨x, y, k _ (by simp) _ hTO⟩, h1.at fun o q => k _ (by simp) o q, h2.at fun o q => k _ (by simp) o q⟩
  item := by
    intro X hP hw hK hc i pins s σ H E I hf st hg
    subst hP hw hK
    obtain ⟨hz, hTI, ⟨x0, y0, hTO⟩, h1, h2⟩ := st
    obtain ⟨xs, ys, hqx, hqy, hlt⟩ := hg
    have hne1 : ∀ a ∈ srAd s1, a ≠ N := fun a ha z => by have := hN1 a ha; rw [z] at this; exact absurd this (Nat.lt_irrefl _)
    have hne2 : ∀ a ∈ srAd s2, a ≠ N + 1 := fun a ha z => absurd (Nat.lt_of_lt_of_le (hN2 a ha) (Nat.le_succ N)) (by rw [z]; exact Nat.lt_irrefl _)
    obtain ⟨P1, S1, D1, hP1, hS1, hB1⟩ := sr_draws I (I.ok.hd hc) hqx h1 hne1
    obtain ⟨P2, S2, D2, hP2, hS2, hB2⟩ := sr_draws I (I.ok.hd hc) hqy h2 hne2
    have W := WalksT.zipD2 (prog := X.prog) (w := X.w) (A := X.A) (zip_sep2 hN1 hN2) D1 D2
    have hx : i < xs.length := by omega
    have hy : i < ys.length := by omega
    have sub : ∀ b ∈ ([N + 4, N + 3, N, N + 1] : List Addr), b ∈ ([N + 4, N + 2, N + 3, N, N + 1] : List Addr) := fun b hb => by
      have e' : b = N + 4 ∨ b = N + 3 ∨ b = N ∨ b = N + 1 := by simpa using hb
      rcases e' with q | q | q | q <;> (rw [q]; simp)
    refine thn (pair_step (i := i) (x := xs[i]) (y := ys[i]) W I (fun b hb => hf b (sub b hb)) hlt ⟨hz, hTI, ⟨x0, y0, hTO⟩, hS1, hS2⟩ fun vals hp => ?_) fun r s1' ⟨u, hu, g1⟩ => ⟨u, hu, thn g1 fun _ s2' ⟨T, eT, hT, hsz, I2, z2, t2, o2, d1, d2⟩ => ?_⟩
    · obtain ⟨x1, x2, hx1, hx2, rfl⟩ := hp
      obtain ⟨v1, a1, b1⟩ := hP1 i x1 hx1
      obtain ⟨v2, a2, b2⟩ := hP2 i x2 hx2
      rw [List.getElem?_eq_getElem hx] at a1
      rw [List.getElem?_eq_getElem hy] at a2
      cases a1; cases a2
      exact ⟨_, _, rfl, b1, b2⟩
    · refine ⟨.ref T, _, I2, eT ▸ rfl, ⟨T, xs[i], ys[i], rfl, hT, rfl, fun l hl => by rw [SrOk.inj I hl hqx]; exact List.getElem?_eq_getElem hx, fun l hl => by rw [SrOk.inj I hl hqy]; exact List.getElem?_eq_getElem hy⟩, ⟨z2, t2, o2, hB1 _ _ d1, hB2 _ _ d2⟩, fun b hb => ?_⟩
      have hb' : b < s.heap.objs.size := by
        have e' : b = N + 4 ∨ b = N + 2 ∨ b = N + 3 ∨ b = N ∨ b = N + 1 := by simpa using hb
        rcases e' with q | q | q | q | q
        · rw [q]; exact Heap.lt_size hz
        · rw [q]; exact Heap.lt_size hTI
        · rw [q]; exact Heap.lt_size hTO
        · rw [q]; obtain ⟨o, e, _⟩ := h1.obj; exact Heap.lt_size e
        · rw [q]; obtain ⟨o, e, _⟩ := h2.obj; exact Heap.lt_size e
      rw [upd_ne (Nat.ne_of_lt (Nat.lt_of_lt_of_le hb' hsz))]
      exact (hf b hb).1
  done := by
    intro X hP hw hK hc i pins s σ H E I hf st hg
    subst hP hw hK
    obtain ⟨hz, hTI, ⟨x0, y0, hTO⟩, h1, h2⟩ := st
    obtain ⟨xs, ys, hqx, hqy, hn⟩ := hg
    have hne1 : ∀ a ∈ srAd s1, a ≠ N := fun a ha z => by have := hN1 a ha; rw [z] at this; exact absurd this (Nat.lt_irrefl _)
    have hne2 : ∀ a ∈ srAd s2, a ≠ N + 1 := fun a ha z => absurd (Nat.lt_of_lt_of_le (hN2 a ha) (Nat.le_succ N)) (by rw [z]; exact Nat.lt_irrefl _)
    obtain ⟨P1, S1, D1, hP1, hS1, hB1⟩ := sr_draws I (I.ok.hd hc) hqx h1 hne1
    obtain ⟨P2, S2, D2, hP2, hS2, hB2⟩ := sr_draws I (I.ok.hd hc) hqy h2 hne2
    have W := WalksT.zipD2 (prog := X.prog) (w := X.w) (A := X.A) (zip_sep2 hN1 hN2) D1 D2
    have sub : ∀ b ∈ ([N + 4, N + 3, N, N + 1] : List Addr), b ∈ ([N + 4, N + 2, N + 3, N, N + 1] : List Addr) := fun b hb => by
      have e' : b = N + 4 ∨ b = N + 3 ∨ b = N ∨ b = N + 1 := by simpa using hb
      rcases e' with q | q | q | q <;> (rw [q]; simp)
    subst hn
    exact pair_done W I (fun b hb => hf b (sub b hb)) ⟨hz, hTI, ⟨x0, y0, hTO⟩, hS1, hS2⟩
  self := fun A i s Q E st h => wpAny_pyIter_zip st.1 h
end Rf

set_option Elab.async false
set_option linter.all false
set_option maxHeartbeats 1000000
/-! Rf, part W: a dict that stands still is walked. -/
namespace Rf
open PySem PySem.Spec PyProof.Rows L2

/-- the very object of a dict: its keys -/
structure DKeys (ob : Obj) (es : Array DictEntry) (ep : Nat) (vs : List V) : Prop where
  ex : ob.ExactDict
  dat : ob.data = .dict es ep
  keys : Vals vs (es.toList.map (·.key))
def Jd (a : Addr) (ob : Obj) (vs : List V) : It :=
  ⟨fun i H => (∃ o, H a = some (.frz ob o)) ∧ i < vs.length, fun i H x H' => H' = H ∧ vs[i]? = some x, fun i H => (∃ o, H a = some (.frz ob o)) ∧ i = vs.length⟩
theorem turn_dict {P : Program} {w : World} {K : PySem.W.Frag} {tg : Expr} {a : Addr} {ob : Obj} {es : Array DictEntry} {ep : Nat} {vs : List V} (it : Addr) (d : DKeys ob es ep vs) : Turn P w K tg (Jd a ob vs) [it] it (fun i h => h.IsKeyIter it a i es.size ep) where
  mem := by simp
  obj := fun i h st b hb => by
    have e : b = it := by simpa using hb
    subst e
    obtain ⟨o, e, c, d⟩ := st
    exact ⟨o, e, fun v z => by rw [d] at z; cases z⟩
  keep := fun i h h' st k => st.at fun o e => k it (by simp) o e
  item := by
    intro X hP hw hK hc i pins s σ H E I hf st hg
    subst hP hw hK
    obtain ⟨⟨o, ho⟩, hi⟩ := hg
    obtain ⟨hgd, _⟩ := (show ObjOk X.prog X.w H s.heap a (.frz ob o) from I.hok a _ ho)
    obtain ⟨f0, f1, f2, f3, f4, f5⟩ := hf it (by simp)
    have hl := d.keys.length
    have hl : vs.length = es.size := by rw [hl, List.length_map]; exact Array.length_toList
    have hi' : i < es.size := by omega
    obtain ⟨u, hu, ru⟩ := d.keys.get (List.getElem?_eq_getElem hi)
    have hu' : u = es[i].key := by
      rw [List.getElem?_map, Array.getElem?_toList, Array.getElem?_eq_getElem hi'] at hu
      exact (Option.some.inj hu).symm
    refine wpAny_pyNext_keys_item_raw st ⟨ob, hgd, d.ex, d.dat⟩ hi' fun h' st' sb => ?_
    have I1 : Inv X pins σ H { s with heap := h' } := I.turned (t' := s.toks) (fun b o hb e => (sb.2 b hb).trans e) f0 f1 f3 f4 f5
    obtain ⟨o2, e, c, dd⟩ := id st'
    exact ⟨es[i].key, rfl, go_of (s := { s with heap := h' }) e c dd (by decide) ⟨vs[i], H, I1, by rw [← hu']; exact ru, ⟨rfl, List.getElem?_eq_getElem hi⟩, st', fun b hb => (hf b hb).1⟩⟩
  done := by
    intro X hP hw hK hc i pins s σ H E I hf st hg
    subst hP hw hK
    obtain ⟨⟨o, ho⟩, hi⟩ := hg
    obtain ⟨hgd, _⟩ := (show ObjOk X.prog X.w H s.heap a (.frz ob o) from I.hok a _ ho)
    obtain ⟨f0, f1, f2, f3, f4, f5⟩ := hf it (by simp)
    have hl := d.keys.length
    have hl : vs.length = es.size := by rw [hl, List.length_map]; exact Array.length_toList
    exact wpAny_pyNext_keys_end_raw (I.ok.hd hc) st ⟨ob, hgd, d.ex, d.dat⟩ (by omega) fun h' eb => ⟨rfl, I.turned (t' := s.toks) (fun b o hb e => eb b o hb e) f0 f1 f3 f4 f5⟩
  self := fun _ _ _ _ _ st h => wpAny_pyIter_keyiter st h
section
variable {X : Cx} {pins : List (Addr × Obj)} {σ : L2.St} {F H : Hp} {s : Shared} {a : Addr} {o : HO} {ob : Obj} {kvs : List (D × D)}
theorem pairs_keys {P : Program} {w : World} : ∀ {es : List DictEntry} {ents : List (Key × V)} {vs : List (Key × Value)}, KV ents vs → Pairs (mixKind P w) es vs → Vals (ents.map fun e => kV e.1) (es.map (·.key))
  | _, _, _, .nil, .nil => .nil
  | _, _, _, .cons h t, .cons g1 g2 r => .cons (by show RelV (kV _) _; rw [h.1]; exact keyIs_rel g1) (pairs_keys t r)
theorem rx_vals {P : Program} {w : World} : ∀ {ents : List (D × Addr × V)} {xs : List (NestedKey × Addr × Value)}, RX ents xs → Vals (ents.map fun e => V.ref e.2.1) ((xs.map (entryOfKey (nestedKind P w))).map (·.key))
  | _, _, .nil => .nil
  | _, _, .cons h t => .cons (by show Value.ref _ = Value.ref _; rw [h.2.1]) (rx_vals t)
/-- what a dict that stands still is, as an object -/
theorem dkeys_of (I : Inv X pins σ H s) (e : H a = some (.frz ob o)) (d : DR X.K F a o kvs) : ∃ es ep vs, DKeys ob es ep vs ∧ RpL X.K F vs (kvs.map (·.1)) ∧ s.heap.get? a = some ob ∧ (a == sysModules) = false ∧ vs.length ≤ sizeLine := by
  obtain ⟨hg, ok⟩ := (show ObjOk X.prog X.w H s.heap a (.frz ob o) from I.hok a _ e)
  rcases dr_rows.mp d with ⟨ents, rfl, r⟩ | ⟨ents, rfl, r⟩
  · obtain ⟨z, hd, vs, rel, ob', es, ep, e1, e2, e3, _, e4, _⟩ := (show ObjOk X.prog X.w H s.heap a (.dK ents) from ok)
    rw [hg] at e1; cases e1
    obtain ⟨ds, r1, r2, rfl⟩ := of_rk r
    refine ⟨es, ep, _, ⟨e2, e3, pairs_keys rel e4⟩, ?_, hg, hd, by rw [List.length_map]; exact z⟩
    rw [List.map_fst_zip (by have := r2.length; simp only [List.length_map] at this ⊢; omega)]
    exact r1
  · obtain ⟨⟨z, hd, nd, xs, rx, ob', es, ep, e1, e2, e3, e4⟩, _⟩ := (show ObjOk X.prog X.w H s.heap a (dN a ents) from ok)
    rw [hg] at e1; cases e1
    obtain ⟨ds, r1, r2, rfl, _⟩ := of_rn r
    refine ⟨es, ep, _, ⟨e2, e3, by rw [e4 X.prog X.w]; exact rx_vals rx⟩, ?_, hg, hd, by rw [List.length_map]; exact z⟩
    rw [List.map_fst_zip (by have := r2.length; simp only [List.length_map] at this ⊢; omega)]
    exact r1
end
end Rf

set_option Elab.async false
set_option linter.all false
set_option maxHeartbeats 1000000
/-! Rf, part I2: the walked things by their data. -/
namespace Rf
open PySem PySem.Spec PyProof.Rows L2

def WalkD (K : PySem.W.Frag) (J : It) (F : Hp) (ds : List D) : Prop := ∀ i H, Same F H →
  (i < ds.length → J.go i H ∧ ∀ x H', J.yld i H x H' → Same H H' ∧ ∃ d, ds[i]? = some d ∧ Rp K (Gr F H H') x d) ∧ (i = ds.length → J.stop i H)
def rdI (S : Sig) (ca : ExA) (W : WX) (K : PySem.W.Frag) (c : C) : TI := fun σ H R => ∃ F env, Ss K F H env σ ∧ PG ca W H σ (its S c env)
  (fun ds => ∀ J H1, Same H H1 → ds.length ≤ lineN → WalkD K J (Gr F H H1) ds → R J H1)
theorem _root_.L2.PI.imp {X : Cx} {tg e : Expr} {t t' : TI} (h : PI X tg e t) (i : ∀ σ H R, t' σ H R → t σ H R) : PI X tg e t' := ⟨fun pins s σ H R I w => h.run pins s σ H R I (i _ _ _ w)⟩
theorem items_noexc {d : D} {n : Str} : items d ≠ .exc n := by
  intro h
  cases d <;> first
    | cases h
    | exact chkok_noexc h
theorem itemsK_noexc {d : D} {n : Str} : itemsK d ≠ .exc n := by
  intro h
  cases d <;> first
    | (cases h; done)
    | exact chkok_noexc h
/-- the source that a datum is -/
theorem sr_of {K : PySem.W.Frag} {G : Hp} {v : V} {d : D} {ds : List D} (h : Rp K G v d) (e : items d = .ok ds) :
    ∃ sr vs, (∀ u, RelV v u → SrV sr u) ∧ SrOk K G sr vs ∧ RpL K G vs ds ∧ ∀ z, sr = .str z → z.length ≤ lineN := by
  cases h with
  | @lst a xs ds h r => cases e; exact ⟨.lst a, xs, fun u q => q, h, r, fun z q => nomatch q⟩
  | @tup a xs ds h r => cases e; exact ⟨.tup a, xs, fun u q => q, h, r, fun z q => nomatch q⟩
  | str z =>
    obtain ⟨c, e⟩ := chk_ok (show R.chk (decide (z.length ≤ lineN)) _ = _ from e)
    cases e
    refine ⟨.str z, _, fun u q => q, rfl, ?_, fun z' q => by cases q; exact of_decide_eq_true c⟩
    induction z.cps.toList with
    | nil => exact .nil
    | cons c cs ih => exact .cons (.str _) ih
  | _ => cases e
theorem rp_at {K : PySem.W.Frag} {G : Hp} {vs : List V} {ds : List D} (r : RpL K G vs ds) {i : Nat} {x : V} (e : vs[i]? = some x) : ∃ d, ds[i]? = some d ∧ Rp K G x d := by
  have hi : i < ds.length := by rw [← r.length]; exact (List.getElem?_eq_some_iff.mp e).1
  obtain ⟨v, h1, h2⟩ := r.get (List.getElem?_eq_getElem hi)
  rw [e] at h1; cases h1
  exact ⟨_, List.getElem?_eq_getElem hi, h2⟩

section
variable {S : Sig} {ca : ExA} {W : WX} {X : Cx} {t : Bool} {a b c : C} {ea eb ec tg : Expr} {es : List Expr} {pos p : Pos}
/-- a plain source walked -/
def JSr (K : PySem.W.Frag) : Sr → It
  | .lst a => Itl K a
  | .tup a => Itt K a
  | .str z => Its z
theorem walk_sr {K : PySem.W.Frag} {G : Hp} {sr : Sr} {vs : List V} {ds : List D} (h : SrOk K G sr vs) (r : RpL K G vs ds) : WalkD K (JSr K sr) G ds := by
  intro i H s
  have h' := h.mono s
  have gx : ∀ {x : V}, vs[i]? = some x → ∃ d, ds[i]? = some d ∧ Rp K (Gr G H H) x d := fun e => let ⟨d, h1, h2⟩ := rp_at r e; ⟨d, h1, Rp.mono (gr_F s) h2⟩
  cases sr with
  | lst a =>
    have h' : SqL K H a vs := h'
    exact ⟨fun hi => ⟨⟨vs, vs[i]'(by rw [r.length]; exact hi), h', by simp [r.length, hi]⟩, fun x H' y => by obtain ⟨rfl, y⟩ := y; exact ⟨same_refl, gx (y vs h')⟩⟩, fun hi => ⟨vs, h', by rw [r.length, hi]; exact Nat.le_refl _⟩⟩
  | tup a =>
    have h' : SqT K H a vs := h'
    exact ⟨fun hi => ⟨⟨vs, vs[i]'(by rw [r.length]; exact hi), h', by simp [r.length, hi]⟩, fun x H' y => by obtain ⟨rfl, y⟩ := y; exact ⟨same_refl, gx (y vs h')⟩⟩, fun hi => ⟨vs, h', by rw [r.length, hi]; exact Nat.le_refl _⟩⟩
  | str z =>
    have e : vs = z.cps.toList.map fun c => V.str ⟨#[c]⟩ := h
    have hl : z.cps.size = ds.length := by rw [← r.length, e, List.length_map, Array.length_toList]
    refine ⟨fun hi => ⟨(by rw [← hl] at hi; exact hi), fun x H' y => ?_⟩, fun hi => ?_⟩
    · obtain ⟨rfl, c, h1, rfl⟩ := y
      refine ⟨same_refl, gx ?_⟩
      rw [e]
      simp [h1]
    · show z.cps.size ≤ i
      rw [hl, hi]; exact Nat.le_refl _
theorem si_itm (ha : PE X ea (rd S ca W X.K false a)) : PI X tg ea (rdI S ca W X.K (.itm a)) := by
  refine ⟨fun pins s σ H R I ⟨F, env, ss, p⟩ => ?_⟩
  rw [its] at p
  have q : rd S ca W X.K false a σ H (fun v H1 => ∃ d ds, Same H H1 ∧ Rp X.K (Gr F H H1) v d ∧ itemsK d = .ok ds ∧ ∀ J, ds.length ≤ lineN → WalkD X.K J (Gr F H H1) ds → R J H1) := by
    refine ⟨F, env, ss, p.of_bind.imp fun d p v H1 s1 rv => ?_⟩
    cases e : itemsK d with
    | ok ds => rw [e] at p; exact ⟨d, ds, s1, rv, e, fun J hl w => p J H1 s1 hl w⟩
    | exc n => exact (itemsK_noexc e).elim
    | bad => rw [e] at p; exact p.elim
  refine thn (ha.run pins s σ H _ I q) fun v s1 ⟨x, H1, I1, r1, d, ds, s1', rx, e, go⟩ => ?_
  have g : Same (Gr F H H1) H1 := gr_sub ss.sub s1'
  by_cases hd : ∃ kvs, d = .dict kvs
  · obtain ⟨kvs, rfl⟩ := hd
    cases e
    cases rx with
    | @dic a ob o kv vv ks ds' _ h1 h2 r1' r2 he =>
      cases (show v = .ref a from r1)
      obtain ⟨es, ep, vs, dk, rl, hg, hsm, hz⟩ := dkeys_of (F := Gr F H H1) I1 (g _ _ h1) ⟨kv, ks, vv, ds', h2, r1', r2, he⟩
      have R1 := go (Jd a ob vs) (by rw [← rl.length, lineN_eq]; exact hz) fun i H' sF => ⟨fun hi => ⟨⟨⟨o, sF _ _ h1⟩, by rw [rl.length]; exact hi⟩, fun x H'' y => by
        obtain ⟨rfl, y⟩ := y
        obtain ⟨d, q1, q2⟩ := rp_at rl y
        exact ⟨same_refl, d, q1, Rp.mono (gr_F sF) q2⟩⟩, fun hi => ⟨⟨o, sF _ _ h1⟩, by rw [rl.length]; exact hi⟩⟩
      refine wpAny_pyIter_dict_raw hsm ⟨ob, hg, dk.ex, dk.dat⟩ ?_
      exact pi_one (tk := s1.toks) I1 _ (turn_dict _ dk) ⟨_, Heap.get?_push_size _ rfl, rfl, rfl⟩ R1
  have e : items d = .ok ds := by
    cases d with
    | dict k => exact (hd ⟨k, rfl⟩).elim
    | _ => exact e
  obtain ⟨sr, vs, hv, hok, rl, hz⟩ := sr_of rx e
  have hok' := hok.mono g
  have hl : ds.length ≤ lineN := by rw [← rl.length]; exact SrOk.len I1 hok' hz
  have R1 : R (JSr X.K sr) H1 := go _ hl (walk_sr hok rl)
  have fp : ∀ b ∈ [s1.heap.objs.size], FpOk X pins H1 b := fun b hb => by
    have e : b = s1.heap.objs.size := by simpa using hb
    subst e
    exact I1.fpOk (Nat.le_refl _) (I1.hok.fresh (Nat.le_refl _))
  have hv := hv v r1
  cases sr with
  | lst l =>
    cases (show v = .ref l from hv)
    obtain ⟨its, rv, pl, _⟩ := I1.list hok'
    refine wpAny_pyIter_list pl.isList ?_
    exact ⟨s1.heap.objs.size, [s1.heap.objs.size], _, _, H1, rfl, I1.kept (t' := s1.toks) fun b o e => Heap.get?_push_of_some _ e, turn_list l _, ⟨_, Heap.get?_push_size _ rfl, rfl, rfl⟩, fp, R1⟩
  | tup l =>
    cases (show v = .ref l from hv)
    obtain ⟨its, rv, pl, _⟩ := I1.tuple hok'
    refine wpAny_pyIter_tuple (show s1.heap.IsTuple l its.toArray from pl) ?_
    exact ⟨s1.heap.objs.size, [s1.heap.objs.size], _, _, H1, rfl, I1.kept (t' := s1.toks) fun b o e => Heap.get?_push_of_some _ e, turn_tuple l _, ⟨_, Heap.get?_push_size _ rfl, rfl, rfl⟩, fp, R1⟩
  | str z =>
    obtain ⟨t, rfl⟩ := (show ∃ t, v = .str z t from hv)
    cases ha : z.cps.all (· < 128)
    · exact wpAny_pyIter_wide ha (pi_one (tk := s1.toks) I1 _ (turn_str _ z t "str_iterator" (.inr rfl)) ⟨_, Heap.get?_push_size _ rfl, rfl, rfl⟩ R1)
    · exact wpAny_pyIter_ascii ha (pi_one (tk := s1.toks) I1 _ (turn_str _ z t "str_ascii_iterator" (.inl rfl)) ⟨_, Heap.get?_push_size _ rfl, rfl, rfl⟩ R1)

/-! ### enumerate(v) -/
theorem meets_enumB1 {v : Value} {o : Obj} {Hb : Heap → Prop} (B : Begins v o Hb) :
    Meets (Builtin.«enumerate.__new__» ⟨[.type "enumerate", v], []⟩) (fun _ R s => Hb s.heap ∧
      R (.ok (.ret (.ref (s.heap.push o).objs.size))) { s with heap := (s.heap.push o).push { cls := .type "enumerate", data := .fields #[.none, .bool false, .ref s.heap.objs.size, rawInt 0, .none, .none] } }) :=
  .of_wp fun prog w A R s h => by
    obtain ⟨hp, g, d, tk, os⟩ := s; obtain ⟨h1, h⟩ := h
    have hsub := sub_enumerate
    have q1 : ∀ {A' : Around} {E : Value → Shared → Prop} {Q : Value → Shared → Prop}, Q (.ref hp.objs.size) ⟨hp.push o, g, d, tk, os⟩ → wpAny (model prog w) A' (pyIter v) Q E ⟨hp, g, d, tk, os⟩ :=
      fun q => B.iter prog w _ _ ⟨hp, g, d, tk, os⟩ _ h1 q
    wp_walk using q1
    refine wpAny_stack_any fun st => wpAny_pure ?_
    split
    · rename_i c _ _ _ _ _
      cases (c == Value.type "enumerate")
      · wp_walk using q1
        exact ⟨_, rfl, h⟩
      · wp_walk using q1
        exact ⟨_, rfl, h⟩
    · wp_walk using q1
      exact ⟨_, rfl, h⟩
theorem enum_begins1 {prog : Program} {w : World} {A : Around} {E : Value → Shared → Prop} {s : Shared} {v : Value} {o : Obj} {Hb : Heap → Prop} {Q : Value → Shared → Prop} (B : Begins v o Hb) (h1 : Hb s.heap)
    (h : ∀ h', IsEnum h' (s.heap.objs.size + 1) s.heap.objs.size 0 .none → h'.get? s.heap.objs.size = some o → h'.objs.size = s.heap.objs.size + 2 →
      (∀ b o, s.heap.get? b = some o → h'.get? b = some o) → Q (.ref (s.heap.objs.size + 1)) { s with heap := h' }) :
    wpAny (model prog w) A (call (.type "enumerate") [v]) Q E s := by
  refine callType_new F.called_enumerate (by decide) (F.typeCall_enumerate_1 _) (F.newCall_enumerate_1 _) (fun obj => F.args_object_init_2 obj _) F.entry_enumerate_new
    (meets_enumB1 B) ⟨h1, ?_⟩
  have hz : (s.heap.push o).objs.size = s.heap.objs.size + 1 := Heap.size_push ..
  show _ ∧ _
  rw [hz]
  have he : IsEnum ((s.heap.push o).push { cls := .type "enumerate", data := .fields #[.none, .bool false, .ref s.heap.objs.size, rawInt 0, .none, .none] }) (s.heap.objs.size + 1) s.heap.objs.size 0 .none := by
    have := Heap.get?_push_size (s.heap.push o) (o := { cls := .type "enumerate", data := .fields #[.none, .bool false, .ref s.heap.objs.size, rawInt 0, .none, .none] }) rfl
    rw [hz] at this; exact this
  refine ⟨⟨_, he, rfl⟩, h _ he (Heap.get?_push_of_some _ (Heap.get?_push_size _ B.free)) (by rw [Heap.size_push, hz]) fun b o x => Heap.get?_push_of_some _ (Heap.get?_push_of_some _ x)⟩
theorem pairs_length (k : Int) : ∀ ds : List D, (pairs k ds).length = ds.length := by
  intro ds
  induction ds generalizing k with
  | nil => rfl
  | cons d ds ih => rw [pairs, List.length_cons, ih, List.length_cons]
theorem pairs_at : ∀ (k : Int) (ds : List D) (i : Nat) (d : D), ds[i]? = some d → (pairs k ds)[i]? = some (.tuple [.int (k + (i : Nat)), d])
  | k, d :: ds, 0, d', e => by
    have e' : d = d' := by simpa using e
    subst e'
    simp [pairs]
  | k, d :: ds, i + 1, d', e => by
    have e1 : ds[i]? = some d' := by simpa using e
    have := pairs_at (k + 1) ds i d' e1
    rw [pairs, List.getElem?_cons_succ, this]
    have : k + 1 + (i : Nat) = k + ((i + 1 : Nat) : Int) := by omega
    rw [this]
  | k, [], _, _, e => by simp at e
theorem walk_enumD {K : PySem.W.Frag} {G : Hp} {sr : Sr} {vs : List V} {ds : List D} (h : SrOk K G sr vs) (r : RpL K G vs ds) : WalkD K (JEnum K sr) G (pairs 0 ds) := by
  intro i H s
  have h' := h.mono s
  rw [pairs_length]
  refine ⟨fun hi => ⟨⟨vs, h', by rw [r.length]; exact hi⟩, fun x H' y => ?_⟩, fun hi => ⟨vs, h', by rw [r.length]; exact hi.symm⟩⟩
  obtain ⟨T, z, rfl, hT, rfl, y⟩ := y
  have e := y vs h'
  obtain ⟨d, h1, h2⟩ := rp_at r e
  refine ⟨same_upd hT, _, pairs_at 0 ds i d h1, ?_⟩
  have e0 : (0 : Int) + (i : Nat) = (i : Nat) := by omega
  rw [e0]
  exact .tup (.inl (.inl (by rw [gr_none hT, upd_same]))) (.cons (.int _) (.cons (Rp.mono (gr_F s) h2) .nil))
theorem si_enum {elts : List Expr} {kk : Nat} {tpos : Pos} {x : Str} (hx : x = "enumerate") (hg : Gl X x) (hm : X.mg x = none) (ha : PE X ea (rd S ca W X.K false a)) (hs : notStar ea = true) :
    PI X (.Tuple elts kk tpos) (.Call (.Name x p) [ea] [] pos) (rdI S ca W X.K (.enum a)) := by
  subst hx
  refine ⟨fun pins s σ H R I ⟨F, env, ss, q⟩ => ?_⟩
  rw [its] at q
  have q : tCons (rd S ca W X.K false a) tNil σ H (fun vs H1 => ∃ v d ds, vs = [v] ∧ Same H H1 ∧ Rp X.K (Gr F H H1) v d ∧ items d = .ok ds ∧ ∀ J, (pairs 0 ds).length ≤ lineN → WalkD X.K J (Gr F H H1) (pairs 0 ds) → R J H1) := by
    refine ⟨F, env, ss, q.of_bind.imp fun d q v H1 s1 rv => ?_⟩
    cases e : items d with
    | ok ds => rw [e] at q; exact ⟨v, d, ds, rfl, s1, rv, e, fun J hl w => q J H1 s1 hl w⟩
    | exc n => exact (items_noexc e).elim
    | bad => rw [e] at q; exact q.elim
  refine Call_ (ld_blt I hg hm boot_enumerate (PyProof.Rows.callWith_type1 (thn ((pa_cons ha pa_nil (star_cons hs)).run pos pins s σ H _ I q) fun us s1 ⟨vs, H1, I1, r1, v, d, ds, e1, s1', rx, e, go⟩ => ?_) (star_cons hs) rfl))
  subst e1
  obtain ⟨u, rfl, ru⟩ := vals1 r1
  obtain ⟨sr, vs, hv, hok, rl, hz⟩ := sr_of rx e
  have g : Same (Gr F H H1) H1 := gr_sub ss.sub s1'
  have hok' := hok.mono g
  have hl : (pairs 0 ds).length ≤ lineN := by rw [pairs_length, ← rl.length]; exact SrOk.len I1 hok' hz
  have R1 : R (JEnum X.K sr) H1 := go _ hl (walk_enumD hok rl)
  obtain ⟨o, Hb, B, hb, hit, hN⟩ := sr_begins I1 hok' (hv u ru)
  refine enum_begins1 B hb fun h' he ho hsz hk => wpAny_pyIter_enum he ?_
  have I2 : Inv X pins σ H1 { s1 with heap := h' } := I1.kept (t' := s1.toks) hk
  refine ⟨s1.heap.objs.size + 1, [s1.heap.objs.size + 1, s1.heap.objs.size], _, _, H1, rfl, I2, turn_enumD s1.heap.objs.size sr hN, ⟨⟨.none, he⟩, hit _ _ ho⟩, fun b hb => ?_, R1⟩
  have e' : b = s1.heap.objs.size + 1 ∨ b = s1.heap.objs.size := by simpa using hb
  have hle : s1.heap.objs.size ≤ b := by
    rcases e' with z | z
    · rw [z]; exact Nat.le_add_right _ _
    · rw [z]; exact Nat.le_refl _
  exact I1.fpOk hle (I1.hok.fresh hle)

/-! ### zip(v, w) -/
theorem zips_length : ∀ ds es : List D, (zips ds es).length = min ds.length es.length
  | [], es => by simp [zips]
  | _ :: _, [] => by simp [zips]
  | d :: ds, e :: es => by
    rw [zips, List.length_cons, zips_length ds es, List.length_cons, List.length_cons]; omega
theorem zips_at : ∀ (ds es : List D) (i : Nat) (d e : D), ds[i]? = some d → es[i]? = some e → (zips ds es)[i]? = some (.tuple [d, e])
  | d :: ds, e :: es, 0, d', e', h1, h2 => by
    have h1 : d = d' := by simpa using h1
    have h2 : e = e' := by simpa using h2
    subst h1; subst h2
    simp [zips]
  | d :: ds, e :: es, i + 1, d', e', h1, h2 => by
    rw [zips, List.getElem?_cons_succ]
    exact zips_at ds es i d' e' (by simpa using h1) (by simpa using h2)
  | [], _, _, _, _, h, _ => by simp at h
  | _ :: _, [], _, _, _, _, h => by simp at h
theorem walk_zipD {K : PySem.W.Frag} {G : Hp} {s1 s2 : Sr} {vs ws : List V} {ds es : List D} (h1 : SrOk K G s1 vs) (h2 : SrOk K G s2 ws) (r1 : RpL K G vs ds) (r2 : RpL K G ws es) : WalkD K (JZip K s1 s2) G (zips ds es) := by
  intro i H s
  have h1' := h1.mono s
  have h2' := h2.mono s
  rw [zips_length]
  refine ⟨fun hi => ⟨⟨vs, ws, h1', h2', by rw [r1.length, r2.length]; exact hi⟩, fun x H' y => ?_⟩, fun hi => ⟨vs, ws, h1', h2', by rw [r1.length, r2.length]; exact hi.symm⟩⟩
  obtain ⟨T, z1, z2, rfl, hT, rfl, y1, y2⟩ := y
  obtain ⟨d, a1, a2⟩ := rp_at r1 (y1 vs h1')
  obtain ⟨e, b1, b2⟩ := rp_at r2 (y2 ws h2')
  exact ⟨same_upd hT, _, zips_at ds es i d e a1 b1, .tup (.inl (.inl (by rw [gr_none hT, upd_same]))) (.cons (Rp.mono (gr_F s) a2) (.cons (Rp.mono (gr_F s) b2) .nil))⟩
theorem si_zip {elts : List Expr} {kk : Nat} {tpos : Pos} {x : Str} (hx : x = "zip") (hg : Gl X x) (hm : X.mg x = none) (ha : PE X ea (rd S ca W X.K false a)) (hb : PE X eb (rd S ca W X.K false b)) (hs : notStar ea = true) (hs2 : notStar eb = true) :
    PI X (.Tuple elts kk tpos) (.Call (.Name x p) [ea, eb] [] pos) (rdI S ca W X.K (.zip a b)) := by
  subst hx
  refine ⟨fun pins s σ H R I ⟨F, env, ss, q⟩ => ?_⟩
  rw [its] at q
  have q : tCons (rd S ca W X.K false a) (tCons (rd S ca W X.K false b) tNil) σ H (fun vs H1 => ∃ v w d e ds es, vs = [v, w] ∧ Same H H1 ∧ Rp X.K (Gr F H H1) v d ∧ Rp X.K (Gr F H H1) w e ∧ items d = .ok ds ∧ items e = .ok es ∧
      ∀ J, (zips ds es).length ≤ lineN → WalkD X.K J (Gr F H H1) (zips ds es) → R J H1) := by
    refine ⟨F, env, ss, q.of_bind.imp fun d q v H1 s1 rv => ⟨F, env, ss.grow s1, q.of_bind.go s1 fun e q w H2 s2 rw' => ?_⟩⟩
    have s12 := s1.trans s2
    cases e1 : items d with
    | ok ds =>
      rw [e1] at q
      cases e2 : items e with
      | ok es =>
        have q : ∀ J H1, Same H H1 → (zips ds es).length ≤ lineN → WalkD X.K J (Gr F H H1) (zips ds es) → R J H1 := by
          have q : PG ca W H σ ((items e).bind fun ys => .ok (zips ds ys)) _ := q
          rw [e2] at q
          exact q
        exact ⟨v, w, d, e, ds, es, rfl, s12, Rp.mono (gr_left s2) rv, Rp.mono (gr_right ss.sub s1 s2) rw', e1, e2, fun J hl wk => q J H2 s12 hl wk⟩
      | exc n => exact (items_noexc e2).elim
      | bad =>
        have q : PG ca W H σ ((items e).bind fun ys => .ok (zips ds ys)) _ := q
        rw [e2] at q; exact q.elim
    | exc n => exact (items_noexc e1).elim
    | bad => rw [e1] at q; exact q.elim
  refine Call_ (ld_blt I hg hm PyProof.Rows.boot_zip (PyProof.Rows.callWith_type1 (thn ((pa_cons ha (pa_cons hb pa_nil (star_cons hs2)) (star_cons hs)).run pos pins s σ H _ I q) fun us s1 ⟨vs, H1, I1, r1, v, w, d, e, ds, es, e0, s1', rx, ry, e1, e2, go⟩ => ?_) (star_cons hs) (star_any (by simp [hs2]))))
  subst e0
  obtain ⟨u1, u2, rfl, ru1, ru2⟩ := vals2 r1
  obtain ⟨sr1, vs1, hv1, hok1, rl1, hz1⟩ := sr_of rx e1
  obtain ⟨sr2, vs2, hv2, hok2, rl2, hz2⟩ := sr_of ry e2
  have g : Same (Gr F H H1) H1 := gr_sub ss.sub s1'
  have hok1' := hok1.mono g
  have hok2' := hok2.mono g
  have hl : (zips ds es).length ≤ lineN := by
    have : vs1.length ≤ lineN := SrOk.len I1 hok1' hz1
    rw [zips_length, ← rl1.length]; omega
  have R1 : R (JZip X.K sr1 sr2) H1 := go _ hl (walk_zipD hok1 hok2 rl1 rl2)
  obtain ⟨o1, Hb1, B1, hb1, hit1, hN1⟩ := sr_begins I1 hok1' (hv1 u1 ru1)
  obtain ⟨o2, Hb2, B2, hb2, hit2, hN2⟩ := sr_begins I1 hok2' (hv2 u2 ru2)
  refine zip_begins2 B1 B2 hb1 hb2 fun h' hz hTI hTO ho1 ho2 hsz hk => wpAny_pyIter_zip hz ?_
  have I2 : Inv X pins σ H1 { s1 with heap := h' } := I1.kept (t' := s1.toks) hk
  refine ⟨s1.heap.objs.size + 4, [s1.heap.objs.size + 4, s1.heap.objs.size + 2, s1.heap.objs.size + 3, s1.heap.objs.size, s1.heap.objs.size + 1], _, _, H1, rfl, I2, turn_zipD s1.heap.objs.size sr1 sr2 hN1 hN2, ⟨hz, hTI, ⟨_, _, hTO⟩, hit1 _ _ ho1, hit2 _ _ ho2⟩, fun c hcm => ?_, R1⟩
  have e' : c = s1.heap.objs.size + 4 ∨ c = s1.heap.objs.size + 2 ∨ c = s1.heap.objs.size + 3 ∨ c = s1.heap.objs.size ∨ c = s1.heap.objs.size + 1 := by simpa using hcm
  have hle : s1.heap.objs.size ≤ c := by
    rcases e' with z | z | z | z | z
    · rw [z]; exact Nat.le_add_right _ _
    · rw [z]; exact Nat.le_add_right _ _
    · rw [z]; exact Nat.le_add_right _ _
    · rw [z]; exact Nat.le_refl _
    · rw [z]; exact Nat.le_add_right _ _
  exact I1.fpOk hle (I1.hok.fresh hle)

/-! ### range -/
theorem rangeD_length {lo : Int} {n : Nat} : (rangeD lo n).length = n := by simp [rangeD]
theorem walk_rngD {K : PySem.W.Frag} {G : Hp} {lo : Int} {n : Nat} : WalkD K (Itr lo n) G (rangeD lo n) := by
  intro i H s
  rw [rangeD_length]
  refine ⟨fun hi => ⟨hi, fun x H' y => ?_⟩, fun hi => by subst hi; exact Nat.le_refl _⟩
  obtain ⟨rfl, rfl⟩ := y
  exact ⟨same_refl, .int (lo + (i : Nat)), by simp [rangeD, hi], .int _⟩
theorem si_rng1 {x : Str} (hx : x = "range") (hg : Gl X x) (hm : X.mg x = none) (ha : PE X ea (rd S ca W X.K true a)) (hs : notStar ea = true) : PI X tg (.Call (.Name x p) [ea] [] pos) (rdI S ca W X.K (.rng (.cons a .nil))) := by
  subst hx
  refine (pi_range1 hg hm (pa_cons ha pa_nil (star_cons hs)) (star_cons hs)).imp fun σ H R ⟨F, env, ss, q⟩ => ?_
  rw [its] at q
  have e1 : evs S true (.cons a .nil) env = (ev S true a env).bind fun d => .ok [d] := by rw [evs, evs]; rfl
  rw [e1] at q
  refine ⟨F, env, ss, q.of_bind.of_bind.imp fun d q v H1 s1 rv => ?_⟩
  have q : PG ca W H σ (rngD [d]) _ := q
  have rv : RpT X.K (Gr F H H1) H1 v d := rv
  cases d with
  | int j =>
    have q : PG ca W H σ (Rf.R.chk (decide (-(2 ^ 62) ≤ j) && decide (j < 2 ^ 62) && decide (j.toNat ≤ lineN)) (.ok (rangeD 0 j.toNat))) _ := q
    cases c : (decide (-(2 ^ 62) ≤ j) && decide (j < 2 ^ 62) && decide (j.toNat ≤ lineN)) with
    | false => rw [c] at q; exact q.elim
    | true =>
      rw [c] at q
      simp only [Bool.and_eq_true, decide_eq_true_eq] at c
      cases (show v = .int j from rv)
      exact ⟨j, rfl, c.1.1, c.1.2, q _ H1 s1 (by rw [rangeD_length]; exact c.2) walk_rngD⟩
  | _ => exact q.elim
theorem si_rng2 {x : Str} (hx : x = "range") (hg : Gl X x) (hm : X.mg x = none) (ha : PE X ea (rd S ca W X.K true a)) (hb : PE X eb (rd S ca W X.K true b)) (hs : notStar ea = true) (hs2 : notStar eb = true) : PI X tg (.Call (.Name x p) [ea, eb] [] pos) (rdI S ca W X.K (.rng (.cons a (.cons b .nil)))) := by
  subst hx
  refine (pi_range2 hg hm (pa_cons ha (pa_cons hb pa_nil (star_cons hs2)) (star_cons hs)) (by rw [star_cons hs, star_cons hs2]; rfl) (by rw [star_cons hs2]; rfl)).imp fun σ H R ⟨F, env, ss, q⟩ => ?_
  rw [its] at q
  have e1 : evs S true (.cons a (.cons b .nil)) env = (ev S true a env).bind fun d => (ev S true b env).bind fun e => .ok [d, e] := by
    rw [evs, evs, evs]
    cases ev S true a env <;> try rfl
    cases ev S true b env <;> rfl
  rw [e1] at q
  refine ⟨F, env, ss, q.of_bind.of_bind.imp fun d q v H1 s1 rv => ⟨F, env, ss.grow s1, q.of_bind.go s1 fun e q w H2 s2 rw' => ?_⟩⟩
  have q : PG ca W H σ (rngD [d, e]) _ := q
  have rv : RpT X.K (Gr F H H1) H1 v d := rv
  have rw' : RpT X.K (Gr F H1 H2) H2 w e := rw'
  cases d with
  | int i =>
    cases e with
    | int j =>
      have q : PG ca W H σ (Rf.R.chk (decide (-(2 ^ 62) ≤ i) && decide (i < 2 ^ 62) && decide (-(2 ^ 62) ≤ j) && decide (j < 2 ^ 62) && decide ((j - i).toNat ≤ lineN)) (.ok (rangeD i (j - i).toNat))) _ := q
      cases c : (decide (-(2 ^ 62) ≤ i) && decide (i < 2 ^ 62) && decide (-(2 ^ 62) ≤ j) && decide (j < 2 ^ 62) && decide ((j - i).toNat ≤ lineN)) with
      | false => rw [c] at q; exact q.elim
      | true =>
        rw [c] at q
        simp only [Bool.and_eq_true, decide_eq_true_eq] at c
        cases (show v = .int i from rv)
        cases (show w = .int j from rw')
        exact ⟨i, j, rfl, ⟨c.1.1.1.1, c.1.1.1.2, c.1.1.2, c.1.2⟩, q _ H2 (s1.trans s2) (by rw [rangeD_length]; exact c.2) walk_rngD⟩
    | _ => exact q.elim
  | _ => exact q.elim
end
end Rf

set_option Elab.async false
set_option linter.all false
set_option maxHeartbeats 1000000
set_option maxRecDepth 100000
/-! Rf, part T: t[::-1] of tuples; sorted; len(set(..)). -/
namespace Rf
open PySem PySem.Spec PyProof.Rows L2

section
variable {prog : Program} {w : World} {A : Around} {E : Value → Shared → Prop} {s : Shared}
theorem sliceApplied_rev {sl : Addr} {vs : Value} {n : Nat} {Q : Int × Int × Nat → Shared → Prop} (hs : s.heap.IsSliceOf sl .none .none vs) (ps : IsPart vs (some (-1)))
    (h : Q ((n : Int) - 1, -1, n) s) : wpAny (model prog w) A (Builtin.Slice.sliceApplied (.ref sl) (pure (n : Int))) Q E s := by
  obtain ⟨os, hos, hcs, hds⟩ := id hs
  unfold Builtin.Slice.sliceApplied Builtin.Slice.sliceFields
  refine wpAny_bind (wpAny_bind (wpAny_field hos hds (x := .none) rfl (wpAny_bind (wpAny_field hos hds (x := .none) rfl (wpAny_bind (wpAny_field hos hds (x := vs) rfl (wpAny_pure ?_)))))))
  refine wpAny_bind (HT.slicePart_ ps ?_)
  show wpAny _ _ (if ((-1 : Int) == 0) = true then _ else _) _ _ s
  rw [if_neg (by decide)]
  refine wpAny_bind (HT.slicePart_ .none (wpAny_bind (HT.slicePart_ .none (wpAny_bind (wpAny_pure ?_)))))
  have e : Builtin.Slice.sliceAdjust none none (-1) (n : Int) = ((n : Int) - 1, -1) := rfl
  have e2 : Builtin.Slice.slicePlaces ((n : Int) - 1) (-1) (-1) = n := by
    unfold Builtin.Slice.slicePlaces
    have h1 : ¬ ((-1 : Int) > 0) := by omega
    simp only [h1, if_false]
    split
    · have : (-(-1) : Int) = 1 := by decide
      rw [this, Int.ediv_one]
      omega
    · omega
  show wpAny _ _ (match Builtin.Slice.sliceAdjust none none (-1) (n : Int) with | (lo, hi) => pure (lo, (-1 : Int), Builtin.Slice.slicePlaces lo hi (-1))) _ _ s
  rw [e]
  show wpAny _ _ (pure ((n : Int) - 1, (-1 : Int), Builtin.Slice.slicePlaces ((n : Int) - 1) (-1) (-1))) _ _ s
  rw [e2]
  exact wpAny_pure h
theorem pick_rev (xs : Array Value) : ((List.range xs.size).filterMap fun (m : Nat) => xs[(((xs.size : Nat) : Int) - 1 + (m : Int) * (-1)).toNat]?).toArray = xs.toList.reverse.toArray := by
  congr 1
  have e : ∀ m ∈ List.range xs.size, xs[(((xs.size : Nat) : Int) - 1 + (m : Int) * (-1)).toNat]? = (xs.toList.reverse)[m]? := fun m hm => by
    have hm : m < xs.size := List.mem_range.mp hm
    have hi : (((xs.size : Nat) : Int) - 1 + (m : Int) * (-1)).toNat = xs.size - 1 - m := by omega
    rw [hi, List.getElem?_reverse (by simpa using hm)]
    simp
  have cg : ∀ (f g : Nat → Option Value) (l : List Nat), (∀ m ∈ l, f m = g m) → l.filterMap f = l.filterMap g := fun f g l => by
    induction l with
    | nil => exact fun _ => rfl
    | cons a l ih =>
      intro h
      rw [List.filterMap_cons, List.filterMap_cons, h a (List.mem_cons_self ..), ih fun m hm => h m (List.mem_cons_of_mem _ hm)]
  rw [cg _ _ _ e]
  have g : ∀ l : List Value, (List.range l.length).filterMap (fun m => l[m]?) = l := fun l => by
    induction l with
    | nil => rfl
    | cons a l ih =>
      rw [List.length_cons, List.range_succ_eq_map, List.filterMap_cons]
      simp only [List.getElem?_cons_zero, List.filterMap_map]
      congr 1
  have q := g xs.toList.reverse
  rw [List.length_reverse, Array.length_toList] at q
  exact q
theorem getItem_tuple_rev {t sl : Addr} {items : Array Value} {vs : Value} {Q : Value → Shared → Prop} (ht : IsTup s.heap t items) (hs : s.heap.IsSliceOf sl .none .none vs) (ps : IsPart vs (some (-1)))
    (h : Q (.ref s.heap.objs.size) { s with heap := s.heap.push { cls := .type "tuple", data := .seq items.toList.reverse.toArray } }) (hsz : items.size ≤ sizeLine) : wpAny (model prog w) A (getItem (.ref t) (.ref sl)) Q E s := by
  have htake : sizeOk (.seq items.toList.reverse.toArray) := by
    show items.toList.reverse.toArray.size ≤ sizeLine
    rw [List.size_toArray, List.length_reverse, Array.length_toList]
    exact hsz
  obtain ⟨os, hos, hcs, hds⟩ := id hs
  have hTs : s.TypeIs (.ref sl) "slice" := ⟨os, hos, hcs⟩
  unfold getItem
  try with_reducible refine wpAny_holding ?_
  first | refine wpAny_bind (wpAny_pure ?_) | skip
  refine wpAny_bind (wpAny_sequenceKey ht.typeIs (by decide) ?_)
  refine wpAny_bind (wpAny_callSpecial?_slot (name := Str.ofString "__getitem__") ht.typeIs PyProof.Rows.slot_tuple_getitem
    (wpAny_call_entry PyProof.Rows.slot_tuple_getitem ht.typeIs entry_tuple_getitem ?_ (args_tuple_getitem _ _)))
  show wpAny _ _ (Builtin.Tuple.tupleItemsOf (.ref t) >>= _) _ _ s
  refine wpAny_bind (tupleItemsOf_ ht ?_)
  refine wpAny_bind (wpAny_typeOf hTs ?_)
  rw [if_pos (by decide)]
  refine wpAny_bind (sliceApplied_rev hs ps ?_)
  have hno : ¬ ((((items.size : Int) - 1) == 0 && (-1 : Int) == 1 && items.size == items.size) = true) := by simp
  show wpAny _ _ (if (((items.size : Int) - 1) == 0 && (-1 : Int) == 1 && items.size == items.size) = true then _ else _) _ _ s
  rw [if_neg hno, pick_rev]
  first
    | exact wpAny_bind (m := Builtin.Tuple.tupleExact _) (wpAny_newObj_type (wpAny_pure ⟨_, rfl, wpAny_pure h⟩) htake)
    | exact wpAny_bind (m := Builtin.Tuple.tupleExact _) (wpAny_newObj_type (wpAny_bind (wpAny_pure (wpAny_pure ⟨_, rfl, wpAny_pure h⟩))) htake)
    | exact wpAny_bind (wpAny_bind (m := Builtin.Tuple.tupleExact _) (wpAny_newObj_type (wpAny_pure (wpAny_pure ⟨_, rfl, wpAny_pure h⟩)) htake))
    | exact wpAny_bind (wpAny_bind (m := Builtin.Tuple.tupleExact _) (wpAny_newObj_type (wpAny_pure ⟨_, rfl, wpAny_pure h⟩) htake))
end
/-- xs[::-1], a list or a tuple -/
def tRevS (K : PySem.W.Frag) (te : TE) : TE := fun σ H Q => te σ H fun x H1 => (∃ a xs, x = .ref a ∧ SqL K H1 a xs ∧ ∀ p, H1 p = none → Q (.ref p) (upd H1 p (.lst xs.reverse))) ∨ (∃ a xs, x = .ref a ∧ SqT K H1 a xs ∧ ∀ p, H1 p = none → Q (.ref p) (upd H1 p (.tup xs.reverse))) ∨ ∃ z, x = .str z ∧ z.length ≤ sizeLine ∧ Q (.str ⟨z.cps.toList.reverse.toArray⟩) H1
section
variable {X : Cx}
theorem pe_revS {e : Expr} {te : TE} {k : Nat} {p1 p2 p3 pos : Pos} (he : PE X e te) : PE X (.Subscript e (.Slice none none (some (.UnaryOp .USub (.Constant (.int 1) k p1) p2)) p3) pos) (tRevS X.K te) := by
  refine ⟨fun pins s σ H Q I h => ?_⟩
  refine Subscript_ (thn (he.run pins s σ H _ I h) fun v s1 ⟨x, H1, I1, r1, q1⟩ => ?_)
  have hst : PO X (some (.UnaryOp .USub (.Constant (.int 1) k p1) p2)) (tPart (tUn (rU fun i => .int (-i)) (tC (.int 1)))) := po_some (pe_un un_neg pe_int)
  refine wpAny_Slice (thn (po_none.run pins s1 σ H1 (fun o H2 => o = none ∧ H2 = H1) I1 ⟨rfl, rfl⟩) fun vl s2 ⟨l, H2, I2, pl, el, e2⟩ => ?_)
  subst el e2
  refine thn (po_none.run pins s2 σ H2 (fun o H3 => o = none ∧ H3 = H2) I2 ⟨rfl, rfl⟩) fun vu s3 ⟨u, H3, I3, pu, eu, e3⟩ => ?_
  subst eu e3
  refine thn (hst.run pins s3 σ H3 (fun o H4 => o = some (-1) ∧ H4 = H3) I3 ⟨1, rfl, -1, rfl, rfl, rfl⟩) fun vs s4 ⟨o, H4, I4, ps, eo, e4⟩ => ?_
  subst eo e4
  have I5 : Inv X pins σ H4 { s4 with heap := s4.heap.push { cls := .type "slice", data := .fields #[vl, vu, vs] } } := I4.kept (t' := s4.toks) fun b ob q => Heap.get?_push_of_some _ q
  rcases q1 with ⟨a, xs, ex, hx, q⟩ | ⟨a, xs, ex, hx, q⟩ | ⟨z, ex, hz, q⟩
  · subst ex
    cases r1
    obtain ⟨its, r, ht, hz⟩ := I5.list hx
    have hlen := r.length
    show wpAny (model X.prog X.w) X.A (subscriptTail e (.Slice none none (some (.UnaryOp .USub (.Constant (.int 1) k p1) p2)) p3) (.ref a) (.ref s4.heap.objs.size)) (EP X pins σ Q) X.xe { s4 with heap := s4.heap.push { cls := .type "slice", data := .fields #[vl, vu, vs] } }
    refine tail_any (ops := [.ref a, .ref s4.heap.objs.size]) ht.isList.typeIs (PySem.slot_list_getitem.lookup) ?_ (by with_unfolding_all rfl)
    refine wpAny_getItem_list_slice ht.isList (Heap.IsSliceOf.new _ vl vu vs) pl pu ps (by decide) ?_ (by rw [List.size_toArray]; omega)
    rw [PySem.W.krv_pick]
    refine ⟨.ref _, _, I5.laid (t' := s4.toks) (o := .lst xs.reverse) (fun b ob q => Heap.get?_push_of_some _ q) (Nat.le_refl _) ?_, rfl, q _ (I5.hok.fresh (Nat.le_refl _))⟩
    exact ⟨by rw [List.length_reverse]; exact hz, _, 0, r.reverse, Heap.get?_push_size _ rfl⟩
  · subst ex
    cases r1
    cases pl
    cases pu
    obtain ⟨its, r, ht, hz⟩ := I5.tuple hx
    have hlen := r.length
    show wpAny (model X.prog X.w) X.A (subscriptTail e (.Slice none none (some (.UnaryOp .USub (.Constant (.int 1) k p1) p2)) p3) (.ref a) (.ref s4.heap.objs.size)) (EP X pins σ Q) X.xe { s4 with heap := s4.heap.push { cls := .type "slice", data := .fields #[.none, .none, vs] } }
    refine tail_any (ops := [.ref a, .ref s4.heap.objs.size]) ht.typeIs (PyProof.Rows.slot_tuple_getitem.lookup) ?_ (by with_unfolding_all rfl)
    refine getItem_tuple_rev ht (Heap.IsSliceOf.new _ .none .none vs) ps ?_ (by rw [List.size_toArray]; omega)
    refine ⟨.ref _, _, I5.laid (t' := s4.toks) (o := .tup xs.reverse) (fun b ob q => Heap.get?_push_of_some _ q) (Nat.le_refl _) ?_, rfl, q _ (I5.hok.fresh (Nat.le_refl _))⟩
    exact ⟨by rw [List.length_reverse]; exact hz, _, r.reverse, IsTup.new _ _⟩
  · subst ex
    obtain ⟨tk, rfl⟩ := r1
    obtain ⟨lo, rfl, e1'⟩ := IsPart.raw pl
    obtain ⟨up, rfl, e2'⟩ := IsPart.raw pu
    obtain ⟨st, rfl, e3'⟩ := IsPart.raw ps
    show wpAny (model X.prog X.w) X.A (subscriptTail e (.Slice none none (some (.UnaryOp .USub (.Constant (.int 1) k p1) p2)) p3) (.str z tk) (.ref s4.heap.objs.size)) (EP X pins σ Q) X.xe { s4 with heap := s4.heap.push { cls := .type "slice", data := .fields #[partValue lo, partValue up, partValue st] } }
    refine tail_any (ops := [.str z tk, .ref s4.heap.objs.size]) (typeIs_str _ _ _) PySem.F.slot_str_getitem.lookup ?_ (by with_unfolding_all rfl)
    refine wpAny_getItem_str_slice (l := lo) (u := up) (st := st) ⟨_, Heap.get?_push_size _ rfl, rfl, rfl⟩ (by rw [e3']; rfl) ?_
    have ep : slicePicked z lo up st = (List.range z.length).reverse := by
      unfold slicePicked
      rw [e1', e2', e3']
      show Builtin.Str.strSliceIndices none none (-1) z.length = _
      unfold Builtin.Str.strSliceIndices
      show sliceRange ((z.length : Int) - 1) (-1) (-1) = _
      rw [PySem.W.krv_sliceRange, PySem.W.krv_range]
    have em : sliceMade z tk lo up st = .str ⟨z.cps.toList.reverse.toArray⟩ := by
      unfold sliceMade
      rw [ep, e3', if_neg (by simp), List.filterMap_reverse]
      show Made.str ⟨((List.range z.cps.size).filterMap (z.cps[·]?)).reverse.toArray⟩ = _
      rw [PySem.W.krv_all]
    rw [em]
    exact ⟨by show (z.cps.toList.reverse.toArray).size ≤ sizeLine; rw [List.size_toArray, List.length_reverse, Array.length_toList]; exact hz, .str _, H4, I5.tok _, ⟨_, rfl⟩, q⟩

/-! ### sorted -/
theorem ins_perm {α : Type} {le : α → α → Bool} {x : α} : ∀ {l : List α}, (ins le x l).Perm (x :: l)
  | [] => .refl _
  | y :: ys => by
    unfold ins
    split
    · exact .refl _
    · exact (List.Perm.cons y ins_perm).trans (.swap x y ys)
theorem isort_perm {α : Type} {le : α → α → Bool} : ∀ {l : List α}, (isort le l).Perm l
  | [] => .refl _
  | x :: xs => (ins_perm).trans (.cons x isort_perm)
theorem ins_pair {α : Type} {le : α → α → Bool} (h : PySem.W.TotalLe le) {x : α} : ∀ {l : List α}, l.Pairwise (fun a b => le a b = true) → (ins le x l).Pairwise (fun a b => le a b = true)
  | [], _ => by unfold ins; exact List.pairwise_singleton _ _
  | y :: ys, p => by
    unfold ins
    obtain ⟨p1, p2⟩ := List.pairwise_cons.mp p
    cases q : le x y with
    | true =>
      refine List.pairwise_cons.mpr ⟨fun z hz => ?_, p⟩
      rcases List.mem_cons.mp hz with rfl | hz
      · exact q
      · exact h.trans _ _ _ q (p1 z hz)
    | false =>
      have q2 : le y x = true := (h.total y x).resolve_right (by rw [q]; exact Bool.false_ne_true)
      refine List.pairwise_cons.mpr ⟨fun z hz => ?_, ins_pair h p2⟩
      rcases List.mem_cons.mp (ins_perm.mem_iff.mp hz) with rfl | hz
      · exact q2
      · exact p1 z hz
theorem isort_pair {α : Type} {le : α → α → Bool} (h : PySem.W.TotalLe le) : ∀ {l : List α}, (isort le l).Pairwise (fun a b => le a b = true)
  | [] => .nil
  | x :: xs => ins_pair h (isort_pair h)
theorem ins_filter {α : Type} {le : α → α → Bool} (h : PySem.W.TotalLe le) (c x : α) : ∀ {l : List α}, (ins le x l).filter (PySem.W.sameRank le c) = (x :: l).filter (PySem.W.sameRank le c)
  | [] => rfl
  | y :: ys => by
    unfold ins
    cases q : le x y with
    | true => rfl
    | false =>
      show (y :: ins le x ys).filter _ = _
      rw [List.filter_cons, ins_filter h c x, List.filter_cons, List.filter_cons, List.filter_cons]
      by_cases hx : PySem.W.sameRank le c x = true
      · by_cases hy : PySem.W.sameRank le c y = true
        · exfalso
          unfold PySem.W.sameRank at hx hy
          rw [Bool.and_eq_true] at hx hy
          rw [h.trans _ _ _ hx.2 hy.1] at q
          cases q
        · simp [hx, hy]
      · simp [hx]
theorem isort_filter {α : Type} {le : α → α → Bool} (h : PySem.W.TotalLe le) (c : α) : ∀ {l : List α}, (isort le l).filter (PySem.W.sameRank le c) = l.filter (PySem.W.sameRank le c)
  | [] => rfl
  | x :: xs => by
    show (ins le x (isort le xs)).filter _ = _
    rw [ins_filter h, List.filter_cons, List.filter_cons, isort_filter h]
theorem isort_eq {α : Type} {le : α → α → Bool} (h : PySem.W.TotalLe le) {l : List α} : isort le l = l.mergeSort le := PySem.W.sort_unique h (isort_pair h) fun c => isort_filter h c
theorem alike_ok {ds : List D} (h : alikeAllB ds = true) : PySem.W.AllAlike ds := fun d hd d' hd' => List.all_eq_true.mp (List.all_eq_true.mp h d hd) d' hd'
theorem sortable_ok {ds : List D} (h : sortableB ds = true) : PySem.W.Sortable ds := by
  unfold sortableB at h
  rw [Bool.or_eq_true] at h
  rcases h with h | h
  · refine .inl fun d hd => ?_
    have q := List.all_eq_true.mp h d hd
    split at q
    · exact ⟨_, _, rfl⟩
    · cases q
  · refine .inr fun d hd => ?_
    have q := List.all_eq_true.mp h d hd
    split at q
    · cases q
    · cases q
    · rename_i h1 h2
      exact ⟨h1, h2⟩
/-! ### sorted(x), x of any kind whose items can be collected -/
section
open PySem.W PyProof.Rows
variable {prog : Program} {w : World} {A : Around} {E : Value → Shared → Prop} {s : Shared}
/-- the items of x are vs, and nothing that stood changes -/
def Colls (prog : Program) (w : World) (A : Around) (s : Shared) (x : Value) (P : List Value → Prop) : Prop :=
  ∀ (Q : List Value → Shared → Prop) (E : Value → Shared → Prop), (∀ (s1 : Shared) (vs : List Value), P vs → (∀ b o, s.heap.get? b = some o → s1.heap.get? b = some o) → s1.gens = s.gens → s1.drawn = s.drawn → s1.os = s.os → Q vs s1) → wpAny (model prog w) A (collect x) Q E s
theorem sorted_collG {β : Type} {enc : β → PyData} {R : Value → β → Prop} {P : Shared → List Value → Prop} {x : Value} {rev : Bool} {kw : List (Str × Value)} {Q : Value → Shared → Prop} (hkw : (kw = [] ∧ rev = false) ∨ kw = [(Str.ofString "reverse", .bool rev)])
    (hc : ∀ (Q : List Value → Shared → Prop) (E : Value → Shared → Prop), (∀ (s1 : Shared) (vs : List Value), P s1 vs → Q vs s1) → wpAny (model prog w) A.in1 (collect x) Q E s)
    (h : ∀ s1 vs, P s1 vs → ∃ bs : List β, EachIs R vs bs ∧ EachIs (fun v b => ∃ as, Reads s1.heap v (enc b) as) vs bs ∧ AllAlike (bs.map enc) ∧ Sortable (bs.map enc) ∧ bs.length ≤ sizeLine ∧ (∀ b, b ∈ bs → A.units + 2 + (enc b).depth < cLine) ∧
      ∀ (h3 : Heap) (out : List Value) (ep : Nat), (∀ b o, s1.heap.get? b = some o → h3.get? b = some o) → h3.get? s1.heap.objs.size = some (seqObj "list" out.toArray ep) → EachIs R out (bs.mergeSort (dataLe rev enc)) → Q (.ref s1.heap.objs.size) { s1 with heap := h3 }) :
    wpAny (model prog w) A (call (.builtin "sorted") [x] kw) Q E s := by
  have ha1 : argsOk "sorted" ⟨[x], kw⟩ := by
    rcases hkw with ⟨rfl, _⟩ | rfl
    · exact args_sorted1 _
    · exact args_sorted_rev _ _
  have ha2 : ∀ y, argsOk "list.sort" ⟨[y], kw⟩ := fun y => by
    rcases hkw with ⟨rfl, _⟩ | rfl
    · exact args_list_sort _
    · exact args_list_sort_rev _ _
  refine call_function_entry_kw kind_sorted plain_sorted entry_sorted ha1 ?_
  unfold Builtin.«sorted»
  refine wpAny_bind (m := checkCount "sorted" 1 1 _) (wpAny_pure ?_)
  refine wpAny_bind (hc _ _ fun s1 vs hP => ?_)
  obtain ⟨bs, e, er, hal, hk, hL, hu, h⟩ := h s1 vs hP
  have hvs : vs.length ≤ sizeLine := by rw [e.length]; exact hL
  refine wpAny_bind (wpAny_newList ?_ hvs)
  have hat : (s1.heap.push (seqObj "list" vs.toArray 0)).get? s1.heap.objs.size = some (seqObj "list" vs.toArray 0) := Heap.get?_push_size _ rfl
  have old : ∀ b o, s1.heap.get? b = some o → (s1.heap.push (seqObj "list" vs.toArray 0)).get? b = some o := fun b o q => Heap.get?_push_of_some _ q
  refine wpAny_bind (wpAny_holding (wpAny_call_entry_kw slot_list_sort ⟨_, hat, rfl⟩ entry_list_sort ?body (ha2 _)))
  case body =>
    let s2 : Shared := { s1 with heap := s1.heap.push (seqObj "list" vs.toArray 0) }
    have fin : ∀ E' : Value → Shared → Prop, wpAny (model prog w) A.in1.in1 (Builtin.«list.sort» ⟨[.ref s1.heap.objs.size], kw⟩) (fun f s' => f = .done (.ret .none) ∧ Q (.ref s1.heap.objs.size) s') E' s2 := fun E' => by
      have er2 : EachIs (fun v b => ∃ as, Reads (sortingHeap s2.heap s1.heap.objs.size vs) v (enc b) as) vs bs := er.mono fun u b ⟨as, r⟩ => ⟨as, PyProof.Rows.Reads.keeps (fun c o q1 => sortingHeap_old (Nat.ne_of_lt (Heap.lt_size q1)) (old _ _ q1)) r⟩
      have S : SortsAt prog w A.in1.in1 { s2 with heap := sortingHeap s2.heap s1.heap.objs.size vs } (dataKind (sortingHeap s2.heap s1.heap.objs.size vs) (bs.map enc)) vs := SortsAt.data (s := { s2 with heap := sortingHeap s2.heap s1.heap.objs.size vs }) (each_map (R := fun v d => ∃ as, Reads (sortingHeap s2.heap s1.heap.objs.size vs) v d as) enc er2) hal hk (bound_map hu)
      have done : Q (.ref s1.heap.objs.size) { s2 with heap := sortedHeap s2.heap s1.heap.objs.size vs (sortVals (dataKind (sortingHeap s2.heap s1.heap.objs.size vs) (bs.map enc)) rev vs vs).toArray } := by
        obtain ⟨ep, he⟩ := sortedHeap_at (h := s2.heap) (a := s1.heap.objs.size) (vs := vs) (n := 0) (out := (sortVals (dataKind (sortingHeap s2.heap s1.heap.objs.size vs) (bs.map enc)) rev vs vs).toArray) hat
        refine h _ (sortVals (dataKind (sortingHeap s2.heap s1.heap.objs.size vs) (bs.map enc)) rev vs vs) ep (fun b o q1 => ?_) he (sortVals_data rev e er2 hal)
        have lt := Heap.lt_size q1
        rw [sortedHeap_old (Nat.ne_of_lt lt) (by show b < (s1.heap.push _).objs.size; rw [size_push']; exact Nat.lt_succ_of_lt lt)]
        exact old _ _ q1
      rcases hkw with ⟨rfl, rfl⟩ | rfl
      · exact list_sort_vals (s := s2) hat S hvs ⟨rfl, done⟩
      · exact list_sort_rev_vals (s := s2) hat S hvs ⟨rfl, done⟩
    show wpAny (model prog w) A.in1.in1 (Builtin.«list.sort» ⟨[.ref s1.heap.objs.size], kw⟩) _ _ _
    refine wpAny_mono (fin _) (fun f s' hf => ?_) fun _ _ e => e
    obtain ⟨rfl, hq⟩ := hf
    exact ⟨_, rfl, wpAny_pure ⟨_, rfl, hq⟩⟩
theorem sorted_coll {β : Type} {enc : β → PyData} {R : Value → β → Prop} {P : List Value → Prop} {bs : List β} {x : Value} {rev : Bool} {kw : List (Str × Value)} {Q : Value → Shared → Prop} (hkw : (kw = [] ∧ rev = false) ∨ kw = [(Str.ofString "reverse", .bool rev)])
    (hc : Colls prog w A.in1 s x P) (he0 : ∀ vs, P vs → EachIs R vs bs) (her0 : ∀ vs, P vs → EachIs (fun v b => ∃ as, Reads s.heap v (enc b) as) vs bs) (hal : AllAlike (bs.map enc)) (hk : Sortable (bs.map enc)) (hL : bs.length ≤ sizeLine)
    (hu : ∀ b, b ∈ bs → A.units + 2 + (enc b).depth < cLine)
    (h : ∀ (s1 : Shared) (h3 : Heap) (out : List Value) (ep : Nat), (∀ b o, s.heap.get? b = some o → s1.heap.get? b = some o) → s1.gens = s.gens → s1.drawn = s.drawn → s1.os = s.os → (∀ b o, s1.heap.get? b = some o → h3.get? b = some o) → h3.get? s1.heap.objs.size = some (seqObj "list" out.toArray ep) →
      EachIs R out (bs.mergeSort (dataLe rev enc)) → Q (.ref s1.heap.objs.size) { s1 with heap := h3 }) :
    wpAny (model prog w) A (call (.builtin "sorted") [x] kw) Q E s :=
  sorted_collG (P := fun s1 vs => P vs ∧ (∀ b o, s.heap.get? b = some o → s1.heap.get? b = some o) ∧ s1.gens = s.gens ∧ s1.drawn = s.drawn ∧ s1.os = s.os) hkw (fun Q E hq => hc Q E fun s1 vs p k g1 g2 g3 => hq s1 vs ⟨p, k, g1, g2, g3⟩) fun s1 vs ⟨p, k, g1, g2, g3⟩ =>
    ⟨bs, he0 vs p, (her0 vs p).mono fun u b ⟨as, r⟩ => ⟨as, PyProof.Rows.Reads.keeps k r⟩, hal, hk, hL, hu, fun h3 out ep k3 ho ee => h s1 h3 out ep k g1 g2 g3 k3 ho ee⟩
end
section
variable {X : Cx} {pins : List (Addr × Obj)} {σ : L2.St} {F H : Hp} {s : Shared}
theorem kept_all (I : Inv X pins σ H s) {s1 : Shared} (k : ∀ b o, s.heap.get? b = some o → s1.heap.get? b = some o) (g1 : s1.gens = s.gens) (g2 : s1.drawn = s.drawn) (g3 : s1.os = s.os) : Inv X pins σ H s1 := by
  have e : s1 = { s with heap := s1.heap, toks := s1.toks } := by
    cases s1
    cases s
    cases g1
    cases g2
    cases g3
    rfl
  rw [e]
  exact I.kept (t' := s1.toks) k
theorem sort_rule {rev : Bool} {kw : List (Str × Value)} {v : Value} {vs : List V} {ds : List D} {Q : VK} (hu : X.A.units + 65 < cLine) (hkw : (kw = [] ∧ rev = false) ∨ kw = [(Str.ofString "reverse", .bool rev)]) (I : Inv X pins σ H s) (f : Same F H)
    (hc : Colls X.prog X.w X.A.in1 s v (fun its => Vals vs its)) (rl : RpL X.K F vs ds) (q : PostV X.K F H (sortD rev ds) Q) : wpAny (model X.prog X.w) X.A (call (.builtin "sorted") [v] kw) (EP X pins σ Q) X.xe s := by
  have q : PostV X.K F H (R.chk (decide (ds.length ≤ lineN) && alikeAllB ds && sortableB ds && depthB ds && nodics ds) (.ok (.list (isort (PySem.W.dataLe rev id) ds)))) Q := q
  cases c : (decide (ds.length ≤ lineN) && alikeAllB ds && sortableB ds && depthB ds && nodics ds) with
  | false => rw [c] at q; exact q.elim
  | true =>
    rw [c] at q
    simp only [Bool.and_eq_true, decide_eq_true_eq, lineN_eq] at c
    obtain ⟨⟨⟨⟨c1, c2⟩, c3⟩, c4⟩, c5⟩ := c
    have hlen := rl.length
    let bs : List (V × D) := vs.zip ds
    let Rr : Value → V × D → Prop := fun u p => RelV p.1 u ∧ Rp X.K F p.1 p.2 ∧ nodic p.2 = true
    have eR : ∀ {vs : List V} {ds : List D} {its : List Value}, RpL X.K F vs ds → Vals vs its → nodics ds = true → PySem.W.EachIs Rr its (vs.zip ds) := fun {vs} => by
      induction vs with
      | nil => intro ds its a b n; cases b; exact .nil
      | cons v vs ih =>
        intro ds its a b n
        cases a with
        | cons a1 a2 =>
          rw [nodics, Bool.and_eq_true] at n
          cases b with
          | cons b1 b2 => exact .cons ⟨b1, a1, n.1⟩ (ih a2 b2 n.2)
    have e : ∀ its, Vals vs its → PySem.W.EachIs Rr its bs := fun its rv => eR rl rv c5
    have hm : bs.map (·.2) = ds := List.map_snd_zip (by omega)
    have er : ∀ its, Vals vs its → PySem.W.EachIs (fun v (b : V × D) => ∃ as, Reads s.heap v b.2 as) its bs := fun its rv => (e its rv).mono fun u p ⟨h1, h2, h3⟩ => Dp.reads I p.2 p.1 u (Rp.dp (Rp.mono f h2) h3) h1
    have eD : ((bs.mergeSort (PySem.W.dataLe rev (fun p : V × D => p.2))).map (·.2)) = isort (PySem.W.dataLe rev id) ds := by
      rw [show isort (PySem.W.dataLe rev id) ds = ds.mergeSort (PySem.W.dataLe rev id) from isort_eq (PySem.W.sortLe_total _ _ _), ← hm]
      exact PySem.W.sort_maps _ fun a _ b _ => rfl
    have hbl : bs.length = ds.length := by rw [← hm, List.length_map]
    refine sorted_coll (enc := fun p : V × D => p.2) (rev := rev) hkw hc e er (by show PySem.W.AllAlike (bs.map (·.2)); rw [hm]; exact alike_ok c2) (by show PySem.W.Sortable (bs.map (·.2)); rw [hm]; exact sortable_ok c3) (by rw [hbl]; exact c1) (fun b hb => ?_) fun s1 h3 out ep k1 g1 g2 g3 k3 ho ee => ?_
    · have : b.2 ∈ ds := by rw [← hm]; exact List.mem_map.mpr ⟨b, hb, rfl⟩
      have : b.2.depth ≤ 60 := of_decide_eq_true (List.all_eq_true.mp c4 _ this)
      omega
    · have back : ∀ {us : List Value} {ps : List (V × D)}, PySem.W.EachIs Rr us ps → Vals (ps.map (·.1)) us ∧ RpL X.K F (ps.map (·.1)) (ps.map (·.2)) := fun {us} => by
        induction us with
        | nil => intro ps a; cases a; exact ⟨.nil, .nil⟩
        | cons u us ih =>
          intro ps a
          cases a with
          | cons a1 a2 =>
            obtain ⟨i1, i2⟩ := ih a2
            exact ⟨.cons a1.1 i1, .cons a1.2.1 i2⟩
      obtain ⟨b1, b2⟩ := back ee
      rw [eD] at b2
      have hlen2 : ((bs.mergeSort (PySem.W.dataLe rev (fun p : V × D => p.2))).map (·.1)).length ≤ sizeLine := by
        rw [List.length_map, List.length_mergeSort, hbl]; exact c1
      have I1 := kept_all I k1 g1 g2 g3
      exact ⟨.ref _, upd H s1.heap.objs.size (.lst ((bs.mergeSort (PySem.W.dataLe rev (fun p : V × D => p.2))).map (·.1))), I1.laid (t' := s1.toks) k3 (Nat.le_refl _) ⟨hlen2, out, ep, b1, ho⟩, rfl, PostV.newL f q (I1.hok.fresh (Nat.le_refl _)) b2⟩
theorem coll_list (I : Inv X pins σ H s) {l : Addr} {vs : List V} (hl : SqL X.K H l vs) : Colls X.prog X.w X.A.in1 s (.ref l) (fun its => Vals vs its) := by
  obtain ⟨its, rv, pl, hz⟩ := I.list hl
  obtain ⟨o, n, e, c, d, dt⟩ := pl
  intro Q E h
  have := wpAny_collect_seq (prog := X.prog) (w := X.w) (A := X.A.in1) (E := E) (s := s) (Q := Q) l (T := "list") (.inl rfl) e c dt (fun h' k => by have := h { s with heap := h' } its rv k rfl rfl rfl; simpa using this) (by rw [List.size_toArray, ← rv.length]; exact hz)
  exact this
theorem coll_tup (I : Inv X pins σ H s) {l : Addr} {vs : List V} (hl : SqT X.K H l vs) : Colls X.prog X.w X.A.in1 s (.ref l) (fun its => Vals vs its) := by
  obtain ⟨its, rv, pl, hz⟩ := I.tuple hl
  obtain ⟨o, e, c, n, dt⟩ := pl
  intro Q E h
  have := wpAny_collect_seq (prog := X.prog) (w := X.w) (A := X.A.in1) (E := E) (s := s) (Q := Q) l (T := "tuple") (.inr rfl) e c dt (fun h' k => by have := h { s with heap := h' } its rv k rfl rfl rfl; simpa using this) (by rw [List.size_toArray, ← rv.length]; exact hz)
  exact this
theorem coll_dict (I : Inv X pins σ H s) (hh : X.A.handled = none) {a : Addr} {o : HO} {kvs : List (D × D)} (e : Rd H a o) (d : DR X.K F a o kvs) : ∃ vs, RpL X.K F vs (kvs.map (·.1)) ∧ Colls X.prog X.w X.A.in1 s (.ref a) (fun its => Vals vs its) := by
  obtain ⟨ob, hg, hx⟩ := ddN I e d
  have key : ∃ es ep vs, ob.data = .dict es ep ∧ Vals vs (es.toList.map (·.key)) ∧ RpL X.K F vs (kvs.map (·.1)) ∧ (a == sysModules) = false ∧ vs.length ≤ sizeLine := by
    rcases dr_rows.mp d with ⟨ents, rfl, r⟩ | ⟨ents, rfl, r⟩
    · obtain ⟨z, hd, vs, rel, ob', es, ep, e1, e2, e3, _, e4, _⟩ := dk_rd I.hok e
      rw [hg] at e1; cases e1
      obtain ⟨ds, r1, r2, rfl⟩ := of_rk r
      refine ⟨es, ep, _, e3, pairs_keys rel e4, ?_, hd, by rw [List.length_map]; exact z⟩
      rw [List.map_fst_zip (by have := r2.length; simp only [List.length_map] at this ⊢; omega)]
      exact r1
    · obtain ⟨⟨z, hd, nd, xs, rx, ob', es, ep, e1, e2, e3, e4⟩, _⟩ := e.ok I.hok
      rw [hg] at e1; cases e1
      obtain ⟨ds, r1, r2, rfl, _⟩ := of_rn r
      refine ⟨es, ep, _, e3, by rw [e4 X.prog X.w]; exact rx_vals rx, ?_, hd, by rw [List.length_map]; exact z⟩
      rw [List.map_fst_zip (by have := r2.length; simp only [List.length_map] at this ⊢; omega)]
      exact r1
  obtain ⟨es, ep, vs, hd, hv, rl, hs, hz⟩ := key
  refine ⟨vs, rl, fun Q E h => ?_⟩
  have hl := hv.length
  rw [List.length_map] at hl
  have hl : vs.length = es.size := hl.trans Array.length_toList
  refine PySem.W.kdu_collect (PySem.KdlSrc.rawDict (es := es) (ep := ep) hs) hh ⟨ob, hg, hx, hd⟩ (by omega) fun h' tk acc k hi => ?_
  have e : acc.toList = es.toList.map (·.key) := by
    refine List.ext_getElem? fun j => ?_
    by_cases hj : j < es.size
    · have hj2 : j < acc.size := by rw [hi.1]; exact hj
      obtain ⟨_, hv2⟩ := hi.2 j acc[j] (by simp [hj2])
      rw [Array.getElem?_toList, Array.getElem?_eq_getElem hj2, hv2, List.getElem?_map, Array.getElem?_toList, Array.getElem?_eq_getElem hj]
      rfl
    · rw [List.getElem?_eq_none (by rw [Array.length_toList, hi.1]; omega), List.getElem?_eq_none (by rw [List.length_map, Array.length_toList]; omega)]
  rw [e]
  exact h _ _ hv k rfl rfl rfl
end
section
variable {X : Cx}
/-- the sorted of b's data -/
def keysOfD : D → R (List D)
  | .list ds => .ok ds
  | .tuple ds => .ok ds
  | .dict kvs => .ok (kvs.map (·.1))
  | .str z => R.chk (decide (z.length ≤ lineN)) (.ok (z.cps.toList.map fun c => .str ⟨#[c]⟩))
  | _ => .bad
theorem sort_any {rev : Bool} {kw : List (Str × Value)} (hkw : (kw = [] ∧ rev = false) ∨ kw = [(Str.ofString "reverse", .bool rev)]) (hc : X.calm = true) (hu : X.A.units + 65 < cLine) {pins : List (Addr × Obj)} {s : Shared} {σ : L2.St} {F H : Hp} {x : V} {u : Value} {Q : VK} {d : D} {ds : List D}
    (I : Inv X pins σ H s) (r : RelV x u) (f : Same F H) (hx : RpT X.K F H x d) (hk : keysOfD d = .ok ds) (q : PostV X.K F H (sortD rev ds) Q) : wpAny (model X.prog X.w) X.A (call (.builtin "sorted") [u] kw) (EP X pins σ Q) X.xe s := by
  cases d with
  | list ds' =>
    cases hk
    obtain ⟨l, vs, rfl, hl, rl⟩ := hx
    cases (show u = Value.ref l from r)
    exact sort_rule hu hkw I f (coll_list I hl) rl q
  | tuple ds' =>
    cases hk
    obtain ⟨l, vs, rfl, hl, rl⟩ := hx
    cases (show u = Value.ref l from r)
    exact sort_rule hu hkw I f (coll_tup I (f.sqT hl)) rl q
  | dict kvs =>
    cases hk
    obtain ⟨a, o, rfl, h1, h2⟩ := hx
    cases (show u = Value.ref a from r)
    obtain ⟨vs, rl, hcoll⟩ := coll_dict I (I.ok.hd hc) h1 h2
    exact sort_rule hu hkw I f hcoll rl q
  | str z =>
    obtain ⟨c, e⟩ := chk_ok (show R.chk (decide (z.length ≤ lineN)) _ = _ from hk)
    cases e
    cases (show x = .str z from hx)
    obtain ⟨t, rfl⟩ := (show ∃ t, u = Value.str z t from r)
    simp only [decide_eq_true_eq, lineN_eq] at c
    exact sort_rule hu hkw I f (vs := z.cps.toList.map fun c => V.str ⟨#[c]⟩) (fun Q E h => wpAny_collect_str (A := X.A.in1) (hn := c) (I.ok.hd hc) z t fun s' acc k g1 g2 g3 hi => h s' _ (signs_vals hi) k g1 g2 g3) (strs_rp _) q
  | _ => cases hk
theorem cr_sortD (hc : X.calm = true) (hu : X.A.units + 65 < cLine) : CallR X (.builtin "sorted") (rBI X.K .sorted) := by
  intro pins s σ H xs us Q I r h
  obtain ⟨F, d, x, rfl, f, hx, q⟩ := rBI.one rfl (by intro a c r; cases a <;> rfl) h
  obtain ⟨u, eu, rx⟩ := vals1 r
  subst eu
  have key : ∃ ds, keysOfD d = .ok ds ∧ biD .sorted [d] = sortD false ds := by
    cases d with
    | list ds => exact ⟨ds, rfl, rfl⟩
    | tuple ds => exact ⟨ds, rfl, rfl⟩
    | dict kvs => exact ⟨_, rfl, rfl⟩
    | str z =>
      cases c : decide (z.length ≤ lineN) with
      | false =>
        have e : biD .sorted [.str z] = R.chk (decide (z.length ≤ lineN)) (sortD false (z.cps.toList.map fun c => .str ⟨#[c]⟩)) := rfl
        rw [e, c] at q
        exact q.elim
      | true =>
        refine ⟨z.cps.toList.map fun c => .str ⟨#[c]⟩, ?_, ?_⟩
        · show R.chk (decide (z.length ≤ lineN)) _ = _; rw [c]; rfl
        · show R.chk (decide (z.length ≤ lineN)) _ = _; rw [c]; rfl
    | _ => exact q.elim
  obtain ⟨ds, k1, k2⟩ := key
  rw [k2] at q
  exact sort_any (.inl ⟨rfl, rfl⟩) hc hu I rx f hx k1 q
end

/-! ### len(set(xs)), tuples of ints -/
theorem distinct_mem {α : Type} [DecidableEq α] {x : α} : ∀ {l : List α}, x ∈ distinct l ↔ x ∈ l
  | [] => Iff.rfl
  | y :: ys => by
    unfold distinct
    cases q : decide (y ∈ ys) with
    | true =>
      have q := of_decide_eq_true q
      show x ∈ distinct ys ↔ _
      rw [distinct_mem, List.mem_cons]
      exact ⟨.inr, fun h => h.elim (fun z => z ▸ q) id⟩
    | false =>
      show x ∈ y :: distinct ys ↔ _
      rw [List.mem_cons, List.mem_cons, distinct_mem]
theorem distinct_nodup {α : Type} [DecidableEq α] : ∀ {l : List α}, (distinct l).Nodup
  | [] => .nil
  | y :: ys => by
    unfold distinct
    cases q : decide (y ∈ ys) with
    | true => exact distinct_nodup
    | false =>
      have q := of_decide_eq_false q
      exact List.nodup_cons.mpr ⟨fun z => q (distinct_mem.mp z), distinct_nodup⟩
theorem nodup_len {α : Type} [DecidableEq α] : ∀ {l m : List α}, l.Nodup → (∀ x ∈ l, x ∈ m) → l.length ≤ m.length
  | [], _, _, _ => Nat.zero_le _
  | x :: l, m, h, s => by
    obtain ⟨h1, h2⟩ := List.nodup_cons.mp h
    have hx := s x (List.mem_cons_self ..)
    have := nodup_len (m := m.erase x) h2 fun y hy => (List.mem_erase_of_ne (fun z => by subst z; exact h1 hy)).mpr (s y (List.mem_cons_of_mem _ hy))
    rw [List.length_erase_of_mem hx] at this
    have : 0 < m.length := List.length_pos_of_mem hx
    simp only [List.length_cons]
    omega
theorem keys_of {K : PySem.W.Frag} {F : Hp} : ∀ {ds : List D} {vs : List V} {ks : List (List Int)}, RpL K F vs ds → keysD ds = .ok ks → ∃ ps : List (Addr × List Int), vs = ps.map (fun p => V.ref p.1) ∧ ks = ps.map (·.2) ∧ ∀ p ∈ ps, SqT K F p.1 (p.2.map V.int)
  | [], _, _, r, e => by cases r; cases e; exact ⟨[], rfl, rfl, fun _ z => absurd z (by simp)⟩
  | d :: ds, _, _, r, e => by
    cases r with
    | cons r1 r2 =>
      rw [keysD] at e
      obtain ⟨k, e1, e⟩ := bind_ok e
      obtain ⟨ks, e2, e⟩ := bind_ok e
      cases e
      obtain ⟨ps, rfl, rfl, h⟩ := keys_of r2 e2
      cases d with
      | tuple es =>
        cases r1 with
        | @tup a xs _ hs rs =>
          have := rs.intsOf e1
          subst this
          exact ⟨(a, k) :: ps, rfl, rfl, fun p hp => by rcases List.mem_cons.mp hp with rfl | hp; exact hs; exact h p hp⟩
      | _ => cases e1
/-- len of such a set -/
def rLenTO (K : PySem.W.Frag) (P : Program) (w : World) : List V → Hp → VK → Prop := fun xs H Q => ∃ (a : Addr) (L : List (Addr × List Int)), xs = [V.ref a] ∧ H a = some (SetTO P w a L) ∧ (∀ p ∈ L, SqT K H p.1 (p.2.map V.int)) ∧ ((L.map (·.2)).Nodup → Q (.int L.length) H)
theorem cr_lenTO : CallR X (.builtin "len") (rLenTO X.K X.prog X.w) := by
  intro pins s σ H xs us Q I r h
  obtain ⟨a, L, rfl, ha, hk, q⟩ := h
  have R0 : SetT0 X.prog X.w s.heap a L := (I.hok a _ ha).1
  obtain ⟨es, ep, t, R⟩ := R0.full fun p hp => I.isT (hk p hp)
  rw [Vals.ref1 r]
  obtain ⟨o, ho, hex, hd⟩ := R.ob
  have hz := R.size
  refine PySem.call_len_set ho hex hd R.fits (by have := R.few; omega) ⟨.int L.length, H, I.tok _, ⟨_, by rw [hz]⟩, q R.nd⟩
end
end Rf

set_option Elab.async false
set_option linter.all false
set_option maxHeartbeats 1000000
/-! Rf, part E: chains, and, or, not, conditional expressions, slices, comprehensions. -/
namespace Rf
open PySem PySem.Spec PyProof.Rows L2
section
variable {S : Sig} {ca : ExA} {W : WX} {X : Cx} {t : Bool} {a b c : C} {ea eb ec tg : Expr} {es : List Expr} {pos p : Pos}

theorem cmp_post {o : Cop} {d e : D} {H : Hp} {σ : L2.St} {k : D → Prop} (p : PG ca W H σ (cmpD o d e) k) : ∃ b, cmpB o d e = .ok b ∧ k (.bool b) := by
  cases g : cmpB o d e with
  | ok b =>
    have e2 : cmpD o d e = .ok (.bool b) := by unfold cmpD; rw [g]; rfl
    rw [e2] at p; exact ⟨b, rfl, p⟩
  | exc n => exact (cmpB_noexc g).elim
  | bad =>
    have e2 : cmpD o d e = .bad := by unfold cmpD; rw [g]; rfl
    rw [e2] at p; exact p.elim
theorem rd_chain {o1 o2 : Cop} {σ : L2.St} {H : Hp} {Q : VK} (h : rd S ca W X.K t (.chain o1 o2 a b c) σ H Q) : tChain (rOpB X.K (cmpB o1)) (rOpB X.K (cmpB o2)) (rd S ca W X.K true a) (rd S ca W X.K true b) (rd S ca W X.K true c) σ H Q := by
  obtain ⟨F, env, s, p⟩ := h
  rw [ev] at p
  refine ⟨F, env, s, p.of_bind.imp fun d p x H1 s1 rx => ⟨F, env, s.grow s1, p.of_bind.go s1 fun e p y H2 s2 ry => ?_⟩⟩
  have s12 := s1.trans s2
  have rx : RpT X.K (Gr F H H1) H1 x d := rx
  have ry : RpT X.K (Gr F H1 H2) H2 y e := ry
  cases g : cmpB o1 d e with
  | ok k =>
    rw [g] at p
    refine ⟨Gr F H H2, d, e, k, gr_sub s.sub s12, RpT.mono rx (gr_left s2) s2, RpT.mono ry (gr_right s.sub s1 s2) same_refl, g, k, rfl, ?_⟩
    cases k with
    | false => exact iteF (WB.s s.sub p s12 fun _ => .bl false)
    | true =>
      refine iteT ⟨F, env, (s.grow s1).grow s2, (PG.of_bind (show PG ca W H σ ((ev S true c env).bind fun z => cmpD o2 e z) (WB t X.K F H Q) from p)).go s12 fun z p w H3 s3 rz => ?_⟩
      have s13 := s12.trans s3
      obtain ⟨b2, g2, p⟩ := cmp_post p
      have rz : RpT X.K (Gr F H2 H3) H3 w z := rz
      exact ⟨Gr F H H3, e, z, b2, gr_sub s.sub s13, RpT.mono ry (fun a o q => gr_left s3 a o (gr_right s.sub s1 s2 a o q)) s3, RpT.mono rz (gr_right s.sub s12 s3) same_refl, g2, WB.s s.sub p s13 fun _ => .bl b2⟩
  | exc n => exact (cmpB_noexc g).elim
  | bad => rw [g] at p; exact p.elim
theorem se_chain {o1 o2 : Cop} (hu : X.A.units + 65 < cLine) (ha : PE X ea (rd S ca W X.K true a)) (hb : PE X eb (rd S ca W X.K true b)) (hc : PE X ec (rd S ca W X.K true c)) (hm : lastMarks [copS o1, copS o2] [eb, ec] = false) :
    PE X (.Compare ea [copS o1, copS o2] [eb, ec] pos) (rd S ca W X.K t (.chain o1 o2 a b c)) :=
  (pe_chain (op_cmp hu o1) (op_cmp hu o2) ha hb hc hm).imp fun σ H Q h => rd_chain h
/-- a test's reading by its value's -/
theorem rd_test {σ : L2.St} {H : Hp} {Q : Bool → Hp → Prop} (h : rdT S ca W X.K a σ H Q) : rd S ca W X.K true a σ H fun x H' => ∃ k, x = .bl k ∧ Q k H' := rdT_val h
theorem st_chain {o1 o2 : Cop} (hu : X.A.units + 65 < cLine) (ha : PE X ea (rd S ca W X.K true a)) (hb : PE X eb (rd S ca W X.K true b)) (hc : PE X ec (rd S ca W X.K true c)) (hm : lastMarks [copS o1, copS o2] [eb, ec] = false) :
    PT X (.Compare ea [copS o1, copS o2] [eb, ec] pos) (rdT S ca W X.K (.chain o1 o2 a b c)) :=
  (pt_chain (op_cmp hu o1) (op_cmp hu o2) ha hb hc hm).imp fun σ H Q h => rd_chain (rd_test h)

/-! ### and, or -/
def rdAnd (S : Sig) (ca : ExA) (W : WX) (K : PySem.W.Frag) (c : C) : TE := fun σ H Q => ∃ F env, Ss K F H env σ ∧ PG ca W H σ (evAnd S c env) (WB false K F H Q)
def rdOr (S : Sig) (ca : ExA) (W : WX) (K : PySem.W.Frag) (c : C) : TE := fun σ H Q => ∃ F env, Ss K F H env σ ∧ PG ca W H σ (evOr S c env) (WB false K F H Q)
def rdTAnd (S : Sig) (ca : ExA) (W : WX) (K : PySem.W.Frag) (c : C) : TT := fun σ H Q => ∃ F env, Ss K F H env σ ∧ PG ca W H σ ((evAnd S c env).bind toBool) (fun b => ∀ H', Same H H' → Q b H')
def rdTOr (S : Sig) (ca : ExA) (W : WX) (K : PySem.W.Frag) (c : C) : TT := fun σ H Q => ∃ F env, Ss K F H env σ ∧ PG ca W H σ ((evOr S c env).bind toBool) (fun b => ∀ H', Same H H' → Q b H')
theorem WB.down {K : PySem.W.Frag} {F H : Hp} {Q : VK} {d : D} (f : Same F H) (h : WB t K F H Q d) : WB false K F H Q d := fun v H' s r => h v H' s (RpB.of r (gr_sub f s))
theorem se_band (h : PE X (.BoolOp .And es pos) (rdAnd S ca W X.K a)) : PE X (.BoolOp .And es pos) (rd S ca W X.K t (.band a)) :=
  h.imp fun σ H Q ⟨F, env, s, p⟩ => ⟨F, env, s, by rw [ev] at p; exact p.imp fun d q => WB.down s.sub q⟩
theorem se_bor (h : PE X (.BoolOp .Or es pos) (rdOr S ca W X.K a)) : PE X (.BoolOp .Or es pos) (rd S ca W X.K t (.bor a)) :=
  h.imp fun σ H Q ⟨F, env, s, p⟩ => ⟨F, env, s, by rw [ev] at p; exact p.imp fun d q => WB.down s.sub q⟩
theorem and_one (ha : PE X ea (rd S ca W X.K false a)) : PE X (.BoolOp .And [ea] pos) (rdAnd S ca W X.K (.cons a .nil)) :=
  (pe_one ha).imp fun σ H Q ⟨F, env, s, p⟩ => ⟨F, env, s, by rw [evAnd] at p; exact p⟩
theorem or_one (ha : PE X ea (rd S ca W X.K false a)) : PE X (.BoolOp .Or [ea] pos) (rdOr S ca W X.K (.cons a .nil)) :=
  (pe_one ha).imp fun σ H Q ⟨F, env, s, p⟩ => ⟨F, env, s, by rw [evOr] at p; exact p⟩
theorem bool_post {d : D} {x : V} {G H H1 : Hp} {σ : L2.St} {k : Bool → Prop} (p : PG ca W H σ (toBool d) k) (rx : RpT X.K G H1 x d) : ∃ b, x = .bl b ∧ d = .bool b ∧ k b := by
  cases q : toBool d with
  | ok b =>
    rw [q] at p
    have e := toBool_ok q
    subst e
    exact ⟨b, rx, rfl, p⟩
  | exc n => exact (toBool_noexc q).elim
  | bad => rw [q] at p; exact p.elim
theorem and_cons {r1 r2 : C} (ha : PE X ea (rd S ca W X.K true a)) (hr : PE X (.BoolOp .And (eb :: es) pos) (rdAnd S ca W X.K (.cons r1 r2))) : PE X (.BoolOp .And (ea :: eb :: es) pos) (rdAnd S ca W X.K (.cons a (.cons r1 r2))) := by
  refine (pe_and ha hr).imp fun σ H Q ⟨F, env, s, p⟩ => ?_
  rw [evAnd] at p
  · refine ⟨F, env, s, p.of_bind.imp fun d p x H1 s1 rx => ?_⟩
    obtain ⟨k, e1, e2, p⟩ := bool_post (X := X) p.of_bind rx
    refine ⟨k, e1, ?_⟩
    cases k with
    | false => exact iteF (WB.s s.sub p s1 fun _ => .bl false)
    | true => exact iteT ⟨F, env, s.grow s1, PG.go p s1 fun d q v H' s2 r => q v H' (s1.trans s2) (Rp.mono (gr_right s.sub s1 s2) r)⟩
  · intro z; cases z
theorem or_cons {r1 r2 : C} (ha : PE X ea (rd S ca W X.K true a)) (hr : PE X (.BoolOp .Or (eb :: es) pos) (rdOr S ca W X.K (.cons r1 r2))) : PE X (.BoolOp .Or (ea :: eb :: es) pos) (rdOr S ca W X.K (.cons a (.cons r1 r2))) := by
  refine (pe_or ha hr).imp fun σ H Q ⟨F, env, s, p⟩ => ?_
  rw [evOr] at p
  · refine ⟨F, env, s, p.of_bind.imp fun d p x H1 s1 rx => ?_⟩
    obtain ⟨k, e1, e2, p⟩ := bool_post (X := X) p.of_bind rx
    refine ⟨k, e1, ?_⟩
    cases k with
    | true => exact iteT (WB.s s.sub p s1 fun _ => .bl true)
    | false => exact iteF ⟨F, env, s.grow s1, PG.go p s1 fun d q v H' s2 r => q v H' (s1.trans s2) (Rp.mono (gr_right s.sub s1 s2) r)⟩
  · intro z; cases z
theorem st_band (h : PW X (.BoolOp .And es pos) (rdTAnd S ca W X.K a)) : PT X (.BoolOp .And es pos) (rdT S ca W X.K (.band a)) :=
  h.pt.imp fun σ H Q ⟨F, env, s, p⟩ => ⟨F, env, s, by rw [ev] at p; exact p⟩
theorem st_bor (h : PW X (.BoolOp .Or es pos) (rdTOr S ca W X.K a)) : PT X (.BoolOp .Or es pos) (rdT S ca W X.K (.bor a)) :=
  h.pt.imp fun σ H Q ⟨F, env, s, p⟩ => ⟨F, env, s, by rw [ev] at p; exact p⟩
theorem test_down {α : Type} {σ : L2.St} {H : Hp} {env : Env} {f : D → R α} {k : α → Prop} (p : PG ca W H σ ((ev S false a env).bind f) k) : PG ca W H σ ((ev S true a env).bind f) k := by
  rcases ev_true (S := S) (a := a) (env := env) with e | e
  · rw [e] at p; exact p
  · rw [e] at p; exact p.elim
theorem tand_one (ha : PT X ea (rdT S ca W X.K a)) : PW X (.BoolOp .And [ea] pos) (rdTAnd S ca W X.K (.cons a .nil)) :=
  (pw_and1 ha).imp fun σ H Q ⟨F, env, s, p⟩ => ⟨F, env, s, by rw [evAnd] at p; exact test_down p⟩
theorem tor_one (ha : PT X ea (rdT S ca W X.K a)) : PW X (.BoolOp .Or [ea] pos) (rdTOr S ca W X.K (.cons a .nil)) :=
  (pw_or1 ha).imp fun σ H Q ⟨F, env, s, p⟩ => ⟨F, env, s, by rw [evOr] at p; exact test_down p⟩
theorem bind_assoc {α β γ : Type} (x : R α) (f : α → R β) (g : β → R γ) : (x.bind f).bind g = x.bind fun a => (f a).bind g := by
  cases x <;> rfl
theorem tand_cons {r1 r2 : C} (ha : PT X ea (rdT S ca W X.K a)) (hr : PW X (.BoolOp .And (eb :: es) pos) (rdTAnd S ca W X.K (.cons r1 r2))) : PW X (.BoolOp .And (ea :: eb :: es) pos) (rdTAnd S ca W X.K (.cons a (.cons r1 r2))) := by
  refine (pw_and ha hr).imp fun σ H Q ⟨F, env, s, p⟩ => ?_
  rw [evAnd] at p
  · rw [bind_assoc] at p
    refine ⟨F, env, s, ?_⟩
    have p2 : PG ca W H σ (((ev S true a env).bind toBool).bind fun k => (match k with | true => evAnd S (.cons r1 r2) env | false => R.ok (PyData.bool false)).bind toBool) (fun b => ∀ H', Same H H' → Q b H') := by
      rw [bind_assoc]
      have e : ∀ x : D, ((toBool x).bind fun k => match k with | true => evAnd S (.cons r1 r2) env | false => R.ok (PyData.bool false)).bind toBool = (toBool x).bind fun k => (match k with | true => evAnd S (.cons r1 r2) env | false => R.ok (PyData.bool false)).bind toBool := fun x => bind_assoc _ _ _
      simp only [← e]
      exact p
    refine p2.of_bind.imp fun k p H1 s1 => ?_
    cases k with
    | false => exact iteF (p H1 s1)
    | true => exact iteT ⟨F, env, s.grow s1, PG.go p s1 fun d q H' s2 => q H' (s1.trans s2)⟩
  · intro z; cases z
theorem tor_cons {r1 r2 : C} (ha : PT X ea (rdT S ca W X.K a)) (hr : PW X (.BoolOp .Or (eb :: es) pos) (rdTOr S ca W X.K (.cons r1 r2))) : PW X (.BoolOp .Or (ea :: eb :: es) pos) (rdTOr S ca W X.K (.cons a (.cons r1 r2))) := by
  refine (pw_or ha hr).imp fun σ H Q ⟨F, env, s, p⟩ => ?_
  rw [evOr] at p
  · rw [bind_assoc] at p
    refine ⟨F, env, s, ?_⟩
    have p2 : PG ca W H σ (((ev S true a env).bind toBool).bind fun k => (match k with | true => R.ok (PyData.bool true) | false => evOr S (.cons r1 r2) env).bind toBool) (fun b => ∀ H', Same H H' → Q b H') := by
      rw [bind_assoc]
      have e : ∀ x : D, ((toBool x).bind fun k => match k with | true => R.ok (PyData.bool true) | false => evOr S (.cons r1 r2) env).bind toBool = (toBool x).bind fun k => (match k with | true => R.ok (PyData.bool true) | false => evOr S (.cons r1 r2) env).bind toBool := fun x => bind_assoc _ _ _
      simp only [← e]
      exact p
    refine p2.of_bind.imp fun k p H1 s1 => ?_
    cases k with
    | true => exact iteT (p H1 s1)
    | false => exact iteF ⟨F, env, s.grow s1, PG.go p s1 fun d q H' s2 => q H' (s1.trans s2)⟩
  · intro z; cases z

/-! ### not, a if c else b -/
theorem se_not (ha : PE X ea (rd S ca W X.K true a)) : PE X (.UnaryOp .Not ea pos) (rd S ca W X.K t (.bnot a)) := by
  refine (pe_not ha).imp fun σ H Q ⟨F, env, s, p⟩ => ?_
  rw [ev] at p
  refine ⟨F, env, s, p.of_bind.imp fun d p x H1 s1 rx => ?_⟩
  obtain ⟨k, e1, e2, p⟩ := bool_post (X := X) p.of_bind rx
  exact ⟨k, e1, WB.s s.sub p s1 fun _ => .bl _⟩
theorem st_not (ha : PT X ea (rdT S ca W X.K a)) : PT X (.UnaryOp .Not ea pos) (rdT S ca W X.K (.bnot a)) := by
  refine (pt_not ha).imp fun σ H Q ⟨F, env, s, p⟩ => ?_
  rw [ev] at p
  refine ⟨F, env, s, ?_⟩
  have e : (((ev S true a env).bind fun x => (toBool x).bind fun k => R.ok (PyData.bool (!k))).bind toBool) = ((ev S true a env).bind toBool).bind fun k => .ok (!k) := by
    cases ev S true a env with
    | ok d =>
      show ((toBool d).bind _).bind _ = (toBool d).bind _
      cases toBool d <;> rfl
    | exc n => rfl
    | bad => rfl
  rw [e] at p
  exact p.of_bind
theorem se_ife (hc : PT X ec (rdT S ca W X.K c)) (ha : PE X ea (rd S ca W X.K false a)) (hb : PE X eb (rd S ca W X.K false b)) : PE X (.IfExp ec ea eb pos) (rd S ca W X.K t (.ife c a b)) := by
  refine (pe_ifExp hc ha hb).imp fun σ H Q ⟨F, env, s, p⟩ => ?_
  rw [ev, ← bind_assoc] at p
  refine ⟨F, env, s, p.of_bind.imp fun k p H1 s1 => ?_⟩
  have fin : ∀ {e : C}, PG ca W H σ (ev S false e env) (WB t X.K F H Q) → rd S ca W X.K false e σ H1 Q := fun {e} p => ⟨F, env, s.grow s1, p.go s1 fun d q v H' s2 r => q v H' (s1.trans s2) (RpB.of (Rp.mono (gr_right s.sub s1 s2) r) (gr_sub s.sub (s1.trans s2)))⟩
  cases k with
  | true => exact iteT (fin p)
  | false => exact iteF (fin p)

/-! ### slices -/
def rdO (S : Sig) (ca : ExA) (W : WX) (K : PySem.W.Frag) (c : C) : TO := fun σ H Q => ∃ F env, Ss K F H env σ ∧ PG ca W H σ (evO S c env) (fun o => ∀ H', Same H H' → Q o H')
theorem _root_.L2.PO.imp {X : Cx} {e : Option Expr} {t t' : TO} (h : PO X e t) (i : ∀ σ H Q, t' σ H Q → t σ H Q) : PO X e t' := ⟨fun pins s σ H Q I w => h.run pins s σ H Q I (i _ _ _ w)⟩
theorem so_none : PO X none (rdO S ca W X.K .nil) := po_none.imp fun σ H Q ⟨F, env, s, p⟩ => by
  rw [evO] at p
  exact p H same_refl
theorem so_some (ha : PE X ea (rd S ca W X.K true a)) : PO X (some ea) (rdO S ca W X.K (.cons a .nil)) := by
  refine (po_some ha).imp fun σ H Q ⟨F, env, s, p⟩ => ?_
  rw [evO] at p
  refine ⟨F, env, s, p.of_bind.imp fun d p x H1 s1 rx => ?_⟩
  have rx : RpT X.K (Gr F H H1) H1 x d := rx
  cases d with
  | int i => exact ⟨i, rx, p H1 s1⟩
  | _ => exact p.elim
theorem se_sl {lo hi : C} {elo ehi : Option Expr} {p2 : Pos} (ha : PE X ea (rd S ca W X.K true a)) (hl : PO X elo (rdO S ca W X.K lo)) (hh : PO X ehi (rdO S ca W X.K hi)) : PE X (.Subscript ea (.Slice elo ehi none p2) pos) (rd S ca W X.K t (.sl a lo hi)) := by
  refine (pe_slice sl_D ha hl hh).imp fun σ H Q ⟨F, env, s, p⟩ => ?_
  rw [ev] at p
  refine ⟨F, env, s, p.of_bind.imp fun d p x H1 s1 rx => ⟨F, env, s.grow s1, p.of_bind.go s1 fun l p H2 s2 => ⟨F, env, (s.grow s1).grow s2, p.of_bind.go (s1.trans s2) fun h p H3 s3 => ?_⟩⟩⟩
  have s12 := s1.trans s2
  have s13 := s12.trans s3
  refine ⟨Gr F H H3, d, gr_sub s.sub s13, RpT.mono rx (gr_left (s2.trans s3)) (s2.trans s3), ?_⟩
  unfold PostV
  cases q : slD d l h with
  | ok k =>
    rw [q] at p
    intro v H' s4 rv
    exact p v H' (s13.trans s4) (RpB.of (Rp.mono (gr_gr s13 s4) rv) (gr_sub s.sub (s13.trans s4)))
  | exc n => exact (slD_noexc q).elim
  | bad => rw [q] at p; exact p.elim
theorem se_rev {k : Nat} {p1 p2 p3 : Pos} (ha : PE X ea (rd S ca W X.K true a)) : PE X (.Subscript ea (.Slice none none (some (.UnaryOp .USub (.Constant (.int 1) k p1) p2)) p3) pos) (rd S ca W X.K t (.rev a)) := by
  refine (pe_revS ha).imp fun σ H Q ⟨F, env, s, p⟩ => ?_
  rw [ev] at p
  refine ⟨F, env, s, p.of_bind.imp fun d p x H1 s1 rx => ?_⟩
  have rx : RpT X.K (Gr F H H1) H1 x d := rx
  cases d with
  | list ds =>
    obtain ⟨l, vs, rfl, hl, rl⟩ := rx
    exact .inl ⟨l, vs, rfl, hl, fun q hq => WB.n s.sub p s1 hq rl.rev⟩
  | tuple ds =>
    obtain ⟨l, vs, rfl, hl, rl⟩ := rx
    have p : PG ca W H σ (R.chk (decide (ds.length ≤ lineN)) (.ok (.tuple ds.reverse))) (WB t X.K F H Q) := p
    cases c : decide (ds.length ≤ lineN) with
    | false => rw [c] at p; exact p.elim
    | true =>
      rw [c] at p
      exact .inr (.inl ⟨l, vs, rfl, (gr_sub s.sub s1).sqT hl, fun q hq => WB.t s.sub p s1 hq rl.rev⟩)
  | str z =>
    have p : PG ca W H σ (R.chk (decide (z.length ≤ lineN)) (.ok (.str ⟨z.cps.toList.reverse.toArray⟩))) (WB t X.K F H Q) := p
    cases c : decide (z.length ≤ lineN) with
    | false => rw [c] at p; exact p.elim
    | true =>
      rw [c] at p
      exact .inr (.inr ⟨z, rx, by rw [← lineN_eq]; exact of_decide_eq_true c, WB.s s.sub p s1 fun _ => .str _⟩)
  | _ => exact p.elim
theorem se_neg (ha : PE X ea (rd S ca W X.K true a)) : PE X (.UnaryOp .USub ea pos) (rd S ca W X.K t (.neg a)) := by
  refine (pe_un un_neg ha).imp fun σ H Q ⟨F, env, s, p⟩ => ?_
  rw [ev] at p
  refine ⟨F, env, s, p.of_bind.imp fun d p x H1 s1 rx => ?_⟩
  have rx : RpT X.K (Gr F H H1) H1 x d := rx
  cases d with
  | int i => exact ⟨i, rx, WB.s s.sub p s1 fun _ => .int _⟩
  | _ => exact p.elim
end
end Rf

set_option Elab.async false
set_option linter.all false
set_option maxHeartbeats 1000000
/-! Rf, part F: targets; comprehensions; new lists. -/
namespace Rf
open PySem PySem.Spec PyProof.Rows L2

/-! ### targets -/
def gsOf : C → TGs
  | .nil => gNil
  | .cons (.var i) r => gCons (gName i) (gsOf r)
  | _ => fun _ _ _ _ => False
def gOf (K : PySem.W.Frag) : C → TG
  | .var i => gName i
  | .tup ts => gTup K (cLen ts) (gsOf ts)
  | _ => fun _ _ _ _ => False
section
variable {K : PySem.W.Frag} {F H : Hp} {env : Env} {σ : L2.St}
theorem Ss.set {i : Nat} {d : D} {v : V} (h : Ss K F H env σ) (r : Rp K F v d) : Ss K F H (env.set i (some (false, d))) (σ.set i (some v)) := by
  refine ⟨h.sub, by rw [List.length_set, List.length_set]; exact h.len, fun j b e => ?_, fun j k dj dk a hjk e1 e2 e3 e4 => ?_⟩
  · by_cases hj : i = j
    · subst hj
      have hl : i < env.length := by
        have := (List.getElem?_eq_some_iff.mp e).1
        rwa [List.length_set] at this
      rw [List.getElem?_set_self hl] at e
      cases e
      exact ⟨some v, List.getElem?_set_self (by rw [h.len]; exact hl), r⟩
    · rw [List.getElem?_set_ne hj] at e
      obtain ⟨v', h1, h2⟩ := h.slot j b e
      exact ⟨v', by rw [List.getElem?_set_ne hj]; exact h1, h2⟩
  · have n1 : i ≠ j := fun q => by
      subst q
      by_cases hl : i < env.length
      · rw [List.getElem?_set_self hl] at e1; cases e1
      · rw [List.getElem?_eq_none (by rw [List.length_set]; omega)] at e1; cases e1
    have n2 : i ≠ k := fun q => by
      subst q
      by_cases hl : i < env.length
      · rw [List.getElem?_set_self hl] at e2; cases e2
      · rw [List.getElem?_eq_none (by rw [List.length_set]; omega)] at e2; cases e2
    rw [List.getElem?_set_ne n1] at e1 e3
    rw [List.getElem?_set_ne n2] at e2 e4
    exact h.apart j k dj dk a hjk e1 e2 e3 e4
theorem Ss.unset {i : Nat} (h : Ss K F H env σ) : Ss K F H (env.set i none) (σ.set i none) := by
  refine ⟨h.sub, by rw [List.length_set, List.length_set]; exact h.len, fun j b e => ?_, fun j k dj dk a hjk e1 e2 e3 e4 => ?_⟩
  · by_cases hj : i = j
    · subst hj
      have hl : i < env.length := by
        have := (List.getElem?_eq_some_iff.mp e).1
        rwa [List.length_set] at this
      rw [List.getElem?_set_self hl] at e
      cases e
      exact ⟨none, List.getElem?_set_self (by rw [h.len]; exact hl), trivial⟩
    · rw [List.getElem?_set_ne hj] at e
      obtain ⟨v', h1, h2⟩ := h.slot j b e
      exact ⟨v', by rw [List.getElem?_set_ne hj]; exact h1, h2⟩
  · have n1 : i ≠ j := fun q => by
      subst q
      by_cases hl : i < env.length
      · rw [List.getElem?_set_self hl] at e1; cases e1
      · rw [List.getElem?_eq_none (by rw [List.length_set]; omega)] at e1; cases e1
    have n2 : i ≠ k := fun q => by
      subst q
      by_cases hl : i < env.length
      · rw [List.getElem?_set_self hl] at e2; cases e2
      · rw [List.getElem?_eq_none (by rw [List.length_set]; omega)] at e2; cases e2
    rw [List.getElem?_set_ne n1] at e1 e3
    rw [List.getElem?_set_ne n2] at e2 e4
    exact h.apart j k dj dk a hjk e1 e2 e3 e4
theorem Ss.wipe (h : Ss K F H env σ) : ∀ vs : List Nat, Ss K F H (wipeE env vs) (L2.wipe σ vs)
  | [] => h
  | v :: vs => (Ss.wipe h vs).unset
theorem wipe_at (σ : L2.St) (vs : List Nat) (j : Nat) : (L2.wipe σ vs)[j]? = if j ∈ vs ∧ j < σ.length then some none else σ[j]? := by
  induction vs with
  | nil => simp [L2.wipe]
  | cons v vs ih =>
    show ((L2.wipe σ vs).set v none)[j]? = _
    by_cases h : v = j
    · subst h
      by_cases hl : v < σ.length
      · rw [List.getElem?_set_self (by rw [wipe_length]; exact hl), if_pos ⟨by simp, hl⟩]
      · rw [if_neg (fun q => hl q.2), List.getElem?_eq_none (by rw [List.length_set, wipe_length]; omega), List.getElem?_eq_none (by omega)]
    · rw [List.getElem?_set_ne h, ih]
      by_cases hj : j ∈ vs ∧ j < σ.length
      · rw [if_pos hj, if_pos ⟨List.mem_cons_of_mem _ hj.1, hj.2⟩]
      · rw [if_neg hj, if_neg (fun q => hj ⟨(List.mem_cons.mp q.1).resolve_left (fun z => h z.symm), q.2⟩)]
theorem wipe_set {σ : L2.St} {vs : List Nat} {i : Nat} {v : Option V} (hi : i ∈ vs) : L2.wipe (σ.set i v) vs = L2.wipe σ vs := by
  refine List.ext_getElem? fun j => ?_
  rw [wipe_at, wipe_at, List.length_set]
  by_cases h : j ∈ vs ∧ j < σ.length
  · rw [if_pos h, if_pos h]
  · rw [if_neg h, if_neg h]
    by_cases hj : i = j
    · subst hj
      have : ¬ i < σ.length := fun q => h ⟨hi, q⟩
      rw [List.getElem?_eq_none (by rw [List.length_set]; omega), List.getElem?_eq_none (by omega)]
    · rw [List.getElem?_set_ne hj]
theorem wipe_wipe {σ : L2.St} {vs : List Nat} : L2.wipe (L2.wipe σ vs) vs = L2.wipe σ vs := by
  refine List.ext_getElem? fun j => ?_
  rw [wipe_at, wipe_length]
  by_cases h : j ∈ vs ∧ j < σ.length
  · rw [if_pos h, wipe_at, if_pos h]
  · rw [if_neg h]
theorem bindTs_inv {ts : C} {ds : List D} {env env' : Env} (e : bindTs ts ds env = .ok env') : (ts = .nil ∧ ds = [] ∧ env' = env) ∨
    ∃ i r d ds', ts = .cons (.var i) r ∧ ds = d :: ds' ∧ i < env.length ∧ bindTs r ds' (env.set i (some (false, d))) = .ok env' := by
  unfold bindTs at e
  split at e
  · cases e; exact .inl ⟨rfl, rfl, rfl⟩
  · obtain ⟨h, e⟩ := chk_ok e
    exact .inr ⟨_, _, _, _, rfl, rfl, of_decide_eq_true h, e⟩
  · cases e
theorem bindTs_ok {P : Env → L2.St → Prop} (hP : ∀ env σ i d v, P env σ → Rp K F v d → P (env.set i (some (false, d))) (σ.set i (some v))) : ∀ {ds : List D} {ts : C} {xs : List V} {env env' : Env} {σ : L2.St} {vs : List Nat} {Q : L2.St → Hp → Prop}, bindTs ts ds env = .ok env' → RpL K F xs ds → P env σ → (∀ i ∈ tgVars ts, i ∈ vs) →
    (∀ σ', P env' σ' → L2.wipe σ' vs = L2.wipe σ vs → Q σ' H) → gsOf ts xs σ H Q ∧ ds.length = cLen ts := by
  intro ds
  induction ds with
  | nil =>
    intro ts xs env env' σ vs Q e r s hv q
    rcases bindTs_inv e with ⟨rfl, _, rfl⟩ | ⟨_, _, _, _, _, z, _⟩
    · cases r; exact ⟨⟨rfl, q _ s rfl⟩, rfl⟩
    · cases z
  | cons d ds ih =>
    intro ts xs env env' σ vs Q e r s hv q
    rcases bindTs_inv e with ⟨_, z, _⟩ | ⟨i, t, _, _, rfl, z, hi, e⟩
    · cases z
    · cases z
      cases r with
      | @cons v us _ _ h r =>
        have hv1 : i ∈ vs := hv i (by show i ∈ tgVars (.var i) ++ tgVars t; exact List.mem_append_left _ (by simp [tgVars]))
        obtain ⟨g, l⟩ := ih (σ := σ.set i (some v)) (vs := vs) (Q := Q) e r (hP _ _ i d v s h) (fun j hj => hv j (by show j ∈ tgVars (.var i) ++ tgVars t; exact List.mem_append_right _ hj)) fun σ' s' w => q σ' s' (w.trans (wipe_set hv1))
        exact ⟨⟨v, us, rfl, g⟩, by rw [List.length_cons, l]; rfl⟩
theorem bindT_inv {tg : C} {d : D} {env env' : Env} (e : bindT tg d env = .ok env') : (∃ i, tg = .var i ∧ i < env.length ∧ env' = env.set i (some (false, d))) ∨ ∃ ts ds, tg = .tup ts ∧ d = .tuple ds ∧ bindTs ts ds env = .ok env' := by
  unfold bindT at e
  split at e
  · obtain ⟨h, e⟩ := chk_ok e
    cases e
    exact .inl ⟨_, rfl, of_decide_eq_true h, rfl⟩
  · exact .inr ⟨_, _, rfl, rfl, e⟩
  · cases e
/-- a target takes a value -/
theorem bindT_okP {P : Env → L2.St → Prop} (hP : ∀ env σ i d v, P env σ → Rp K F v d → P (env.set i (some (false, d))) (σ.set i (some v))) {tg : C} {d : D} {v : V} {env' : Env} {vs : List Nat} {Q : L2.St → Hp → Prop} (e : bindT tg d env = .ok env') (r : Rp K F v d) (f : Same F H) (s : P env σ) (hv : ∀ i ∈ tgVars tg, i ∈ vs)
    (q : ∀ σ', P env' σ' → L2.wipe σ' vs = L2.wipe σ vs → Q σ' H) : gOf K tg v σ H Q := by
  rcases bindT_inv e with ⟨i, rfl, _, rfl⟩ | ⟨ts, ds, rfl, rfl, e⟩
  · exact q _ (hP _ _ _ _ _ s r) (wipe_set (hv i (by simp [tgVars])))
  · cases r with
    | @tup a xs _ h r =>
      obtain ⟨g, l⟩ := bindTs_ok (vs := vs) (Q := Q) hP e r s (fun i hi => hv i (by rw [tgVars]; exact hi)) q
      exact ⟨a, xs, rfl, f.sqT h, by rw [r.length]; exact l, g⟩
theorem bindT_ok {tg : C} {d : D} {v : V} {env' : Env} {vs : List Nat} {Q : L2.St → Hp → Prop} (e : bindT tg d env = .ok env') (r : Rp K F v d) (s : Ss K F H env σ) (hv : ∀ i ∈ tgVars tg, i ∈ vs)
    (q : ∀ σ', Ss K F H env' σ' → L2.wipe σ' vs = L2.wipe σ vs → Q σ' H) : gOf K tg v σ H Q := bindT_okP (P := Ss K F H) (fun _ _ _ _ _ h r => h.set r) e r s.sub s hv q
theorem bindTs_noexc {n : Str} : ∀ {ds : List D} {ts : C} {env : Env}, bindTs ts ds env ≠ .exc n := by
  intro ds
  induction ds with
  | nil => intro ts env h; unfold bindTs at h; split at h <;> first | (cases h; done) | (rename_i z; exact absurd z (by simp))
  | cons d ds ih =>
    intro ts env h
    unfold bindTs at h
    split at h
    · cases h
    · rename_i z
      cases z
      exact chk_noexc ih h
    · cases h
theorem bindT_noexc {n : Str} {tg : C} {d : D} {env : Env} : bindT tg d env ≠ .exc n := by
  intro h
  unfold bindT at h
  split at h
  · exact chkok_noexc h
  · exact bindTs_noexc h
  · cases h
end
end Rf

set_option Elab.async false
set_option linter.all false
set_option maxHeartbeats 1000000
/-! Rf, part G: comprehensions; new lists. -/
namespace Rf
open PySem PySem.Spec PyProof.Rows L2

def del (H : Hp) (D : Addr) : Hp := fun a => if a = D then none else H a
theorem del_ne {H : Hp} {D a : Addr} (h : a ≠ D) : del H D a = H a := by unfold del; rw [if_neg h]
theorem del_sub {H : Hp} {D : Addr} : Same (del H D) H := fun a o e => by
  by_cases h : a = D
  · subst h; unfold del at e; rw [if_pos rfl] at e; cases e
  · rw [del_ne h] at e; exact e
theorem sub_del {H1 H : Hp} {D : Addr} (s : Same H1 H) (n : H1 D = none) : Same H1 (del H D) := fun a o e => by
  rw [del_ne (ne_of_none e n)]; exact s a o e
theorem del_mono {H H' : Hp} {D : Addr} (s : Same H H') : Same (del H D) (del H' D) := fun a o e => by
  by_cases h : a = D
  · subst h; unfold del at e; rw [if_pos rfl] at e; cases e
  · rw [del_ne h] at e ⊢; exact s a o e
theorem del_upd {H : Hp} {D : Addr} {o : HO} : del (upd H D o) D = del H D := by
  funext a
  by_cases h : a = D
  · subst h; unfold del; rw [if_pos rfl, if_pos rfl]
  · rw [del_ne h, del_ne h, upd_ne h]
theorem upd_del {H : Hp} {D : Addr} {o : HO} (h : H D = some o) : upd (del H D) D o = H := by
  funext a
  by_cases e : a = D
  · subst e; rw [upd_same, h]
  · rw [upd_ne e, del_ne e]
theorem del_none {H : Hp} {D : Addr} : del H D D = none := by unfold del; rw [if_pos rfl]
/-- what a turn makes joins what stands still -/
theorem gr_turn {F H0 H1 H H' : Hp} {D : Addr} {o : HO} (s0 : Same H0 H1) (s1 : Same H1 H) (s : Same H H') (hD : H D = some o) (n : H1 D = none) : Same (Gr (Gr F H0 H1) H H') (Gr F H0 (del H' D)) := fun a u e => by
  cases q : H a with
  | none =>
    rw [gr_none q] at e
    have hn : a ≠ D := fun z => by subst z; rw [hD] at q; cases q
    rw [gr_none ((s0.trans s1).free q), del_ne hn]; exact e
  | some v =>
    rw [gr_some q] at e
    exact gr_left ((sub_del (s1.trans s) n)) a u e
theorem gr_elt {F H0 H' H3 H4 : Hp} {D : Addr} {o : HO} (s0 : Same H0 H') (s1 : Same H' H3) (s : Same H3 H4) (hD : H3 D = some o) : Same (Gr (Gr F H0 (del H' D)) H3 H4) (Gr F H0 (del H4 D)) := fun a u e => by
  cases q : H3 a with
  | none =>
    rw [gr_none q] at e
    have hn : a ≠ D := fun z => by subst z; rw [hD] at q; cases q
    rw [gr_none ((s0.trans s1).free q), del_ne hn]; exact e
  | some v =>
    rw [gr_some q] at e
    exact gr_left (del_mono (s1.trans s)) a u e

def rdC (S : Sig) (ca : ExA) (W : WX) (K : PySem.W.Frag) (c : C) : TT := fun σ H Q => ∃ F env, Ss K F H env σ ∧ PG ca W H σ (evC S c env) (fun b => ∀ H', Same H H' → Q b H')
abbrev W0 : WX := fun _ _ _ _ => False
theorem _root_.L2.PTs.imp {X : Cx} {e : List Expr} {t t' : TT} (h : PTs X e t) (i : ∀ σ H Q, t' σ H Q → t σ H Q) : PTs X e t' := ⟨fun pins s σ H Q I w => h.run pins s σ H Q I (i _ _ _ w)⟩
theorem sc_nil {S : Sig} {ca : ExA} {W : WX} {X : Cx} : PTs X [] (rdC S ca W X.K .nil) := pts_nil.imp fun σ H Q ⟨F, env, s, p⟩ => by
  rw [evC] at p
  exact p H same_refl
theorem sc_one {S : Sig} {ca : ExA} {W : WX} {X : Cx} {c : C} {e : Expr} (h : PT X e (rdT S ca W X.K c)) : PTs X [e] (rdC S ca W X.K (.cons c .nil)) := (pts_one h).imp fun σ H Q ⟨F, env, s, p⟩ => by
  rw [evC] at p
  exact ⟨F, env, s, p⟩
/-- a new list's reading -/
abbrev WN (K : PySem.W.Frag) (F H : Hp) (Q : VK) (ds : List D) : Prop := ∀ vs H1 p, Same H H1 → H1 p = none → RpL K (Gr F H H1) vs ds → Q (.ref p) (upd H1 p (.lst vs))
/-- a new dict's reading -/
abbrev WD (K : PySem.W.Frag) (F H : Hp) (Q : VK) (kvs : List (D × D)) : Prop := ∀ o H1 p, Same H H1 → H1 p = none → DR K (Gr F H H1) p o kvs → Q (.ref p) (upd H1 p o)
def WO (K : PySem.W.Frag) (F H : Hp) (Q : VK) (d : D) : Prop := (∃ ds, d = .list ds ∧ WN K F H Q ds) ∨ ∃ kvs, d = .dict kvs ∧ WD K F H Q kvs
theorem WO.l {K : PySem.W.Frag} {F H : Hp} {Q : VK} {ds : List D} (h : WO K F H Q (.list ds)) : WN K F H Q ds := by
  rcases h with ⟨_, e, w⟩ | ⟨_, e, _⟩
  · cases e; exact w
  · cases e
theorem WO.d {K : PySem.W.Frag} {F H : Hp} {Q : VK} {kvs : List (D × D)} (h : WO K F H Q (.dict kvs)) : WD K F H Q kvs := by
  rcases h with ⟨_, e, _⟩ | ⟨_, e, w⟩
  · cases e
  · cases e; exact w
def rdN (S : Sig) (ca : ExA) (W : WX) (K : PySem.W.Frag) (c : C) : TE := fun σ H Q => ∃ F env, Ss K F H env σ ∧ PG ca W H σ (ev S false c env) (WO K F H Q)
theorem nox_ok {α : Type} {x : R α} {a : α} (h : x.nox = .ok a) : x = .ok a := by
  cases x <;> cases h
  rfl
theorem nox_noexc {α : Type} {x : R α} {n : Str} : x.nox ≠ .exc n := by
  cases x <;> exact fun z => nomatch z
theorem lcGo_noexc {f : D → R (Option D)} (h : ∀ x n, f x ≠ .exc n) {n : Str} : ∀ xs : List D, lcGo f xs ≠ .exc n
  | [] => fun z => nomatch z
  | x :: xs => by
    rw [lcGo]
    exact bind_noexc (h x n) fun o => bind_noexc (lcGo_noexc h xs) fun r z => nomatch z

section
variable {S : Sig} {ca : ExA} {X : Cx} {W : WX} {tg it cond elt : C} {K : PySem.W.Frag}
def lcF (S : Sig) (tg cond elt : C) (env : Env) (x : D) : R (Option D) :=
  ((bindT tg x (wipeE env (tgVars tg))).bind fun env' => (evC S cond env').bind fun k => match k with | true => (ev S false elt env').bind fun d => .ok (some d) | false => .ok none).nox
theorem lc_read {F H0 : Hp} {env : Env} {σ : L2.St} {Q : VK} {xs all : List D} {vs : List Nat} (ss : Ss K F H0 env σ) (hv : ∀ i ∈ tgVars tg, i ∈ vs) (hw : tgVars tg = vs) (p : lcGo (lcF S tg cond elt env) xs = .ok all) (wn : WN K F H0 Q all)
    {J : It} {H1 : Hp} (s0 : Same H0 H1) (hl : xs.length ≤ lineN) (wk : WalkD K J (Gr F H0 H1) xs) {D : Addr} (hD : H1 D = none) :
    ∃ W : Nat → Nat → Hp → Prop, (∃ m, W 0 m (upd H1 D (.lst []))) ∧ ∀ i m H, W i m H →
      (J.stop i H ∧ Q (.ref D) H) ∨ (J.go i H ∧ ∃ Nx : Hp → Prop, (∀ H', Nx H' → ∃ m', m' < m ∧ W (i + 1) m' H') ∧ ∀ x H', J.yld i H x H' → gOf K tg x (L2.wipe σ vs) H' fun σ2 H2 => L2.wipe σ2 vs = L2.wipe σ vs ∧ rdC S ca W0 K cond σ2 H2 fun b H3 =>
        if b = true then rd S ca W0 K false elt σ2 H3 fun y H4 => ∃ acc, H4 D = some (.lst acc) ∧ acc.length < sizeLine ∧ Nx (upd H4 D (.lst (acc ++ [y]))) else Nx H3) := by
  let Pv : Nat → Hp → Prop := fun i H => ∃ acc rest us, H D = some (.lst us) ∧ Same H1 H ∧ RpL K (Gr F H0 (del H D)) us acc ∧ lcGo (lcF S tg cond elt env) (xs.drop i) = .ok rest ∧ all = acc ++ rest ∧ acc.length ≤ i ∧ i ≤ xs.length
  refine ⟨fun i m H => m = xs.length - i ∧ Pv i H, ⟨xs.length, by simp, [], all, [], upd_same, same_upd hD, .nil, p, rfl, Nat.le_refl _, Nat.zero_le _⟩, ?_⟩
  rintro i m H ⟨rfl, acc, rest, us, hu, s1, ru, e, ea, la, li⟩
  have hf : Same (Gr F H0 H1) H := fun a o z => s1 a o (gr_sub ss.sub s0 a o z)
  obtain ⟨w1, w2⟩ := wk i H hf
  by_cases hi : i < xs.length
  · obtain ⟨go, yl⟩ := w1 hi
    refine .inr ⟨go, Pv (i + 1), fun H' q => ⟨_, by omega, rfl, q⟩, fun x' H' y => ?_⟩
    obtain ⟨s2, x, hx, rx⟩ := yl x' H' y
    have ex : xs[i] = x := by rw [List.getElem?_eq_getElem hi] at hx; exact Option.some.inj hx
    rw [List.drop_eq_getElem_cons hi, ex, lcGo] at e
    obtain ⟨o, e1, e⟩ := bind_ok e
    obtain ⟨r', e2, e3⟩ := bind_ok e
    have e1 := nox_ok e1
    obtain ⟨env', b1, e1⟩ := bind_ok e1
    obtain ⟨k, b2, e1⟩ := bind_ok e1
    have sH' : Same H0 (del H' D) := fun a o z => sub_del (s1.trans s2) hD a o (s0 a o z)
    have ss' : Ss K (Gr F H0 (del H' D)) H' env σ := (ss.growF sH').grow del_sub
    have rx' := Rp.mono (gr_turn (F := F) s0 s1 s2 hu hD) rx
    rw [hw] at b1
    refine bindT_ok (vs := vs) b1 rx' (ss'.wipe vs) hv fun σ2 ss2 ew => ⟨ew.trans wipe_wipe, Gr F H0 (del H' D), env', ss2, ?_⟩
    rw [b2]
    intro H3 s3
    have hu3 : H3 D = some (.lst us) := s3 _ _ (s2 _ _ hu)
    cases k with
    | false =>
      cases e1
      refine iteF ⟨acc, rest, us, hu3, (s1.trans s2).trans s3, RpL.mono (gr_left (del_mono (s2.trans s3))) ru, ?_, ea, by omega, by omega⟩
      rw [e2]
      cases e3
      rfl
    | true =>
      obtain ⟨d, b3, e1⟩ := bind_ok e1
      cases e1
      cases e3
      refine iteT ⟨Gr F H0 (del H' D), env', ss2.grow s3, ?_⟩
      rw [b3]
      intro y H4 s4 ry
      have ry : Rp K (Gr (Gr F H0 (del H' D)) H3 H4) y d := ry
      refine ⟨us, s4 _ _ hu3, by rw [ru.length, ← lineN_eq]; omega, acc ++ [d], r', us ++ [y], upd_same, ?_, ?_, e2, by rw [ea]; simp, by rw [List.length_append]; simp; omega, by omega⟩
      · exact fun a o z => by rw [upd_ne (ne_of_none z hD)]; exact ((s1.trans s2).trans s3 |>.trans s4) a o z
      · rw [del_upd]
        exact RpL.app (RpL.mono (gr_left (del_mono ((s2.trans s3).trans s4))) ru) (.cons (Rp.mono (gr_elt ((s0.trans s1).trans s2) s3 s4 hu3) ry) .nil)
  · have hi : i = xs.length := by omega
    refine .inl ⟨w2 hi, ?_⟩
    rw [hi, List.drop_length] at e
    cases e
    have ea : all = acc := by rw [ea, List.append_nil]
    subst ea
    have q := wn us (del H D) D (fun a o z => sub_del s1 hD a o (s0 a o z)) del_none ru
    rw [upd_del hu] at q
    exact q
theorem rd_lcN {σ : L2.St} {H : Hp} {Q : VK} {vs : List Nat} (hw : tgVars tg = vs) (h : rdN S ca W K (.lc tg it cond elt) σ H Q) : tLc (rdI S ca W K it) (gOf K tg) (rdC S ca W0 K cond) (rd S ca W0 K false elt) vs σ H Q := by
  obtain ⟨F, env, ss, p⟩ := h
  rw [ev] at p
  refine ⟨F, env, ss, p.of_bind.imp fun xs p J H1 s0 hl wk D hD => ?_⟩
  have p : PG ca W H σ (lcGo (lcF S tg cond elt env) xs) (fun a => PG ca W H σ (R.ok (PyData.list a)) (WO K F H Q)) := p.of_bind
  cases e : lcGo (lcF S tg cond elt env) xs with
  | ok all =>
    rw [e] at p
    have wn := WO.l (show WO K F H Q (.list all) from p)
    exact lc_read ss (fun i hi => hw ▸ hi) hw e wn s0 hl wk hD
  | exc n => exact (lcGo_noexc (fun x n => nox_noexc) xs e).elim
  | bad => rw [e] at p; exact p.elim
/-- a new list's expression read as any -/
theorem rd_n {t : Bool} {c : C} {σ : L2.St} {H : Hp} {Q : VK} (hl : ∀ t env d, ev S t c env = .ok d → ∃ ds, d = .list ds) (ht : ∀ env, ev S false c env = ev S t c env) (h : rd S ca W K t c σ H Q) : rdN S ca W K c σ H Q := by
  obtain ⟨F, env, ss, p⟩ := h
  refine ⟨F, env, ss, ?_⟩
  rw [ht]
  cases e : ev S t c env with
  | ok d =>
    obtain ⟨ds, rfl⟩ := hl t env d e
    rw [e] at p
    exact .inl ⟨ds, rfl, fun vs H1 q s n r => WB.n ss.sub p s n r⟩
  | exc n => rw [e] at p; exact p
  | bad => rw [e] at p; exact p
theorem lc_isL {t : Bool} {env : Env} {d : D} (e : ev S t (.lc tg it cond elt) env = .ok d) : ∃ ds, d = .list ds := by
  rw [ev] at e
  obtain ⟨xs, _, e⟩ := bind_ok e
  obtain ⟨ds, _, e⟩ := bind_ok e
  cases e
  exact ⟨ds, rfl⟩

variable {etg eit eelt : Expr} {ifs : List Expr} {scope : Scope} {own : List (Str × Nat)} {pos : Pos}
theorem sn_lc (hc : X.calm = true) (hN : X.N.Nodup) (hi : PI X etg eit (rdI S ca W X.K it)) (ok : BlkOk X.N X.env.scope scope own) (hw : tgVars tg = own.map (·.2))
    (hg : ∀ (s : Shared) (H : Hp) (C : Addr) (cl : List (Str × Addr)) (fp : List Addr), L2.PG (X.blk s H scope (compEnvC scope cl C X.env) fp) etg (gOf X.K tg))
    (ht : ∀ (s : Shared) (H : Hp) (C : Addr) (cl : List (Str × Addr)) (fp : List Addr), PTs (X.blk s H scope (compEnvC scope cl C X.env) fp) ifs (rdC S ca W0 X.K cond))
    (he : ∀ (s : Shared) (H : Hp) (C : Addr) (cl : List (Str × Addr)) (fp : List Addr), PE (X.blk s H scope (compEnvC scope cl C X.env) fp) eelt (rd S ca W0 X.K false elt)) (hs : ∀ x, foldedSetIterable eit X.env x = pure x) :
    PE X (.ListComp eelt [⟨etg, eit, ifs, 0⟩] scope pos) (rdN S ca W X.K (.lc tg it cond elt)) :=
  (pe_lc hc hN hi ok hg ht he hs).imp fun σ H Q h => rd_lcN hw h
theorem se_lc {t : Bool} (h : PE X (.ListComp eelt [⟨etg, eit, ifs, 0⟩] scope pos) (rdN S ca W X.K (.lc tg it cond elt))) : PE X (.ListComp eelt [⟨etg, eit, ifs, 0⟩] scope pos) (rd S ca W X.K t (.lc tg it cond elt)) :=
  h.imp fun σ H Q h => rd_n (fun t env d e => lc_isL e) (fun env => by rw [ev, ev]) h
end
end Rf

set_option Elab.async false
set_option linter.all false
set_option maxHeartbeats 1000000
/-! Rf, part Q: a call by a list of defs; sorted. -/
namespace Rf
open PySem PySem.Spec PyProof.Rows L2
section
variable {S : Sig} {ca : ExA} {W : WX} {X : Cx} {t : Bool} {a b k : C} {ea eb ek : Expr} {es ns : List Expr} {fs : List Str} {pos p0 p1 : Pos}
theorem se_sorted {x : Str} {p : Pos} (hx : x = "sorted") (hc : X.calm = true) (hu : X.A.units + 65 < cLine) (hg : Gl X x) (hm : X.mg x = none) (ha : PA X (ea :: es) (rdA S ca W X.K true a)) (hs : (ea :: es).all notStar = true) :
    PE X (.Call (.Name x p) (ea :: es) [] pos) (rd S ca W X.K t (.bi .sorted a)) := by
  subst hx
  rw [List.all_cons, Bool.and_eq_true] at hs
  exact L2.PE.imp (t := tCB (rBI X.K .sorted) (rdA S ca W X.K true a)) (pe_callB (cr_sortD hc hu) hg hm (by decide +kernel) ha (by decide) (by decide) (star_cons hs.1) (star_any hs.2)) fun σ H Q h => rd_bi h
def nsOk : List Expr → List Str → Bool
  | [], [] => true
  | .Name y _ :: es, f :: fs => decide (y = f) && nsOk es fs
  | _, _ => false
def tRf : List Addr → TA
  | [] => tNil
  | a :: r => tCons (tC (.ref a)) (tRf r)
theorem tRf_of {σ : L2.St} {H : Hp} : ∀ {as : List Addr} {Q : List V → Hp → Prop}, Q (as.map V.ref) H → tRf as σ H Q
  | [], _, q => q
  | a :: r, Q, q => tRf_of (as := r) (Q := fun vs H1 => Q (V.ref a :: vs) H1) q
/-- what is known of a def that may be called -/
def CalF (X : Cx) (S : Sig) (ca : ExA) (n : Nat) (f : Str) (fa : Addr) : Prop := X.mg f = some (.ref fa) ∧ PySem.W.keepIn X.K (.ref fa) = true ∧ ∃ k fd ps, FnOk X.prog X.w X.K X.mg X.base (L2.CX X.prog X.w) k fa fd ps (spD X.K S ca f n) ∧ Room k X.A ∧ Binds X.K fd ps []
theorem refs_of {n : Nat} : ∀ {ns : List Expr} {fs : List Str}, nsOk ns fs = true → (∀ f ∈ fs, (Gl X f ∧ (f == ("__debug__" : Str)) = false) ∧ ∃ fa, CalF X S ca n f fa) →
    ∃ as : List Addr, PA X ns (tRf as) ∧ as.length = fs.length ∧ ∀ (j : Nat) f, fs[j]? = some f → ∃ fa, as[j]? = some fa ∧ CalF X S ca n f fa
  | [], [], _, _ => ⟨[], pa_nil, rfl, fun j f z => by cases z⟩
  | .Name y p :: es, f :: fs, o, h => by
    have o : (decide (y = f) && nsOk es fs) = true := o
    rw [Bool.and_eq_true] at o
    have e := of_decide_eq_true o.1
    subst e
    obtain ⟨⟨h1, h2⟩, fa, h3⟩ := h y (List.mem_cons_self ..)
    obtain ⟨as, i1, i2, i3⟩ := refs_of o.2 fun f hf => h f (List.mem_cons_of_mem _ hf)
    refine ⟨fa :: as, pa_cons (pe_glob h1 h3.1 rfl h2) i1 rfl, by simp [i2], fun j g z => ?_⟩
    cases j with
    | zero => cases z; exact ⟨fa, rfl, h3⟩
    | succ j => exact i3 j g z
theorem pickF_noexc {d : D} {n : Str} : pickF fs d ≠ .exc n := by
  intro h
  cases d with
  | int i =>
    unfold pickF at h
    dsimp only at h
    split at h <;> cases h
  | _ => cases h
theorem se_calls {n : Nat} (o : nsOk ns fs = true) (hf : ∀ f ∈ fs, (Gl X f ∧ (f == ("__debug__" : Str)) = false) ∧ ∃ fa, CalF X S ca n f fa) (hz : fs.length ≤ 1000) (hk : PE X ek (rd S ca W X.K true k)) (hp : PlainIx ek) (tk : Takes X W)
    (ha : PA X (ea :: es) (rdA S ca W X.K false a)) (hn : cLen a = n) (hs : (ea :: es).all notStar = true) : PE X (.Call (.Subscript (.List ns p0) ek p1) (ea :: es) [] pos) (rd S ca W X.K t (.calls fs k a)) := by
  rw [List.all_cons, Bool.and_eq_true] at hs
  obtain ⟨as, i1, i2, i3⟩ := refs_of o hf
  have fe := pe_ix (pos := p1) ix_list (pe_lst (pos := p0) i1) hk hp
  refine ⟨fun pins s σ H Q I ⟨F, env, ss, p⟩ => ?_⟩
  rw [ev] at p
  refine Call_ (thn (fe.run pins s σ H (fun v H1 => ∃ fa f, v = V.ref fa ∧ Same H H1 ∧ CalF X S ca n f fa ∧ PG ca W H1 σ ((evs S false a env).bind fun ds => S.cl f ds) (WB t X.K F H Q)) I ?_) fun u s1 ⟨v, H1, I1, r1, fa, f, ev1, s01, cf, p⟩ => ?_)
  · refine tRf_of ⟨by rw [List.length_map, i2]; exact Nat.le_trans hz (by decide), fun l hl => ?_⟩
    have s1 := same_upd (o := .lst (as.map V.ref)) hl
    refine ⟨F, env, ss.grow s1, p.of_bind.go s1 fun d p y H2 s2 ry => ?_⟩
    cases q : pickF fs d with
    | exc n => exact (pickF_noexc q).elim
    | bad => rw [q] at p; exact p.elim
    | ok f =>
      rw [q] at p
      cases d with
      | int i =>
        unfold pickF at q
        dsimp only at q
        cases c : L2.atI fs i with
        | none => rw [c] at q; cases q
        | some g =>
          rw [c] at q
          cases q
          unfold L2.atI at c
          cases c2 : ixN fs.length i with
          | none => rw [c2] at c; cases c
          | some j =>
            rw [c2] at c
            obtain ⟨fa, h1, h2⟩ := i3 j f c
            refine ⟨l, as.map V.ref, i, .ref fa, rfl, ry, .of (s2 _ _ upd_same), ?_, fa, f, rfl, s1.trans s2, h2, ?_⟩
            · unfold L2.atI
              rw [List.length_map, i2, c2]
              show (as.map V.ref)[j]? = _
              rw [List.getElem?_map, h1]; rfl
            · have p : PG ca W H σ ((evs S false a env).bind fun ds => S.cl f ds) (WB t X.K F H Q) := p
              exact p.later (s1.trans s2)
      | _ => cases q
  · subst ev1
    cases r1
    obtain ⟨_, kp, kk, fd, ps, Fn, hr, hb⟩ := cf
    have hrd : tCallS (spD X.K S ca f n) (WE W) (rdA S ca W X.K false a) σ H1 Q := by
      have p2 : rd S ca W X.K t (.call f a) σ H1 Q := by
        refine ⟨Gr F H H1, env, ss.growF s01, ?_⟩
        rw [ev]
        exact p.imp fun d q v H' s2 r => q v H' (s01.trans s2) (RpB.mono r (gr_gr s01 s2) same_refl)
      exact rd_call p2 fun env ds e => by rw [evs_len e]; exact hn
    refine PySem.W.callWith_K (h₀ := X.base) I1.ok.mod.kin kp (thn (ha.run pos pins s1 σ H1 _ I1 hrd) fun us s2 ⟨vs, H2, I2, r, q⟩ => ⟨I2.kIn, ?_⟩) (star_cons hs.1) (star_any hs.2)
    exact run_fnS Fn hr hb (passAt tk σ) I2 r q
end
end Rf

set_option Elab.async false
set_option linter.all false
set_option maxHeartbeats 1000000
/-! Rf, part S: statements. -/
namespace Rf
open PySem PySem.Spec PyProof.Rows L2

/-- the frame within a def that began at F0, H0 -/
structure Fr (K : PySem.W.Frag) (L F0 H0 F H : Hp) (env : Env) (σ : L2.St) : Prop where
  ss : Ss K F H env σ
  old : Same H0 H
  bnd : Same F (Gr F0 H0 H)
  own : ∀ (i : Nat) (d : D) (a : Addr), env[i]? = some (some (true, d)) → σ[i]? = some (some (.ref a)) → H0 a = none
  low : Same L F
section
variable {K : PySem.W.Frag} {L F0 H0 F H H' : Hp} {env : Env} {σ : L2.St}
theorem Fr.grow (h : Fr K L F0 H0 F H env σ) (s : Same H H') : Fr K L F0 H0 F H' env σ := ⟨h.ss.grow s, h.old.trans s, fun a o e => gr_left s a o (h.bnd a o e), h.own, h.low⟩
theorem gr_base (h : Fr K L F0 H0 F H env σ) (s : Same H H') : Same (Gr F H H') (Gr F0 H0 H') := fun a o e => by
  cases q : H a with
  | none => rw [gr_none q] at e; rw [gr_none (h.old.free q)]; exact e
  | some u => rw [gr_some q] at e; exact gr_left s a o (h.bnd a o e)
theorem Fr.growF (h : Fr K L F0 H0 F H env σ) (s : Same H H') : Fr K L F0 H0 (Gr F H H') H' env σ := ⟨h.ss.growF s, h.old.trans s, gr_base h s, h.own, h.low.trans (gr_F h.ss.sub)⟩
theorem Fr.set {i : Nat} {d : D} {v : V} (h : Fr K L F0 H0 F H env σ) (r : Rp K F v d) : Fr K L F0 H0 F H (env.set i (some (false, d))) (σ.set i (some v)) := by
  refine ⟨h.ss.set r, h.old, h.bnd, fun j e a e1 e2 => ?_, h.low⟩
  have n1 : i ≠ j := fun q => by
    subst q
    by_cases hl : i < env.length
    · rw [List.getElem?_set_self hl] at e1; cases e1
    · rw [List.getElem?_eq_none (by rw [List.length_set]; omega)] at e1; cases e1
  rw [List.getElem?_set_ne n1] at e1 e2
  exact h.own j e a e1 e2
/-- a slot takes a new list as its own -/
theorem Fr.setO {i : Nat} {d : D} {o : HO} {p : Addr} (h : Fr K L F0 H0 F H env σ) (hp : H p = none) (r : OR K F p o d) : Fr K L F0 H0 F (upd H p o) (env.set i (some (true, d))) (σ.set i (some (.ref p))) := by
  have s := same_upd (o := o) hp
  have h' := h.grow s
  have hFp : F p = none := h.ss.sub.free hp
  refine ⟨⟨h'.ss.sub, by rw [List.length_set, List.length_set]; exact h.ss.len, fun j b e => ?_, fun j k dj dk a hjk e1 e2 e3 e4 => ?_⟩, h'.old, h'.bnd, fun j e a e1 e2 => ?_, h.low⟩
  · by_cases hj : i = j
    · subst hj
      have hl : i < env.length := by
        have := (List.getElem?_eq_some_iff.mp e).1
        rwa [List.length_set] at this
      rw [List.getElem?_set_self hl] at e
      cases e
      exact ⟨some (.ref p), List.getElem?_set_self (by rw [h.ss.len]; exact hl), p, o, rfl, hFp, upd_same, r⟩
    · rw [List.getElem?_set_ne hj] at e
      obtain ⟨v', h1, h2⟩ := h'.ss.slot j b e
      exact ⟨v', by rw [List.getElem?_set_ne hj]; exact h1, h2⟩
  · have old : ∀ {m : Nat} {dm : D}, i ≠ m → (env.set i (some (true, d)))[m]? = some (some (true, dm)) → (σ.set i (some (.ref p)))[m]? = some (some (.ref a)) → a ≠ p := fun {m dm} hm q1 q2 => by
      rw [List.getElem?_set_ne hm] at q1 q2
      obtain ⟨v, h1, h2⟩ := h.ss.slot m _ q1
      rw [q2] at h1; cases h1
      obtain ⟨a', us, q, _, h3, _⟩ := h2
      cases q
      exact ne_of_none h3 hp
    by_cases hj : i = j
    · subst hj
      by_cases hl : i < σ.length
      · rw [List.getElem?_set_self hl] at e3
        cases e3
        exact old hjk e2 e4 rfl
      · rw [List.getElem?_eq_none (by rw [List.length_set]; omega)] at e3; cases e3
    · by_cases hk : i = k
      · subst hk
        by_cases hl : i < σ.length
        · rw [List.getElem?_set_self hl] at e4
          cases e4
          exact old hj e1 e3 rfl
        · rw [List.getElem?_eq_none (by rw [List.length_set]; omega)] at e4; cases e4
      · rw [List.getElem?_set_ne hj] at e1 e3
        rw [List.getElem?_set_ne hk] at e2 e4
        exact h.ss.apart j k dj dk a hjk e1 e2 e3 e4
  · by_cases hj : i = j
    · subst hj
      by_cases hl : i < σ.length
      · rw [List.getElem?_set_self hl] at e2
        cases e2
        exact h.old.free hp
      · rw [List.getElem?_eq_none (by rw [List.length_set]; omega)] at e2; cases e2
    · rw [List.getElem?_set_ne hj] at e1 e2
      exact h.own j e a e1 e2
theorem Fr.setN {i : Nat} {ds : List D} {vs : List V} {p : Addr} (h : Fr K L F0 H0 F H env σ) (hp : H p = none) (r : RpL K F vs ds) : Fr K L F0 H0 F (upd H p (.lst vs)) (env.set i (some (true, .list ds))) (σ.set i (some (.ref p))) :=
  h.setO hp ⟨vs, rfl, r⟩
/-- the own object of a slot is written -/
theorem Fr.writeO {i : Nat} {d0 d1 : D} {u : HO} {p : Addr} (h : Fr K L F0 H0 F H env σ) (e : env[i]? = some (some (true, d0))) (eσ : σ[i]? = some (some (.ref p))) (r : OR K F p u d1) :
    Fr K L F0 H0 F (upd H p u) (env.set i (some (true, d1))) σ := by
  have hFp : F p = none := by
    obtain ⟨v, h1, h2⟩ := h.ss.slot i _ e
    rw [eσ] at h1; cases h1
    obtain ⟨a, ws, q, f, _⟩ := h2
    cases q
    exact f
  have hl : i < env.length := (List.getElem?_eq_some_iff.mp e).1
  have hH0 : H0 p = none := h.own i _ p e eσ
  have env_at : ∀ {j : Nat} {b : Option (Bool × D)}, (env.set i (some (true, d1)))[j]? = some b → (i = j ∧ b = some (true, d1)) ∨ (i ≠ j ∧ env[j]? = some b) := fun {j b} q => by
    by_cases hj : i = j
    · subst hj
      rw [List.getElem?_set_self hl] at q
      cases q
      exact .inl ⟨rfl, rfl⟩
    · rw [List.getElem?_set_ne hj] at q
      exact .inr ⟨hj, q⟩
  refine ⟨⟨fun a o q => ?_, by rw [List.length_set]; exact h.ss.len, fun j b q => ?_, fun j k dj dk a hjk e1 e2 e3 e4 => ?_⟩, fun a o q => ?_, fun a o q => ?_, fun j d a e1 e2 => ?_, h.low⟩
  · rw [upd_ne (ne_of_none q hFp)]; exact h.ss.sub a o q
  · rcases env_at q with ⟨rfl, rfl⟩ | ⟨hj, q⟩
    · exact ⟨_, eσ, p, u, rfl, hFp, upd_same, r⟩
    · obtain ⟨v, h1, h2⟩ := h.ss.slot j b q
      refine ⟨v, h1, ?_⟩
      match b, v, h2 with
      | none, _, _ => trivial
      | some (false, d), some v, h2 => exact h2
      | some (true, ws), some v, h2 =>
        obtain ⟨a, ys, rfl, f, h3, r3⟩ := h2
        have na : a ≠ p := fun z => by subst z; exact h.ss.apart i j _ _ _ hj e q eσ h1
        exact ⟨a, ys, rfl, f, by rw [upd_ne na]; exact h3, r3⟩
  · have get : ∀ {m : Nat} {d : D}, (env.set i (some (true, d1)))[m]? = some (some (true, d)) → ∃ d', env[m]? = some (some (true, d')) := fun {m d} q => by
      rcases env_at q with ⟨rfl, _⟩ | ⟨_, q⟩
      · exact ⟨_, e⟩
      · exact ⟨_, q⟩
    obtain ⟨d1, q1⟩ := get e1
    obtain ⟨d2, q2⟩ := get e2
    exact h.ss.apart j k d1 d2 a hjk q1 q2 e3 e4
  · rw [upd_ne (ne_of_none q hH0)]; exact h.old a o q
  · have := h.bnd a o q
    have na : a ≠ p := fun z => by subst z; rw [hFp] at q; cases q
    cases q0 : H0 a with
    | none => rw [gr_none q0] at this ⊢; rw [upd_ne na]; exact this
    | some u => rw [gr_some q0] at this ⊢; exact this
  · rcases env_at e1 with ⟨rfl, _⟩ | ⟨_, e1⟩
    · exact h.own _ _ a e e2
    · exact h.own j d a e1 e2
theorem Fr.write {i : Nat} {ds es : List D} {vs us : List V} {p : Addr} (h : Fr K L F0 H0 F H env σ) (e : env[i]? = some (some (true, .list ds))) (eσ : σ[i]? = some (some (.ref p))) (hp : H p = some (.lst vs)) (r : RpL K F us es) :
    Fr K L F0 H0 F (upd H p (.lst us)) (env.set i (some (true, .list es))) σ := h.writeO e eσ ⟨us, rfl, r⟩
/-- a slot's own list stands still from here on -/
theorem Fr.freezeO {i : Nat} {d : D} {o : HO} {p : Addr} (h : Fr K L F0 H0 F H env σ) (q : env[i]? = some (some (true, d))) (h1 : σ[i]? = some (some (.ref p))) (f : F p = none) (h3 : H p = some o) (r : ∀ G : Hp, Same F G → G p = some o → Rp K G (.ref p) d) : Fr K L F0 H0 (upd F p o) H (env.set i (some (false, d))) σ := by
  have hl : i < env.length := (List.getElem?_eq_some_iff.mp q).1
  have hH0 : H0 p = none := h.own i _ p q h1
  have sF : Same F (upd F p o) := same_upd f
  have env_at : ∀ {j : Nat} {b : Option (Bool × D)}, (env.set i (some (false, d)))[j]? = some b → (i = j ∧ b = some (false, d)) ∨ (i ≠ j ∧ env[j]? = some b) := fun {j b} q => by
    by_cases hj : i = j
    · subst hj
      rw [List.getElem?_set_self hl] at q
      cases q
      exact .inl ⟨rfl, rfl⟩
    · rw [List.getElem?_set_ne hj] at q
      exact .inr ⟨hj, q⟩
  have own_at : ∀ {j : Nat} {e : D}, (env.set i (some (false, d)))[j]? = some (some (true, e)) → i ≠ j ∧ env[j]? = some (some (true, e)) := fun {j e} q => by
    rcases env_at q with ⟨_, z⟩ | z
    · cases z
    · exact z
  refine ⟨⟨fun a u z => ?_, by rw [List.length_set]; exact h.ss.len, fun j b z => ?_, fun j k dj dk a hjk e1 e2 e3 e4 => ?_⟩, h.old, fun a u z => ?_, fun j d a e1 e2 => ?_, h.low.trans sF⟩
  · by_cases ha : a = p
    · subst ha; rw [upd_same] at z; cases z; exact h3
    · rw [upd_ne ha] at z; exact h.ss.sub a u z
  · rcases env_at z with ⟨rfl, rfl⟩ | ⟨hj, z⟩
    · exact ⟨_, h1, r _ sF upd_same⟩
    · obtain ⟨v, g1, g2⟩ := h.ss.slot j b z
      refine ⟨v, g1, ?_⟩
      match b, v, g2 with
      | none, _, _ => trivial
      | some (false, d), some v, g2 => exact Rp.mono sF g2
      | some (true, ws), some v, g2 =>
        obtain ⟨a, ys, rfl, f2, g3, r3⟩ := g2
        have na : a ≠ p := fun y => by subst y; exact h.ss.apart i j _ _ _ hj q z h1 g1
        exact ⟨a, ys, rfl, by rw [upd_ne na]; exact f2, g3, r3.mono sF⟩
  · obtain ⟨_, e1⟩ := own_at e1
    obtain ⟨_, e2⟩ := own_at e2
    exact h.ss.apart j k dj dk a hjk e1 e2 e3 e4
  · by_cases ha : a = p
    · subst ha; rw [upd_same] at z; cases z; rw [gr_none hH0]; exact h3
    · rw [upd_ne ha] at z; exact h.bnd a u z
  · exact h.own j d a (own_at e1).2 e2
/-- an own object is changed in its nature alone -/
theorem Fr.recast {i : Nat} {d : D} {o u : HO} {p : Addr} (h : Fr K L F0 H0 F H env σ) (q : env[i]? = some (some (true, d))) (h1 : σ[i]? = some (some (.ref p))) (f : F p = none) : Fr K L F0 H0 F (upd H p u) (env.set i none) σ := by
  have hl : i < env.length := (List.getElem?_eq_some_iff.mp q).1
  have hH0 : H0 p = none := h.own i _ p q h1
  have env_at : ∀ {j : Nat} {b : Option (Bool × D)}, (env.set i none)[j]? = some b → (i = j ∧ b = none) ∨ (i ≠ j ∧ env[j]? = some b) := fun {j b} q => by
    by_cases hj : i = j
    · subst hj
      rw [List.getElem?_set_self hl] at q
      cases q
      exact .inl ⟨rfl, rfl⟩
    · rw [List.getElem?_set_ne hj] at q
      exact .inr ⟨hj, q⟩
  have own_at : ∀ {j : Nat} {e : D}, (env.set i none)[j]? = some (some (true, e)) → i ≠ j ∧ env[j]? = some (some (true, e)) := fun {j e} q => by
    rcases env_at q with ⟨_, z⟩ | z
    · cases z
    · exact z
  refine ⟨⟨fun a u z => ?_, by rw [List.length_set]; exact h.ss.len, fun j b z => ?_, fun j k dj dk a hjk e1 e2 e3 e4 => ?_⟩, fun a u z => ?_, fun a u z => ?_, fun j d a e1 e2 => ?_, h.low⟩
  · rw [upd_ne (ne_of_none z f)]; exact h.ss.sub a u z
  · rcases env_at z with ⟨rfl, rfl⟩ | ⟨hj, z⟩
    · exact ⟨_, h1, trivial⟩
    · obtain ⟨v, g1, g2⟩ := h.ss.slot j b z
      refine ⟨v, g1, ?_⟩
      match b, v, g2 with
      | none, _, _ => trivial
      | some (false, d), some v, g2 => exact g2
      | some (true, ws), some v, g2 =>
        obtain ⟨a, ys, rfl, f2, g3, r3⟩ := g2
        have na : a ≠ p := fun y => by subst y; exact h.ss.apart i j _ _ _ hj q z h1 g1
        exact ⟨a, ys, rfl, f2, by rw [upd_ne na]; exact g3, r3⟩
  · obtain ⟨_, e1⟩ := own_at e1
    obtain ⟨_, e2⟩ := own_at e2
    exact h.ss.apart j k dj dk a hjk e1 e2 e3 e4
  · rw [upd_ne (ne_of_none z hH0)]; exact h.old a u z
  · have q := h.bnd a u z
    have na : a ≠ p := fun y => by subst y; rw [f] at z; cases z
    cases q0 : H0 a with
    | none => rw [gr_none q0] at q ⊢; rw [upd_ne na]; exact q
    | some u => rw [gr_some q0] at q ⊢; exact q
  · exact h.own j d a (own_at e1).2 e2
/-- an object that no slot owns stands still -/
theorem Fr.adopt {o : HO} {p : Addr} (h : Fr K L F0 H0 F H env σ) (f : F p = none) (hH0 : H0 p = none) (h3 : H p = some o) (no : ∀ (j : Nat) (d : D), env[j]? = some (some (true, d)) → σ[j]? = some (some (.ref p)) → False) : Fr K L F0 H0 (upd F p o) H env σ := by
  have sF : Same F (upd F p o) := same_upd f
  refine ⟨⟨fun a u z => ?_, h.ss.len, fun j b z => ?_, h.ss.apart⟩, h.old, fun a u z => ?_, h.own, h.low.trans sF⟩
  · by_cases ha : a = p
    · subst ha; rw [upd_same] at z; cases z; exact h3
    · rw [upd_ne ha] at z; exact h.ss.sub a u z
  · obtain ⟨v, g1, g2⟩ := h.ss.slot j b z
    refine ⟨v, g1, ?_⟩
    match b, v, g2 with
    | none, _, _ => trivial
    | some (false, d), some v, g2 => exact Rp.mono sF g2
    | some (true, ws), some v, g2 =>
      obtain ⟨a, ys, rfl, f2, g3, r3⟩ := g2
      have na : a ≠ p := fun y => by subst y; exact no j _ z g1
      exact ⟨a, ys, rfl, by rw [upd_ne na]; exact f2, g3, r3.mono sF⟩
  · by_cases ha : a = p
    · subst ha; rw [upd_same] at z; cases z; rw [gr_none hH0]; exact h3
    · rw [upd_ne ha] at z; exact h.bnd a u z
theorem freeze_own {i : Nat} {d : D} (q : env[i]? = some (some (true, d))) : Rf.freeze env i = env.set i (some (false, d)) := by
  unfold Rf.freeze
  rw [q]
/-- a slot's own object stands still from here on -/
theorem Fr.freeze {X : Cx} {pins : List (Addr × Obj)} {s : Shared} {i : Nat} (I : Inv X pins σ H s) (h : Fr X.K L F0 H0 F H env σ) : ∃ F' H', Inv X pins σ H' s ∧ Fr X.K L F0 H0 F' H' (Rf.freeze env i) σ := by
  cases q : env[i]? with
  | none => exact ⟨F, H, I, by unfold Rf.freeze; rw [q]; exact h⟩
  | some b =>
    match b, q with
    | none, q => exact ⟨F, H, I, by unfold Rf.freeze; rw [q]; exact h⟩
    | some (false, d), q =>
      have e : env.set i (some (false, d)) = env := by
        refine List.ext_getElem? fun j => ?_
        by_cases hj : i = j
        · subst hj; rw [List.getElem?_set_self (List.getElem?_eq_some_iff.mp q).1, q]
        · rw [List.getElem?_set_ne hj]
      exact ⟨F, H, I, by unfold Rf.freeze; rw [q]; show Fr X.K L F0 H0 F H (env.set i (some (false, d))) σ; rw [e]; exact h⟩
    | some (true, d), q =>
      obtain ⟨v, h1, h2⟩ := h.ss.slot i _ q
      match v, h2 with
      | some v, h2 =>
        obtain ⟨p, o, rfl, f, h3, r⟩ := h2
        rw [freeze_own q]
        cases d with
        | list ds =>
          obtain ⟨vs, rfl, rl⟩ := r
          exact ⟨_, H, I, h.freezeO q h1 f h3 fun G sG e => .lst (.inl (.inl e)) (RpL.mono sG rl)⟩
        | dict kvs =>
          obtain ⟨ob, I2⟩ := Inv.frzD I h3 r
          have hl : i < env.length := (List.getElem?_eq_some_iff.mp q).1
          have hH0 : H0 p = none := h.own i _ p q h1
          have w := h.recast (o := o) (u := .frz ob o) q h1 f
          have w2 := w.adopt f hH0 upd_same fun j e a1 a2 => by
            by_cases hj : i = j
            · subst hj; rw [List.getElem?_set_self hl] at a1; cases a1
            · rw [List.getElem?_set_ne hj] at a1
              exact h.ss.apart i j _ _ _ hj q a1 h1 a2
          have sF : Same F (upd F p (.frz ob o)) := same_upd f
          obtain ⟨kv, ks, vv, ds, d1, d2, d3, d4⟩ := r
          have w3 := w2.set (i := i) (v := .ref p) (d := .dict kvs) (.dic upd_same d1 (RpL.mono sF d2) (RpL.mono sF d3) d4)
          have e1 : (env.set i none).set i (some (false, .dict kvs)) = env.set i (some (false, .dict kvs)) := List.set_set ..
          have e2 : σ.set i (some (.ref p)) = σ := by
            refine List.ext_getElem? fun j => ?_
            by_cases hj : i = j
            · subst hj; rw [List.getElem?_set_self (List.getElem?_eq_some_iff.mp h1).1, h1]
            · rw [List.getElem?_set_ne hj]
          rw [e1, e2] at w3
          exact ⟨_, _, I2, w3⟩
        | _ => exact r.elim
end

/-! ### what is wanted of a statement's result -/
def SPost (ca : ExA) (W : WX) (K : PySem.W.Frag) (L F0 H0 : Hp) (r : SR) (De : Ends) : Prop := match r with
  | .nx env => ∀ σ F H, Fr K L F0 H0 F H env σ → De.nx σ H
  | .ct env => ∀ σ F H, Fr K L F0 H0 F H env σ → De.ct σ H
  | .bk env => ∀ σ F H, Fr K L F0 H0 F H env σ → De.bk σ H
  | .rt d => ∀ v H, Same H0 H → Rp K (Gr F0 H0 H) v d → De.rt v H
  | .exc n env => ∀ σ F H C, Fr K L F0 H0 F H env σ → ca n = some C → W (.ref C) none σ H
  | .bad => False
def rdS (S : Sig) (fuel : Nat) (ca : ExA) (W : WX) (K : PySem.W.Frag) (L F0 H0 : Hp) (c : C) : TS := fun De σ H => ∃ F env, Fr K L F0 H0 F H env σ ∧ SPost ca W K L F0 H0 (ex S fuel c env) De
section
variable {S : Sig} {fuel : Nat} {ca : ExA} {W : WX} {X : Cx} {L F0 H0 : Hp} {a b c e : C} {ee : Expr} {st : Stmt} {rest : List Stmt} {pos : Pos}
/-- from an expression's result to a statement's -/
theorem toS_pg {α : Type} {K : PySem.W.Frag} {F H : Hp} {env : Env} {σ : L2.St} {r : R α} {f : α → SR} {De : Ends} (fr : Fr K L F0 H0 F H env σ) (p : SPost ca W K L F0 H0 (r.toS env f) De) : PG ca W H σ r fun a => SPost ca W K L F0 H0 (f a) De := by
  cases r with
  | ok a => exact p
  | exc n => exact fun H' C s h => p σ F H' C (fr.grow s) h
  | bad => exact p
theorem ss_skip : PSs X [] (rdS S fuel ca W X.K L F0 H0 .skip) := pss_nil.imp fun De σ H ⟨F, env, fr, p⟩ => by
  rw [ex] at p
  exact p σ F H fr
theorem ss_seq (h1 : PS X st (rdS S fuel ca W X.K L F0 H0 a)) (h2 : PSs X rest (rdS S fuel ca W X.K L F0 H0 b)) : PSs X (st :: rest) (rdS S fuel ca W X.K L F0 H0 (.seq a b)) := by
  refine (pss_cons h1 h2).imp fun De σ H ⟨F, env, fr, p⟩ => ?_
  rw [ex] at p
  refine ⟨F, env, fr, ?_⟩
  cases q : ex S fuel a env with
  | nx env' => rw [q] at p; exact fun σ' F' H' fr' => ⟨F', env', fr', p⟩
  | rt d => rw [q] at p; exact p
  | bk env' => rw [q] at p; exact p
  | ct env' => rw [q] at p; exact p
  | exc n env' => rw [q] at p; exact p
  | bad => rw [q] at p; exact p
theorem ss_fz {i : Nat} (h : PSs X rest (rdS S fuel ca W X.K L F0 H0 a)) : PSs X rest (rdS S fuel ca W X.K L F0 H0 (.fz i a)) := by
  refine ⟨fun pins s σ H De I ⟨F, env, fr, p⟩ => ?_⟩
  rw [ex] at p
  obtain ⟨F', H', I', fr'⟩ := Fr.freeze (i := i) I fr
  exact h.run pins s σ H' De I' ⟨F', _, fr', p⟩
theorem ss_ret (he : PE X ee (rd S ca W X.K false e)) : PS X (.Return (some ee) pos) (rdS S fuel ca W X.K L F0 H0 (.ret e)) := by
  refine (ps_ret he).imp fun De σ H ⟨F, env, fr, p⟩ => ?_
  rw [ex] at p
  refine ⟨F, env, fr.ss, (toS_pg fr p).imp fun d p v H' s r => ?_⟩
  exact p v H' (fr.old.trans s) (Rp.mono (gr_base fr s) r)
theorem rd_exp {De : Ends} {σ : L2.St} {H : Hp} (h : rdS S fuel ca W X.K L F0 H0 (.exp e) De σ H) : tDrop (rd S ca W X.K false e) De σ H := by
  obtain ⟨F, env, fr, p⟩ := h
  rw [ex] at p
  exact ⟨F, env, fr.ss, (toS_pg fr p).imp fun d p v H' s r => p σ F H' (fr.grow s)⟩
theorem ss_exp (he : PE X ee (rd S ca W X.K false e)) (hs : swapsWith ee none pos.line X.env = pure false) : PS X (.Expr ee pos) (rdS S fuel ca W X.K L F0 H0 (.exp e)) :=
  (ps_expr he hs).imp fun De σ H h => rd_exp h
theorem rd_asg {i : Nat} {De : Ends} {σ : L2.St} {H : Hp} (h : rdS S fuel ca W X.K L F0 H0 (.asg i false e) De σ H) : tAsg (rd S ca W X.K false e) (gName i) De σ H := by
  obtain ⟨F, env, fr, p⟩ := h
  rw [ex] at p
  refine ⟨F, env, fr.ss, (toS_pg fr p).imp fun d p v H' s r => ?_⟩
  cases q : decide (i < env.length) with
  | false => rw [q] at p; exact p.elim
  | true => rw [q] at p; exact p _ _ _ ((fr.growF s).set r)
theorem rd_asgN {i : Nat} {De : Ends} {σ : L2.St} {H : Hp} (h : rdS S fuel ca W X.K L F0 H0 (.asg i true e) De σ H) : tAsg (rdN S ca W X.K e) (gName i) De σ H := by
  obtain ⟨F, env, fr, p⟩ := h
  rw [ex] at p
  refine ⟨F, env, fr.ss, (toS_pg fr p).imp fun d p => ?_⟩
  cases q : decide (i < env.length) with
  | false => rw [q] at p; exact p.elim
  | true =>
    rw [q] at p
    cases d with
    | list ds =>
      refine .inl ⟨ds, rfl, fun vs H1 l s n r => ?_⟩
      exact p _ _ _ ((fr.growF s).setN n r)
    | dict kvs =>
      refine .inr ⟨kvs, rfl, fun o H1 l s n r => ?_⟩
      exact p _ _ _ ((fr.growF s).setO n r)
    | _ => exact p.elim
theorem ss_asg {i : Nat} {x : Str} {p' : Pos} (hN : X.N.Nodup) (hi : X.N[i]? = some x) (hx : Loc X.env.scope x) (he : PE X ee (rd S ca W X.K false e)) (hs : swapsWith ee (some (.Name x p')) pos.line X.env = pure false) (hf : X.fn x = true ∨ X.env.scope.names.lookup x = some .local) :
    PS X (.Assign [.Name x p'] ee pos) (rdS S fuel ca W X.K L F0 H0 (.asg i false e)) := (ps_set hN hi hx he hs hf).imp fun De σ H h => rd_asg h
theorem ss_asgN {i : Nat} {x : Str} {p' : Pos} (hN : X.N.Nodup) (hi : X.N[i]? = some x) (hx : Loc X.env.scope x) (he : PE X ee (rdN S ca W X.K e)) (hs : swapsWith ee (some (.Name x p')) pos.line X.env = pure false) (hf : X.fn x = true ∨ X.env.scope.names.lookup x = some .local) :
    PS X (.Assign [.Name x p'] ee pos) (rdS S fuel ca W X.K L F0 H0 (.asg i true e)) := (ps_set hN hi hx he hs hf).imp fun De σ H h => rd_asgN h
theorem ss_if {ec : Expr} {as bs : List Stmt} (hc : PT X ec (rdT S ca W X.K c)) (ha : PSs X as (rdS S fuel ca W X.K L F0 H0 a)) (hb : PSs X bs (rdS S fuel ca W X.K L F0 H0 b)) : PS X (.If ec as bs pos) (rdS S fuel ca W X.K L F0 H0 (.iff c a b)) := by
  refine (ps_if hc ha hb).imp fun De σ H ⟨F, env, fr, p⟩ => ?_
  rw [ex] at p
  refine ⟨F, env, fr.ss, (toS_pg fr p).imp fun k p H1 s1 => ?_⟩
  cases k with
  | true => exact iteT ⟨F, env, fr.grow s1, p⟩
  | false => exact iteF ⟨F, env, fr.grow s1, p⟩
end
end Rf

set_option Elab.async false
set_option linter.all false
set_option maxHeartbeats 1000000
/-! Rf, part S2: loops, lists that grow, several targets, raise. -/
namespace Rf
open PySem PySem.Spec PyProof.Rows L2

section
variable {K : PySem.W.Frag} {L L' F0 H0 F H H' : Hp} {env : Env} {σ : L2.St} {ca : ExA} {W : WX}
theorem Fr.lower (h : Fr K L F0 H0 F H env σ) (s : Same L' L) : Fr K L' F0 H0 F H env σ := ⟨h.ss, h.old, h.bnd, h.own, s.trans h.low⟩
theorem Fr.raise (h : Fr K L F0 H0 F H env σ) : Fr K F F0 H0 F H env σ := ⟨h.ss, h.old, h.bnd, h.own, same_refl⟩
/-- a turn of a loop -/
theorem SPost.turn {r : SR} {f : Env → SR} {De : Ends} {Nx : L2.St → Hp → Prop} (s : Same L L') (p : SPost ca W K L F0 H0 (r.turn f) De)
    (hN : ∀ env, SPost ca W K L F0 H0 (f env) De → ∀ σ F H, Fr K L' F0 H0 F H env σ → Nx σ H) : SPost ca W K L' F0 H0 r { De with nx := Nx, ct := Nx, bk := De.nx } := by
  cases r with
  | nx env => exact hN env p
  | ct env => exact hN env p
  | bk env => exact fun σ F H fr => p σ F H (fr.lower s)
  | rt d => exact p
  | exc n env => exact fun σ F H C fr e => p σ F H C (fr.lower s) e
  | bad => exact p
end
section
variable {S : Sig} {fuel : Nat} {ca : ExA} {W : WX} {X : Cx} {L F0 H0 : Hp} {a b c e tg it body : C} {ee etg eit : Expr} {st : Stmt} {rest ebody : List Stmt} {pos : Pos}
theorem ss_for (hp : PassesOwn (model X.prog X.w) X.A X.env X.xe) (hc : X.calm = true) (hi : PI X etg eit (rdI S ca W X.K it)) (hg : L2.PG X etg (gOf X.K tg)) (hb : ∀ L, PSs X ebody (rdS S fuel ca W X.K L F0 H0 body))
    (hs : ∀ x, foldedSetIterable eit X.env x = pure x) : PS X (.For etg eit ebody [] pos) (rdS S fuel ca W X.K L F0 H0 (.for_ tg it body)) := by
  refine ⟨fun pins s σ H De I ⟨F, env, fr, p⟩ => ?_⟩
  rw [ex] at p
  -- the loop's own floor: what stands still when it begins
  have p := toS_pg fr p
  cases q : its S it env with
  | bad => rw [q] at p; exact p.elim
  | exc n =>
    rw [q] at p
    -- the walked thing raises
    exact (ps_for hp hc hi hg (hb L) hs).run pins s σ H De I ⟨F, env, fr.ss, by rw [q]; exact p⟩
  | ok xs =>
    rw [q] at p
    -- the floor is chosen behind the making of the iterator; so the body is run by its meaning over any floor
    have hbody : PSs X ebody (fun De σ H => ∃ L, rdS S fuel ca W X.K L F0 H0 body De σ H) := ⟨fun pins s σ H De I ⟨L, w⟩ => (hb L).run pins s σ H De I w⟩
    refine (ps_for hp hc hi hg hbody hs).run pins s σ H De I ⟨F, env, fr.ss, ?_⟩
    rw [q]
    intro J H1 s1 hl wk
    let F1 := Gr F H H1
    have fr1 : Fr X.K F1 F0 H0 F1 H1 env σ := (fr.growF s1).raise
    have sL : Same L F1 := (fr.growF s1).low
    refine ⟨fun i m σ' H' => m = xs.length - i ∧ i ≤ xs.length ∧ ∃ F' env', Fr X.K F1 F0 H0 F' H' env' σ' ∧ SPost ca W X.K L F0 H0 (forGo (fun x env => (bindT tg x env).toS env (ex S fuel body)) (xs.drop i) env') De,
      ⟨xs.length, by simp, Nat.zero_le _, F1, env, fr1, p⟩, ?_⟩
    rintro i m σ' H' ⟨rfl, hi', F', env', fr', p'⟩
    obtain ⟨w1, w2⟩ := wk i H' (fr'.low.trans fr'.ss.sub)
    by_cases hlt : i < xs.length
    · obtain ⟨go, yl⟩ := w1 hlt
      refine .inr ⟨go, fun σ2 H2 => ∃ F2 env2, Fr X.K F1 F0 H0 F2 H2 env2 σ2 ∧ SPost ca W X.K L F0 H0 (forGo (fun x env => (bindT tg x env).toS env (ex S fuel body)) (xs.drop (i + 1)) env2) De,
        fun σ2 H2 n2 => ⟨_, by omega, rfl, hlt, n2⟩, fun x H2 y => ?_⟩
      obtain ⟨s2, d, hd, rx⟩ := yl x H2 y
      have ed : xs[i] = d := by rw [List.getElem?_eq_getElem hlt] at hd; exact Option.some.inj hd
      rw [List.drop_eq_getElem_cons hlt, ed, forGo] at p'
      have fr2 := fr'.growF s2
      -- what the turn gives stands still
      have rx' : Rp X.K (Gr F' H' H2) x d := Rp.mono (fun a o z => by
        cases e : H' a with
        | none => rw [gr_none e] at z ⊢; exact z
        | some u => rw [gr_some e] at z ⊢; exact fr'.low a o z) rx
      cases eb : bindT tg d env' with
      | ok env2 =>
        rw [eb] at p'
        -- the target
        refine bindT_okP (P := Fr X.K F1 F0 H0 (Gr F' H' H2) H2) (fun _ _ _ _ _ h r => h.set r) (vs := tgVars tg) eb rx' fr2.ss.sub fr2 (fun _ h => h) fun σ2 fr3 _ => ?_
        exact ⟨F1, _, env2, fr3, SPost.turn sL p' fun env3 p3 σ3 F3 H3 fr3 => ⟨F3, env3, fr3, p3⟩⟩
      | exc n => exact (bindT_noexc eb).elim
      | bad => rw [eb] at p'; exact p'.elim
    · have hi'' : i = xs.length := by omega
      refine .inl ⟨w2 hi'', ?_⟩
      rw [hi'', List.drop_length, forGo] at p'
      exact p' _ _ _ (fr'.lower sL)
end
end Rf

set_option Elab.async false
set_option linter.all false
set_option maxHeartbeats 1000000
/-! Rf, part S3: while, lists that grow, unpacking, several targets at once, raise. -/
namespace Rf
open PySem PySem.Spec PyProof.Rows L2

section
variable {S : Sig} {fuel : Nat} {ca : ExA} {W : WX} {X : Cx} {L F0 H0 : Hp} {a b c e tg it body : C} {ee etg ec : Expr} {es ts : List Expr} {st : Stmt} {rest ebody : List Stmt} {pos : Pos}
theorem ss_while (hp : PassesOwn (model X.prog X.w) X.A X.env X.xe) (hc : PT X ec (rdT S ca W X.K c)) (hb : ∀ L, PSs X ebody (rdS S fuel ca W X.K L F0 H0 body)) :
    PS X (.While ec ebody [] pos) (rdS S fuel ca W X.K L F0 H0 (.while_ c body)) := by
  refine (ps_while hp hc (hb L)).imp fun De σ H ⟨F, env, fr, p⟩ => ?_
  rw [ex] at p
  have gen : ∀ n : Nat, (∃ F env, Fr X.K L F0 H0 F H env σ ∧ SPost ca W X.K L F0 H0 (whileGo (fun env => (ev S true c env).bind toBool) (ex S fuel body) n env) De) → ∃ Wv : Nat → L2.St → Hp → Prop, (∃ m, Wv m σ H) ∧ ∀ m σ H, Wv m σ H →
      rdT S ca W X.K c σ H fun b H1 => if b = true then ∃ N : L2.St → Hp → Prop, (∀ σ' H', N σ' H' → ∃ m', m' < m ∧ Wv m' σ' H') ∧ rdS S fuel ca W X.K L F0 H0 body { De with nx := N, ct := N, bk := De.nx } σ H1 else De.nx σ H1 := fun n h => by
    refine ⟨fun m σ H => ∃ F env, Fr X.K L F0 H0 F H env σ ∧ SPost ca W X.K L F0 H0 (whileGo (fun env => (ev S true c env).bind toBool) (ex S fuel body) m env) De, ⟨n, h⟩, ?_⟩
    rintro m σ H ⟨F, env, fr, p⟩
    cases m with
    | zero => exact p.elim
    | succ m =>
      rw [whileGo] at p
      refine ⟨F, env, fr.ss, (toS_pg fr p).imp fun k p H1 s1 => ?_⟩
      cases k with
      | false => exact iteF (p _ _ _ (fr.grow s1))
      | true =>
        refine iteT ⟨fun σ' H' => ∃ F env, Fr X.K L F0 H0 F H' env σ' ∧ SPost ca W X.K L F0 H0 (whileGo (fun env => (ev S true c env).bind toBool) (ex S fuel body) m env) De, fun σ' H' q => ⟨m, Nat.lt_succ_self _, q⟩, F, env, fr.grow s1, ?_⟩
        exact SPost.turn same_refl p fun env2 p2 σ2 F2 H2 fr2 => ⟨F2, env2, fr2, p2⟩
  exact gen fuel ⟨F, env, fr, p⟩

/-! ### unpacking -/
theorem ss_unp (he : PE X ee (rd S ca W X.K false e)) (hg : L2.PG X etg (gOf X.K tg)) (hs : swapsWithSole [etg] ee pos.line X.env = pure false) (hw : swappedStores [etg] ee X.env = pure none) (h1 : (assignEach [etg] X.env).map (·.2) = [assign etg X.env]) :
    PS X (.Assign [etg] ee pos) (rdS S fuel ca W X.K L F0 H0 (.unp tg e)) := by
  refine (ps_asg he hg hs hw h1).imp fun De σ H ⟨F, env, fr, p⟩ => ?_
  rw [ex] at p
  refine ⟨F, env, fr.ss, (toS_pg fr p).imp fun d p v H' s r => ?_⟩
  cases eb : bindT tg d env with
  | ok env2 =>
    rw [eb] at p
    exact bindT_okP (P := Fr X.K L F0 H0 (Gr F H H') H') (fun _ _ _ _ _ h r => h.set r) (vs := tgVars tg) eb r (fr.growF s).ss.sub (fr.growF s) (fun _ h => h) fun σ2 fr2 _ => p _ _ _ fr2
  | exc n => exact (bindT_noexc eb).elim
  | bad => rw [eb] at p; exact p.elim

/-! ### x.append(e), x.extend(e) -/
def rExtendD (K : PySem.W.Frag) : V → List V → Hp → VK → Prop := fun x vs H Q => ∃ l b xs zs, x = .ref l ∧ vs = [.ref b] ∧ H l = some (.lst xs) ∧ SqL K H b zs ∧ xs.length + zs.length ≤ sizeLine ∧ Q .non (upd H l (.lst (xs ++ zs)))
theorem m_ext (l : Addr) (items : Array Value) (n : Nat) (b : Addr) (items2 : Array Value) (n2 : Nat) (sl2 : Array (Option Value)) (hc0 : ¬(!items.isEmpty && Builtin.List.listTooLong (items.size + items2.size)) = true) (hc1 : items.size ≤ sizeLine) (hs2 : items.size + items2.size ≤ sizeLine + 1) :
    Meets (Builtin.«list.extend» ⟨[.ref l, .ref b], []⟩) (fun _ R s => s.heap.get? l = some { cls := .type "list", dict := none, data := .seq items n, slots := #[] } ∧ LsAt s.heap b items2 n2 sl2 ∧ R (.ok (.ret Value.none)) { s with heap := s.heap.update l (Obj.mapSeq fun x => x ++ items2), toks := s.toks }) :=
  .of_wp fun prog w A R s h => by
    obtain ⟨hp, g, d, tk, os⟩ := s; obtain ⟨hl, hb, h⟩ := h
    unfold LsAt at hb
    have f1 := AutoSeq1.idx_int; have f2 := AutoSeq1.sub_tuple_tuple; have f3 := AutoSeq1.sub_list_list; have f4 := AutoSeq1.sub_tuple_list; have f5 := AutoSeq1.sub_list_tuple
    have hz' : (items ++ items2).size ≤ sizeLine + 1 := by rw [Array.size_append]; exact hs2
    wp_walk using (wpAny_updateSeq hl rfl (hz := hc1) (_hz' := hz')), AutoSeq1.wpAny_loadPart' hl, AutoSeq1.wpAny_loadPart' hb; exact ⟨_, rfl, h⟩
theorem mt_extendD : MtR X "list.extend" (rExtendD X.K) := by
  intro pins s σ H x vs v us Q I rx rv h
  obtain ⟨l, b, xs, zs, rfl, rfl, hH, hB, hz, q⟩ := h
  cases rx
  obtain ⟨u, rfl, ru⟩ := rv.one
  cases ru
  obtain ⟨z, its, n, r, hl, e⟩ := I.lstM hH
  obtain ⟨z2, its2, n2, sl2, r2, hl2, e2⟩ := Inv.sqM I hB
  have hsz : its.toArray.size + its2.toArray.size ≤ sizeLine := by rw [List.size_toArray, List.size_toArray]; omega
  have hlong : ¬ (!its.toArray.isEmpty && Builtin.List.listTooLong (its.toArray.size + its2.toArray.size)) = true := by
    rw [notLongL hsz, Bool.and_false]
    exact Bool.false_ne_true
  refine call_meets F.slot_list_extend ⟨_, e, rfl⟩ F.entry_list_extend (F.args_list_extend_2 _ _)
    (m_ext l its.toArray n b its2.toArray n2 sl2 hlong (by rw [List.size_toArray]; omega) (by omega)) ⟨e, e2, ?_⟩
  refine ⟨.non, _, I.lset (its' := its ++ its2) hH e (by simp) (r.append r2) ?_, rfl, q⟩
  rw [List.length_append]
  omega
theorem appO_inv {env : Env} {i : Nat} {ds : List D} {De : Ends} {K : PySem.W.Frag} (p : SPost ca W K L F0 H0 (appO env i ds) De) : ∃ xs, env[i]? = some (some (true, .list xs)) ∧ xs.length + ds.length ≤ lineN ∧ SPost ca W K L F0 H0 (.nx (env.set i (some (true, .list (xs ++ ds))))) De := by
  unfold appO at p
  split at p
  · rename_i xs h
    cases q : decide (xs.length + ds.length ≤ lineN) with
    | false => rw [q] at p; exact p.elim
    | true => rw [q] at p; exact ⟨xs, h, of_decide_eq_true q, p⟩
  · exact p.elim
theorem ownL_inv {env : Env} {i : Nat} {r : SR} {De : Ends} {K : PySem.W.Frag} (p : SPost ca W K L F0 H0 (chkS (ownL env i) r) De) : (∃ xs, env[i]? = some (some (true, .list xs))) ∧ SPost ca W K L F0 H0 r De := by
  unfold ownL at p
  split at p
  · rename_i xs h
    exact ⟨⟨xs, h⟩, p⟩
  · exact p.elim
theorem Fr.ownAt {K : PySem.W.Frag} {F H : Hp} {env : Env} {σ : L2.St} {i : Nat} {ds : List D} (h : Fr K L F0 H0 F H env σ) (e : env[i]? = some (some (true, .list ds))) : ∃ p vs, σ[i]? = some (some (.ref p)) ∧ H p = some (.lst vs) ∧ RpL K F vs ds := by
  obtain ⟨v, h1, h2⟩ := h.ss.slot i _ e
  match v, h2 with
  | some v, h2 =>
    obtain ⟨p, o, rfl, f, h3, vs, rfl, r⟩ := h2
    exact ⟨p, vs, h1, h3, r⟩
theorem Fr.ownD {K : PySem.W.Frag} {F H : Hp} {env : Env} {σ : L2.St} {i : Nat} {kvs : List (D × D)} (h : Fr K L F0 H0 F H env σ) (e : env[i]? = some (some (true, .dict kvs))) : ∃ p o, σ[i]? = some (some (.ref p)) ∧ H p = some o ∧ DR K F p o kvs := by
  obtain ⟨v, h1, h2⟩ := h.ss.slot i _ e
  match v, h2 with
  | some v, h2 =>
    obtain ⟨p, o, rfl, f, h3, r⟩ := h2
    exact ⟨p, o, h1, h3, r⟩
theorem pe_method {id : String} {r : V → List V → Hp → VK → Prop} {name : Str} {o : Expr} {to : TE} {t : TA} {apos cpos : Pos} (slot : Slot "list" name id) (hty : typeOf (.builtin id) = pure (.type "method_descriptor")) (hm : MtR X id r) (ho : PE X o to) (ha : PA X [ee] t)
    (hn : ∃ x p, o = .Name x p) (hst : notStar ee = true) (hl : (apos.endLine == cpos.line) = true) : PE X (.Call (.Attribute o name apos) [ee] [] cpos) (tBM X.K "list" r to t) := by
  obtain ⟨x, p, rfl⟩ := hn
  exact pe_bm PySem.F.plainAttrs_list slot hty hm ho ha rfl (by rw [star_cons hst]; rfl) hl (star_cons hst) rfl
theorem ss_app {i : Nat} {x : Str} {p1 p2 apos cpos : Pos} (hv : PE X (.Name x p1) (tVar i)) (he : PE X ee (rd S ca W X.K false e)) (hst : notStar ee = true) (hl : (apos.endLine == cpos.line) = true) :
    PS X (.Expr (.Call (.Attribute (.Name x p1) "append" apos) [ee] [] cpos) pos) (rdS S fuel ca W X.K L F0 H0 (.app i e)) := by
  refine (ps_expr (pe_method PySem.F.slot_list_append PySem.F.type_list_append mt_append hv (pa_cons he pa_nil (star_cons hst)) ⟨_, _, rfl⟩ hst hl) rfl).imp fun De σ H ⟨F, env, fr, p⟩ => ?_
  rw [ex] at p
  obtain ⟨⟨xs0, e0⟩, p⟩ := ownL_inv p
  have p := toS_pg fr p
  cases q : ev S false e env with
  | bad => rw [q] at p; exact p.elim
  | exc n =>
    rw [q] at p
    obtain ⟨l, vs, h1, h2, r⟩ := Fr.ownAt fr e0
    exact ⟨_, h1, .inl ⟨rfl, _, .inl (.inl h2)⟩, F, env, fr.ss, by rw [q]; exact p⟩
  | ok d =>
    rw [q] at p
    obtain ⟨xs, e1, hz, p⟩ := appO_inv p
    obtain ⟨l, vs, h1, h2, r⟩ := fr.ownAt e1
    refine ⟨_, h1, .inl ⟨rfl, _, .inl (.inl h2)⟩, F, env, fr.ss, ?_⟩
    rw [q]
    intro v H' s rv
    have fr' := fr.growF s
    refine ⟨l, vs, v, rfl, rfl, s _ _ h2, by rw [r.length, ← lineN_eq]; simp at hz; omega, p _ _ _ (fr'.write e1 h1 (s _ _ h2) (RpL.app (RpL.mono (gr_F fr.ss.sub) r) (.cons rv .nil)))⟩
theorem ss_ext {i : Nat} {x : Str} {p1 p2 apos cpos : Pos} (hv : PE X (.Name x p1) (tVar i)) (he : PE X ee (rd S ca W X.K false e)) (hst : notStar ee = true) (hl : (apos.endLine == cpos.line) = true) :
    PS X (.Expr (.Call (.Attribute (.Name x p1) "extend" apos) [ee] [] cpos) pos) (rdS S fuel ca W X.K L F0 H0 (.ext i e)) := by
  refine (ps_expr (pe_method PySem.F.slot_list_extend (by first | exact PySem.F.type_list_extend | kernel_rfl) mt_extendD hv (pa_cons he pa_nil (star_cons hst)) ⟨_, _, rfl⟩ hst hl) rfl).imp fun De σ H ⟨F, env, fr, p⟩ => ?_
  rw [ex] at p
  obtain ⟨⟨xs0, e0⟩, p⟩ := ownL_inv p
  have p := toS_pg fr p
  cases q : ev S false e env with
  | bad => rw [q] at p; exact p.elim
  | exc n =>
    rw [q] at p
    obtain ⟨l, vs, h1, h2, r⟩ := Fr.ownAt fr e0
    exact ⟨_, h1, .inl ⟨rfl, _, .inl (.inl h2)⟩, F, env, fr.ss, by rw [q]; exact p⟩
  | ok d =>
    rw [q] at p
    have p : SPost ca W X.K L F0 H0 ((unlist d).toS env fun ds => appO env i ds) De := p
    cases d with
    | list ds =>
      obtain ⟨xs, e1, hz, p⟩ := appO_inv p
      obtain ⟨l, vs, h1, h2, r⟩ := fr.ownAt e1
      refine ⟨_, h1, .inl ⟨rfl, _, .inl (.inl h2)⟩, F, env, fr.ss, ?_⟩
      rw [q]
      intro v H' s rv
      have fr' := fr.growF s
      have rv : Rp X.K (Gr F H H') v (.list ds) := rv
      cases rv with
      | lst hb rb =>
        exact ⟨l, _, vs, _, rfl, rfl, s _ _ h2, fr'.ss.sub.sqL hb, by rw [r.length, rb.length, ← lineN_eq]; exact hz, p _ _ _ (fr'.write e1 h1 (s _ _ h2) (RpL.app (RpL.mono (gr_F fr.ss.sub) r) rb))⟩
    | _ => exact p.elim

/-! ### raise X('..') -/
theorem ss_raise {x m : Str} {C : Addr} {bmB : List Value} {newId : String} {B initId : String} {j : Nat} {p p2 p3 : Pos} (FB : ExcBaseFacts B newId initId bmB) (q : PySem.W.excIn X.K C bmB newId = true) (gC : X.mg x = some (.ref C)) (kC : PySem.W.keepIn X.K (.ref C) = true) (r : Raises X (.ref C)) (hg : Gl X x)
    (hd : (x == ("__debug__" : Str)) = false) (hc : X.calm = true) (tk : Takes X W) (hca : ca x = some C) :
    PS X (.Raise (some (.Call (.Name x p) [.Constant (.str m) j p2] [] p3)) none pos) (rdS S fuel ca W X.K L F0 H0 (.raise x)) := by
  refine (ps_raise hc tk (pmk_own FB q gC kC r hg hd)).imp fun De σ H ⟨F, env, fr, p⟩ => ?_
  rw [ex] at p
  exact p σ F H C fr hca
end

/-! ### several values at once: they are laid beside the slots, then moved -/
section
variable {K : PySem.W.Frag} {L F0 H0 F H H' : Hp} {env tmp : Env} {σ us : L2.St}
theorem Fr.pre (h : Fr K L F0 H0 F H (env ++ tmp) (σ ++ us)) (hl : σ.length = env.length) : Fr K L F0 H0 F H env σ := by
  have e1 : ∀ {i : Nat} {b : Option (Bool × D)}, env[i]? = some b → (env ++ tmp)[i]? = some b := fun {i b} e => by
    rw [List.getElem?_append_left (List.getElem?_eq_some_iff.mp e).1]; exact e
  have e2 : ∀ {i : Nat} {b : Option V}, σ[i]? = some b → (σ ++ us)[i]? = some b := fun {i b} e => by
    rw [List.getElem?_append_left (List.getElem?_eq_some_iff.mp e).1]; exact e
  refine ⟨⟨h.ss.sub, hl, fun i b e => ?_, fun i j di dj a hij a1 a2 a3 a4 => h.ss.apart i j di dj a hij (e1 a1) (e1 a2) (e2 a3) (e2 a4)⟩, h.old, h.bnd, fun i d a a1 a2 => h.own i d a (e1 a1) (e2 a2), h.low⟩
  obtain ⟨v, h1, h2⟩ := h.ss.slot i b (e1 e)
  have hi : i < σ.length := by rw [hl]; exact (List.getElem?_eq_some_iff.mp e).1
  rw [List.getElem?_append_left hi] at h1
  exact ⟨v, h1, h2⟩
theorem set_end {α : Type} (l : List α) (a b : α) : (l ++ [a]).set l.length b = l ++ [b] := by
  rw [List.set_append_right _ _ (Nat.le_refl _), Nat.sub_self]; rfl
theorem Fr.room (h : Fr K L F0 H0 F H env σ) : Fr K L F0 H0 F H (env ++ [none]) (σ ++ [none]) := by
  have e1 : ∀ {i : Nat} {b : Option (Bool × D)}, (env ++ [none])[i]? = some b → (env[i]? = some b) ∨ (i = env.length ∧ b = none) := fun {i b} e => by
    by_cases hi : i < env.length
    · rw [List.getElem?_append_left hi] at e; exact .inl e
    · rw [List.getElem?_append_right (by omega)] at e
      by_cases h0 : i - env.length = 0
      · rw [h0] at e
        cases e
        exact .inr ⟨by omega, rfl⟩
      · rw [List.getElem?_eq_none (by simp; omega)] at e; cases e
  have e3 : ∀ {i : Nat} {d : D}, (env ++ [none])[i]? = some (some (true, d)) → env[i]? = some (some (true, d)) := fun {i d} e => (e1 e).resolve_right (fun z => by cases z.2)
  have e4 : ∀ {i : Nat} {d : D} {a : Addr}, env[i]? = some (some (true, d)) → (σ ++ [none])[i]? = some (some (.ref a)) → σ[i]? = some (some (.ref a)) := fun {i d a} e z => by
    have hi : i < σ.length := by rw [h.ss.len]; exact (List.getElem?_eq_some_iff.mp e).1
    rw [List.getElem?_append_left hi] at z; exact z
  refine ⟨⟨h.ss.sub, by rw [List.length_append, List.length_append, h.ss.len]; rfl, fun i b e => ?_, fun i j di dj a hij a1 a2 a3 a4 => h.ss.apart i j di dj a hij (e3 a1) (e3 a2) (e4 (e3 a1) a3) (e4 (e3 a2) a4)⟩, h.old, h.bnd, fun i d a a1 a2 => h.own i d a (e3 a1) (e4 (e3 a1) a2), h.low⟩
  rcases e1 e with e | ⟨rfl, rfl⟩
  · obtain ⟨v, h1, h2⟩ := h.ss.slot i b e
    exact ⟨v, by rw [List.getElem?_append_left (List.getElem?_eq_some_iff.mp h1).1]; exact h1, h2⟩
  · exact ⟨none, by rw [← h.ss.len, List.getElem?_append_right (Nat.le_refl _), Nat.sub_self]; rfl, trivial⟩
theorem Fr.push {d : D} {v : V} (h : Fr K L F0 H0 F H env σ) (r : Rp K F v d) : Fr K L F0 H0 F H (env ++ [some (false, d)]) (σ ++ [some v]) := by
  have q := h.room.set (i := env.length) r
  rw [set_end] at q
  rw [← h.ss.len, set_end] at q
  exact q
theorem Fr.pushO {d : D} {o : HO} {p : Addr} (h : Fr K L F0 H0 F H env σ) (hp : H p = none) (r : OR K F p o d) : Fr K L F0 H0 F (upd H p o) (env ++ [some (true, d)]) (σ ++ [some (.ref p)]) := by
  have q := h.room.setO (i := env.length) hp r
  rw [set_end] at q
  rw [← h.ss.len, set_end] at q
  exact q
/-- slot j moved to i -/
theorem Fr.move {i j : Nat} {b : Option (Bool × D)} {v : Option V} (h : Fr K L F0 H0 F H env σ) (hij : i ≠ j) (hi : i < env.length) (hb : env[j]? = some b) (hv : σ[j]? = some v) : Fr K L F0 H0 F H ((env.set i b).set j none) ((σ.set i v).set j none) := by
  have hj : j < env.length := (List.getElem?_eq_some_iff.mp hb).1
  have hjσ : j < σ.length := by rw [h.ss.len]; exact hj
  have hiσ : i < σ.length := by rw [h.ss.len]; exact hi
  have gE : ∀ k : Nat, ((env.set i b).set j none)[k]? = if k = j then some none else if k = i then some b else env[k]? := fun k => by
    by_cases h1 : k = j
    · subst h1; rw [if_pos rfl, List.getElem?_set_self (by rw [List.length_set]; exact hj)]
    · rw [if_neg h1, List.getElem?_set_ne (fun z => h1 z.symm)]
      by_cases h2 : k = i
      · subst h2; rw [if_pos rfl, List.getElem?_set_self hi]
      · rw [if_neg h2, List.getElem?_set_ne (fun z => h2 z.symm)]
  have gS : ∀ k : Nat, ((σ.set i v).set j none)[k]? = if k = j then some none else if k = i then some v else σ[k]? := fun k => by
    by_cases h1 : k = j
    · subst h1; rw [if_pos rfl, List.getElem?_set_self (by rw [List.length_set]; exact hjσ)]
    · rw [if_neg h1, List.getElem?_set_ne (fun z => h1 z.symm)]
      by_cases h2 : k = i
      · subst h2; rw [if_pos rfl, List.getElem?_set_self hiσ]
      · rw [if_neg h2, List.getElem?_set_ne (fun z => h2 z.symm)]
  -- where an own list comes from
  have src : ∀ {k : Nat} {d : D} {a : Addr}, ((env.set i b).set j none)[k]? = some (some (true, d)) → ((σ.set i v).set j none)[k]? = some (some (.ref a)) → k ≠ j ∧ env[if k = i then j else k]? = some (some (true, d)) ∧ σ[if k = i then j else k]? = some (some (.ref a)) := fun {k d a} a1 a2 => by
    rw [gE] at a1
    rw [gS] at a2
    by_cases h1 : k = j
    · rw [if_pos h1] at a1; cases a1
    · rw [if_neg h1] at a1 a2
      by_cases h2 : k = i
      · rw [if_pos h2] at a1 a2
        rw [if_pos h2]
        exact ⟨h1, by rw [hb]; exact a1, by rw [hv]; exact a2⟩
      · rw [if_neg h2] at a1 a2
        rw [if_neg h2]
        exact ⟨h1, a1, a2⟩
  refine ⟨⟨h.ss.sub, by simp only [List.length_set]; exact h.ss.len, fun k c e => ?_, fun k m dk dm a hkm a1 a2 a3 a4 => ?_⟩, h.old, h.bnd, fun k d a a1 a2 => ?_, h.low⟩
  · rw [gE] at e
    rw [gS]
    by_cases h1 : k = j
    · rw [if_pos h1] at e ⊢; cases e; exact ⟨none, rfl, trivial⟩
    · rw [if_neg h1] at e ⊢
      by_cases h2 : k = i
      · rw [if_pos h2] at e ⊢
        cases e
        obtain ⟨v', q1, q2⟩ := h.ss.slot j _ hb
        rw [hv] at q1; cases q1
        exact ⟨v, rfl, q2⟩
      · rw [if_neg h2] at e ⊢
        exact h.ss.slot k c e
  · obtain ⟨k1, k2, k3⟩ := src a1 a3
    obtain ⟨m1, m2, m3⟩ := src a2 a4
    refine h.ss.apart _ _ dk dm a ?_ k2 m2 k3 m3
    by_cases c1 : k = i <;> by_cases c2 : m = i
    · exact fun _ => hkm (c1.trans c2.symm)
    · rw [if_pos c1, if_neg c2]; exact fun z => m1 z.symm
    · rw [if_neg c1, if_pos c2]; exact k1
    · rw [if_neg c1, if_neg c2]; exact hkm
  · obtain ⟨k1, k2, k3⟩ := src a1 a2
    exact h.own _ d a k2 k3
theorem putPar_inv {tg : C} {ts env env' : Env} (e : Rf.putPar tg ts env = .ok env') : (tg = .nil ∧ ts = [] ∧ env' = env) ∨ ∃ i r t ts', tg = .cons (.var i) r ∧ ts = t :: ts' ∧ i < env.length ∧ Rf.putPar r ts' (env.set i t) = .ok env' := by
  unfold Rf.putPar at e
  split at e
  · cases e; exact .inl ⟨rfl, rfl, rfl⟩
  · obtain ⟨hi, e⟩ := chk_ok e
    exact .inr ⟨_, _, _, _, rfl, rfl, of_decide_eq_true hi, e⟩
  · cases e
/-- the values laid beside go to their names -/
theorem Fr.putPar : ∀ {ts : Env} {tg : C} {env env' tmp : Env} {σ : L2.St} {us : List (Option V)} {vs : List V}, Rf.putPar tg ts env = .ok env' → σ.length = env.length → us.length = tmp.length → vs.length = ts.length →
    Fr K L F0 H0 F H (env ++ (tmp ++ ts)) (σ ++ (us ++ vs.map some)) → ∃ σ' us' tmp', (∀ Q : L2.St → Hp → Prop, Q σ' H → gsOf tg vs σ H Q) ∧ σ'.length = env'.length ∧ Fr K L F0 H0 F H (env' ++ tmp') (σ' ++ us') ∧ ts.length = cLen tg := by
  intro ts
  induction ts with
  | nil =>
    intro tg env env' tmp σ us vs e hl h2 h3 h
    rcases putPar_inv e with ⟨rfl, _, rfl⟩ | ⟨_, _, _, _, _, z, _⟩
    · cases vs with
      | nil => exact ⟨σ, _, _, fun Q q => ⟨rfl, q⟩, hl, h, rfl⟩
      | cons _ _ => simp at h3
    · cases z
  | cons t ts ih =>
    intro tg env env' tmp σ us vs e hl h2 h3 h
    rcases putPar_inv e with ⟨_, z, _⟩ | ⟨i, r, _, _, rfl, z, hi, e⟩
    · cases z
    · cases z
      cases vs with
      | nil => simp at h3
      | cons v vs =>
        have at1 : (env ++ (tmp ++ t :: ts))[env.length + tmp.length]? = some t := by
          rw [List.getElem?_append_right (by omega), List.getElem?_append_right (by omega)]
          simp
        have at2 : (σ ++ (us ++ (v :: vs).map some))[env.length + tmp.length]? = some (some v) := by
          rw [List.getElem?_append_right (by omega), List.getElem?_append_right (by omega), hl, h2]
          simp
        have q := h.move (i := i) (j := env.length + tmp.length) (by omega) (by simp; omega) at1 at2
        have f1 : ((env ++ (tmp ++ t :: ts)).set i t).set (env.length + tmp.length) none = env.set i t ++ ((tmp ++ [none]) ++ ts) := by
          rw [List.set_append_left _ _ hi, List.set_append_right _ _ (by rw [List.length_set]; omega), List.length_set, Nat.add_sub_cancel_left, List.set_append_right _ _ (Nat.le_refl _), Nat.sub_self]
          simp
        have f2 : ((σ ++ (us ++ (v :: vs).map some)).set i (some v)).set (env.length + tmp.length) none = σ.set i (some v) ++ ((us ++ [none]) ++ vs.map some) := by
          rw [List.set_append_left _ _ (by rw [hl]; exact hi), List.set_append_right _ _ (by rw [List.length_set, hl]; omega), List.length_set, hl, Nat.add_sub_cancel_left, ← h2, List.set_append_right _ _ (Nat.le_refl _), Nat.sub_self]
          simp
        rw [f1, f2] at q
        obtain ⟨σ', us', tmp', g, l, fr, lc⟩ := ih e (by rw [List.length_set, List.length_set]; exact hl) (by rw [List.length_append, List.length_append, h2]; rfl) (by simpa using h3) q
        exact ⟨σ', us', tmp', fun Q q => ⟨v, vs, rfl, g Q q⟩, l, fr, by rw [List.length_cons, lc]; rfl⟩
end
end Rf

set_option Elab.async false
set_option linter.all false
set_option maxHeartbeats 1000000
/-! Rf, part S4: new lists' expressions; several targets at once; a name set to a comprehension's list. -/
namespace Rf
open PySem PySem.Spec PyProof.Rows L2

section
variable {S : Sig} {fuel : Nat} {ca : ExA} {W : WX} {X : Cx} {L F0 H0 : Hp} {a b c e tg it cond elt : C} {ea eb ee : Expr} {es : List Expr} {pos : Pos}
/-! ### new lists -/
theorem sn_lst (h : PA X es (rdA S ca W X.K false a)) : PE X (.List es pos) (rdN S ca W X.K (.lst a)) := by
  refine (pe_lst h).imp fun σ H Q ⟨F, env, s, p⟩ => ?_
  rw [ev] at p
  refine ⟨F, env, s, p.of_bind.imp fun ds p vs H1 s1 rs => ?_⟩
  have rs : RpL X.K (Gr F H H1) vs ds := rs
  cases q : decide (ds.length ≤ lineN) with
  | false => rw [q] at p; exact p.elim
  | true =>
    rw [q] at p
    simp only [decide_eq_true_eq, lineN_eq] at q
    have wn := WO.l (show WO X.K F H Q (.list ds) from p)
    exact ⟨by rw [rs.length]; exact q, fun l hl => wn vs H1 l s1 hl rs⟩
theorem rd_two2 {g : D → D → R D} {r : R2} {σ : L2.St} {H : Hp} {k : D → Prop} {Q : VK} {F : Hp} {env : Env} (ne : ∀ d e n, g d e ≠ .exc n) (s : Ss X.K F H env σ)
    (p : PG ca W H σ ((ev S true a env).bind fun x => (ev S true b env).bind fun y => g x y) k)
    (hr : ∀ x y d e z H', Same H H' → Same (Gr F H H') H' → RpT X.K (Gr F H H') H' x d → RpT X.K (Gr F H H') H' y e → g d e = .ok z → k z → r x y H' Q) : tOp r (rd S ca W X.K true a) (rd S ca W X.K true b) σ H Q := by
  refine ⟨F, env, s, p.of_bind.imp fun d p x H1 s1 rx => ⟨F, env, s.grow s1, p.of_bind.go s1 fun e p y H2 s2 ry => ?_⟩⟩
  have s12 := s1.trans s2
  cases q : g d e with
  | ok z =>
    rw [q] at p
    exact hr x y d e z H2 s12 (gr_sub s.sub s12) (RpT.mono rx (gr_left s2) s2) (RpT.mono ry (gr_right s.sub s1 s2) (fun _ _ z => z)) q p
  | exc n => exact (ne d e n q).elim
  | bad => rw [q] at p; exact p.elim
theorem sn_add (ha : PE X ea (rd S ca W X.K true a)) (hb : PE X eb (rd S ca W X.K true b)) : PE X (.BinOp ea (bopS .add) eb pos) (rdN S ca W X.K (.bin .add a b)) := by
  refine (pe_op op_catD ha hb).imp fun σ H Q ⟨F, env, s, p⟩ => ?_
  rw [ev] at p
  refine rd_two2 (fun _ _ _ => binD_noexc (o := .add)) s p fun x y d e z H' s1 _ rx ry g k => ?_
  have g : addD d e = .ok z := g
  rcases k with ⟨ds, rfl, wn⟩ | ⟨kvs, rfl, _⟩
  case inr =>
    cases d <;> cases e <;> first
      | (cases g; done)
      | exact nomatch (chk_ok g).2
  cases d <;> cases e <;> try (cases g; done)
  case str.str => exact nomatch (chk_ok g).2
  case tuple.tuple => exact nomatch (chk_ok g).2
  case list.list xs ys _ =>
    obtain ⟨h1, h2⟩ := chk_ok g
    cases h2
    simp only [decide_eq_true_eq, lineN_eq] at h1
    obtain ⟨l, vs, rfl, hl, rl⟩ := rx
    obtain ⟨m, us, rfl, hm, rm⟩ := ry
    exact ⟨l, m, vs, us, rfl, rfl, hl, hm, by rw [rl.length, rm.length]; exact h1, fun p hp => wn _ H' p s1 hp (RpL.app rl rm)⟩
theorem sn_mul (ha : PE X ea (rd S ca W X.K true a)) (hb : PE X eb (rd S ca W X.K true b)) : PE X (.BinOp ea (bopS .mul) eb pos) (rdN S ca W X.K (.bin .mul a b)) := by
  refine (pe_op op_repD ha hb).imp fun σ H Q ⟨F, env, s, p⟩ => ?_
  rw [ev] at p
  refine rd_two2 (fun _ _ _ => binD_noexc (o := .mul)) s p fun x y d e z H' s1 _ rx ry g k => ?_
  have g : mulD d e = .ok z := g
  rcases k with ⟨ds, rfl, wn⟩ | ⟨kvs, rfl, _⟩
  case inr =>
    cases d <;> cases e <;> first
      | (cases g; done)
      | exact nomatch (chk_ok g).2
  cases d <;> cases e <;> try (cases g; done)
  case int.int => exact nomatch (chk_ok g).2
  case tuple.int => exact nomatch (chk_ok g).2
  case list.int xs kk _ =>
    obtain ⟨h1, h2⟩ := chk_ok g
    cases h2
    simp only [Bool.and_eq_true, decide_eq_true_eq, lineN_eq] at h1
    obtain ⟨l, vs, rfl, hl, rl⟩ := rx
    cases (show y = .int kk from ry)
    exact ⟨l, kk, vs, rfl, rfl, hl, h1.1.1, h1.1.2, by rw [rl.length]; exact h1.2, fun p hp => wn _ H' p s1 hp (RpL.rep _ rl)⟩

theorem sn_dnew : PE X (.Dict [] [] pos) (rdN S ca W X.K .dnew) := by
  refine pe_dnewK.imp fun σ H Q ⟨F, env, s, p⟩ => ?_
  rw [ev] at p
  have wd := WO.d (show WO X.K F H Q (.dict []) from p)
  exact fun q hq => wd _ H q same_refl hq (dr_rows.mpr (.inl ⟨[], rfl, .nil⟩))
/-! ### several values, laid beside the slots -/
def rdP (S : Sig) (ca : ExA) (W : WX) (K : PySem.W.Frag) (L F0 H0 : Hp) (c : C) (own : List Bool) : TA := fun σ H Q => ∃ F env tmp us, Fr K L F0 H0 F H (env ++ tmp) (σ ++ us) ∧ σ.length = env.length ∧ us.length = tmp.length ∧
  PG ca W H σ (evPar S c own env) fun ts => ∀ (vs : List V) H' F', vs.length = ts.length → Fr K L F0 H0 F' H' (env ++ (tmp ++ ts)) (σ ++ (us ++ vs.map some)) → Q vs H'
theorem sp_nil : PA X [] (rdP S ca W X.K L F0 H0 .nil []) := by
  refine pa_nil.imp fun σ H Q ⟨F, env, tmp, us, fr, l1, l2, p⟩ => ?_
  rw [evPar] at p
  exact p [] H F rfl (by simpa using fr)
theorem sp_cons {os : List Bool} (ha : PE X ea (rd S ca W X.K false a)) (hr : PA X es (rdP S ca W X.K L F0 H0 b os)) (hs : notStar ea = true) : PA X (ea :: es) (rdP S ca W X.K L F0 H0 (.cons a b) (false :: os)) := by
  refine (pa_cons ha hr (star_cons hs)).imp fun σ H Q ⟨F, env, tmp, us, fr, l1, l2, p⟩ => ?_
  rw [evPar] at p
  refine ⟨F, env, (fr.pre l1).ss, p.of_bind.imp fun d p v H1 s1 rv => ?_⟩
  have fr1 := (fr.growF s1).push rv
  rw [List.append_assoc, List.append_assoc] at fr1
  refine ⟨_, env, _, _, fr1, l1, by simp [l2], p.of_bind.go s1 fun ts p vs H' F' hl fr2 => ?_⟩
  exact p (v :: vs) H' F' (by simp [hl]) (by simpa using fr2)
theorem sp_consN {os : List Bool} (ha : PE X ea (rdN S ca W X.K a)) (hr : PA X es (rdP S ca W X.K L F0 H0 b os)) (hs : notStar ea = true) : PA X (ea :: es) (rdP S ca W X.K L F0 H0 (.cons a b) (true :: os)) := by
  refine (pa_cons ha hr (star_cons hs)).imp fun σ H Q ⟨F, env, tmp, us, fr, l1, l2, p⟩ => ?_
  rw [evPar] at p
  refine ⟨F, env, (fr.pre l1).ss, p.of_bind.imp fun d p => ?_⟩
  have gen : ∀ (o : HO) H1 q, ownD d = .ok d → Same H H1 → H1 q = none → OR X.K (Gr F H H1) q o d → rdP S ca W X.K L F0 H0 b os σ (upd H1 q o) fun vs => Q (.ref q :: vs) := fun o H1 q ow s1 hq rv => by
    rw [ow] at p
    have fr1 := (fr.growF s1).pushO hq rv
    rw [List.append_assoc, List.append_assoc] at fr1
    have s2 : Same H (upd H1 q o) := s1.trans (same_upd hq)
    have p : PG ca W H σ (evPar S b os env) (fun ts => PG ca W H σ (R.ok (some (true, d) :: ts)) _) := (PG.of_bind (r := evPar S b os env) p.of_bind)
    refine ⟨_, env, _, _, fr1, l1, by simp [l2], p.go s2 fun ts p vs' H' F' hl fr2 => ?_⟩
    have p : ∀ (vs : List V) H' F', vs.length = (some (true, d) :: ts).length → Fr X.K L F0 H0 F' H' (env ++ (tmp ++ (some (true, d) :: ts))) (σ ++ (us ++ vs.map some)) → Q vs H' := p
    exact p (.ref q :: vs') H' F' (by simp [hl]) (by simpa using fr2)
  cases d with
  | list ds => exact .inl ⟨ds, rfl, fun vs H1 q s1 hq rv => gen _ H1 q rfl s1 hq ⟨vs, rfl, rv⟩⟩
  | dict kvs => exact .inr ⟨kvs, rfl, fun o H1 q s1 hq rv => gen o H1 q rfl s1 hq rv⟩
  | _ => exact (p.of_bind).elim
/-- from the frame: the targets take their values -/
theorem par_go {own : List Bool} {De : Ends} {σ : L2.St} {H : Hp} {Q : List V → Hp → Prop} (h : rdS S fuel ca W X.K L F0 H0 (.par tg own e) De σ H)
    (hq : ∀ vs H', vs.length = cLen tg → gsOf tg vs σ H' De.nx → (∀ p o, H' p = none → gsOf tg vs σ (upd H' p o) De.nx) → Q vs H') : rdP S ca W X.K L F0 H0 e own σ H Q := by
  obtain ⟨F, env, fr, p⟩ := h
  rw [ex] at p
  refine ⟨F, env, [], [], by simpa using fr, fr.ss.len, rfl, (toS_pg fr p).imp fun ts p vs H' F' hl fr2 => ?_⟩
  cases q : putPar tg ts env with
  | ok env' =>
    rw [q] at p
    obtain ⟨σ', us', tmp', g, l, fr3, lc⟩ := Fr.putPar (tmp := []) (us := []) q fr.ss.len rfl hl fr2
    refine hq vs H' (by rw [hl, lc]) (g _ (p _ _ _ (fr3.pre l))) fun a o ha => ?_
    obtain ⟨σ2, us2, tmp2, g2, l2, fr4, _⟩ := Fr.putPar (tmp := []) (us := []) q fr.ss.len rfl hl (fr2.grow (same_upd (o := o) ha))
    exact g2 _ (p _ _ _ (fr4.pre l2))
  | exc n => rw [q] at p; exact (putPar_noexc q).elim
  | bad => rw [q] at p; exact p.elim
where
  putPar_noexc {n : Str} : ∀ {ts : Env} {tg : C} {env : Env}, putPar tg ts env ≠ .exc n := by
    intro ts tg env z
    induction ts generalizing tg env with
    | nil =>
      unfold putPar at z
      split at z <;> first
        | cases z; done
        | (rename_i q; cases q; done)
        | (rename_i q _; cases q; done)
    | cons t ts ih =>
      match tg, z with
      | .cons (.var i) r, z =>
        have z : R.chk (decide (i < env.length)) (putPar r ts (env.set i t)) = .exc n := z
        exact chk_noexc ih z
      | .nil, z => exact nomatch z
theorem ss_par2 {own : List Bool} {i j : Nat} {x y : Str} {px py pt : Pos} {kt k2 pt2} (hc : X.calm = true) (hN : X.N.Nodup) (hi : X.N[i]? = some x) (hj : X.N[j]? = some y) (hij : i ≠ j)
    (hx : X.env.scope.names.lookup x = some .local) (hy : X.env.scope.names.lookup y = some .local) (ha : PA X [ea, eb] (rdP S ca W X.K L F0 H0 e own))
    (hw : swappedStores [.Tuple [.Name x px, .Name y py] kt pt] (.Tuple [ea, eb] k2 pt2) X.env = pure (some [x, y])) :
    PS X (.Assign [.Tuple [.Name x px, .Name y py] kt pt] (.Tuple [ea, eb] k2 pt2) pos) (rdS S fuel ca W X.K L F0 H0 (.par (.cons (.var i) (.cons (.var j) .nil)) own e)) :=
  (ps_par hc hN hi hj hij hx hy ha hw rfl).imp fun De σ H h => par_go h fun vs H' _ g _ => by
    obtain ⟨v, r, rfl, w, r', rfl, rfl, q⟩ := g
    exact ⟨v, w, rfl, q⟩
theorem ss_par3 {own : List Bool} {i j l : Nat} {x y z : Str} {ec : Expr} {px py pz pt : Pos} {kt k2 pt2} (hc : X.calm = true) (hN : X.N.Nodup) (hi : X.N[i]? = some x) (hj : X.N[j]? = some y) (hl : X.N[l]? = some z) (hij : i ≠ j) (hil : i ≠ l) (hjl : j ≠ l)
    (hx : X.env.scope.names.lookup x = some .local) (hy : X.env.scope.names.lookup y = some .local) (hz : X.env.scope.names.lookup z = some .local) (ha : PA X [ea, eb, ec] (rdP S ca W X.K L F0 H0 e own))
    (hw : swappedStores [.Tuple [.Name x px, .Name y py, .Name z pz] kt pt] (.Tuple [ea, eb, ec] k2 pt2) X.env = pure (some [x, y, z])) :
    PS X (.Assign [.Tuple [.Name x px, .Name y py, .Name z pz] kt pt] (.Tuple [ea, eb, ec] k2 pt2) pos) (rdS S fuel ca W X.K L F0 H0 (.par (.cons (.var i) (.cons (.var j) (.cons (.var l) .nil))) own e)) :=
  (ps_par3 hc hN hi hj hl hij hil hjl hx hy hz ha hw rfl).imp fun De σ H h => par_go h fun vs H' _ g _ => by
    obtain ⟨v, r, rfl, w, r', rfl, u, r2, rfl, rfl, q⟩ := g
    exact ⟨v, w, u, rfl, q⟩
theorem ss_parN {own : List Bool} {ts : List Expr} {kt k2 : Nat} {pt pt2 : Pos} (hc : X.calm = true) (hg : PGs X ts (gsOf tg)) (hn : ts.length = cLen tg) (hst : ts.all notStar = true) (hz : cLen tg ≤ 1000) (ha : PA X es (rdP S ca W X.K L F0 H0 e own))
    (hw : swappedStores [.Tuple ts kt pt] (.Tuple es k2 pt2) X.env = pure none) :
    PS X (.Assign [.Tuple ts kt pt] (.Tuple es k2 pt2) pos) (rdS S fuel ca W X.K L F0 H0 (.par tg own e)) := by
  have st : ∀ {ts : List Expr}, ts.all notStar = true → (assignEach ts X.env).length = ts.length ∧ (assignEach ts X.env).findIdx? (·.1) = none := fun {ts} => by
    induction ts with
    | nil => exact fun _ => ⟨rfl, rfl⟩
    | cons t ts ih =>
      intro h
      rw [List.all_cons, Bool.and_eq_true] at h
      obtain ⟨i1, i2⟩ := ih h.2
      have e : assignEach (t :: ts) X.env = (false, assign t X.env) :: assignEach ts X.env := by
        cases t <;> first
          | rfl
          | exact nomatch h.1
      rw [e]
      exact ⟨by simp [i1], by rw [List.findIdx?_cons]; simp [i2]⟩
  refine (ps_asg (pe_tup ha) (pg_tup (n := cLen tg) hc hg (by rw [(st hst).1]; exact hn) (st hst).2) rfl hw rfl).imp fun De σ H h => ?_
  refine par_go h fun vs H' hl _ g => ⟨?_, fun l hl' => ⟨l, vs, rfl, .inl (.inl upd_same), hl, g l _ hl'⟩⟩
  rw [hl]
  exact Nat.le_trans hz (by decide)

/-! ### name = [.. for ..] where the stores are exchanged -/
theorem ss_setLc {i : Nat} {y : Str} {py : Pos} {eelt etg eit : Expr} {ifs : List Expr} {scope : Scope} {sown : List (Str × Nat)} {spos : Pos} (hc : X.calm = true) (hN : X.N.Nodup) (hy : X.N[i]? = some y) (hyl : X.env.scope.names.lookup y = some .local)
    (hsw : swapsWith (.ListComp eelt [⟨etg, eit, ifs, 0⟩] scope pos) (some (.Name y py)) spos.line X.env = pure true) (hi : PI X etg eit (rdI S ca W X.K it)) (ok : BlkOk X.N X.env.scope scope sown) (hw : tgVars tg = sown.map (·.2))
    (hg : ∀ (s : Shared) (H : Hp) (C : Addr) (cl : List (Str × Addr)) (fp : List Addr), L2.PG (X.blk s H scope (compEnvC scope cl C X.env) fp) etg (gOf X.K tg))
    (ht : ∀ (s : Shared) (H : Hp) (C : Addr) (cl : List (Str × Addr)) (fp : List Addr), PTs (X.blk s H scope (compEnvC scope cl C X.env) fp) ifs (rdC S ca W0 X.K cond))
    (he : ∀ (s : Shared) (H : Hp) (C : Addr) (cl : List (Str × Addr)) (fp : List Addr), PE (X.blk s H scope (compEnvC scope cl C X.env) fp) eelt (rd S ca W0 X.K false elt)) (hs : ∀ x, foldedSetIterable eit X.env x = pure x) (own : Bool) :
    PS X (.Assign [.Name y py] (.ListComp eelt [⟨etg, eit, ifs, 0⟩] scope pos) spos) (rdS S fuel ca W X.K L F0 H0 (.asg i own (.lc tg it cond elt))) :=
  (ps_setLc hc hN hy hyl hsw hi ok hg ht he hs).imp fun De σ H h => by
    refine rd_lcN (W := W) hw ?_
    cases own with
    | true => exact rd_asgN h
    | false => exact rd_n (t := false) (fun t env d e => lc_isL e) (fun env => rfl) (rd_asg h)
end
end Rf

set_option Elab.async false
set_option linter.all false
set_option maxHeartbeats 2000000
/-! Rf, part V: try: .. except X as e: flags of isinstance, the place of the first True is returned. -/
namespace Rf
open PySem PySem.Spec PyProof.Rows L2

/-! ### the text of such a clause -/
def isEOk (n : Str) : List Str → List Expr → Bool
  | [], [] => true
  | f :: fs, .Call (.Name i _) [.Name m _, .Name y _] [] _ :: es => decide (i = "isinstance") && decide (m = n) && decide (y = f) && isEOk n fs es
  | _, _ => false
def idxOk (o : Expr → Bool) : Stmt → Bool
  | .Return (some (.Call (.Attribute r m apos) [.Constant (.bool b) _ _] [] cpos)) _ => decide (m = "index") && b && (apos.endLine == cpos.line) && o r
  | _ => false
def addOk (n fl : Str) (g : List Str) : Expr → Bool
  | .BinOp (.Name x _) .Add (.List es _) _ => decide (x = fl) && isEOk n g es
  | _ => false
def asgOk (fl : Str) (ok : Expr → Bool) : Stmt → Bool
  | .Assign [.Name x _] e _ => decide (x = fl) && ok e
  | _ => false
def restOk (n fl : Str) : List (List Str) → List Stmt → Bool
  | [g], [st] => idxOk (addOk n fl g) st
  | g :: g2 :: gs, st :: ss => asgOk fl (addOk n fl g) st && restOk n fl (g2 :: gs) ss
  | _, _ => false
def lstOk (n : Str) (g : List Str) : Expr → Bool
  | .List es _ => isEOk n g es
  | _ => false
def suiteOk (n fl : Str) : List (List Str) → List Stmt → Bool
  | [g], [st] => idxOk (lstOk n g) st
  | g :: g2 :: gs, st :: ss => asgOk fl (lstOk n g) st && restOk n fl (g2 :: gs) ss
  | _, _ => false

section
variable {Y : Cx} {a D : Addr} {ei fi : Nat} {n fl : Str} {sub : Str → Bool}
/-- what the suite's context knows -/
structure Hd (Y : Cx) (a D : Addr) (ei fi : Nat) (n fl : Str) (sub : Str → Bool) (fs : List Str) : Prop where
  is : CallR Y (.builtin "isinstance") (rIsE Y.K D a)
  gi : Gl Y "isinstance"
  mi : Y.mg "isinstance" = none
  ne : Y.N[ei]? = some n
  ve : Vis Y.env.scope n ∧ (n == ("__debug__" : Str)) = false ∧ (n == ("__classdict__" : Str)) = false
  fs : ∀ f ∈ fs, Gl Y f ∧ (f == ("__debug__" : Str)) = false ∧ ∃ C, Y.mg f = some (.ref C) ∧ PySem.W.kitOne Y.K (.ref D) (.ref C) = some (sub f)
  nd : Y.N.Nodup
  nf : Y.N[fi]? = some fl
  lf : Y.env.scope.names.lookup fl = some .local
  vf : (fl == ("__debug__" : Str)) = false ∧ (fl == ("__classdict__" : Str)) = false
  ef : ei ≠ fi
def tFs (sub : Str → Bool) (ei : Nat) (a : Addr) (g : List Str) : TA := fun σ H Q => σ[ei]? = some (some (.ref a)) ∧ Q (g.map fun f => V.bl (sub f)) H
theorem h_one {f : Str} {p p1 p2 pos : Pos} {fs : List Str} (h : Hd Y a D ei fi n fl sub fs) (hf : f ∈ fs) : PE Y (.Call (.Name "isinstance" p) [.Name n p1, .Name f p2] [] pos) (fun σ H Q => σ[ei]? = some (some (.ref a)) ∧ Q (.bl (sub f)) H) := by
  obtain ⟨g1, g2, C, g3, g4⟩ := h.fs f hf
  refine L2.PE.imp (t := tCB (rIsE Y.K D a) (tCons (tVar ei) (tCons (tC (.ref C)) tNil))) (pe_callB h.is h.gi h.mi (by decide +kernel) (pa_cons (pe_var h.ne h.ve.1 h.ve.2.1 h.ve.2.2) (pa_cons (pe_glob g1 g3 rfl g2) pa_nil rfl) rfl) (by decide) (by decide) rfl rfl) fun σ H Q ⟨h1, h2⟩ => ?_
  exact ⟨.ref a, h1, .ref C, .ref C, sub f, rfl, fun u r => r, g4, h2⟩
theorem h_list {fs : List Str} (h : Hd Y a D ei fi n fl sub fs) : ∀ {g : List Str} {es : List Expr}, isEOk n g es = true → (∀ f ∈ g, f ∈ fs) → PA Y es (tFs sub ei a g)
  | [], [], _, _ => pa_nil.imp fun σ H Q ⟨_, q⟩ => q
  | f :: g, .Call (.Name i p) [.Name m p1, .Name y p2] [] pos :: es, o, hs => by
    have o : (decide (i = "isinstance") && decide (m = n) && decide (y = f) && isEOk n g es) = true := o
    simp only [Bool.and_eq_true, decide_eq_true_eq] at o
    obtain ⟨⟨⟨e1, e2⟩, e3⟩, o⟩ := o
    rw [e1, e2, e3]
    exact (pa_cons (h_one h (hs _ (List.mem_cons_self ..))) (h_list h o fun f hf => hs f (List.mem_cons_of_mem _ hf)) rfl).imp fun σ H Q ⟨h1, h2⟩ => ⟨h1, h1, h2⟩
/-- a list of these flags, new -/
def tFl (sub : Str → Bool) (ei : Nat) (a : Addr) (g : List Str) : TE := fun σ H Q => σ[ei]? = some (some (.ref a)) ∧ ∀ p, H p = none → Q (.ref p) (upd H p (.lst (g.map fun f => V.bl (sub f))))
theorem h_lst {fs : List Str} {g : List Str} {e : Expr} (h : Hd Y a D ei fi n fl sub fs) (o : lstOk n g e = true) (hs : ∀ f ∈ g, f ∈ fs) (hz : g.length ≤ 1000) : PE Y e (tFl sub ei a g) := by
  unfold lstOk at o
  split at o
  · exact (pe_lst (h_list h o hs)).imp fun σ H Q ⟨h1, h2⟩ => ⟨h1, by rw [List.length_map]; exact Nat.le_trans hz (by decide), h2⟩
  · cases o
/-- fl + a list of flags -/
def tAd (sub : Str → Bool) (ei fi : Nat) (a : Addr) (acc : List Bool) (g : List Str) : TE := fun σ H Q => σ[ei]? = some (some (.ref a)) ∧ (∃ p, σ[fi]? = some (some (.ref p)) ∧ H p = some (.lst (acc.map V.bl))) ∧ ∀ p H', Same H H' → H' p = none → Q (.ref p) (upd H' p (.lst ((acc ++ g.map sub).map V.bl)))
theorem h_add {fs : List Str} {g : List Str} {e : Expr} {acc : List Bool} (h : Hd Y a D ei fi n fl sub fs) (o : addOk n fl g e = true) (hs : ∀ f ∈ g, f ∈ fs) (hz : acc.length + g.length ≤ 1000) : PE Y e (tAd sub ei fi a acc g) := by
  unfold addOk at o
  split at o
  · rename_i x px es p0 pos
    simp only [Bool.and_eq_true, decide_eq_true_eq] at o
    obtain ⟨rfl, o⟩ := o
    refine (pe_op op_catD (pe_var h.nf (.inl h.lf) h.vf.1 h.vf.2) (pe_lst (h_list h o hs))).imp fun σ H Q ⟨h1, ⟨p, h2, h3⟩, h4⟩ => ?_
    refine ⟨.ref p, h2, h1, by rw [List.length_map]; exact Nat.le_trans (by omega : g.length ≤ 1000) (by decide), fun q hq => ?_⟩
    refine ⟨p, q, _, _, rfl, rfl, .of ((same_upd hq) _ _ h3), .of upd_same, by rw [List.length_map, List.length_map]; exact Nat.le_trans hz (by decide), fun r hr => ?_⟩
    have e : acc.map V.bl ++ g.map (fun f => V.bl (sub f)) = (acc ++ g.map sub).map V.bl := by rw [List.map_append, List.map_map]; rfl
    rw [e]
    exact h4 r _ (same_upd hq) hr
  · cases o
theorem first_at : ∀ {bs : List Bool} {d : PyData}, firstTrue bs = .ok d → ∃ j : Nat, d = .int j ∧ bs[j]? = some true ∧ ∀ m, m < j → bs[m]? = some false
  | [], _, e => nomatch e
  | true :: _, _, e => by cases e; exact ⟨0, rfl, rfl, fun m hm => absurd hm (by omega)⟩
  | false :: r, d, e => by
    obtain ⟨x, e1, e2⟩ := bind_ok (show (firstTrue r).bind _ = .ok d from e)
    obtain ⟨j, rfl, h1, h2⟩ := first_at e1
    cases e2
    refine ⟨j + 1, rfl, h1, fun m hm => ?_⟩
    cases m with
    | zero => rfl
    | succ m => exact h2 m (by omega)
/-- .. .index(True) returned -/
def tIdx (K : PySem.W.Frag) (De : Ends) (σ : L2.St) (x : V) (H1 : Hp) : Prop := tyV K "list" x H1 ∧ tCons (tC (.bl true)) tNil σ H1 fun xs H2 => rIndex K x xs H2 De.rt
theorem idx_post {K : PySem.W.Frag} {De : Ends} {σ : L2.St} {l : Addr} {H1 : Hp} {bs : List Bool} {d : PyData} (h1 : H1 l = some (.lst (bs.map V.bl))) (h2 : firstTrue bs = .ok d) (h3 : ∀ j : Nat, d = .int j → De.rt (.int j) H1) : tIdx K De σ (.ref l) H1 := by
  obtain ⟨j, rfl, f1, f2⟩ := first_at h2
  refine ⟨.inl ⟨rfl, _, .inl (.inl h1)⟩, ?_⟩
  refine ⟨l, bs.map V.bl, .bl true, j, .bl true, rfl, rfl, .of h1, rfl, ?_, ?_, rfl, fun m z hm hz => ?_, h3 j rfl⟩
  · rw [List.all_map]; exact List.all_eq_true.mpr fun _ _ => rfl
  · rw [List.getElem?_map, f1]; rfl
  · rw [List.getElem?_map, f2 m hm] at hz
    cases hz
    rfl
theorem h_idx {o : Expr → Bool} {st : Stmt} {te : TE} (ok : idxOk o st = true) (he : ∀ e, o e = true → PE Y e te) (hb : ∀ e, o e = true → attributeBase e "index" Y.env (eval e Y.env) = eval e Y.env) :
    PS Y st (fun De σ H => te σ H fun x H1 => tIdx Y.K De σ x H1) := by
  unfold idxOk at ok
  split at ok
  · rename_i r m apos b k p1 cpos pos
    simp only [Bool.and_eq_true, decide_eq_true_eq] at ok
    obtain ⟨⟨⟨rfl, rfl⟩, hl⟩, hr⟩ := ok
    exact ps_ret (pe_bm PySem.F.plainAttrs_list PySem.F.slot_list_index (by first | exact PySem.F.type_list_index | kernel_rfl) mt_index (he r hr) (pa_cons pe_bl pa_nil rfl) (hb r hr) rfl hl rfl rfl)
  · cases ok
/-- the clause's end: the place is returned -/
def Fin (De : Ends) (H : Hp) (bs : List Bool) : Prop := ∃ d, firstTrue bs = .ok d ∧ ∀ (j : Nat) H', d = .int j → Same H H' → De.rt (.int j) H'
theorem Fin.go {De : Ends} {H H' : Hp} {bs : List Bool} (h : Fin De H bs) (s : Same H H') : Fin De H' bs := let ⟨d, h1, h2⟩ := h; ⟨d, h1, fun j H2 e s2 => h2 j H2 e (s.trans s2)⟩
def tRest (sub : Str → Bool) (ei fi : Nat) (a : Addr) (acc : List Bool) (gs : List (List Str)) : TS := fun De σ H => σ[ei]? = some (some (.ref a)) ∧ fi < σ.length ∧ (∃ p, σ[fi]? = some (some (.ref p)) ∧ H p = some (.lst (acc.map V.bl))) ∧ Fin De H (acc ++ gs.flatten.map sub)
theorem h_asg {ok : Expr → Bool} {st : Stmt} {te : TE} {fs : List Str} (h : Hd Y a D ei fi n fl sub fs) (o : asgOk fl ok st = true) (he : ∀ e, ok e = true → PE Y e te) (hs : ∀ e t l, ok e = true → swapsWith e t l Y.env = pure false) : PS Y st (tAsg te (gName fi)) := by
  unfold asgOk at o
  split at o
  · obtain ⟨o1, o2⟩ := (Bool.and_eq_true _ _).mp o
    have o1 := of_decide_eq_true o1
    subst o1
    exact ps_set h.nd h.nf (.inl h.lf) (he _ o2) (hs _ _ _ o2) (.inr h.lf)
  · cases o
theorem add_sw {g : List Str} {env : PySem.Env} (e : Expr) (t : Option Expr) (l : Nat) (o : addOk n fl g e = true) : swapsWith e t l env = pure false ∧ attributeBase e "index" env (eval e env) = eval e env := by
  unfold addOk at o
  split at o
  · exact ⟨rfl, rfl⟩
  · cases o
theorem lst_sw {g : List Str} {env : PySem.Env} (e : Expr) (t : Option Expr) (l : Nat) (o : lstOk n g e = true) : swapsWith e t l env = pure false ∧ attributeBase e "index" env (eval e env) = eval e env := by
  unfold lstOk at o
  split at o
  · exact ⟨rfl, rfl⟩
  · cases o
theorem h_rest {fs : List Str} (h : Hd Y a D ei fi n fl sub fs) : ∀ (gs : List (List Str)) {ss : List Stmt} {acc : List Bool}, restOk n fl gs ss = true → (∀ f ∈ gs.flatten, f ∈ fs) → acc.length + gs.flatten.length ≤ 1000 → PSs Y ss (tRest sub ei fi a acc gs) := by
  intro gs
  induction gs with
  | nil => intro ss acc o; exact absurd (show false = true from o) (by decide)
  | cons g gs ih =>
    intro ss acc o hs hz
    have hg : ∀ f ∈ g, f ∈ fs := fun f hf => hs f (by rw [List.flatten_cons]; exact List.mem_append_left _ hf)
    rw [List.flatten_cons, List.length_append] at hz
    have hz1 : acc.length + g.length ≤ 1000 := by omega
    cases gs with
    | nil =>
      match ss, o with
      | [st], o =>
        refine (pss_one (h_idx (show idxOk (addOk n fl g) st = true from o) (fun e o => h_add (acc := acc) h o hg hz1) fun e o => (add_sw e none 0 o).2)).imp fun De σ H ⟨h1, h2, h3, d, h4, h5⟩ => ?_
        refine ⟨h1, h3, fun p H' s hp => idx_post upd_same (d := d) ?_ fun j e => h5 j _ e (s.trans (same_upd hp))⟩
        rw [← h4]
        simp
      | [], o => exact absurd (show false = true from o) (by decide)
      | _ :: _ :: _, o => exact absurd (show false = true from o) (by decide)
    | cons g2 gs2 =>
      match ss, o with
      | [], o => exact absurd (show false = true from o) (by decide)
      | st :: ss2, o =>
        obtain ⟨o1, o2⟩ := (Bool.and_eq_true _ _).mp (show (asgOk fl (addOk n fl g) st && restOk n fl (g2 :: gs2) ss2) = true from o)
        refine (pss_cons (h_asg h o1 (fun e o => h_add (acc := acc) h o hg hz1) fun e t l o => (add_sw e t l o).1) (ih (acc := acc ++ g.map sub) o2 (fun f hf => hs f (by rw [List.flatten_cons]; exact List.mem_append_right _ hf)) (by rw [List.length_append, List.length_map]; omega))).imp fun De σ H ⟨h1, hlt, h2, h3⟩ => ?_
        refine ⟨h1, h2, fun q H' s hq => ⟨?_, by rw [List.length_set]; exact hlt, ⟨q, List.getElem?_set_self hlt, upd_same⟩, ?_⟩⟩
        · rw [List.getElem?_set_ne h.ef.symm]; exact h1
        · have e : acc ++ g.map sub ++ (g2 :: gs2).flatten.map sub = acc ++ (g :: g2 :: gs2).flatten.map sub := by simp
          rw [e]
          exact h3.go (s.trans (same_upd hq))
def tSuite (sub : Str → Bool) (ei fi : Nat) (a : Addr) (gs : List (List Str)) : TS := fun De σ H => σ[ei]? = some (some (.ref a)) ∧ fi < σ.length ∧ Fin De H (gs.flatten.map sub)
theorem h_suite {fs : List Str} (h : Hd Y a D ei fi n fl sub fs) {gs : List (List Str)} {ss : List Stmt} (o : suiteOk n fl gs ss = true) (hs : ∀ f ∈ gs.flatten, f ∈ fs) (hz : gs.flatten.length ≤ 1000) : PSs Y ss (tSuite sub ei fi a gs) := by
  match gs, ss, o with
  | [], _, o => exact absurd (show false = true from o) (by decide)
  | [g], [], o => exact absurd (show false = true from o) (by decide)
  | [g], _ :: _ :: _, o => exact absurd (show false = true from o) (by decide)
  | [g], [st], o =>
    rw [List.flatten_cons, List.flatten_nil, List.append_nil] at hs hz
    refine (pss_one (h_idx (show idxOk (lstOk n g) st = true from o) (fun e o => h_lst h o hs hz) fun e o => (lst_sw e none 0 o).2)).imp fun De σ H ⟨h1, h2, d, h4, h5⟩ => ?_
    refine ⟨h1, fun p hp => idx_post (bs := g.map sub) (by rw [upd_same, List.map_map]; rfl) (d := d) ?_ fun j e => h5 j _ e (same_upd hp)⟩
    rw [← h4]
    simp
  | g :: g2 :: gs, [], o => exact absurd (show false = true from o) (by decide)
  | g :: g2 :: gs, st :: ss', o =>
    obtain ⟨o1, o2⟩ := (Bool.and_eq_true _ _).mp (show (asgOk fl (lstOk n g) st && restOk n fl (g2 :: gs) ss') = true from o)
    rw [List.flatten_cons] at hs hz
    rw [List.length_append] at hz
    refine (pss_cons (h_asg h o1 (fun e o => h_lst h o (fun f hf => hs f (List.mem_append_left _ hf)) (by omega)) fun e t l o => (lst_sw e t l o).1) (h_rest h (g2 :: gs) (acc := g.map sub) o2 (fun f hf => hs f (List.mem_append_right _ hf)) (by rw [List.length_map]; omega))).imp fun De σ H ⟨h1, hlt, h3⟩ => ?_
    refine ⟨h1, fun q hq => ⟨?_, by rw [List.length_set]; exact hlt, ⟨q, List.getElem?_set_self hlt, ?_⟩, ?_⟩⟩
    · rw [List.getElem?_set_ne h.ef.symm]; exact h1
    · rw [upd_same, List.map_map]; rfl
    · have e : g.map sub ++ (g2 :: gs).flatten.map sub = (g :: g2 :: gs).flatten.map sub := by simp
      rw [e]
      exact h3.go (same_upd hq)
end
end Rf

set_option Elab.async false
set_option linter.all false
set_option maxHeartbeats 1600000
set_option maxRecDepth 100000
/-! Rf, part U: sets made of lists, tuples, texts. -/
namespace Rf
open PySem PySem.Spec PyProof.Rows L2

section
variable {P : Program} {w : World} {A : Around} {E : Value → Shared → Prop} {s : Shared}
abbrev freshSet (w : World) : Obj := { cls := .type "set", dict := none, data := .set #[] 0 (.fresh 0 0 (!w.params.followText "set-order")) }
/-- how a set grows: what is true of it behind i items -/
structure Grow (P : Program) (w : World) (S : Addr) (n : Nat) (Pv : Nat → Value → Prop) (Pr : Nat → Heap → Prop) : Prop where
  keep : ∀ i h h', Pr i h → (∀ o, h.get? S = some o → h'.get? S = some o) → Pr i h'
  add : ∀ (A : Around) (E : Value → Shared → Prop) (i : Nat) (v : Value) (s : Shared) (Q : Bool → Shared → Prop), A.handled = none → i < n → Pv i v → Pr i s.heap → (∀ b h' tk, s.toks ≤ tk → Heap.SameBut S s.heap h' → Pr (i + 1) h' → Q b { s with heap := h', toks := tk }) → wpAny (model P w) A (setAdd S v) Q E s
theorem grow_loop {I : Addr} {fp wr : List Addr} {G : Array GenState → Array GenState → Prop} {n : Nat} {Pv : Nat → Value → Prop} {St : Nat → Shared → Prop} {S : Addr} {Pr : Nat → Heap → Prop} {R : Result → Shared → Prop} (hh : A.in1.handled = none) (g : Grow P w S n Pv Pr) (W : WalksS P w A.in1 I fp wr G n Pv St) (hS : S ∉ fp) :
    ∀ (m i : Nat) (s : Shared), n - i = m → i ≤ n → St i s → Pr i s.heap → (∀ s', Moved (S :: wr) G s s' → Pr n s'.heap → R (.ok (.ret .none)) s') → codeAny (model P w) A (.builtin "set.update.loop" ⟨[.ref S, .ref I], []⟩) R s := by
  have nw : S ∉ wr := fun z => hS (W.sub _ z)
  have sub : ∀ b ∈ wr, b ∈ S :: wr := fun b z => List.mem_cons_of_mem _ z
  intro m
  induction m with
  | zero =>
    intro i s e1 e2 st pr k
    have e : i = n := by omega
    subst e
    refine codeAny_builtin F.entry_set_update_loop ?_
    rw [Around.under_plainId F.plain_set_update_loop _]
    refine wpAny_bind (m := pyNext (.ref I)) (W.done s _ _ st fun s' mv => ?_)
    exact wpAny_pure (k s' (mv.mono sub) (g.keep _ _ _ pr fun o e => mv.heap S o nw e))
  | succ m ih =>
    intro i s e1 e2 st pr k
    have lt : i < n := by omega
    refine codeAny_builtin F.entry_set_update_loop ?_
    rw [Around.under_plainId F.plain_set_update_loop _]
    refine wpAny_bind (m := pyNext (.ref I)) (W.item i s _ _ lt st fun v s' pv st' mv => ?_)
    have pr' := g.keep _ _ _ pr fun o e => mv.heap S o nw e
    refine wpAny_bind (m := holding [v] (setAdd S v)) (wpAny_holding (g.add A.in1 _ i v s' _ hh lt pv pr' fun b h' tk ht sb pr2 => ?_))
    refine wpAny_pure ⟨plainId_quiet F.plain_set_update_loop _, ih (i + 1) _ (by omega) lt (W.frame _ s' _ _ st' ht fun c hc o e => ?_) pr2 fun s3 mv3 pr3 => ?_⟩
    · rw [sb.2 c (fun z : c = S => hS (by rw [← z]; exact hc))]; exact e
    · refine k s3 (Moved.trans W.gtrans ((mv.mono sub).then_heap ht fun c o hc e => ?_) mv3) pr3
      rw [sb.2 c (fun z : c = S => hc (by rw [z]; exact List.mem_cons_self))]; exact e
end


section
variable {P : Program} {w : World} {A : Around} {E : Value → Shared → Prop} {s : Shared}
set_option maxHeartbeats 3200000 in
theorem set_of_list {l : Addr} {its : Array Value} {Pr : Nat → Heap → Prop} {Q : Value → Shared → Prop} (hh : A.handled = none) (hl : s.heap.IsList l its)
    (g : Grow P w s.heap.objs.size its.size (fun i v => its[i]? = some v) Pr) (h0 : ∀ h : Heap, h.get? s.heap.objs.size = some (freshSet w) → Pr 0 h)
    (done : ∀ h' tk, Pr its.size h' → (∀ b o, s.heap.get? b = some o → h'.get? b = some o) → Q (.ref s.heap.objs.size) { s with heap := h', toks := tk }) : wpAny (model P w) A (call (.type "set") [.ref l]) Q E s := by
  have tc := PySem.F.typeCall_set_1 (.ref l)
  obtain ⟨c, tl, mro⟩ := PySem.F.called_set.mro
  have made := PySem.F.called_set.made
  have sub := PySem.F.called_set.sub
  refine wpAny_call (codeAny_of_tree ?_)
  show wpAny _ _ (callAny (.type "set") _) _ _ _
  refine wpAny_pure ⟨Code.quiet_builtin _ (by decide +kernel), codeAny_builtin PySem.F.entry_type_call ?_⟩
  rw [Around.under_plain (weight_type_call_type "set" [.ref l] []) rfl]
  have nt := PySem.F.called_set.notType
  have cc := PySem.F.called_set.canCreate
  repeat (any_goals (first | assumption | wp_step))
  refine codeAny_mono (code_set_led1 (.ref l) (E := E) (Q₁ := fun obj s1 => obj = .ref s.heap.objs.size ∧ s1 = { s with heap := s.heap.push (freshSet w) }) ⟨rfl, rfl⟩) fun r s1 hr => ?_
  cases r with
  | error e => exact hr
  | ok fl =>
    cases fl with
    | ret obj =>
      obtain ⟨rfl, rfl⟩ := hr
      have eS : (s.heap.push (freshSet w)).get? s.heap.objs.size = some (freshSet w) := Heap.get?_push_size _ rfl
      have tS : Shared.TypeIs { s with heap := s.heap.push (freshSet w) } (.ref s.heap.objs.size) "set" := ⟨_, eS, rfl⟩
      have il := PySem.F.called_set.init.lookup
      have ib := PySem.F.called_set.init.bind (.ref s.heap.objs.size)
      repeat (any_goals (first | assumption | wp_step))
      refine codeAny_mono (codeAny_call_builtin (R := wants (fun r s2 => r = .none ∧ ∃ h' tk, s2 = { s with heap := h', toks := tk } ∧ Pr its.size h' ∧ (∀ b o, s.heap.get? b = some o → h'.get? b = some o)) E) PySem.F.called_set.init.plain PySem.F.entry_set_init (check_set_init_1 tS ?_)) fun r2 s2 hr2 => ?_
      · have h3 : A.in1.in1.in1.handled = none := by simp [hh]
        have zS : (s.heap.push (freshSet w)).objs.size = s.heap.objs.size + 1 := Heap.size_push ..
        have u1 := PySem.F.sub_list_set
        have u2 := PySem.F.sub_list_frozenset
        have u3 : (Value.type "list" == Value.type "dict") = false := by decide
        have ll : l < s.heap.objs.size := let ⟨_, q, _⟩ := hl; Heap.lt_size q
        have h1 : (s.heap.push (freshSet w)).IsList l its := hl.push _
        obtain ⟨ol, q1, q2, nl, q3⟩ := id h1
        obtain ⟨cls, dct, dat, sl⟩ := ol
        simp only at q2 q3
        subst q2 q3
        have ne : l ≠ (s.heap.push (freshSet w)).objs.size := by rw [zS]; exact Nat.ne_of_lt (Nat.lt_succ_of_lt ll)
        unfold Builtin.«set.__init__» noKeywords Builtin.Frozenset.updateFrom
        generalize ePI : pyIter = PI
        wp_walk
        subst ePI
        refine wpAny_pyIter_list h1 ?_
        refine wpAny_bind (wpAny_runValue ?_)
        have fpS : s.heap.objs.size ∉ [(s.heap.push (freshSet w)).objs.size, l] := by
          rw [Heap.size_push]; simp only [List.mem_cons, List.not_mem_nil, or_false, not_or]
          exact ⟨Nat.ne_of_lt (Nat.lt_succ_self _), Nat.ne_of_gt ll⟩
        refine grow_loop h3 g (Walks.list h3 _ l ne its).toS fpS (its.size - 0) 0 _ (by omega) (Nat.zero_le _) ⟨⟨_, Heap.get?_push_size _ rfl, rfl, rfl⟩, h1.push _⟩ (h0 _ (Heap.get?_push_of_some _ eS)) fun s' mv pr => ?_
        obtain ⟨h', g2, d', tk', os'⟩ := s'
        have eg : g2 = s.gens := mv.gens
        have ed : d' = s.drawn := mv.drawn
        have eo : os' = s.os := mv.os
        subst eg; subst ed; subst eo
        show wpAny _ _ _ _ _ _
        refine wpAny_pure ?_
        show wpAny _ _ (ret Value.none) _ _ _
        refine wpAny_pure ⟨rfl, h', tk', rfl, pr, fun b o e => ?_⟩
        have lt : b < s.heap.objs.size := Heap.lt_size e
        refine mv.heap b o ?_ (Heap.get?_push_of_some _ (Heap.get?_push_of_some _ e))
        rw [zS]
        simp only [List.mem_cons, List.not_mem_nil, or_false, not_or]
        exact ⟨Nat.ne_of_lt lt, Nat.ne_of_lt (Nat.lt_succ_of_lt lt)⟩
      · cases r2 with
        | error e => exact hr2
        | ok f2 =>
          cases f2 with
          | ret r =>
            obtain ⟨rfl, h', tk, rfl, pr, k⟩ := hr2
            repeat (any_goals (first | assumption | wp_step))
            exact done _ _ pr k
          | _ => exact hr2.elim
    | _ => exact hr.elim
end


section
variable {P : Program} {w : World} {A : Around} {E : Value → Shared → Prop} {s : Shared}
set_option maxHeartbeats 3200000 in
theorem set_of_tuple {l : Addr} {its : Array Value} {Pr : Nat → Heap → Prop} {Q : Value → Shared → Prop} (hh : A.handled = none) (hl : s.heap.IsTuple l its)
    (g : Grow P w s.heap.objs.size its.size (fun i v => its[i]? = some v) Pr) (h0 : ∀ h : Heap, h.get? s.heap.objs.size = some (freshSet w) → Pr 0 h)
    (done : ∀ h' tk, Pr its.size h' → (∀ b o, s.heap.get? b = some o → h'.get? b = some o) → Q (.ref s.heap.objs.size) { s with heap := h', toks := tk }) : wpAny (model P w) A (call (.type "set") [.ref l]) Q E s := by
  have tc := PySem.F.typeCall_set_1 (.ref l)
  obtain ⟨c, tl, mro⟩ := PySem.F.called_set.mro
  have made := PySem.F.called_set.made
  have sub := PySem.F.called_set.sub
  refine wpAny_call (codeAny_of_tree ?_)
  show wpAny _ _ (callAny (.type "set") _) _ _ _
  refine wpAny_pure ⟨Code.quiet_builtin _ (by decide +kernel), codeAny_builtin PySem.F.entry_type_call ?_⟩
  rw [Around.under_plain (weight_type_call_type "set" [.ref l] []) rfl]
  have nt := PySem.F.called_set.notType
  have cc := PySem.F.called_set.canCreate
  repeat (any_goals (first | assumption | wp_step))
  refine codeAny_mono (code_set_led1 (.ref l) (E := E) (Q₁ := fun obj s1 => obj = .ref s.heap.objs.size ∧ s1 = { s with heap := s.heap.push (freshSet w) }) ⟨rfl, rfl⟩) fun r s1 hr => ?_
  cases r with
  | error e => exact hr
  | ok fl =>
    cases fl with
    | ret obj =>
      obtain ⟨rfl, rfl⟩ := hr
      have eS : (s.heap.push (freshSet w)).get? s.heap.objs.size = some (freshSet w) := Heap.get?_push_size _ rfl
      have tS : Shared.TypeIs { s with heap := s.heap.push (freshSet w) } (.ref s.heap.objs.size) "set" := ⟨_, eS, rfl⟩
      have il := PySem.F.called_set.init.lookup
      have ib := PySem.F.called_set.init.bind (.ref s.heap.objs.size)
      repeat (any_goals (first | assumption | wp_step))
      refine codeAny_mono (codeAny_call_builtin (R := wants (fun r s2 => r = .none ∧ ∃ h' tk, s2 = { s with heap := h', toks := tk } ∧ Pr its.size h' ∧ (∀ b o, s.heap.get? b = some o → h'.get? b = some o)) E) PySem.F.called_set.init.plain PySem.F.entry_set_init (check_set_init_1 tS ?_)) fun r2 s2 hr2 => ?_
      · have h3 : A.in1.in1.in1.handled = none := by simp [hh]
        have zS : (s.heap.push (freshSet w)).objs.size = s.heap.objs.size + 1 := Heap.size_push ..
        have u1 := PySem.F.sub_tuple_set
        have u2 := PySem.F.sub_tuple_frozenset
        have u3 : (Value.type "tuple" == Value.type "dict") = false := by decide
        have ll : l < s.heap.objs.size := let ⟨_, q, _⟩ := hl; Heap.lt_size q
        have h1 : (s.heap.push (freshSet w)).IsTuple l its := hl.push _
        obtain ⟨ol, q1, q2, nl, q3⟩ := id h1
        obtain ⟨cls, dct, dat, sl⟩ := ol
        simp only at q2 q3
        subst q2 q3
        have ne : l ≠ (s.heap.push (freshSet w)).objs.size := by rw [zS]; exact Nat.ne_of_lt (Nat.lt_succ_of_lt ll)
        unfold Builtin.«set.__init__» noKeywords Builtin.Frozenset.updateFrom
        generalize ePI : pyIter = PI
        wp_walk
        subst ePI
        refine wpAny_pyIter_tuple h1 ?_
        refine wpAny_bind (wpAny_runValue ?_)
        have fpS : s.heap.objs.size ∉ [(s.heap.push (freshSet w)).objs.size, l] := by
          rw [Heap.size_push]; simp only [List.mem_cons, List.not_mem_nil, or_false, not_or]
          exact ⟨Nat.ne_of_lt (Nat.lt_succ_self _), Nat.ne_of_gt ll⟩
        refine grow_loop h3 g (Walks.tuple h3 _ l ne its).toS fpS (its.size - 0) 0 _ (by omega) (Nat.zero_le _) ⟨⟨_, Heap.get?_push_size _ rfl, rfl, rfl⟩, h1.push _⟩ (h0 _ (Heap.get?_push_of_some _ eS)) fun s' mv pr => ?_
        obtain ⟨h', g2, d', tk', os'⟩ := s'
        have eg : g2 = s.gens := mv.gens
        have ed : d' = s.drawn := mv.drawn
        have eo : os' = s.os := mv.os
        subst eg; subst ed; subst eo
        show wpAny _ _ _ _ _ _
        refine wpAny_pure ?_
        show wpAny _ _ (ret Value.none) _ _ _
        refine wpAny_pure ⟨rfl, h', tk', rfl, pr, fun b o e => ?_⟩
        have lt : b < s.heap.objs.size := Heap.lt_size e
        refine mv.heap b o ?_ (Heap.get?_push_of_some _ (Heap.get?_push_of_some _ e))
        rw [zS]
        simp only [List.mem_cons, List.not_mem_nil, or_false, not_or]
        exact ⟨Nat.ne_of_lt lt, Nat.ne_of_lt (Nat.lt_succ_of_lt lt)⟩
      · cases r2 with
        | error e => exact hr2
        | ok f2 =>
          cases f2 with
          | ret r =>
            obtain ⟨rfl, h', tk, rfl, pr, k⟩ := hr2
            repeat (any_goals (first | assumption | wp_step))
            exact done _ _ pr k
          | _ => exact hr2.elim
    | _ => exact hr.elim
end


section
variable {P : Program} {w : World} {A : Around} {E : Value → Shared → Prop} {s : Shared}
set_option maxHeartbeats 3200000 in
theorem set_of_text {z : Str} {t : Tok} {Pr : Nat → Heap → Prop} {Q : Value → Shared → Prop} (hh : A.handled = none)
    (g : Grow P w s.heap.objs.size z.cps.size (SignAt z) Pr) (h0 : ∀ h : Heap, h.get? s.heap.objs.size = some (freshSet w) → Pr 0 h)
    (done : ∀ h' tk, Pr z.cps.size h' → (∀ b o, s.heap.get? b = some o → h'.get? b = some o) → Q (.ref s.heap.objs.size) { s with heap := h', toks := tk }) : wpAny (model P w) A (call (.type "set") [.str z t]) Q E s := by
  have tc := PySem.F.typeCall_set_1 (.str z t)
  obtain ⟨c, tl, mro⟩ := PySem.F.called_set.mro
  have made := PySem.F.called_set.made
  have sub := PySem.F.called_set.sub
  refine wpAny_call (codeAny_of_tree ?_)
  show wpAny _ _ (callAny (.type "set") _) _ _ _
  refine wpAny_pure ⟨Code.quiet_builtin _ (by decide +kernel), codeAny_builtin PySem.F.entry_type_call ?_⟩
  rw [Around.under_plain (weight_type_call_type "set" [.str z t] []) rfl]
  have nt := PySem.F.called_set.notType
  have cc := PySem.F.called_set.canCreate
  repeat (any_goals (first | assumption | wp_step))
  refine codeAny_mono (code_set_led1 (.str z t) (E := E) (Q₁ := fun obj s1 => obj = .ref s.heap.objs.size ∧ s1 = { s with heap := s.heap.push (freshSet w) }) ⟨rfl, rfl⟩) fun r s1 hr => ?_
  cases r with
  | error e => exact hr
  | ok fl =>
    cases fl with
    | ret obj =>
      obtain ⟨rfl, rfl⟩ := hr
      have eS : (s.heap.push (freshSet w)).get? s.heap.objs.size = some (freshSet w) := Heap.get?_push_size _ rfl
      have tS : Shared.TypeIs { s with heap := s.heap.push (freshSet w) } (.ref s.heap.objs.size) "set" := ⟨_, eS, rfl⟩
      have il := PySem.F.called_set.init.lookup
      have ib := PySem.F.called_set.init.bind (.ref s.heap.objs.size)
      repeat (any_goals (first | assumption | wp_step))
      refine codeAny_mono (codeAny_call_builtin (R := wants (fun r s2 => r = .none ∧ ∃ h' tk, s2 = { s with heap := h', toks := tk } ∧ Pr z.cps.size h' ∧ (∀ b o, s.heap.get? b = some o → h'.get? b = some o)) E) PySem.F.called_set.init.plain PySem.F.entry_set_init (check_set_init_1 tS ?_)) fun r2 s2 hr2 => ?_
      · have h3 : A.in1.in1.in1.handled = none := by simp [hh]
        have zS : (s.heap.push (freshSet w)).objs.size = s.heap.objs.size + 1 := Heap.size_push ..
        have u1 := PySem.F.sub_str_set
        have u2 := PySem.F.sub_str_frozenset
        have u3 : (Value.type "str" == Value.type "dict") = false := by decide
        have ts := typeIs_str { s with heap := s.heap.push (freshSet w) } z t
        unfold Builtin.«set.__init__» noKeywords Builtin.Frozenset.updateFrom
        generalize ePI : pyIter = PI
        wp_walk
        subst ePI
        refine wpAny_pyIter_str fun o St W st0 => ?_
        refine wpAny_bind (wpAny_runValue ?_)
        have fpS : s.heap.objs.size ∉ [(s.heap.push (freshSet w)).objs.size] := by
          rw [Heap.size_push]; simp only [List.mem_cons, List.not_mem_nil, or_false, not_or]
          exact Nat.ne_of_lt (Nat.lt_succ_self _)
        refine grow_loop h3 g (W _ h3).toS fpS (z.cps.size - 0) 0 _ (by omega) (Nat.zero_le _) st0 (h0 _ (Heap.get?_push_of_some _ eS)) fun s' mv pr => ?_
        obtain ⟨h', g2, d', tk', os'⟩ := s'
        have eg : g2 = s.gens := mv.gens
        have ed : d' = s.drawn := mv.drawn
        have eo : os' = s.os := mv.os
        subst eg; subst ed; subst eo
        show wpAny _ _ _ _ _ _
        refine wpAny_pure ?_
        show wpAny _ _ (ret Value.none) _ _ _
        refine wpAny_pure ⟨rfl, h', tk', rfl, pr, fun b o e => ?_⟩
        have lt : b < s.heap.objs.size := Heap.lt_size e
        refine mv.heap b o ?_ (Heap.get?_push_of_some _ (Heap.get?_push_of_some _ e))
        rw [zS]
        simp only [List.mem_cons, List.not_mem_nil, or_false, not_or]
        exact ⟨Nat.ne_of_lt lt, Nat.ne_of_lt (Nat.lt_succ_of_lt lt)⟩
      · cases r2 with
        | error e => exact hr2
        | ok f2 =>
          cases f2 with
          | ret r =>
            obtain ⟨rfl, h', tk, rfl, pr, k⟩ := hr2
            repeat (any_goals (first | assumption | wp_step))
            exact done _ _ pr k
          | _ => exact hr2.elim
    | _ => exact hr.elim
end

end Rf

set_option Elab.async false
set_option linter.all false
set_option maxHeartbeats 1600000
/-! Rf, part U2: len(set(x)), sorted(set(x)). -/
namespace Rf
open PySem PySem.Spec PyProof.Rows L2

theorem distinct_snoc {α : Type} [DecidableEq α] : ∀ (l : List α) (x : α), (distinct (l ++ [x])).length = if x ∈ l then (distinct l).length else (distinct l).length + 1
  | [], x => by simp [distinct]
  | y :: l, x => by
    have ih := distinct_snoc l x
    rw [List.cons_append, distinct, distinct]
    have e : (y ∈ l ++ [x]) ↔ (y ∈ l ∨ y = x) := by simp
    by_cases h1 : y ∈ l
    · have h2 : y ∈ l ++ [x] := e.mpr (.inl h1)
      rw [decide_eq_true h1, decide_eq_true h2]
      by_cases h3 : x = y
      · subst h3; simp only [ih, h1, if_true, List.mem_cons, true_or]
      · simp only [ih, List.mem_cons, h3, false_or]
    · rw [decide_eq_false h1]
      by_cases h3 : y = x
      · subst h3
        have h2 : y ∈ l ++ [y] := e.mpr (.inr rfl)
        rw [decide_eq_true h2]
        simp only [ih, h1, if_false, List.mem_cons, true_or, if_true, List.length_cons]
      · have h2 : ¬ y ∈ l ++ [x] := fun z => (e.mp z).elim h1 h3
        rw [decide_eq_false h2]
        have h4 : ¬ x = y := fun z => h3 z.symm
        simp only [List.length_cons, ih, List.mem_cons, h4, false_or]
        split <;> rfl
theorem distinct_len {α : Type} [DecidableEq α] : ∀ l : List α, (distinct l).length ≤ l.length
  | [] => Nat.le_refl _
  | x :: l => by
    rw [distinct]
    have := distinct_len l
    split <;> simp only [List.length_cons] <;> omega
section
variable {P : Program} {w : World}
def PrI (w : World) (S : Addr) (is : List Int) (i : Nat) (h : Heap) : Prop := SetR w h S (fun j => decide (j ∈ is.take i)) (distinct (is.take i)).length
theorem grow_ints {S : Addr} {n : Nat} {Pv : Nat → Value → Prop} {is : List Int} (hl : is.length = n) (hn : n + 1 < scanBound) (hv : ∀ i v, Pv i v → ∃ k t, is[i]? = some k ∧ v = .int k t) : Grow P w S n Pv (PrI w S is) where
  keep := fun i h h' p k => SetR.at p k
  add := fun A E i v s Q hh hi pv pr k => by
    obtain ⟨z, t, hz, rfl⟩ := hv i v pv
    have hc : (distinct (is.take i)).length ≤ i := Nat.le_trans (distinct_len _) (by rw [List.length_take]; exact Nat.min_le_left ..)
    unfold setAdd
    refine wpAny_holding (wpAny_bind ((intKind P w).pyHash (k := z) (intKind_is _ _ _ _) ?_))
    refine setR_add_hashed (s := { s with toks := s.toks + 1 }) pr (by omega) fun h' sb r => ?_
    refine k _ h' (s.toks + 1) (Nat.le_succ _) sb ?_
    unfold PrI
    have e1 : is.take (i + 1) = is.take i ++ [z] := by rw [List.take_add_one, hz]; rfl
    rw [e1, distinct_snoc]
    have e2 : (if decide (z ∈ is.take i) = true then (distinct (is.take i)).length else (distinct (is.take i)).length + 1) = if z ∈ is.take i then (distinct (is.take i)).length else (distinct (is.take i)).length + 1 := by
      by_cases q : z ∈ is.take i <;> simp [q]
    rw [← e2]
    refine r.congr fun j => ?_
    by_cases q : j ∈ is.take i <;> by_cases q2 : j = z <;> simp [q, q2]
/-! ### sets of texts, with what their walk needs -/
def keyZ (e : Int × Value) : Str := match e.2 with | .str z _ => z | _ => ⟨#[]⟩
def GoodZ (P : Program) (w : World) (e : Int × Value) : Prop := ∃ z t, e.2 = Value.str z t ∧ e.1 = (PySem.strKind P w).hash z
def SetQ (P : Program) (w : World) (h : Heap) (a : Addr) (S : Str → Bool) (n : Nat) : Prop :=
  ∃ o es ep t, h.get? a = some o ∧ o.ExactSet ∧ o.data = .set es ep t ∧ (∀ e ∈ es.toList, GoodZ P w e) ∧ (es.toList.map keyZ).Nodup ∧ (∀ k, S k = true ↔ k ∈ es.toList.map keyZ) ∧
    es.size < scanBound ∧ t.fits es.size = true ∧ es.size = n ∧ Ris t.place.toList ∧ (w.params.followText "set-order" = true ∨ t.led = true)
theorem goodZ_elems {l : List (Int × Value)} (g : ∀ e ∈ l, GoodZ P w e) : ElemsOf (PySem.strKind P w) l := fun e he => by
  obtain ⟨z, t, h1, h2⟩ := g e he
  exact ⟨⟨z, by rw [h1]; show (z == z) = true; simp, h2⟩, by rw [h1]; rfl⟩
theorem goodZ_is {e : Int × Value} (g : GoodZ P w e) (k : Str) : (PySem.strKind P w).is k e.2 = true ↔ keyZ e = k := by
  obtain ⟨z, t, h1, _⟩ := g
  unfold keyZ
  rw [h1]
  first
    | (show ((z == k) = true) ↔ z = k; exact beq_iff_eq)
    | (show ((k == z) = true) ↔ z = k; rw [beq_iff_eq]; exact eq_comm)
theorem goodZ_mem {l : List (Int × Value)} (g : ∀ e ∈ l, GoodZ P w e) (k : Str) : k ∈ l.map keyZ ↔ ∃ e ∈ l, (PySem.strKind P w).is k e.2 = true := by
  rw [List.mem_map]
  exact ⟨fun ⟨e, he, q⟩ => ⟨e, he, (goodZ_is (g e he) k).2 q⟩, fun ⟨e, he, q⟩ => ⟨e, he, (goodZ_is (g e he) k).1 q⟩⟩
theorem SetQ.at {h h' : Heap} {a : Addr} {S : Str → Bool} {n : Nat} (R : SetQ P w h a S n) (k : ∀ o, h.get? a = some o → h'.get? a = some o) : SetQ P w h' a S n := by
  obtain ⟨o, es, ep, t, ho, r⟩ := R
  exact ⟨o, es, ep, t, k o ho, r⟩
/-- the new member is laid, then perhaps all are laid anew -/
theorem setQ_tail {A : Around} {E : Value → Shared → Prop} {s : Shared} {a : Addr} {g : Bool → Sem Unit} (hg : ∀ (b : Bool) (s₁ : Shared) (Q' : Unit → Shared → Prop), Q' () s₁ → wpAny (model P w) A (g b) Q' E s₁)
    {o : Obj} {es : Array (Int × Value)} {ep : Nat} {t : SetTable} (ho : s.heap.get? a = some o) (hex : o.ExactSet) (hd : o.data = .set es ep t)
    {es1 : Array (Int × Value)} {t2 : SetTable} {S' : Str → Bool} (g1 : ∀ e ∈ es1.toList, GoodZ P w e) (nd1 : (es1.toList.map keyZ).Nodup) (m1 : ∀ k, S' k = true ↔ k ∈ es1.toList.map keyZ)
    (hb1 : es1.size < scanBound) (hf2 : t2.fits es1.size = true) (hr : Ris t2.place.toList) (hl : w.params.followText "set-order" = true ∨ t2.led = true) {wasDummy : Bool} {R : Option Bool → Shared → Prop}
    (hR : ∀ h', Heap.SameBut a s.heap h' → SetQ P w h' a S' es1.size → R (some true) { s with heap := h' }) :
    wpAny (model P w) A (do
        storeSet a es1 t2
        if (!wasDummy && t2.tooFull) = true then do
            g (relayAll t2 es1 (SetTable.grown es1.size)).2.2
            storeSet a (relayAll t2 es1 (SetTable.grown es1.size)).1 (relayAll t2 es1 (SetTable.grown es1.size)).2.1
            pure (some true)
          else pure (some true)) R E s := by
  have o1 := L2.store_at (es' := es1) (t' := t2) ho hd
  have b1 := Heap.SameBut.update s.heap a (Obj.putSet es1 t2)
  refine wpAny_bind (wpAny_storeSet_of ho hd ?_ (fits_of_scanBound hb1))
  split
  · have p2 := relayAll_perm t2 es1 (SetTable.grown es1.size)
    have f2 := relayAll_fits t2 es1 (SetTable.grown es1.size)
    have r2 := L2.relayAll_ris t2 es1 (SetTable.grown es1.size)
    have l2 := L2.relayAll_led t2 es1 (SetTable.grown es1.size)
    generalize relayAll t2 es1 (SetTable.grown es1.size) = Z at p2 f2 r2 l2 ⊢
    obtain ⟨es2, t3, gave⟩ := Z
    dsimp only at p2 f2 r2 l2 ⊢
    have z2 : es2.size = es1.size := by rw [← Array.length_toList, p2.length_eq, Array.length_toList]
    refine wpAny_bind (hg _ _ _ (wpAny_bind (wpAny_storeSet_of o1 rfl ?_ (fits_of_scanBound (by rw [z2]; exact hb1)))))
    have o2 := L2.store_at (es' := es2) (t' := t3) o1 rfl
    refine wpAny_pure (hR _ (b1.trans (Heap.SameBut.update _ a _)) ⟨_, es2, _, t3, o2, hex, rfl, fun e he => g1 e (p2.mem_iff.mp he), (p2.map keyZ).nodup_iff.mpr nd1, fun k => (m1 k).trans (p2.map keyZ).mem_iff.symm, by rw [z2]; exact hb1, f2, z2, r2, hl.imp id fun z => by rw [l2]; exact z⟩)
  · exact wpAny_pure (hR _ b1 ⟨_, es1, _, t2, o1, hex, rfl, g1, nd1, m1, hb1, hf2, rfl, hr, hl⟩)
theorem setQ_add {A : Around} {E : Value → Shared → Prop} {s : Shared} {a : Addr} {S : Str → Bool} {n : Nat} {k : Str} {tk : Tok} {Q : Bool → Shared → Prop} (R : SetQ P w s.heap a S n) (room : n + 1 < scanBound)
    (hQ : ∀ h', Heap.SameBut a s.heap h' → SetQ P w h' a (fun j => S j || decide (j = k)) (if S k = true then n else n + 1) → Q (!S k) { s with heap := h' }) :
    wpAny (model P w) A (setAddHashed a (.str k tk) ((PySem.strKind P w).hash k)) Q E s := by
  obtain ⟨o, es, ep, t, ho, hex, hd, g, nd, hm, hb, hf, hn, hr, hl⟩ := R
  have hkey : (PySem.strKind P w).is k (.str k tk) = true := by show (k == k) = true; simp
  have hsc : (Value.str k tk).scannable = true := rfl
  have hel : ElemsOf (PySem.strKind P w) es.toList := goodZ_elems g
  unfold setAddHashed setAddHashedIn
  refine wpAny_holding (wpAny_bind (wpAny_setState_of ho hd hf ?_))
  dsimp only
  rw [byScan_of hsc hb hel]
  simp only [↓reduceIte]
  unfold setAddByScan
  refine wpAny_bind ?_
  refine wpAny_bind (wpAny_rule ?_)
  refine wpAny_bind (wpAny_setScan_of hkey ho hd hf hel ?_)
  cases hfi : List.findIdx? (fun e => (PySem.strKind P w).is k e.2) es.toList with
  | some j =>
    dsimp only
    obtain ⟨hj, pj, _⟩ := List.findIdx?_eq_some_iff_getElem.mp hfi
    have hS : S k = true := (hm k).2 ((goodZ_mem (P := P) (w := w) g k).2 ⟨es.toList[j], List.getElem_mem hj, pj⟩)
    refine wpAny_pure (wpAny_pure ?_)
    have q := hQ s.heap (Heap.SameBut.refl a s.heap) ⟨o, es, ep, t, ho, hex, hd, g, nd, fun i => by
      rw [Bool.or_eq_true, decide_eq_true_eq, ← hm i]
      exact ⟨fun z => z.elim id (fun e => e ▸ hS), .inl⟩, hb, hf, by rw [if_pos hS]; exact hn, hr, hl⟩
    rw [hS] at q
    exact q
  | none =>
    dsimp only
    have nk : k ∉ es.toList.map keyZ := fun z => by
      obtain ⟨e, he, q⟩ := (goodZ_mem (P := P) (w := w) g k).1 z
      have c := List.findIdx?_eq_none_iff.mp hfi e he
      rw [q] at c
      cases c
    have hS : S k = false := by
      cases q : S k with
      | false => rfl
      | true => exact absurd ((hm k).1 q) nk
    have gw : ∀ (b : Bool) {s₁ : Shared} {Q' : Unit → Shared → Prop}, Q' () s₁ → wpAny (model P w) A (match b with | true => rule "set.scan.the-table-gave-way" | false => pure ()) Q' E s₁ :=
      fun b s₁ Q' q => by cases b <;> first | exact wpAny_pure q | exact wpAny_rule q
    have p1 := layNew_perm t es ((PySem.strKind P w).hash k) (.str k tk)
    have f1 := layNew_fits t es ((PySem.strKind P w).hash k) (.str k tk)
    have r1 := L2.layNew_ris t es ((PySem.strKind P w).hash k) (.str k tk) hr
    have l1 := L2.layNew_led t es ((PySem.strKind P w).hash k) (.str k tk)
    generalize layNew t es ((PySem.strKind P w).hash k) (.str k tk) = Z at p1 f1 r1 l1 ⊢
    obtain ⟨es1, t1, wasDummy, gave⟩ := Z
    dsimp only at p1 f1 r1 l1 ⊢
    rw [Array.toList_push] at p1
    have pc : es1.toList.Perm (((PySem.strKind P w).hash k, Value.str k tk) :: es.toList) := p1.trans (List.perm_append_singleton _ _)
    have pk : (es1.toList.map keyZ).Perm (k :: es.toList.map keyZ) := pc.map keyZ
    have g1 : ∀ e ∈ es1.toList, GoodZ P w e := fun e he => by
      rcases List.mem_cons.mp (pc.mem_iff.mp he) with z | z
      · rw [z]; exact ⟨k, tk, rfl, rfl⟩
      · exact g e z
    have nd1 : (es1.toList.map keyZ).Nodup := pk.nodup_iff.mpr (List.nodup_cons.mpr ⟨nk, nd⟩)
    have m1 : ∀ i, (S i || decide (i = k)) = true ↔ i ∈ es1.toList.map keyZ := fun i => by
      rw [Bool.or_eq_true, decide_eq_true_eq, hm i, pk.mem_iff, List.mem_cons]
      exact Or.comm
    have z1 : es1.size = n + 1 := by rw [← Array.length_toList, pc.length_eq, List.length_cons, Array.length_toList, hn]
    have b1 : es1.size < scanBound := by rw [z1]; exact room
    have led : w.params.followText "set-order" = true ∨ t1.led = true := hl.imp id fun z => by rw [l1]; exact z
    have fin : ∀ h', Heap.SameBut a s.heap h' → SetQ P w h' a (fun j => S j || decide (j = k)) es1.size → Q true { s with heap := h' } := fun h' sb r => by
      have q := hQ h' sb
      rw [hS] at q
      rw [z1] at r
      exact q r
    refine wpAny_bind (gw _ ?_)
    split
    · refine wpAny_bind ?_
      rw [hashByValue_scannable 8 hsc]
      refine wpAny_pure ?_
      refine setQ_tail ?_ ho hex hd g1 nd1 m1 b1 ?_ ?_ ?_ ?_
      · intro b s₁ Q' q; cases b <;> first | exact wpAny_pure q | exact wpAny_rule q
      · first | (split <;> first | exact f1 | exact SetTable.fits_plain_off f1) | exact f1
      · first | (split <;> exact r1) | exact r1
      · first | (split <;> exact led) | exact led
      · intro h' sb r; dsimp only; exact wpAny_pure (fin h' sb r)
    · refine wpAny_bind (wpAny_pure ?_)
      simp only [↓reduceIte]
      refine setQ_tail ?_ ho hex hd g1 nd1 m1 b1 f1 r1 led ?_
      · intro b s₁ Q' q; cases b <;> first | exact wpAny_pure q | exact wpAny_rule q
      · intro h' sb r; dsimp only; exact wpAny_pure (fin h' sb r)
def PrS (P : Program) (w : World) (S : Addr) (zs : List Str) (i : Nat) (h : Heap) : Prop := SetQ P w h S (fun j => decide (j ∈ zs.take i)) (distinct (zs.take i)).length
theorem grow_strs {S : Addr} {n : Nat} {Pv : Nat → Value → Prop} {zs : List Str} (hl : zs.length = n) (hn : n + 1 < scanBound) (hv : ∀ i v, Pv i v → ∃ k t, zs[i]? = some k ∧ v = .str k t) : Grow P w S n Pv (PrS P w S zs) where
  keep := fun i h h' p k => SetQ.at p k
  add := fun A E i v s Q hh hi pv pr k => by
    obtain ⟨z, t, hz, rfl⟩ := hv i v pv
    have hc : (distinct (zs.take i)).length ≤ i := Nat.le_trans (distinct_len _) (by rw [List.length_take]; exact Nat.min_le_left ..)
    have his : (PySem.strKind P w).is z (.str z t) = true := by show (z == z) = true; simp
    unfold setAdd
    refine wpAny_holding (wpAny_bind ((PySem.strKind P w).pyHash (k := z) his ?_))
    refine setQ_add (s := { s with toks := s.toks + 1 }) pr (by omega) fun h' sb r => ?_
    refine k _ h' (s.toks + 1) (Nat.le_succ _) sb ?_
    unfold PrS
    have e1 : zs.take (i + 1) = zs.take i ++ [z] := by rw [List.take_add_one, hz]; rfl
    rw [e1, distinct_snoc]
    have e2 : (if decide (z ∈ zs.take i) = true then (distinct (zs.take i)).length else (distinct (zs.take i)).length + 1) = if z ∈ zs.take i then (distinct (zs.take i)).length else (distinct (zs.take i)).length + 1 := by
      by_cases q : z ∈ zs.take i <;> simp [q]
    rw [← e2]
    obtain ⟨o, es, ep, tb, ho, hex, hd, hel, hnd, hmem, r⟩ := r
    refine ⟨o, es, ep, tb, ho, hex, hd, hel, hnd, fun j => ?_, r⟩
    rw [← hmem j]
    by_cases q : j ∈ zs.take i <;> by_cases q2 : j = z <;> simp [q, q2]
theorem scan_4000 : 4001 + 1 < scanBound := by decide
end

section
variable {X : Cx}
/-- the set's members of a list or a tuple of ints -/
def rSetI (K : PySem.W.Frag) (w : World) : List V → Hp → VK → Prop := fun xs H Q => ∃ (l : Addr) (is : List Int), xs = [.ref l] ∧ (SqL K H l (is.map .int) ∨ SqT K H l (is.map .int)) ∧ is.length ≤ 4000 ∧ ∀ p, H p = none → Q (.ref p) (upd H p (SetO w p (fun j => decide (j ∈ is)) (distinct is).length))
theorem ints_at {is : List Int} {its : List Value} (r : Vals (is.map V.int) its) (i : Nat) (v : Value) (h : its.toArray[i]? = some v) : ∃ k t, is[i]? = some k ∧ v = .int k t := by
  have h : its[i]? = some v := by simpa using h
  have hl := r.length
  rw [List.length_map] at hl
  have hi : i < is.length := by rw [hl]; exact (List.getElem?_eq_some_iff.mp h).1
  obtain ⟨u, h1, h2⟩ := r.get (i := i) (x := .int is[i]) (by simp [hi])
  rw [h] at h1; cases h1
  obtain ⟨t, rfl⟩ := (show ∃ t, v = Value.int is[i] t from h2)
  exact ⟨is[i], t, List.getElem?_eq_getElem hi, rfl⟩
theorem cr_setI (hc : X.calm = true) : CallR X (.type "set") (rSetI X.K X.w) := by
  intro pins s σ H xs us Q I r ⟨l, is, ex, hq, hz, q⟩
  subst ex
  rw [Vals.ref1 r]
  have hb := scan_4000
  have fin : ∀ (its : List Value) h' tk, its.toArray.size = is.length → PrI X.w s.heap.objs.size is its.toArray.size h' → (∀ b o, s.heap.get? b = some o → h'.get? b = some o) → EP X pins σ Q (.ref s.heap.objs.size) { s with heap := h', toks := tk } := fun its h' tk hl pr k => by
    unfold PrI at pr
    rw [hl, List.take_length] at pr
    exact ⟨.ref _, upd H s.heap.objs.size (SetO X.w s.heap.objs.size (fun j => decide (j ∈ is)) (distinct is).length), I.laid (t' := tk) k (Nat.le_refl _) (setO_new pr), rfl, q _ (I.hok.fresh (Nat.le_refl _))⟩
  rcases hq with hq | hq
  · obtain ⟨its, rv, pl, _⟩ := I.list hq
    have hl : its.toArray.size = is.length := by rw [List.size_toArray, ← rv.length, List.length_map]
    exact set_of_list (I.ok.hd hc) pl.isList (grow_ints hl.symm (by omega) (ints_at rv)) (fun h e => by unfold PrI; exact setR_new_at (ns := is) e) fun h' tk pr k => fin its h' tk hl pr k
  · obtain ⟨its, rv, pl, _⟩ := I.tuple hq
    have hl : its.toArray.size = is.length := by rw [List.size_toArray, ← rv.length, List.length_map]
    exact set_of_tuple (I.ok.hd hc) (show s.heap.IsTuple l its.toArray from pl) (grow_ints hl.symm (by omega) (ints_at rv)) (fun h e => by unfold PrI; exact setR_new_at (ns := is) e) fun h' tk pr k => fin its h' tk hl pr k
/-- a set of texts by its number of members -/
def SetZ (P : Program) (w : World) (a : Addr) (zs : List Str) : HO := .ext fun h => SetQ P w h a (fun j => decide (j ∈ zs)) (distinct zs).length
def rSetS (K : PySem.W.Frag) (P : Program) (w : World) : List V → Hp → VK → Prop := fun xs H Q => ∃ (l : Addr) (zs : List Str), xs = [.ref l] ∧ (SqL K H l (zs.map .str) ∨ SqT K H l (zs.map .str)) ∧ zs.length ≤ 4000 ∧ ∀ p, H p = none → Q (.ref p) (upd H p (SetZ P w p zs))
theorem strs_at' {zs : List Str} {its : List Value} (r : Vals (zs.map V.str) its) (i : Nat) (v : Value) (h : its.toArray[i]? = some v) : ∃ k t, zs[i]? = some k ∧ v = .str k t := by
  have h : its[i]? = some v := by simpa using h
  have hl := r.length
  rw [List.length_map] at hl
  have hi : i < zs.length := by rw [hl]; exact (List.getElem?_eq_some_iff.mp h).1
  obtain ⟨u, h1, h2⟩ := r.get (i := i) (x := .str zs[i]) (by simp [hi])
  rw [h] at h1; cases h1
  obtain ⟨t, rfl⟩ := (show ∃ t, v = Value.str zs[i] t from h2)
  exact ⟨zs[i], t, List.getElem?_eq_getElem hi, rfl⟩
theorem prS_new {P : Program} {w : World} {h : Heap} {a : Addr} {zs : List Str} (ho : h.get? a = some (freshSet w)) : PrS P w a zs 0 h :=
  ⟨_, #[], 0, _, ho, ⟨rfl, rfl, rfl⟩, rfl, (fun e he => by simp at he), (by simp), (fun k => by simp), by decide, by rfl, rfl, List.Pairwise.nil, by
    show _ ∨ (!w.params.followText "set-order") = true
    cases w.params.followText "set-order"
    · exact .inr rfl
    · exact .inl rfl⟩
theorem cr_setS (hc : X.calm = true) : CallR X (.type "set") (rSetS X.K X.prog X.w) := by
  intro pins s σ H xs us Q I r ⟨l, zs, ex, hq, hz, q⟩
  subst ex
  rw [Vals.ref1 r]
  have hb := scan_4000
  have fin : ∀ (its : List Value) h' tk, its.toArray.size = zs.length → PrS X.prog X.w s.heap.objs.size zs its.toArray.size h' → (∀ b o, s.heap.get? b = some o → h'.get? b = some o) → EP X pins σ Q (.ref s.heap.objs.size) { s with heap := h', toks := tk } := fun its h' tk hl pr k => by
    unfold PrS at pr
    rw [hl, List.take_length] at pr
    have ex : ∃ o, h'.get? s.heap.objs.size = some o := let ⟨o, _, _, _, e, _⟩ := pr; ⟨o, e⟩
    refine ⟨.ref _, upd H s.heap.objs.size (SetZ X.prog X.w s.heap.objs.size zs), I.laid (t' := tk) k (Nat.le_refl _) ⟨pr, ex, fun h1 h2 p k => ?_⟩, rfl, q _ (I.hok.fresh (Nat.le_refl _))⟩
    obtain ⟨o, es, ep, t, ho, rr⟩ := p
    exact ⟨o, es, ep, t, k o ho, rr⟩
  rcases hq with hq | hq
  · obtain ⟨its, rv, pl, _⟩ := I.list hq
    have hl : its.toArray.size = zs.length := by rw [List.size_toArray, ← rv.length, List.length_map]
    exact set_of_list (I.ok.hd hc) pl.isList (grow_strs hl.symm (by omega) (strs_at' rv)) (fun h e => prS_new e) fun h' tk pr k => fin its h' tk hl pr k
  · obtain ⟨its, rv, pl, _⟩ := I.tuple hq
    have hl : its.toArray.size = zs.length := by rw [List.size_toArray, ← rv.length, List.length_map]
    exact set_of_tuple (I.ok.hd hc) (show s.heap.IsTuple l its.toArray from pl) (grow_strs hl.symm (by omega) (strs_at' rv)) (fun h e => prS_new e) fun h' tk pr k => fin its h' tk hl pr k

/-! one rule for all sets -/
def rSetA (K : PySem.W.Frag) (P : Program) (w : World) : List V → Hp → VK → Prop := fun xs H Q => rSetOfT K P w xs H Q ∨ rSetI K w xs H Q ∨ rSetS K P w xs H Q
theorem cr_setA (hc : X.calm = true) (hu : X.A.units + 65 < cLine) : CallR X (.type "set") (rSetA X.K X.prog X.w) := by
  intro pins s σ H xs us Q I r h
  rcases h with h | h | h
  · exact cr_setOfT hc (by omega) pins s σ H xs us Q I r h
  · exact cr_setI hc pins s σ H xs us Q I r h
  · exact cr_setS hc pins s σ H xs us Q I r h
def rLenA (K : PySem.W.Frag) (P : Program) (w : World) : List V → Hp → VK → Prop := fun xs H Q => rLenTO K P w xs H Q ∨ (∃ (a : Addr) (S : Int → Bool) (n : Nat), xs = [.ref a] ∧ H a = some (SetO w a S n) ∧ Q (.int n) H) ∨ ∃ (a : Addr) (zs : List Str), xs = [.ref a] ∧ H a = some (SetZ P w a zs) ∧ Q (.int (distinct zs).length) H
theorem cr_lenA : CallR X (.builtin "len") (rLenA X.K X.prog X.w) := by
  intro pins s σ H xs us Q I r h
  have hb : scanBound < 2 ^ 62 := by decide
  rcases h with h | ⟨a, S, n, ex, ha, q⟩ | ⟨a, zs, ex, ha, q⟩
  · exact cr_lenTO pins s σ H xs us Q I r h
  · subst ex
    rw [Vals.ref1 r]
    obtain ⟨o, es, ep, t, ho, hex, hd, _, _, _, hlt, hf, hn, _⟩ := setO_get I ha
    exact PySem.call_len_set ho hex hd hf (by omega) ⟨.int n, H, I.tok _, ⟨_, by rw [hn]⟩, q⟩
  · subst ex
    rw [Vals.ref1 r]
    obtain ⟨⟨o, es, ep, t, ho, hex, hd, _, _, _, hlt, hf, hn, _⟩, _⟩ := I.hok a _ ha
    exact PySem.call_len_set ho hex hd hf (by omega) ⟨.int (distinct zs).length, H, I.tok _, ⟨_, by rw [hn]⟩, q⟩
theorem RpL.strsOf {K : PySem.W.Frag} {H : Hp} : ∀ {ds : List D} {is : List Str} {vs : List V}, RpL K H vs ds → strsOf ds = .ok is → vs = is.map V.str
  | [], is, _, .nil, e => by cases e; rfl
  | _ :: _, is, _, .cons h r, e => by
    cases h with
    | str i =>
      obtain ⟨bs, e1, e2⟩ := bind_ok (show (Rf.strsOf _).bind _ = _ from e)
      cases e2
      rw [RpL.strsOf r e1]; rfl
    | _ => cases e
variable {S : Sig} {ca : ExA} {W : WX} {t : Bool} {a : C} {ea : Expr}
theorem lenset_go {F H H1 : Hp} {env : Env} {σ : L2.St} {Q : VK} {v : V} {ds : List D} (s : Ss X.K F H env σ) (s1 : Same H H1) (hq : ∃ l vs, v = .ref l ∧ (SqL X.K H1 l vs ∨ SqT X.K H1 l vs) ∧ RpL X.K (Gr F H H1) vs ds) (p : PG ca W H σ (lenSetL ds) (WB t X.K F H Q)) :
    rSetA X.K X.prog X.w [v] H1 fun x H2 => rLenA X.K X.prog X.w [x] H2 Q := by
  obtain ⟨l, vs, rfl, hl, rl⟩ := hq
  have goI : ∀ is, intsOf ds = .ok is → PG ca W H σ (R.chk (decide (is.length ≤ 4000)) (.ok (.int (distinct is).length))) (WB t X.K F H Q) → rSetA X.K X.prog X.w [.ref l] H1 fun x H2 => rLenA X.K X.prog X.w [x] H2 Q := fun is e p => by
    have ev := rl.intsOf e
    subst ev
    cases c : decide (is.length ≤ 4000) with
    | false => rw [c] at p; exact p.elim
    | true =>
      rw [c] at p
      exact .inr (.inl ⟨l, is, rfl, hl, of_decide_eq_true c, fun q hq => .inr (.inl ⟨q, _, _, rfl, upd_same, WB.s s.sub p (s1.trans (same_upd hq)) fun _ => .int _⟩)⟩)
  have goS : ∀ is, strsOf ds = .ok is → PG ca W H σ (R.chk (decide (is.length ≤ 4000)) (.ok (.int (distinct is).length))) (WB t X.K F H Q) → rSetA X.K X.prog X.w [.ref l] H1 fun x H2 => rLenA X.K X.prog X.w [x] H2 Q := fun is e p => by
    have ev := rl.strsOf e
    subst ev
    cases c : decide (is.length ≤ 4000) with
    | false => rw [c] at p; exact p.elim
    | true =>
      rw [c] at p
      exact .inr (.inr ⟨l, is, rfl, hl, of_decide_eq_true c, fun q hq => .inr (.inr ⟨q, _, rfl, upd_same, WB.s s.sub p (s1.trans (same_upd hq)) fun _ => .int _⟩)⟩)
  unfold lenSetL at p
  split at p
  · cases e : intsOf (.int _ :: _) with
    | ok is => rw [e] at p; exact goI is e p
    | exc n => exact (intsOf_noexc e).elim
    | bad => rw [e] at p; exact p.elim
  · cases e : strsOf ds with
    | ok is => rw [e] at p; exact goS is e p
    | exc n => exact (strsOf_noexc e).elim
    | bad => rw [e] at p; exact p.elim
theorem se_lenset {p p2 q pos : Pos} {x y : Str} (hx : x = "len") (hy : y = "set") (hc : X.calm = true) (hu : X.A.units + 65 < cLine) (hg : Gl X x) (hm : X.mg x = none) (hg2 : Gl X y) (hm2 : X.mg y = none) (ha : PE X ea (rd S ca W X.K true a)) (hs : notStar ea = true) :
    PE X (.Call (.Name x p) [.Call (.Name y p2) [ea] [] q] [] pos) (rd S ca W X.K t (.bi .lenset (.cons a .nil))) := by
  subst hx hy
  have h1 : PE X (.Call (.Name "set" p2) [ea] [] q) (tCB (rSetA X.K X.prog X.w) (tCons (rd S ca W X.K true a) tNil)) := pe_callTy (cr_setA hc hu) hg2 hm2 (by decide +kernel) (pa_cons ha pa_nil (star_cons hs)) (by decide) (by decide) (star_cons hs) rfl
  refine L2.PE.imp (t := tCB (rLenA X.K X.prog X.w) (tCons (tCB (rSetA X.K X.prog X.w) (tCons (rd S ca W X.K true a) tNil)) tNil)) (pe_callB cr_lenA hg hm boot_len (pa_cons h1 pa_nil rfl) (by decide) (by decide) rfl rfl) fun σ H Q ⟨F, env, s, p⟩ => ?_
  rw [ev] at p
  have e1 : evs S true (.cons a .nil) env = (ev S true a env).bind fun d => .ok [d] := by rw [evs, evs]; rfl
  rw [e1] at p
  refine ⟨F, env, s, p.of_bind.of_bind.imp fun d p x H1 s1 rx => ?_⟩
  have rx : RpT X.K (Gr F H H1) H1 x d := rx
  have p : PG ca W H σ (lenSetD d) (WB t X.K F H Q) := p
  cases d with
  | list ds =>
    cases ct : isTupL ds with
    | false =>
      have p : PG ca W H σ (match isTupL ds with | true => lenSetT ds | false => lenSetL ds) (WB t X.K F H Q) := p
      rw [ct] at p
      obtain ⟨l, vs, rfl, hl, rl⟩ := rx
      exact lenset_go s s1 ⟨l, vs, rfl, .inl hl, rl⟩ p
    | true =>
      have p : PG ca W H σ (match isTupL ds with | true => lenSetT ds | false => lenSetL ds) (WB t X.K F H Q) := p
      rw [ct] at p
      obtain ⟨l, vs, rfl, hl, rl⟩ := rx
      have p : PG ca W H σ (R.chk (decide (ds.length < 64)) ((keysD ds).bind fun ks => .ok (.int (distinct ks).length))) (WB t X.K F H Q) := p
      cases c : decide (ds.length < 64) with
      | false => rw [c] at p; exact p.elim
      | true =>
        rw [c] at p
        have c := of_decide_eq_true c
        have p : PG ca W H σ ((keysD ds).bind fun ks => .ok (.int (distinct ks).length)) (WB t X.K F H Q) := p
        cases e : keysD ds with
        | exc n => exact (keysD_noexc e).elim
        | bad => rw [e] at p; exact p.elim
        | ok ks =>
          rw [e] at p
          have p : WB t X.K F H Q (.int (distinct ks).length) := p
          obtain ⟨ps, rfl, rfl, hp⟩ := keys_of rl e
          have sub := gr_sub s.sub s1
          refine .inl ⟨l, ps, rfl, hl, fun z hz => sub.sqT (hp z hz), by rw [← List.length_map (f := fun p : Addr × List Int => V.ref p.1), rl.length]; exact c, fun b L hb h1 h2 => .inl ⟨b, L, rfl, upd_same, fun z hz => (same_upd hb).sqT (sub.sqT (hp z (h1 z hz))), fun nd => ?_⟩⟩
          have el : L.length = (distinct (ps.map (·.2))).length := by
            have a1 := nodup_len (m := distinct (ps.map (·.2))) nd fun z hz => by
              obtain ⟨y, hy, rfl⟩ := List.mem_map.mp hz
              exact distinct_mem.mpr (List.mem_map.mpr ⟨y, h1 y hy, rfl⟩)
            have a2 := nodup_len (m := L.map (·.2)) distinct_nodup fun z hz => by
              obtain ⟨y, hy, rfl⟩ := List.mem_map.mp (distinct_mem.mp hz)
              exact h2 y hy
            exact Nat.le_antisymm (by rw [List.length_map] at a1; exact a1) (by rw [List.length_map] at a2; exact a2)
          rw [el]
          exact WB.s s.sub p (s1.trans (same_upd hb)) fun _ => .int _
  | tuple ds =>
    obtain ⟨l, vs, rfl, hl, rl⟩ := rx
    exact lenset_go s s1 ⟨l, vs, rfl, .inr ((gr_sub s.sub s1).sqT hl), rl⟩ p
  | _ => exact p.elim

/-! ### sorted(set(x)), x of ints -/
theorem sset_mem {is : List Int} {k : Int} : k ∈ sortSetI is ↔ k ∈ is := by
  unfold sortSetI
  rw [isort_perm.mem_iff, distinct_mem]
theorem sset_nodup {is : List Int} : (sortSetI is).Nodup := by
  unfold sortSetI
  exact isort_perm.nodup_iff.mpr distinct_nodup
theorem totI : PySem.W.TotalLe (fun a b : Int => decide (a ≤ b)) := by
  constructor
  · intro a b c h1 h2; simp only [decide_eq_true_eq] at *; omega
  · intro a b; simp only [Bool.or_eq_true, decide_eq_true_eq]; omega
theorem sset_lt {is : List Int} : (sortSetI is).Pairwise (· < ·) := by
  have h1 : (sortSetI is).Pairwise (fun a b => decide (a ≤ b) = true) := isort_pair totI
  refine L2.lt_of_le_nodup _ (h1.imp fun {a b} h => of_decide_eq_true h) sset_nodup
theorem strict_unique : ∀ {l m : List Int}, l.Pairwise (· < ·) → m.Pairwise (· < ·) → (∀ k, k ∈ l ↔ k ∈ m) → l = m
  | [], [], _, _, _ => rfl
  | [], y :: m, _, _, h => by have := (h y).mpr (by simp); simp at this
  | x :: l, [], _, _, h => by have := (h x).mp (by simp); simp at this
  | x :: l, y :: m, hl, hm, h => by
    rw [List.pairwise_cons] at hl hm
    have e : x = y := by
      have h1 := (h x).mp (by simp)
      have h2 := (h y).mpr (by simp)
      rcases List.mem_cons.mp h1 with q | q
      · exact q
      · rcases List.mem_cons.mp h2 with q2 | q2
        · exact q2.symm
        · have := hm.1 x q
          have := hl.1 y q2
          omega
    subst e
    rw [strict_unique hl.2 hm.2 fun k => ?_]
    have hk := h k
    simp only [List.mem_cons] at hk
    constructor
    · intro q
      have lt := hl.1 k q
      exact (hk.mp (.inr q)).resolve_left (by omega)
    · intro q
      have lt := hm.1 k q
      exact (hk.mpr (.inr q)).resolve_left (by omega)
/-! a sorted list without repeats is told by its members -/
theorem sort_uniq {α : Type} {le : α → α → Bool} (tot : PySem.W.TotalLe le) (anti : ∀ a b, le a b = true → le b a = true → a = b) : ∀ {l m : List α}, l.Pairwise (fun a b => le a b = true) → m.Pairwise (fun a b => le a b = true) → l.Nodup → m.Nodup → (∀ k, k ∈ l ↔ k ∈ m) → l = m
  | [], [], _, _, _, _, _ => rfl
  | [], y :: m, _, _, _, _, h => by have := (h y).mpr (by simp); simp at this
  | x :: l, [], _, _, _, _, h => by have := (h x).mp (by simp); simp at this
  | x :: l, y :: m, hl, hm, nl, nm, h => by
    rw [List.pairwise_cons] at hl hm
    rw [List.nodup_cons] at nl nm
    have e : x = y := by
      rcases List.mem_cons.mp ((h x).mp (by simp)) with q | q
      · exact q
      · rcases List.mem_cons.mp ((h y).mpr (by simp)) with q2 | q2
        · exact q2.symm
        · exact anti _ _ (hl.1 y q2) (hm.1 x q)
    subst e
    rw [sort_uniq tot anti hl.2 hm.2 nl.2 nm.2 fun k => ?_]
    have hk := h k
    simp only [List.mem_cons] at hk
    constructor
    · intro q
      exact (hk.mp (.inr q)).resolve_left fun z => nl.1 (z ▸ q)
    · intro q
      exact (hk.mpr (.inr q)).resolve_left fun z => nm.1 (z ▸ q)
theorem totP : PySem.W.TotalLe pairLe := by
  constructor
  · intro a b c h1 h2
    simp only [pairLe, Bool.or_eq_true, Bool.and_eq_true, decide_eq_true_eq] at *
    omega
  · intro a b
    simp only [pairLe, Bool.or_eq_true, Bool.and_eq_true, decide_eq_true_eq]
    omega
theorem antiP (a b : Int × Int) (h1 : pairLe a b = true) (h2 : pairLe b a = true) : a = b := by
  simp only [pairLe, Bool.or_eq_true, Bool.and_eq_true, decide_eq_true_eq] at h1 h2
  exact Prod.ext (by omega) (by omega)
theorem strLe_eq : strLe = PySem.W.dataLe false (fun z : Str => .str z) := by
  rw [PySem.W.dataLe_str (fun z : Str => z)]
  funext a b
  unfold strLe strLt
  by_cases q : b.cps.toList < a.cps.toList
  · rw [decide_eq_true q, decide_eq_false (fun z => List.not_lt.mpr z q)]; rfl
  · rw [decide_eq_false q, decide_eq_true (List.not_lt.mp q)]; rfl
theorem totS : PySem.W.TotalLe strLe := by rw [strLe_eq]; exact PySem.W.sortLe_total _ _ _
theorem antiS (a b : Str) (h1 : strLe a b = true) (h2 : strLe b a = true) : a = b := by
  unfold strLe strLt at h1 h2
  simp only [Bool.not_eq_true', decide_eq_false_iff_not] at h1 h2
  have e := List.le_antisymm (List.not_lt.mp h1) (List.not_lt.mp h2)
  cases a; cases b
  simp only [Str.mk.injEq]
  exact Array.toList_inj.mp e
theorem pairsI_keys : ∀ {ds : List D} {ps : List (Int × Int)}, pairsI ds = .ok ps → keysD ds = .ok (ps.map fun p => [p.1, p.2]) ∧ ds = ps.map encPI ∧ ∀ p ∈ ps, 0 ≤ p.1 ∧ p.1 < 64 ∧ 0 ≤ p.2 ∧ p.2 < 64 := fun {ds} => by
  induction ds with
  | nil => intro ps e; cases e; exact ⟨rfl, rfl, fun _ z => nomatch z⟩
  | cons d ds ih =>
    intro ps e
    unfold pairsI at e
    split at e
    · rename_i z; cases z
    · rename_i x y r z
      cases z
      obtain ⟨h1, e⟩ := chk_ok e
      obtain ⟨ps', e1, e⟩ := bind_ok e
      cases e
      simp only [Bool.and_eq_true, decide_eq_true_eq] at h1
      obtain ⟨i1, i2, i3⟩ := ih e1
      refine ⟨?_, by rw [List.map_cons, ← i2]; rfl, fun p hp => ?_⟩
      · rw [keysD, i1]; rfl
      · rcases List.mem_cons.mp hp with rfl | hp
        · exact ⟨h1.1.1.1, h1.1.1.2, h1.1.2, h1.2⟩
        · exact i3 p hp
    · cases e
/-! ### set(text) -/
def chars (z : Str) : List Str := z.cps.toList.map fun c => ⟨#[c]⟩
def rSetW (P : Program) (w : World) : List V → Hp → VK → Prop := fun xs H Q => ∃ z : Str, xs = [.str z] ∧ z.length ≤ 4000 ∧ ∀ p, H p = none → Q (.ref p) (upd H p (SetZ P w p (chars z)))
theorem setZ_new {P : Program} {w : World} {H : Hp} {h : Heap} {a : Addr} {zs : List Str} (pr : SetQ P w h a (fun j => decide (j ∈ zs)) (distinct zs).length) : ObjOk P w H h a (SetZ P w a zs) :=
  ⟨pr, let ⟨o, _, _, _, e, _⟩ := pr; ⟨o, e⟩, fun h1 h2 p k => SetQ.at p k⟩
theorem cr_setW (hc : X.calm = true) : CallR X (.type "set") (rSetW X.prog X.w) := by
  intro pins s σ H xs us Q I r ⟨z, ex, hz, q⟩
  subst ex
  obtain ⟨u, rfl, ru⟩ := Vals.one r
  obtain ⟨t, rfl⟩ := (show ∃ t, u = Value.str z t from ru)
  have hb := scan_4000
  have hl : (chars z).length = z.cps.size := by unfold chars; rw [List.length_map, Array.length_toList]
  have hz' : z.cps.size ≤ 4000 := hz
  refine set_of_text (I.ok.hd hc) (grow_strs (zs := chars z) hl (by omega) fun i v hv => ?_) (fun h e => prS_new e) fun h' tk pr k => ?_
  · obtain ⟨c, u, h1, rfl⟩ := hv
    exact ⟨⟨#[c]⟩, u, by unfold chars; rw [List.getElem?_map, Array.getElem?_toList, h1]; rfl, rfl⟩
  · unfold PrS at pr
    rw [← hl, List.take_length] at pr
    exact ⟨.ref _, upd H s.heap.objs.size (SetZ X.prog X.w s.heap.objs.size (chars z)), I.laid (t' := tk) k (Nat.le_refl _) (setZ_new pr), rfl, q _ (I.hok.fresh (Nat.le_refl _))⟩
/-! ### sorted(set of texts) -/
def rSortedZ (P : Program) (w : World) : List V → Hp → VK → Prop := fun xs H Q => ∃ (a : Addr) (zs : List Str), xs = [.ref a] ∧ H a = some (SetZ P w a zs) ∧ ∀ p, H p = none → Q (.ref p) (upd H p (.lst ((sortSetS zs).map .str)))
def txtOf (v : Value) : Str := match v with | .str z _ => z | _ => ⟨#[]⟩
theorem cr_sortedZ (hc : X.calm = true) (hu : X.A.units + 65 < cLine) : CallR X (.builtin "sorted") (rSortedZ X.prog X.w) := by
  intro pins s σ H xs us Q I r ⟨a, zs, ex, ha, q⟩
  subst ex
  rw [Vals.ref1 r]
  obtain ⟨⟨o, es, ep, t, ho, hex, hd, g, nd, hm, hb, hf, hn, hr, hl⟩, _⟩ := I.hok a _ ha
  refine sorted_collG (β := Str) (enc := fun z => .str z) (R := fun v z => ∃ t, v = Value.str z t) (rev := false) (kw := [])
    (P := fun s1 vs => vs.Perm (es.toList.map (·.2)) ∧ (∀ b o, s.heap.get? b = some o → s1.heap.get? b = some o) ∧ s.heap.objs.size ≤ s1.heap.objs.size ∧ s1.gens = s.gens ∧ s1.os = s.os) (.inl ⟨rfl, rfl⟩)
    (fun Q E hq => L2.collect_set (A := X.A.in1) (I.ok.hd hc) ⟨o, ho, hex.1, hd⟩ hf hb hr hl fun s1 out k1 hz g1 o1 pm => hq s1 out ⟨pm, k1, hz, g1, o1⟩) fun s1 vs ⟨pm, k1, hz, g1, o1⟩ => ?_
  have each : ∀ v ∈ vs, ∃ t, v = Value.str (txtOf v) t := fun v hv => by
    obtain ⟨e, he, rfl⟩ := List.mem_map.mp (pm.mem_iff.mp hv)
    obtain ⟨z, t, h1, _⟩ := g e he
    rw [h1]
    exact ⟨t, rfl⟩
  have em : ∀ {R : Value → Str → Prop} (l : List Value), (∀ v ∈ l, R v (txtOf v)) → PySem.W.EachIs R l (l.map txtOf) := fun {R} l => by
    induction l with
    | nil => exact fun _ => .nil
    | cons v l ih => exact fun h => .cons (h v (by simp)) (ih fun u hu => h u (by simp [hu]))
  have hlen : vs.length = (distinct zs).length := by rw [pm.length_eq, List.length_map, Array.length_toList]; exact hn
  have hb2 : scanBound ≤ sizeLine := by rw [sizeLine_eq]; decide
  have pk : (vs.map txtOf).Perm (es.toList.map keyZ) := by
    have q := pm.map txtOf
    rw [List.map_map] at q
    exact q
  refine ⟨vs.map txtOf, em vs each, em vs fun v hv => ?_, fun d hd d' hd' => ?_, .inr fun d hd => ?_, ?_, fun z _ => ?_, fun h3 out ep2 k3 ho3 ee => ?_⟩
  · obtain ⟨t, e⟩ := each v hv
    rw [e]
    exact ⟨[], .str _ _⟩
  · obtain ⟨_, _, rfl⟩ := List.mem_map.mp hd
    obtain ⟨_, _, rfl⟩ := List.mem_map.mp hd'
    rfl
  · obtain ⟨_, _, rfl⟩ := List.mem_map.mp hd
    exact ⟨(fun z => nomatch z), (fun _ z => nomatch z)⟩
  · rw [List.length_map, hlen]
    omega
  · show X.A.units + 2 + 0 < cLine
    omega
  · have e1 : (vs.map txtOf).mergeSort (PySem.W.dataLe false fun z : Str => .str z) = sortSetS zs := by
      have p1 : ((vs.map txtOf).mergeSort (PySem.W.dataLe false fun z : Str => .str z)).Perm (es.toList.map keyZ) := (List.mergeSort_perm _ _).trans pk
      refine sort_uniq totS antiS ?_ (isort_pair totS) (p1.nodup_iff.mpr nd) (isort_perm.nodup_iff.mpr distinct_nodup) fun k => ?_
      · rw [strLe_eq]
        exact List.pairwise_mergeSort (PySem.W.sortLe_total _ _ _).trans (fun a b => by simpa using (PySem.W.sortLe_total _ _ _).total a b) _
      · unfold sortSetS
        rw [p1.mem_iff, isort_perm.mem_iff, distinct_mem, ← hm k]
        simp
    rw [e1] at ee
    have vo : ∀ {us : List Value} {ys : List Str}, PySem.W.EachIs (fun v z => ∃ t, v = Value.str z t) us ys → Vals (ys.map V.str) us := fun {us} => by
      induction us with
      | nil => intro ys a; cases a; exact .nil
      | cons u us ih => intro ys a; cases a with | cons a1 a2 => exact .cons a1 (ih a2)
    have hl2 : (sortSetS zs).length = (distinct zs).length := by unfold sortSetS; exact isort_perm.length_eq
    have hlen3 : ((sortSetS zs).map V.str).length ≤ sizeLine := by rw [List.length_map, hl2]; omega
    have hn1 : H s1.heap.objs.size = none := I.hok.fresh hz
    have k13 : ∀ b o, s.heap.get? b = some o → h3.get? b = some o := fun b o e => k3 b o (k1 b o e)
    have J : Inv X pins σ (upd H s1.heap.objs.size (.lst ((sortSetS zs).map V.str))) { s with heap := h3, gens := s1.gens, drawn := s1.drawn, toks := s1.toks } :=
      I.call (ch := []) (Un.laid k13 hz hn1) (I.hok.laid k13 hz ⟨hlen3, out, ep2, vo ee, ho3⟩) (by rw [g1]; exact I.bare) (fun _ z => nomatch z)
    have e2 : ({ s1 with heap := h3 } : Shared) = { s with heap := h3, gens := s1.gens, drawn := s1.drawn, toks := s1.toks } := by
      cases s1
      cases s
      cases o1
      rfl
    rw [e2]
    exact ⟨.ref _, _, J, rfl, q _ hn1⟩
/-! one rule for sorted sets -/
def rSetB (K : PySem.W.Frag) (P : Program) (w : World) : List V → Hp → VK → Prop := fun xs H Q => rSetA K P w xs H Q ∨ rSetW P w xs H Q
theorem cr_setB (hc : X.calm = true) (hu : X.A.units + 65 < cLine) : CallR X (.type "set") (rSetB X.K X.prog X.w) := by
  intro pins s σ H xs us Q I r h
  rcases h with h | h
  · exact cr_setA hc hu pins s σ H xs us Q I r h
  · exact cr_setW hc pins s σ H xs us Q I r h
def rSortB (K : PySem.W.Frag) (P : Program) (w : World) : List V → Hp → VK → Prop := fun xs H Q => rSortedSet w xs H Q ∨ rSortedT K P w xs H Q ∨ rSortedZ P w xs H Q
theorem cr_sortB (hc : X.calm = true) (hu : X.A.units + 65 < cLine) : CallR X (.builtin "sorted") (rSortB X.K X.prog X.w) := by
  intro pins s σ H xs us Q I r h
  rcases h with h | h | h
  · exact cr_sortedSet hc pins s σ H xs us Q I r h
  · exact cr_sortedT hc pins s σ H xs us Q I r h
  · exact cr_sortedZ hc hu pins s σ H xs us Q I r h
theorem ints_rpl {K : PySem.W.Frag} {G : Hp} : ∀ l : List Int, RpL K G (l.map V.int) (l.map PyData.int)
  | [] => .nil
  | _ :: l => .cons (.int _) (ints_rpl l)
theorem txts_rpl {K : PySem.W.Frag} {G : Hp} : ∀ l : List Str, RpL K G (l.map V.str) (l.map PyData.str)
  | [] => .nil
  | _ :: l => .cons (.str _) (txts_rpl l)
theorem strs_chars : ∀ l : List Nat, strsOf (l.map fun c => PyData.str ⟨#[c]⟩) = .ok (l.map fun c => (⟨#[c]⟩ : Str))
  | [] => rfl
  | c :: l => by
    show (strsOf (l.map fun c => PyData.str ⟨#[c]⟩)).bind _ = _
    rw [strs_chars l]; rfl
theorem se_sortset {p p2 q pos : Pos} {x y : Str} (hx : x = "sorted") (hy : y = "set") (hc : X.calm = true) (hu : X.A.units + 65 < cLine) (hg : Gl X x) (hm : X.mg x = none) (hg2 : Gl X y) (hm2 : X.mg y = none) (ha : PE X ea (rd S ca W X.K true a)) (hs : notStar ea = true) :
    PE X (.Call (.Name x p) [.Call (.Name y p2) [ea] [] q] [] pos) (rd S ca W X.K t (.bi .sortset (.cons a .nil))) := by
  subst hx hy
  have h1 : PE X (.Call (.Name "set" p2) [ea] [] q) (tCB (rSetB X.K X.prog X.w) (tCons (rd S ca W X.K true a) tNil)) := pe_callTy (cr_setB hc hu) hg2 hm2 (by decide +kernel) (pa_cons ha pa_nil (star_cons hs)) (by decide) (by decide) (star_cons hs) rfl
  refine L2.PE.imp (t := tCB (rSortB X.K X.prog X.w) (tCons (tCB (rSetB X.K X.prog X.w) (tCons (rd S ca W X.K true a) tNil)) tNil)) (pe_callB (cr_sortB hc hu) hg hm (by decide +kernel) (pa_cons h1 pa_nil rfl) (by decide) (by decide) rfl rfl) fun σ H Q ⟨F, env, s, p⟩ => ?_
  rw [ev] at p
  have e1 : evs S true (.cons a .nil) env = (ev S true a env).bind fun d => .ok [d] := by rw [evs, evs]; rfl
  rw [e1] at p
  refine ⟨F, env, s, p.of_bind.of_bind.imp fun d p x H1 s1 rx => ?_⟩
  have rx : RpT X.K (Gr F H H1) H1 x d := rx
  have p : PG ca W H σ (sortSetD d) (WB t X.K F H Q) := p
  cases d with
  | str z =>
    have ex : x = .str z := rx
    subst ex
    have p : PG ca W H σ (sortSetL (z.cps.toList.map fun c => .str ⟨#[c]⟩)) (WB t X.K F H Q) := p
    unfold sortSetL at p
    have i1 : isIntL (z.cps.toList.map fun c => PyData.str ⟨#[c]⟩) = false := by cases z.cps.toList <;> rfl
    have i2 : isTupL (z.cps.toList.map fun c => PyData.str ⟨#[c]⟩) = false := by cases z.cps.toList <;> rfl
    rw [i1, i2, strs_chars] at p
    have p : PG ca W H σ (R.chk (decide ((chars z).length ≤ 4000)) (.ok (.list ((sortSetS (chars z)).map .str)))) (WB t X.K F H Q) := p
    cases c : decide ((chars z).length ≤ 4000) with
    | false => rw [c] at p; exact p.elim
    | true =>
      rw [c] at p
      have c := of_decide_eq_true c
      have hz : z.length ≤ 4000 := by unfold chars at c; rw [List.length_map, Array.length_toList] at c; exact c
      refine .inr ⟨z, rfl, hz, fun b hb => .inr (.inr ⟨b, _, rfl, upd_same, fun r hr => ?_⟩)⟩
      have s2 : Same H (upd H1 b (SetZ X.prog X.w b (chars z))) := s1.trans (same_upd hb)
      exact WB.n s.sub p s2 hr (txts_rpl _)
  | list ds =>
    obtain ⟨l, vs, rfl, hl, rl⟩ := rx
    have p : PG ca W H σ (sortSetL ds) (WB t X.K F H Q) := p
    unfold sortSetL at p
    cases ci : isIntL ds with
    | true =>
      rw [ci] at p
      have p : PG ca W H σ ((intsOf ds).bind fun is => R.chk (decide (is.length ≤ 4000) && decide ((distinct is).length < 64)) (.ok (.list ((sortSetI is).map .int)))) (WB t X.K F H Q) := p
      cases e : intsOf ds with
      | exc n => exact (intsOf_noexc e).elim
      | bad => rw [e] at p; exact p.elim
      | ok is =>
        rw [e] at p
        have ev := rl.intsOf e
        subst ev
        have p : PG ca W H σ (R.chk (decide (is.length ≤ 4000) && decide ((distinct is).length < 64)) (.ok (.list ((sortSetI is).map .int)))) (WB t X.K F H Q) := p
        cases c : (decide (is.length ≤ 4000) && decide ((distinct is).length < 64)) with
        | false => rw [c] at p; exact p.elim
        | true =>
          rw [c] at p
          simp only [Bool.and_eq_true, decide_eq_true_eq] at c
          refine .inl (.inr (.inl ⟨l, is, rfl, .inl hl, c.1, fun q hq => .inl ⟨q, _, _, rfl, upd_same, c.2, fun ns r h1 h2 h3 hr => ?_⟩⟩))
          have en : ns = sortSetI is := strict_unique h1 sset_lt fun k => by rw [h2 k, sset_mem]; simp
          subst en
          have s2 : Same H (upd H1 q (SetO X.w q (fun j => decide (j ∈ is)) (distinct is).length)) := s1.trans (same_upd hq)
          exact WB.n s.sub p s2 hr (ints_rpl _)
    | false =>
      rw [ci] at p
      cases ct : isTupL ds with
      | true =>
        rw [ct] at p
        have p : PG ca W H σ ((pairsI ds).bind fun ps => R.chk (decide (ps.length < 64)) (.ok (.list ((sortSetP ps).map encPI)))) (WB t X.K F H Q) := p
        cases e : pairsI ds with
        | exc n => exact (pairsI_noexc e).elim
        | bad => rw [e] at p; exact p.elim
        | ok ps =>
          rw [e] at p
          have p : PG ca W H σ (R.chk (decide (ps.length < 64)) (.ok (.list ((sortSetP ps).map encPI)))) (WB t X.K F H Q) := p
          cases c : decide (ps.length < 64) with
          | false => rw [c] at p; exact p.elim
          | true =>
            rw [c] at p
            have c := of_decide_eq_true c
            obtain ⟨k1, k2, k3⟩ := pairsI_keys e
            obtain ⟨ks, rfl, hks, hp⟩ := keys_of rl k1
            have sub := gr_sub s.sub s1
            have lk : ks.length < 64 := by
              have := congrArg List.length hks
              rw [List.length_map, List.length_map] at this
              omega
            have form : ∀ z ∈ ks, ∃ p ∈ ps, z.2 = [p.1, p.2] := fun z hz => by
              have : z.2 ∈ ps.map fun p => [p.1, p.2] := by rw [hks]; exact List.mem_map.mpr ⟨z, hz, rfl⟩
              obtain ⟨p, hp, e⟩ := List.mem_map.mp this
              exact ⟨p, hp, e.symm⟩
            refine .inl (.inl ⟨l, ks, rfl, hl, fun z hz => sub.sqT (hp z hz), lk, fun b L hb h1 h2 => .inr (.inl ⟨b, L, 2, 64, rfl, upd_same, fun z hz => (same_upd hb).sqT (sub.sqT (hp z (h1 z hz))), by decide, fun z hz => ?_, fun L' r pm nd hfew pw hr => ?_⟩)⟩)
            · obtain ⟨p, hp, e⟩ := form z (h1 z hz)
              obtain ⟨b1, b2, b3, b4⟩ := k3 p hp
              rw [e]
              refine ⟨rfl, ?_⟩
              intro v hv
              simp only [List.mem_cons, List.not_mem_nil, or_false] at hv
              rcases hv with rfl | rfl <;> omega
            · let tp : Addr × List Int → Int × Int := fun z => ((z.2.getD 0 0), (z.2.getD 1 0))
              have form' : ∀ z ∈ L', z ∈ ks ∧ tp z ∈ ps ∧ z.2 = [(tp z).1, (tp z).2] := fun z hz => by
                have hzk := h1 z (pm.mem_iff.mp hz)
                obtain ⟨p, hp, e⟩ := form z hzk
                have et : tp z = p := by show ((z.2.getD 0 0), (z.2.getD 1 0)) = p; rw [e]; rfl
                exact ⟨hzk, by rw [et]; exact hp, by rw [et]; exact e⟩
              have eq : L'.map tp = sortSetP ps := by
                refine sort_uniq totP antiP ?_ (isort_pair totP) ?_ (isort_perm.nodup_iff.mpr distinct_nodup) fun k => ?_
                · rw [List.pairwise_map]
                  refine pw.imp_of_mem fun {a b} ha hb hab => ?_
                  obtain ⟨_, pa, ea⟩ := form' a ha
                  obtain ⟨_, pb, eb⟩ := form' b hb
                  rw [ea, eb, L2.code_pair, L2.code_pair] at hab
                  obtain ⟨a1, a2, a3, a4⟩ := k3 _ pa
                  obtain ⟨b1, b2, b3, b4⟩ := k3 _ pb
                  simp only [pairLe, Bool.or_eq_true, Bool.and_eq_true, decide_eq_true_eq]
                  omega
                · have : (L'.map (·.2)) = (L'.map tp).map fun p => [p.1, p.2] := by
                    rw [List.map_map]
                    exact List.map_congr_left fun z hz => (form' z hz).2.2
                  rw [this] at nd
                  exact (List.pairwise_map.mp nd).imp fun h z => h (by rw [z])
                · unfold sortSetP
                  rw [isort_perm.mem_iff, distinct_mem]
                  constructor
                  · intro hk
                    obtain ⟨z, hz, rfl⟩ := List.mem_map.mp hk
                    exact (form' z hz).2.1
                  · intro hk
                    have : [k.1, k.2] ∈ ks.map (·.2) := by rw [← hks]; exact List.mem_map.mpr ⟨k, hk, rfl⟩
                    obtain ⟨z, hz, e⟩ := List.mem_map.mp this
                    have := h2 z hz
                    rw [e] at this
                    obtain ⟨y, hy, e2⟩ := List.mem_map.mp this
                    refine List.mem_map.mpr ⟨y, pm.mem_iff.mpr hy, ?_⟩
                    show ((y.2.getD 0 0), (y.2.getD 1 0)) = k
                    rw [e2]; rfl
              have s2 : Same H (upd H1 b (SetTO X.prog X.w b L)) := s1.trans (same_upd hb)
              refine WB.n s.sub p s2 hr ?_
              rw [← eq, List.map_map]
              have gl : Same (Gr F H H1) (Gr F H (upd H1 b (SetTO X.prog X.w b L))) := gr_left (same_upd hb)
              have all : ∀ z ∈ L', Rp X.K (Gr F H (upd H1 b (SetTO X.prog X.w b L))) (.ref z.1) (encPI (tp z)) := fun z hz => by
                obtain ⟨hzk, _, ez⟩ := form' z hz
                have st := hp z hzk
                rw [ez] at st
                exact .tup (gl.sqT st) (.cons (.int _) (.cons (.int _) .nil))
              clear eq form' pw nd pm hr hfew
              induction L' with
              | nil => exact .nil
              | cons z L' ih => exact .cons (all z (by simp)) (ih fun y hy => all y (by simp [hy]))
      | false =>
        rw [ct] at p
        have p : PG ca W H σ ((strsOf ds).bind fun zs => R.chk (decide (zs.length ≤ 4000)) (.ok (.list ((sortSetS zs).map .str)))) (WB t X.K F H Q) := p
        cases e : strsOf ds with
        | exc n => exact (strsOf_noexc e).elim
        | bad => rw [e] at p; exact p.elim
        | ok zs =>
          rw [e] at p
          have ev := rl.strsOf e
          subst ev
          have p : PG ca W H σ (R.chk (decide (zs.length ≤ 4000)) (.ok (.list ((sortSetS zs).map .str)))) (WB t X.K F H Q) := p
          cases c : decide (zs.length ≤ 4000) with
          | false => rw [c] at p; exact p.elim
          | true =>
            rw [c] at p
            have c := of_decide_eq_true c
            refine .inl (.inr (.inr ⟨l, zs, rfl, .inl hl, c, fun b hb => .inr (.inr ⟨b, zs, rfl, upd_same, fun r hr => ?_⟩)⟩))
            have s2 : Same H (upd H1 b (SetZ X.prog X.w b zs)) := s1.trans (same_upd hb)
            exact WB.n s.sub p s2 hr (txts_rpl _)
  | _ => exact p.elim
end
end Rf

set_option Elab.async false
set_option linter.all false
set_option maxHeartbeats 1600000
/-! Rf, part Y: methods (get, join, index), sorted(x, reverse=True), list(range), tuple(range); d[k] = v, pops. -/
namespace Rf
open PySem PySem.Spec PyProof.Rows L2

section
variable {S : Sig} {fuel : Nat} {ca : ExA} {W : WX} {X : Cx} {t : Bool} {L F0 H0 : Hp} {a b c e k tg : C} {ea eb ec ee ek : Expr} {es : List Expr} {pos apos cpos : Pos}
theorem Rd.gr {H H' : Hp} {a : Addr} {o : HO} (h : Rd H a o) (s : Same H H') : Rd H' a o := by
  rcases h with h | ⟨ob, h⟩
  · exact .inl (s _ _ h)
  · exact .inr ⟨ob, s _ _ h⟩
/-- x.get(k, y) -/
theorem se_dget {x : Str} {p1 : Pos} (hu : X.A.units + 65 < cLine) (ha : PE X (.Name x p1) (rd S ca W X.K true a)) (hb : PE X eb (rd S ca W X.K true b)) (hc : PE X ec (rd S ca W X.K false c)) (hs1 : notStar eb = true) (hs2 : notStar ec = true) (hl : (apos.endLine == cpos.line) = true) :
    PE X (.Call (.Attribute (.Name x p1) "get" apos) [eb, ec] [] cpos) (rd S ca W X.K t (.dget a b c)) := by
  refine ⟨fun pins s σ H Q I ⟨F, env, ss, p⟩ => ?_⟩
  rw [ev] at p
  have tr : backTo cpos (starEach [eb, ec] X.env) = [(false, eval eb X.env), (false, eval ec X.env)] := by rw [star_cons hs1, star_cons hs2]; rfl
  refine PySem.wpAny_Call_method rfl (by rw [tr]; rfl) hl PySem.F.plainAttrs_dict PySem.F.slot_dict_get PySem.F.type_dict_get (thn (ha.run pins s σ H (fun x H1 => ∃ a1 o kvs, x = .ref a1 ∧ Same H H1 ∧ Rd H1 a1 o ∧ DR X.K (Gr F H H1) a1 o kvs ∧
    PG ca W H σ ((ev S true b env).bind fun y => (ev S false c env).bind fun z => dgetD (.dict kvs) y z) (WB t X.K F H Q)) I ⟨F, env, ss, p.of_bind.imp fun d p x H1 s1 rx => ?_⟩) fun u s1 ⟨x, H1, I1, rx, a1, o, kvs, ex, S1, r1, d1, q1⟩ => ?_)
  · cases d with
    | dict kvs =>
      have rx : RpT X.K (Gr F H H1) H1 x (.dict kvs) := rx
      obtain ⟨a1, o, rfl, r1, d1⟩ := rx
      exact ⟨a1, o, kvs, rfl, s1, r1, d1, p⟩
    | _ => exact p.elim
  subst ex
  obtain rfl : u = Value.ref a1 := rx
  obtain ⟨ob, o1, o2⟩ := ddN I1 r1 d1
  refine ⟨ddT I1 r1 d1, fun b q => (by cases q; exact ⟨ob, o1, o2.2.1⟩), ?_⟩
  rw [tr]
  refine Calls.callWith_builtin rfl (Calls.evalArgs_plain (Calls.spliced_cons (thn (hb.run pins s1 σ H1 (fun y H2 => ∃ dy, Same H1 H2 ∧ RpT X.K (Gr F H1 H2) H2 y dy ∧ PG ca W H σ ((ev S false c env).bind fun z => dgetD (.dict kvs) dy z) (WB t X.K F H Q)) I1 ⟨F, env, ss.grow S1, q1.of_bind.go S1 fun d p y H2 s2 ry => ⟨d, s2, ry, p⟩⟩) fun iv s2 ⟨y, H2, I2, ry, dy, S2, ty, q2⟩ =>
    Calls.spliced_cons (thn (hc.run pins s2 σ H2 (fun z H3 => ∃ dz, Same H2 H3 ∧ Rp X.K (Gr F H2 H3) z dz ∧ PG ca W H σ (dgetD (.dict kvs) dy dz) (WB t X.K F H Q)) I2 ⟨F, env, (ss.grow S1).grow S2, q2.of_bind.go (S1.trans S2) fun d p z H3 s3 rz => ⟨d, s3, rz, p⟩⟩) fun fv s3 ⟨z, H3, I3, rz, dz, S3, tz, q3⟩ => Calls.spliced_nil ?_))))
  have s12 := S1.trans S2
  have s13 := s12.trans S3
  have q3 : PG ca W H σ (R.chk (keyOk kvs dy) (.ok ((dfind kvs dy).getD dz))) (WB t X.K F H Q) := q3
  cases hk : keyOk kvs dy with
  | false => rw [hk] at q3; exact q3.elim
  | true =>
    rw [hk] at q3
    have f3 : Same (Gr F H H3) H3 := gr_sub ss.sub s13
    have d3 : DR X.K (Gr F H H3) a1 o kvs := DR.mono d1 (gr_left (S2.trans S3))
    have ty3 : RpT X.K (Gr F H H3) H3 y dy := RpT.mono ty (fun a o q => gr_left S3 a o (gr_right ss.sub S1 S2 a o q)) S3
    have tz3 : Rp X.K (Gr F H H3) z dz := Rp.mono (gr_right ss.sub s12 S3) tz
    exact q_get2 hu I3 f3 (Rd.gr (Rd.gr r1 S2) S3) d3 hk (key_deep hk ty3) ry tz3 rz fun v w' s4 I4 rv rp => ⟨v, H3, I4, rv, q3 v H3 s13 (RpB.of rp f3)⟩
/-- "..".join(xs) -/
theorem vals_strs {K : PySem.W.Frag} {G : Hp} {vs : List V} {ds : List D} {zs : List Str} (r : RpL K G vs ds) (e : strsOf ds = .ok zs) : vs = zs.map V.str := RpL.strsOf r e
theorem se_join {z : Str} {kk : Nat} {p1 : Pos} (hb : PE X eb (rd S ca W X.K true b)) (hs : notStar eb = true) (hl : (apos.endLine == cpos.line) = true) :
    PE X (.Call (.Attribute (.Constant (.str z) kk p1) "join" apos) [eb] [] cpos) (rd S ca W X.K t (.bi .join (.cons (.cst (.str z)) (.cons b .nil)))) := by
  refine (pe_bm PySem.F.plainAttrs_str PySem.F.slot_str_join PySem.F.type_str_join mt_join pe_str (pa_cons hb pa_nil (star_cons hs)) rfl (by rw [star_cons hs]; rfl) hl (star_cons hs) rfl).imp fun σ H Q ⟨F, env, s, p⟩ => ?_
  rw [ev] at p
  have e1 : evs S true (.cons (.cst (.str z)) (.cons b .nil)) env = (ev S true b env).bind fun d => .ok [.str z, d] := by
    rw [evs, evs, evs, ev]
    cases ev S true b env <;> rfl
  rw [e1] at p
  refine ⟨rfl, F, env, s, p.of_bind.of_bind.imp fun d p x H1 s1 rx => ?_⟩
  have rx : RpT X.K (Gr F H H1) H1 x d := rx
  have p : PG ca W H σ (joinD (.str z) d) (WB t X.K F H Q) := p
  have go : ∀ l vs ds, x = .ref l → (SqL X.K H1 l vs ∨ SqT X.K H1 l vs) → RpL X.K (Gr F H H1) vs ds → PG ca W H σ ((strsOf ds).bind fun zs => R.chk (decide ((zs.map (·.length)).sum + zs.length * z.length ≤ lineN)) (.ok (.str (Str.join z zs)))) (WB t X.K F H Q) →
      ∃ a p, ∃ ys : List Str, V.str z = .str a ∧ [x] = [V.ref p] ∧ (SqL X.K H1 p (ys.map V.str) ∨ SqT X.K H1 p (ys.map V.str)) ∧ (ys.map (·.length)).sum + ys.length * a.length ≤ 16777216 ∧ Q (.str (Txt.join a ys)) H1 := fun l vs ds ex hl rl p => by
    cases e : strsOf ds with
    | exc n => exact (strsOf_noexc e).elim
    | bad => rw [e] at p; exact p.elim
    | ok zs =>
      rw [e] at p
      have ev := rl.strsOf e
      subst ev
      have p : PG ca W H σ (R.chk (decide ((zs.map (·.length)).sum + zs.length * z.length ≤ lineN)) (.ok (.str (Str.join z zs)))) (WB t X.K F H Q) := p
      cases c : decide ((zs.map (·.length)).sum + zs.length * z.length ≤ lineN) with
      | false => rw [c] at p; exact p.elim
      | true =>
        rw [c] at p
        refine ⟨z, l, zs, rfl, by rw [ex], hl, of_decide_eq_true c, ?_⟩
        rw [join_eq']
        exact WB.s s.sub p s1 fun _ => .str _
  cases d with
  | list ds =>
    obtain ⟨l, vs, ex, hl, rl⟩ := rx
    exact go l vs ds ex (.inl hl) rl p
  | tuple ds =>
    obtain ⟨l, vs, ex, hl, rl⟩ := rx
    exact go l vs ds ex (.inr ((gr_sub s.sub s1).sqT hl)) rl p
  | _ => exact p.elim
where
  join_eq' {y : Str} {parts : List Str} : Txt.join y parts = Str.join y parts := StrLaws.glued_eq_join y parts
/-- "..".index(x) -/
theorem se_index {z : Str} {kk : Nat} {p1 : Pos} (hb : PE X eb (rd S ca W X.K true b)) (hs : notStar eb = true) (hl : (apos.endLine == cpos.line) = true) :
    PE X (.Call (.Attribute (.Constant (.str z) kk p1) "index" apos) [eb] [] cpos) (rd S ca W X.K t (.bi .index (.cons (.cst (.str z)) (.cons b .nil)))) := by
  refine (pe_bm PySem.F.plainAttrs_str PySem.F.slot_str_index PySem.F.type_str_index mt_sindex pe_str (pa_cons hb pa_nil (star_cons hs)) rfl (by rw [star_cons hs]; rfl) hl (star_cons hs) rfl).imp fun σ H Q ⟨F, env, s, p⟩ => ?_
  rw [ev] at p
  have e1 : evs S true (.cons (.cst (.str z)) (.cons b .nil)) env = (ev S true b env).bind fun d => .ok [.str z, d] := by
    rw [evs, evs, evs, ev]
    cases ev S true b env <;> rfl
  rw [e1] at p
  refine ⟨rfl, F, env, s, p.of_bind.of_bind.imp fun d p x H1 s1 rx => ?_⟩
  have rx : RpT X.K (Gr F H H1) H1 x d := rx
  have p : PG ca W H σ (indexD (.str z) d) (WB t X.K F H Q) := p
  cases d with
  | str y =>
    have p : PG ca W H σ (match Builtin.Str.occurrences z y 0 z.length 1 with | i :: _ => .ok (.int (i : Nat)) | [] => .bad) (WB t X.K F H Q) := p
    cases o : Builtin.Str.occurrences z y 0 z.length 1 with
    | nil => rw [o] at p; exact p.elim
    | cons i r =>
      rw [o] at p
      exact ⟨z, y, i, r, rfl, by rw [show x = .str y from rx], o, WB.s s.sub p s1 fun _ => .int _⟩
  | _ => exact p.elim

/-! ### sorted(x, reverse=True) -/
theorem se_rsorted {x : Str} {p p2 pos kp : Pos} {kk : Nat} (hx : x = "sorted") (hc : X.calm = true) (hu : X.A.units + 65 < cLine) (hg : Gl X x) (hm : X.mg x = none) (ha : PE X ea (rd S ca W X.K true a)) (hs : notStar ea = true) :
    PE X (.Call (.Name x p) [ea] [⟨some "reverse", .Constant (.bool true) kk p2, kp⟩] pos) (rd S ca W X.K t (.bi .rsorted (.cons a .nil))) := by
  subst hx
  have cr : CallRK X (.builtin "sorted") ["reverse"] (fun xs zs H Q => zs = [.bl true] ∧ rBI X.K .rsorted xs H Q) := by
    intro pins s σ H xs zs us ws Q I r rz ⟨ez, h⟩
    subst ez
    obtain ⟨w, rfl, rw'⟩ := Vals.one rz
    obtain rfl : w = .bool true := rw'
    obtain ⟨F, d, x, rfl, f, hx, q⟩ := h.one rfl (fun a _ _ => by cases a <;> rfl)
    obtain ⟨u, rfl, rx⟩ := Vals.one r
    cases d with
    | list ds => exact sort_any (rev := true) (.inr rfl) hc hu I rx f hx rfl q
    | dict kvs => exact sort_any (rev := true) (.inr rfl) hc hu I rx f hx rfl q
    | _ => exact q.elim
  have hk : PK X [⟨some "reverse", .Constant (.bool true) kk p2, kp⟩] (tCons (tC (.bl true)) tNil) := pk_cons pe_bl pk_nil
  refine (pe_callBK cr hg hm (by decide +kernel) (pa_cons ha pa_nil (star_cons hs)) hk (by decide) (by decide) (by rw [star_cons hs]; rfl) (by rw [star_cons hs]; rfl) rfl rfl rfl).imp fun σ H Q h => ?_
  obtain ⟨F, env, s, p⟩ := h
  rw [ev] at p
  have e1 : evs S true (.cons a .nil) env = (ev S true a env).bind fun d => .ok [d] := by rw [evs, evs]; rfl
  rw [e1] at p
  refine ⟨F, env, s, p.of_bind.of_bind.imp fun d p x H1 s1 rx => ?_⟩
  have rx : RpT X.K (Gr F H H1) H1 x d := rx
  have p : PG ca W H σ (biD .rsorted [d]) (WB t X.K F H Q) := p
  refine ⟨rfl, Gr F H H1, [d], gr_sub s.sub s1, by exact ⟨rx, trivial⟩, ?_⟩
  unfold PostV
  cases q : biD .rsorted [d] with
  | ok k =>
    rw [q] at p
    intro v H' s3 rv
    exact p v H' (s1.trans s3) (RpB.of (Rp.mono (gr_gr s1 s3) rv) (gr_sub s.sub (s1.trans s3)))
  | exc n => exact (biD_noexc q).elim
  | bad => rw [q] at p; exact p

/-! ### list(range(..)), tuple(range(..)) -/
theorem rg_rp {K : PySem.W.Frag} {G : Hp} (i : Int) (n : Nat) : RpL K G ((List.range n).map fun j => V.int (i + (j : Nat))) (rangeD i n) := by
  unfold rangeD
  generalize List.range n = l
  induction l with
  | nil => exact .nil
  | cons y l ih => exact .cons (.int _) ih
theorem rng1 {j : Int} {r : List D} (h : rngD [.int j] = .ok r) : RgOk 0 j ∧ r = rangeD 0 (j - 0).toNat := by
  obtain ⟨h1, h2⟩ := chk_ok (show R.chk (decide (-(2 ^ 62) ≤ j) && decide (j < 2 ^ 62) && decide (j.toNat ≤ lineN)) (.ok (rangeD 0 j.toNat)) = .ok r from h)
  simp only [Bool.and_eq_true, decide_eq_true_eq] at h1
  cases h2
  refine ⟨⟨by decide, by decide, h1.1.1, h1.1.2, ?_⟩, by rw [Int.sub_zero]⟩
  have := h1.2
  unfold lineN at this
  omega
theorem rng2 {i j : Int} {r : List D} (h : rngD [.int i, .int j] = .ok r) : RgOk i j ∧ r = rangeD i (j - i).toNat := by
  obtain ⟨h1, h2⟩ := chk_ok (show R.chk (decide (-(2 ^ 62) ≤ i) && decide (i < 2 ^ 62) && decide (-(2 ^ 62) ≤ j) && decide (j < 2 ^ 62) && decide ((j - i).toNat ≤ lineN)) (.ok (rangeD i (j - i).toNat)) = .ok r from h)
  simp only [Bool.and_eq_true, decide_eq_true_eq] at h1
  cases h2
  have := h1.2
  unfold lineN at this
  exact ⟨⟨h1.1.1.1.1, h1.1.1.1.2, h1.1.1.2, h1.1.2, by omega⟩, rfl⟩
/-- the reading of range(..) as an argument -/
def rdG (S : Sig) (ca : ExA) (W : WX) (K : PySem.W.Frag) (es : C) : L2.St → Hp → (Int → Int → Hp → Prop) → Prop := fun σ H Q => ∃ F env, Ss K F H env σ ∧ PG ca W H σ ((evs S true es env).bind rngD) fun r => ∀ i j H', Same H H' → RgOk i j → r = rangeD i (j - i).toNat → Q i j H'
theorem PRg.imp {X : Cx} {e : Expr} {t t' : L2.St → Hp → (Int → Int → Hp → Prop) → Prop} (h : PRg X e t) (i : ∀ σ H Q, t' σ H Q → t σ H Q) : PRg X e t' := fun pins s σ H Q I w => h pins s σ H Q I (i _ _ _ w)
theorem sg_1 {x : Str} {p pos : Pos} (hx : x = "range") (hg : Gl X x) (hm : X.mg x = none) (ha : PE X ea (rd S ca W X.K true a)) (hs : notStar ea = true) : PRg X (.Call (.Name x p) [ea] [] pos) (rdG S ca W X.K (.cons a .nil)) := by
  subst hx
  refine PRg.imp (prg_1 hg hm ha (star_cons hs)) fun σ H Q ⟨F, env, s, p⟩ => ?_
  have e1 : evs S true (.cons a .nil) env = (ev S true a env).bind fun d => .ok [d] := by rw [evs, evs]; rfl
  rw [e1] at p
  rw [bind_assoc] at p
  refine ⟨F, env, s, p.of_bind.imp fun d p x H1 s1 rx => ?_⟩
  have rx : RpT X.K (Gr F H H1) H1 x d := rx
  have p2 : PG ca W H σ (rngD [d]) (fun r => ∀ i j H', Same H H' → RgOk i j → r = rangeD i (j - i).toNat → Q i j H') := p
  cases q : rngD [d] with
  | exc n => exact (rngD_noexc q).elim
  | bad => rw [q] at p2; exact p2.elim
  | ok r =>
    rw [q] at p2
    cases d with
    | int j =>
      obtain ⟨h1, h2⟩ := rng1 q
      exact ⟨j, rx, p2 0 j H1 s1 h1 h2⟩
    | _ => cases q
theorem sg_2 {x : Str} {p pos : Pos} (hx : x = "range") (hg : Gl X x) (hm : X.mg x = none) (ha : PE X ea (rd S ca W X.K true a)) (hb : PE X eb (rd S ca W X.K true b)) (hs : notStar ea = true) (hs2 : notStar eb = true) : PRg X (.Call (.Name x p) [ea, eb] [] pos) (rdG S ca W X.K (.cons a (.cons b .nil))) := by
  subst hx
  refine PRg.imp (prg_2 hg hm ha hb (star_cons hs) (star_cons hs2) (by rw [star_cons hs2]; rfl)) fun σ H Q ⟨F, env, s, p⟩ => ?_
  have e1 : evs S true (.cons a (.cons b .nil)) env = (ev S true a env).bind fun d => (ev S true b env).bind fun e => .ok [d, e] := by
    rw [evs, evs, evs]
    cases ev S true a env with
    | ok d => cases ev S true b env <;> rfl
    | _ => rfl
  rw [e1, bind_assoc] at p
  refine ⟨F, env, s, p.of_bind.imp fun d p x H1 s1 rx => ?_⟩
  rw [bind_assoc] at p
  refine ⟨F, env, s.grow s1, p.of_bind.go s1 fun e p y H2 s2 ry => ?_⟩
  have rx : RpT X.K (Gr F H H1) H1 x d := rx
  have ry : RpT X.K (Gr F H1 H2) H2 y e := ry
  have p2 : PG ca W H σ (rngD [d, e]) (fun r => ∀ i j H', Same H H' → RgOk i j → r = rangeD i (j - i).toNat → Q i j H') := p
  cases q : rngD [d, e] with
  | exc n => exact (rngD_noexc q).elim
  | bad => rw [q] at p2; exact p2.elim
  | ok r =>
    rw [q] at p2
    cases d with
    | int i =>
      cases e with
      | int j =>
        obtain ⟨h1, h2⟩ := rng2 q
        exact ⟨i, j, rx, ry, p2 i j H2 (s1.trans s2) h1 h2⟩
      | _ => cases q
    | _ => cases e <;> cases q
theorem rdG_post {σ : L2.St} {H F : Hp} {env : Env} {k : D → Prop} {f : List D → D} (p : PG ca W H σ ((evs S true a env).bind fun ds => (rngD ds).bind fun r => .ok (f r)) k) : PG ca W H σ ((evs S true a env).bind rngD) fun r => k (f r) := by
  rw [← bind_assoc] at p
  exact p.of_bind
theorem se_lrange {x : Str} {p pos : Pos} {er : Expr} (hx : x = "list") (hc : X.calm = true) (hg : Gl X x) (hm : X.mg x = none) (hr : PRg X er (rdG S ca W X.K a)) (hs : notStar er = true) : PE X (.Call (.Name x p) [er] [] pos) (rd S ca W X.K t (.bi .lrange a)) := by
  subst hx
  refine (pe_listRg hc hg hm hr (star_cons hs)).imp fun σ H Q ⟨F, env, s, p⟩ => ?_
  rw [ev] at p
  have p : PG ca W H σ ((evs S true a env).bind fun ds => (rngD ds).bind fun r => .ok (.list r)) (WB t X.K F H Q) := p
  refine ⟨F, env, s, (rdG_post (F := F) p).imp fun r p i j H1 s1 h1 h2 => ⟨h1, fun q hq => ?_⟩⟩
  subst h2
  exact WB.n s.sub p s1 hq (rg_rp i _)
theorem se_trange {x : Str} {p pos : Pos} {er : Expr} (hx : x = "tuple") (hc : X.calm = true) (hg : Gl X x) (hm : X.mg x = none) (hr : PRg X er (rdG S ca W X.K a)) (hs : notStar er = true) : PE X (.Call (.Name x p) [er] [] pos) (rd S ca W X.K t (.bi .trange a)) := by
  subst hx
  refine (pe_tupRg hc hg hm hr (star_cons hs)).imp fun σ H Q ⟨F, env, s, p⟩ => ?_
  rw [ev] at p
  have p : PG ca W H σ ((evs S true a env).bind fun ds => (rngD ds).bind fun r => .ok (.tuple r)) (WB t X.K F H Q) := p
  refine ⟨F, env, s, (rdG_post (F := F) p).imp fun r p i j H1 s1 h1 h2 => ⟨h1, fun q hq => ?_⟩⟩
  subst h2
  exact WB.t s.sub p s1 hq (rg_rp i _)

/-! ### x[k] = v -/
theorem ss_dput {i : Nat} {x : Str} {p1 p2 : Pos} (hu : X.A.units + 65 < cLine) (hv : PE X (.Name x p1) (tVar i)) (he : PE X ee (rd S ca W X.K false e)) (hk : PE X ek (rd S ca W X.K false k)) (hs : swapsWith ee (some (.Subscript (.Name x p1) ek p2)) pos.line X.env = pure false) :
    PS X (.Assign [.Subscript (.Name x p1) ek p2] ee pos) (rdS S fuel ca W X.K L F0 H0 (.dput i k e)) := by
  refine ⟨fun pins s σ H De I ⟨F, env, fr, p⟩ => ?_⟩
  rw [ex] at p
  have ow : (∃ kvs, env[i]? = some (some (true, .dict kvs))) ∧ SPost ca W X.K L F0 H0 ((ev S false e env).toS env fun y => (ev S false k env).toS env fun x => dputO env i x y) De := by
    cases q : ownDi env i with
    | false => rw [q] at p; exact p.elim
    | true =>
      rw [q] at p
      unfold ownDi at q
      split at q
      · rename_i kvs h
        exact ⟨⟨kvs, h⟩, p⟩
      · cases q
  obtain ⟨⟨kvs, e0⟩, p⟩ := ow
  have p := toS_pg fr p
  refine wpAny_Assign_Subscript (thn (he.run pins s σ H (fun v H1 => ∃ y, Same H H1 ∧ Rp X.K (Gr F H H1) v y ∧ SPost ca W X.K L F0 H0 ((ev S false k env).toS env fun x => dputO env i x y) De) I ⟨F, env, fr.ss, p.imp fun y p v H1 s1 rv => ⟨y, s1, rv, p⟩⟩) fun u s1 ⟨v, H1, I1, r1, y, S1, ry, q1⟩ => ?_) hs
  obtain ⟨a1, o, h1, h2, dr⟩ := (fr.grow S1).ownD e0
  refine thn (hv.run pins s1 σ H1 (fun x H2 => x = .ref a1 ∧ H2 = H1) I1 ⟨_, h1, rfl, rfl⟩) fun w s2 ⟨x, H2, I2, rx, ex, eH⟩ => ?_
  subst ex
  subst eH
  obtain rfl : w = Value.ref a1 := rx
  have q1 := toS_pg fr q1
  refine thn (hk.run pins s2 σ H2 (fun z H3 => ∃ dk, Same H2 H3 ∧ Rp X.K (Gr F H2 H3) z dk ∧ SPost ca W X.K L F0 H0 (dputO env i dk y) De) I2 ⟨F, env, fr.ss.grow S1, q1.go S1 fun dk p z H3 s3 rz => ⟨dk, s3, rz, p⟩⟩) fun iv s3 ⟨z, H3, I3, rz, dk, S3, tz, q3⟩ => ?_
  unfold dputO at q3
  rw [e0] at q3
  have q3 : SPost ca W X.K L F0 H0 (chkS (keyOk kvs dk && decide (kvs.length < lineN)) (.nx (env.set i (some (true, .dict (dputL kvs dk y)))))) De := q3
  cases c : (keyOk kvs dk && decide (kvs.length < lineN)) with
  | false => rw [c] at q3; exact q3.elim
  | true =>
    rw [c] at q3
    simp only [Bool.and_eq_true, decide_eq_true_eq, lineN_eq] at c
    have s13 := S1.trans S3
    have fr3 := fr.growF s13
    have dr3 : DR X.K (Gr F H H3) a1 o kvs := DR.mono dr (gr_F fr.ss.sub)
    refine q_setItem hu I3 fr3.ss.sub (S3 _ _ h2) dr3 c.1 c.2 (Rp.mono (gr_right fr.ss.sub S1 S3) tz) rz (Rp.mono (gr_left S3) ry) r1 fun o' s' dr' I4 => ?_
    exact ⟨σ, _, I4, q3 _ _ _ (fr3.writeO e0 h1 dr')⟩
end
end Rf

set_option Elab.async false
set_option linter.all false
set_option maxHeartbeats 1600000
/-! Rf, part Y2: an item leaves a list. -/
namespace Rf
open PySem PySem.Spec PyProof.Rows L2

theorem RpL.at {K : PySem.W.Frag} {F : Hp} : ∀ {vs : List V} {ds : List D} {n : Nat} {d : D}, RpL K F vs ds → ds[n]? = some d → ∃ v, vs[n]? = some v ∧ Rp K F v d
  | _, [], n, d, .nil, e => nomatch e
  | _, _ :: _, 0, d, .cons (v := v) h _, e => by cases e; exact ⟨_, rfl, h⟩
  | _, _ :: _, n + 1, d, .cons _ r, e => by
    obtain ⟨v, h1, h2⟩ := RpL.at (n := n) r e
    exact ⟨v, h1, h2⟩
theorem RpL.erase {K : PySem.W.Frag} {F : Hp} : ∀ {vs : List V} {ds : List D} {n : Nat}, RpL K F vs ds → RpL K F (vs.eraseIdx n) (ds.eraseIdx n)
  | _, [], n, .nil => .nil
  | _, _ :: _, 0, .cons h r => r
  | _, _ :: _, n + 1, .cons h r => .cons h (RpL.erase (n := n) r)
theorem popO_ok {env env2 : Env} {j : Nat} {k d : D} (h : popO env j k = .ok (d, env2)) : ∃ xs i n, env[j]? = some (some (true, .list xs)) ∧ k = .int i ∧ xs.length ≤ lineN ∧ L2.ixN xs.length i = some n ∧ xs[n]? = some d ∧ env2 = env.set j (some (true, .list (xs.eraseIdx n))) := by
  unfold popO at h
  split at h
  · rename_i xs i e
    obtain ⟨h1, h⟩ := chk_ok h
    unfold popL at h
    cases q : L2.ixN xs.length i with
    | none => rw [q] at h; cases h
    | some n =>
      rw [q] at h
      cases q2 : xs[n]? with
      | none => simp only [q2] at h; cases h
      | some y =>
        simp only [q2] at h
        cases h
        exact ⟨xs, i, n, e, rfl, of_decide_eq_true h1, q, q2, rfl⟩
  · cases h
theorem popO_noexc {env : Env} {j : Nat} {k : D} {n : Str} : popO env j k ≠ .exc n := by
  unfold popO
  split
  · refine chk_noexc ?_
    split <;> exact fun z => nomatch z
  · exact fun z => nomatch z
section
variable {S : Sig} {fuel : Nat} {ca : ExA} {W : WX} {X : Cx} {L F0 H0 : Hp} {e tg : C} {ee etg : Expr} {pos apos cpos : Pos}
/-- x.append(y.pop(e)) -/
theorem ss_apop {i j : Nat} {x y : Str} {p1 p2 apos2 cpos2 : Pos} (hv : PE X (.Name x p1) (tVar i)) (hv2 : PE X (.Name y p2) (tVar j)) (he : PE X ee (rd S ca W X.K false e)) (hst : notStar ee = true) (hl : (apos.endLine == cpos.line) = true) (hl2 : (apos2.endLine == cpos2.line) = true) :
    PS X (.Expr (.Call (.Attribute (.Name x p1) "append" apos) [.Call (.Attribute (.Name y p2) "pop" apos2) [ee] [] cpos2] [] cpos) pos) (rdS S fuel ca W X.K L F0 H0 (.apop i j e)) := by
  refine (ps_expr (pe_method PySem.F.slot_list_append PySem.F.type_list_append mt_append hv (pa_cons (pe_method PySem.F.slot_list_pop (by first | exact PySem.F.type_list_pop | kernel_rfl) mt_popAt hv2 (pa_cons he pa_nil (star_cons hst)) ⟨_, _, rfl⟩ hst hl2) pa_nil rfl) ⟨_, _, rfl⟩ rfl hl) rfl).imp fun De σ H ⟨F, env, fr, p⟩ => ?_
  rw [ex] at p
  cases c : (ownL env i && ownL env j && decide (i ≠ j)) with
  | false => rw [c] at p; exact p.elim
  | true =>
    rw [c] at p
    have p : SPost ca W X.K L F0 H0 ((ev S false e env).toS env fun k => (popO env j k).toS env fun p => appO p.2 i [p.1]) De := p
    simp only [Bool.and_eq_true, decide_eq_true_eq] at c
    obtain ⟨⟨c1, c2⟩, hij⟩ := c
    have own : ∀ {m : Nat}, ownL env m = true → ∃ xs, env[m]? = some (some (true, .list xs)) := fun {m} h => by
      unfold ownL at h
      split at h
      · rename_i xs q; exact ⟨xs, q⟩
      · cases h
    obtain ⟨xs, e0⟩ := own c1
    obtain ⟨ys, e1⟩ := own c2
    obtain ⟨l, vs, h1, h2, r⟩ := fr.ownAt e0
    obtain ⟨m, us, g1, g2, r2⟩ := fr.ownAt e1
    have hlm : l ≠ m := fun z => by subst z; exact fr.ss.apart i j _ _ _ hij e0 e1 h1 g1
    refine ⟨_, h1, .inl ⟨rfl, _, .inl (.inl h2)⟩, _, g1, .inl ⟨rfl, _, .inl (.inl g2)⟩, F, env, fr.ss, (toS_pg fr p).imp fun k p v H' s rv => ?_⟩
    cases q : popO env j k with
    | exc n => exact (popO_noexc q).elim
    | bad => rw [q] at p; exact p.elim
    | ok de =>
      obtain ⟨d, env2⟩ := de
      rw [q] at p
      have p : SPost ca W X.K L F0 H0 (appO env2 i [d]) De := p
      obtain ⟨ys', ii, n, e1', rfl, hz, hn, hd, rfl⟩ := popO_ok q
      rw [e1] at e1'
      cases e1'
      have rv : Rp X.K (Gr F H H') v (.int ii) := rv
      cases rv
      obtain ⟨n1, n2, n3, n4⟩ := L2.ixN_seq hn
      obtain ⟨y, hy, ry⟩ := RpL.at r2 hd
      have hus : us.length = ys.length := r2.length
      have lz : lineN = 16777216 := rfl
      have fr1 := (fr.growF s).write e1 g1 (s _ _ g2) (RpL.mono (gr_F fr.ss.sub) (RpL.erase (n := n) r2))
      obtain ⟨xs2, e2, hz2, p⟩ := appO_inv p
      have e2' : env[i]? = some (some (true, .list xs2)) := by rw [List.getElem?_set_ne (fun z => hij z.symm)] at e2; exact e2
      rw [e0] at e2'
      cases e2'
      have hl' : upd H' m (.lst (us.eraseIdx n)) l = some (.lst vs) := by rw [upd_ne hlm]; exact s _ _ h2
      refine ⟨m, us, ii, n, y, rfl, rfl, s _ _ g2, by omega, by omega, by rw [hus]; exact n1, hy, l, vs, y, rfl, rfl, hl', ?_, ?_⟩
      · rw [r.length, ← lineN_eq]; simp at hz2; omega
      · exact p _ _ _ (fr1.write e2 h1 hl' (RpL.app (RpL.mono (gr_F fr.ss.sub) r) (.cons (Rp.mono (gr_F fr.ss.sub) ry) .nil)))
/-- targets = y.pop() -/
theorem ss_popu {j : Nat} {y : Str} {p2 : Pos} (hv2 : PE X (.Name y p2) (tVar j)) (hl : (apos.endLine == cpos.line) = true) (hg : L2.PG X etg (gOf X.K tg))
    (hs : swapsWithSole [etg] (.Call (.Attribute (.Name y p2) "pop" apos) [] [] cpos) pos.line X.env = pure false) (hw : swappedStores [etg] (.Call (.Attribute (.Name y p2) "pop" apos) [] [] cpos) X.env = pure none) (h1 : (assignEach [etg] X.env).map (·.2) = [assign etg X.env]) :
    PS X (.Assign [etg] (.Call (.Attribute (.Name y p2) "pop" apos) [] [] cpos) pos) (rdS S fuel ca W X.K L F0 H0 (.popu tg j)) := by
  refine (ps_asg (pe_bm0 PySem.F.plainAttrs_list PySem.F.slot_list_pop (by first | exact PySem.F.type_list_pop | kernel_rfl) mt_pop hv2 rfl hl) hg hs hw h1).imp fun De σ H ⟨F, env, fr, p⟩ => ?_
  rw [ex] at p
  cases q : popO env j (.int (-1)) with
  | exc n => exact (popO_noexc q).elim
  | bad => rw [q] at p; exact p.elim
  | ok de =>
    obtain ⟨d, env2⟩ := de
    rw [q] at p
    have p : SPost ca W X.K L F0 H0 ((bindT tg d env2).toS env .nx) De := p
    obtain ⟨ys, ii, n, e1, ei, hz, hn, hd, rfl⟩ := popO_ok q
    cases ei
    obtain ⟨m, us, g1, g2, r2⟩ := fr.ownAt e1
    obtain ⟨n1, n2, n3, n4⟩ := L2.ixN_seq hn
    obtain ⟨v, hv, rv⟩ := RpL.at r2 hd
    have hus : us.length = ys.length := r2.length
    have hn' : n = us.length - 1 := by
      unfold L2.ixN at hn
      rw [if_neg (by omega), if_pos n3] at hn
      have := Option.some.inj hn
      omega
    subst hn'
    have fr1 := fr.write e1 g1 g2 (RpL.erase (n := us.length - 1) r2)
    have ed : us.dropLast = us.eraseIdx (us.length - 1) := (PyProof.Rows.Copied.eraseIdx_last us).symm
    refine ⟨_, g1, .inl ⟨rfl, _, .inl (.inl g2)⟩, m, us, v, rfl, rfl, g2, hv, ?_⟩
    rw [ed]
    cases eb : bindT tg d (env.set j (some (true, .list (ys.eraseIdx (us.length - 1))))) with
    | ok env3 =>
      rw [eb] at p
      exact bindT_okP (P := Fr X.K L F0 H0 F (upd H m (.lst (us.eraseIdx (us.length - 1))))) (fun _ _ _ _ _ h r => h.set r) (vs := tgVars tg) eb rv fr1.ss.sub fr1 (fun _ h => h) fun σ2 fr2 _ => p _ _ _ fr2
    | exc n => exact (bindT_noexc eb).elim
    | bad => rw [eb] at p; exact p.elim
end
end Rf

set_option Elab.async false
set_option linter.all false
set_option maxHeartbeats 1000000
/-! Rf, part K: the checker: is the core term c the text's expression e? -/
namespace Rf
open PySem PySem.Spec PyProof.Rows L2

/-- what is known of a def's text: its slots, the defs it may call (with how many arguments), constants, built-in names, exception classes -/
structure Gi where
  N : List Str
  defs : List (Str × Nat)
  globs : List Str
  free : List Str
  excs : List Str
def isG (sc : Scope) (x : Str) : Bool := decide (sc.names.lookup x = some .globalImplicit) && !(x == "__debug__")
def isV (sc : Scope) (x : Str) : Bool := (match sc.names.lookup x with | some .local => true | some .cell => true | some .free => true | _ => false) && !(x == "__debug__") && !(x == "__classdict__")
def isL (sc : Scope) (x : Str) : Bool := match sc.names.lookup x with | some .local => true | some .cell => true | _ => false
def isLoc (sc : Scope) (x : Str) : Bool := match sc.names.lookup x with | some .local => true | _ => false
def cstOk : D → Const → Bool
  | .int i, .int j => decide (i = j)
  | .bool i, .bool j => decide (i = j)
  | .str i, .str j => decide (i = j)
  | .none, .none => true
  | _, _ => false
def notComp : Expr → Bool | .ListComp _ _ _ _ => false | .SetComp _ _ _ _ => false | .DictComp _ _ _ _ _ => false | _ => true
def notSet : Expr → Bool | .Set _ _ _ => false | _ => true
def notTup : Expr → Bool | .Tuple _ _ _ => false | .List _ _ => false | _ => true
def plainI : Expr → Bool | .Slice _ _ _ _ => false | .Constant _ _ _ => true | .Name _ _ => true | .BinOp _ _ _ _ => true | .Call _ _ _ _ => true | .Subscript _ _ _ => true | .UnaryOp _ _ _ => true | _ => false
def tyNm : BI → Option (Str × String)
  | .isInt => some ("int", "int") | .isBool => some ("bool", "bool") | .isTuple => some ("tuple", "tuple") | .isStr => some ("str", "str") | .isList => some ("list", "list")
  | _ => none
def tgsOk (N : List Str) (fn : Str → Bool) (sc : Scope) : C → List Expr → Bool
  | .nil, [] => true
  | .cons (.var i) r, .Name x _ :: es => decide (N[i]? = some x) && isL sc x && (fn x || isLoc sc x) && tgsOk N fn sc r es
  | _, _ => false
def tgOk (N : List Str) (fn : Str → Bool) (sc : Scope) : C → Expr → Bool
  | .var i, .Name x _ => decide (N[i]? = some x) && isL sc x && (fn x || isLoc sc x)
  | .tup ts, .Tuple es _ _ => tgsOk N fn sc ts es
  | _, _ => false
def ownOf (N : List Str) (tg : C) : List (Str × Nat) := (tgVars tg).map fun i => (N[i]?.getD "", i)
def fnOf (scope : Scope) : Str → Bool := fun x => scope.names.lookup x == some .cell
abbrev EB := Expr → Bool
abbrev LB := List Expr → Bool
def qVar (G : Gi) (i : Nat) (sc : Scope) : EB := fun e => match e with | .Name x _ => decide (G.N[i]? = some x) && isV sc x | _ => false
def qCst (d : D) : EB := fun e => match e with | .Constant k _ _ => cstOk d k | _ => false
def qGlob (G : Gi) (x : Str) (sc : Scope) : EB := fun e => match e with | .Name y _ => decide (y = x) && isG sc y && G.globs.contains y | _ => false
def qBin (o : Bop) (a b : EB) : EB := fun e => match e with | .BinOp ea op eb _ => decide (op = bopS o) && a ea && b eb | _ => false
def qCmp (o : Cop) (a b : EB) : EB := fun e => match e with | .Compare ea [op] [eb] _ => decide (op = copS o) && !behindInMarks (copS o) eb && a ea && b eb | _ => false
def qChain (o1 o2 : Cop) (a b c : EB) : EB := fun e => match e with | .Compare ea [p1, p2] [eb, ec] _ => decide (p1 = copS o1) && decide (p2 = copS o2) && !lastMarks [copS o1, copS o2] [eb, ec] && a ea && b eb && c ec | _ => false
def qAnd (l : LB) : EB := fun e => match e with | .BoolOp .And vs _ => l vs | _ => false
def qOr (l : LB) : EB := fun e => match e with | .BoolOp .Or vs _ => l vs | _ => false
def qNot (a : EB) : EB := fun e => match e with | .UnaryOp .Not ea _ => a ea | _ => false
def qNeg (a : EB) : EB := fun e => match e with | .UnaryOp .USub ea _ => a ea | _ => false
def qIf (c a b : EB) : EB := fun e => match e with | .IfExp ec ea eb _ => c ec && a ea && b eb | _ => false
def qTup (l : LB) : EB := fun e => match e with | .Tuple vs _ _ => l vs | _ => false
def qLst (l : LB) : EB := fun e => match e with | .List vs _ => l vs | _ => false
def qIdx (a b : EB) : EB := fun e => match e with | .Subscript ea eb _ => plainI eb && a ea && b eb | _ => false
def qSl (a : EB) (lo hi : Option Expr → Bool) : EB := fun e => match e with | .Subscript ea (.Slice l h none _) _ => a ea && lo l && hi h | _ => false
def qRev (a : EB) : EB := fun e => match e with | .Subscript ea (.Slice none none (some (.UnaryOp .USub (.Constant (.int j) _ _) _)) _) _ => decide (j = 1) && a ea | _ => false
def qCall (G : Gi) (f : Str) (n : Nat) (sc : Scope) (l : LB) : EB := fun e => match e with | .Call (.Name y _) vs [] _ => decide (y = f) && isG sc y && decide (G.defs.lookup y = some n) && vs.all notStar && l vs | _ => false
def qBi0 (G : Gi) (b : BI) (sc : Scope) (l : LB) : EB := fun e => match e with
    | .Call (.Name y _) vs [] _ => (match tyNm b with
      | some (ty, _) => decide (y = "isinstance") && isG sc y && G.free.contains y && (match vs with
        | [ea, .Name z _] => decide (z = ty) && isG sc z && G.free.contains z && notStar ea && l [ea]
        | _ => false)
      | none => decide (y = biNm b) && (biR b || decide (b = .sorted)) && isG sc y && G.free.contains y && vs.all notStar && !vs.isEmpty && l vs)
    | _ => false
def qLs (G : Gi) (fx : Str) (sc : Scope) (l : LB) : EB := fun e => match e with
    | .Call (.Name x _) [.Call (.Name y _) [ea] [] _] [] _ => decide (x = fx) && decide (y = "set") && isG sc x && G.free.contains x && isG sc y && G.free.contains y && notStar ea && l [ea]
    | _ => false
def qRs (G : Gi) (sc : Scope) (l : LB) : EB := fun e => match e with
    | .Call (.Name x _) [ea] [⟨some r, .Constant (.bool b) _ _, _⟩] _ => decide (x = "sorted") && decide (r = "reverse") && b && isG sc x && G.free.contains x && notStar ea && l [ea]
    | _ => false
def qRg (G : Gi) (fx : Str) (sc : Scope) (l : LB) : EB := fun e => match e with
    | .Call (.Name x _) [.Call (.Name y _) [ea] [] _] [] _ => decide (x = fx) && decide (y = "range") && isG sc x && G.free.contains x && isG sc y && G.free.contains y && notStar ea && l [ea]
    | .Call (.Name x _) [.Call (.Name y _) [ea, eb] [] _] [] _ => decide (x = fx) && decide (y = "range") && isG sc x && G.free.contains x && isG sc y && G.free.contains y && notStar ea && notStar eb && l [ea, eb]
    | _ => false
def headStr : C → Option Str
  | .cons (.cst (.str z)) (.cons _ .nil) => some z
  | _ => none
def qMt (nm : Str) (hd : Option Str) (l : LB) : EB := fun e => match e with
    | .Call (.Attribute (.Constant (.str z) k p) m apos) [ee] [] cpos => decide (m = nm) && decide (hd = some z) && (apos.endLine == cpos.line) && notStar ee && l [.Constant (.str z) k p, ee]
    | _ => false
def qBi (G : Gi) (b : BI) (hd : Option Str) (sc : Scope) (l : LB) : EB := match b with
  | .lenset => qLs G "len" sc l
  | .sortset => qLs G "sorted" sc l
  | .rsorted => qRs G sc l
  | .lrange => qRg G "list" sc l
  | .trange => qRg G "tuple" sc l
  | .join => qMt "join" hd l
  | .index => qMt "index" hd l
  | b => qBi0 G b sc l
def qGet (f g h : EB) : EB := fun e => match e with
    | .Call (.Attribute (.Name x p) m apos) [eb, ec] [] cpos => decide (m = "get") && (apos.endLine == cpos.line) && notStar eb && notStar ec && f (.Name x p) && g eb && h ec
    | _ => false
def qCalls (G : Gi) (fs : List Str) (n : Nat) (sc : Scope) (k : EB) (l : LB) : EB := fun e => match e with
    | .Call (.Subscript (.List ns _) ek _) vs [] _ => nsOk ns fs && fs.all (fun f => isG sc f && decide (G.defs.lookup f = some n)) && decide (fs.length ≤ 1000) && plainI ek && k ek && !vs.isEmpty && vs.all notStar && l vs
    | _ => false
def qLc (G : Gi) (tg : C) (sc : Scope) (it : Expr → EB) (cond : Scope → LB) (elt : Scope → EB) : EB := fun e => match e with
    | .ListComp eelt [⟨etg, eit, ifs, as⟩] scope _ => decide (as = 0) && notSet eit && blkC G.N sc scope (ownOf G.N tg) && tgOk G.N (fnOf scope) (relS scope sc) tg etg && it etg eit && cond (relS scope sc) ifs && elt (relS scope sc) eelt
    | _ => false
def qCons (h : EB) (t : LB) : LB := fun vs => match vs with | e :: es => notStar e && h e && t es | [] => false
def qConsT (h : EB) (t : LB) : LB := fun vs => match vs with | e :: es => h e && t es | [] => false
def qOne (h : EB) : LB := fun vs => match vs with | [e] => h e | _ => false
def qSome (h : EB) : Option Expr → Bool := fun o => match o with | some e => h e | none => false
def qFn1 (G : Gi) (x : Str) (sc : Scope) (a : EB) : EB := fun e => match e with | .Call (.Name y _) [ea] [] _ => decide (y = x) && isG sc y && G.free.contains y && notStar ea && a ea | _ => false
def qFn2 (G : Gi) (x : Str) (sc : Scope) (a b : EB) : EB := fun e => match e with | .Call (.Name y _) [ea, eb] [] _ => decide (y = x) && isG sc y && G.free.contains y && notStar ea && notStar eb && a ea && b eb | _ => false
def isTup : EB := fun e => match e with | .Tuple _ _ _ => true | _ => false
mutual
def okE (G : Gi) : C → Scope → EB
  | .var i, sc => qVar G i sc
  | .cst d, _ => qCst d
  | .glob x, sc => qGlob G x sc
  | .bin o a b, sc => qBin o (okE G a sc) (okE G b sc)
  | .cmp o a b, sc => qCmp o (okE G a sc) (okE G b sc)
  | .chain o1 o2 a b c, sc => qChain o1 o2 (okE G a sc) (okE G b sc) (okE G c sc)
  | .band es, sc => qAnd (okL G es sc)
  | .bor es, sc => qOr (okL G es sc)
  | .bnot a, sc => qNot (okE G a sc)
  | .neg a, sc => qNeg (okE G a sc)
  | .ife c a b, sc => qIf (okT G c sc) (okE G a sc) (okE G b sc)
  | .tup es, sc => qTup (okL G es sc)
  | .lst es, sc => qLst (okL G es sc)
  | .idx a b, sc => qIdx (okE G a sc) (okE G b sc)
  | .sl a lo hi, sc => qSl (okE G a sc) (okO G lo sc) (okO G hi sc)
  | .rev a, sc => qRev (okE G a sc)
  | .call f es, sc => qCall G f (cLen es) sc (okL G es sc)
  | .calls fs k es, sc => qCalls G fs (cLen es) sc (okE G k sc) (okL G es sc)
  | .bi b es, sc => qBi G b (headStr es) sc (okL G es sc)
  | .dget a b c, sc => qGet (okE G a sc) (okE G b sc) (okE G c sc)
  | .lc tg it cond elt, sc => qLc G tg sc (okI G it sc) (fun s => okC G cond s) (fun s => okE G elt s)
  | _, _ => fun _ => false
def okL (G : Gi) : C → Scope → LB
  | .nil, _ => fun vs => vs.isEmpty
  | .cons h t, sc => qCons (okE G h sc) (okL G t sc)
  | _, _ => fun _ => false
def okT (G : Gi) : C → Scope → EB
  | .cmp o a b, sc => qCmp o (okE G a sc) (okE G b sc)
  | .chain o1 o2 a b c, sc => qChain o1 o2 (okE G a sc) (okE G b sc) (okE G c sc)
  | .band es, sc => qAnd (okTL G es sc)
  | .bor es, sc => qOr (okTL G es sc)
  | .bnot a, sc => qNot (okT G a sc)
  | .calls fs k es, sc => fun e => plainT e && qCalls G fs (cLen es) sc (okE G k sc) (okL G es sc) e
  | .call f es, sc => fun e => plainT e && qCall G f (cLen es) sc (okL G es sc) e
  | .bi b es, sc => fun e => plainT e && qBi G b (headStr es) sc (okL G es sc) e
  | .var i, sc => fun e => plainT e && qVar G i sc e
  | .idx a b, sc => fun e => plainT e && qIdx (okE G a sc) (okE G b sc) e
  | _, _ => fun _ => false
def okTL (G : Gi) : C → Scope → LB
  | .nil, _ => fun vs => vs.isEmpty
  | .cons h t, sc => qConsT (okT G h sc) (okTL G t sc)
  | _, _ => fun _ => false
def okO (G : Gi) : C → Scope → Option Expr → Bool
  | .nil, _ => fun o => o.isNone
  | .cons a .nil, sc => qSome (okE G a sc)
  | _, _ => fun _ => false
def okC (G : Gi) : C → Scope → LB
  | .nil, _ => fun vs => vs.isEmpty
  | .cons a .nil, sc => qOne (okT G a sc)
  | _, _ => fun _ => false
def okI (G : Gi) : C → Scope → Expr → EB
  | .itm a, sc => fun _ => okE G a sc
  | .enum a, sc => fun tg e => isTup tg && qFn1 G "enumerate" sc (okE G a sc) e
  | .zip a b, sc => fun tg e => isTup tg && qFn2 G "zip" sc (okE G a sc) (okE G b sc) e
  | .rng (.cons a .nil), sc => fun _ => qFn1 G "range" sc (okE G a sc)
  | .rng (.cons a (.cons b .nil)), sc => fun _ => qFn2 G "range" sc (okE G a sc) (okE G b sc)
  | _, _ => fun _ _ => false
end
example : okE ⟨[], [], [], [], []⟩ .nil default (.Name "" ⟨0,0,0,0⟩) = false := rfl
end Rf

set_option Elab.async false
set_option linter.all false
set_option maxHeartbeats 2000000
/-! Rf, part L: the checker is sound (expressions). -/
namespace Rf
open PySem PySem.Spec PyProof.Rows L2

/-- the context that the checker speaks of -/
structure Cok (G : Gi) (S : Sig) (ca : ExA) (fn : Str → Bool) (sc : Scope) (W : WX) (X : Cx) : Prop where
  N : X.N = G.N
  nd : X.N.Nodup
  hsc : X.env.scope = sc
  kind : sc.kind = .function
  fn : X.fn = fn
  calm : X.calm = true
  units : X.A.units + 65 < cLine
  tk : Takes X W
  free : ∀ x, G.free.contains x = true → X.mg x = none
  glob : ∀ x, G.globs.contains x = true → ∃ v u d, X.mg x = some u ∧ RelV v u ∧ S.gl x = .ok d ∧ Rp X.K (fun _ => none) v d
  defs : ∀ f n, G.defs.lookup f = some n → ∃ k fa fd ps, FnOk X.prog X.w X.K X.mg X.base (L2.CX X.prog X.w) k fa fd ps (spD X.K S ca f n) ∧ Room k X.A ∧ X.mg f = some (.ref fa) ∧ PySem.W.keepIn X.K (.ref fa) = true ∧ Binds X.K fd ps []
section
variable {G : Gi} {S : Sig} {ca : ExA} {fn : Str → Bool} {sc : Scope} {W : WX} {X : Cx}
theorem Cok.blk (h : Cok G S ca fn sc W X) {s : Shared} {H : Hp} {scope : Scope} {C : Addr} {cl : List (Str × Addr)} {fp : List Addr} (hk : scope.kind = .function) : Cok G S ca (fnOf scope) (relS scope sc) W0 (X.blk s H scope (compEnvC scope cl C X.env) fp) := by
  refine ⟨h.N, h.nd, by rw [← h.hsc]; rfl, hk, rfl, h.calm, h.units, takes0, h.free, h.glob, h.defs⟩
theorem Cok.gl (h : Cok G S ca fn sc W X) {x : Str} (e : isG sc x = true) : Gl X x ∧ (x == ("__debug__" : Str)) = false := by
  unfold isG at e
  simp only [Bool.and_eq_true, decide_eq_true_eq, Bool.not_eq_true'] at e
  exact ⟨by show X.env.scope.names.lookup x = _; rw [h.hsc]; exact e.1, e.2⟩
theorem Cok.vis (h : Cok G S ca fn sc W X) {x : Str} (e : isV sc x = true) : Vis X.env.scope x ∧ (x == ("__debug__" : Str)) = false ∧ (x == ("__classdict__" : Str)) = false := by
  unfold isV at e
  simp only [Bool.and_eq_true, Bool.not_eq_true'] at e
  refine ⟨?_, e.1.2, e.2⟩
  have e := e.1.1
  unfold Vis
  rw [h.hsc]
  split at e
  · rename_i q; exact .inl q
  · rename_i q; exact .inr (.inl q)
  · rename_i q; exact .inr (.inr q)
  · cases e
theorem Cok.loc (h : Cok G S ca fn sc W X) {x : Str} (e : isL sc x = true) : L2.Loc X.env.scope x := by
  unfold isL at e
  unfold L2.Loc
  rw [h.hsc]
  split at e
  · rename_i q; exact .inl q
  · rename_i q; exact .inr q
  · cases e
theorem isLoc_eq {x : Str} (e : isLoc sc x = true) : sc.names.lookup x = some .local := by
  unfold isLoc at e
  split at e
  · assumption
  · cases e
theorem Cok.hf (h : Cok G S ca fn sc W X) {x : Str} (e : (fn x || isLoc sc x) = true) : X.fn x = true ∨ X.env.scope.names.lookup x = some .local := by
  rw [h.fn, h.hsc]
  rw [Bool.or_eq_true] at e
  exact e.imp id isLoc_eq
theorem Cok.at (h : Cok G S ca fn sc W X) {i : Nat} {x : Str} (e : decide (G.N[i]? = some x) = true) : X.N[i]? = some x := by rw [h.N]; exact of_decide_eq_true e
theorem tgs_ok (h : Cok G S ca fn sc W X) : ∀ {ts : C} {es : List Expr}, tgsOk G.N fn sc ts es = true → PGs X es (gsOf ts) ∧ es.length = cLen ts ∧ es.all notStar = true
  | .nil, [], _ => ⟨pgs_nil, rfl, rfl⟩
  | .cons (.var i) r, .Name x p :: es, e => by
    have e : (decide (G.N[i]? = some x) && isL sc x && (fn x || isLoc sc x) && tgsOk G.N fn sc r es) = true := e
    rw [Bool.and_eq_true, Bool.and_eq_true, Bool.and_eq_true] at e
    obtain ⟨i1, i2, i3⟩ := tgs_ok h e.2
    exact ⟨pgs_cons (pg_name h.nd (h.at e.1.1.1) (h.loc e.1.1.2) (h.hf e.1.2)) i1, by rw [List.length_cons, i2]; rfl, by rw [List.all_cons, i3]; rfl⟩
theorem each_len {X : Cx} : ∀ {ts : List Expr}, ts.all notStar = true → (assignEach ts X.env).length = ts.length ∧ (assignEach ts X.env).findIdx? (·.1) = none := fun {ts} => by
  induction ts with
  | nil => exact fun _ => ⟨rfl, rfl⟩
  | cons t ts ih =>
    intro h
    rw [List.all_cons, Bool.and_eq_true] at h
    obtain ⟨i1, i2⟩ := ih h.2
    have e : assignEach (t :: ts) X.env = (false, assign t X.env) :: assignEach ts X.env := by
      cases t <;> first
        | rfl
        | (cases h.1; done)
    rw [e]
    exact ⟨by simp [i1], by rw [List.findIdx?_cons]; simp [i2]⟩
theorem tg_ok (h : Cok G S ca fn sc W X) {tg : C} {e : Expr} (o : tgOk G.N fn sc tg e = true) : L2.PG X e (gOf X.K tg) := by
  unfold tgOk at o
  split at o
  · rw [Bool.and_eq_true, Bool.and_eq_true] at o
    exact pg_name h.nd (h.at o.1.1) (h.loc o.1.2) (h.hf o.2)
  · obtain ⟨i1, i2, i3⟩ := tgs_ok h o
    exact pg_tup h.calm i1 (by rw [(each_len i3).1, i2]) (each_len i3).2
  · cases o
theorem plainI_ok {e : Expr} (h : plainI e = true) : PlainIx e := by
  cases e <;> first
    | (cases h; done)
    | exact fun _ _ => rfl
theorem notSet_ok {e : Expr} (h : notSet e = true) (env : PySem.Env) (x : Value) : foldedSetIterable e env x = pure x := by
  cases e <;> first
    | (cases h; done)
    | rfl
theorem plainT_ok {e : Expr} (h : plainT e = true) (env : PySem.Env) : ∀ whole, isTrue e env whole = (do let v ← whole; standAt e.pos; holding [v] (truthy v)) := by
  cases e <;> first
    | (cases h; done)
    | exact fun _ => rfl
theorem own_vars {N : List Str} {tg : C} : tgVars tg = (ownOf N tg).map (·.2) := by
  unfold ownOf
  rw [List.map_map]
  exact (List.map_id _).symm
theorem blk_kind {N : List Str} {scope : Scope} {own : List (Str × Nat)} (h : blkC N sc scope own = true) : scope.kind = .function := (blkOk_by h).kind
theorem tyNm_ok {b : BI} {ty : Str} {T : String} (h : tyNm b = some (ty, T)) : isTy b = some T ∧ bootBuiltins ty = some (.type T) ∧ ty ≠ "__name__" := by
  cases b <;> cases h <;> exact ⟨rfl, by decide +kernel, by decide⟩
theorem se_cst (h : X.calm = true) {d : D} {k : Const} {t : Bool} {j : Nat} {pos : Pos} (o : cstOk d k = true) : PE X (.Constant k j pos) (rd S ca W X.K t (.cst d)) := by
  unfold cstOk at o
  split at o
  · rw [of_decide_eq_true o]; exact se_int
  · rw [of_decide_eq_true o]; exact se_bool
  · rw [of_decide_eq_true o]; exact se_str
  · exact se_none
  · cases o
theorem se_call0 {f : Str} {k : Nat} {fa : Addr} {fd : FuncData} {ps : List Str} {p pos : Pos} {t : Bool} (F : FnOk X.prog X.w X.K X.mg X.base (L2.CX X.prog X.w) k fa fd ps (spD X.K S ca f 0)) (hr : Room k X.A) (hg : Gl X f) (hm : X.mg f = some (.ref fa)) (hk : PySem.W.keepIn X.K (.ref fa) = true)
    (hb : Binds X.K fd ps []) (tk : Takes X W) (hd : (f == ("__debug__" : Str)) = false) : PE X (.Call (.Name f p) [] [] pos) (rd S ca W X.K t (.call f .nil)) := by
  refine ⟨fun pins s σ H Q I h => ?_⟩
  obtain ⟨F1, env, ss, p⟩ := rdA_eq.mp (rd_call (n := 0) h fun env ds e => evs_len e)
  rw [evs] at p
  have q := p [] H same_refl .nil
  refine wpAny_Call_Name_kw (ld_glob I hg hm ?_ hd)
  exact PySem.W.callWith_K0 I.kIn hk (run_fnS (us := []) (vs := []) (E := WE W) F hr hb (passAt tk σ) I .nil q)
end
end Rf

set_option Elab.async false
set_option linter.all false
set_option maxHeartbeats 4000000
/-! Rf, part L2: the checker is sound: the one theorem on expressions. -/
namespace Rf
open PySem PySem.Spec PyProof.Rows L2
theorem and2 {a b : Bool} (h : (a && b) = true) : a = true ∧ b = true := by rwa [Bool.and_eq_true] at h
theorem nt {a : Bool} (h : (!a) = true) : a = false := by rwa [Bool.not_eq_true'] at h
section
variable {G : Gi} {S : Sig} {ca : ExA} {sc : Scope} {fn : Str → Bool} {W : WX} {X : Cx} {e : Expr} {t : Bool}
theorem q_var {i : Nat} (K : Cok G S ca fn sc W X) (o : qVar G i sc e = true) : PE X e (rd S ca W X.K t (.var i)) := by
  unfold qVar at o
  split at o
  · obtain ⟨o1, o2⟩ := and2 o
    obtain ⟨v1, v2, v3⟩ := K.vis o2
    exact se_var (K.at o1) v1 v2 v3
  · cases o
theorem q_cst {d : D} (K : Cok G S ca fn sc W X) (o : qCst d e = true) : PE X e (rd S ca W X.K t (.cst d)) := by
  unfold qCst at o
  split at o
  · exact se_cst K.calm o
  · cases o
theorem q_glob {x : Str} (K : Cok G S ca fn sc W X) (o : qGlob G x sc e = true) : PE X e (rd S ca W X.K t (.glob x)) := by
  unfold qGlob at o
  split at o
  · obtain ⟨o, o3⟩ := and2 o
    obtain ⟨o1, o2⟩ := and2 o
    have o1 := of_decide_eq_true o1
    subst o1
    obtain ⟨g1, g2⟩ := K.gl o2
    obtain ⟨v, u, d, h1, h2, h3, h4⟩ := K.glob _ o3
    exact se_glob g1 h1 h2 g2 h3 h4
  · cases o
variable {a b c : C} {f g h : EB}
theorem q_bin {op : Bop} (o : qBin op f g e = true) (ha : ∀ e, f e = true → PE X e (rd S ca W X.K true a)) (hb : ∀ e, g e = true → PE X e (rd S ca W X.K true b)) : PE X e (rd S ca W X.K t (.bin op a b)) := by
  unfold qBin at o
  split at o
  · obtain ⟨o, o3⟩ := and2 o
    obtain ⟨o1, o2⟩ := and2 o
    rw [of_decide_eq_true o1]
    exact se_bin (ha _ o2) (hb _ o3)
  · cases o
theorem q_cmp {op : Cop} (K : Cok G S ca fn sc W X) (o : qCmp op f g e = true) (ha : ∀ e, f e = true → PE X e (rd S ca W X.K true a)) (hb : ∀ e, g e = true → PE X e (rd S ca W X.K true b)) : PE X e (rd S ca W X.K t (.cmp op a b)) ∧ PT X e (rdT S ca W X.K (.cmp op a b)) := by
  unfold qCmp at o
  split at o
  · obtain ⟨o, o4⟩ := and2 o
    obtain ⟨o, o3⟩ := and2 o
    obtain ⟨o1, o2⟩ := and2 o
    rw [of_decide_eq_true o1]
    exact ⟨se_cmp K.units (ha _ o3) (hb _ o4) (nt o2), st_cmp K.units (ha _ o3) (hb _ o4) (nt o2)⟩
  · cases o
theorem q_chain {p1 p2 : Cop} (K : Cok G S ca fn sc W X) (o : qChain p1 p2 f g h e = true) (ha : ∀ e, f e = true → PE X e (rd S ca W X.K true a)) (hb : ∀ e, g e = true → PE X e (rd S ca W X.K true b)) (hc : ∀ e, h e = true → PE X e (rd S ca W X.K true c)) : PE X e (rd S ca W X.K t (.chain p1 p2 a b c)) ∧ PT X e (rdT S ca W X.K (.chain p1 p2 a b c)) := by
  unfold qChain at o
  split at o
  · obtain ⟨o, q6⟩ := and2 o
    obtain ⟨o, q5⟩ := and2 o
    obtain ⟨o, q4⟩ := and2 o
    obtain ⟨o, q3⟩ := and2 o
    obtain ⟨q1, q2⟩ := and2 o
    rw [of_decide_eq_true q1, of_decide_eq_true q2]
    exact ⟨se_chain K.units (ha _ q4) (hb _ q5) (hc _ q6) (nt q3), st_chain K.units (ha _ q4) (hb _ q5) (hc _ q6) (nt q3)⟩
  · cases o
theorem q_idx (K : Cok G S ca fn sc W X) (o : qIdx f g e = true) (ha : ∀ e, f e = true → PE X e (rd S ca W X.K true a)) (hb : ∀ e, g e = true → PE X e (rd S ca W X.K true b)) : PE X e (rd S ca W X.K t (.idx a b)) := by
  unfold qIdx at o
  split at o
  · obtain ⟨o, o3⟩ := and2 o
    obtain ⟨o1, o2⟩ := and2 o
    exact se_idx K.units (ha _ o2) (hb _ o3) (plainI_ok o1)
  · cases o
theorem q_call {x : Str} {es : C} {l : LB} (K : Cok G S ca fn sc W X) (o : qCall G x (cLen es) sc l e = true)
    (ha : ∀ vs, l vs = true → PA X vs (rdA S ca W X.K false es)) (h0 : l [] = true → es = .nil) : PE X e (rd S ca W X.K t (.call x es)) := by
  unfold qCall at o
  split at o
  · rename_i y p vs pos
    obtain ⟨o, o5⟩ := and2 o
    obtain ⟨o, o4⟩ := and2 o
    obtain ⟨o, o3⟩ := and2 o
    obtain ⟨o1, o2⟩ := and2 o
    have o1 := of_decide_eq_true o1
    have o3 := of_decide_eq_true o3
    subst o1
    obtain ⟨g1, g2⟩ := K.gl o2
    obtain ⟨k, fa, fd, ps, f1, f2, f3, f4, f5⟩ := K.defs _ _ o3
    cases vs with
    | nil =>
      have e := h0 o5
      subst e
      exact se_call0 f1 f2 g1 f3 f4 f5 K.tk g2
    | cons ea es' => exact se_call f1 f2 g1 f3 f4 f5 K.tk (ha _ o5) rfl g2 o4
  · cases o
theorem q_bi0 {bi : BI} {es : C} {l : LB} (K : Cok G S ca fn sc W X) (o : qBi0 G bi sc l e = true)
    (ha : ∀ vs, l vs = true → PA X vs (rdA S ca W X.K true es)) (h1 : ∀ ea, l [ea] = true → ∃ a, es = .cons a .nil ∧ PE X ea (rd S ca W X.K true a)) : PE X e (rd S ca W X.K t (.bi bi es)) := by
  unfold qBi0 at o
  split at o
  · rename_i y p vs pos
    split at o
    · rename_i ty T hty
      obtain ⟨o, o4⟩ := and2 o
      obtain ⟨o, o3⟩ := and2 o
      obtain ⟨o1, o2⟩ := and2 o
      have o1 := of_decide_eq_true o1
      split at o4
      · rename_i ea z pz
        obtain ⟨o4, p5⟩ := and2 o4
        obtain ⟨o4, p4⟩ := and2 o4
        obtain ⟨o4, p3⟩ := and2 o4
        obtain ⟨p1, p2⟩ := and2 o4
        have p1 := of_decide_eq_true p1
        subst p1
        obtain ⟨g1, g2⟩ := K.gl o2
        obtain ⟨g3, g4⟩ := K.gl p2
        obtain ⟨i1, i2, i3⟩ := tyNm_ok hty
        obtain ⟨a, rfl, ha'⟩ := h1 _ p5
        exact se_is i1 o1 g1 (K.free _ o3) g3 (K.free _ p3) i2 i3 g4 ha' p4
      · cases o4
    · obtain ⟨o, o7⟩ := and2 o
      obtain ⟨o, o6⟩ := and2 o
      obtain ⟨o, o5⟩ := and2 o
      obtain ⟨o, o4⟩ := and2 o
      obtain ⟨o, o3⟩ := and2 o
      obtain ⟨o1, o2⟩ := and2 o
      have o1 := of_decide_eq_true o1
      obtain ⟨g1, g2⟩ := K.gl o3
      cases vs with
      | nil => cases o6
      | cons ea es' =>
        rw [Bool.or_eq_true] at o2
        rcases o2 with o2 | o2
        · exact se_bi o2 o1.symm K.calm K.units g1 (K.free _ o4) (ha _ o7) o5
        · have o2 := of_decide_eq_true o2
          subst o2
          exact se_sorted o1 K.calm K.units g1 (K.free _ o4) (ha _ o7) o5
  · cases o
theorem headStr_ok {es : C} {z : Str} (h : headStr es = some z) : ∃ b, es = .cons (.cst (.str z)) (.cons b .nil) := by
  unfold headStr at h
  split at h
  · cases h; exact ⟨_, rfl⟩
  · cases h
theorem q_ls {fx : Str} {l : LB} (K : Cok G S ca fn sc W X) (o : qLs G fx sc l e = true) : ∃ x y ea p p2 q pos, e = .Call (.Name x p) [.Call (.Name y p2) [ea] [] q] [] pos ∧ x = fx ∧ y = "set" ∧ Gl X x ∧ X.mg x = none ∧ Gl X y ∧ X.mg y = none ∧ notStar ea = true ∧ l [ea] = true := by
  unfold qLs at o
  split at o
  · obtain ⟨o, o8⟩ := and2 o
    obtain ⟨o, o7⟩ := and2 o
    obtain ⟨o, o6⟩ := and2 o
    obtain ⟨o, o5⟩ := and2 o
    obtain ⟨o, o4⟩ := and2 o
    obtain ⟨o, o3⟩ := and2 o
    obtain ⟨o1, o2⟩ := and2 o
    exact ⟨_, _, _, _, _, _, _, rfl, of_decide_eq_true o1, of_decide_eq_true o2, (K.gl o3).1, K.free _ o4, (K.gl o5).1, K.free _ o6, o7, o8⟩
  · cases o
theorem q_rg {fx : Str} {es : C} {l : LB} (K : Cok G S ca fn sc W X) (o : qRg G fx sc l e = true) (h1 : ∀ ea, l [ea] = true → ∃ a, es = .cons a .nil ∧ PE X ea (rd S ca W X.K true a))
    (h2 : ∀ ea eb, l [ea, eb] = true → ∃ a b, es = .cons a (.cons b .nil) ∧ PE X ea (rd S ca W X.K true a) ∧ PE X eb (rd S ca W X.K true b)) : ∃ x er p pos, e = .Call (.Name x p) [er] [] pos ∧ x = fx ∧ Gl X x ∧ X.mg x = none ∧ notStar er = true ∧ PRg X er (rdG S ca W X.K es) := by
  unfold qRg at o
  split at o
  · obtain ⟨o, o8⟩ := and2 o
    obtain ⟨o, o7⟩ := and2 o
    obtain ⟨o, o6⟩ := and2 o
    obtain ⟨o, o5⟩ := and2 o
    obtain ⟨o, o4⟩ := and2 o
    obtain ⟨o, o3⟩ := and2 o
    obtain ⟨o1, o2⟩ := and2 o
    obtain ⟨a, rfl, ha⟩ := h1 _ o8
    exact ⟨_, _, _, _, rfl, of_decide_eq_true o1, (K.gl o3).1, K.free _ o4, rfl, sg_1 (of_decide_eq_true o2) (K.gl o5).1 (K.free _ o6) ha o7⟩
  · obtain ⟨o, o9⟩ := and2 o
    obtain ⟨o, o8⟩ := and2 o
    obtain ⟨o, o7⟩ := and2 o
    obtain ⟨o, o6⟩ := and2 o
    obtain ⟨o, o5⟩ := and2 o
    obtain ⟨o, o4⟩ := and2 o
    obtain ⟨o, o3⟩ := and2 o
    obtain ⟨o1, o2⟩ := and2 o
    obtain ⟨a, b, rfl, ha, hb⟩ := h2 _ _ o9
    exact ⟨_, _, _, _, rfl, of_decide_eq_true o1, (K.gl o3).1, K.free _ o4, rfl, sg_2 (of_decide_eq_true o2) (K.gl o5).1 (K.free _ o6) ha hb o7 o8⟩
  · cases o
theorem q_mt {nm : Str} {es : C} {l : LB} (o : qMt nm (headStr es) l e = true) (h2 : ∀ ea eb, l [ea, eb] = true → ∃ a b, es = .cons a (.cons b .nil) ∧ PE X ea (rd S ca W X.K true a) ∧ PE X eb (rd S ca W X.K true b)) :
    ∃ z k p m apos ee cpos b, e = .Call (.Attribute (.Constant (.str z) k p) m apos) [ee] [] cpos ∧ m = nm ∧ es = .cons (.cst (.str z)) (.cons b .nil) ∧ (apos.endLine == cpos.line) = true ∧ notStar ee = true ∧ PE X ee (rd S ca W X.K true b) := by
  unfold qMt at o
  split at o
  · obtain ⟨o, o5⟩ := and2 o
    obtain ⟨o, o4⟩ := and2 o
    obtain ⟨o, o3⟩ := and2 o
    obtain ⟨o1, o2⟩ := and2 o
    obtain ⟨b, hb⟩ := headStr_ok (of_decide_eq_true o2)
    obtain ⟨a', b', h, _, h3⟩ := h2 _ _ o5
    rw [hb] at h
    cases h
    exact ⟨_, _, _, _, _, _, _, _, rfl, of_decide_eq_true o1, hb, o3, o4, h3⟩
  · cases o
theorem q_bi {bi : BI} {es : C} {l : LB} (K : Cok G S ca fn sc W X) (o : qBi G bi (headStr es) sc l e = true)
    (ha : ∀ vs, l vs = true → PA X vs (rdA S ca W X.K true es)) (h1 : ∀ ea, l [ea] = true → ∃ a, es = .cons a .nil ∧ PE X ea (rd S ca W X.K true a))
    (h2 : ∀ ea eb, l [ea, eb] = true → ∃ a b, es = .cons a (.cons b .nil) ∧ PE X ea (rd S ca W X.K true a) ∧ PE X eb (rd S ca W X.K true b)) : PE X e (rd S ca W X.K t (.bi bi es)) := by
  unfold qBi at o
  split at o
  · obtain ⟨x, y, ea, p, p2, q, pos, rfl, q1, q2, q3, q4, q5, q6, q7, q8⟩ := q_ls K o
    obtain ⟨a, rfl, ha'⟩ := h1 _ q8
    exact se_lenset q1 q2 K.calm K.units q3 q4 q5 q6 ha' q7
  · obtain ⟨x, y, ea, p, p2, q, pos, rfl, q1, q2, q3, q4, q5, q6, q7, q8⟩ := q_ls K o
    obtain ⟨a, rfl, ha'⟩ := h1 _ q8
    exact se_sortset q1 q2 K.calm K.units q3 q4 q5 q6 ha' q7
  · unfold qRs at o
    split at o
    · obtain ⟨o, o7⟩ := and2 o
      obtain ⟨o, o6⟩ := and2 o
      obtain ⟨o, o5⟩ := and2 o
      obtain ⟨o, o4⟩ := and2 o
      obtain ⟨o, o3⟩ := and2 o
      obtain ⟨o1, o2⟩ := and2 o
      obtain ⟨a, rfl, ha'⟩ := h1 _ o7
      have o2 := of_decide_eq_true o2
      subst o2
      subst o3
      exact se_rsorted (of_decide_eq_true o1) K.calm K.units (K.gl o4).1 (K.free _ o5) ha' o6
    · cases o
  · obtain ⟨x, er, p, pos, rfl, q1, q2, q3, q4, q5⟩ := q_rg K o h1 h2
    exact se_lrange q1 K.calm q2 q3 q5 q4
  · obtain ⟨x, er, p, pos, rfl, q1, q2, q3, q4, q5⟩ := q_rg K o h1 h2
    exact se_trange q1 K.calm q2 q3 q5 q4
  · obtain ⟨z, k, p, m, apos, ee, cpos, b, rfl, rfl, rfl, q3, q4, q5⟩ := q_mt o h2
    exact se_join q5 q4 q3
  · obtain ⟨z, k, p, m, apos, ee, cpos, b, rfl, rfl, rfl, q3, q4, q5⟩ := q_mt o h2
    exact se_index q5 q4 q3
  · exact q_bi0 K o ha h1
theorem q_get (K : Cok G S ca fn sc W X) (o : qGet f g h e = true) (ha : ∀ e, f e = true → PE X e (rd S ca W X.K true a)) (hb : ∀ e, g e = true → PE X e (rd S ca W X.K true b)) (hc : ∀ e, h e = true → PE X e (rd S ca W X.K false c)) : PE X e (rd S ca W X.K t (.dget a b c)) := by
  unfold qGet at o
  split at o
  · obtain ⟨o, o7⟩ := and2 o
    obtain ⟨o, o6⟩ := and2 o
    obtain ⟨o, o5⟩ := and2 o
    obtain ⟨o, o4⟩ := and2 o
    obtain ⟨o, o3⟩ := and2 o
    obtain ⟨o1, o2⟩ := and2 o
    have o1 := of_decide_eq_true o1
    subst o1
    exact se_dget K.units (ha _ o5) (hb _ o6) (hc _ o7) o3 o4 o2
  · cases o
theorem q_calls {fs : List Str} {es : C} {l : LB} (K : Cok G S ca fn sc W X) (o : qCalls G fs (cLen es) sc f l e = true)
    (hk : ∀ e, f e = true → PE X e (rd S ca W X.K true a)) (ha : ∀ vs, l vs = true → PA X vs (rdA S ca W X.K false es)) : PE X e (rd S ca W X.K t (.calls fs a es)) := by
  unfold qCalls at o
  split at o
  · rename_i ns p0 ek p1 vs pos
    obtain ⟨o, o8⟩ := and2 o
    obtain ⟨o, o7⟩ := and2 o
    obtain ⟨o, o6⟩ := and2 o
    obtain ⟨o, o5⟩ := and2 o
    obtain ⟨o, o4⟩ := and2 o
    obtain ⟨o, o3⟩ := and2 o
    obtain ⟨o1, o2⟩ := and2 o
    cases vs with
    | nil => cases o6
    | cons ea es' =>
      refine se_calls o1 (fun x hx => ?_) (of_decide_eq_true o3) (hk _ o5) (plainI_ok o4) K.tk (ha _ o8) rfl o7
      obtain ⟨q1, q2⟩ := and2 (List.all_eq_true.mp o2 x hx)
      obtain ⟨k, fa, fd, ps, f1, f2, f3, f4, f5⟩ := K.defs _ _ (of_decide_eq_true q2)
      exact ⟨K.gl q1, fa, f3, f4, k, fd, ps, f1, f2, f5⟩
  · cases o
/-- a comprehension's parts -/
theorem q_lc {tg it cond elt : C} {fi : Expr → EB} {fc : Scope → LB} {fe : Scope → EB} (K : Cok G S ca fn sc W X) (o : qLc G tg sc fi fc fe e = true) (hi : ∀ tg e, fi tg e = true → PI X tg e (rdI S ca W X.K it))
    (hc : ∀ {sc fn W X es}, fc sc es = true → Cok G S ca fn sc W X → PTs X es (rdC S ca W X.K cond)) (he : ∀ {sc fn W X e}, fe sc e = true → Cok G S ca fn sc W X → PE X e (rd S ca W X.K false elt)) :
    ∃ eelt etg eit ifs scope pos, e = .ListComp eelt [⟨etg, eit, ifs, 0⟩] scope pos ∧ PI X etg eit (rdI S ca W X.K it) ∧ BlkOk X.N X.env.scope scope (ownOf G.N tg) ∧
      (∀ (s : Shared) (H : Hp) (C : Addr) (cl : List (Str × Addr)) (fp : List Addr), L2.PG (X.blk s H scope (compEnvC scope cl C X.env) fp) etg (gOf X.K tg)) ∧
      (∀ (s : Shared) (H : Hp) (C : Addr) (cl : List (Str × Addr)) (fp : List Addr), PTs (X.blk s H scope (compEnvC scope cl C X.env) fp) ifs (rdC S ca W0 X.K cond)) ∧
      (∀ (s : Shared) (H : Hp) (C : Addr) (cl : List (Str × Addr)) (fp : List Addr), PE (X.blk s H scope (compEnvC scope cl C X.env) fp) eelt (rd S ca W0 X.K false elt)) ∧ (∀ x, foldedSetIterable eit X.env x = pure x) := by
  unfold qLc at o
  split at o
  · rename_i eelt etg eit ifs as scope pos
    obtain ⟨o, o7⟩ := and2 o
    obtain ⟨o, o6⟩ := and2 o
    obtain ⟨o, o5⟩ := and2 o
    obtain ⟨o, o4⟩ := and2 o
    obtain ⟨o, o3⟩ := and2 o
    obtain ⟨o1, o2⟩ := and2 o
    have o1 := of_decide_eq_true o1
    subst o1
    have bk : BlkOk X.N X.env.scope scope (ownOf G.N tg) := by rw [K.N, K.hsc]; exact blkOk_by o3
    exact ⟨eelt, etg, eit, ifs, scope, pos, rfl, hi _ _ o5, bk, fun s H C cl fp => tg_ok (K.blk (blk_kind o3)) o4, fun s H C cl fp => hc o6 (K.blk (blk_kind o3)), fun s H C cl fp => he o7 (K.blk (blk_kind o3)), notSet_ok o2 _⟩
  · cases o
theorem q_fn1 {x : Str} (K : Cok G S ca fn sc W X) (o : qFn1 G x sc f e = true) : ∃ y p ea pos, e = .Call (.Name y p) [ea] [] pos ∧ y = x ∧ Gl X y ∧ X.mg y = none ∧ notStar ea = true ∧ f ea = true := by
  unfold qFn1 at o
  split at o
  · obtain ⟨o, o5⟩ := and2 o
    obtain ⟨o, o4⟩ := and2 o
    obtain ⟨o, o3⟩ := and2 o
    obtain ⟨o1, o2⟩ := and2 o
    exact ⟨_, _, _, _, rfl, of_decide_eq_true o1, (K.gl o2).1, K.free _ o3, o4, o5⟩
  · cases o
theorem q_fn2 {x : Str} (K : Cok G S ca fn sc W X) (o : qFn2 G x sc f g e = true) : ∃ y p ea eb pos, e = .Call (.Name y p) [ea, eb] [] pos ∧ y = x ∧ Gl X y ∧ X.mg y = none ∧ notStar ea = true ∧ notStar eb = true ∧ f ea = true ∧ g eb = true := by
  unfold qFn2 at o
  split at o
  · obtain ⟨o, o7⟩ := and2 o
    obtain ⟨o, o6⟩ := and2 o
    obtain ⟨o, o5⟩ := and2 o
    obtain ⟨o, o4⟩ := and2 o
    obtain ⟨o, o3⟩ := and2 o
    obtain ⟨o1, o2⟩ := and2 o
    exact ⟨_, _, _, _, _, rfl, of_decide_eq_true o1, (K.gl o2).1, K.free _ o3, o4, o5, o6, o7⟩
  · cases o
end
section
variable {G : Gi} {S : Sig} {ca : ExA}
theorem sNil {c : C} {sc : Scope} (o : okL G c sc [] = true) : c = .nil := by
  cases c with
  | nil => rfl
  | _ => exact absurd (show false = true from o) (by decide)
mutual
theorem sE (c : C) {sc : Scope} {fn : Str → Bool} {W : WX} {X : Cx} {e : Expr} (o : okE G c sc e = true) (K : Cok G S ca fn sc W X) (t : Bool) : PE X e (rd S ca W X.K t c) := by
  cases c with
  | var i => exact q_var K o
  | cst d => exact q_cst K o
  | glob x => exact q_glob K o
  | bin op a b => exact q_bin (show qBin op (okE G a sc) (okE G b sc) e = true from o) (fun e o => sE a o K true) (fun e o => sE b o K true)
  | cmp op a b => exact (q_cmp (t := t) K (show qCmp op (okE G a sc) (okE G b sc) e = true from o) (fun e o => sE a o K true) (fun e o => sE b o K true)).1
  | chain p1 p2 a b c => exact (q_chain (t := t) K (show qChain p1 p2 (okE G a sc) (okE G b sc) (okE G c sc) e = true from o) (fun e o => sE a o K true) (fun e o => sE b o K true) (fun e o => sE c o K true)).1
  | band es =>
    have o : qAnd (okL G es sc) e = true := o
    unfold qAnd at o
    split at o
    · exact se_band (sAnd es o K)
    · cases o
  | bor es =>
    have o : qOr (okL G es sc) e = true := o
    unfold qOr at o
    split at o
    · exact se_bor (sOr es o K)
    · cases o
  | bnot a =>
    have o : qNot (okE G a sc) e = true := o
    unfold qNot at o
    split at o
    · exact se_not (sE a o K true)
    · cases o
  | neg a =>
    have o : qNeg (okE G a sc) e = true := o
    unfold qNeg at o
    split at o
    · exact se_neg (sE a o K true)
    · cases o
  | ife c a b =>
    have o : qIf (okT G c sc) (okE G a sc) (okE G b sc) e = true := o
    unfold qIf at o
    split at o
    · obtain ⟨o, o3⟩ := and2 o
      obtain ⟨o1, o2⟩ := and2 o
      exact se_ife (sT c o1 K) (sE a o2 K false) (sE b o3 K false)
    · cases o
  | tup es =>
    have o : qTup (okL G es sc) e = true := o
    unfold qTup at o
    split at o
    · exact se_tup (sL es o K false)
    · cases o
  | lst es =>
    have o : qLst (okL G es sc) e = true := o
    unfold qLst at o
    split at o
    · exact se_lst (sL es o K false)
    · cases o
  | idx a b => exact q_idx K (show qIdx (okE G a sc) (okE G b sc) e = true from o) (fun e o => sE a o K true) (fun e o => sE b o K true)
  | sl a lo hi =>
    have o : qSl (okE G a sc) (okO G lo sc) (okO G hi sc) e = true := o
    unfold qSl at o
    split at o
    · obtain ⟨o, o3⟩ := and2 o
      obtain ⟨o1, o2⟩ := and2 o
      exact se_sl (sE a o1 K true) (sO lo o2 K) (sO hi o3 K)
    · cases o
  | rev a =>
    have o : qRev (okE G a sc) e = true := o
    unfold qRev at o
    split at o
    · obtain ⟨o1, o2⟩ := and2 o
      rw [of_decide_eq_true o1]
      exact se_rev (sE a o2 K true)
    · cases o
  | call f es => exact q_call K (show qCall G f (cLen es) sc (okL G es sc) e = true from o) (fun vs h => sL es h K false) (fun h => sNil h)
  | calls fs k es => exact q_calls K (show qCalls G fs (cLen es) sc (okE G k sc) (okL G es sc) e = true from o) (fun e o => sE k o K true) (fun vs h => sL es h K false)
  | dget a b c => exact q_get K (show qGet (okE G a sc) (okE G b sc) (okE G c sc) e = true from o) (fun e o => sE a o K true) (fun e o => sE b o K true) (fun e o => sE c o K false)
  | bi b es => exact q_bi K (show qBi G b (headStr es) sc (okL G es sc) e = true from o) (fun vs h => sL es h K true) (fun ea h => sOne es h K) (fun ea eb h => sTwo es h K)
  | lc tg it cond elt =>
    obtain ⟨eelt, etg, eit, ifs, scope, pos, rfl, h1, h2, h3, h4, h5, h6⟩ := q_lc (it := it) (cond := cond) (elt := elt) K (show qLc G tg sc (okI G it sc) (fun s => okC G cond s) (fun s => okE G elt s) e = true from o) (fun tg e o => sI it o K) (fun o K => sC cond o K) (fun o K => sE elt o K false)
    exact se_lc (sn_lc K.calm K.nd h1 h2 own_vars h3 h4 h5 h6)
  | _ => exact absurd (show false = true from o) (by decide)
theorem sOne (c : C) {sc : Scope} {fn : Str → Bool} {W : WX} {X : Cx} {e : Expr} (o : okL G c sc [e] = true) (K : Cok G S ca fn sc W X) : ∃ a, c = .cons a .nil ∧ PE X e (rd S ca W X.K true a) := by
  cases c with
  | cons a r =>
    have o : (notStar e && okE G a sc e && okL G r sc []) = true := o
    obtain ⟨o, o3⟩ := and2 o
    obtain ⟨o1, o2⟩ := and2 o
    exact ⟨a, by rw [sNil o3], sE a o2 K true⟩
  | nil => exact absurd (show false = true from o) (by decide)
  | _ => exact absurd (show false = true from o) (by decide)
theorem sTwo (c : C) {sc : Scope} {fn : Str → Bool} {W : WX} {X : Cx} {ea eb : Expr} (o : okL G c sc [ea, eb] = true) (K : Cok G S ca fn sc W X) : ∃ a b, c = .cons a (.cons b .nil) ∧ PE X ea (rd S ca W X.K true a) ∧ PE X eb (rd S ca W X.K true b) := by
  cases c with
  | cons a r =>
    have o : (notStar ea && okE G a sc ea && okL G r sc [eb]) = true := o
    obtain ⟨o, o3⟩ := and2 o
    obtain ⟨o1, o2⟩ := and2 o
    obtain ⟨b, hb, h3⟩ := sOne r o3 K
    exact ⟨a, b, by rw [hb], sE a o2 K true, h3⟩
  | nil => exact absurd (show false = true from o) (by decide)
  | _ => exact absurd (show false = true from o) (by decide)
theorem sL (c : C) {sc : Scope} {fn : Str → Bool} {W : WX} {X : Cx} {es : List Expr} (o : okL G c sc es = true) (K : Cok G S ca fn sc W X) (t : Bool) : PA X es (rdA S ca W X.K t c) := by
  cases c with
  | nil =>
    cases es with
    | nil => exact sa_nil
    | cons _ _ => exact absurd (show false = true from o) (by decide)
  | cons a r =>
    cases es with
    | nil => exact absurd (show false = true from o) (by decide)
    | cons e es =>
      have o : (notStar e && okE G a sc e && okL G r sc es) = true := o
      obtain ⟨o, o3⟩ := and2 o
      obtain ⟨o1, o2⟩ := and2 o
      exact sa_cons (sE a o2 K t) (sL r o3 K t) o1
  | _ => exact absurd (show false = true from o) (by decide)
theorem sAnd (c : C) {sc : Scope} {fn : Str → Bool} {W : WX} {X : Cx} {es : List Expr} {pos : Pos} (o : okL G c sc es = true) (K : Cok G S ca fn sc W X) : PE X (.BoolOp .And es pos) (rdAnd S ca W X.K c) := by
  cases c with
  | nil => exact ⟨fun pins s σ H Q I h => by obtain ⟨F, env, ss, p⟩ := h; exact (show False from p).elim⟩
  | cons a r =>
    cases es with
    | nil => exact absurd (show false = true from o) (by decide)
    | cons e es =>
      have o : (notStar e && okE G a sc e && okL G r sc es) = true := o
      obtain ⟨o, o3⟩ := and2 o
      obtain ⟨o1, o2⟩ := and2 o
      cases es with
      | nil =>
        have z := sNil o3
        subst z
        exact and_one (sE a o2 K false)
      | cons e2 es2 =>
        cases r with
        | cons r1 r2 => exact and_cons (sE a o2 K true) (sAnd (.cons r1 r2) o3 K)
        | nil => exact absurd (show false = true from o3) (by decide)
        | _ => exact absurd (show false = true from o3) (by decide)
  | _ => exact absurd (show false = true from o) (by decide)
theorem sOr (c : C) {sc : Scope} {fn : Str → Bool} {W : WX} {X : Cx} {es : List Expr} {pos : Pos} (o : okL G c sc es = true) (K : Cok G S ca fn sc W X) : PE X (.BoolOp .Or es pos) (rdOr S ca W X.K c) := by
  cases c with
  | nil => exact ⟨fun pins s σ H Q I h => by obtain ⟨F, env, ss, p⟩ := h; exact (show False from p).elim⟩
  | cons a r =>
    cases es with
    | nil => exact absurd (show false = true from o) (by decide)
    | cons e es =>
      have o : (notStar e && okE G a sc e && okL G r sc es) = true := o
      obtain ⟨o, o3⟩ := and2 o
      obtain ⟨o1, o2⟩ := and2 o
      cases es with
      | nil =>
        have z := sNil o3
        subst z
        exact or_one (sE a o2 K false)
      | cons e2 es2 =>
        cases r with
        | cons r1 r2 => exact or_cons (sE a o2 K true) (sOr (.cons r1 r2) o3 K)
        | nil => exact absurd (show false = true from o3) (by decide)
        | _ => exact absurd (show false = true from o3) (by decide)
  | _ => exact absurd (show false = true from o) (by decide)
theorem sT (c : C) {sc : Scope} {fn : Str → Bool} {W : WX} {X : Cx} {e : Expr} (o : okT G c sc e = true) (K : Cok G S ca fn sc W X) : PT X e (rdT S ca W X.K c) := by
  cases c with
  | cmp op a b => exact (q_cmp (t := true) K (show qCmp op (okE G a sc) (okE G b sc) e = true from o) (fun e o => sE a o K true) (fun e o => sE b o K true)).2
  | chain p1 p2 a b c => exact (q_chain (t := true) K (show qChain p1 p2 (okE G a sc) (okE G b sc) (okE G c sc) e = true from o) (fun e o => sE a o K true) (fun e o => sE b o K true) (fun e o => sE c o K true)).2
  | band es =>
    have o : qAnd (okTL G es sc) e = true := o
    unfold qAnd at o
    split at o
    · exact st_band (sTAnd es o K)
    · cases o
  | bor es =>
    have o : qOr (okTL G es sc) e = true := o
    unfold qOr at o
    split at o
    · exact st_bor (sTOr es o K)
    · cases o
  | bnot a =>
    have o : qNot (okT G a sc) e = true := o
    unfold qNot at o
    split at o
    · exact st_not (sT a o K)
    · cases o
  | call f es =>
    obtain ⟨o1, o2⟩ := and2 (show (plainT e && qCall G f (cLen es) sc (okL G es sc) e) = true from o)
    exact st_val (q_call K o2 (fun vs h => sL es h K false) (fun h => sNil h)) (plainT_ok o1 _)
  | calls fs k es =>
    obtain ⟨o1, o2⟩ := and2 (show (plainT e && qCalls G fs (cLen es) sc (okE G k sc) (okL G es sc) e) = true from o)
    exact st_val (q_calls K o2 (fun e o => sE k o K true) (fun vs h => sL es h K false)) (plainT_ok o1 _)
  | bi b es =>
    obtain ⟨o1, o2⟩ := and2 (show (plainT e && qBi G b (headStr es) sc (okL G es sc) e) = true from o)
    exact st_val (q_bi K o2 (fun vs h => sL es h K true) (fun ea h => sOne es h K) (fun ea eb h => sTwo es h K)) (plainT_ok o1 _)
  | var i =>
    obtain ⟨o1, o2⟩ := and2 (show (plainT e && qVar G i sc e) = true from o)
    exact st_val (q_var K o2) (plainT_ok o1 _)
  | idx a b =>
    obtain ⟨o1, o2⟩ := and2 (show (plainT e && qIdx (okE G a sc) (okE G b sc) e) = true from o)
    exact st_val (q_idx K o2 (fun e o => sE a o K true) (fun e o => sE b o K true)) (plainT_ok o1 _)
  | _ => exact absurd (show false = true from o) (by decide)
theorem sTAnd (c : C) {sc : Scope} {fn : Str → Bool} {W : WX} {X : Cx} {es : List Expr} {pos : Pos} (o : okTL G c sc es = true) (K : Cok G S ca fn sc W X) : PW X (.BoolOp .And es pos) (rdTAnd S ca W X.K c) := by
  cases c with
  | nil => exact ⟨fun wh pins s σ H Q I h => by obtain ⟨F, env, ss, p⟩ := h; exact (show False from p).elim⟩
  | cons a r =>
    cases es with
    | nil => exact absurd (show false = true from o) (by decide)
    | cons e es =>
      obtain ⟨o2, o3⟩ := and2 (show (okT G a sc e && okTL G r sc es) = true from o)
      cases es with
      | nil =>
        cases r with
        | nil => exact tand_one (sT a o2 K)
        | _ => exact absurd (show false = true from o3) (by decide)
      | cons e2 es2 =>
        cases r with
        | cons r1 r2 => exact tand_cons (sT a o2 K) (sTAnd (.cons r1 r2) o3 K)
        | nil => exact absurd (show false = true from o3) (by decide)
        | _ => exact absurd (show false = true from o3) (by decide)
  | _ => exact absurd (show false = true from o) (by decide)
theorem sTOr (c : C) {sc : Scope} {fn : Str → Bool} {W : WX} {X : Cx} {es : List Expr} {pos : Pos} (o : okTL G c sc es = true) (K : Cok G S ca fn sc W X) : PW X (.BoolOp .Or es pos) (rdTOr S ca W X.K c) := by
  cases c with
  | nil => exact ⟨fun wh pins s σ H Q I h => by obtain ⟨F, env, ss, p⟩ := h; exact (show False from p).elim⟩
  | cons a r =>
    cases es with
    | nil => exact absurd (show false = true from o) (by decide)
    | cons e es =>
      obtain ⟨o2, o3⟩ := and2 (show (okT G a sc e && okTL G r sc es) = true from o)
      cases es with
      | nil =>
        cases r with
        | nil => exact tor_one (sT a o2 K)
        | _ => exact absurd (show false = true from o3) (by decide)
      | cons e2 es2 =>
        cases r with
        | cons r1 r2 => exact tor_cons (sT a o2 K) (sTOr (.cons r1 r2) o3 K)
        | nil => exact absurd (show false = true from o3) (by decide)
        | _ => exact absurd (show false = true from o3) (by decide)
  | _ => exact absurd (show false = true from o) (by decide)
theorem sO (c : C) {sc : Scope} {fn : Str → Bool} {W : WX} {X : Cx} {e : Option Expr} (o : okO G c sc e = true) (K : Cok G S ca fn sc W X) : PO X e (rdO S ca W X.K c) := by
  cases c with
  | nil =>
    cases e with
    | none => exact so_none
    | some _ => exact absurd (show false = true from o) (by decide)
  | cons a r =>
    cases r with
    | nil =>
      cases e with
      | none => exact absurd (show false = true from o) (by decide)
      | some e => exact so_some (sE a o K true)
    | _ => exact absurd (show false = true from o) (by decide)
  | _ => exact absurd (show false = true from o) (by decide)
theorem sC (c : C) {sc : Scope} {fn : Str → Bool} {W : WX} {X : Cx} {es : List Expr} (o : okC G c sc es = true) (K : Cok G S ca fn sc W X) : PTs X es (rdC S ca W X.K c) := by
  cases c with
  | nil =>
    cases es with
    | nil => exact sc_nil
    | cons _ _ => exact absurd (show false = true from o) (by decide)
  | cons a r =>
    cases r with
    | nil =>
      have o : qOne (okT G a sc) es = true := o
      unfold qOne at o
      split at o
      · exact sc_one (sT a o K)
      · cases o
    | _ => exact absurd (show false = true from o) (by decide)
  | _ => exact absurd (show false = true from o) (by decide)
theorem sI (c : C) {sc : Scope} {fn : Str → Bool} {W : WX} {X : Cx} {tg e : Expr} (o : okI G c sc tg e = true) (K : Cok G S ca fn sc W X) : PI X tg e (rdI S ca W X.K c) := by
  cases c with
  | itm a => exact si_itm (sE a o K false)
  | enum a =>
    obtain ⟨o1, o2⟩ := and2 (show (isTup tg && qFn1 G "enumerate" sc (okE G a sc) e) = true from o)
    obtain ⟨y, p, ea, pos, rfl, h1, h2, h3, h4, h5⟩ := q_fn1 K o2
    unfold isTup at o1
    split at o1
    · exact si_enum h1 h2 h3 (sE a h5 K false) h4
    · cases o1
  | zip a b =>
    obtain ⟨o1, o2⟩ := and2 (show (isTup tg && qFn2 G "zip" sc (okE G a sc) (okE G b sc) e) = true from o)
    obtain ⟨y, p, ea, eb, pos, rfl, h1, h2, h3, h4, h5, h6, h7⟩ := q_fn2 K o2
    unfold isTup at o1
    split at o1
    · exact si_zip h1 h2 h3 (sE a h6 K false) (sE b h7 K false) h4 h5
    · cases o1
  | rng es =>
    cases es with
    | cons a r =>
      cases r with
      | nil =>
        obtain ⟨y, p, ea, pos, rfl, h1, h2, h3, h4, h5⟩ := q_fn1 K (show qFn1 G "range" sc (okE G a sc) e = true from o)
        exact si_rng1 h1 h2 h3 (sE a h5 K true) h4
      | cons b r2 =>
        cases r2 with
        | nil =>
          obtain ⟨y, p, ea, eb, pos, rfl, h1, h2, h3, h4, h5, h6, h7⟩ := q_fn2 K (show qFn2 G "range" sc (okE G a sc) (okE G b sc) e = true from o)
          exact si_rng2 h1 h2 h3 (sE a h6 K true) (sE b h7 K true) h4 h5
        | _ => exact absurd (show false = true from o) (by decide)
      | _ => exact absurd (show false = true from o) (by decide)
    | _ => exact absurd (show false = true from o) (by decide)
  | _ => exact absurd (show false = true from o) (by decide)
end
end
end Rf

set_option Elab.async false
set_option linter.all false
set_option maxHeartbeats 4000000
/-! Rf, part M: the checker of statements, and that it is sound. -/
namespace Rf
open PySem PySem.Spec PyProof.Rows L2

abbrev SB := Stmt → Bool
abbrev SsB := List Stmt → Bool
def okN (G : Gi) (c : C) (sc : Scope) : EB := match c with
  | .lst es => qLst (okL G es sc)
  | .lc tg it cond elt => okE G (.lc tg it cond elt) sc
  | .bin .add a b => qBin .add (okE G a sc) (okE G b sc)
  | .bin .mul a b => qBin .mul (okE G a sc) (okE G b sc)
  | .dnew => fun e => match e with | .Dict [] [] _ => true | _ => false
  | _ => fun _ => false
/-- a name's place -/
def nmOk (G : Gi) (sc : Scope) (fn : Str → Bool) (i : Nat) (x : Str) : Bool := decide (G.N[i]? = some x) && isL sc x && (fn x || isLoc sc x)
def isLC : EB := fun e => match e with | .ListComp _ _ _ _ => true | _ => false
def qAsg (G : Gi) (fn : Str → Bool) (i : Nat) (own : Bool) (e : C) (sc : Scope) : SB := fun s => match s with
  | .Assign [.Name x _] ee _ => nmOk G sc fn i x && (notComp ee || isLC ee) && (if own then okN G e sc ee else okE G e sc ee)
  | _ => false
def qUnp (G : Gi) (fn : Str → Bool) (tg : C) (a : EB) (sc : Scope) : SB := fun s => match s with
  | .Assign [.Tuple ts k p] ee _ => tgOk G.N fn sc tg (.Tuple ts k p) && notTup ee && a ee
  | _ => false
def okP (G : Gi) : C → List Bool → Scope → LB
  | .nil, [], _ => fun vs => vs.isEmpty
  | .cons h t, o :: os, sc => qCons (match o with | true => okN G h sc | false => okE G h sc) (okP G t os sc)
  | _, _, _ => fun _ => false
/-- which stores are exchanged -/
def swN (sc : Scope) (l : Nat) : List Expr → Option (List Str)
  | [] => some []
  | .Name x p :: es => if isLoc sc x && p.line == l then (swN sc l es).map (x :: ·) else none
  | _ :: _ => none
def headLine (ts : List Expr) : Nat := (ts.head?.map (·.pos.line)).getD 0
def fNm (sc : Scope) (l : Nat) : Expr → Option Str
  | .Name id pos => if isLoc sc id && pos.line == l then some id else none
  | _ => none
/-- no stores are exchanged -/
def parN (sc : Scope) (ts vs : List Expr) : Bool := vs.all (foldedForSure 8) || decide ((ts.filterMap (fNm sc (headLine ts))).length ≠ ts.length) || decide (3 < ts.length)
/-- the stores are exchanged -/
def parS (sc : Scope) (ts vs : List Expr) : Bool := !vs.all (constantsAlone 8) && !vs.all (foldedForSure 8) && (match ts with
    | [.Name x px, .Name y py] => isLoc sc x && isLoc sc y && (px.line == py.line) && !(x == y) && decide (vs.length = 2)
    | [.Name x px, .Name y py, .Name z pz] => isLoc sc x && isLoc sc y && isLoc sc z && (px.line == py.line) && (px.line == pz.line) && !(x == y) && !(x == z) && !(y == z) && decide (vs.length = 3)
    | _ => false)
def qPar (G : Gi) (fn : Str → Bool) (tg : C) (own : List Bool) (es : C) (sc : Scope) : SB := fun s => match s with
  | .Assign [.Tuple ts _ _] (.Tuple vs _ _) _ => tgsOk G.N fn sc tg ts && vs.all notStar && decide (cLen tg ≤ 1000) && okP G es own sc vs && (parN sc ts vs || parS sc ts vs)
  | _ => false
def qExp (a : EB) : SB := fun s => match s with | .Expr ee _ => notComp ee && a ee | _ => false
def qMeth (G : Gi) (nm : Str) (i : Nat) (sc : Scope) (a : EB) : SB := fun s => match s with
  | .Expr (.Call (.Attribute (.Name x _) m apos) [ee] [] cpos) _ => decide (m = nm) && decide (G.N[i]? = some x) && isV sc x && (apos.endLine == cpos.line) && notStar ee && a ee
  | _ => false
def qDput (G : Gi) (i : Nat) (sc : Scope) (k a : EB) : SB := fun s => match s with
  | .Assign [.Subscript (.Name x _) ek _] ee _ => decide (G.N[i]? = some x) && isV sc x && notComp ee && k ek && a ee
  | _ => false
def qApop (G : Gi) (i j : Nat) (sc : Scope) (a : EB) : SB := fun s => match s with
  | .Expr (.Call (.Attribute (.Name x _) m apos) [.Call (.Attribute (.Name y _) m2 apos2) [ee] [] cpos2] [] cpos) _ => decide (m = "append") && decide (m2 = "pop") && decide (G.N[i]? = some x) && isV sc x && decide (G.N[j]? = some y) && isV sc y && (apos.endLine == cpos.line) && (apos2.endLine == cpos2.line) && notStar ee && a ee
  | _ => false
def qPopu (G : Gi) (fn : Str → Bool) (tg : C) (j : Nat) (sc : Scope) : SB := fun s => match s with
  | .Assign [.Tuple ts k p] (.Call (.Attribute (.Name y _) m apos) [] [] cpos) _ => tgOk G.N fn sc tg (.Tuple ts k p) && decide (m = "pop") && decide (G.N[j]? = some y) && isV sc y && (apos.endLine == cpos.line)
  | _ => false
def qRet (a : EB) : SB := fun s => match s with | .Return (some ee) _ => a ee | _ => false
def qRaise (G : Gi) (x : Str) (sc : Scope) : SB := fun s => match s with
  | .Raise (some (.Call (.Name y _) [.Constant (.str _) _ _] [] _)) none _ => decide (y = x) && isG sc y && G.excs.contains y
  | _ => false
def qTry (G : Gi) (x : Str) (ei fi : Nat) (gs : List (List Str)) (sc : Scope) (b : SsB) : SB := fun s => match s with
  | .Try body [.ExceptHandler (some (.Name y _)) (some n) (b0 :: suite) _] [] [] _ => decide (y = x) && isG sc y && G.excs.contains y && decide (G.N[ei]? = some n) && isLoc sc n && isV sc n && decide (G.N[fi]? = some (G.N[fi]?.getD "")) && isLoc sc (G.N[fi]?.getD "") && isV sc (G.N[fi]?.getD "") && !decide (ei = fi) &&
      isG sc "isinstance" && G.free.contains "isinstance" && gs.flatten.all (fun f => isG sc f && G.excs.contains f) && decide (gs.flatten.length ≤ 1000) && suiteOk n (G.N[fi]?.getD "") gs (b0 :: suite) && b body
  | _ => false
def qIff (c : EB) (a b : SsB) : SB := fun s => match s with | .If ec as bs _ => c ec && a as && b bs | _ => false
def qFor (G : Gi) (fn : Str → Bool) (tg : C) (it : Expr → EB) (b : SsB) (sc : Scope) : SB := fun s => match s with
  | .For etg eit body [] _ => tgOk G.N fn sc tg etg && notSet eit && it etg eit && b body
  | _ => false
def qWhile (c : EB) (b : SsB) : SB := fun s => match s with | .While ec body [] _ => c ec && b body | _ => false
def qSeq (a : SB) (b : SsB) : SsB := fun s => match s with | st :: rest => a st && b rest | [] => false
mutual
def okS (G : Gi) (fn : Str → Bool) (sc : Scope) : C → SB
  | .asg i own e => qAsg G fn i own e sc
  | .unp tg e => qUnp G fn tg (okE G e sc) sc
  | .par tg own es => qPar G fn tg own es sc
  | .iff c a b => qIff (okT G c sc) (okSs G fn sc a) (okSs G fn sc b)
  | .for_ tg it body => qFor G fn tg (okI G it sc) (okSs G fn sc body) sc
  | .while_ c body => qWhile (okT G c sc) (okSs G fn sc body)
  | .ret e => qRet (okE G e sc)
  | .app i e => qMeth G "append" i sc (okE G e sc)
  | .ext i e => qMeth G "extend" i sc (okE G e sc)
  | .exp e => qExp (okE G e sc)
  | .dput i k e => qDput G i sc (okE G k sc) (okE G e sc)
  | .apop i j e => qApop G i j sc (okE G e sc)
  | .popu tg j => qPopu G fn tg j sc
  | .raise x => qRaise G x sc
  | .tryx x ei fi gs body => qTry G x ei fi gs sc (okSs G fn sc body)
  | _ => fun _ => false
def okSs (G : Gi) (fn : Str → Bool) (sc : Scope) : C → SsB
  | .skip => fun ss => ss.isEmpty
  | .seq a b => qSeq (okS G fn sc a) (okSs G fn sc b)
  | .fz _ r => okSs G fn sc r
  | _ => fun _ => false
end

/-- what is known of an exception class -/
def ExcOk (X : Cx) (ca : ExA) (x : Str) : Prop := ∃ (C : Addr) (B newId initId : String) (bmB : List Value), ExcBaseFacts B newId initId bmB ∧ PySem.W.excIn X.K C bmB newId = true ∧ X.mg x = some (.ref C) ∧ PySem.W.keepIn X.K (.ref C) = true ∧ Raises X (.ref C) ∧ ca x = some C
structure Sok (G : Gi) (S : Sig) (ca : ExA) (fn : Str → Bool) (sc : Scope) (W : WX) (X : Cx) : Prop extends Cok G S ca fn sc W X where
  po : PassesOwn (model X.prog X.w) X.A X.env X.xe
  exc : ∀ x, G.excs.contains x = true → ExcOk X ca x
  stk : X.stack = X.env :: X.outer
  frm : X.env.frame = some X.env.locals
  caE : ∀ n D, ca n = some D → G.excs.contains n = true
  exm : ∀ n x, G.excs.contains n = true → G.excs.contains x = true → ∃ D C, ca n = some D ∧ X.mg x = some (.ref C) ∧ PySem.W.exmOne X.K (.ref D) (.ref C) = some (S.sub n x) ∧ PySem.W.kitOne X.K (.ref D) (.ref C) = some (S.sub n x) ∧ ExcC X.K D
theorem Sok.tr {G : Gi} {S : Sig} {ca : ExA} {fn : Str → Bool} {sc : Scope} {W W' : WX} {X : Cx} (K : Sok G S ca fn sc W X) {pn : List (Addr × Obj)} {xe : Value → Shared → Prop} (tk : Takes (X.tr pn xe) W') (po : PassesOwn (model X.prog X.w) X.A X.env xe) : Sok G S ca fn sc W' (X.tr pn xe) :=
  { N := K.N, nd := K.nd, hsc := K.hsc, kind := K.kind, fn := K.fn, calm := K.calm, units := K.units, tk := tk, free := K.free, glob := K.glob, defs := K.defs, po := po, exc := K.exc, stk := K.stk, frm := K.frm, caE := K.caE, exm := K.exm }
section
variable {G : Gi} {S : Sig} {ca : ExA} {sc : Scope} {fn : Str → Bool} {W : WX} {X : Cx} {fuel : Nat} {L F0 H0 : Hp}
theorem sN {c : C} {e : Expr} (o : okN G c sc e = true) (K : Cok G S ca fn sc W X) : PE X e (rdN S ca W X.K c) := by
  unfold okN at o
  split at o
  · rename_i es
    unfold qLst at o
    split at o
    · exact sn_lst (sL es o K false)
    · cases o
  · rename_i tg it cond elt
    obtain ⟨eelt, etg, eit, ifs, scope, pos, rfl, h1, h2, h3, h4, h5, h6⟩ := q_lc (it := it) (cond := cond) (elt := elt) K (show qLc G tg sc (okI G it sc) (fun s => okC G cond s) (fun s => okE G elt s) e = true from o) (fun tg e o => sI it o K) (fun o K => sC cond o K) (fun o K => sE elt o K false)
    exact sn_lc K.calm K.nd h1 h2 own_vars h3 h4 h5 h6
  · rename_i a b
    unfold qBin at o
    split at o
    · obtain ⟨o, o3⟩ := and2 o
      obtain ⟨o1, o2⟩ := and2 o
      rw [of_decide_eq_true o1]
      exact sn_add (sE a o2 K true) (sE b o3 K true)
    · cases o
  · rename_i a b
    unfold qBin at o
    split at o
    · obtain ⟨o, o3⟩ := and2 o
      obtain ⟨o1, o2⟩ := and2 o
      rw [of_decide_eq_true o1]
      exact sn_mul (sE a o2 K true) (sE b o3 K true)
    · cases o
  · split at o
    · exact sn_dnew
    · cases o
  · cases o
theorem sw_none {e : Expr} (h : notComp e = true) (t : Option Expr) (l : Nat) (env : PySem.Env) : swapsWith e t l env = pure false := by
  cases e <;> first
    | (cases h; done)
    | rfl
theorem sw_lc {elt : Expr} {gs : List Comprehension} {scope : Scope} {pos py : Pos} {y : Str} {l : Nat} {env : PySem.Env} (hk : env.scope.kind = .function) :
    swapsWith (.ListComp elt gs scope pos) (some (.Name y py)) l env = pure true ∧ env.scope.names.lookup y = some .local ∨ swapsWith (.ListComp elt gs scope pos) (some (.Name y py)) l env = pure false := by
  have hb : env.blockKind = .function := by unfold Env.blockKind; rw [hk]; rfl
  by_cases hy : env.scope.names.lookup y = some .local
  · by_cases hl : (py.line == pos.line) = true
    · cases ha : (scope.names.any fun (n, k) => n == y && (k == .local || k == .cell)) with
      | false => exact .inl ⟨sw_true hk hy hl ha, hy⟩
      | true =>
        refine .inr ?_
        unfold swapsWith
        simp only [hb, ha]
        simp
    · refine .inr ?_
      unfold swapsWith
      simp only [Expr.pos]
      rw [Bool.not_eq_true] at hl
      simp [hl]
  · refine .inr ?_
    unfold swapsWith
    have : (env.kindOf y == some .local) = false := by
      show (env.scope.names.lookup y == some .local) = false
      exact beq_eq_false_iff_ne.mpr hy
    simp [this]
theorem q_asg {i : Nat} {own : Bool} {e : C} {st : Stmt} (o : qAsg G fn i own e sc st = true) (K : Sok G S ca fn sc W X) : PS X st (rdS S fuel ca W X.K L F0 H0 (.asg i own e)) := by
  unfold qAsg at o
  split at o
  · rename_i x px ee pos
    obtain ⟨o, o3⟩ := and2 o
    obtain ⟨o1, o2⟩ := and2 o
    unfold nmOk at o1
    obtain ⟨o1, n3⟩ := and2 o1
    obtain ⟨n1, n2⟩ := and2 o1
    have hs : X.env.scope.kind = .function := by rw [K.hsc]; exact K.kind
    have lc : ∀ {tg it cond elt}, e = .lc tg it cond elt → isLC ee = true → okE G (.lc tg it cond elt) sc ee = true → PS X (.Assign [.Name x px] ee pos) (rdS S fuel ca W X.K L F0 H0 (.asg i own e)) := fun {tg it cond elt} he hl o' => by
      subst he
      obtain ⟨eelt, etg, eit, ifs, scope, p2, rfl, h1, h2, h3, h4, h5, h6⟩ := q_lc (it := it) (cond := cond) (elt := elt) K.toCok (show qLc G tg sc (okI G it sc) (fun s => okC G cond s) (fun s => okE G elt s) ee = true from o') (fun tg e o => sI it o K.toCok) (fun o K => sC cond o K) (fun o K => sE elt o K false)
      rcases sw_lc (elt := eelt) (gs := [⟨etg, eit, ifs, 0⟩]) (scope := scope) (pos := p2) (py := px) (y := x) (l := pos.line) hs with ⟨w, l⟩ | w
      · exact ss_setLc K.calm K.nd (K.at n1) l w h1 h2 own_vars h3 h4 h5 h6 own
      · have n := sn_lc (W := W) K.calm K.nd h1 h2 own_vars h3 h4 h5 h6 (pos := p2)
        cases own with
        | true => exact ss_asgN K.nd (K.at n1) (K.loc n2) n w (K.hf n3)
        | false => exact ss_asg K.nd (K.at n1) (K.loc n2) (se_lc n) w (K.hf n3)
    rw [Bool.or_eq_true] at o2
    cases own with
    | true =>
      rcases o2 with o2 | o2
      · exact ss_asgN K.nd (K.at n1) (K.loc n2) (sN o3 K.toCok) (sw_none o2 _ _ _) (K.hf n3)
      · have o3 : okN G e sc ee = true := o3
        cases ee with
        | ListComp eelt gs scope p2 =>
          cases e with
          | lc tg it cond elt => exact lc rfl o2 o3
          | bin b _ _ => cases b <;> exact absurd (show false = true from o3) (by decide)
          | _ => exact absurd (show false = true from o3) (by decide)
        | _ => cases o2
    | false =>
      rcases o2 with o2 | o2
      · exact ss_asg K.nd (K.at n1) (K.loc n2) (sE e o3 K.toCok false) (sw_none o2 _ _ _) (K.hf n3)
      · have o3 : okE G e sc ee = true := o3
        cases ee with
        | ListComp eelt gs scope p2 =>
          cases e with
          | lc tg it cond elt => exact lc rfl o2 o3
          | bi b _ => cases b <;> exact absurd (show false = true from o3) (by decide)
          | _ => exact absurd (show false = true from o3) (by decide)
        | _ => cases o2
  · cases o
theorem sP : ∀ (c : C) (own : List Bool) {es : List Expr}, okP G c own sc es = true → Cok G S ca fn sc W X → PA X es (rdP S ca W X.K L F0 H0 c own)
  | .nil, [], es, o, K => by
    cases es with
    | nil => exact sp_nil
    | cons _ _ => exact absurd (show false = true from o) (by decide)
  | .cons h t, ow :: os, es, o, K => by
    cases es with
    | nil => exact absurd (show false = true from o) (by decide)
    | cons e es =>
      have o : (notStar e && (match ow with | true => okN G h sc | false => okE G h sc) e && okP G t os sc es) = true := o
      obtain ⟨o, o3⟩ := and2 o
      obtain ⟨o1, o2⟩ := and2 o
      cases ow with
      | true => exact sp_consN (sN o2 K) (sP t os o3 K) o1
      | false => exact sp_cons (sE h o2 K false) (sP t os o3 K) o1
theorem not_star_any {vs : List Expr} (h : vs.all notStar = true) : (vs.any fun | .Starred .. => true | _ => false) = false := by
  induction vs with
  | nil => rfl
  | cons v vs ih =>
    rw [List.all_cons, Bool.and_eq_true] at h
    rw [List.any_cons, ih h.2]
    cases v <;> first
      | rfl
      | (cases h.1; done)
theorem kindOf_l {env : PySem.Env} {x : Str} (h : env.scope.names.lookup x = some .local) : (env.kindOf x == some NameKind.local) = true := by
  show (env.scope.names.lookup x == some .local) = true
  rw [h]; rfl
theorem swS2 {env : PySem.Env} {x y : Str} {px py pt pt2 : Pos} {kt k2 : Nat} {vs : List Expr} (hk : env.scope.kind = .function) (hx : env.scope.names.lookup x = some .local) (hy : env.scope.names.lookup y = some .local) (hl : (px.line == py.line) = true) (hn : (x == y) = false) (hv : vs.length = 2)
    (h1 : vs.all notStar = true) (h2 : vs.all (constantsAlone 8) = false) (h3 : vs.all (foldedForSure 8) = false) :
    swappedStores [.Tuple [.Name x px, .Name y py] kt pt] (.Tuple vs k2 pt2) env = pure (some [x, y]) := by
  have hb : env.blockKind = .function := by unfold Env.blockKind; rw [hk]; rfl
  have hl2 : (py.line == px.line) = true := by rw [beq_iff_eq] at hl ⊢; exact hl.symm
  have hn2 : (y == x) = false := by rw [beq_eq_false_iff_ne] at hn ⊢; exact fun z => hn z.symm
  unfold swappedStores
  simp only [hb, hv, not_star_any h1, h2, h3, List.head?_cons, Option.map_some, Option.getD_some, Expr.pos, List.filterMap_cons, List.filterMap_nil, kindOf_l hx, kindOf_l hy, hl2, List.length_cons, List.length_nil]
  simp [List.eraseDups_cons, hn2]
  exact fun v hv hs => by have := List.all_eq_true.mp h1 v hv; cases v <;> first | (cases hs; done) | (cases this; done)
theorem swS3 {env : PySem.Env} {x y z : Str} {px py pz pt pt2 : Pos} {kt k2 : Nat} {vs : List Expr} (hk : env.scope.kind = .function) (hx : env.scope.names.lookup x = some .local) (hy : env.scope.names.lookup y = some .local) (hz : env.scope.names.lookup z = some .local)
    (hl : (px.line == py.line) = true) (hm : (px.line == pz.line) = true) (hn : (x == y) = false) (ho : (x == z) = false) (hp : (y == z) = false) (hv : vs.length = 3)
    (h1 : vs.all notStar = true) (h2 : vs.all (constantsAlone 8) = false) (h3 : vs.all (foldedForSure 8) = false) :
    swappedStores [.Tuple [.Name x px, .Name y py, .Name z pz] kt pt] (.Tuple vs k2 pt2) env = pure (some [x, y, z]) := by
  have hb : env.blockKind = .function := by unfold Env.blockKind; rw [hk]; rfl
  have hl2 : (py.line == px.line) = true := by rw [beq_iff_eq] at hl ⊢; exact hl.symm
  have hm2 : (pz.line == px.line) = true := by rw [beq_iff_eq] at hm ⊢; exact hm.symm
  have hn2 : (y == x) = false := by rw [beq_eq_false_iff_ne] at hn ⊢; exact fun z => hn z.symm
  have ho2 : (z == x) = false := by rw [beq_eq_false_iff_ne] at ho ⊢; exact fun z => ho z.symm
  have hp2 : (z == y) = false := by rw [beq_eq_false_iff_ne] at hp ⊢; exact fun z => hp z.symm
  unfold swappedStores
  simp only [hb, hv, not_star_any h1, h2, h3, List.head?_cons, Option.map_some, Option.getD_some, Expr.pos, List.filterMap_cons, List.filterMap_nil, kindOf_l hx, kindOf_l hy, kindOf_l hz, hl2, hm2, List.length_cons, List.length_nil]
  simp [List.eraseDups_cons, hn2, ho2, hp2]
  exact fun v hv hs => by have := List.all_eq_true.mp h1 v hv; cases v <;> first | (cases hs; done) | (cases this; done)
theorem swS0 {env : PySem.Env} {pt pt2 : Pos} {kt k2 : Nat} {ts vs : List Expr} (h : 3 < ts.length) : swappedStores [.Tuple ts kt pt] (.Tuple vs k2 pt2) env = pure none := by
  unfold swappedStores
  have e : (!(ts.length == 2 || ts.length == 3)) = true := by
    have : ts.length ≠ 2 := by omega
    have : ts.length ≠ 3 := by omega
    simp [*]
  simp [e]
theorem kind_isLoc {env : PySem.Env} {id : Str} : (env.kindOf id == some NameKind.local) = isLoc env.scope id := by
  show (env.scope.names.lookup id == some .local) = _
  unfold isLoc
  split
  · rename_i q; rw [q]; rfl
  · rename_i q
    exact beq_eq_false_iff_ne.mpr q
theorem swS00 {env : PySem.Env} {pt pt2 : Pos} {kt k2 : Nat} {ts vs : List Expr} (h : parN env.scope ts vs = true) : swappedStores [.Tuple ts kt pt] (.Tuple vs k2 pt2) env = pure none := by
  unfold parN at h
  rw [Bool.or_eq_true, Bool.or_eq_true] at h
  rcases h with (h | h) | h
  · unfold swappedStores
    simp only [h]
    split
    · rfl
    · split
      · rfl
      · split
        · rfl
        · rfl
  · have h := of_decide_eq_true h
    have e : ∀ x : Expr, (match x with | .Name id pos => if env.kindOf id == some NameKind.local && pos.line == headLine ts then some id else none | _ => none) = fNm env.scope (headLine ts) x := fun x => by
      unfold fNm
      split
      · rw [kind_isLoc]
      · rfl
    have e2 : (ts.filterMap fun x => match x with | .Name id pos => if env.kindOf id == some NameKind.local && pos.line == headLine ts then some id else none | _ => none) = ts.filterMap (fNm env.scope (headLine ts)) := by
      congr 1
      funext x
      exact e x
    have e3 : ((ts.filterMap (fNm env.scope (headLine ts))).length != ts.length) = true := by simpa using h
    unfold swappedStores
    dsimp only
    split
    · rfl
    · split
      · rfl
      · refine if_pos ?_
        show ((ts.filterMap fun x => match x with | .Name id pos => if env.kindOf id == some NameKind.local && pos.line == headLine ts then some id else none | _ => none).length != ts.length || _) = true
        rw [e2, e3, Bool.true_or]
  · exact swS0 (of_decide_eq_true h)
theorem q_par {tg : C} {own : List Bool} {es : C} {st : Stmt} (o : qPar G fn tg own es sc st = true) (K : Sok G S ca fn sc W X) : PS X st (rdS S fuel ca W X.K L F0 H0 (.par tg own es)) := by
  unfold qPar at o
  split at o
  · rename_i ts kt pt vs k2 pt2 pos
    replace o := and2 o; obtain ⟨o, oo⟩ := o
    replace o := and2 o; obtain ⟨o, o4⟩ := o
    replace o := and2 o; obtain ⟨o, o3⟩ := o
    replace o := and2 o; obtain ⟨o1, o2⟩ := o
    have ha := sP (L := L) (F0 := F0) (H0 := H0) es own o4 K.toCok
    have hk : X.env.scope.kind = .function := by rw [K.hsc]; exact K.kind
    rw [Bool.or_eq_true] at oo
    rcases oo with oo | oo
    · obtain ⟨i1, i2, i3⟩ := tgs_ok K.toCok o1
      exact ss_parN K.calm i1 i2 i3 (of_decide_eq_true o3) ha (swS00 (by rw [K.hsc]; exact oo))
    unfold parS at oo
    replace oo := and2 oo; obtain ⟨oo, o7⟩ := oo
    replace oo := and2 oo; obtain ⟨o5, o6⟩ := oo
    have o5 := nt o5
    have o6 := nt o6
    split at o7
    · rename_i x px y py
      replace o7 := and2 o7; obtain ⟨o7, r5⟩ := o7
      replace o7 := and2 o7; obtain ⟨o7, r4⟩ := o7
      replace o7 := and2 o7; obtain ⟨o7, r3⟩ := o7
      replace o7 := and2 o7; obtain ⟨r1, r2⟩ := o7
      have r4 := nt r4
      have r5 := of_decide_eq_true r5
      have lx : X.env.scope.names.lookup x = some .local := by rw [K.hsc]; exact isLoc_eq r1
      have ly : X.env.scope.names.lookup y = some .local := by rw [K.hsc]; exact isLoc_eq r2
      have w := swS2 (kt := kt) (pt := pt) (k2 := k2) (pt2 := pt2) hk lx ly r3 r4 r5 o2 o5 o6
      match vs, r5, ha, w with
      | [va, vb], _, ha, w =>
        cases tg with
        | cons t1 r =>
          cases t1 with
          | var i =>
            have o1 : (decide (G.N[i]? = some x) && isL sc x && (fn x || isLoc sc x) && tgsOk G.N fn sc r [.Name y py]) = true := o1
            obtain ⟨o1, s1⟩ := and2 o1
            cases r with
            | cons t2 r2 =>
              cases t2 with
              | var j =>
                have s1 : (decide (G.N[j]? = some y) && isL sc y && (fn y || isLoc sc y) && tgsOk G.N fn sc r2 []) = true := s1
                obtain ⟨s1, s2⟩ := and2 s1
                have hi := K.at (and2 (and2 (and2 o1).1).1).1
                have hj := K.at (and2 (and2 s1).1).1
                cases r2 with
                | nil =>
                  refine ss_par2 K.calm K.nd hi hj (fun z => ?_) lx ly ha w
                  subst z
                  rw [hi] at hj
                  cases hj
                  simp at r4
                | cons _ _ => exact absurd (tgs_ok K.toCok s2).2.1 (by simp [cLen])
                | _ => exact absurd (show false = true from s2) (by decide)
              | _ => exact absurd (show false = true from s1) (by decide)
            | _ => exact absurd (show false = true from s1) (by decide)
          | _ => exact absurd (show false = true from o1) (by decide)
        | _ => exact absurd (show false = true from o1) (by decide)
    · rename_i x px y py z pz
      replace o7 := and2 o7; obtain ⟨o7, q9⟩ := o7
      replace o7 := and2 o7; obtain ⟨o7, q8⟩ := o7
      replace o7 := and2 o7; obtain ⟨o7, q7⟩ := o7
      replace o7 := and2 o7; obtain ⟨o7, q6⟩ := o7
      replace o7 := and2 o7; obtain ⟨o7, q5⟩ := o7
      replace o7 := and2 o7; obtain ⟨o7, q4⟩ := o7
      replace o7 := and2 o7; obtain ⟨o7, q3⟩ := o7
      replace o7 := and2 o7; obtain ⟨q1, q2⟩ := o7
      have q6 := nt q6
      have q7 := nt q7
      have q8 := nt q8
      have q9 := of_decide_eq_true q9
      have lx : X.env.scope.names.lookup x = some .local := by rw [K.hsc]; exact isLoc_eq q1
      have ly : X.env.scope.names.lookup y = some .local := by rw [K.hsc]; exact isLoc_eq q2
      have lz : X.env.scope.names.lookup z = some .local := by rw [K.hsc]; exact isLoc_eq q3
      have w := swS3 (kt := kt) (pt := pt) (k2 := k2) (pt2 := pt2) hk lx ly lz q4 q5 q6 q7 q8 q9 o2 o5 o6
      match vs, q9, ha, w with
      | [va, vb, vc], _, ha, w =>
        cases tg with
        | cons t1 r =>
          cases t1 with
          | var i =>
            have o1 : (decide (G.N[i]? = some x) && isL sc x && (fn x || isLoc sc x) && tgsOk G.N fn sc r [.Name y py, .Name z pz]) = true := o1
            obtain ⟨o1, s1⟩ := and2 o1
            cases r with
            | cons t2 r2 =>
              cases t2 with
              | var j =>
                have s1 : (decide (G.N[j]? = some y) && isL sc y && (fn y || isLoc sc y) && tgsOk G.N fn sc r2 [.Name z pz]) = true := s1
                obtain ⟨s1, s2⟩ := and2 s1
                cases r2 with
                | cons t3 r3 =>
                  cases t3 with
                  | var l =>
                    have s2 : (decide (G.N[l]? = some z) && isL sc z && (fn z || isLoc sc z) && tgsOk G.N fn sc r3 []) = true := s2
                    obtain ⟨s2, s3⟩ := and2 s2
                    have hi := K.at (and2 (and2 (and2 o1).1).1).1
                    have hj := K.at (and2 (and2 (and2 s1).1).1).1
                    have hl := K.at (and2 (and2 s2).1).1
                    cases r3 with
                    | nil =>
                      refine ss_par3 K.calm K.nd hi hj hl (fun z => ?_) (fun z => ?_) (fun z => ?_) lx ly lz ha w
                      · subst z
                        rw [hi] at hj
                        cases hj
                        simp at q6
                      · subst z
                        rw [hi] at hl
                        cases hl
                        simp at q7
                      · subst z
                        rw [hj] at hl
                        cases hl
                        simp at q8
                    | cons _ _ => exact absurd (tgs_ok K.toCok s3).2.1 (by simp [cLen])
                    | _ => exact absurd (show false = true from s3) (by decide)
                  | _ => exact absurd (show false = true from s2) (by decide)
                | _ => exact absurd (show false = true from s2) (by decide)
              | _ => exact absurd (show false = true from s1) (by decide)
            | _ => exact absurd (show false = true from s1) (by decide)
          | _ => exact absurd (show false = true from o1) (by decide)
        | _ => exact absurd (show false = true from o1) (by decide)
    · cases o7
  · cases o
theorem firstTrue_noexc {n : Str} : ∀ {bs : List Bool}, firstTrue bs ≠ .exc n
  | [] => fun z => nomatch z
  | true :: _ => fun z => nomatch z
  | false :: r => bind_noexc (firstTrue_noexc (bs := r)) fun d z => by cases d <;> cases z
mutual
theorem sS (c : C) {W : WX} {X : Cx} {st : Stmt} (o : okS G fn sc c st = true) (K : Sok G S ca fn sc W X) (L : Hp) : PS X st (rdS S fuel ca W X.K L F0 H0 c) := by
  cases c with
  | asg i own e => exact q_asg (show qAsg G fn i own e sc st = true from o) K
  | unp tg e =>
    have o : qUnp G fn tg (okE G e sc) sc st = true := o
    unfold qUnp at o
    split at o
    · replace o := and2 o; obtain ⟨o, o3⟩ := o
      replace o := and2 o; obtain ⟨o1, o2⟩ := o
      refine ss_unp (sE e o3 K.toCok false) (tg_ok K.toCok o1) ?_ ?_ rfl
      · rename_i ts k p ee pos
        cases ee <;> rfl
      · rename_i ts k p ee pos
        cases ee <;> first
          | (cases o2; done)
          | rfl
    · cases o
  | par tg own es => exact q_par (show qPar G fn tg own es sc st = true from o) K
  | iff c a b =>
    have o : qIff (okT G c sc) (okSs G fn sc a) (okSs G fn sc b) st = true := o
    unfold qIff at o
    split at o
    · obtain ⟨o, o3⟩ := and2 o
      obtain ⟨o1, o2⟩ := and2 o
      exact ss_if (sT c o1 K.toCok) (sSs a o2 K L) (sSs b o3 K L)
    · cases o
  | for_ tg it body =>
    have o : qFor G fn tg (okI G it sc) (okSs G fn sc body) sc st = true := o
    unfold qFor at o
    split at o
    · obtain ⟨o, o4⟩ := and2 o
      obtain ⟨o, o3⟩ := and2 o
      obtain ⟨o1, o2⟩ := and2 o
      exact ss_for K.po K.calm (sI it o3 K.toCok) (tg_ok K.toCok o1) (fun L => sSs body o4 K L) (notSet_ok o2 _)
    · cases o
  | while_ c body =>
    have o : qWhile (okT G c sc) (okSs G fn sc body) st = true := o
    unfold qWhile at o
    split at o
    · obtain ⟨o1, o2⟩ := and2 o
      exact ss_while K.po (sT c o1 K.toCok) (fun L => sSs body o2 K L)
    · cases o
  | ret e =>
    have o : qRet (okE G e sc) st = true := o
    unfold qRet at o
    split at o
    · exact ss_ret (sE e o K.toCok false)
    · cases o
  | app i e =>
    have o : qMeth G "append" i sc (okE G e sc) st = true := o
    unfold qMeth at o
    split at o
    · obtain ⟨o, o6⟩ := and2 o
      obtain ⟨o, o5⟩ := and2 o
      obtain ⟨o, o4⟩ := and2 o
      obtain ⟨o, o3⟩ := and2 o
      obtain ⟨o1, o2⟩ := and2 o
      have o1 := of_decide_eq_true o1
      subst o1
      obtain ⟨v1, v2, v3⟩ := K.vis o3
      exact ss_app (p2 := ⟨0, 0, 0, 0⟩) (pe_var (K.at o2) v1 v2 v3) (sE e o6 K.toCok false) o5 o4
    · cases o
  | ext i e =>
    have o : qMeth G "extend" i sc (okE G e sc) st = true := o
    unfold qMeth at o
    split at o
    · obtain ⟨o, o6⟩ := and2 o
      obtain ⟨o, o5⟩ := and2 o
      obtain ⟨o, o4⟩ := and2 o
      obtain ⟨o, o3⟩ := and2 o
      obtain ⟨o1, o2⟩ := and2 o
      have o1 := of_decide_eq_true o1
      subst o1
      obtain ⟨v1, v2, v3⟩ := K.vis o3
      exact ss_ext (p2 := ⟨0, 0, 0, 0⟩) (pe_var (K.at o2) v1 v2 v3) (sE e o6 K.toCok false) o5 o4
    · cases o
  | dput i k e =>
    have o : qDput G i sc (okE G k sc) (okE G e sc) st = true := o
    unfold qDput at o
    split at o
    · obtain ⟨o, o5⟩ := and2 o
      obtain ⟨o, o4⟩ := and2 o
      obtain ⟨o, o3⟩ := and2 o
      obtain ⟨o1, o2⟩ := and2 o
      obtain ⟨v1, v2, v3⟩ := K.vis o2
      exact ss_dput K.units (pe_var (K.at o1) v1 v2 v3) (sE e o5 K.toCok false) (sE k o4 K.toCok false) (sw_none o3 _ _ _)
    · cases o
  | apop i j e =>
    have o : qApop G i j sc (okE G e sc) st = true := o
    unfold qApop at o
    split at o
    · obtain ⟨o, o10⟩ := and2 o
      obtain ⟨o, o9⟩ := and2 o
      obtain ⟨o, o8⟩ := and2 o
      obtain ⟨o, o7⟩ := and2 o
      obtain ⟨o, o6⟩ := and2 o
      obtain ⟨o, o5⟩ := and2 o
      obtain ⟨o, o4⟩ := and2 o
      obtain ⟨o, o3⟩ := and2 o
      obtain ⟨o1, o2⟩ := and2 o
      have o1 := of_decide_eq_true o1
      subst o1
      have o2 := of_decide_eq_true o2
      subst o2
      obtain ⟨v1, v2, v3⟩ := K.vis o4
      obtain ⟨w1, w2, w3⟩ := K.vis o6
      exact ss_apop (pe_var (K.at o3) v1 v2 v3) (pe_var (K.at o5) w1 w2 w3) (sE e o10 K.toCok false) o9 o7 o8
    · cases o
  | popu tg j =>
    have o : qPopu G fn tg j sc st = true := o
    unfold qPopu at o
    split at o
    · obtain ⟨o, o5⟩ := and2 o
      obtain ⟨o, o4⟩ := and2 o
      obtain ⟨o, o3⟩ := and2 o
      obtain ⟨o1, o2⟩ := and2 o
      have o2 := of_decide_eq_true o2
      subst o2
      obtain ⟨w1, w2, w3⟩ := K.vis o4
      exact ss_popu (pe_var (K.at o3) w1 w2 w3) o5 (tg_ok K.toCok o1) rfl rfl rfl
    · cases o
  | exp e =>
    have o : qExp (okE G e sc) st = true := o
    unfold qExp at o
    split at o
    · obtain ⟨o1, o2⟩ := and2 o
      exact ss_exp (sE e o2 K.toCok false) (sw_none o1 _ _ _)
    · cases o
  | raise x =>
    have o : qRaise G x sc st = true := o
    unfold qRaise at o
    split at o
    · obtain ⟨o, o3⟩ := and2 o
      obtain ⟨o1, o2⟩ := and2 o
      have o1 := of_decide_eq_true o1
      subst o1
      obtain ⟨C, B, newId, initId, bmB, FB, q, gC, kC, r, hca⟩ := K.exc _ o3
      exact ss_raise FB q gC kC r (K.gl o2).1 (K.gl o2).2 K.calm K.tk hca
    · cases o
  | tryx x ei fi gs body =>
    have o : qTry G x ei fi gs sc (okSs G fn sc body) st = true := o
    unfold qTry at o
    split at o
    · rename_i bodyS y py n b0 suite p1 pos _
      replace o := and2 o; obtain ⟨o, o16⟩ := o
      replace o := and2 o; obtain ⟨o, o15⟩ := o
      replace o := and2 o; obtain ⟨o, o14⟩ := o
      replace o := and2 o; obtain ⟨o, o13⟩ := o
      replace o := and2 o; obtain ⟨o, o12⟩ := o
      replace o := and2 o; obtain ⟨o, o11⟩ := o
      replace o := and2 o; obtain ⟨o, o10⟩ := o
      replace o := and2 o; obtain ⟨o, o9⟩ := o
      replace o := and2 o; obtain ⟨o, o8⟩ := o
      replace o := and2 o; obtain ⟨o, o7⟩ := o
      replace o := and2 o; obtain ⟨o, o6⟩ := o
      replace o := and2 o; obtain ⟨o, o5⟩ := o
      replace o := and2 o; obtain ⟨o, o4⟩ := o
      replace o := and2 o; obtain ⟨o, o3⟩ := o
      replace o := and2 o; obtain ⟨o1, o2⟩ := o
      have o1 := of_decide_eq_true o1
      subst o1
      obtain ⟨C0, B0, nw0, in0, bm0, _, _, g0, _, _, hca0⟩ := K.exc _ o3
      have hln : X.env.kindOf n = some .local := by show X.env.scope.names.lookup n = _; rw [K.hsc]; exact isLoc_eq o5
      refine (ps_try_as (i := ei) (c := .ref C0) (Wout := W) (tb := fun W' => rdS S fuel ca W' X.K L F0 H0 body) (ts := fun a cls d De σ H => ∃ D n', cls = .ref D ∧ d = none ∧ ca n' = some D ∧ tSuite (S.sub n') ei fi a gs De σ H) K.stk K.frm K.nd (K.at o4) hln ⟨(K.gl o2).1, (K.gl o2).2, .inl g0⟩ K.tk
        (fun W' pn xe tk' po' => sSs body o16 (K.tr tk' po') L) (fun a oe cls d pn hz hv => ⟨fun pins s σ H De I hh => ?_⟩)).imp fun De σ H h => ?_
      · obtain ⟨D, n', rfl, rfl, hca, ht⟩ := hh
        have hd : Hd (X.suite a ((a, oe) :: pn)) a D ei fi n (G.N[fi]?.getD "") (S.sub n') gs.flatten := by
          obtain ⟨D0, _, e0, _, _, _, ec⟩ := K.exm n' y (K.caE _ _ hca) o3
          rw [hca] at e0
          cases e0
          have v1 := K.vis o6
          have v2 := K.vis o9
          exact { is := call_isE ec hz hv, gi := (K.gl o11).1, mi := K.free _ o12, ne := K.at o4, ve := v1, nd := K.nd, nf := K.at o7, lf := by show X.env.scope.names.lookup _ = _; rw [K.hsc]; exact isLoc_eq o8, vf := v2.2, ef := of_decide_eq_false (nt o10)
                  fs := fun f hf => by
                    obtain ⟨q1, q2⟩ := and2 (List.all_eq_true.mp o13 f hf)
                    obtain ⟨D1, C1, e1, e2, e3, e4, _⟩ := K.exm n' f (K.caE _ _ hca) q2
                    rw [hca] at e1
                    cases e1
                    exact ⟨(K.gl q1).1, (K.gl q1).2, C1, e2, e4⟩ }
        exact (h_suite hd o15 (fun f hf => hf) (of_decide_eq_true o14)).run pins s σ H De I ht
      · obtain ⟨F, env, fr, p⟩ := h
        rw [ex] at p
        refine ⟨F, env, fr, ?_⟩
        cases q : ex S fuel body env with
        | exc n' env' =>
          rw [q] at p
          have p : SPost ca W X.K L F0 H0 (match S.sub n' y with | true => chkS (decide (ei < env'.length) && decide (fi < env'.length)) ((firstTrue (gs.flatten.map (S.sub n'))).toS env' .rt) | false => .bad) De := p
          intro σ' F' H' C fr' hca
          obtain ⟨D0, C1, e0, e1, e2, _, _⟩ := K.exm n' y (K.caE _ _ hca) o3
          rw [hca] at e0
          cases e0
          rw [g0] at e1
          cases e1
          cases hb : S.sub n' y with
          | false => rw [hb] at p; exact p.elim
          | true =>
            rw [hb] at p e2
            have p : SPost ca W X.K L F0 H0 (chkS (decide (ei < env'.length) && decide (fi < env'.length)) ((firstTrue (gs.flatten.map (S.sub n'))).toS env' .rt)) De := p
            cases hc2 : (decide (ei < env'.length) && decide (fi < env'.length)) with
            | false => rw [hc2] at p; exact p.elim
            | true =>
              rw [hc2] at p
              simp only [Bool.and_eq_true, decide_eq_true_eq] at hc2
              have p : SPost ca W X.K L F0 H0 ((firstTrue (gs.flatten.map (S.sub n'))).toS env' .rt) De := p
              refine ⟨true, e2, fun _ a ha => ⟨C, n', rfl, rfl, hca, List.getElem?_set_self (by rw [fr'.ss.len]; exact hc2.1), by rw [List.length_set, fr'.ss.len]; exact hc2.2, ?_⟩, fun z => nomatch z⟩
              cases hft : firstTrue (gs.flatten.map (S.sub n')) with
              | ok d =>
                rw [hft] at p
                exact ⟨d, hft, fun j H2 e s2 => p (.int j) H2 (fr'.old.trans s2) (by rw [e]; exact .int _)⟩
              | exc m => exact (firstTrue_noexc hft).elim
              | bad => rw [hft] at p; exact p.elim
        | nx env' => rw [q] at p; exact p
        | rt d => rw [q] at p; exact p
        | bk env' => rw [q] at p; exact p
        | ct env' => rw [q] at p; exact p
        | bad => rw [q] at p; exact p
    · cases o
  | _ => exact absurd (show false = true from o) (by decide)
theorem sSs (c : C) {W : WX} {X : Cx} {sts : List Stmt} (o : okSs G fn sc c sts = true) (K : Sok G S ca fn sc W X) (L : Hp) : PSs X sts (rdS S fuel ca W X.K L F0 H0 c) := by
  cases c with
  | skip =>
    cases sts with
    | nil => exact ss_skip
    | cons _ _ => exact absurd (show false = true from o) (by decide)
  | seq a b =>
    cases sts with
    | nil => exact absurd (show false = true from o) (by decide)
    | cons st rest =>
      obtain ⟨o1, o2⟩ := and2 (show (okS G fn sc a st && okSs G fn sc b rest) = true from o)
      exact ss_seq (sS a o1 K L) (sSs b o2 K L)
  | fz i r => exact ss_fz (sSs r (show okSs G fn sc r sts = true from o) K L)
  | _ => exact absurd (show false = true from o) (by decide)
end
end
end Rf

set_option Elab.async false
set_option linter.all false
set_option maxHeartbeats 4000000
/-! Rf, part O: the text's defs by a table: each keeps its promise at every level. -/
namespace Rf
open PySem PySem.Spec PyProof.Rows L2

structure DT where
  name : Str
  st : Stmt
  N : List Str
  ps : List Str
  body : C
def tabD (T : List DT) : Str → Option Def := fun f => (T.find? fun d => d.name == f).map fun d => ⟨d.N.length, d.ps.length, d.body⟩
def arT (T : List DT) : List (Str × Nat) := T.map fun d => (d.name, d.ps.length)
def scB (N P : List Str) (sc : Scope) : Bool :=
  decide (sc.kind = .function) && !sc.isCoroutine && !sc.isGenerator && decide N.Nodup && decide (N.take P.length = P) && P.all (fun x => isL sc x) && sc.names.all (fun y => !decide (y.2 = .free))
theorem scB_ok {N P : List Str} {sc : Scope} (h : scB N P sc = true) : FnScope N P sc := by
  unfold scB at h
  simp only [Bool.and_eq_true, Bool.not_eq_true', decide_eq_true_eq, List.all_eq_true, decide_eq_false_iff_not] at h
  obtain ⟨⟨⟨⟨⟨⟨h1, h2⟩, h3⟩, h4⟩, h5⟩, h6⟩, h7⟩ := h
  refine ⟨h1, h2, h3, h4, h5, fun x hx => ?_, h7⟩
  have e := h6 x hx
  unfold isL at e
  split at e
  · rename_i q; exact .inl q
  · rename_i q; exact .inr q
  · cases e
def okD (ar : List (Str × Nat)) (globs free excs : List Str) (d : DT) : Bool := scB d.N d.ps (defScope d.st) && okSs ⟨d.N, ar, globs, free, excs⟩ (fun _ => true) (defScope d.st) d.body (defBody d.st)
def BindP (d : DT) : Prop := ∀ (kV doc pm : Value) (an : Option Addr) (cdv ct : Value) (us : List Value), us.length = d.ps.length → bindArgs (PySem.W.fnOf d.name d.name (defArgs d.st) (defBody d.st) (defScope d.st) .none kV doc pm an cdv ct) ⟨us, []⟩ = pure (d.ps.zip us)
/-- an exception class behind the top -/
def ExcK (K : PySem.W.Frag) (mg : Str → Option Value) (ca : ExA) (x : Str) : Prop := ∃ (C : Addr) (B newId initId : String) (bmB : List Value), ExcBaseFacts B newId initId bmB ∧ PySem.W.excIn K C bmB newId = true ∧ mg x = some (.ref C) ∧ PySem.W.keepIn K (.ref C) = true ∧
  (∀ (M : Model) (h : Heap), K.In h → PySem.W.Looks M h (isSubtype (.ref C) (.type "BaseException")) true ∧ PySem.W.Looks M h (typeOf (.ref C)) (.type "type")) ∧ ca x = some C
def ExmK (K : PySem.W.Frag) (mg : Str → Option Value) (ca : ExA) (sub : Str → Str → Bool) (excs : List Str) : Prop := ∀ n x, excs.contains n = true → excs.contains x = true → ∃ D C, ca n = some D ∧ mg x = some (.ref C) ∧ PySem.W.exmOne K (.ref D) (.ref C) = some (sub n x) ∧ PySem.W.kitOne K (.ref D) (.ref C) = some (sub n x) ∧ ExcC K D
theorem tab_look {T : List DT} {f : Str} {m : Nat} (h : (arT T).lookup f = some m) : ∃ d ∈ T, d.name = f ∧ d.ps.length = m ∧ tabD T f = some ⟨d.N.length, d.ps.length, d.body⟩ := by
  unfold arT at h
  unfold tabD
  induction T with
  | nil => cases h
  | cons d T ih =>
    rw [List.map_cons, List.lookup_cons] at h
    rw [List.find?_cons]
    cases q : (f == d.name) with
    | true =>
      rw [q] at h
      cases h
      have e : f = d.name := by simpa using q
      subst e
      simp only [beq_self_eq_true]
      exact ⟨d, List.mem_cons_self .., rfl, rfl, rfl⟩
    | false =>
      rw [q] at h
      have q2 : (d.name == f) = false := by rw [beq_eq_false_iff_ne] at q ⊢; exact fun z => q z.symm
      rw [q2]
      obtain ⟨e, h1, h2⟩ := ih h
      exact ⟨e, List.mem_cons_of_mem _ h1, h2⟩
theorem start_ss {K : PySem.W.Frag} {F H : Hp} {n : Nat} {N : List Str} {vs : List V} {ds : List D} (s : Same F H) (r : RpL K F vs ds) (hn : N.length = n) (hl : vs.length ≤ N.length) : Ss K F H (startE n ds) (L2.start N vs) := by
  have hle : ds.length ≤ n := by rw [← r.length, ← hn]; exact hl
  refine ⟨s, ?_, fun i b e => ?_, fun i j di dj a hij e1 e2 _ _ => ?_⟩
  · unfold startE L2.start
    simp [r.length, hn]
  · unfold startE at e
    unfold L2.start
    by_cases hi : i < ds.length
    · have hi' : i < vs.length := by rw [r.length]; exact hi
      rw [List.getElem?_append_left (by simpa using hi), List.getElem?_map, List.getElem?_eq_getElem hi] at e
      cases e
      rw [List.getElem?_append_left (by simpa using hi'), List.getElem?_map]
      obtain ⟨v, h1, h2⟩ := r.get (List.getElem?_eq_getElem hi)
      rw [h1]
      exact ⟨some v, rfl, h2⟩
    · have hi' : ¬ i < vs.length := by rw [r.length]; exact hi
      rw [List.getElem?_append_right (by simpa using hi), List.getElem?_replicate] at e
      split at e
      · cases e
        rename_i h
        rw [List.getElem?_append_right (by simpa using hi'), List.getElem?_replicate]
        rw [if_pos (by simp only [List.length_map] at h ⊢; rw [r.length, hn]; exact h)]
        exact ⟨none, rfl, trivial⟩
      · cases e
  · unfold startE at e1
    by_cases hi : i < ds.length
    · rw [List.getElem?_append_left (by simpa using hi), List.getElem?_map, List.getElem?_eq_getElem hi] at e1
      cases e1
    · rw [List.getElem?_append_right (by simpa using hi), List.getElem?_replicate] at e1
      split at e1 <;> cases e1
theorem start_fr {K : PySem.W.Frag} {F H : Hp} {n : Nat} {N : List Str} {vs : List V} {ds : List D} (s : Same F H) (r : RpL K F vs ds) (hn : N.length = n) (hl : vs.length ≤ N.length) : Fr K F F H F H (startE n ds) (L2.start N vs) := by
  refine ⟨start_ss s r hn hl, same_refl, ?_, fun i d a e1 e2 => ?_, same_refl⟩
  · exact gr_F s
  · unfold startE at e1
    by_cases hi : i < ds.length
    · rw [List.getElem?_append_left (by simpa using hi), List.getElem?_map, List.getElem?_eq_getElem hi] at e1
      cases e1
    · rw [List.getElem?_append_right (by simpa using hi), List.getElem?_replicate] at e1
      split at e1 <;> cases e1

section
variable {P : Program} {w : World} {K : PySem.W.Frag} {mg : Str → Option Value} {base : Heap} {T : List DT} {globs free excs : List Str} {gl : Str → R D} {sub : Str → Str → Bool} {ca : ExA} {fuel : Nat}
/-- a def's body runs as ex says -/
theorem run_def {k : Nat} {d : DT} {fa : Addr} {fd : FuncData} {S : Sig} (F : FunD K d.name d.name (defArgs d.st) (defBody d.st) (defScope d.st) [] [] fa fd) (ok : okD (arT T) globs free excs d = true)
    (hfree : ∀ x, free.contains x = true → mg x = none) (hgl : ∀ x, globs.contains x = true → ∃ v u e, mg x = some u ∧ RelV v u ∧ S.gl x = .ok e ∧ Rp K (fun _ => none) v e)
    (hx : ∀ x, excs.contains x = true → ExcK K mg ca x) (hcaE : ∀ n D, ca n = some D → excs.contains n = true) (hxm : ExmK K mg ca S.sub excs)
    (ih : ∀ f m, (arT T).lookup f = some m → ∃ fa fd ps, FnOk P w K mg base (L2.CX P w) k fa fd ps (spD K S ca f m) ∧ mg f = some (.ref fa) ∧ PySem.W.keepIn K (.ref fa) = true ∧ Binds K fd ps [])
    {S' : Sig} (hS : ∀ ds, S'.cl d.name ds = R.chk (decide (ds.length = d.ps.length)) (ex S fuel d.body (startE d.N.length ds)).fin) :
    FnOk P w K mg base (L2.CX P w) (k + 1) fa fd d.ps (spD K S' ca d.name d.ps.length) := by
  obtain ⟨o1, o2⟩ := and2 ok
  have sc := scB_ok o1
  refine FunD.ok F sc (fun vs H Q E h => h.1) fun cdv A outer s H vs Q E hr ⟨hl, F0, ds, sub, rv, p⟩ => ?_
  refine ⟨rdS S fuel ca (fun cls d _ H => E cls d H) K F0 F0 H d.body, ?_, F0, _, start_fr sub rv rfl ?_, ?_⟩
  · have sok : Sok ⟨d.N, arT T, globs, free, excs⟩ S ca (fun _ => true) (defScope d.st) (fun cls d _ H => E cls d H) (cxOf (L2.CX P w) P w K mg base d.N d.name (defScope d.st) fa cdv A outer s H E) :=
      { N := rfl, nd := sc.nd, hsc := rfl, kind := sc.kind, fn := rfl, calm := rfl, units := by have := hr.un; show (A.deeper _).units + 65 < _; omega, tk := takes_of rfl rfl rfl rfl, free := hfree, glob := hgl,
        defs := fun f m h => let ⟨fa, fd, ps, h1, h2, h3, h4⟩ := ih f m h; ⟨k, fa, fd, ps, h1, hr, h2, h3, h4⟩
        po := passes_of rfl
        exc := fun x h => hx x h
        stk := rfl
        frm := rfl
        caE := hcaE
        exm := hxm }
    exact sSs d.body o2 sok F0
  · have h1 := congrArg List.length sc.pre
    rw [List.length_take] at h1
    omega
  · have rl : ds.length = d.ps.length := by rw [← rv.length]; exact hl
    rw [hS, decide_eq_true rl] at p
    have p : PG ca (fun cls d _ H' => E cls d H') H [] (ex S fuel d.body (startE d.N.length ds)).fin (fun d => ∀ v H', Same H H' → Rp K (Gr F0 H H') v d → Q v H') := p
    cases q : ex S fuel d.body (startE d.N.length ds) with
    | nx env => rw [q] at p; exact fun σ F H' fr => p .non H' fr.old .non
    | rt d => rw [q] at p; exact p
    | bk env => rw [q] at p; exact p.elim
    | ct env => rw [q] at p; exact p.elim
    | exc n env => rw [q] at p; exact fun σ F H' C fr e => p H' C fr.old e
    | bad => rw [q] at p; exact p.elim
theorem all_ok (hT : T.all (okD (arT T) globs free excs) = true) (hb : ∀ d ∈ T, BindP d) (hF : ∀ d ∈ T, ∃ fa fd, FunD K d.name d.name (defArgs d.st) (defBody d.st) (defScope d.st) [] [] fa fd ∧ mg d.name = some (.ref fa))
    (hfree : ∀ x, free.contains x = true → mg x = none) (hgl : ∀ x, globs.contains x = true → ∃ v u e, mg x = some u ∧ RelV v u ∧ gl x = .ok e ∧ Rp K (fun _ => none) v e)
    (hx : ∀ x, excs.contains x = true → ExcK K mg ca x) (hcaE : ∀ n D, ca n = some D → excs.contains n = true) (hxm : ExmK K mg ca sub excs) : ∀ (n : Nat) (f : Str) (m : Nat), (arT T).lookup f = some m →
      ∃ fa fd ps, FnOk P w K mg base (L2.CX P w) n fa fd ps (spD K ⟨callD (tabD T) gl sub fuel n, gl, sub⟩ ca f m) ∧ mg f = some (.ref fa) ∧ PySem.W.keepIn K (.ref fa) = true ∧ Binds K fd ps [] := by
  intro n
  induction n with
  | zero =>
    intro f m h
    obtain ⟨d, hd, rfl, rfl, e⟩ := tab_look h
    obtain ⟨fa, fd, FD, hm⟩ := hF d hd
    refine ⟨fa, fd, d.ps, ⟨fun vs H Q E h => h.1, fun A outer s H args us vs Q E hr he hbd hv hs => ?_⟩, hm, FD.kp, FD.bindsN (hb d hd)⟩
    obtain ⟨_, F0, ds, _, _, p⟩ := hs
    exact (show False from p).elim
  | succ n ih =>
    intro f m h
    obtain ⟨d, hd, rfl, rfl, e⟩ := tab_look h
    obtain ⟨fa, fd, FD, hm⟩ := hF d hd
    refine ⟨fa, fd, d.ps, run_def (S := ⟨callD (tabD T) gl sub fuel n, gl, sub⟩) (fuel := fuel) FD (List.all_eq_true.mp hT d hd) hfree hgl hx hcaE hxm ih fun ds => ?_, hm, FD.kp, FD.bindsN (hb d hd)⟩
    show callD (tabD T) gl sub fuel (n + 1) d.name ds = _
    rw [callD, e]
end
end Rf

set_option Elab.async false
set_option linter.all false
set_option maxHeartbeats 4000000
/-! Rf, part P: from the head's facts to the law's def. -/
namespace Rf
open PySem PySem.Spec PyProof.Rows L2

structure Txt where
  T : List DT
  gl : List (Str × PyData)
  free : List Str
  excs : List Str
  supers : List (Str × List Str)
def Txt.globs (X : Txt) : List Str := X.gl.map (·.1)
def Txt.glf (X : Txt) : Str → R D := fun x => match X.gl.lookup x with | some d => .ok d | none => .bad
def Txt.sub (X : Txt) : Str → Str → Bool := fun n x => ((X.supers.lookup n).getD []).contains x
def glFa : Str × PyData → He.Fa
  | (x, .int i) => .int x i
  | (x, .str z) => .str x z
  | (x, _) => .glo x
def Txt.fa (X : Txt) : List He.Fa := X.T.map (fun d => .glo d.name) ++ (X.free.map .free ++ (X.gl.map glFa ++ (X.excs.map .glo ++ X.excs.map .exc)))
def Txt.fn (X : Txt) : List He.DefD := X.T.map fun d => ⟨(d.name, none), d.name, d.name, defArgs d.st, defBody d.st, defScope d.st, [], []⟩
/-- ExcC as a look at K -/
def excCB (K : PySem.W.Frag) (D : Addr) : Bool :=
  decide (PySem.W.findIn K (.ref D) "__getattribute__" = some (some (.builtin "BaseException.__getattribute__"))) && decide (PySem.W.findIn K (.ref D) "__getattr__" = some none) && decide (PySem.W.subIn K (.ref D) (.type "BaseException") = some true) && PySem.W.hasDictIn K D &&
  decide (PySem.W.findIn K (.ref D) "__class__" = some (some (.builtin "object.__class__"))) && decide (PySem.W.specialIn K (.builtin "object.__class__") "__get__" = some (some (.builtin "getset_descriptor.__get__"))) && decide (PySem.W.takesIn K (.builtin "object.__class__") = some true) && decide (PySem.W.mroIn K D (.type "object") = some true)
theorem excCB_ok {K : PySem.W.Frag} {D : Addr} (h : excCB K D = true) : ExcC K D := by
  unfold excCB at h
  simp only [Bool.and_eq_true, decide_eq_true_eq] at h
  obtain ⟨⟨⟨⟨⟨⟨⟨h1, h2⟩, h3⟩, h4⟩, h5⟩, h6⟩, h7⟩, h8⟩ := h
  exact ⟨h1, h2, h3, h4, h5, h6, h7, h8⟩
def exOne (K : PySem.W.Frag) (sub : Str → Str → Bool) (n x : Str) : Bool :=
  decide (PySem.W.exmOne K (.ref (He.ga K n)) (.ref (He.ga K x)) = some (sub n x)) && decide (PySem.W.kitOne K (.ref (He.ga K n)) (.ref (He.ga K x)) = some (sub n x))
/-- a constant tuple of ints and texts -/
def leafV : D → V | .int i => .int i | .str z => .str z | _ => .non
def tupC (K : PySem.W.Frag) (x : Str) (ds : List D) : Bool := match K.lookup (He.ga K x) with
  | some ⟨.type c, _, .seq its _, _⟩ => decide (c = "tuple") && (decide (its.size ≤ sizeLine) && He.relAll (ds.map leafV) its.toList)
  | _ => false
theorem tupC_ok {K : PySem.W.Frag} {x : Str} {ds : List D} (h : tupC K x ds = true) (H : Hp) : SqT K H (He.ga K x) (ds.map leafV) := by
  unfold tupC at h
  split at h
  · rename_i c od its n sl q
    obtain ⟨h1, h2⟩ := and2 h
    obtain ⟨h3, h4⟩ := and2 h2
    exact .inr ⟨_, its, n, q, congrArg Value.type (of_decide_eq_true h1), rfl, of_decide_eq_true h3, He.relAll_ok h4⟩
  · cases h
theorem leaf_rp {K : PySem.W.Frag} {H : Hp} : ∀ {ds : List D}, ds.all isLeafK = true → RpL K H (ds.map leafV) ds
  | [], _ => .nil
  | d :: ds, h => by
    rw [List.all_cons, Bool.and_eq_true] at h
    refine .cons ?_ (leaf_rp h.2)
    cases d with
    | int i => exact .int i
    | str z => exact .str z
    | _ => exact nomatch h.1
def tupAll (K : PySem.W.Frag) (p : Str × PyData) : Bool := match p.2 with | .tuple ds => tupC K p.1 ds | _ => true
def Txt.more (X : Txt) (K : PySem.W.Frag) : Bool := (X.excs.all fun n => excCB K (He.ga K n) && X.excs.all fun x => exOne K X.sub n x) && X.gl.all (tupAll K)
def Txt.ca (X : Txt) (K : PySem.W.Frag) : ExA := fun n => if X.excs.contains n then some (He.ga K n) else none
def Txt.ok (X : Txt) : Bool := X.T.all (okD (arT X.T) X.globs X.free X.excs)
/-- a constant that stands in a namespace as its value -/
def flatG : PyData → Bool | .int _ => true | .str _ => true | .tuple ds => ds.all isLeafK | _ => false

section
variable {P : Program} {w : World} {K : PySem.W.Frag} {mg : Str → Option Value} {base h : Heap} {X : Txt} {fuel : Nat}
theorem hyps (KX : K.In h) (G : h.Ns mainGlobals mg) (c : He.SaysX X.fa X.fn [] [] X.more w h K) (hfl : X.gl.all (fun p => flatG p.2) = true) :
    (∀ d ∈ X.T, ∃ fa fd, FunD K d.name d.name (defArgs d.st) (defBody d.st) (defScope d.st) [] [] fa fd ∧ mg d.name = some (.ref fa)) ∧ (∀ x, X.free.contains x = true → mg x = none) ∧
    (∀ x, X.globs.contains x = true → ∃ v u e, mg x = some u ∧ RelV v u ∧ X.glf x = .ok e ∧ Rp K (fun _ => none) v e) ∧ (∀ x, X.excs.contains x = true → ExcK K mg (X.ca K) x) ∧
    (∀ n D, X.ca K n = some D → X.excs.contains n = true) ∧ ExmK K mg (X.ca K) X.sub X.excs := by
  have cd := c.t.d
  have inL : ∀ {x : He.Fa}, x ∈ X.fa → x.ok K = true := fun hx => He.SaysD.facts cd hx
  have hexc : ∀ x, X.excs.contains x = true → (He.Fa.glo x).ok K = true ∧ (He.Fa.exc x).ok K = true := fun x hx => by
    have hx : x ∈ X.excs := by simpa using hx
    exact ⟨inL (by unfold Txt.fa; simp only [List.mem_append, List.mem_map]; exact .inr (.inr (.inr (.inl ⟨x, hx, rfl⟩)))), inL (by unfold Txt.fa; simp only [List.mem_append, List.mem_map]; exact .inr (.inr (.inr (.inr ⟨x, hx, rfl⟩))))⟩
  have hca : ∀ x, X.excs.contains x = true → X.ca K x = some (He.ga K x) := fun x hx => by unfold Txt.ca; rw [if_pos hx]
  refine ⟨fun d hd => ?_, fun x hx => ?_, fun x hx => ?_, fun x hx => ?_, fun n D e => ?_, fun n x hn hx => ?_⟩
  · obtain ⟨fd, F⟩ := He.SaysD.defs cd (d := ⟨(d.name, none), d.name, d.name, defArgs d.st, defBody d.st, defScope d.st, [], []⟩) (List.mem_map.mpr ⟨d, hd, rfl⟩)
    have g := He.glo_ok KX G (x := d.name) (inL (by unfold Txt.fa; simp only [List.mem_append, List.mem_map]; exact .inl ⟨d, hd, rfl⟩))
    exact ⟨_, fd, F, g⟩
  · have hx : x ∈ X.free := by simpa using hx
    exact He.free_ok KX G (inL (by unfold Txt.fa; simp only [List.mem_append, List.mem_map]; exact .inr (.inl ⟨x, hx, rfl⟩)))
  · have hx : x ∈ X.gl.map (·.1) := by simpa [Txt.globs] using hx
    have key : ∃ d, X.gl.lookup x = some d ∧ (x, d) ∈ X.gl := by
      generalize X.gl = l at hx
      induction l with
      | nil => cases hx
      | cons p l ih =>
        rw [List.lookup_cons]
        cases q : (x == p.1) with
        | true =>
          have e : x = p.1 := by simpa using q
          exact ⟨p.2, rfl, by rw [e]; exact List.mem_cons_self ..⟩
        | false =>
          have ne : x ≠ p.1 := by simpa using q
          rw [List.map_cons, List.mem_cons] at hx
          obtain ⟨d, h1, h2⟩ := ih (hx.resolve_left ne)
          exact ⟨d, h1, List.mem_cons_of_mem _ h2⟩
    obtain ⟨d, h1, h2⟩ := key
    have e : X.glf x = .ok d := by unfold Txt.glf; rw [h1]
    have fl := List.all_eq_true.mp hfl _ h2
    have fo := inL (x := glFa (x, d)) (by unfold Txt.fa; simp only [List.mem_append, List.mem_map]; exact .inr (.inr (.inl ⟨(x, d), h2, rfl⟩)))
    cases d with
    | int i =>
      obtain ⟨t, g⟩ := He.int_ok KX G fo
      exact ⟨.int i, _, _, g, ⟨t, rfl⟩, e, .int i⟩
    | str z =>
      obtain ⟨t, g⟩ := He.str_ok KX G fo
      exact ⟨.str z, _, _, g, ⟨t, rfl⟩, e, .str z⟩
    | tuple ds =>
      have g := He.glo_ok KX G fo
      have tc : tupC K x ds = true := List.all_eq_true.mp (and2 c.more).2 _ h2
      exact ⟨.ref (He.ga K x), _, _, g, rfl, e, .tup (tupC_ok tc _) (leaf_rp fl)⟩
    | _ => cases fl
  · obtain ⟨f1, f2⟩ := hexc x hx
    obtain ⟨e1, e2, e3, e4⟩ := He.exc_ok f2
    exact ⟨He.ga K x, _, _, _, _, PySem.F.excBase_ValueError, e1, He.glo_ok KX G f1, e2, fun M h k => ⟨PySem.W.looks_subIn k e3, PySem.W.looks_typeIn k e4⟩, hca x hx⟩
  · unfold Txt.ca at e
    split at e
    · assumption
    · cases e
  · have hn' : n ∈ X.excs := by simpa using hn
    have hx' : x ∈ X.excs := by simpa using hx
    obtain ⟨q1, q2⟩ := and2 (List.all_eq_true.mp (and2 c.more).1 n hn')
    obtain ⟨q3, q4⟩ := and2 (List.all_eq_true.mp q2 x hx')
    exact ⟨He.ga K n, He.ga K x, hca n hn, He.glo_ok KX G (hexc x hx).1, of_decide_eq_true q3, of_decide_eq_true q4, excCB_ok q1⟩
/-- a promise that lets no exception out -/
theorem FnOk.still {k : Nat} {f : Addr} {fd : FuncData} {ps : List Str} {sp : Sp} (F : FnOk P w K mg base (L2.CX P w) k f fd ps sp) (hs : ∀ vs H Q E, sp vs H Q E → sp vs H Q (fun _ _ _ => False)) : FnOk P w K mg base L2.CX0 k f fd ps sp :=
  ⟨F.len, fun A outer s H args us vs Q E hr he hb hv h => codeAny_mono (F.run A outer s H args us vs Q (fun _ _ _ => False) hr he hb hv (hs _ _ _ _ h)) fun r s' q => by
    cases r with
    | ok fl => cases fl <;> exact q
    | error e =>
      obtain ⟨_, _, _, _, _, _, _, _, _, _, _, _, z⟩ := (show L2.CX P w outer H s (fun _ _ _ => False) e s' from q)
      exact z.elim⟩
def spLaw (K : PySem.W.Frag) : Sp := fun vs H Q _ => ∃ (a : Addr) (ns : List Int), vs = [.ref a] ∧ ns.length ≤ 63 ∧ SqL K H a (ns.map V.int) ∧ ∀ H', Q (.bl true) H'
theorem ints_rp {H : Hp} : ∀ ns : List Int, RpL K H (ns.map V.int) (ns.map PyData.int)
  | [] => .nil
  | n :: ns => .cons (.int n) (ints_rp ns)
theorem law_fn {lw x : Str} (KX : K.In h) (G : h.Ns mainGlobals mg) (c : He.SaysX X.fa X.fn [] [] X.more w h K) (ok : X.ok = true) (hb : ∀ d ∈ X.T, BindP d) (hfl : X.gl.all (fun p => flatG p.2) = true) {d : DT} (hd : d ∈ X.T) (hdn : d.name = lw) (hdp : d.ps = [x]) (ht : tabD X.T d.name = some ⟨d.N.length, d.ps.length, d.body⟩) {n : Nat} {f : Addr} (hmg : mg lw = some (.ref f))
    (hm : ∀ ns : List Int, ns.length ≤ 63 → callD (tabD X.T) X.glf X.sub fuel (n + 1) lw [.list (ns.map .int)] = .ok (.bool true)) :
    ∃ fd : FuncData, (∀ (s : Shared) (v : Value), BindsTo s fd ⟨[v], []⟩ [(x, v)]) ∧ ∀ base : Heap, FnOk P w K mg base L2.CX0 (n + 1) f fd [x] (spLaw K) := by
  subst hdn
  obtain ⟨hF, hfree, hgl, hx, hcaE, hxm⟩ := hyps KX G c hfl
  obtain ⟨fa, fd, F, g⟩ := hF d hd
  have ef : f = fa := by
    rw [hmg] at g
    exact Value.ref.inj (Option.some.inj g)
  subst ef
  have bd := FunD.bindsA (ps := d.ps) F (hb d hd)
  refine ⟨fd, fun s v => ?_, fun base => ?_⟩
  · have := bd s [v] (by rw [hdp]; rfl)
    rw [hdp] at this
    exact this
  · have ih := all_ok (P := P) (w := w) (base := base) (fuel := fuel) (sub := X.sub) (T := X.T) (globs := X.globs) (free := X.free) (excs := X.excs) ok hb hF hfree hgl hx hcaE hxm n
    have R1 := run_def (P := P) (w := w) (base := base) (fuel := fuel) (T := X.T) (S := ⟨callD (tabD X.T) X.glf X.sub fuel n, X.glf, X.sub⟩) (S' := ⟨callD (tabD X.T) X.glf X.sub fuel (n + 1), X.glf, X.sub⟩) F (List.all_eq_true.mp ok d hd) hfree hgl hx hcaE hxm ih fun ds => by
      show callD (tabD X.T) X.glf X.sub fuel (n + 1) d.name ds = _
      rw [callD, ht]
    rw [hdp] at R1
    refine FnOk.still (R1.imp fun vs H Q E hsp => ?_) fun vs H Q E h => h
    obtain ⟨a, ns, rfl, hz, hS, hQ⟩ := hsp
    refine ⟨rfl, H, [.list (ns.map .int)], same_refl, .cons (.lst hS (ints_rp ns)) .nil, ?_⟩
    show PG _ _ _ _ (callD (tabD X.T) X.glf X.sub fuel (n + 1) d.name [.list (ns.map .int)]) _
    rw [hm ns hz]
    intro v H' _ r
    cases r
    exact hQ H'
end
end Rf

set_option Elab.async false
set_option linter.all false
set_option maxRecDepth 100000
set_option maxHeartbeats 4000000
namespace K05
open Rf PySem
def top (i : Nat) : Stmt := PySem.Challenge.pw_tablebreaks_k05_tables.main.body.getD i (.Pass ⟨0, 0, 0, 0⟩)
def b_is_int : C := (.seq (.ret (.band (.cons (.bi .isInt (.cons (.var 0) .nil)) (.cons (.bnot (.bi .isBool (.cons (.var 0) .nil))) (.cons (.chain .le .le (.var 1) (.var 0) (.var 2)) .nil))))) .skip)
def b_is_score : C := (.seq (.ret (.band (.cons (.bi .isTuple (.cons (.var 0) .nil)) (.cons (.cmp .eq (.bi .len (.cons (.var 0) .nil)) (.cst (.int 2))) (.cons (.bi .all (.cons (.lc (.var 1) (.itm (.var 0)) .nil (.call "is_int" (.cons (.var 1) (.cons (.cst (.int 0)) (.cons (.glob "MAX_GOALS") .nil))))) .nil)) .nil))))) .skip)
def b_is_rising : C := (.seq (.ret (.bi .all (.cons (.lc (.tup (.cons (.var 1) (.cons (.var 2) .nil))) (.zip (.var 0) (.sl (.var 0) (.cons (.cst (.int 1)) .nil) .nil)) .nil (.cmp .lt (.var 1) (.var 2))) .nil))) .skip)
def b_is_season : C := (.seq (.iff (.bor (.cons (.bnot (.bi .isTuple (.cons (.var 0) .nil))) (.cons (.cmp .ne (.bi .len (.cons (.var 0) .nil)) (.cst (.int 3))) .nil))) (.seq (.ret (.cst (.bool false))) .skip) .skip) (.seq (.unp (.tup (.cons (.var 1) (.cons (.var 2) (.cons (.var 3) .nil)))) (.var 0)) (.seq (.iff (.bor (.cons (.bnot (.call "is_int" (.cons (.var 1) (.cons (.cst (.int 2)) (.cons (.glob "MAX_SIDES") .nil))))) (.cons (.bnot (.call "is_int" (.cons (.var 2) (.cons (.cst (.int 1)) (.cons (.cst (.int 2)) .nil))))) (.cons (.band (.cons (.cmp .eq (.var 2) (.cst (.int 2))) (.cons (.cmp .gt (.var 1) (.glob "MAX_TWICE")) .nil))) .nil)))) (.seq (.ret (.cst (.bool false))) .skip) .skip) (.seq (.iff (.bor (.cons (.bnot (.bi .isTuple (.cons (.var 3) .nil))) (.cons (.bnot (.chain .le .le (.cst (.int 1)) (.bi .len (.cons (.var 3) .nil)) (.glob "MAX_SCORES"))) .nil))) (.seq (.ret (.cst (.bool false))) .skip) .skip) (.seq (.ret (.band (.cons (.bi .all (.cons (.lc (.var 4) (.itm (.var 3)) .nil (.call "is_score" (.cons (.var 4) .nil))) .nil)) (.cons (.call "is_rising" (.cons (.var 3) .nil)) .nil)))) .skip)))))
def b_check_season : C := (.seq (.iff (.bnot (.call "is_season" (.cons (.var 0) .nil))) (.seq (.raise "InvalidSeason") .skip) .skip) .skip)
def b_find_sides : C := (.seq (.ret (.sl (.glob "LETTERS") .nil (.cons (.idx (.var 0) (.cst (.int 0))) .nil))) .skip)
def b_find_matches : C := (.seq (.asg 1 true (.lst .nil)) (.seq (.for_ (.tup (.cons (.var 2) (.cons (.var 3) .nil))) (.enum (.call "find_sides" (.cons (.var 0) .nil))) (.seq (.ext 1 (.lc (.var 4) (.itm (.sl (.call "find_sides" (.cons (.var 0) .nil)) (.cons (.bin .add (.var 2) (.cst (.int 1))) .nil) .nil)) .nil (.tup (.cons (.var 3) (.cons (.var 4) .nil))))) .skip)) (.seq (.iff (.cmp .eq (.idx (.var 0) (.cst (.int 1))) (.cst (.int 1))) (.fz 1 (.seq (.ret (.var 1)) .skip)) .skip) (.fz 1 (.seq (.ret (.bin .add (.var 1) (.lc (.tup (.cons (.var 3) (.cons (.var 4) .nil))) (.itm (.var 1)) .nil (.tup (.cons (.var 4) (.cons (.var 3) .nil)))))) .skip)))))
def b_has_results : C := (.seq (.iff (.bor (.cons (.bnot (.bi .isTuple (.cons (.var 1) .nil))) (.cons (.cmp .ne (.bi .len (.cons (.var 1) .nil)) (.bi .len (.cons (.call "find_matches" (.cons (.var 0) .nil)) .nil))) .nil))) (.seq (.ret (.cst (.bool false))) .skip) .skip) (.seq (.ret (.bi .all (.cons (.lc (.var 2) (.itm (.var 1)) .nil (.band (.cons (.call "is_score" (.cons (.var 2) .nil)) (.cons (.cmp .isin (.var 2) (.idx (.var 0) (.cst (.int 2)))) .nil)))) .nil))) .skip))
def b_check_results : C := (.seq (.iff (.bnot (.call "has_results" (.cons (.var 0) (.cons (.var 1) .nil)))) (.seq (.raise "InvalidResults") .skip) .skip) .skip)
def b_has_breaks : C := (.seq (.iff (.bor (.cons (.bnot (.bi .isTuple (.cons (.var 0) .nil))) (.cons (.cmp .gt (.bi .len (.cons (.var 0) .nil)) (.glob "MAX_BREAKS")) .nil))) (.seq (.ret (.cst (.bool false))) .skip) .skip) (.seq (.ret (.band (.cons (.bi .all (.cons (.lc (.var 1) (.itm (.var 0)) .nil (.band (.cons (.bi .isStr (.cons (.var 1) .nil)) (.cons (.cmp .isin (.var 1) (.glob "WORDS")) .nil)))) .nil)) (.cons (.cmp .eq (.bi .lenset (.cons (.var 0) .nil)) (.bi .len (.cons (.var 0) .nil))) .nil)))) .skip))
def b_is_book : C := (.seq (.iff (.bor (.cons (.bnot (.bi .isTuple (.cons (.var 0) .nil))) (.cons (.cmp .ne (.bi .len (.cons (.var 0) .nil)) (.cst (.int 5))) .nil))) (.seq (.ret (.cst (.bool false))) .skip) .skip) (.seq (.unp (.tup (.cons (.var 1) (.cons (.var 2) (.cons (.var 3) (.cons (.var 4) (.cons (.var 5) .nil)))))) (.var 0)) (.seq (.iff (.bor (.cons (.bnot (.call "is_int" (.cons (.var 1) (.cons (.cst (.int 1)) (.cons (.glob "MAX_WIN") .nil))))) (.cons (.bnot (.call "is_int" (.cons (.var 2) (.cons (.cst (.int 0)) (.cons (.var 1) .nil))))) (.cons (.bnot (.call "has_breaks" (.cons (.var 3) .nil))) .nil)))) (.seq (.ret (.cst (.bool false))) .skip) .skip) (.seq (.iff (.bor (.cons (.bnot (.bi .isStr (.cons (.var 4) .nil))) (.cons (.bnot (.bi .isStr (.cons (.var 5) .nil))) .nil))) (.seq (.ret (.cst (.bool false))) .skip) .skip) (.seq (.ret (.band (.cons (.cmp .isin (.var 4) (.tup (.cons (.glob "ANEW") (.cons (.glob "ONCE") .nil)))) (.cons (.cmp .isin (.var 5) (.tup (.cons (.glob "SHARED") (.cons (.glob "DRAWN") .nil)))) .nil)))) .skip)))))
def b_check_book : C := (.seq (.iff (.bnot (.call "is_book" (.cons (.var 0) .nil))) (.seq (.raise "InvalidBook") .skip) .skip) .skip)
def b_played : C := (.seq (.ret (.lc (.tup (.cons (.var 2) (.cons (.var 3) .nil))) (.zip (.call "find_matches" (.cons (.var 0) .nil)) (.var 1)) (.cons (.cmp .isnot (.var 3) (.cst .none)) .nil) (.tup (.cons (.var 2) (.cons (.var 3) .nil))))) .skip)
def b_own_and_other : C := (.seq (.unp (.tup (.cons (.var 2) (.cons (.var 3) .nil))) (.var 0)) (.seq (.ret (.ife (.cmp .eq (.idx (.var 2) (.cst (.int 0))) (.var 1)) (.var 3) (.tup (.cons (.idx (.var 3) (.cst (.int 1))) (.cons (.idx (.var 3) (.cst (.int 0))) .nil))))) .skip))
def b_points_in : C := (.seq (.asg 3 false (.cst (.int 0))) (.seq (.for_ (.var 4) (.itm (.var 1)) (.seq (.iff (.cmp .isin (.var 2) (.idx (.var 4) (.cst (.int 0)))) (.seq (.unp (.tup (.cons (.var 5) (.cons (.var 6) .nil))) (.call "own_and_other" (.cons (.var 4) (.cons (.var 2) .nil)))) (.seq (.asg 3 false (.bin .add (.var 3) (.ife (.cmp .gt (.var 5) (.var 6)) (.idx (.var 0) (.cst (.int 0))) (.ife (.cmp .eq (.var 5) (.var 6)) (.idx (.var 0) (.cst (.int 1))) (.cst (.int 0)))))) .skip)) .skip) .skip)) (.seq (.ret (.var 3)) .skip)))
def b_difference_in : C := (.seq (.asg 2 false (.cst (.int 0))) (.seq (.for_ (.var 3) (.itm (.var 0)) (.seq (.iff (.cmp .isin (.var 1) (.idx (.var 3) (.cst (.int 0)))) (.seq (.unp (.tup (.cons (.var 4) (.cons (.var 5) .nil))) (.call "own_and_other" (.cons (.var 3) (.cons (.var 1) .nil)))) (.seq (.asg 2 false (.bin .sub (.bin .add (.var 2) (.var 4)) (.var 5))) .skip)) .skip) .skip)) (.seq (.ret (.var 2)) .skip)))
def b_goals_in : C := (.seq (.ret (.bi .sum (.cons (.lc (.var 2) (.itm (.var 0)) (.cons (.cmp .isin (.var 1) (.idx (.var 2) (.cst (.int 0)))) .nil) (.idx (.call "own_and_other" (.cons (.var 2) (.cons (.var 1) .nil))) (.cst (.int 0)))) .nil))) .skip)
def b_count_for : C := (.seq (.iff (.cmp .eq (.var 3) (.glob "GOALS")) (.seq (.ret (.call "goals_in" (.cons (.var 1) (.cons (.var 4) .nil)))) .skip) .skip) (.seq (.iff (.cmp .eq (.var 3) (.glob "DIFFERENCE")) (.seq (.ret (.call "difference_in" (.cons (.var 1) (.cons (.var 4) .nil)))) .skip) .skip) (.seq (.iff (.cmp .eq (.var 3) (.glob "AWAY")) (.seq (.ret (.bi .sum (.cons (.lc (.tup (.cons (.var 9) (.cons (.var 10) .nil))) (.itm (.var 1)) (.cons (.cmp .eq (.idx (.var 9) (.cst (.int 1))) (.var 4)) .nil) (.idx (.var 10) (.cst (.int 1)))) .nil))) .skip) .skip) (.seq (.iff (.cmp .eq (.var 3) (.glob "WINS")) (.seq (.asg 6 false (.lc (.var 7) (.itm (.var 1)) (.cons (.cmp .isin (.var 4) (.idx (.var 7) (.cst (.int 0)))) .nil) (.call "own_and_other" (.cons (.var 7) (.cons (.var 4) .nil))))) (.seq (.ret (.bi .len (.cons (.lc (.var 8) (.itm (.var 6)) (.cons (.cmp .gt (.idx (.var 8) (.cst (.int 0))) (.idx (.var 8) (.cst (.int 1)))) .nil) (.var 8)) .nil))) .skip)) .skip) (.seq (.asg 5 false (.lc (.var 7) (.itm (.var 1)) (.cons (.band (.cons (.cmp .isin (.idx (.idx (.var 7) (.cst (.int 0))) (.cst (.int 0))) (.var 2)) (.cons (.cmp .isin (.idx (.idx (.var 7) (.cst (.int 0))) (.cst (.int 1))) (.var 2)) .nil))) .nil) (.var 7))) (.seq (.ret (.ife (.cmp .eq (.var 3) (.glob "DIRECT")) (.call "points_in" (.cons (.var 0) (.cons (.var 5) (.cons (.var 4) .nil)))) (.call "difference_in" (.cons (.var 5) (.cons (.var 4) .nil))))) .skip))))))
def b_check_all : C := (.seq (.exp (.call "check_season" (.cons (.var 0) .nil))) (.seq (.exp (.call "check_book" (.cons (.var 1) .nil))) (.seq (.exp (.call "check_results" (.cons (.var 0) (.cons (.var 2) .nil)))) .skip)))
def b_has_group : C := (.seq (.iff (.bor (.cons (.bnot (.bi .isStr (.cons (.var 1) .nil))) (.cons (.cmp .eq (.var 1) (.cst (.str ""))) .nil))) (.seq (.ret (.cst (.bool false))) .skip) .skip) (.seq (.ret (.band (.cons (.bi .all (.cons (.lc (.var 2) (.itm (.var 1)) .nil (.cmp .isin (.var 2) (.call "find_sides" (.cons (.var 0) .nil)))) .nil)) (.cons (.call "is_rising" (.cons (.var 1) .nil)) .nil)))) .skip))
def b_divided : C := (.seq (.asg 2 true (.lst .nil)) (.seq (.for_ (.var 3) (.itm (.rev (.bi .sortset (.cons (.var 1) .nil)))) (.seq (.app 2 (.bi .join (.cons (.cst (.str "")) (.cons (.lc (.tup (.cons (.var 4) (.cons (.var 5) .nil))) (.zip (.var 0) (.var 1)) (.cons (.cmp .eq (.var 5) (.var 3)) .nil) (.var 4)) .nil)))) .skip)) (.fz 2 (.seq (.ret (.var 2)) .skip))))
def b_asked : C := (.seq (.iff (.cmp .eq (.bi .len (.cons (.var 2) .nil)) (.cst (.int 1))) (.seq (.ret (.lst (.cons (.var 2) .nil))) .skip) .skip) (.seq (.iff (.cmp .eq (.var 3) (.bi .len (.cons (.idx (.var 0) (.cst (.int 2))) .nil))) (.seq (.ret (.ife (.cmp .eq (.idx (.var 0) (.cst (.int 4))) (.glob "DRAWN")) (.bi .list (.cons (.var 2) .nil)) (.lst (.cons (.var 2) .nil)))) .skip) .skip) (.seq (.asg 4 false (.call "divided" (.cons (.var 2) (.cons (.lc (.var 7) (.itm (.var 2)) .nil (.call "count_for" (.cons (.var 0) (.cons (.var 1) (.cons (.var 2) (.cons (.idx (.idx (.var 0) (.cst (.int 2))) (.var 3)) (.cons (.var 7) .nil))))))) .nil)))) (.seq (.asg 5 true (.lst .nil)) (.seq (.for_ (.var 6) (.itm (.var 4)) (.seq (.ext 5 (.call "asked" (.cons (.var 0) (.cons (.var 1) (.cons (.var 6) (.cons (.ife (.band (.cons (.cmp .eq (.idx (.var 0) (.cst (.int 3))) (.glob "ANEW")) (.cons (.cmp .gt (.bi .len (.cons (.var 4) .nil)) (.cst (.int 1))) .nil))) (.cst (.int 0)) (.bin .add (.var 3) (.cst (.int 1)))) .nil)))))) .skip)) (.fz 5 (.seq (.ret (.var 5)) .skip)))))))
def b_ranked : C := (.seq (.asg 3 false (.call "find_sides" (.cons (.var 0) .nil))) (.seq (.asg 4 true (.lst .nil)) (.seq (.for_ (.var 5) (.itm (.call "divided" (.cons (.var 3) (.cons (.lc (.var 6) (.itm (.var 3)) .nil (.call "points_in" (.cons (.var 1) (.cons (.var 2) (.cons (.var 6) .nil))))) .nil)))) (.seq (.ext 4 (.call "asked" (.cons (.var 1) (.cons (.var 2) (.cons (.var 5) (.cons (.cst (.int 0)) .nil)))))) .skip)) (.seq (.ret (.bi .tuple (.cons (.var 4) .nil))) .skip))))
def b_find_table : C := (.seq (.ret (.call "ranked" (.cons (.var 0) (.cons (.var 1) (.cons (.call "played" (.cons (.var 0) (.cons (.var 2) .nil))) .nil))))) .skip)
def b_table_of : C := (.seq (.exp (.call "check_all" (.cons (.var 0) (.cons (.var 1) (.cons (.var 2) .nil))))) (.seq (.ret (.call "find_table" (.cons (.var 0) (.cons (.var 1) (.cons (.var 2) .nil))))) .skip))
def b_has_table : C := (.seq (.iff (.bor (.cons (.bnot (.bi .isTuple (.cons (.var 1) .nil))) (.cons (.bnot (.bi .all (.cons (.lc (.var 2) (.itm (.var 1)) .nil (.call "has_group" (.cons (.var 0) (.cons (.var 2) .nil)))) .nil))) .nil))) (.seq (.ret (.cst (.bool false))) .skip) .skip) (.seq (.ret (.cmp .eq (.bi .join (.cons (.cst (.str "")) (.cons (.bi .sorted (.cons (.bi .join (.cons (.cst (.str "")) (.cons (.var 1) .nil))) .nil)) .nil))) (.call "find_sides" (.cons (.var 0) .nil)))) .skip))
def b_is_table : C := (.seq (.exp (.call "check_season" (.cons (.var 0) .nil))) (.seq (.ret (.call "has_table" (.cons (.var 0) (.cons (.var 1) .nil)))) .skip))
def b_check_table : C := (.seq (.iff (.bnot (.call "has_table" (.cons (.var 0) (.cons (.var 1) .nil)))) (.seq (.raise "InvalidTable") .skip) .skip) .skip)
def b_check_side : C := (.seq (.iff (.bor (.cons (.bnot (.bi .isStr (.cons (.var 1) .nil))) (.cons (.cmp .ne (.bi .len (.cons (.var 1) .nil)) (.cst (.int 1))) (.cons (.cmp .notin (.var 1) (.call "find_sides" (.cons (.var 0) .nil))) .nil)))) (.seq (.raise "InvalidSide") .skip) .skip) .skip)
def b_find_place : C := (.seq (.asg 2 false (.cst (.int 1))) (.seq (.for_ (.var 3) (.itm (.var 0)) (.seq (.iff (.cmp .isin (.var 1) (.var 3)) (.seq (.ret (.var 2)) .skip) .skip) (.seq (.asg 2 false (.bin .add (.var 2) (.bi .len (.cons (.var 3) .nil)))) .skip))) (.seq (.ret (.var 2)) .skip)))
def b_place_in : C := (.seq (.exp (.call "check_season" (.cons (.var 0) .nil))) (.seq (.exp (.call "check_table" (.cons (.var 0) (.cons (.var 1) .nil)))) (.seq (.exp (.call "check_side" (.cons (.var 0) (.cons (.var 2) .nil)))) (.seq (.ret (.call "find_place" (.cons (.var 1) (.cons (.var 2) .nil)))) .skip))))
def b__law_drawn : C := (.seq (.asg 3 false (.bin .mul (.cst (.int 7)) (.var 1))) (.seq (.iff (.cmp .ne (.var 0) (.lst .nil)) (.seq (.asg 3 false (.idx (.var 0) (.bin .mod (.bi .int (.cons (.var 1) .nil)) (.bi .len (.cons (.var 0) .nil))))) (.seq (.asg 4 false (.bin .fdiv (.var 1) (.bi .len (.cons (.var 0) .nil)))) (.seq (.iff (.band (.cons (.cmp .ge (.var 3) (.bin .pow (.cst (.int 10)) (.cst (.int 18)))) (.cons (.cmp .lt (.var 4) (.cst (.int 60))) .nil))) (.seq (.asg 5 false (.bin .fdiv (.var 3) (.bin .pow (.cst (.int 10)) (.cst (.int 18))))) (.seq (.while_ (.band (.cons (.cmp .gt (.var 5) (.cst (.int 0))) (.cons (.cmp .gt (.var 4) (.cst (.int 0))) .nil))) (.seq (.asg 5 false (.bin .fdiv (.var 5) (.cst (.int 1000000)))) (.seq (.asg 4 false (.bin .sub (.var 4) (.cst (.int 1)))) .skip))) (.seq (.iff (.cmp .gt (.var 5) (.cst (.int 0))) (.seq (.ret (.bin .mod (.bi .int (.cons (.bin .mod (.bi .int (.cons (.var 5) .nil)) (.cst (.int 1000000))) .nil)) (.var 2))) .skip) .skip) .skip))) .skip) (.seq (.asg 3 false (.bin .add (.var 3) (.bin .mul (.cst (.int 6553)) (.bin .fdiv (.var 1) (.bi .len (.cons (.var 0) .nil)))))) .skip)))) .skip) (.seq (.asg 3 false (.bin .mod (.bi .int (.cons (.bin .add (.bin .mul (.bin .mod (.bi .int (.cons (.var 3) .nil)) (.cst (.int 2147483563))) (.cst (.int 69069))) (.bin .mul (.cst (.int 104723)) (.bin .add (.var 1) (.cst (.int 1))))) .nil)) (.cst (.int 2147483563)))) (.seq (.asg 3 false (.bin .mod (.bi .int (.cons (.bin .add (.bin .mul (.var 3) (.var 3)) (.bin .fdiv (.var 3) (.cst (.int 3)))) .nil)) (.cst (.int 2147483399)))) (.seq (.ret (.bin .mod (.bi .int (.cons (.bin .fdiv (.bin .mod (.bi .int (.cons (.bin .add (.bin .mul (.var 3) (.var 3)) (.bin .fdiv (.var 3) (.cst (.int 7)))) .nil)) (.cst (.int 2147483647))) (.cst (.int 11))) .nil)) (.var 2))) .skip)))))
def b__law_season : C := (.seq (.asg 3 false (.lst (.cons (.tup (.cons (.cst (.int 3)) (.cons (.cst (.int 1)) (.cons (.cst (.int 3)) (.cons (.cst (.int 27)) .nil))))) (.cons (.tup (.cons (.cst (.int 3)) (.cons (.cst (.int 1)) (.cons (.cst (.int 2)) (.cons (.cst (.int 8)) .nil))))) (.cons (.tup (.cons (.cst (.int 2)) (.cons (.cst (.int 2)) (.cons (.cst (.int 3)) (.cons (.cst (.int 9)) .nil))))) (.cons (.tup (.cons (.cst (.int 3)) (.cons (.cst (.int 1)) (.cons (.cst (.int 3)) (.cons (.cst (.int 27)) .nil))))) (.cons (.tup (.cons (.cst (.int 4)) (.cons (.cst (.int 1)) (.cons (.cst (.int 2)) (.cons (.cst (.int 64)) .nil))))) .nil))))))) (.seq (.asg 3 false (.bin .add (.var 3) (.lst (.cons (.tup (.cons (.cst (.int 3)) (.cons (.cst (.int 2)) (.cons (.cst (.int 2)) (.cons (.cst (.int 64)) .nil))))) .nil)))) (.seq (.unp (.tup (.cons (.var 6) (.cons (.var 7) (.cons (.var 8) (.cons (.var 9) .nil))))) (.idx (.var 3) (.call "_law_drawn" (.cons (.var 0) (.cons (.var 1) (.cons (.cst (.int 6)) .nil)))))) (.seq (.iff (.cmp .gt (.var 9) (.var 2)) (.seq (.par (.cons (.var 6) (.cons (.var 7) (.cons (.var 8) .nil))) [false, false, false] (.cons (.cst (.int 3)) (.cons (.cst (.int 1)) (.cons (.cst (.int 2)) .nil)))) .skip) .skip) (.seq (.asg 4 true (.lst .nil)) (.seq (.for_ (.var 5) (.rng (.cons (.var 8) .nil)) (.seq (.app 4 (.tup (.cons (.call "_law_drawn" (.cons (.var 0) (.cons (.bin .add (.bin .add (.var 1) (.cst (.int 1))) (.bin .mul (.cst (.int 2)) (.var 5))) (.cons (.cst (.int 4)) .nil)))) (.cons (.call "_law_drawn" (.cons (.var 0) (.cons (.bin .add (.bin .add (.var 1) (.cst (.int 2))) (.bin .mul (.cst (.int 2)) (.var 5))) (.cons (.cst (.int 3)) .nil)))) .nil)))) .skip)) (.seq (.iff (.cmp .lt (.bi .lenset (.cons (.var 4) .nil)) (.var 8)) (.seq (.asg 4 false (.sl (.lst (.cons (.tup (.cons (.cst (.int 0)) (.cons (.cst (.int 0)) .nil))) (.cons (.tup (.cons (.cst (.int 0)) (.cons (.cst (.int 1)) .nil))) (.cons (.tup (.cons (.cst (.int 1)) (.cons (.cst (.int 0)) .nil))) .nil)))) .nil (.cons (.var 8) .nil))) .skip) .skip) (.seq (.ret (.tup (.cons (.var 6) (.cons (.var 7) (.cons (.bi .tuple (.cons (.bi .sorted (.cons (.var 4) .nil)) .nil)) .nil))))) .skip))))))))
def b__law_book : C := (.seq (.par (.cons (.var 6) (.cons (.var 7) .nil)) [true, true] (.cons (.lst (.cons (.cst (.str "goals")) (.cons (.cst (.str "difference")) (.cons (.cst (.str "wins")) (.cons (.cst (.str "away")) (.cons (.cst (.str "direct")) (.cons (.cst (.str "directdiff")) .nil))))))) (.cons (.lst .nil) .nil))) (.seq (.for_ (.var 2) (.rng (.cons (.call "_law_drawn" (.cons (.var 0) (.cons (.var 1) (.cons (.cst (.int 4)) .nil)))) .nil)) (.seq (.apop 7 6 (.call "_law_drawn" (.cons (.var 0) (.cons (.bin .add (.bin .add (.var 1) (.cst (.int 1))) (.var 2)) (.cons (.bi .len (.cons (.var 6) .nil)) .nil))))) .skip)) (.seq (.asg 3 false (.idx (.lst (.cons (.cst (.int 3)) (.cons (.cst (.int 2)) (.cons (.cst (.int 1)) (.cons (.cst (.int 3)) .nil))))) (.call "_law_drawn" (.cons (.var 0) (.cons (.bin .add (.var 1) (.cst (.int 5))) (.cons (.cst (.int 4)) .nil)))))) (.seq (.asg 4 false (.bi .min (.cons (.var 3) (.cons (.idx (.lst (.cons (.cst (.int 1)) (.cons (.cst (.int 0)) (.cons (.cst (.int 1)) (.cons (.cst (.int 2)) .nil))))) (.call "_law_drawn" (.cons (.var 0) (.cons (.bin .add (.var 1) (.cst (.int 6))) (.cons (.cst (.int 4)) .nil))))) .nil)))) (.seq (.asg 5 false (.idx (.lst (.cons (.cst (.str "anew")) (.cons (.cst (.str "once")) .nil))) (.call "_law_drawn" (.cons (.var 0) (.cons (.bin .add (.var 1) (.cst (.int 7))) (.cons (.cst (.int 2)) .nil)))))) (.seq (.ret (.tup (.cons (.var 3) (.cons (.var 4) (.cons (.bi .tuple (.cons (.var 7) .nil)) (.cons (.var 5) (.cons (.idx (.lst (.cons (.cst (.str "shared")) (.cons (.cst (.str "drawn")) .nil))) (.call "_law_drawn" (.cons (.var 0) (.cons (.bin .add (.var 1) (.cst (.int 8))) (.cons (.cst (.int 2)) .nil))))) .nil))))))) .skip))))))
def b__law_matches : C := (.seq (.par (.cons (.var 2) (.cons (.var 3) .nil)) [false, false] (.cons (.sl (.cst (.str "abcd")) .nil (.cons (.idx (.var 0) (.cst (.int 0))) .nil)) (.cons (.lst .nil) .nil))) (.seq (.for_ (.var 1) (.itm (.var 2)) (.seq (.asg 3 false (.bin .add (.var 3) (.lc (.var 4) (.itm (.var 2)) (.cons (.cmp .lt (.var 1) (.var 4)) .nil) (.tup (.cons (.var 1) (.cons (.var 4) .nil)))))) .skip)) (.seq (.ret (.bin .add (.var 3) (.lc (.tup (.cons (.var 1) (.cons (.var 4) .nil))) (.itm (.var 3)) (.cons (.cmp .eq (.idx (.var 0) (.cst (.int 1))) (.cst (.int 2))) .nil) (.tup (.cons (.var 4) (.cons (.var 1) .nil)))))) .skip)))
def b__law_results : C := (.seq (.asg 3 false (.idx (.var 2) (.cst (.int 2)))) (.seq (.ret (.bi .tuple (.cons (.lc (.var 4) (.rng (.cons (.bi .len (.cons (.call "_law_matches" (.cons (.var 2) .nil)) .nil)) .nil)) .nil (.idx (.var 3) (.call "_law_drawn" (.cons (.var 0) (.cons (.bin .add (.var 1) (.var 4)) (.cons (.bi .len (.cons (.var 3) .nil)) .nil)))))) .nil))) .skip))
def b__law_own : C := (.seq (.asg 3 true (.lst .nil)) (.seq (.for_ (.tup (.cons (.var 4) (.cons (.var 5) .nil))) (.zip (.call "_law_matches" (.cons (.var 0) .nil)) (.var 1)) (.seq (.iff (.band (.cons (.cmp .isnot (.var 5) (.cst .none)) (.cons (.cmp .eq (.idx (.var 4) (.cst (.int 0))) (.var 2)) .nil))) (.seq (.app 3 (.tup (.cons (.idx (.var 4) (.cst (.int 1))) (.cons (.cst (.bool true)) (.cons (.idx (.var 5) (.cst (.int 0))) (.cons (.idx (.var 5) (.cst (.int 1))) .nil)))))) .skip) .skip) (.seq (.iff (.band (.cons (.cmp .isnot (.var 5) (.cst .none)) (.cons (.cmp .eq (.idx (.var 4) (.cst (.int 1))) (.var 2)) .nil))) (.seq (.app 3 (.tup (.cons (.idx (.var 4) (.cst (.int 0))) (.cons (.cst (.bool false)) (.cons (.idx (.var 5) (.cst (.int 1))) (.cons (.idx (.var 5) (.cst (.int 0))) .nil)))))) .skip) .skip) .skip))) (.fz 3 (.seq (.ret (.var 3)) .skip))))
def b__law_count : C := (.seq (.iff (.cmp .isin (.var 3) (.tup (.cons (.cst (.str "direct")) (.cons (.cst (.str "directdiff")) .nil)))) (.seq (.asg 1 false (.lc (.var 6) (.itm (.var 1)) (.cons (.cmp .isin (.idx (.var 6) (.cst (.int 0))) (.var 2)) .nil) (.var 6))) .skip) .skip) (.seq (.iff (.cmp .isin (.var 3) (.tup (.cons (.cst (.str "points")) (.cons (.cst (.str "direct")) .nil)))) (.seq (.par (.cons (.var 4) (.cons (.var 5) .nil)) [false, false] (.cons (.lc (.var 6) (.itm (.var 1)) (.cons (.cmp .gt (.idx (.var 6) (.cst (.int 2))) (.idx (.var 6) (.cst (.int 3)))) .nil) (.var 6)) (.cons (.lc (.var 6) (.itm (.var 1)) (.cons (.cmp .eq (.idx (.var 6) (.cst (.int 2))) (.idx (.var 6) (.cst (.int 3)))) .nil) (.var 6)) .nil))) (.seq (.ret (.bin .add (.bin .mul (.idx (.var 0) (.cst (.int 0))) (.bi .len (.cons (.var 4) .nil))) (.bin .mul (.idx (.var 0) (.cst (.int 1))) (.bi .len (.cons (.var 5) .nil))))) .skip)) .skip) (.seq (.iff (.cmp .isin (.var 3) (.tup (.cons (.cst (.str "difference")) (.cons (.cst (.str "directdiff")) .nil)))) (.seq (.ret (.bin .sub (.bi .sum (.cons (.lc (.var 6) (.itm (.var 1)) .nil (.idx (.var 6) (.cst (.int 2)))) .nil)) (.bi .sum (.cons (.lc (.var 6) (.itm (.var 1)) .nil (.idx (.var 6) (.cst (.int 3)))) .nil)))) .skip) .skip) (.seq (.iff (.cmp .eq (.var 3) (.cst (.str "wins"))) (.seq (.ret (.bi .len (.cons (.lc (.var 6) (.itm (.var 1)) (.cons (.cmp .gt (.idx (.var 6) (.cst (.int 2))) (.idx (.var 6) (.cst (.int 3)))) .nil) (.var 6)) .nil))) .skip) .skip) (.seq (.ret (.bi .sum (.cons (.lc (.var 6) (.itm (.var 1)) (.cons (.bor (.cons (.cmp .eq (.var 3) (.cst (.str "goals"))) (.cons (.bnot (.idx (.var 6) (.cst (.int 1)))) .nil))) .nil) (.idx (.var 6) (.cst (.int 2)))) .nil))) .skip)))))
def b__law_split : C := (.seq (.asg 4 true .dnew) (.seq (.for_ (.var 5) (.itm (.var 2)) (.seq (.asg 6 false (.call "_law_count" (.cons (.var 0) (.cons (.idx (.var 1) (.var 5)) (.cons (.var 2) (.cons (.var 3) .nil)))))) (.seq (.dput 4 (.var 6) (.bin .add (.dget (.var 4) (.var 6) (.cst (.str ""))) (.var 5))) .skip))) (.seq (.ret (.lc (.var 6) (.itm (.bi .rsorted (.cons (.var 4) .nil))) .nil (.idx (.var 4) (.var 6)))) .skip)))
def b__law_table : C := (.seq (.asg 3 false (.bi .dict (.cons (.lc (.var 9) (.itm (.sl (.cst (.str "abcd")) .nil (.cons (.idx (.var 0) (.cst (.int 0))) .nil))) .nil (.tup (.cons (.var 9) (.cons (.call "_law_own" (.cons (.var 0) (.cons (.var 2) (.cons (.var 9) .nil)))) .nil)))) .nil))) (.seq (.par (.cons (.var 4) (.cons (.var 5) .nil)) [false, false] (.cons (.lst .nil) (.cons (.lc (.var 10) (.itm (.call "_law_split" (.cons (.var 1) (.cons (.var 3) (.cons (.sl (.cst (.str "abcd")) .nil (.cons (.idx (.var 0) (.cst (.int 0))) .nil)) (.cons (.cst (.str "points")) .nil)))))) .nil (.tup (.cons (.var 10) (.cons (.cst (.int 0)) .nil)))) .nil))) (.seq (.while_ (.cmp .ne (.var 5) (.lst .nil)) (.seq (.unp (.tup (.cons (.var 6) (.cons (.var 7) .nil))) (.idx (.var 5) (.cst (.int 0)))) (.seq (.asg 5 false (.sl (.var 5) (.cons (.cst (.int 1)) .nil) .nil)) (.seq (.iff (.bor (.cons (.cmp .eq (.bi .len (.cons (.var 6) .nil)) (.cst (.int 1))) (.cons (.cmp .eq (.var 7) (.bi .len (.cons (.idx (.var 1) (.cst (.int 2))) .nil))) .nil))) (.seq (.asg 4 false (.bin .add (.var 4) (.ife (.cmp .eq (.idx (.var 1) (.cst (.int 4))) (.cst (.str "shared"))) (.lst (.cons (.var 6) .nil)) (.bi .list (.cons (.var 6) .nil))))) .skip) (.seq (.asg 8 false (.call "_law_split" (.cons (.var 1) (.cons (.var 3) (.cons (.var 6) (.cons (.idx (.idx (.var 1) (.cst (.int 2))) (.var 7)) .nil)))))) (.seq (.asg 7 false (.ife (.band (.cons (.cmp .gt (.bi .len (.cons (.var 8) .nil)) (.cst (.int 1))) (.cons (.cmp .eq (.idx (.var 1) (.cst (.int 3))) (.cst (.str "anew"))) .nil))) (.cst (.int 0)) (.bin .add (.var 7) (.cst (.int 1))))) (.seq (.asg 5 false (.bin .add (.lc (.var 10) (.itm (.var 8)) .nil (.tup (.cons (.var 10) (.cons (.var 7) .nil)))) (.var 5))) .skip)))) .skip)))) (.seq (.ret (.bi .tuple (.cons (.var 4) .nil))) .skip))))
def b__law_place : C := (.seq (.asg 2 false (.idx (.lc (.tup (.cons (.var 3) (.cons (.var 4) .nil))) (.enum (.var 0)) (.cons (.cmp .isin (.var 1) (.var 4)) .nil) (.var 3)) (.cst (.int 0)))) (.seq (.ret (.bin .add (.cst (.int 1)) (.bi .len (.cons (.bi .join (.cons (.cst (.str "")) (.cons (.sl (.var 0) .nil (.cons (.var 2) .nil)) .nil))) .nil)))) .skip))
def b__law_badseason : C := (.seq (.asg 2 false (.tup (.cons (.tup (.cons (.cst (.int 0)) (.cons (.cst (.int 0)) .nil))) (.cons (.tup (.cons (.cst (.int 1)) (.cons (.cst (.int 0)) .nil))) .nil)))) (.seq (.asg 3 false (.lst (.cons (.cst .none) (.cons (.tup .nil) (.cons (.tup (.cons (.cst (.int 3)) (.cons (.cst (.int 1)) .nil))) (.cons (.tup (.cons (.cst (.int 1)) (.cons (.cst (.int 1)) (.cons (.var 2) .nil)))) (.cons (.tup (.cons (.cst (.int 5)) (.cons (.cst (.int 1)) (.cons (.var 2) .nil)))) (.cons (.tup (.cons (.cst (.int 4)) (.cons (.cst (.int 2)) (.cons (.var 2) .nil)))) (.cons (.tup (.cons (.cst (.int 3)) (.cons (.cst (.int 0)) (.cons (.var 2) .nil)))) (.cons (.tup (.cons (.cst (.int 3)) (.cons (.cst (.int 3)) (.cons (.var 2) .nil)))) .nil)))))))))) (.seq (.asg 3 false (.bin .add (.var 3) (.lst (.cons (.tup (.cons (.cst (.int 3)) (.cons (.cst (.int 1)) (.cons (.tup .nil) .nil)))) .nil)))) (.seq (.asg 3 false (.bin .add (.var 3) (.lst (.cons (.tup (.cons (.cst (.int 3)) (.cons (.cst (.int 1)) (.cons (.rev (.var 2)) .nil)))) (.cons (.tup (.cons (.cst (.int 3)) (.cons (.cst (.int 1)) (.cons (.lst (.cons (.tup (.cons (.cst (.int 0)) (.cons (.cst (.int 0)) .nil))) .nil)) .nil)))) (.cons (.tup (.cons (.cst (.int 3)) (.cons (.cst (.int 1)) (.cons (.tup (.cons (.tup (.cons (.cst (.int 0)) (.cons (.cst (.int 4)) .nil))) .nil)) .nil)))) (.cons (.tup (.cons (.cst (.int 3)) (.cons (.cst (.int 1)) (.cons (.tup (.cons (.tup (.cons (.cst (.int 0)) .nil)) .nil)) .nil)))) .nil))))))) (.seq (.asg 3 false (.bin .add (.var 3) (.lst (.cons (.tup (.cons (.cst (.bool true)) (.cons (.cst (.int 1)) (.cons (.var 2) .nil)))) .nil)))) (.seq (.asg 3 false (.bin .add (.var 3) (.lst (.cons (.tup (.cons (.cst (.int 3)) (.cons (.cst (.int 1)) (.cons (.tup (.cons (.tup (.cons (.cst (.int 0)) (.cons (.cst (.int 0)) .nil))) (.cons (.tup (.cons (.cst (.int 0)) (.cons (.cst (.int 0)) .nil))) .nil))) .nil)))) (.cons (.lst (.cons (.cst (.int 3)) (.cons (.cst (.int 1)) (.cons (.var 2) .nil)))) .nil))))) (.seq (.asg 3 false (.bin .add (.var 3) (.lst (.cons (.tup (.cons (.cst (.int 3)) (.cons (.cst (.int 1)) (.cons (.tup (.cons (.tup (.cons (.cst (.int 0)) (.cons (.cst (.int 0)) .nil))) (.cons (.tup (.cons (.cst (.int 0)) (.cons (.cst (.int 1)) .nil))) (.cons (.tup (.cons (.cst (.int 0)) (.cons (.cst (.int 2)) .nil))) (.cons (.tup (.cons (.cst (.int 1)) (.cons (.cst (.int 0)) .nil))) (.cons (.tup (.cons (.cst (.int 2)) (.cons (.cst (.int 0)) .nil))) .nil)))))) .nil)))) .nil)))) (.seq (.ret (.idx (.var 3) (.call "_law_drawn" (.cons (.var 0) (.cons (.var 1) (.cons (.cst (.int 17)) .nil)))))) .skip))))))))
def b__law_badbook : C := (.seq (.asg 2 false (.lst (.cons (.cst .none) (.cons (.tup .nil) (.cons (.tup (.cons (.cst (.int 3)) (.cons (.cst (.int 1)) (.cons (.tup .nil) (.cons (.cst (.str "anew")) .nil))))) (.cons (.tup (.cons (.cst (.int 0)) (.cons (.cst (.int 0)) (.cons (.tup .nil) (.cons (.cst (.str "anew")) (.cons (.cst (.str "shared")) .nil)))))) .nil)))))) (.seq (.asg 2 false (.bin .add (.var 2) (.lst (.cons (.tup (.cons (.cst (.int 4)) (.cons (.cst (.int 1)) (.cons (.tup .nil) (.cons (.cst (.str "anew")) (.cons (.cst (.str "shared")) .nil)))))) .nil)))) (.seq (.asg 2 false (.bin .add (.var 2) (.lst (.cons (.tup (.cons (.cst (.int 2)) (.cons (.cst (.int 3)) (.cons (.tup .nil) (.cons (.cst (.str "anew")) (.cons (.cst (.str "shared")) .nil)))))) (.cons (.tup (.cons (.cst (.int 3)) (.cons (.cst (.int 1)) (.cons (.tup (.cons (.cst (.str "goals")) (.cons (.cst (.str "goals")) .nil))) (.cons (.cst (.str "anew")) (.cons (.cst (.str "shared")) .nil)))))) .nil))))) (.seq (.asg 2 false (.bin .add (.var 2) (.lst (.cons (.tup (.cons (.cst (.int 3)) (.cons (.cst (.int 1)) (.cons (.lst (.cons (.cst (.str "goals")) .nil)) (.cons (.cst (.str "anew")) (.cons (.cst (.str "shared")) .nil)))))) (.cons (.tup (.cons (.cst (.int 3)) (.cons (.cst (.int 1)) (.cons (.tup (.cons (.cst (.str "points")) .nil)) (.cons (.cst (.str "anew")) (.cons (.cst (.str "shared")) .nil)))))) .nil))))) (.seq (.asg 2 false (.bin .add (.var 2) (.lst (.cons (.tup (.cons (.cst (.int 3)) (.cons (.cst (.int 1)) (.cons (.tup .nil) (.cons (.cst (.str "new")) (.cons (.cst (.str "shared")) .nil)))))) (.cons (.tup (.cons (.cst (.int 3)) (.cons (.cst (.int 1)) (.cons (.tup .nil) (.cons (.cst (.str "once")) (.cons (.cst (.str "share")) .nil)))))) .nil))))) (.seq (.asg 2 false (.bin .add (.var 2) (.lst (.cons (.lst (.cons (.cst (.int 3)) (.cons (.cst (.int 1)) (.cons (.tup .nil) (.cons (.cst (.str "once")) (.cons (.cst (.str "drawn")) .nil)))))) .nil)))) (.seq (.asg 2 false (.bin .add (.var 2) (.lst (.cons (.tup (.cons (.cst (.int 3)) (.cons (.cst (.int 1)) (.cons (.tup (.cons (.cst (.str "goals")) (.cons (.cst (.str "wins")) (.cons (.cst (.str "away")) (.cons (.cst (.str "direct")) (.cons (.cst (.str "directdiff")) .nil)))))) (.cons (.cst (.str "once")) (.cons (.cst (.str "drawn")) .nil)))))) .nil)))) (.seq (.asg 2 false (.bin .add (.var 2) (.lst (.cons (.tup (.cons (.cst (.int 3)) (.cons (.neg (.cst (.int 1))) (.cons (.tup .nil) (.cons (.cst (.str "once")) (.cons (.cst (.str "drawn")) .nil)))))) (.cons (.tup (.cons (.cst (.int 3)) (.cons (.cst (.bool true)) (.cons (.tup .nil) (.cons (.cst (.str "once")) (.cons (.cst (.str "drawn")) .nil)))))) .nil))))) (.seq (.asg 2 false (.bin .add (.var 2) (.lst (.cons (.tup (.cons (.cst (.int 3)) (.cons (.cst (.int 1)) (.cons (.tup (.cons (.cst .none) .nil)) (.cons (.cst (.str "once")) (.cons (.cst (.str "drawn")) .nil)))))) .nil)))) (.seq (.ret (.idx (.var 2) (.call "_law_drawn" (.cons (.var 0) (.cons (.var 1) (.cons (.cst (.int 16)) .nil)))))) .skip))))))))))
def b__law_error : C := (.seq (.tryx "TableError" 4 5 [["InvalidSeason", "InvalidBook"], ["InvalidResults"], ["InvalidTable", "InvalidSide"]] (.seq (.iff (.cmp .eq (.var 0) (.cst (.int 0))) (.seq (.exp (.call "is_table" (.cons (.var 1) (.cons (.var 2) .nil)))) .skip) (.seq (.exp (.calls ["table_of", "place_in"] (.bin .sub (.var 0) (.cst (.int 1))) (.cons (.var 1) (.cons (.var 2) (.cons (.var 3) .nil))))) .skip)) .skip)) (.seq (.ret (.cst .none)) .skip))
def b__law_fixed : C := (.seq (.par (.cons (.var 2) (.cons (.var 3) .nil)) [false, false] (.cons (.tup (.cons (.cst (.int 3)) (.cons (.cst (.int 1)) (.cons (.tup (.cons (.tup (.cons (.cst (.int 0)) (.cons (.cst (.int 2)) .nil))) (.cons (.tup (.cons (.cst (.int 1)) (.cons (.cst (.int 0)) .nil))) (.cons (.tup (.cons (.cst (.int 3)) (.cons (.cst (.int 0)) .nil))) .nil)))) .nil)))) (.cons (.tup (.cons (.tup (.cons (.cst (.int 1)) (.cons (.cst (.int 0)) .nil))) (.cons (.tup (.cons (.cst (.int 0)) (.cons (.cst (.int 2)) .nil))) (.cons (.tup (.cons (.cst (.int 3)) (.cons (.cst (.int 0)) .nil))) .nil)))) .nil))) (.seq (.asg 0 true (.lc (.var 4) (.itm (.tup (.cons (.cst (.str "once")) (.cons (.cst (.str "anew")) .nil)))) .nil (.tup (.cons (.cst (.int 3)) (.cons (.cst (.int 1)) (.cons (.tup (.cons (.cst (.str "directdiff")) .nil)) (.cons (.var 4) (.cons (.cst (.str "shared")) .nil)))))))) (.seq (.app 0 (.tup (.cons (.cst (.int 3)) (.cons (.cst (.int 1)) (.cons (.tup (.cons (.cst (.str "directdiff")) (.cons (.cst (.str "goals")) .nil))) (.cons (.cst (.str "once")) (.cons (.cst (.str "shared")) .nil))))))) (.seq (.asg 1 false (.lst (.cons (.tup (.cons (.cst (.str "b")) (.cons (.cst (.str "ac")) .nil))) (.cons (.tup (.cons (.cst (.str "b")) (.cons (.cst (.str "c")) (.cons (.cst (.str "a")) .nil)))) (.cons (.tup (.cons (.cst (.str "b")) (.cons (.cst (.str "c")) (.cons (.cst (.str "a")) .nil)))) .nil))))) (.fz 0 (.seq (.ret (.cmp .eq (.lc (.var 5) (.itm (.var 0)) .nil (.call "table_of" (.cons (.var 2) (.cons (.var 5) (.cons (.var 3) .nil))))) (.var 1))) .skip))))))
def b_law : C := (.seq (.iff (.bnot (.call "_law_fixed" .nil)) (.seq (.ret (.cst (.bool false))) .skip) .skip) (.seq (.asg 1 false (.call "_law_season" (.cons (.var 0) (.cons (.cst (.int 10)) (.cons (.cst (.int 4096)) .nil))))) (.seq (.asg 2 false (.sl (.cst (.str "abcd")) .nil (.cons (.idx (.var 1) (.cst (.int 0))) .nil))) (.seq (.for_ (.var 3) (.rng (.cons (.cst (.int 6)) .nil)) (.seq (.par (.cons (.var 12) (.cons (.var 13) .nil)) [false, false] (.cons (.call "_law_book" (.cons (.var 0) (.cons (.bin .add (.cst (.int 30)) (.bin .mul (.cst (.int 10)) (.var 3))) .nil))) (.cons (.call "_law_results" (.cons (.var 0) (.cons (.bin .add (.cst (.int 90)) (.bin .mul (.cst (.int 10)) (.var 3))) (.cons (.var 1) .nil)))) .nil))) (.seq (.asg 8 false (.call "table_of" (.cons (.var 1) (.cons (.var 12) (.cons (.var 13) .nil))))) (.seq (.iff (.bor (.cons (.cmp .ne (.var 8) (.call "_law_table" (.cons (.var 1) (.cons (.var 12) (.cons (.var 13) .nil))))) (.cons (.cmp .isnot (.call "is_table" (.cons (.var 1) (.cons (.var 8) .nil))) (.cst (.bool true))) .nil))) (.seq (.ret (.cst (.bool false))) .skip) .skip) (.seq (.for_ (.var 6) (.itm (.var 2)) (.seq (.iff (.cmp .ne (.call "place_in" (.cons (.var 1) (.cons (.var 8) (.cons (.var 6) .nil)))) (.call "_law_place" (.cons (.var 8) (.cons (.var 6) .nil)))) (.seq (.ret (.cst (.bool false))) .skip) .skip) .skip)) .skip))))) (.seq (.asg 4 false (.lst (.cons (.cst .none) (.cons (.tup .nil) (.cons (.lst (.cons (.var 2) .nil)) (.cons (.tup (.cons (.bin .add (.var 2) (.cst (.str "a"))) .nil)) (.cons (.tup (.cons (.var 2) (.cons (.cst (.str "")) .nil))) (.cons (.tup (.cons (.rev (.var 2)) .nil)) (.cons (.tup (.cons (.sl (.var 2) (.cons (.cst (.int 1)) .nil) .nil) .nil)) .nil))))))))) (.seq (.asg 4 false (.bin .add (.var 4) (.lst (.cons (.tup (.cons (.cst (.str "a")) (.cons (.var 2) .nil))) (.cons (.tup (.cons (.var 2) (.cons (.cst .none) .nil))) (.cons (.var 2) (.cons (.tup (.cons (.bin .add (.var 2) (.cst (.str "e"))) .nil)) .nil))))))) (.seq (.iff (.cmp .ne (.lc (.var 14) (.itm (.var 4)) (.cons (.cmp .isnot (.call "is_table" (.cons (.var 1) (.cons (.var 14) .nil))) (.cst (.bool false))) .nil) (.var 14)) (.lst .nil)) (.seq (.ret (.cst (.bool false))) .skip) .skip) (.seq (.par (.cons (.var 9) (.cons (.var 10) .nil)) [false, false] (.cons (.call "_law_badseason" (.cons (.var 0) (.cons (.cst (.int 1)) .nil))) (.cons (.call "_law_badbook" (.cons (.var 0) (.cons (.cst (.int 2)) .nil))) .nil))) (.seq (.par (.cons (.var 11) (.cons (.var 5) .nil)) [false, false] (.cons (.idx (.var 4) (.call "_law_drawn" (.cons (.var 0) (.cons (.cst (.int 3)) (.cons (.cst (.int 11)) .nil))))) (.cons (.lst (.cons (.cst .none) (.cons (.tup .nil) (.cons (.sl (.var 13) (.cons (.cst (.int 1)) .nil) .nil) (.cons (.bi .list (.cons (.var 13) .nil)) (.cons (.bin .add (.tup (.cons (.cst .none) .nil)) (.sl (.var 13) (.cons (.cst (.int 1)) .nil) .nil)) .nil)))))) .nil))) (.seq (.asg 5 false (.idx (.var 5) (.call "_law_drawn" (.cons (.var 0) (.cons (.cst (.int 4)) (.cons (.cst (.int 5)) .nil)))))) (.seq (.asg 6 false (.idx (.lst (.cons (.cst .none) (.cons (.cst (.str "")) (.cons (.cst (.str "e")) (.cons (.cst (.str "ab")) (.cons (.cst (.int 5)) (.cons (.lst (.cons (.cst (.str "a")) .nil)) .nil))))))) (.call "_law_drawn" (.cons (.var 0) (.cons (.cst (.int 5)) (.cons (.cst (.int 6)) .nil)))))) (.seq (.asg 7 false (.lst (.cons (.call "_law_error" (.cons (.cst (.int 0)) (.cons (.var 9) (.cons (.var 11) (.cons (.cst (.int 0)) .nil))))) (.cons (.call "_law_error" (.cons (.cst (.int 1)) (.cons (.var 9) (.cons (.var 10) (.cons (.var 5) .nil))))) .nil)))) (.seq (.asg 7 false (.bin .add (.var 7) (.lst (.cons (.call "_law_error" (.cons (.cst (.int 2)) (.cons (.var 9) (.cons (.var 11) (.cons (.var 6) .nil))))) .nil)))) (.seq (.asg 7 false (.bin .add (.var 7) (.lst (.cons (.call "_law_error" (.cons (.cst (.int 1)) (.cons (.var 1) (.cons (.var 10) (.cons (.var 5) .nil))))) (.cons (.call "_law_error" (.cons (.cst (.int 1)) (.cons (.var 1) (.cons (.var 12) (.cons (.var 5) .nil))))) .nil))))) (.seq (.asg 7 false (.bin .add (.var 7) (.lst (.cons (.call "_law_error" (.cons (.cst (.int 2)) (.cons (.var 1) (.cons (.var 11) (.cons (.var 6) .nil))))) .nil)))) (.seq (.ret (.cmp .eq (.bin .add (.var 7) (.lst (.cons (.call "_law_error" (.cons (.cst (.int 2)) (.cons (.var 1) (.cons (.var 8) (.cons (.var 6) .nil))))) .nil))) (.lst (.cons (.cst (.int 0)) (.cons (.cst (.int 0)) (.cons (.cst (.int 0)) (.cons (.cst (.int 1)) (.cons (.cst (.int 2)) (.cons (.cst (.int 3)) (.cons (.cst (.int 4)) .nil)))))))))) .skip))))))))))))))))
def d_is_int : DT := ⟨"is_int", top 13, ["value", "least", "most"], ["value", "least", "most"], b_is_int⟩
def d_is_score : DT := ⟨"is_score", top 14, ["value", "goals"], ["value"], b_is_score⟩
def d_is_rising : DT := ⟨"is_rising", top 15, ["values", "one", "other"], ["values"], b_is_rising⟩
def d_is_season : DT := ⟨"is_season", top 16, ["candidate", "many", "legs", "scores", "score"], ["candidate"], b_is_season⟩
def d_check_season : DT := ⟨"check_season", top 17, ["value"], ["value"], b_check_season⟩
def d_find_sides : DT := ⟨"find_sides", top 18, ["season"], ["season"], b_find_sides⟩
def d_find_matches : DT := ⟨"find_matches", top 19, ["season", "found", "number", "one", "other"], ["season"], b_find_matches⟩
def d_has_results : DT := ⟨"has_results", top 20, ["season", "value", "score"], ["season", "value"], b_has_results⟩
def d_check_results : DT := ⟨"check_results", top 21, ["season", "value"], ["season", "value"], b_check_results⟩
def d_has_breaks : DT := ⟨"has_breaks", top 36, ["value", "word"], ["value"], b_has_breaks⟩
def d_is_book : DT := ⟨"is_book", top 37, ["candidate", "win", "draw", "breaks", "mode", "end"], ["candidate"], b_is_book⟩
def d_check_book : DT := ⟨"check_book", top 38, ["value"], ["value"], b_check_book⟩
def d_played : DT := ⟨"played", top 39, ["season", "results", "match", "score"], ["season", "results"], b_played⟩
def d_own_and_other : DT := ⟨"own_and_other", top 40, ["row", "side", "match", "score"], ["row", "side"], b_own_and_other⟩
def d_points_in : DT := ⟨"points_in", top 41, ["book", "rows", "side", "found", "row", "own", "other"], ["book", "rows", "side"], b_points_in⟩
def d_difference_in : DT := ⟨"difference_in", top 42, ["rows", "side", "found", "row", "own", "other"], ["rows", "side"], b_difference_in⟩
def d_goals_in : DT := ⟨"goals_in", top 43, ["rows", "side", "row"], ["rows", "side"], b_goals_in⟩
def d_count_for : DT := ⟨"count_for", top 44, ["book", "rows", "group", "word", "side", "among", "own", "row", "pair", "match", "score"], ["book", "rows", "group", "word", "side"], b_count_for⟩
def d_check_all : DT := ⟨"check_all", top 45, ["season", "book", "results"], ["season", "book", "results"], b_check_all⟩
def d_has_group : DT := ⟨"has_group", top 46, ["season", "value", "side"], ["season", "value"], b_has_group⟩
def d_divided : DT := ⟨"divided", top 48, ["group", "numbers", "found", "number", "side", "one"], ["group", "numbers"], b_divided⟩
def d_asked : DT := ⟨"asked", top 49, ["book", "rows", "group", "number", "parts", "found", "part", "side"], ["book", "rows", "group", "number"], b_asked⟩
def d_ranked : DT := ⟨"ranked", top 50, ["season", "book", "rows", "sides", "found", "group", "side"], ["season", "book", "rows"], b_ranked⟩
def d_find_table : DT := ⟨"find_table", top 51, ["season", "book", "results"], ["season", "book", "results"], b_find_table⟩
def d_table_of : DT := ⟨"table_of", top 52, ["season", "book", "results"], ["season", "book", "results"], b_table_of⟩
def d_has_table : DT := ⟨"has_table", top 53, ["season", "value", "group"], ["season", "value"], b_has_table⟩
def d_is_table : DT := ⟨"is_table", top 54, ["season", "candidate"], ["season", "candidate"], b_is_table⟩
def d_check_table : DT := ⟨"check_table", top 55, ["season", "value"], ["season", "value"], b_check_table⟩
def d_check_side : DT := ⟨"check_side", top 56, ["season", "value"], ["season", "value"], b_check_side⟩
def d_find_place : DT := ⟨"find_place", top 57, ["table", "side", "found", "group"], ["table", "side"], b_find_place⟩
def d_place_in : DT := ⟨"place_in", top 58, ["season", "table", "side"], ["season", "table", "side"], b_place_in⟩
def d__law_drawn : DT := ⟨"_law_drawn", top 60, ["_law_script", "_law_k", "_law_many", "_law_cell", "_law_turn", "_law_rest"], ["_law_script", "_law_k", "_law_many"], b__law_drawn⟩
def d__law_season : DT := ⟨"_law_season", top 61, ["_law_script", "_law_at", "_law_most", "_law_known", "_law_scores", "_law_k", "_law_many", "_law_legs", "_law_count_here", "_law_size"], ["_law_script", "_law_at", "_law_most"], b__law_season⟩
def d__law_book : DT := ⟨"_law_book", top 62, ["_law_script", "_law_at", "_law_k", "_law_win", "_law_draw", "_law_mode", "_law_words", "_law_found"], ["_law_script", "_law_at"], b__law_book⟩
def d__law_matches : DT := ⟨"_law_matches", top 63, ["_law_season_here", "_law_one", "_law_sides", "_law_found", "_law_other"], ["_law_season_here"], b__law_matches⟩
def d__law_results : DT := ⟨"_law_results", top 64, ["_law_script", "_law_at", "_law_season_here", "_law_scores", "_law_k"], ["_law_script", "_law_at", "_law_season_here"], b__law_results⟩
def d__law_own : DT := ⟨"_law_own", top 65, ["_law_season_here", "_law_results_here", "_law_side", "_law_found", "_law_match", "_law_score"], ["_law_season_here", "_law_results_here", "_law_side"], b__law_own⟩
def d__law_count : DT := ⟨"_law_count", top 66, ["_law_book_here", "_law_own_here", "_law_group", "_law_word", "_law_wins", "_law_level", "_law_row"], ["_law_book_here", "_law_own_here", "_law_group", "_law_word"], b__law_count⟩
def d__law_split : DT := ⟨"_law_split", top 67, ["_law_book_here", "_law_known", "_law_group", "_law_word", "_law_found", "_law_side", "_law_number"], ["_law_book_here", "_law_known", "_law_group", "_law_word"], b__law_split⟩
def d__law_table : DT := ⟨"_law_table", top 68, ["_law_season_here", "_law_book_here", "_law_results_here", "_law_known", "_law_found", "_law_left", "_law_group", "_law_number", "_law_parts", "_law_side", "_law_part"], ["_law_season_here", "_law_book_here", "_law_results_here"], b__law_table⟩
def d__law_place : DT := ⟨"_law_place", top 69, ["_law_table_here", "_law_side", "_law_spot", "_law_k", "_law_group"], ["_law_table_here", "_law_side"], b__law_place⟩
def d__law_badseason : DT := ⟨"_law_badseason", top 70, ["_law_script", "_law_at", "_law_one", "_law_bad"], ["_law_script", "_law_at"], b__law_badseason⟩
def d__law_badbook : DT := ⟨"_law_badbook", top 71, ["_law_script", "_law_at", "_law_bad"], ["_law_script", "_law_at"], b__law_badbook⟩
def d__law_error : DT := ⟨"_law_error", top 72, ["_law_way", "_law_one", "_law_two", "_law_three", "e", "_law_flags"], ["_law_way", "_law_one", "_law_two", "_law_three"], b__law_error⟩
def d__law_fixed : DT := ⟨"_law_fixed", top 73, ["_law_books", "_law_due", "_law_season_here", "_law_results_here", "_law_mode", "_law_book_here"], [], b__law_fixed⟩
def d_law : DT := ⟨"law", top 74, ["_law_script", "_law_season_here", "_law_sides", "_law_k", "_law_bad", "_law_lost", "_law_side", "_law_told", "_law_table_here", "_law_odd", "_law_wrong", "_law_false", "_law_book_here", "_law_results_here", "_law_one"], ["_law_script"], b_law⟩
def T : List DT := [d_is_int, d_is_score, d_is_rising, d_is_season, d_check_season, d_find_sides, d_find_matches, d_has_results, d_check_results, d_has_breaks, d_is_book, d_check_book, d_played, d_own_and_other, d_points_in, d_difference_in, d_goals_in, d_count_for, d_check_all, d_has_group, d_divided, d_asked, d_ranked, d_find_table, d_table_of, d_has_table, d_is_table, d_check_table, d_check_side, d_find_place, d_place_in, d__law_drawn, d__law_season, d__law_book, d__law_matches, d__law_results, d__law_own, d__law_count, d__law_split, d__law_table, d__law_place, d__law_badseason, d__law_badbook, d__law_error, d__law_fixed, d_law]
def globs : List Str := ["ANEW", "AWAY", "DIFFERENCE", "DIRECT", "DRAWN", "GOALS", "LETTERS", "MAX_BREAKS", "MAX_GOALS", "MAX_SCORES", "MAX_SIDES", "MAX_TWICE", "MAX_WIN", "ONCE", "SHARED", "WINS", "WORDS"]
def gl : List (Str × PyData) := [("ANEW", .str "anew"), ("AWAY", .str "away"), ("DIFFERENCE", .str "difference"), ("DIRECT", .str "direct"), ("DRAWN", .str "drawn"), ("GOALS", .str "goals"), ("LETTERS", .str "abcd"), ("MAX_BREAKS", .int 4), ("MAX_GOALS", .int 3), ("MAX_SCORES", .int 4), ("MAX_SIDES", .int 4), ("MAX_TWICE", .int 3), ("MAX_WIN", .int 3), ("ONCE", .str "once"), ("SHARED", .str "shared"), ("WINS", .str "wins"), ("WORDS", .tuple [.str "goals", .str "difference", .str "wins", .str "away", .str "direct", .str "directdiff"])]
def free : List Str := ["all", "bool", "dict", "enumerate", "int", "isinstance", "len", "list", "min", "range", "set", "sorted", "str", "sum", "tuple", "zip"]
def excs : List Str := ["TableError", "InvalidSeason", "InvalidBook", "InvalidResults", "InvalidTable", "InvalidSide"]
def supers : List (Str × List Str) := [("TableError", ["TableError"]), ("InvalidSeason", ["InvalidSeason", "TableError"]), ("InvalidBook", ["InvalidBook", "TableError"]), ("InvalidResults", ["InvalidResults", "TableError"]), ("InvalidTable", ["InvalidTable", "TableError"]), ("InvalidSide", ["InvalidSide", "TableError"])]
theorem binds : ∀ d ∈ T, BindP d := by
  intro d hd
  simp only [T, List.mem_cons, List.not_mem_nil, or_false] at hd
  rcases hd with rfl | rfl | rfl | rfl | rfl | rfl | rfl | rfl | rfl | rfl | rfl | rfl | rfl | rfl | rfl | rfl | rfl | rfl | rfl | rfl | rfl | rfl | rfl | rfl | rfl | rfl | rfl | rfl | rfl | rfl | rfl | rfl | rfl | rfl | rfl | rfl | rfl | rfl | rfl | rfl | rfl | rfl | rfl | rfl | rfl | rfl
  · exact fun _ _ _ _ _ _ us hl => match us, hl with | [_, _, _], _ => rfl
  · exact fun _ _ _ _ _ _ us hl => match us, hl with | [_], _ => rfl
  · exact fun _ _ _ _ _ _ us hl => match us, hl with | [_], _ => rfl
  · exact fun _ _ _ _ _ _ us hl => match us, hl with | [_], _ => rfl
  · exact fun _ _ _ _ _ _ us hl => match us, hl with | [_], _ => rfl
  · exact fun _ _ _ _ _ _ us hl => match us, hl with | [_], _ => rfl
  · exact fun _ _ _ _ _ _ us hl => match us, hl with | [_], _ => rfl
  · exact fun _ _ _ _ _ _ us hl => match us, hl with | [_, _], _ => rfl
  · exact fun _ _ _ _ _ _ us hl => match us, hl with | [_, _], _ => rfl
  · exact fun _ _ _ _ _ _ us hl => match us, hl with | [_], _ => rfl
  · exact fun _ _ _ _ _ _ us hl => match us, hl with | [_], _ => rfl
  · exact fun _ _ _ _ _ _ us hl => match us, hl with | [_], _ => rfl
  · exact fun _ _ _ _ _ _ us hl => match us, hl with | [_, _], _ => rfl
  · exact fun _ _ _ _ _ _ us hl => match us, hl with | [_, _], _ => rfl
  · exact fun _ _ _ _ _ _ us hl => match us, hl with | [_, _, _], _ => rfl
  · exact fun _ _ _ _ _ _ us hl => match us, hl with | [_, _], _ => rfl
  · exact fun _ _ _ _ _ _ us hl => match us, hl with | [_, _], _ => rfl
  · exact fun _ _ _ _ _ _ us hl => match us, hl with | [_, _, _, _, _], _ => rfl
  · exact fun _ _ _ _ _ _ us hl => match us, hl with | [_, _, _], _ => rfl
  · exact fun _ _ _ _ _ _ us hl => match us, hl with | [_, _], _ => rfl
  · exact fun _ _ _ _ _ _ us hl => match us, hl with | [_, _], _ => rfl
  · exact fun _ _ _ _ _ _ us hl => match us, hl with | [_, _, _, _], _ => rfl
  · exact fun _ _ _ _ _ _ us hl => match us, hl with | [_, _, _], _ => rfl
  · exact fun _ _ _ _ _ _ us hl => match us, hl with | [_, _, _], _ => rfl
  · exact fun _ _ _ _ _ _ us hl => match us, hl with | [_, _, _], _ => rfl
  · exact fun _ _ _ _ _ _ us hl => match us, hl with | [_, _], _ => rfl
  · exact fun _ _ _ _ _ _ us hl => match us, hl with | [_, _], _ => rfl
  · exact fun _ _ _ _ _ _ us hl => match us, hl with | [_, _], _ => rfl
  · exact fun _ _ _ _ _ _ us hl => match us, hl with | [_, _], _ => rfl
  · exact fun _ _ _ _ _ _ us hl => match us, hl with | [_, _], _ => rfl
  · exact fun _ _ _ _ _ _ us hl => match us, hl with | [_, _, _], _ => rfl
  · exact fun _ _ _ _ _ _ us hl => match us, hl with | [_, _, _], _ => rfl
  · exact fun _ _ _ _ _ _ us hl => match us, hl with | [_, _, _], _ => rfl
  · exact fun _ _ _ _ _ _ us hl => match us, hl with | [_, _], _ => rfl
  · exact fun _ _ _ _ _ _ us hl => match us, hl with | [_], _ => rfl
  · exact fun _ _ _ _ _ _ us hl => match us, hl with | [_, _, _], _ => rfl
  · exact fun _ _ _ _ _ _ us hl => match us, hl with | [_, _, _], _ => rfl
  · exact fun _ _ _ _ _ _ us hl => match us, hl with | [_, _, _, _], _ => rfl
  · exact fun _ _ _ _ _ _ us hl => match us, hl with | [_, _, _, _], _ => rfl
  · exact fun _ _ _ _ _ _ us hl => match us, hl with | [_, _, _], _ => rfl
  · exact fun _ _ _ _ _ _ us hl => match us, hl with | [_, _], _ => rfl
  · exact fun _ _ _ _ _ _ us hl => match us, hl with | [_, _], _ => rfl
  · exact fun _ _ _ _ _ _ us hl => match us, hl with | [_, _], _ => rfl
  · exact fun _ _ _ _ _ _ us hl => match us, hl with | [_, _, _, _], _ => rfl
  · exact fun _ _ _ _ _ _ us hl => match us, hl with | [], _ => rfl
  · exact fun _ _ _ _ _ _ us hl => match us, hl with | [_], _ => rfl
end K05
namespace K05
open Rf
theorem ok_is_int : okD (arT T) globs free excs d_is_int = true := by decide +kernel
theorem ok_is_score : okD (arT T) globs free excs d_is_score = true := by decide +kernel
theorem ok_is_rising : okD (arT T) globs free excs d_is_rising = true := by decide +kernel
theorem ok_is_season : okD (arT T) globs free excs d_is_season = true := by decide +kernel
theorem ok_check_season : okD (arT T) globs free excs d_check_season = true := by decide +kernel
theorem ok_find_sides : okD (arT T) globs free excs d_find_sides = true := by decide +kernel
theorem ok_find_matches : okD (arT T) globs free excs d_find_matches = true := by decide +kernel
theorem ok_has_results : okD (arT T) globs free excs d_has_results = true := by decide +kernel
theorem ok_check_results : okD (arT T) globs free excs d_check_results = true := by decide +kernel
theorem ok_has_breaks : okD (arT T) globs free excs d_has_breaks = true := by decide +kernel
theorem ok_is_book : okD (arT T) globs free excs d_is_book = true := by decide +kernel
theorem ok_check_book : okD (arT T) globs free excs d_check_book = true := by decide +kernel
theorem ok_played : okD (arT T) globs free excs d_played = true := by decide +kernel
theorem ok_own_and_other : okD (arT T) globs free excs d_own_and_other = true := by decide +kernel
theorem ok_points_in : okD (arT T) globs free excs d_points_in = true := by decide +kernel
theorem ok_difference_in : okD (arT T) globs free excs d_difference_in = true := by decide +kernel
theorem ok_goals_in : okD (arT T) globs free excs d_goals_in = true := by decide +kernel
theorem ok_count_for : okD (arT T) globs free excs d_count_for = true := by decide +kernel
theorem ok_check_all : okD (arT T) globs free excs d_check_all = true := by decide +kernel
theorem ok_has_group : okD (arT T) globs free excs d_has_group = true := by decide +kernel
theorem ok_divided : okD (arT T) globs free excs d_divided = true := by decide +kernel
theorem ok_asked : okD (arT T) globs free excs d_asked = true := by decide +kernel
theorem ok_ranked : okD (arT T) globs free excs d_ranked = true := by decide +kernel
theorem ok_find_table : okD (arT T) globs free excs d_find_table = true := by decide +kernel
theorem ok_table_of : okD (arT T) globs free excs d_table_of = true := by decide +kernel
theorem ok_has_table : okD (arT T) globs free excs d_has_table = true := by decide +kernel
theorem ok_is_table : okD (arT T) globs free excs d_is_table = true := by decide +kernel
theorem ok_check_table : okD (arT T) globs free excs d_check_table = true := by decide +kernel
theorem ok_check_side : okD (arT T) globs free excs d_check_side = true := by decide +kernel
theorem ok_find_place : okD (arT T) globs free excs d_find_place = true := by decide +kernel
theorem ok_place_in : okD (arT T) globs free excs d_place_in = true := by decide +kernel
theorem ok__law_drawn : okD (arT T) globs free excs d__law_drawn = true := by decide +kernel
theorem ok__law_season : okD (arT T) globs free excs d__law_season = true := by decide +kernel
theorem ok__law_book : okD (arT T) globs free excs d__law_book = true := by decide +kernel
theorem ok__law_matches : okD (arT T) globs free excs d__law_matches = true := by decide +kernel
theorem ok__law_results : okD (arT T) globs free excs d__law_results = true := by decide +kernel
theorem ok__law_own : okD (arT T) globs free excs d__law_own = true := by decide +kernel
theorem ok__law_count : okD (arT T) globs free excs d__law_count = true := by decide +kernel
theorem ok__law_split : okD (arT T) globs free excs d__law_split = true := by decide +kernel
theorem ok__law_table : okD (arT T) globs free excs d__law_table = true := by decide +kernel
theorem ok__law_place : okD (arT T) globs free excs d__law_place = true := by decide +kernel
theorem ok__law_badseason : okD (arT T) globs free excs d__law_badseason = true := by decide +kernel
theorem ok__law_badbook : okD (arT T) globs free excs d__law_badbook = true := by decide +kernel
theorem ok__law_error : okD (arT T) globs free excs d__law_error = true := by decide +kernel
theorem ok__law_fixed : okD (arT T) globs free excs d__law_fixed = true := by decide +kernel
theorem ok_law : okD (arT T) globs free excs d_law = true := by decide +kernel
end K05

set_option Elab.async false
set_option linter.all false
set_option maxHeartbeats 1000000
/-! Rf, part X: the evaluator's steps as rewriting rules. Plain Lean. -/
namespace Rf
open PySem
section
variable {i j : Int} {d e : D} {ds es : List D} {b : Bool} {t : Bool} {x : Option (Bool × D)} {xs : Env} {n : Nat}
@[simp] theorem getV_z (o : Bool) (h : (t || !o) = true) : getV t (some (o, d) :: xs) 0 = .ok d := by unfold getV; simp [h, R.chk]
@[simp] theorem getV_s : getV t (x :: xs) (n + 1) = getV t xs n := by unfold getV; simp
@[simp] theorem binD_addI : binD .add (.int i) (.int j) = .ok (.int (i + j)) := rfl
@[simp] theorem binD_subI : binD .sub (.int i) (.int j) = .ok (.int (i - j)) := rfl
@[simp] theorem binD_mulI (h : mulOk i j = true) : binD .mul (.int i) (.int j) = .ok (.int (i * j)) := by show R.chk (mulOk i j) _ = _; rw [h]; rfl
@[simp] theorem binD_fdivI (h : 0 < j) (h2 : j < 2 ^ 200) : binD .fdiv (.int i) (.int j) = .ok (.int (i / j)) := by show R.chk (decide (0 < j) && decide (j < 2 ^ 200)) _ = _; rw [decide_eq_true h, decide_eq_true h2]; rfl
@[simp] theorem binD_modI (h : 0 < j) : binD .mod (.int i) (.int j) = .ok (.int (i % j)) := by show R.chk (decide (0 < j)) _ = _; rw [decide_eq_true h]; rfl
@[simp] theorem binD_powI (h : 0 ≤ j) (h2 : j ≤ 1000000) (h3 : i.natAbs < 2 ^ 64) : binD .pow (.int i) (.int j) = .ok (.int (i ^ j.toNat)) := by show R.chk (decide (0 ≤ j) && decide (j ≤ 1000000) && decide (i.natAbs < 2 ^ 64)) _ = _; rw [decide_eq_true h, decide_eq_true h2, decide_eq_true h3]; rfl
@[simp] theorem binD_addL (h : ds.length + es.length ≤ lineN) : binD .add (.list ds) (.list es) = .ok (.list (ds ++ es)) := by show R.chk (decide (ds.length + es.length ≤ lineN)) _ = _; rw [decide_eq_true h]; rfl
@[simp] theorem binD_addT (h : ds.length + es.length ≤ lineN) : binD .add (.tuple ds) (.tuple es) = .ok (.tuple (ds ++ es)) := by show R.chk (decide (ds.length + es.length ≤ lineN)) _ = _; rw [decide_eq_true h]; rfl
@[simp] theorem binD_addS {a b : Str} (h : a.length + b.length ≤ lineN) : binD .add (.str a) (.str b) = .ok (.str (a ++ b)) := by show R.chk (decide (a.length + b.length ≤ lineN)) _ = _; rw [decide_eq_true h]; rfl
@[simp] theorem cmpB_lt : cmpB .lt (.int i) (.int j) = .ok (decide (i < j)) := rfl
@[simp] theorem cmpB_le : cmpB .le (.int i) (.int j) = .ok (decide (i ≤ j)) := rfl
@[simp] theorem cmpB_gt : cmpB .gt (.int i) (.int j) = .ok (decide (j < i)) := rfl
@[simp] theorem cmpB_ge : cmpB .ge (.int i) (.int j) = .ok (decide (j ≤ i)) := rfl
@[simp] theorem cmpB_ltT (h : PySem.W.alike (.tuple ds) (.tuple es) = true) (h2 : (PyData.tuple ds).depth ≤ 60) (h3 : nodic (.tuple ds) = true) (h4 : nodic (.tuple es) = true) : cmpB .lt (.tuple ds) (.tuple es) = .ok (PySem.W.dataLt (.tuple ds) (.tuple es)) := by show ordT _ _ _ = _; unfold ordT; rw [h, h3, h4, decide_eq_true h2]; rfl
@[simp] theorem cmpB_eq : cmpB .eq d e = eqD d e := by cases d <;> cases e <;> rfl
@[simp] theorem cmpB_ne : cmpB .ne d e = (eqD d e).bind fun b => .ok (!b) := by cases d <;> cases e <;> rfl
@[simp] theorem cmpB_in : cmpB .isin d e = inD d e := by cases d <;> cases e <;> rfl
@[simp] theorem cmpB_notin : cmpB .notin d e = (inD d e).bind fun b => .ok (!b) := by cases d <;> cases e <;> rfl
@[simp] theorem cmpB_isN : cmpB .is d .none = .ok (isNone d) := by cases d <;> rfl
@[simp] theorem cmpB_isnotN : cmpB .isnot d .none = .ok (!isNone d) := by cases d <;> rfl
@[simp] theorem cmpB_isB {a b : Bool} : cmpB .is (.bool a) (.bool b) = .ok (decide (a = b)) := rfl
@[simp] theorem cmpB_isnotB {a b : Bool} : cmpB .isnot (.bool a) (.bool b) = .ok (!decide (a = b)) := rfl
@[simp] theorem cmpD_eq (o : Cop) : cmpD o d e = (cmpB o d e).bind fun b => .ok (.bool b) := rfl
@[simp] theorem toBool_b : Rf.toBool (.bool b) = .ok b := rfl
@[simp] theorem eqD_ok2 (h : shp d = true) (h2 : shp e = true) : eqD d e = .ok (PyData.eqv d e) := by unfold eqD; rw [h, h2]; rfl
@[simp] theorem biD_int : biD .int [.int i] = .ok (.int i) := rfl
@[simp] theorem biD_lenL : biD .len [.list ds] = .ok (.int ds.length) := rfl
@[simp] theorem biD_lenT : biD .len [.tuple ds] = .ok (.int ds.length) := rfl
@[simp] theorem biD_lenS {z : Str} (h : z.length ≤ lineN) : biD .len [.str z] = .ok (.int z.length) := by show R.chk (decide (z.length ≤ lineN)) _ = _; rw [decide_eq_true h]; rfl
@[simp] theorem biD_listL : biD .list [.list ds] = .ok (.list ds) := rfl
@[simp] theorem biD_listT : biD .list [.tuple ds] = .ok (.list ds) := rfl
@[simp] theorem biD_tupleL : biD .tuple [.list ds] = .ok (.tuple ds) := rfl
@[simp] theorem biD_tupleT : biD .tuple [.tuple ds] = .ok (.tuple ds) := rfl
@[simp] theorem biD_isInt : biD .isInt [d] = isq (isIntD d) d := rfl
@[simp] theorem biD_isBool : biD .isBool [d] = isq (isBoolD d) d := rfl
@[simp] theorem biD_isTuple : biD .isTuple [d] = isq (isTupleD d) d := rfl
@[simp] theorem biD_isList : biD .isList [d] = isq (isListD d) d := rfl
@[simp] theorem biD_isStr : biD .isStr [d] = isq (isStrD d) d := rfl
@[simp] theorem isq_int {k : Bool} : isq k (.int i) = .ok (.bool k) := rfl
@[simp] theorem isq_str {k : Bool} {z : Str} : isq k (.str z) = .ok (.bool k) := rfl
@[simp] theorem isq_list {k : Bool} : isq k (.list ds) = .ok (.bool k) := rfl
@[simp] theorem isq_tuple {k : Bool} : isq k (.tuple ds) = .ok (.bool k) := rfl
@[simp] theorem isq_none {k : Bool} : isq k .none = .ok (.bool k) := rfl
@[simp] theorem isq_bool {k b : Bool} : isq k (.bool b) = .ok (.bool k) := rfl
@[simp] theorem items_K_l : itemsK (.list ds) = .ok ds := rfl
@[simp] theorem items_K_t : itemsK (.tuple ds) = .ok ds := rfl
@[simp] theorem biD_all : biD .all [.list ds] = (boolsOf ds).bind fun bs => .ok (.bool (bs.all id)) := rfl
@[simp] theorem biD_sum : biD .sum [.list ds] = (intsOf ds).bind fun is => .ok (.int is.sum) := rfl
@[simp] theorem biD_sorted : biD .sorted [.list ds] = sortD false ds := rfl
@[simp] theorem biD_lenset : biD .lenset [d] = lenSetD d := by cases d <;> rfl
@[simp] theorem putO_f {env : Env} : putO env n false d = .nx (env.set n (some (false, d))) := by unfold putO; rfl
@[simp] theorem putO_t {env : Env} : putO env n true (.list ds) = .nx (env.set n (some (true, .list ds))) := rfl
@[simp] theorem items_l : items (.list ds) = .ok ds := rfl
@[simp] theorem items_t : items (.tuple ds) = .ok ds := rfl
@[simp] theorem turn_nx {env : Env} {f : Env → SR} : (SR.nx env).turn f = f env := rfl
@[simp] theorem turn_rt {f : Env → SR} : (SR.rt d).turn f = .rt d := rfl
@[simp] theorem turn_exc {c : Str} {env : Env} {f : Env → SR} : (SR.exc c env).turn f = .exc c env := rfl
@[simp] theorem fin_rt : (SR.rt d).fin = .ok d := rfl
@[simp] theorem fin_nx {env : Env} : (SR.nx env).fin = .ok .none := rfl
@[simp] theorem fin_exc {c : Str} {env : Env} : (SR.exc c env).fin = .exc c := rfl
@[simp] theorem line_ok {n : Nat} (h : n ≤ 1000000) : n ≤ lineN := Nat.le_trans h (by decide)
end
end Rf

set_option Elab.async false
set_option linter.all false
set_option maxRecDepth 100000
set_option maxHeartbeats 4000000
/-! Core texts, part 0: the terms of the defs that many laws share (printed by wip/mkC0.py). -/
namespace Cr
open Rf PySem
structure Tab where
  tab : Str → Option Rf.Def
  gl : Str → R PyData
  sub : Str → Str → Bool
abbrev cd (t : Tab) (n : Nat) (f : Str) (ds : List PyData) : R PyData := callD t.tab t.gl t.sub 100 n f ds
abbrev Sg (t : Tab) (n : Nat) : Sig := ⟨callD t.tab t.gl t.sub 100 n, t.gl, t.sub⟩
theorem cd_succ (t : Tab) {n : Nat} {f : Str} {ds : List PyData} {df : Rf.Def} (h : t.tab f = some df) (ha : ds.length = df.arity) : cd t (n + 1) f ds = (ex (Sg t n) 100 df.body (startE df.names ds)).fin := by
  show callD t.tab t.gl t.sub 100 (n + 1) f ds = _
  rw [callD, h]
  show R.chk (decide (ds.length = df.arity)) _ = _
  rw [decide_eq_true ha]
  rfl
def b_is_int : C := (.seq (.ret (.band (.cons (.bi .isInt (.cons (.var 0) .nil)) (.cons (.bnot (.bi .isBool (.cons (.var 0) .nil))) (.cons (.chain .le .le (.var 1) (.var 0) (.var 2)) .nil))))) .skip)
def d_is_int : Rf.Def := ⟨3, 3, b_is_int⟩
def b_is_score : C := (.seq (.ret (.band (.cons (.bi .isTuple (.cons (.var 0) .nil)) (.cons (.cmp .eq (.bi .len (.cons (.var 0) .nil)) (.cst (.int 2))) (.cons (.bi .all (.cons (.lc (.var 1) (.itm (.var 0)) .nil (.call "is_int" (.cons (.var 1) (.cons (.cst (.int 0)) (.cons (.glob "MAX_GOALS") .nil))))) .nil)) .nil))))) .skip)
def d_is_score : Rf.Def := ⟨2, 1, b_is_score⟩
def b_is_rising : C := (.seq (.ret (.bi .all (.cons (.lc (.tup (.cons (.var 1) (.cons (.var 2) .nil))) (.zip (.var 0) (.sl (.var 0) (.cons (.cst (.int 1)) .nil) .nil)) .nil (.cmp .lt (.var 1) (.var 2))) .nil))) .skip)
def d_is_rising : Rf.Def := ⟨3, 1, b_is_rising⟩
def b_is_season : C := (.seq (.iff (.bor (.cons (.bnot (.bi .isTuple (.cons (.var 0) .nil))) (.cons (.cmp .ne (.bi .len (.cons (.var 0) .nil)) (.cst (.int 3))) .nil))) (.seq (.ret (.cst (.bool false))) .skip) .skip) (.seq (.unp (.tup (.cons (.var 1) (.cons (.var 2) (.cons (.var 3) .nil)))) (.var 0)) (.seq (.iff (.bor (.cons (.bnot (.call "is_int" (.cons (.var 1) (.cons (.cst (.int 2)) (.cons (.glob "MAX_SIDES") .nil))))) (.cons (.bnot (.call "is_int" (.cons (.var 2) (.cons (.cst (.int 1)) (.cons (.cst (.int 2)) .nil))))) (.cons (.band (.cons (.cmp .eq (.var 2) (.cst (.int 2))) (.cons (.cmp .gt (.var 1) (.glob "MAX_TWICE")) .nil))) .nil)))) (.seq (.ret (.cst (.bool false))) .skip) .skip) (.seq (.iff (.bor (.cons (.bnot (.bi .isTuple (.cons (.var 3) .nil))) (.cons (.bnot (.chain .le .le (.cst (.int 1)) (.bi .len (.cons (.var 3) .nil)) (.glob "MAX_SCORES"))) .nil))) (.seq (.ret (.cst (.bool false))) .skip) .skip) (.seq (.ret (.band (.cons (.bi .all (.cons (.lc (.var 4) (.itm (.var 3)) .nil (.call "is_score" (.cons (.var 4) .nil))) .nil)) (.cons (.call "is_rising" (.cons (.var 3) .nil)) .nil)))) .skip)))))
def d_is_season : Rf.Def := ⟨5, 1, b_is_season⟩
def b_check_season : C := (.seq (.iff (.bnot (.call "is_season" (.cons (.var 0) .nil))) (.seq (.raise "InvalidSeason") .skip) .skip) .skip)
def d_check_season : Rf.Def := ⟨1, 1, b_check_season⟩
def b_find_sides : C := (.seq (.ret (.sl (.glob "LETTERS") .nil (.cons (.idx (.var 0) (.cst (.int 0))) .nil))) .skip)
def d_find_sides : Rf.Def := ⟨1, 1, b_find_sides⟩
def b_find_matches : C := (.seq (.asg 1 true (.lst .nil)) (.seq (.for_ (.tup (.cons (.var 2) (.cons (.var 3) .nil))) (.enum (.call "find_sides" (.cons (.var 0) .nil))) (.seq (.ext 1 (.lc (.var 4) (.itm (.sl (.call "find_sides" (.cons (.var 0) .nil)) (.cons (.bin .add (.var 2) (.cst (.int 1))) .nil) .nil)) .nil (.tup (.cons (.var 3) (.cons (.var 4) .nil))))) .skip)) (.seq (.iff (.cmp .eq (.idx (.var 0) (.cst (.int 1))) (.cst (.int 1))) (.fz 1 (.seq (.ret (.var 1)) .skip)) .skip) (.fz 1 (.seq (.ret (.bin .add (.var 1) (.lc (.tup (.cons (.var 3) (.cons (.var 4) .nil))) (.itm (.var 1)) .nil (.tup (.cons (.var 4) (.cons (.var 3) .nil)))))) .skip)))))
def d_find_matches : Rf.Def := ⟨5, 1, b_find_matches⟩
def b_has_results : C := (.seq (.iff (.bor (.cons (.bnot (.bi .isTuple (.cons (.var 1) .nil))) (.cons (.cmp .ne (.bi .len (.cons (.var 1) .nil)) (.bi .len (.cons (.call "find_matches" (.cons (.var 0) .nil)) .nil))) .nil))) (.seq (.ret (.cst (.bool false))) .skip) .skip) (.seq (.ret (.bi .all (.cons (.lc (.var 2) (.itm (.var 1)) .nil (.band (.cons (.call "is_score" (.cons (.var 2) .nil)) (.cons (.cmp .isin (.var 2) (.idx (.var 0) (.cst (.int 2)))) .nil)))) .nil))) .skip))
def d_has_results : Rf.Def := ⟨3, 2, b_has_results⟩
def b_check_results : C := (.seq (.iff (.bnot (.call "has_results" (.cons (.var 0) (.cons (.var 1) .nil)))) (.seq (.raise "InvalidResults") .skip) .skip) .skip)
def d_check_results : Rf.Def := ⟨2, 2, b_check_results⟩
def b_has_breaks : C := (.seq (.iff (.bor (.cons (.bnot (.bi .isTuple (.cons (.var 0) .nil))) (.cons (.cmp .gt (.bi .len (.cons (.var 0) .nil)) (.glob "MAX_BREAKS")) .nil))) (.seq (.ret (.cst (.bool false))) .skip) .skip) (.seq (.ret (.band (.cons (.bi .all (.cons (.lc (.var 1) (.itm (.var 0)) .nil (.band (.cons (.bi .isStr (.cons (.var 1) .nil)) (.cons (.cmp .isin (.var 1) (.glob "WORDS")) .nil)))) .nil)) (.cons (.cmp .eq (.bi .lenset (.cons (.var 0) .nil)) (.bi .len (.cons (.var 0) .nil))) .nil)))) .skip))
def d_has_breaks : Rf.Def := ⟨2, 1, b_has_breaks⟩
def b_is_book : C := (.seq (.iff (.bor (.cons (.bnot (.bi .isTuple (.cons (.var 0) .nil))) (.cons (.cmp .ne (.bi .len (.cons (.var 0) .nil)) (.cst (.int 5))) .nil))) (.seq (.ret (.cst (.bool false))) .skip) .skip) (.seq (.unp (.tup (.cons (.var 1) (.cons (.var 2) (.cons (.var 3) (.cons (.var 4) (.cons (.var 5) .nil)))))) (.var 0)) (.seq (.iff (.bor (.cons (.bnot (.call "is_int" (.cons (.var 1) (.cons (.cst (.int 1)) (.cons (.glob "MAX_WIN") .nil))))) (.cons (.bnot (.call "is_int" (.cons (.var 2) (.cons (.cst (.int 0)) (.cons (.var 1) .nil))))) (.cons (.bnot (.call "has_breaks" (.cons (.var 3) .nil))) .nil)))) (.seq (.ret (.cst (.bool false))) .skip) .skip) (.seq (.iff (.bor (.cons (.bnot (.bi .isStr (.cons (.var 4) .nil))) (.cons (.bnot (.bi .isStr (.cons (.var 5) .nil))) .nil))) (.seq (.ret (.cst (.bool false))) .skip) .skip) (.seq (.ret (.band (.cons (.cmp .isin (.var 4) (.tup (.cons (.glob "ANEW") (.cons (.glob "ONCE") .nil)))) (.cons (.cmp .isin (.var 5) (.tup (.cons (.glob "SHARED") (.cons (.glob "DRAWN") .nil)))) .nil)))) .skip)))))
def d_is_book : Rf.Def := ⟨6, 1, b_is_book⟩
def b_check_book : C := (.seq (.iff (.bnot (.call "is_book" (.cons (.var 0) .nil))) (.seq (.raise "InvalidBook") .skip) .skip) .skip)
def d_check_book : Rf.Def := ⟨1, 1, b_check_book⟩
def b_played : C := (.seq (.ret (.lc (.tup (.cons (.var 2) (.cons (.var 3) .nil))) (.zip (.call "find_matches" (.cons (.var 0) .nil)) (.var 1)) (.cons (.cmp .isnot (.var 3) (.cst .none)) .nil) (.tup (.cons (.var 2) (.cons (.var 3) .nil))))) .skip)
def d_played : Rf.Def := ⟨4, 2, b_played⟩
def b_own_and_other : C := (.seq (.unp (.tup (.cons (.var 2) (.cons (.var 3) .nil))) (.var 0)) (.seq (.ret (.ife (.cmp .eq (.idx (.var 2) (.cst (.int 0))) (.var 1)) (.var 3) (.tup (.cons (.idx (.var 3) (.cst (.int 1))) (.cons (.idx (.var 3) (.cst (.int 0))) .nil))))) .skip))
def d_own_and_other : Rf.Def := ⟨4, 2, b_own_and_other⟩
def b_points_in : C := (.seq (.asg 3 false (.cst (.int 0))) (.seq (.for_ (.var 4) (.itm (.var 1)) (.seq (.iff (.cmp .isin (.var 2) (.idx (.var 4) (.cst (.int 0)))) (.seq (.unp (.tup (.cons (.var 5) (.cons (.var 6) .nil))) (.call "own_and_other" (.cons (.var 4) (.cons (.var 2) .nil)))) (.seq (.asg 3 false (.bin .add (.var 3) (.ife (.cmp .gt (.var 5) (.var 6)) (.idx (.var 0) (.cst (.int 0))) (.ife (.cmp .eq (.var 5) (.var 6)) (.idx (.var 0) (.cst (.int 1))) (.cst (.int 0)))))) .skip)) .skip) .skip)) (.seq (.ret (.var 3)) .skip)))
def d_points_in : Rf.Def := ⟨7, 3, b_points_in⟩
def b_difference_in : C := (.seq (.asg 2 false (.cst (.int 0))) (.seq (.for_ (.var 3) (.itm (.var 0)) (.seq (.iff (.cmp .isin (.var 1) (.idx (.var 3) (.cst (.int 0)))) (.seq (.unp (.tup (.cons (.var 4) (.cons (.var 5) .nil))) (.call "own_and_other" (.cons (.var 3) (.cons (.var 1) .nil)))) (.seq (.asg 2 false (.bin .sub (.bin .add (.var 2) (.var 4)) (.var 5))) .skip)) .skip) .skip)) (.seq (.ret (.var 2)) .skip)))
def d_difference_in : Rf.Def := ⟨6, 2, b_difference_in⟩
def b_goals_in : C := (.seq (.ret (.bi .sum (.cons (.lc (.var 2) (.itm (.var 0)) (.cons (.cmp .isin (.var 1) (.idx (.var 2) (.cst (.int 0)))) .nil) (.idx (.call "own_and_other" (.cons (.var 2) (.cons (.var 1) .nil))) (.cst (.int 0)))) .nil))) .skip)
def d_goals_in : Rf.Def := ⟨3, 2, b_goals_in⟩
def b_count_for : C := (.seq (.iff (.cmp .eq (.var 3) (.glob "GOALS")) (.seq (.ret (.call "goals_in" (.cons (.var 1) (.cons (.var 4) .nil)))) .skip) .skip) (.seq (.iff (.cmp .eq (.var 3) (.glob "DIFFERENCE")) (.seq (.ret (.call "difference_in" (.cons (.var 1) (.cons (.var 4) .nil)))) .skip) .skip) (.seq (.iff (.cmp .eq (.var 3) (.glob "AWAY")) (.seq (.ret (.bi .sum (.cons (.lc (.tup (.cons (.var 9) (.cons (.var 10) .nil))) (.itm (.var 1)) (.cons (.cmp .eq (.idx (.var 9) (.cst (.int 1))) (.var 4)) .nil) (.idx (.var 10) (.cst (.int 1)))) .nil))) .skip) .skip) (.seq (.iff (.cmp .eq (.var 3) (.glob "WINS")) (.seq (.asg 6 false (.lc (.var 7) (.itm (.var 1)) (.cons (.cmp .isin (.var 4) (.idx (.var 7) (.cst (.int 0)))) .nil) (.call "own_and_other" (.cons (.var 7) (.cons (.var 4) .nil))))) (.seq (.ret (.bi .len (.cons (.lc (.var 8) (.itm (.var 6)) (.cons (.cmp .gt (.idx (.var 8) (.cst (.int 0))) (.idx (.var 8) (.cst (.int 1)))) .nil) (.var 8)) .nil))) .skip)) .skip) (.seq (.asg 5 false (.lc (.var 7) (.itm (.var 1)) (.cons (.band (.cons (.cmp .isin (.idx (.idx (.var 7) (.cst (.int 0))) (.cst (.int 0))) (.var 2)) (.cons (.cmp .isin (.idx (.idx (.var 7) (.cst (.int 0))) (.cst (.int 1))) (.var 2)) .nil))) .nil) (.var 7))) (.seq (.ret (.ife (.cmp .eq (.var 3) (.glob "DIRECT")) (.call "points_in" (.cons (.var 0) (.cons (.var 5) (.cons (.var 4) .nil)))) (.call "difference_in" (.cons (.var 5) (.cons (.var 4) .nil))))) .skip))))))
def d_count_for : Rf.Def := ⟨11, 5, b_count_for⟩
def b_divided : C := (.seq (.asg 2 true (.lst .nil)) (.seq (.for_ (.var 3) (.itm (.rev (.bi .sortset (.cons (.var 1) .nil)))) (.seq (.app 2 (.bi .join (.cons (.cst (.str "")) (.cons (.lc (.tup (.cons (.var 4) (.cons (.var 5) .nil))) (.zip (.var 0) (.var 1)) (.cons (.cmp .eq (.var 5) (.var 3)) .nil) (.var 4)) .nil)))) .skip)) (.fz 2 (.seq (.ret (.var 2)) .skip))))
def d_divided : Rf.Def := ⟨6, 2, b_divided⟩
def b_asked : C := (.seq (.iff (.cmp .eq (.bi .len (.cons (.var 2) .nil)) (.cst (.int 1))) (.seq (.ret (.lst (.cons (.var 2) .nil))) .skip) .skip) (.seq (.iff (.cmp .eq (.var 3) (.bi .len (.cons (.idx (.var 0) (.cst (.int 2))) .nil))) (.seq (.ret (.ife (.cmp .eq (.idx (.var 0) (.cst (.int 4))) (.glob "DRAWN")) (.bi .list (.cons (.var 2) .nil)) (.lst (.cons (.var 2) .nil)))) .skip) .skip) (.seq (.asg 4 false (.call "divided" (.cons (.var 2) (.cons (.lc (.var 7) (.itm (.var 2)) .nil (.call "count_for" (.cons (.var 0) (.cons (.var 1) (.cons (.var 2) (.cons (.idx (.idx (.var 0) (.cst (.int 2))) (.var 3)) (.cons (.var 7) .nil))))))) .nil)))) (.seq (.asg 5 true (.lst .nil)) (.seq (.for_ (.var 6) (.itm (.var 4)) (.seq (.ext 5 (.call "asked" (.cons (.var 0) (.cons (.var 1) (.cons (.var 6) (.cons (.ife (.band (.cons (.cmp .eq (.idx (.var 0) (.cst (.int 3))) (.glob "ANEW")) (.cons (.cmp .gt (.bi .len (.cons (.var 4) .nil)) (.cst (.int 1))) .nil))) (.cst (.int 0)) (.bin .add (.var 3) (.cst (.int 1)))) .nil)))))) .skip)) (.fz 5 (.seq (.ret (.var 5)) .skip)))))))
def d_asked : Rf.Def := ⟨8, 4, b_asked⟩
def b_ranked : C := (.seq (.asg 3 false (.call "find_sides" (.cons (.var 0) .nil))) (.seq (.asg 4 true (.lst .nil)) (.seq (.for_ (.var 5) (.itm (.call "divided" (.cons (.var 3) (.cons (.lc (.var 6) (.itm (.var 3)) .nil (.call "points_in" (.cons (.var 1) (.cons (.var 2) (.cons (.var 6) .nil))))) .nil)))) (.seq (.ext 4 (.call "asked" (.cons (.var 1) (.cons (.var 2) (.cons (.var 5) (.cons (.cst (.int 0)) .nil)))))) .skip)) (.seq (.ret (.bi .tuple (.cons (.var 4) .nil))) .skip))))
def d_ranked : Rf.Def := ⟨7, 3, b_ranked⟩
def b_find_table : C := (.seq (.ret (.call "ranked" (.cons (.var 0) (.cons (.var 1) (.cons (.call "played" (.cons (.var 0) (.cons (.var 2) .nil))) .nil))))) .skip)
def d_find_table : Rf.Def := ⟨3, 3, b_find_table⟩
def b__law_drawn : C := (.seq (.asg 3 false (.bin .mul (.cst (.int 7)) (.var 1))) (.seq (.iff (.cmp .ne (.var 0) (.lst .nil)) (.seq (.asg 3 false (.idx (.var 0) (.bin .mod (.bi .int (.cons (.var 1) .nil)) (.bi .len (.cons (.var 0) .nil))))) (.seq (.asg 4 false (.bin .fdiv (.var 1) (.bi .len (.cons (.var 0) .nil)))) (.seq (.iff (.band (.cons (.cmp .ge (.var 3) (.bin .pow (.cst (.int 10)) (.cst (.int 18)))) (.cons (.cmp .lt (.var 4) (.cst (.int 60))) .nil))) (.seq (.asg 5 false (.bin .fdiv (.var 3) (.bin .pow (.cst (.int 10)) (.cst (.int 18))))) (.seq (.while_ (.band (.cons (.cmp .gt (.var 5) (.cst (.int 0))) (.cons (.cmp .gt (.var 4) (.cst (.int 0))) .nil))) (.seq (.asg 5 false (.bin .fdiv (.var 5) (.cst (.int 1000000)))) (.seq (.asg 4 false (.bin .sub (.var 4) (.cst (.int 1)))) .skip))) (.seq (.iff (.cmp .gt (.var 5) (.cst (.int 0))) (.seq (.ret (.bin .mod (.bi .int (.cons (.bin .mod (.bi .int (.cons (.var 5) .nil)) (.cst (.int 1000000))) .nil)) (.var 2))) .skip) .skip) .skip))) .skip) (.seq (.asg 3 false (.bin .add (.var 3) (.bin .mul (.cst (.int 6553)) (.bin .fdiv (.var 1) (.bi .len (.cons (.var 0) .nil)))))) .skip)))) .skip) (.seq (.asg 3 false (.bin .mod (.bi .int (.cons (.bin .add (.bin .mul (.bin .mod (.bi .int (.cons (.var 3) .nil)) (.cst (.int 2147483563))) (.cst (.int 69069))) (.bin .mul (.cst (.int 104723)) (.bin .add (.var 1) (.cst (.int 1))))) .nil)) (.cst (.int 2147483563)))) (.seq (.asg 3 false (.bin .mod (.bi .int (.cons (.bin .add (.bin .mul (.var 3) (.var 3)) (.bin .fdiv (.var 3) (.cst (.int 3)))) .nil)) (.cst (.int 2147483399)))) (.seq (.ret (.bin .mod (.bi .int (.cons (.bin .fdiv (.bin .mod (.bi .int (.cons (.bin .add (.bin .mul (.var 3) (.var 3)) (.bin .fdiv (.var 3) (.cst (.int 7)))) .nil)) (.cst (.int 2147483647))) (.cst (.int 11))) .nil)) (.var 2))) .skip)))))
def d__law_drawn : Rf.Def := ⟨6, 3, b__law_drawn⟩
def b__law_season : C := (.seq (.asg 3 false (.lst (.cons (.tup (.cons (.cst (.int 3)) (.cons (.cst (.int 1)) (.cons (.cst (.int 3)) (.cons (.cst (.int 27)) .nil))))) (.cons (.tup (.cons (.cst (.int 3)) (.cons (.cst (.int 1)) (.cons (.cst (.int 2)) (.cons (.cst (.int 8)) .nil))))) (.cons (.tup (.cons (.cst (.int 2)) (.cons (.cst (.int 2)) (.cons (.cst (.int 3)) (.cons (.cst (.int 9)) .nil))))) (.cons (.tup (.cons (.cst (.int 3)) (.cons (.cst (.int 1)) (.cons (.cst (.int 3)) (.cons (.cst (.int 27)) .nil))))) (.cons (.tup (.cons (.cst (.int 4)) (.cons (.cst (.int 1)) (.cons (.cst (.int 2)) (.cons (.cst (.int 64)) .nil))))) .nil))))))) (.seq (.asg 3 false (.bin .add (.var 3) (.lst (.cons (.tup (.cons (.cst (.int 3)) (.cons (.cst (.int 2)) (.cons (.cst (.int 2)) (.cons (.cst (.int 64)) .nil))))) .nil)))) (.seq (.unp (.tup (.cons (.var 6) (.cons (.var 7) (.cons (.var 8) (.cons (.var 9) .nil))))) (.idx (.var 3) (.call "_law_drawn" (.cons (.var 0) (.cons (.var 1) (.cons (.cst (.int 6)) .nil)))))) (.seq (.iff (.cmp .gt (.var 9) (.var 2)) (.seq (.par (.cons (.var 6) (.cons (.var 7) (.cons (.var 8) .nil))) [false, false, false] (.cons (.cst (.int 3)) (.cons (.cst (.int 1)) (.cons (.cst (.int 2)) .nil)))) .skip) .skip) (.seq (.asg 4 true (.lst .nil)) (.seq (.for_ (.var 5) (.rng (.cons (.var 8) .nil)) (.seq (.app 4 (.tup (.cons (.call "_law_drawn" (.cons (.var 0) (.cons (.bin .add (.bin .add (.var 1) (.cst (.int 1))) (.bin .mul (.cst (.int 2)) (.var 5))) (.cons (.cst (.int 4)) .nil)))) (.cons (.call "_law_drawn" (.cons (.var 0) (.cons (.bin .add (.bin .add (.var 1) (.cst (.int 2))) (.bin .mul (.cst (.int 2)) (.var 5))) (.cons (.cst (.int 3)) .nil)))) .nil)))) .skip)) (.seq (.iff (.cmp .lt (.bi .lenset (.cons (.var 4) .nil)) (.var 8)) (.seq (.asg 4 false (.sl (.lst (.cons (.tup (.cons (.cst (.int 0)) (.cons (.cst (.int 0)) .nil))) (.cons (.tup (.cons (.cst (.int 0)) (.cons (.cst (.int 1)) .nil))) (.cons (.tup (.cons (.cst (.int 1)) (.cons (.cst (.int 0)) .nil))) .nil)))) .nil (.cons (.var 8) .nil))) .skip) .skip) (.seq (.ret (.tup (.cons (.var 6) (.cons (.var 7) (.cons (.bi .tuple (.cons (.bi .sorted (.cons (.var 4) .nil)) .nil)) .nil))))) .skip))))))))
def d__law_season : Rf.Def := ⟨10, 3, b__law_season⟩
def b__law_matches : C := (.seq (.par (.cons (.var 2) (.cons (.var 3) .nil)) [false, false] (.cons (.sl (.cst (.str "abcd")) .nil (.cons (.idx (.var 0) (.cst (.int 0))) .nil)) (.cons (.lst .nil) .nil))) (.seq (.for_ (.var 1) (.itm (.var 2)) (.seq (.asg 3 false (.bin .add (.var 3) (.lc (.var 4) (.itm (.var 2)) (.cons (.cmp .lt (.var 1) (.var 4)) .nil) (.tup (.cons (.var 1) (.cons (.var 4) .nil)))))) .skip)) (.seq (.ret (.bin .add (.var 3) (.lc (.tup (.cons (.var 1) (.cons (.var 4) .nil))) (.itm (.var 3)) (.cons (.cmp .eq (.idx (.var 0) (.cst (.int 1))) (.cst (.int 2))) .nil) (.tup (.cons (.var 4) (.cons (.var 1) .nil)))))) .skip)))
def d__law_matches : Rf.Def := ⟨5, 1, b__law_matches⟩
def b__law_results : C := (.seq (.asg 3 false (.idx (.var 2) (.cst (.int 2)))) (.seq (.ret (.bi .tuple (.cons (.lc (.var 4) (.rng (.cons (.bi .len (.cons (.call "_law_matches" (.cons (.var 2) .nil)) .nil)) .nil)) .nil (.idx (.var 3) (.call "_law_drawn" (.cons (.var 0) (.cons (.bin .add (.var 1) (.var 4)) (.cons (.bi .len (.cons (.var 3) .nil)) .nil)))))) .nil))) .skip))
def d__law_results : Rf.Def := ⟨5, 3, b__law_results⟩
def b__law_book : C := (.seq (.par (.cons (.var 6) (.cons (.var 7) .nil)) [true, true] (.cons (.lst (.cons (.cst (.str "goals")) (.cons (.cst (.str "difference")) (.cons (.cst (.str "wins")) (.cons (.cst (.str "away")) (.cons (.cst (.str "direct")) (.cons (.cst (.str "directdiff")) .nil))))))) (.cons (.lst .nil) .nil))) (.seq (.for_ (.var 2) (.rng (.cons (.call "_law_drawn" (.cons (.var 0) (.cons (.var 1) (.cons (.cst (.int 4)) .nil)))) .nil)) (.seq (.apop 7 6 (.call "_law_drawn" (.cons (.var 0) (.cons (.bin .add (.bin .add (.var 1) (.cst (.int 1))) (.var 2)) (.cons (.bi .len (.cons (.var 6) .nil)) .nil))))) .skip)) (.seq (.asg 3 false (.idx (.lst (.cons (.cst (.int 3)) (.cons (.cst (.int 2)) (.cons (.cst (.int 1)) (.cons (.cst (.int 3)) .nil))))) (.call "_law_drawn" (.cons (.var 0) (.cons (.bin .add (.var 1) (.cst (.int 5))) (.cons (.cst (.int 4)) .nil)))))) (.seq (.asg 4 false (.bi .min (.cons (.var 3) (.cons (.idx (.lst (.cons (.cst (.int 1)) (.cons (.cst (.int 0)) (.cons (.cst (.int 1)) (.cons (.cst (.int 2)) .nil))))) (.call "_law_drawn" (.cons (.var 0) (.cons (.bin .add (.var 1) (.cst (.int 6))) (.cons (.cst (.int 4)) .nil))))) .nil)))) (.seq (.asg 5 false (.idx (.lst (.cons (.cst (.str "anew")) (.cons (.cst (.str "once")) .nil))) (.call "_law_drawn" (.cons (.var 0) (.cons (.bin .add (.var 1) (.cst (.int 7))) (.cons (.cst (.int 2)) .nil)))))) (.seq (.ret (.tup (.cons (.var 3) (.cons (.var 4) (.cons (.bi .tuple (.cons (.var 7) .nil)) (.cons (.var 5) (.cons (.idx (.lst (.cons (.cst (.str "shared")) (.cons (.cst (.str "drawn")) .nil))) (.call "_law_drawn" (.cons (.var 0) (.cons (.bin .add (.var 1) (.cst (.int 8))) (.cons (.cst (.int 2)) .nil))))) .nil))))))) .skip))))))
def d__law_book : Rf.Def := ⟨8, 2, b__law_book⟩
def b__law_badseason : C := (.seq (.asg 2 false (.tup (.cons (.tup (.cons (.cst (.int 0)) (.cons (.cst (.int 0)) .nil))) (.cons (.tup (.cons (.cst (.int 1)) (.cons (.cst (.int 0)) .nil))) .nil)))) (.seq (.asg 3 false (.lst (.cons (.cst .none) (.cons (.tup .nil) (.cons (.tup (.cons (.cst (.int 3)) (.cons (.cst (.int 1)) .nil))) (.cons (.tup (.cons (.cst (.int 1)) (.cons (.cst (.int 1)) (.cons (.var 2) .nil)))) (.cons (.tup (.cons (.cst (.int 5)) (.cons (.cst (.int 1)) (.cons (.var 2) .nil)))) (.cons (.tup (.cons (.cst (.int 4)) (.cons (.cst (.int 2)) (.cons (.var 2) .nil)))) (.cons (.tup (.cons (.cst (.int 3)) (.cons (.cst (.int 0)) (.cons (.var 2) .nil)))) (.cons (.tup (.cons (.cst (.int 3)) (.cons (.cst (.int 3)) (.cons (.var 2) .nil)))) .nil)))))))))) (.seq (.asg 3 false (.bin .add (.var 3) (.lst (.cons (.tup (.cons (.cst (.int 3)) (.cons (.cst (.int 1)) (.cons (.tup .nil) .nil)))) .nil)))) (.seq (.asg 3 false (.bin .add (.var 3) (.lst (.cons (.tup (.cons (.cst (.int 3)) (.cons (.cst (.int 1)) (.cons (.rev (.var 2)) .nil)))) (.cons (.tup (.cons (.cst (.int 3)) (.cons (.cst (.int 1)) (.cons (.lst (.cons (.tup (.cons (.cst (.int 0)) (.cons (.cst (.int 0)) .nil))) .nil)) .nil)))) (.cons (.tup (.cons (.cst (.int 3)) (.cons (.cst (.int 1)) (.cons (.tup (.cons (.tup (.cons (.cst (.int 0)) (.cons (.cst (.int 4)) .nil))) .nil)) .nil)))) (.cons (.tup (.cons (.cst (.int 3)) (.cons (.cst (.int 1)) (.cons (.tup (.cons (.tup (.cons (.cst (.int 0)) .nil)) .nil)) .nil)))) .nil))))))) (.seq (.asg 3 false (.bin .add (.var 3) (.lst (.cons (.tup (.cons (.cst (.bool true)) (.cons (.cst (.int 1)) (.cons (.var 2) .nil)))) .nil)))) (.seq (.asg 3 false (.bin .add (.var 3) (.lst (.cons (.tup (.cons (.cst (.int 3)) (.cons (.cst (.int 1)) (.cons (.tup (.cons (.tup (.cons (.cst (.int 0)) (.cons (.cst (.int 0)) .nil))) (.cons (.tup (.cons (.cst (.int 0)) (.cons (.cst (.int 0)) .nil))) .nil))) .nil)))) (.cons (.lst (.cons (.cst (.int 3)) (.cons (.cst (.int 1)) (.cons (.var 2) .nil)))) .nil))))) (.seq (.asg 3 false (.bin .add (.var 3) (.lst (.cons (.tup (.cons (.cst (.int 3)) (.cons (.cst (.int 1)) (.cons (.tup (.cons (.tup (.cons (.cst (.int 0)) (.cons (.cst (.int 0)) .nil))) (.cons (.tup (.cons (.cst (.int 0)) (.cons (.cst (.int 1)) .nil))) (.cons (.tup (.cons (.cst (.int 0)) (.cons (.cst (.int 2)) .nil))) (.cons (.tup (.cons (.cst (.int 1)) (.cons (.cst (.int 0)) .nil))) (.cons (.tup (.cons (.cst (.int 2)) (.cons (.cst (.int 0)) .nil))) .nil)))))) .nil)))) .nil)))) (.seq (.ret (.idx (.var 3) (.call "_law_drawn" (.cons (.var 0) (.cons (.var 1) (.cons (.cst (.int 17)) .nil)))))) .skip))))))))
def d__law_badseason : Rf.Def := ⟨4, 2, b__law_badseason⟩
def b__law_badbook : C := (.seq (.asg 2 false (.lst (.cons (.cst .none) (.cons (.tup .nil) (.cons (.tup (.cons (.cst (.int 3)) (.cons (.cst (.int 1)) (.cons (.tup .nil) (.cons (.cst (.str "anew")) .nil))))) (.cons (.tup (.cons (.cst (.int 0)) (.cons (.cst (.int 0)) (.cons (.tup .nil) (.cons (.cst (.str "anew")) (.cons (.cst (.str "shared")) .nil)))))) .nil)))))) (.seq (.asg 2 false (.bin .add (.var 2) (.lst (.cons (.tup (.cons (.cst (.int 4)) (.cons (.cst (.int 1)) (.cons (.tup .nil) (.cons (.cst (.str "anew")) (.cons (.cst (.str "shared")) .nil)))))) .nil)))) (.seq (.asg 2 false (.bin .add (.var 2) (.lst (.cons (.tup (.cons (.cst (.int 2)) (.cons (.cst (.int 3)) (.cons (.tup .nil) (.cons (.cst (.str "anew")) (.cons (.cst (.str "shared")) .nil)))))) (.cons (.tup (.cons (.cst (.int 3)) (.cons (.cst (.int 1)) (.cons (.tup (.cons (.cst (.str "goals")) (.cons (.cst (.str "goals")) .nil))) (.cons (.cst (.str "anew")) (.cons (.cst (.str "shared")) .nil)))))) .nil))))) (.seq (.asg 2 false (.bin .add (.var 2) (.lst (.cons (.tup (.cons (.cst (.int 3)) (.cons (.cst (.int 1)) (.cons (.lst (.cons (.cst (.str "goals")) .nil)) (.cons (.cst (.str "anew")) (.cons (.cst (.str "shared")) .nil)))))) (.cons (.tup (.cons (.cst (.int 3)) (.cons (.cst (.int 1)) (.cons (.tup (.cons (.cst (.str "points")) .nil)) (.cons (.cst (.str "anew")) (.cons (.cst (.str "shared")) .nil)))))) .nil))))) (.seq (.asg 2 false (.bin .add (.var 2) (.lst (.cons (.tup (.cons (.cst (.int 3)) (.cons (.cst (.int 1)) (.cons (.tup .nil) (.cons (.cst (.str "new")) (.cons (.cst (.str "shared")) .nil)))))) (.cons (.tup (.cons (.cst (.int 3)) (.cons (.cst (.int 1)) (.cons (.tup .nil) (.cons (.cst (.str "once")) (.cons (.cst (.str "share")) .nil)))))) .nil))))) (.seq (.asg 2 false (.bin .add (.var 2) (.lst (.cons (.lst (.cons (.cst (.int 3)) (.cons (.cst (.int 1)) (.cons (.tup .nil) (.cons (.cst (.str "once")) (.cons (.cst (.str "drawn")) .nil)))))) .nil)))) (.seq (.asg 2 false (.bin .add (.var 2) (.lst (.cons (.tup (.cons (.cst (.int 3)) (.cons (.cst (.int 1)) (.cons (.tup (.cons (.cst (.str "goals")) (.cons (.cst (.str "wins")) (.cons (.cst (.str "away")) (.cons (.cst (.str "direct")) (.cons (.cst (.str "directdiff")) .nil)))))) (.cons (.cst (.str "once")) (.cons (.cst (.str "drawn")) .nil)))))) .nil)))) (.seq (.asg 2 false (.bin .add (.var 2) (.lst (.cons (.tup (.cons (.cst (.int 3)) (.cons (.neg (.cst (.int 1))) (.cons (.tup .nil) (.cons (.cst (.str "once")) (.cons (.cst (.str "drawn")) .nil)))))) (.cons (.tup (.cons (.cst (.int 3)) (.cons (.cst (.bool true)) (.cons (.tup .nil) (.cons (.cst (.str "once")) (.cons (.cst (.str "drawn")) .nil)))))) .nil))))) (.seq (.asg 2 false (.bin .add (.var 2) (.lst (.cons (.tup (.cons (.cst (.int 3)) (.cons (.cst (.int 1)) (.cons (.tup (.cons (.cst .none) .nil)) (.cons (.cst (.str "once")) (.cons (.cst (.str "drawn")) .nil)))))) .nil)))) (.seq (.ret (.idx (.var 2) (.call "_law_drawn" (.cons (.var 0) (.cons (.var 1) (.cons (.cst (.int 16)) .nil)))))) .skip))))))))))
def d__law_badbook : Rf.Def := ⟨3, 2, b__law_badbook⟩
def b__law_own : C := (.seq (.asg 3 true (.lst .nil)) (.seq (.for_ (.tup (.cons (.var 4) (.cons (.var 5) .nil))) (.zip (.call "_law_matches" (.cons (.var 0) .nil)) (.var 1)) (.seq (.iff (.band (.cons (.cmp .isnot (.var 5) (.cst .none)) (.cons (.cmp .eq (.idx (.var 4) (.cst (.int 0))) (.var 2)) .nil))) (.seq (.app 3 (.tup (.cons (.idx (.var 4) (.cst (.int 1))) (.cons (.cst (.bool true)) (.cons (.idx (.var 5) (.cst (.int 0))) (.cons (.idx (.var 5) (.cst (.int 1))) .nil)))))) .skip) .skip) (.seq (.iff (.band (.cons (.cmp .isnot (.var 5) (.cst .none)) (.cons (.cmp .eq (.idx (.var 4) (.cst (.int 1))) (.var 2)) .nil))) (.seq (.app 3 (.tup (.cons (.idx (.var 4) (.cst (.int 0))) (.cons (.cst (.bool false)) (.cons (.idx (.var 5) (.cst (.int 1))) (.cons (.idx (.var 5) (.cst (.int 0))) .nil)))))) .skip) .skip) .skip))) (.fz 3 (.seq (.ret (.var 3)) .skip))))
def d__law_own : Rf.Def := ⟨6, 3, b__law_own⟩
def b__law_count : C := (.seq (.iff (.cmp .isin (.var 3) (.tup (.cons (.cst (.str "direct")) (.cons (.cst (.str "directdiff")) .nil)))) (.seq (.asg 1 false (.lc (.var 6) (.itm (.var 1)) (.cons (.cmp .isin (.idx (.var 6) (.cst (.int 0))) (.var 2)) .nil) (.var 6))) .skip) .skip) (.seq (.iff (.cmp .isin (.var 3) (.tup (.cons (.cst (.str "points")) (.cons (.cst (.str "direct")) .nil)))) (.seq (.par (.cons (.var 4) (.cons (.var 5) .nil)) [false, false] (.cons (.lc (.var 6) (.itm (.var 1)) (.cons (.cmp .gt (.idx (.var 6) (.cst (.int 2))) (.idx (.var 6) (.cst (.int 3)))) .nil) (.var 6)) (.cons (.lc (.var 6) (.itm (.var 1)) (.cons (.cmp .eq (.idx (.var 6) (.cst (.int 2))) (.idx (.var 6) (.cst (.int 3)))) .nil) (.var 6)) .nil))) (.seq (.ret (.bin .add (.bin .mul (.idx (.var 0) (.cst (.int 0))) (.bi .len (.cons (.var 4) .nil))) (.bin .mul (.idx (.var 0) (.cst (.int 1))) (.bi .len (.cons (.var 5) .nil))))) .skip)) .skip) (.seq (.iff (.cmp .isin (.var 3) (.tup (.cons (.cst (.str "difference")) (.cons (.cst (.str "directdiff")) .nil)))) (.seq (.ret (.bin .sub (.bi .sum (.cons (.lc (.var 6) (.itm (.var 1)) .nil (.idx (.var 6) (.cst (.int 2)))) .nil)) (.bi .sum (.cons (.lc (.var 6) (.itm (.var 1)) .nil (.idx (.var 6) (.cst (.int 3)))) .nil)))) .skip) .skip) (.seq (.iff (.cmp .eq (.var 3) (.cst (.str "wins"))) (.seq (.ret (.bi .len (.cons (.lc (.var 6) (.itm (.var 1)) (.cons (.cmp .gt (.idx (.var 6) (.cst (.int 2))) (.idx (.var 6) (.cst (.int 3)))) .nil) (.var 6)) .nil))) .skip) .skip) (.seq (.ret (.bi .sum (.cons (.lc (.var 6) (.itm (.var 1)) (.cons (.bor (.cons (.cmp .eq (.var 3) (.cst (.str "goals"))) (.cons (.bnot (.idx (.var 6) (.cst (.int 1)))) .nil))) .nil) (.idx (.var 6) (.cst (.int 2)))) .nil))) .skip)))))
def d__law_count : Rf.Def := ⟨7, 4, b__law_count⟩
def b__law_split : C := (.seq (.asg 4 true .dnew) (.seq (.for_ (.var 5) (.itm (.var 2)) (.seq (.asg 6 false (.call "_law_count" (.cons (.var 0) (.cons (.idx (.var 1) (.var 5)) (.cons (.var 2) (.cons (.var 3) .nil)))))) (.seq (.dput 4 (.var 6) (.bin .add (.dget (.var 4) (.var 6) (.cst (.str ""))) (.var 5))) .skip))) (.seq (.ret (.lc (.var 6) (.itm (.bi .rsorted (.cons (.var 4) .nil))) .nil (.idx (.var 4) (.var 6)))) .skip)))
def d__law_split : Rf.Def := ⟨7, 4, b__law_split⟩
def b__law_table : C := (.seq (.asg 3 false (.bi .dict (.cons (.lc (.var 9) (.itm (.sl (.cst (.str "abcd")) .nil (.cons (.idx (.var 0) (.cst (.int 0))) .nil))) .nil (.tup (.cons (.var 9) (.cons (.call "_law_own" (.cons (.var 0) (.cons (.var 2) (.cons (.var 9) .nil)))) .nil)))) .nil))) (.seq (.par (.cons (.var 4) (.cons (.var 5) .nil)) [false, false] (.cons (.lst .nil) (.cons (.lc (.var 10) (.itm (.call "_law_split" (.cons (.var 1) (.cons (.var 3) (.cons (.sl (.cst (.str "abcd")) .nil (.cons (.idx (.var 0) (.cst (.int 0))) .nil)) (.cons (.cst (.str "points")) .nil)))))) .nil (.tup (.cons (.var 10) (.cons (.cst (.int 0)) .nil)))) .nil))) (.seq (.while_ (.cmp .ne (.var 5) (.lst .nil)) (.seq (.unp (.tup (.cons (.var 6) (.cons (.var 7) .nil))) (.idx (.var 5) (.cst (.int 0)))) (.seq (.asg 5 false (.sl (.var 5) (.cons (.cst (.int 1)) .nil) .nil)) (.seq (.iff (.bor (.cons (.cmp .eq (.bi .len (.cons (.var 6) .nil)) (.cst (.int 1))) (.cons (.cmp .eq (.var 7) (.bi .len (.cons (.idx (.var 1) (.cst (.int 2))) .nil))) .nil))) (.seq (.asg 4 false (.bin .add (.var 4) (.ife (.cmp .eq (.idx (.var 1) (.cst (.int 4))) (.cst (.str "shared"))) (.lst (.cons (.var 6) .nil)) (.bi .list (.cons (.var 6) .nil))))) .skip) (.seq (.asg 8 false (.call "_law_split" (.cons (.var 1) (.cons (.var 3) (.cons (.var 6) (.cons (.idx (.idx (.var 1) (.cst (.int 2))) (.var 7)) .nil)))))) (.seq (.asg 7 false (.ife (.band (.cons (.cmp .gt (.bi .len (.cons (.var 8) .nil)) (.cst (.int 1))) (.cons (.cmp .eq (.idx (.var 1) (.cst (.int 3))) (.cst (.str "anew"))) .nil))) (.cst (.int 0)) (.bin .add (.var 7) (.cst (.int 1))))) (.seq (.asg 5 false (.bin .add (.lc (.var 10) (.itm (.var 8)) .nil (.tup (.cons (.var 10) (.cons (.var 7) .nil)))) (.var 5))) .skip)))) .skip)))) (.seq (.ret (.bi .tuple (.cons (.var 4) .nil))) .skip))))
def d__law_table : Rf.Def := ⟨11, 3, b__law_table⟩
def b_has_group : C := (.seq (.iff (.bor (.cons (.bnot (.bi .isStr (.cons (.var 1) .nil))) (.cons (.cmp .eq (.var 1) (.cst (.str ""))) .nil))) (.seq (.ret (.cst (.bool false))) .skip) .skip) (.seq (.ret (.band (.cons (.bi .all (.cons (.lc (.var 2) (.itm (.var 1)) .nil (.cmp .isin (.var 2) (.call "find_sides" (.cons (.var 0) .nil)))) .nil)) (.cons (.call "is_rising" (.cons (.var 1) .nil)) .nil)))) .skip))
def d_has_group : Rf.Def := ⟨3, 2, b_has_group⟩
def b_find_place : C := (.seq (.asg 2 false (.cst (.int 1))) (.seq (.for_ (.var 3) (.itm (.var 0)) (.seq (.iff (.cmp .isin (.var 1) (.var 3)) (.seq (.ret (.var 2)) .skip) .skip) (.seq (.asg 2 false (.bin .add (.var 2) (.bi .len (.cons (.var 3) .nil)))) .skip))) (.seq (.ret (.var 2)) .skip)))
def d_find_place : Rf.Def := ⟨4, 2, b_find_place⟩
def b_check_side : C := (.seq (.iff (.bor (.cons (.bnot (.bi .isStr (.cons (.var 1) .nil))) (.cons (.cmp .ne (.bi .len (.cons (.var 1) .nil)) (.cst (.int 1))) (.cons (.cmp .notin (.var 1) (.call "find_sides" (.cons (.var 0) .nil))) .nil)))) (.seq (.raise "InvalidSide") .skip) .skip) .skip)
def d_check_side : Rf.Def := ⟨2, 2, b_check_side⟩
def b_has_table : C := (.seq (.iff (.bor (.cons (.bnot (.bi .isTuple (.cons (.var 1) .nil))) (.cons (.bnot (.bi .all (.cons (.lc (.var 2) (.itm (.var 1)) .nil (.call "has_group" (.cons (.var 0) (.cons (.var 2) .nil)))) .nil))) .nil))) (.seq (.ret (.cst (.bool false))) .skip) .skip) (.seq (.ret (.cmp .eq (.bi .join (.cons (.cst (.str "")) (.cons (.bi .sorted (.cons (.bi .join (.cons (.cst (.str "")) (.cons (.var 1) .nil))) .nil)) .nil))) (.call "find_sides" (.cons (.var 0) .nil)))) .skip))
def d_has_table : Rf.Def := ⟨3, 2, b_has_table⟩
def b_check_table : C := (.seq (.iff (.bnot (.call "has_table" (.cons (.var 0) (.cons (.var 1) .nil)))) (.seq (.raise "InvalidTable") .skip) .skip) .skip)
def d_check_table : Rf.Def := ⟨2, 2, b_check_table⟩
structure SA (t : Tab) : Prop where
  is_int : t.tab "is_int" = some d_is_int
  is_score : t.tab "is_score" = some d_is_score
  is_rising : t.tab "is_rising" = some d_is_rising
  is_season : t.tab "is_season" = some d_is_season
  check_season : t.tab "check_season" = some d_check_season
  find_sides : t.tab "find_sides" = some d_find_sides
  find_matches : t.tab "find_matches" = some d_find_matches
  MAX_SIDES : t.gl "MAX_SIDES" = .ok (.int 4)
  MAX_TWICE : t.gl "MAX_TWICE" = .ok (.int 3)
  MAX_GOALS : t.gl "MAX_GOALS" = .ok (.int 3)
  MAX_SCORES : t.gl "MAX_SCORES" = .ok (.int 4)
  LETTERS : t.gl "LETTERS" = .ok (.str "abcd")
structure SR (t : Tab) : Prop where
  has_results : t.tab "has_results" = some d_has_results
  check_results : t.tab "check_results" = some d_check_results
structure SB (t : Tab) : Prop where
  has_breaks : t.tab "has_breaks" = some d_has_breaks
  is_book : t.tab "is_book" = some d_is_book
  check_book : t.tab "check_book" = some d_check_book
  MAX_WIN : t.gl "MAX_WIN" = .ok (.int 3)
  MAX_BREAKS : t.gl "MAX_BREAKS" = .ok (.int 4)
  ANEW : t.gl "ANEW" = .ok (.str "anew")
  ONCE : t.gl "ONCE" = .ok (.str "once")
  SHARED : t.gl "SHARED" = .ok (.str "shared")
  DRAWN : t.gl "DRAWN" = .ok (.str "drawn")
  WORDS : t.gl "WORDS" = .ok (.tuple [.str "goals", .str "difference", .str "wins", .str "away", .str "direct", .str "directdiff"])
structure SC (t : Tab) : Prop where
  played : t.tab "played" = some d_played
  own_and_other : t.tab "own_and_other" = some d_own_and_other
  points_in : t.tab "points_in" = some d_points_in
  difference_in : t.tab "difference_in" = some d_difference_in
  goals_in : t.tab "goals_in" = some d_goals_in
  count_for : t.tab "count_for" = some d_count_for
  GOALS : t.gl "GOALS" = .ok (.str "goals")
  DIFFERENCE : t.gl "DIFFERENCE" = .ok (.str "difference")
  WINS : t.gl "WINS" = .ok (.str "wins")
  AWAY : t.gl "AWAY" = .ok (.str "away")
  DIRECT : t.gl "DIRECT" = .ok (.str "direct")
structure ST (t : Tab) : Prop where
  divided : t.tab "divided" = some d_divided
  asked : t.tab "asked" = some d_asked
  ranked : t.tab "ranked" = some d_ranked
  find_table : t.tab "find_table" = some d_find_table
structure LA (t : Tab) : Prop where
  _law_drawn : t.tab "_law_drawn" = some d__law_drawn
  _law_season : t.tab "_law_season" = some d__law_season
  _law_matches : t.tab "_law_matches" = some d__law_matches
  _law_results : t.tab "_law_results" = some d__law_results
structure LK (t : Tab) : Prop where
  _law_book : t.tab "_law_book" = some d__law_book
structure LB (t : Tab) : Prop where
  _law_badseason : t.tab "_law_badseason" = some d__law_badseason
structure LD (t : Tab) : Prop where
  _law_badbook : t.tab "_law_badbook" = some d__law_badbook
structure LC (t : Tab) : Prop where
  _law_own : t.tab "_law_own" = some d__law_own
  _law_count : t.tab "_law_count" = some d__law_count
structure LT (t : Tab) : Prop where
  _law_split : t.tab "_law_split" = some d__law_split
  _law_table : t.tab "_law_table" = some d__law_table
structure SG (t : Tab) : Prop where
  has_group : t.tab "has_group" = some d_has_group
structure SP (t : Tab) : Prop where
  find_place : t.tab "find_place" = some d_find_place
  check_side : t.tab "check_side" = some d_check_side
structure SQ (t : Tab) : Prop where
  has_table : t.tab "has_table" = some d_has_table
  check_table : t.tab "check_table" = some d_check_table
def b_matches : C := (.seq (.exp (.call "check_season" (.cons (.var 0) .nil))) (.seq (.ret (.call "find_matches" (.cons (.var 0) .nil))) .skip))
def d_matches : Rf.Def := ⟨1, 1, b_matches⟩
def b_count_results : C := (.seq (.exp (.call "check_season" (.cons (.var 0) .nil))) (.seq (.asg 1 false (.cst (.int 1))) (.seq (.for_ (.var 2) (.itm (.call "find_matches" (.cons (.var 0) .nil))) (.seq (.asg 1 false (.bin .mul (.var 1) (.bi .len (.cons (.idx (.var 0) (.cst (.int 2))) .nil)))) .skip)) (.seq (.ret (.var 1)) .skip))))
def d_count_results : Rf.Def := ⟨3, 1, b_count_results⟩
def b_is_results : C := (.seq (.exp (.call "check_season" (.cons (.var 0) .nil))) (.seq (.ret (.call "has_results" (.cons (.var 0) (.cons (.var 1) .nil)))) .skip))
def d_is_results : Rf.Def := ⟨2, 2, b_is_results⟩
def b_find_all : C := (.seq (.asg 1 false (.lst (.cons (.tup .nil) .nil))) (.seq (.for_ (.var 2) (.itm (.call "find_matches" (.cons (.var 0) .nil))) (.seq (.asg 3 true (.lst .nil)) (.seq (.for_ (.var 4) (.itm (.var 1)) (.seq (.ext 3 (.lc (.var 5) (.itm (.idx (.var 0) (.cst (.int 2)))) .nil (.bin .add (.var 4) (.tup (.cons (.var 5) .nil))))) .skip)) (.fz 3 (.seq (.asg 1 false (.var 3)) .skip))))) (.seq (.ret (.var 1)) .skip)))
def d_find_all : Rf.Def := ⟨6, 1, b_find_all⟩
def b_all_results : C := (.seq (.exp (.call "check_season" (.cons (.var 0) .nil))) (.seq (.ret (.call "find_all" (.cons (.var 0) .nil))) .skip))
def d_all_results : Rf.Def := ⟨1, 1, b_all_results⟩
def b__law_all : C := (.seq (.asg 1 false (.lst (.cons (.tup .nil) .nil))) (.seq (.for_ (.var 2) (.itm (.call "_law_matches" (.cons (.var 0) .nil))) (.seq (.asg 3 false (.lst .nil)) (.seq (.for_ (.var 4) (.itm (.var 1)) (.seq (.asg 3 false (.bin .add (.var 3) (.lc (.var 5) (.itm (.idx (.var 0) (.cst (.int 2)))) .nil (.bin .add (.var 4) (.tup (.cons (.var 5) .nil)))))) .skip)) (.seq (.asg 1 false (.var 3)) .skip)))) (.seq (.ret (.var 1)) .skip)))
def d__law_all : Rf.Def := ⟨6, 1, b__law_all⟩
def b_check_all : C := (.seq (.exp (.call "check_season" (.cons (.var 0) .nil))) (.seq (.exp (.call "check_book" (.cons (.var 1) .nil))) (.seq (.exp (.call "check_results" (.cons (.var 0) (.cons (.var 2) .nil)))) .skip)))
def d_check_all : Rf.Def := ⟨3, 3, b_check_all⟩
def b_points : C := (.seq (.exp (.call "check_all" (.cons (.var 0) (.cons (.var 1) (.cons (.var 2) .nil))))) (.seq (.asg 3 false (.call "played" (.cons (.var 0) (.cons (.var 2) .nil)))) (.seq (.ret (.bi .tuple (.cons (.lc (.var 4) (.itm (.call "find_sides" (.cons (.var 0) .nil))) .nil (.call "points_in" (.cons (.var 1) (.cons (.var 3) (.cons (.var 4) .nil))))) .nil))) .skip)))
def d_points : Rf.Def := ⟨5, 3, b_points⟩
def b_counts : C := (.seq (.exp (.call "check_all" (.cons (.var 0) (.cons (.var 1) (.cons (.var 2) .nil))))) (.seq (.iff (.bnot (.call "has_group" (.cons (.var 0) (.cons (.var 3) .nil)))) (.seq (.raise "InvalidGroup") .skip) .skip) (.seq (.iff (.bor (.cons (.bnot (.bi .isStr (.cons (.var 4) .nil))) (.cons (.cmp .notin (.var 4) (.glob "WORDS")) .nil))) (.seq (.raise "InvalidWord") .skip) .skip) (.seq (.asg 5 false (.call "played" (.cons (.var 0) (.cons (.var 2) .nil)))) (.seq (.ret (.bi .tuple (.cons (.lc (.var 6) (.itm (.var 3)) .nil (.call "count_for" (.cons (.var 1) (.cons (.var 5) (.cons (.var 3) (.cons (.var 4) (.cons (.var 6) .nil))))))) .nil))) .skip)))))
def d_counts : Rf.Def := ⟨7, 5, b_counts⟩
def b_table_of : C := (.seq (.exp (.call "check_all" (.cons (.var 0) (.cons (.var 1) (.cons (.var 2) .nil))))) (.seq (.ret (.call "find_table" (.cons (.var 0) (.cons (.var 1) (.cons (.var 2) .nil))))) .skip))
def d_table_of : Rf.Def := ⟨3, 3, b_table_of⟩
def b_is_table : C := (.seq (.exp (.call "check_season" (.cons (.var 0) .nil))) (.seq (.ret (.call "has_table" (.cons (.var 0) (.cons (.var 1) .nil)))) .skip))
def d_is_table : Rf.Def := ⟨2, 2, b_is_table⟩
def b_place_in : C := (.seq (.exp (.call "check_season" (.cons (.var 0) .nil))) (.seq (.exp (.call "check_table" (.cons (.var 0) (.cons (.var 1) .nil)))) (.seq (.exp (.call "check_side" (.cons (.var 0) (.cons (.var 2) .nil)))) (.seq (.ret (.call "find_place" (.cons (.var 1) (.cons (.var 2) .nil)))) .skip))))
def d_place_in : Rf.Def := ⟨3, 3, b_place_in⟩
def b__law_place : C := (.seq (.asg 2 false (.idx (.lc (.tup (.cons (.var 3) (.cons (.var 4) .nil))) (.enum (.var 0)) (.cons (.cmp .isin (.var 1) (.var 4)) .nil) (.var 3)) (.cst (.int 0)))) (.seq (.ret (.bin .add (.cst (.int 1)) (.bi .len (.cons (.bi .join (.cons (.cst (.str "")) (.cons (.sl (.var 0) .nil (.cons (.var 2) .nil)) .nil))) .nil)))) .skip))
def d__law_place : Rf.Def := ⟨5, 2, b__law_place⟩
def b_all_tables : C := (.seq (.exp (.call "check_season" (.cons (.var 0) .nil))) (.seq (.exp (.call "check_book" (.cons (.var 1) .nil))) (.seq (.ret (.bi .sortset (.cons (.lc (.var 2) (.itm (.call "find_all" (.cons (.var 0) .nil))) .nil (.call "find_table" (.cons (.var 0) (.cons (.var 1) (.cons (.var 2) .nil))))) .nil))) .skip)))
def d_all_tables : Rf.Def := ⟨3, 2, b_all_tables⟩
def b_find_for : C := (.seq (.exp (.call "check_season" (.cons (.var 0) .nil))) (.seq (.exp (.call "check_book" (.cons (.var 1) .nil))) (.seq (.exp (.call "check_table" (.cons (.var 0) (.cons (.var 2) .nil)))) (.seq (.ret (.lc (.var 3) (.itm (.call "find_all" (.cons (.var 0) .nil))) (.cons (.cmp .eq (.call "find_table" (.cons (.var 0) (.cons (.var 1) (.cons (.var 3) .nil)))) (.var 2)) .nil) (.var 3))) .skip))))
def d_find_for : Rf.Def := ⟨4, 3, b_find_for⟩
def b_results_for : C := (.seq (.ret (.call "find_for" (.cons (.var 0) (.cons (.var 1) (.cons (.var 2) .nil))))) .skip)
def d_results_for : Rf.Def := ⟨3, 3, b_results_for⟩
def b_first_results : C := (.seq (.asg 3 false (.call "find_for" (.cons (.var 0) (.cons (.var 1) (.cons (.var 2) .nil))))) (.seq (.ret (.ife (.cmp .ne (.var 3) (.lst .nil)) (.idx (.var 3) (.cst (.int 0))) (.cst .none))) .skip))
def d_first_results : Rf.Def := ⟨4, 3, b_first_results⟩
def b_sure_scores : C := (.seq (.asg 3 false (.call "find_for" (.cons (.var 0) (.cons (.var 1) (.cons (.var 2) .nil))))) (.seq (.iff (.cmp .eq (.var 3) (.lst .nil)) (.seq (.raise "Impossible") .skip) .skip) (.seq (.asg 4 false (.idx (.var 3) (.cst (.int 0)))) (.seq (.asg 5 true (.lst .nil)) (.seq (.for_ (.tup (.cons (.var 6) (.cons (.var 7) .nil))) (.enum (.var 4)) (.seq (.app 5 (.ife (.bi .all (.cons (.lc (.var 8) (.itm (.var 3)) .nil (.cmp .eq (.idx (.var 8) (.var 6)) (.var 7))) .nil)) (.var 7) (.cst .none))) .skip)) (.seq (.ret (.bi .tuple (.cons (.var 5) .nil))) .skip))))))
def d_sure_scores : Rf.Def := ⟨9, 3, b_sure_scores⟩
def b__law_tables : C := (.seq (.ret (.bi .dict (.cons (.lc (.var 2) (.itm (.call "_law_all" (.cons (.var 0) .nil))) .nil (.tup (.cons (.var 2) (.cons (.call "_law_table" (.cons (.var 0) (.cons (.var 1) (.cons (.var 2) .nil)))) .nil)))) .nil))) .skip)
def d__law_tables : Rf.Def := ⟨3, 2, b__law_tables⟩
def b_find_parting : C := (.seq (.for_ (.var 3) (.itm (.call "find_all" (.cons (.var 0) .nil))) (.seq (.iff (.cmp .ne (.call "find_table" (.cons (.var 0) (.cons (.var 1) (.cons (.var 3) .nil)))) (.call "find_table" (.cons (.var 0) (.cons (.var 2) (.cons (.var 3) .nil))))) (.seq (.ret (.var 3)) .skip) .skip) .skip)) (.seq (.ret (.cst .none)) .skip))
def d_find_parting : Rf.Def := ⟨4, 3, b_find_parting⟩
def b_check_books : C := (.seq (.exp (.call "check_season" (.cons (.var 0) .nil))) (.seq (.exp (.call "check_book" (.cons (.var 1) .nil))) (.seq (.exp (.call "check_book" (.cons (.var 2) .nil))) .skip)))
def d_check_books : Rf.Def := ⟨3, 3, b_check_books⟩
def b_parting_results : C := (.seq (.exp (.call "check_books" (.cons (.var 0) (.cons (.var 1) (.cons (.var 2) .nil))))) (.seq (.ret (.call "find_parting" (.cons (.var 0) (.cons (.var 1) (.cons (.var 2) .nil))))) .skip))
def d_parting_results : Rf.Def := ⟨3, 3, b_parting_results⟩
def b_are_alike : C := (.seq (.exp (.call "check_books" (.cons (.var 0) (.cons (.var 1) (.cons (.var 2) .nil))))) (.seq (.ret (.cmp .is (.call "find_parting" (.cons (.var 0) (.cons (.var 1) (.cons (.var 2) .nil)))) (.cst .none))) .skip))
def d_are_alike : Rf.Def := ⟨3, 3, b_are_alike⟩
def b_with_breaks : C := (.seq (.ret (.bin .add (.bin .add (.sl (.var 0) .nil (.cons (.cst (.int 2)) .nil)) (.tup (.cons (.bi .tuple (.cons (.lc (.var 2) (.itm (.var 1)) .nil (.idx (.idx (.var 0) (.cst (.int 2))) (.var 2))) .nil)) .nil))) (.sl (.var 0) (.cons (.cst (.int 3)) .nil) .nil))) .skip)
def d_with_breaks : Rf.Def := ⟨3, 2, b_with_breaks⟩
def b_all_but : C := (.seq (.ret (.call "with_breaks" (.cons (.var 0) (.cons (.lc (.var 2) (.rng (.cons (.bi .len (.cons (.idx (.var 0) (.cst (.int 2))) .nil)) .nil)) (.cons (.cmp .ne (.var 2) (.var 1)) .nil) (.var 2)) .nil)))) .skip)
def d_all_but : Rf.Def := ⟨3, 2, b_all_but⟩
def b_idle_breaks : C := (.seq (.exp (.call "check_season" (.cons (.var 0) .nil))) (.seq (.exp (.call "check_book" (.cons (.var 1) .nil))) (.seq (.ret (.lc (.var 2) (.rng (.cons (.bi .len (.cons (.idx (.var 1) (.cst (.int 2))) .nil)) .nil)) (.cons (.cmp .is (.call "find_parting" (.cons (.var 0) (.cons (.var 1) (.cons (.call "all_but" (.cons (.var 1) (.cons (.var 2) .nil))) .nil)))) (.cst .none)) .nil) (.var 2))) .skip)))
def d_idle_breaks : Rf.Def := ⟨3, 2, b_idle_breaks⟩
def b_lots : C := (.seq (.asg 1 false (.lst (.cons (.tup .nil) .nil))) (.seq (.for_ (.var 2) (.rng (.cons (.var 0) .nil)) (.seq (.asg 1 false (.bin .add (.var 1) (.lc (.var 4) (.itm (.var 1)) .nil (.bin .add (.var 4) (.tup (.cons (.var 2) .nil)))))) .skip)) (.seq (.asg 3 false (.bi .sorted (.cons (.lc (.var 4) (.itm (.var 1)) .nil (.tup (.cons (.bi .len (.cons (.var 4) .nil)) (.cons (.var 4) .nil)))) .nil))) (.seq (.ret (.lc (.tup (.cons (.var 5) (.cons (.var 4) .nil))) (.itm (.var 3)) .nil (.var 4))) .skip))))
def d_lots : Rf.Def := ⟨6, 1, b_lots⟩
def b_fewest_breaks : C := (.seq (.exp (.call "check_season" (.cons (.var 0) .nil))) (.seq (.exp (.call "check_book" (.cons (.var 1) .nil))) (.seq (.for_ (.var 2) (.itm (.call "lots" (.cons (.bi .len (.cons (.idx (.var 1) (.cst (.int 2))) .nil)) .nil))) (.seq (.iff (.cmp .is (.call "find_parting" (.cons (.var 0) (.cons (.var 1) (.cons (.call "with_breaks" (.cons (.var 1) (.cons (.var 2) .nil))) .nil)))) (.cst .none)) (.seq (.ret (.var 2)) .skip) .skip) .skip)) (.seq (.ret (.bi .trange (.cons (.bi .len (.cons (.idx (.var 1) (.cst (.int 2))) .nil)) .nil))) .skip))))
def d_fewest_breaks : Rf.Def := ⟨3, 2, b_fewest_breaks⟩
def b_idle_words : C := (.seq (.exp (.call "check_season" (.cons (.var 0) .nil))) (.seq (.exp (.call "check_book" (.cons (.var 1) .nil))) (.seq (.asg 2 false (.bin .add (.sl (.var 1) .nil (.cons (.cst (.int 3)) .nil)) (.tup (.cons (.ife (.cmp .eq (.idx (.var 1) (.cst (.int 3))) (.glob "ANEW")) (.glob "ONCE") (.glob "ANEW")) (.cons (.idx (.var 1) (.cst (.int 4))) .nil))))) (.seq (.asg 3 false (.bin .add (.sl (.var 1) .nil (.cons (.cst (.int 4)) .nil)) (.tup (.cons (.ife (.cmp .eq (.idx (.var 1) (.cst (.int 4))) (.glob "DRAWN")) (.glob "SHARED") (.glob "DRAWN")) .nil)))) (.seq (.asg 4 false (.ife (.cmp .is (.call "find_parting" (.cons (.var 0) (.cons (.var 1) (.cons (.var 2) .nil)))) (.cst .none)) (.lst (.cons (.cst (.str "mode")) .nil)) (.lst .nil))) (.seq (.ret (.bin .add (.var 4) (.ife (.cmp .is (.call "find_parting" (.cons (.var 0) (.cons (.var 1) (.cons (.var 3) .nil)))) (.cst .none)) (.lst (.cons (.cst (.str "end")) .nil)) (.lst .nil)))) .skip))))))
def d_idle_words : Rf.Def := ⟨5, 2, b_idle_words⟩
def b_put_score : C := (.seq (.ret (.bin .add (.bin .add (.sl (.var 0) .nil (.cons (.var 1) .nil)) (.tup (.cons (.var 2) .nil))) (.sl (.var 0) (.cons (.bin .add (.var 1) (.cst (.int 1))) .nil) .nil))) .skip)
def d_put_score : Rf.Def := ⟨3, 3, b_put_score⟩
def b_check_both : C := (.seq (.exp (.call "check_season" (.cons (.var 0) .nil))) (.seq (.exp (.call "check_book" (.cons (.var 1) .nil))) .skip))
def d_check_both : Rf.Def := ⟨2, 2, b_check_both⟩
def b_ahead_of : C := (.seq (.asg 2 true (.lst .nil)) (.seq (.for_ (.var 3) (.itm (.var 1)) (.seq (.ext 2 (.lc (.var 4) (.itm (.var 1)) (.cons (.cmp .lt (.call "find_place" (.cons (.var 0) (.cons (.var 3) .nil))) (.call "find_place" (.cons (.var 0) (.cons (.var 4) .nil)))) .nil) (.tup (.cons (.var 3) (.cons (.var 4) .nil))))) .skip)) (.fz 2 (.seq (.ret (.var 2)) .skip))))
def d_ahead_of : Rf.Def := ⟨5, 2, b_ahead_of⟩
def b_find_turns : C := (.seq (.par (.cons (.var 3) (.cons (.var 4) .nil)) [false, true] (.cons (.call "find_table" (.cons (.var 0) (.cons (.var 1) (.cons (.var 2) .nil)))) (.cons (.lst .nil) .nil))) (.seq (.for_ (.tup (.cons (.var 5) (.cons (.var 6) .nil))) (.enum (.call "find_matches" (.cons (.var 0) .nil))) (.seq (.asg 7 false (.lc (.var 10) (.itm (.call "find_sides" (.cons (.var 0) .nil))) (.cons (.cmp .notin (.var 10) (.var 6)) .nil) (.var 10))) (.seq (.for_ (.var 8) (.itm (.idx (.var 0) (.cst (.int 2)))) (.seq (.asg 9 false (.call "ahead_of" (.cons (.call "find_table" (.cons (.var 0) (.cons (.var 1) (.cons (.call "put_score" (.cons (.var 2) (.cons (.var 5) (.cons (.var 8) .nil)))) .nil)))) (.cons (.var 7) .nil)))) (.seq (.for_ (.tup (.cons (.var 11) (.cons (.var 12) .nil))) (.itm (.call "ahead_of" (.cons (.var 3) (.cons (.var 7) .nil)))) (.seq (.iff (.cmp .isin (.tup (.cons (.var 12) (.cons (.var 11) .nil))) (.var 9)) (.seq (.app 4 (.tup (.cons (.var 5) (.cons (.var 8) (.cons (.var 11) (.cons (.var 12) .nil)))))) .skip) .skip) .skip)) .skip))) .skip))) (.seq (.ret (.bi .sorted (.cons (.var 4) .nil))) .skip)))
def d_find_turns : Rf.Def := ⟨13, 3, b_find_turns⟩
def b_turns : C := (.seq (.exp (.call "check_all" (.cons (.var 0) (.cons (.var 1) (.cons (.var 2) .nil))))) (.seq (.ret (.call "find_turns" (.cons (.var 0) (.cons (.var 1) (.cons (.var 2) .nil))))) .skip))
def d_turns : Rf.Def := ⟨3, 3, b_turns⟩
def b_find_first_turn : C := (.seq (.for_ (.var 2) (.itm (.call "find_all" (.cons (.var 0) .nil))) (.seq (.asg 3 false (.call "find_turns" (.cons (.var 0) (.cons (.var 1) (.cons (.var 2) .nil))))) (.seq (.iff (.cmp .ne (.var 3) (.lst .nil)) (.seq (.ret (.tup (.cons (.var 2) (.cons (.idx (.var 3) (.cst (.int 0))) .nil)))) .skip) .skip) .skip))) (.seq (.ret (.cst .none)) .skip))
def d_find_first_turn : Rf.Def := ⟨4, 2, b_find_first_turn⟩
def b_first_turn : C := (.seq (.exp (.call "check_both" (.cons (.var 0) (.cons (.var 1) .nil)))) (.seq (.ret (.call "find_first_turn" (.cons (.var 0) (.cons (.var 1) .nil)))) .skip))
def d_first_turn : Rf.Def := ⟨2, 2, b_first_turn⟩
def b_turns_nobody : C := (.seq (.exp (.call "check_both" (.cons (.var 0) (.cons (.var 1) .nil)))) (.seq (.ret (.cmp .is (.call "find_first_turn" (.cons (.var 0) (.cons (.var 1) .nil))) (.cst .none))) .skip))
def d_turns_nobody : Rf.Def := ⟨2, 2, b_turns_nobody⟩
def b__law_put : C := (.seq (.ret (.bin .add (.bin .add (.sl (.var 0) .nil (.cons (.var 1) .nil)) (.tup (.cons (.var 2) .nil))) (.sl (.var 0) (.cons (.bin .add (.var 1) (.cst (.int 1))) .nil) .nil))) .skip)
def d__law_put : Rf.Def := ⟨3, 3, b__law_put⟩
def b_has_standing : C := (.seq (.iff (.bor (.cons (.bnot (.bi .isTuple (.cons (.var 1) .nil))) (.cons (.cmp .ne (.bi .len (.cons (.var 1) .nil)) (.bi .len (.cons (.call "find_matches" (.cons (.var 0) .nil)) .nil))) .nil))) (.seq (.ret (.cst (.bool false))) .skip) .skip) (.seq (.ret (.bi .all (.cons (.lc (.var 2) (.itm (.var 1)) .nil (.bor (.cons (.cmp .is (.var 2) (.cst .none)) (.cons (.band (.cons (.call "is_score" (.cons (.var 2) .nil)) (.cons (.cmp .isin (.var 2) (.idx (.var 0) (.cst (.int 2)))) .nil))) .nil)))) .nil))) .skip))
def d_has_standing : Rf.Def := ⟨3, 2, b_has_standing⟩
def b_is_standing : C := (.seq (.exp (.call "check_season" (.cons (.var 0) .nil))) (.seq (.ret (.call "has_standing" (.cons (.var 0) (.cons (.var 1) .nil)))) .skip))
def d_is_standing : Rf.Def := ⟨2, 2, b_is_standing⟩
def b_check_standing : C := (.seq (.iff (.bnot (.call "has_standing" (.cons (.var 0) (.cons (.var 1) .nil)))) (.seq (.raise "InvalidStanding") .skip) .skip) .skip)
def d_check_standing : Rf.Def := ⟨2, 2, b_check_standing⟩
def b_find_open : C := (.seq (.ret (.lc (.tup (.cons (.var 1) (.cons (.var 2) .nil))) (.enum (.var 0)) (.cons (.cmp .is (.var 2) (.cst .none)) .nil) (.var 1))) .skip)
def d_find_open : Rf.Def := ⟨3, 1, b_find_open⟩
def b_open_matches : C := (.seq (.exp (.call "check_season" (.cons (.var 0) .nil))) (.seq (.exp (.call "check_standing" (.cons (.var 0) (.cons (.var 1) .nil)))) (.seq (.ret (.call "find_open" (.cons (.var 1) .nil))) .skip)))
def d_open_matches : Rf.Def := ⟨2, 2, b_open_matches⟩
def b_completed : C := (.seq (.asg 2 false (.lst (.cons (.tup .nil) .nil))) (.seq (.for_ (.var 3) (.itm (.var 1)) (.seq (.asg 4 true (.lst .nil)) (.seq (.for_ (.var 5) (.itm (.var 2)) (.seq (.ext 4 (.lc (.var 6) (.itm (.ife (.cmp .isnot (.var 3) (.cst .none)) (.lst (.cons (.var 3) .nil)) (.idx (.var 0) (.cst (.int 2))))) .nil (.bin .add (.var 5) (.tup (.cons (.var 6) .nil))))) .skip)) (.fz 4 (.seq (.asg 2 false (.var 4)) .skip))))) (.seq (.ret (.var 2)) .skip)))
def d_completed : Rf.Def := ⟨7, 2, b_completed⟩
def b_check_midway : C := (.seq (.exp (.call "check_season" (.cons (.var 0) .nil))) (.seq (.exp (.call "check_book" (.cons (.var 1) .nil))) (.seq (.exp (.call "check_standing" (.cons (.var 0) (.cons (.var 2) .nil)))) .skip)))
def d_check_midway : Rf.Def := ⟨3, 3, b_check_midway⟩
def b_places : C := (.seq (.exp (.call "check_midway" (.cons (.var 0) (.cons (.var 1) (.cons (.var 2) .nil))))) (.seq (.exp (.call "check_side" (.cons (.var 0) (.cons (.var 3) .nil)))) (.seq (.asg 4 false (.lc (.var 5) (.itm (.call "completed" (.cons (.var 0) (.cons (.var 2) .nil)))) .nil (.call "find_place" (.cons (.call "find_table" (.cons (.var 0) (.cons (.var 1) (.cons (.var 5) .nil)))) (.cons (.var 3) .nil))))) (.seq (.ret (.bi .sortset (.cons (.var 4) .nil))) .skip))))
def d_places : Rf.Def := ⟨6, 4, b_places⟩
def b_matters : C := (.seq (.asg 2 true .dnew) (.seq (.for_ (.var 3) (.itm (.var 0)) (.seq (.asg 4 false (.bin .add (.sl (.var 3) .nil (.cons (.var 1) .nil)) (.sl (.var 3) (.cons (.bin .add (.var 1) (.cst (.int 1))) .nil) .nil))) (.seq (.iff (.cmp .ne (.dget (.var 2) (.var 4) (.idx (.var 0) (.var 3))) (.idx (.var 0) (.var 3))) (.seq (.ret (.cst (.bool true))) .skip) .skip) (.seq (.dput 2 (.var 4) (.idx (.var 0) (.var 3))) .skip)))) (.seq (.ret (.cst (.bool false))) .skip)))
def d_matters : Rf.Def := ⟨5, 2, b_matters⟩
def b_find_mattering : C := (.seq (.asg 4 true .dnew) (.seq (.for_ (.var 5) (.itm (.call "completed" (.cons (.var 0) (.cons (.var 2) .nil)))) (.seq (.dput 4 (.var 5) (.call "find_place" (.cons (.call "find_table" (.cons (.var 0) (.cons (.var 1) (.cons (.var 5) .nil)))) (.cons (.var 3) .nil)))) .skip)) (.fz 4 (.seq (.ret (.lc (.var 6) (.itm (.call "find_open" (.cons (.var 2) .nil))) (.cons (.call "matters" (.cons (.var 4) (.cons (.var 6) .nil))) .nil) (.var 6))) .skip))))
def d_find_mattering : Rf.Def := ⟨7, 4, b_find_mattering⟩
def b_mattering : C := (.seq (.exp (.call "check_midway" (.cons (.var 0) (.cons (.var 1) (.cons (.var 2) .nil))))) (.seq (.exp (.call "check_side" (.cons (.var 0) (.cons (.var 3) .nil)))) (.seq (.ret (.call "find_mattering" (.cons (.var 0) (.cons (.var 1) (.cons (.var 2) (.cons (.var 3) .nil)))))) .skip)))
def d_mattering : Rf.Def := ⟨4, 4, b_mattering⟩
def b_idle_matches : C := (.seq (.exp (.call "check_midway" (.cons (.var 0) (.cons (.var 1) (.cons (.var 2) .nil))))) (.seq (.asg 3 true (.lst .nil)) (.seq (.for_ (.var 4) (.itm (.call "find_sides" (.cons (.var 0) .nil))) (.seq (.ext 3 (.call "find_mattering" (.cons (.var 0) (.cons (.var 1) (.cons (.var 2) (.cons (.var 4) .nil)))))) .skip)) (.seq (.ret (.lc (.var 5) (.itm (.call "find_open" (.cons (.var 2) .nil))) (.cons (.cmp .notin (.var 5) (.var 3)) .nil) (.var 5))) .skip))))
def d_idle_matches : Rf.Def := ⟨6, 3, b_idle_matches⟩
def b__law_standing : C := (.seq (.asg 3 false (.call "_law_results" (.cons (.var 0) (.cons (.var 1) (.cons (.var 2) .nil))))) (.seq (.ret (.bi .tuple (.cons (.lc (.tup (.cons (.var 4) (.cons (.var 5) .nil))) (.enum (.var 3)) .nil (.ife (.cmp .eq (.call "_law_drawn" (.cons (.var 0) (.cons (.bin .add (.bin .add (.var 1) (.cst (.int 10))) (.var 4)) (.cons (.cst (.int 2)) .nil)))) (.cst (.int 0))) (.var 5) (.cst .none))) .nil))) .skip))
def d__law_standing : Rf.Def := ⟨6, 3, b__law_standing⟩
def b__law_rest : C := (.seq (.asg 2 true (.lst .nil)) (.seq (.for_ (.var 3) (.itm (.call "_law_all" (.cons (.var 0) .nil))) (.seq (.iff (.cmp .eq (.lc (.tup (.cons (.var 4) (.cons (.var 5) .nil))) (.enum (.var 1)) (.cons (.cmp .notin (.var 5) (.tup (.cons (.cst .none) (.cons (.idx (.var 3) (.var 4)) .nil)))) .nil) (.var 4)) (.lst .nil)) (.seq (.app 2 (.var 3)) .skip) .skip) .skip)) (.fz 2 (.seq (.ret (.var 2)) .skip))))
def d__law_rest : Rf.Def := ⟨6, 2, b__law_rest⟩
def b_do_settle : C := (.seq (.asg 2 true .dnew) (.seq (.for_ (.var 3) (.itm (.var 0)) (.seq (.asg 4 false (.bi .tuple (.cons (.lc (.var 5) (.itm (.var 1)) .nil (.idx (.var 3) (.var 5))) .nil))) (.seq (.iff (.cmp .ne (.dget (.var 2) (.var 4) (.idx (.var 0) (.var 3))) (.idx (.var 0) (.var 3))) (.seq (.ret (.cst (.bool false))) .skip) .skip) (.seq (.dput 2 (.var 4) (.idx (.var 0) (.var 3))) .skip)))) (.seq (.ret (.cst (.bool true))) .skip)))
def d_do_settle : Rf.Def := ⟨6, 2, b_do_settle⟩
def b_known_places : C := (.seq (.asg 4 true .dnew) (.seq (.for_ (.var 5) (.itm (.call "completed" (.cons (.var 0) (.cons (.var 2) .nil)))) (.seq (.dput 4 (.var 5) (.call "find_place" (.cons (.call "find_table" (.cons (.var 0) (.cons (.var 1) (.cons (.var 5) .nil)))) (.cons (.var 3) .nil)))) .skip)) (.fz 4 (.seq (.ret (.var 4)) .skip))))
def d_known_places : Rf.Def := ⟨6, 4, b_known_places⟩
def b_has_numbers : C := (.seq (.iff (.bnot (.bi .isTuple (.cons (.var 1) .nil))) (.seq (.ret (.cst (.bool false))) .skip) .skip) (.seq (.iff (.bnot (.bi .all (.cons (.lc (.var 2) (.itm (.var 1)) .nil (.band (.cons (.bi .isInt (.cons (.var 2) .nil)) (.cons (.bnot (.bi .isBool (.cons (.var 2) .nil))) .nil)))) .nil))) (.seq (.ret (.cst (.bool false))) .skip) .skip) (.seq (.iff (.bnot (.bi .all (.cons (.lc (.var 2) (.itm (.var 1)) .nil (.cmp .isin (.var 2) (.call "find_open" (.cons (.var 0) .nil)))) .nil))) (.seq (.ret (.cst (.bool false))) .skip) .skip) (.seq (.ret (.bi .all (.cons (.lc (.tup (.cons (.var 3) (.cons (.var 4) .nil))) (.zip (.var 1) (.sl (.var 1) (.cons (.cst (.int 1)) .nil) .nil)) .nil (.cmp .lt (.var 3) (.var 4))) .nil))) .skip))))
def d_has_numbers : Rf.Def := ⟨5, 2, b_has_numbers⟩
def b_settles : C := (.seq (.exp (.call "check_midway" (.cons (.var 0) (.cons (.var 1) (.cons (.var 2) .nil))))) (.seq (.exp (.call "check_side" (.cons (.var 0) (.cons (.var 3) .nil)))) (.seq (.iff (.bnot (.call "has_numbers" (.cons (.var 2) (.cons (.var 4) .nil)))) (.seq (.raise "InvalidNumbers") .skip) .skip) (.seq (.ret (.call "do_settle" (.cons (.call "known_places" (.cons (.var 0) (.cons (.var 1) (.cons (.var 2) (.cons (.var 3) .nil))))) (.cons (.var 4) .nil)))) .skip))))
def d_settles : Rf.Def := ⟨5, 5, b_settles⟩
def b_find_fewest : C := (.seq (.for_ (.var 2) (.itm (.call "lots" (.cons (.bi .len (.cons (.var 1) .nil)) .nil))) (.seq (.asg 3 false (.bi .tuple (.cons (.lc (.var 4) (.itm (.var 2)) .nil (.idx (.var 1) (.var 4))) .nil))) (.seq (.iff (.call "do_settle" (.cons (.var 0) (.cons (.var 3) .nil))) (.seq (.ret (.var 3)) .skip) .skip) .skip))) (.seq (.ret (.bi .tuple (.cons (.var 1) .nil))) .skip))
def d_find_fewest : Rf.Def := ⟨5, 2, b_find_fewest⟩
def b_fewest_settling : C := (.seq (.exp (.call "check_midway" (.cons (.var 0) (.cons (.var 1) (.cons (.var 2) .nil))))) (.seq (.exp (.call "check_side" (.cons (.var 0) (.cons (.var 3) .nil)))) (.seq (.ret (.call "find_fewest" (.cons (.call "known_places" (.cons (.var 0) (.cons (.var 1) (.cons (.var 2) (.cons (.var 3) .nil))))) (.cons (.call "find_open" (.cons (.var 2) .nil)) .nil)))) .skip)))
def d_fewest_settling : Rf.Def := ⟨4, 4, b_fewest_settling⟩
def b_fewest_for_table : C := (.seq (.exp (.call "check_midway" (.cons (.var 0) (.cons (.var 1) (.cons (.var 2) .nil))))) (.seq (.asg 3 true .dnew) (.seq (.for_ (.var 4) (.itm (.call "completed" (.cons (.var 0) (.cons (.var 2) .nil)))) (.seq (.dput 3 (.var 4) (.call "find_table" (.cons (.var 0) (.cons (.var 1) (.cons (.var 4) .nil))))) .skip)) (.fz 3 (.seq (.ret (.call "find_fewest" (.cons (.var 3) (.cons (.call "find_open" (.cons (.var 2) .nil)) .nil)))) .skip)))))
def d_fewest_for_table : Rf.Def := ⟨5, 3, b_fewest_for_table⟩
def ML : List (Str × Rf.Def) := [(("is_int" : Str), d_is_int), (("is_score" : Str), d_is_score), (("is_rising" : Str), d_is_rising), (("is_season" : Str), d_is_season), (("check_season" : Str), d_check_season), (("find_sides" : Str), d_find_sides), (("find_matches" : Str), d_find_matches), (("has_results" : Str), d_has_results), (("check_results" : Str), d_check_results), (("has_breaks" : Str), d_has_breaks), (("is_book" : Str), d_is_book), (("check_book" : Str), d_check_book), (("played" : Str), d_played), (("own_and_other" : Str), d_own_and_other), (("points_in" : Str), d_points_in), (("difference_in" : Str), d_difference_in), (("goals_in" : Str), d_goals_in), (("count_for" : Str), d_count_for), (("divided" : Str), d_divided), (("asked" : Str), d_asked), (("ranked" : Str), d_ranked), (("find_table" : Str), d_find_table), (("_law_drawn" : Str), d__law_drawn), (("_law_season" : Str), d__law_season), (("_law_matches" : Str), d__law_matches), (("_law_results" : Str), d__law_results), (("_law_book" : Str), d__law_book), (("_law_badseason" : Str), d__law_badseason), (("_law_badbook" : Str), d__law_badbook), (("_law_own" : Str), d__law_own), (("_law_count" : Str), d__law_count), (("_law_split" : Str), d__law_split), (("_law_table" : Str), d__law_table), (("has_group" : Str), d_has_group), (("find_place" : Str), d_find_place), (("check_side" : Str), d_check_side), (("has_table" : Str), d_has_table), (("check_table" : Str), d_check_table), (("matches" : Str), d_matches), (("count_results" : Str), d_count_results), (("is_results" : Str), d_is_results), (("find_all" : Str), d_find_all), (("all_results" : Str), d_all_results), (("_law_all" : Str), d__law_all), (("check_all" : Str), d_check_all), (("points" : Str), d_points), (("counts" : Str), d_counts), (("table_of" : Str), d_table_of), (("is_table" : Str), d_is_table), (("place_in" : Str), d_place_in), (("_law_place" : Str), d__law_place), (("all_tables" : Str), d_all_tables), (("find_for" : Str), d_find_for), (("results_for" : Str), d_results_for), (("first_results" : Str), d_first_results), (("sure_scores" : Str), d_sure_scores), (("_law_tables" : Str), d__law_tables), (("find_parting" : Str), d_find_parting), (("check_books" : Str), d_check_books), (("parting_results" : Str), d_parting_results), (("are_alike" : Str), d_are_alike), (("with_breaks" : Str), d_with_breaks), (("all_but" : Str), d_all_but), (("idle_breaks" : Str), d_idle_breaks), (("lots" : Str), d_lots), (("fewest_breaks" : Str), d_fewest_breaks), (("idle_words" : Str), d_idle_words), (("put_score" : Str), d_put_score), (("check_both" : Str), d_check_both), (("ahead_of" : Str), d_ahead_of), (("find_turns" : Str), d_find_turns), (("turns" : Str), d_turns), (("find_first_turn" : Str), d_find_first_turn), (("first_turn" : Str), d_first_turn), (("turns_nobody" : Str), d_turns_nobody), (("_law_put" : Str), d__law_put), (("has_standing" : Str), d_has_standing), (("is_standing" : Str), d_is_standing), (("check_standing" : Str), d_check_standing), (("find_open" : Str), d_find_open), (("open_matches" : Str), d_open_matches), (("completed" : Str), d_completed), (("check_midway" : Str), d_check_midway), (("places" : Str), d_places), (("matters" : Str), d_matters), (("find_mattering" : Str), d_find_mattering), (("mattering" : Str), d_mattering), (("idle_matches" : Str), d_idle_matches), (("_law_standing" : Str), d__law_standing), (("_law_rest" : Str), d__law_rest), (("do_settle" : Str), d_do_settle), (("known_places" : Str), d_known_places), (("has_numbers" : Str), d_has_numbers), (("settles" : Str), d_settles), (("find_fewest" : Str), d_find_fewest), (("fewest_settling" : Str), d_fewest_settling), (("fewest_for_table" : Str), d_fewest_for_table)]
def MG : List (Str × PyData) := [(("MAX_SIDES" : Str), .int 4), (("MAX_TWICE" : Str), .int 3), (("MAX_GOALS" : Str), .int 3), (("MAX_SCORES" : Str), .int 4), (("LETTERS" : Str), .str "abcd"), (("MAX_WIN" : Str), .int 3), (("MAX_BREAKS" : Str), .int 4), (("ANEW" : Str), .str "anew"), (("ONCE" : Str), .str "once"), (("SHARED" : Str), .str "shared"), (("DRAWN" : Str), .str "drawn"), (("WORDS" : Str), .tuple [.str "goals", .str "difference", .str "wins", .str "away", .str "direct", .str "directdiff"]), (("GOALS" : Str), .str "goals"), (("DIFFERENCE" : Str), .str "difference"), (("WINS" : Str), .str "wins"), (("AWAY" : Str), .str "away"), (("DIRECT" : Str), .str "direct"), (("POINTS" : Str), .str "points")]
def M : Tab := ⟨fun f => ML.lookup f, fun x => match MG.lookup x with | some d => .ok d | none => .bad, fun _ _ => false⟩
abbrev cM (n : Nat) (f : Str) (ds : List PyData) : R PyData := cd M n f ds
theorem MSA : SA M := by constructor <;> kernel_rfl
theorem MSR : SR M := by constructor <;> kernel_rfl
theorem MSB : SB M := by constructor <;> kernel_rfl
theorem MSC : SC M := by constructor <;> kernel_rfl
theorem MST : ST M := by constructor <;> kernel_rfl
theorem MLA : LA M := by constructor <;> kernel_rfl
theorem MLK : LK M := by constructor <;> kernel_rfl
theorem MLB : LB M := by constructor <;> kernel_rfl
theorem MLD : LD M := by constructor <;> kernel_rfl
theorem MLC : LC M := by constructor <;> kernel_rfl
theorem MLT : LT M := by constructor <;> kernel_rfl
theorem MSG : SG M := by constructor <;> kernel_rfl
theorem MSP : SP M := by constructor <;> kernel_rfl
theorem MSQ : SQ M := by constructor <;> kernel_rfl
end Cr

set_option Elab.async false
set_option linter.all false
set_option maxRecDepth 100000
set_option maxHeartbeats 4000000
namespace Cr
open Rf PySem
/-- the drawn number's end -/
def drTail : C := (.seq (.asg 3 false (.bin .mod (.bi .int (.cons (.bin .add (.bin .mul (.bin .mod (.bi .int (.cons (.var 3) .nil)) (.cst (.int 2147483563))) (.cst (.int 69069))) (.bin .mul (.cst (.int 104723)) (.bin .add (.var 1) (.cst (.int 1))))) .nil)) (.cst (.int 2147483563)))) (.seq (.asg 3 false (.bin .mod (.bi .int (.cons (.bin .add (.bin .mul (.var 3) (.var 3)) (.bin .fdiv (.var 3) (.cst (.int 3)))) .nil)) (.cst (.int 2147483399)))) (.seq (.ret (.bin .mod (.bi .int (.cons (.bin .fdiv (.bin .mod (.bi .int (.cons (.bin .add (.bin .mul (.var 3) (.var 3)) (.bin .fdiv (.var 3) (.cst (.int 7)))) .nil)) (.cst (.int 2147483647))) (.cst (.int 11))) .nil)) (.var 2))) .skip)))
theorem drTail_ok (S : Sig) (fuel : Nat) (a b c : Option (Bool × PyData)) (k many cell : Int) (hm : 0 < many) :
    ∃ r : Int, ex S fuel drTail [a, some (false, .int k), some (false, .int many), some (false, .int cell), b, c] = .rt (.int r) ∧ 0 ≤ r ∧ r < many := by
  have m1 : ∀ x y : Int, mulOk (x % 2147483563) y = true := fun x y => by
    unfold mulOk
    have h1 := Int.emod_nonneg x (by decide : (2147483563 : Int) ≠ 0)
    have h2 := Int.emod_lt_of_pos x (by decide : (0 : Int) < 2147483563)
    have : (decide (-(2 ^ 64) < x % 2147483563) && decide (x % 2147483563 < 2 ^ 64)) = true := by simp only [Bool.and_eq_true, decide_eq_true_eq]; omega
    rw [this, Bool.true_or]
  have m2 : ∀ x y : Int, mulOk (x % 2147483399) y = true := fun x y => by
    unfold mulOk
    have h1 := Int.emod_nonneg x (by decide : (2147483399 : Int) ≠ 0)
    have h2 := Int.emod_lt_of_pos x (by decide : (0 : Int) < 2147483399)
    have : (decide (-(2 ^ 64) < x % 2147483399) && decide (x % 2147483399 < 2 ^ 64)) = true := by simp only [Bool.and_eq_true, decide_eq_true_eq]; omega
    rw [this, Bool.true_or]
  have m3 : ∀ y : Int, mulOk 104723 y = true := fun y => rfl
  have hm' : decide (0 < many) = true := decide_eq_true hm
  let c1 : Int := (cell % 2147483563 * 69069 + 104723 * (k + 1)) % 2147483563
  let c2 : Int := (c1 * c1 + c1 / 3) % 2147483399
  refine ⟨((c2 * c2 + c2 / 7) % 2147483647 / 11) % many, ?_, Int.emod_nonneg _ (by omega), Int.emod_lt_of_pos _ hm⟩
  simp [ex, ev, evs, evC, evAnd, evOr, evO, its, evPar, drTail, m1, m2, m3, hm]
  rfl
theorem atI_ok {α : Type} (xs : List α) (i : Int) (h0 : 0 ≤ i) (h1 : i < xs.length) : ∃ x, L2.atI xs i = some x ∧ x ∈ xs := by
  have hl : i.toNat < xs.length := by omega
  refine ⟨xs[i.toNat], ?_, List.getElem_mem hl⟩
  unfold L2.atI L2.ixN
  rw [if_pos h0, if_pos h1]
  exact List.getElem?_eq_getElem hl
def drWc : C := (.band (.cons (.cmp .gt (.var 5) (.cst (.int 0))) (.cons (.cmp .gt (.var 4) (.cst (.int 0))) .nil)))
def drWb : C := (.seq (.asg 5 false (.bin .fdiv (.var 5) (.cst (.int 1000000)))) (.seq (.asg 4 false (.bin .sub (.var 4) (.cst (.int 1)))) .skip))
theorem drLoop (S : Sig) (fl : Nat) (a b c d : Option (Bool × PyData)) : ∀ (fuel t : Nat) (rest : Int), t < fuel → ∃ t' r' : Int, whileGo (fun env => (ev S true drWc env).bind toBool) (ex S fl drWb) fuel [a, b, c, d, some (false, .int t), some (false, .int rest)] = .nx [a, b, c, d, some (false, .int t'), some (false, .int r')] := by
  intro fuel
  induction fuel with
  | zero => intro t rest h; omega
  | succ fuel ih =>
    intro t rest h
    rw [whileGo]
    by_cases h1 : 0 < rest
    · cases t with
      | zero => exact ⟨0, rest, by simp [ex, ev, evs, evC, evAnd, evOr, evO, its, evPar, drWc, h1]⟩
      | succ t =>
        obtain ⟨t', r', e⟩ := ih t (rest / 1000000) (by omega)
        refine ⟨t', r', ?_⟩
        rw [← e]
        have h2 : (0 : Int) < ((t + 1 : Nat) : Int) := by omega
        have h3 : ((t + 1 : Nat) : Int) - 1 = (t : Int) := by omega
        simp [ex, ev, evs, evC, evAnd, evOr, evO, its, evPar, drWc, drWb, h1]
    · exact ⟨t, rest, by simp [ex, ev, evs, evC, evAnd, evOr, evO, its, evPar, drWc, h1]⟩
def drA : C := (.seq (.asg 3 false (.idx (.var 0) (.bin .mod (.bi .int (.cons (.var 1) .nil)) (.bi .len (.cons (.var 0) .nil))))) (.seq (.asg 4 false (.bin .fdiv (.var 1) (.bi .len (.cons (.var 0) .nil)))) (.seq (.iff (.band (.cons (.cmp .ge (.var 3) (.bin .pow (.cst (.int 10)) (.cst (.int 18)))) (.cons (.cmp .lt (.var 4) (.cst (.int 60))) .nil))) (.seq (.asg 5 false (.bin .fdiv (.var 3) (.bin .pow (.cst (.int 10)) (.cst (.int 18))))) (.seq (.while_ drWc drWb) (.seq (.iff (.cmp .gt (.var 5) (.cst (.int 0))) (.seq (.ret (.bin .mod (.bi .int (.cons (.bin .mod (.bi .int (.cons (.var 5) .nil)) (.cst (.int 1000000))) .nil)) (.var 2))) .skip) .skip) .skip))) .skip) (.seq (.asg 3 false (.bin .add (.var 3) (.bin .mul (.cst (.int 6553)) (.bin .fdiv (.var 1) (.bi .len (.cons (.var 0) .nil)))))) .skip))))
theorem drawn_term : b__law_drawn = .seq (.asg 3 false (.bin .mul (.cst (.int 7)) (.var 1))) (.seq (.iff (.cmp .ne (.var 0) (.lst .nil)) drA .skip) drTail) := rfl
theorem shaped_ints (ns : List Int) : SeqAt.shaped (.list (ns.map PyData.int)) = true := by
  unfold SeqAt.shaped
  have h1 : ∀ ns : List Int, PyData.canLayAll0 (ns.map PyData.int) = true := fun ns => by
    induction ns with
    | nil => rfl
    | cons n ns ih => simp [PyData.canLayAll0, PyData.canLay0, ih]
  have h2 := PySem.W.depth_ints ns
  simp [PyData.canLay0, h1, PyData.depth, h2]
theorem drA_ok (S : Sig) (n0 : Int) (ns0 : List Int) (k many : Int) (x y z : Option (Bool × PyData)) (hk : 0 ≤ k) (hl : (n0 :: ns0).length ≤ 63) (hm : 0 < many) :
    (∃ cell : Int, ∃ y' z', ex S 100 drA [some (false, .list ((n0 :: ns0).map .int)), some (false, .int k), some (false, .int many), x, y, z] = .nx [some (false, .list ((n0 :: ns0).map .int)), some (false, .int k), some (false, .int many), some (false, .int cell), y', z']) ∨
    ∃ r : Int, ex S 100 drA [some (false, .list ((n0 :: ns0).map .int)), some (false, .int k), some (false, .int many), x, y, z] = .rt (.int r) ∧ 0 ≤ r ∧ r < many := by
  generalize hns : n0 :: ns0 = ns at hl ⊢
  have hpos : 0 < ns.length := by rw [← hns]; simp
  have hL : (0 : Int) < (ns.length : Int) := by omega
  have hL2 : (ns.length : Int) < 2 ^ 200 := by omega
  have hmod0 := Int.emod_nonneg k (by omega : (ns.length : Int) ≠ 0)
  have hmod1 := Int.emod_lt_of_pos k hL
  obtain ⟨c, hc, hcm⟩ := atI_ok (ns.map PyData.int) (k % (ns.length : Int)) hmod0 (by simpa using hmod1)
  obtain ⟨cell, _, rfl⟩ := List.mem_map.mp hcm
  have hidx : ixD (.list (ns.map .int)) (.int (k % (ns.length : Int))) = .ok (.int cell) := by
    unfold ixD
    simp only [hc]
  have hq : 0 ≤ k / (ns.length : Int) := Int.ediv_nonneg hk (by omega)
  obtain ⟨t, ht⟩ : ∃ t : Nat, k / (ns.length : Int) = t := ⟨(k / (ns.length : Int)).toNat, by omega⟩
  have e1 : binD .mod (.int k) (.int (ns.length : Int)) = .ok (.int (k % (ns.length : Int))) := binD_modI hL
  have e2 : binD .fdiv (.int k) (.int (ns.length : Int)) = .ok (.int (t : Int)) := by rw [binD_fdivI hL hL2, ht]
  have e3 : mulOk 6553 (t : Int) = true := rfl
  by_cases h1 : (1000000000000000000 : Int) ≤ cell
  · by_cases h2 : (t : Int) < 60
    · obtain ⟨t', r', hw⟩ := drLoop S 100 (some (false, .list (ns.map .int))) (some (false, .int k)) (some (false, .int many)) (some (false, .int cell)) 100 t (cell / 1000000000000000000) (by omega)
      by_cases h3 : 0 < r'
      · refine .inr ⟨(r' % 1000000) % many, ?_, Int.emod_nonneg _ (by omega), Int.emod_lt_of_pos _ hm⟩
        simp [ex, ev, evs, evC, evAnd, evOr, evO, its, evPar, drA, hidx, e1, e2, e3, hm, h1, h2, hw, h3]
      · refine .inl ⟨cell + 6553 * t, some (false, .int t'), some (false, .int r'), ?_⟩
        simp [ex, ev, evs, evC, evAnd, evOr, evO, its, evPar, drA, hidx, e1, e2, e3, hm, h1, h2, hw, h3]
    · refine .inl ⟨cell + 6553 * t, some (false, .int t), z, ?_⟩
      simp [ex, ev, evs, evC, evAnd, evOr, evO, its, evPar, drA, hidx, e1, e2, e3, hm, h1, h2]
  · refine .inl ⟨cell + 6553 * t, some (false, .int t), z, ?_⟩
    simp [ex, ev, evs, evC, evAnd, evOr, evO, its, evPar, drA, hidx, e1, e2, e3, hm, h1]
/-- the drawn number -/
theorem ex_drawn (S : Sig) (ns : List Int) (k many : Int) (hl : ns.length ≤ 63) (hk : 0 ≤ k) (hm : 0 < many) :
    ∃ r : Int, ex S 100 b__law_drawn (startE 6 [.list (ns.map .int), .int k, .int many]) = .rt (.int r) ∧ 0 ≤ r ∧ r < many := by
  have e0 : mulOk 7 k = true := rfl
  have hs1 : shp (.list (ns.map PyData.int)) = true := shaped_ints ns
  have hs2 : shp (.list []) = true := rfl
  cases ns with
  | nil =>
    obtain ⟨r, h1, h2⟩ := drTail_ok S 100 (some (false, .list [])) none none k many (7 * k) hm
    refine ⟨r, ?_, h2⟩
    rw [← h1, drawn_term]
    simp [ex, ev, evs, startE, e0, hs2, PyData.eqv, PyData.eqvAll]
  | cons n0 ns0 =>
    have hne : PyData.eqv (.list ((n0 :: ns0).map .int)) (.list []) = false := by simp [PyData.eqv, PyData.eqvAll]
    rcases drA_ok S n0 ns0 k many (some (false, .int (7 * k))) none none hk hl hm with ⟨cell, y', z', e⟩ | ⟨r, e, h2⟩
    · obtain ⟨r, h1, h2⟩ := drTail_ok S 100 (some (false, .list ((n0 :: ns0).map .int))) y' z' k many cell hm
      refine ⟨r, ?_, h2⟩
      rw [← h1, drawn_term]
      simp only [List.map_cons] at e hs1 hne
      simp [ex, ev, evs, startE, e0, hs1, hs2, hne, e]
    · refine ⟨r, ?_, h2⟩
      rw [drawn_term]
      simp only [List.map_cons] at e hs1 hne
      simp [ex, ev, evs, startE, e0, hs1, hs2, hne, e]
end Cr

set_option Elab.async false
set_option linter.all false
set_option maxRecDepth 100000
set_option maxHeartbeats 4000000
namespace Cr
open Rf PySem
abbrev P2 (a : Int × Int) : PyData := .tuple [.int a.1, .int a.2]
def lex (a b : Int × Int) : Bool := decide (a.1 < b.1 ∨ (a.1 = b.1 ∧ a.2 ≤ b.2))
theorem lex_total : PySem.W.TotalLe lex := ⟨fun a b c h1 h2 => by unfold lex at *; simp only [decide_eq_true_eq] at *; omega, fun a b => by unfold lex; simp only [decide_eq_true_eq]; omega⟩
theorem lex_le (a b : Int × Int) : PySem.W.dataLe false id (P2 a) (P2 b) = lex a b := by
  have h := congrFun (congrFun (PySem.W.dataLe_ii (fun a : Int × Int => a.1) (fun a => a.2)) a) b
  exact h
theorem isort_map {α β : Type} {le : β → β → Bool} {le' : α → α → Bool} (f : α → β) (h : ∀ a b, le (f a) (f b) = le' a b) : ∀ l : List α, isort le (l.map f) = (isort le' l).map f
  | [] => rfl
  | x :: xs => by
    have hi : ∀ (x : α) (l : List α), ins le (f x) (l.map f) = (ins le' x l).map f := fun x l => by
      induction l with
      | nil => rfl
      | cons y ys ih =>
        simp only [List.map_cons, ins, h]
        cases le' x y with
        | true => rfl
        | false => simp only [List.map_cons, ih]
    show ins le (f x) (isort le (xs.map f)) = (ins le' x (isort le' xs)).map f
    rw [isort_map f h xs, hi]
theorem sortD_pairs (ss : List (Int × Int)) (hl : ss.length ≤ 1000) : sortD false (ss.map P2) = .ok (.list ((isort lex ss).map P2)) := by
  unfold sortD
  have h1 : decide ((ss.map P2).length ≤ lineN) = true := decide_eq_true (by rw [List.length_map]; exact Nat.le_trans hl (by decide))
  have h2 : alikeAllB (ss.map P2) = true := by
    unfold alikeAllB
    simp [List.all_map, PySem.W.alike, PySem.W.alikeAll]
  have h3 : sortableB (ss.map P2) = true := by
    unfold sortableB
    simp [List.all_map]
  have h4 : depthB (ss.map P2) = true := by
    unfold depthB
    simp [List.all_map, PyData.depth, PyData.depthAll]
  have h5 : nodics (ss.map P2) = true := by
    clear hl h1 h2 h3 h4
    induction ss with
    | nil => rfl
    | cons a ss ih => rw [List.map_cons, nodics, ih]; rfl
  rw [h1, h2, h3, h4, h5, isort_map P2 lex_le]
  rfl
/-- ascending, none twice -/
def Rise (ss : List (Int × Int)) : Prop := ss.Pairwise fun a b => a.1 < b.1 ∨ (a.1 = b.1 ∧ a.2 < b.2)
theorem distinct_len {α : Type} [DecidableEq α] : ∀ l : List α, (distinct l).length ≤ l.length
  | [] => Nat.le_refl _
  | x :: xs => by
    unfold distinct
    have := distinct_len xs
    split
    · simp; omega
    · simp; omega
theorem nodup_of_len {α : Type} [DecidableEq α] : ∀ l : List α, l.length ≤ (distinct l).length → l.Nodup
  | [], _ => .nil
  | x :: xs, h => by
    unfold distinct at h
    have := distinct_len xs
    split at h
    · simp at h; omega
    · rename_i q
      have q := of_decide_eq_false q
      exact List.nodup_cons.mpr ⟨q, nodup_of_len xs (by simp at h; omega)⟩
theorem lenset_pairs (ss : List (Int × Int)) (hl : ss.length < 64) : lenSetD (.list (ss.map P2)) = R.ok (PyData.int ((distinct (ss.map fun a => [a.1, a.2])).length : Nat)) := by
  have h1 : keysD (ss.map P2) = .ok (ss.map fun a => [a.1, a.2]) := by
    induction ss with
    | nil => rfl
    | cons a ss ih =>
      have ih := ih (by simp at hl; omega)
      simp [keysD, tupInts, intsOf, ih]
  cases ss with
  | nil => rfl
  | cons a ss =>
  show R.chk (decide (((a :: ss).map P2).length < 64)) ((keysD ((a :: ss).map P2)).bind fun ks => R.ok (PyData.int ((distinct ks).length : Nat))) = _
  rw [decide_eq_true (by rw [List.length_map]; exact hl), h1]
  rfl
theorem rise_sort (ss : List (Int × Int)) (h : ss.length ≤ (distinct (ss.map fun a => [a.1, a.2])).length) : Rise (isort lex ss) := by
  have nd : ss.Nodup := by
    have := nodup_of_len (ss.map fun a => [a.1, a.2]) (by rw [List.length_map]; exact h)
    exact List.Pairwise.of_map (fun a : Int × Int => [a.1, a.2]) (fun a b h z => h (by rw [z])) this
  have nd2 : (isort lex ss).Nodup := (isort_perm.nodup_iff).mpr nd
  have pw : (isort lex ss).Pairwise (fun a b => lex a b = true) := isort_pair lex_total
  unfold Rise
  refine List.Pairwise.imp (fun {a b} h => ?_) (List.Pairwise.and pw nd2)
  obtain ⟨h1, h2⟩ := h
  unfold lex at h1
  have h1 := of_decide_eq_true h1
  rcases h1 with h1 | ⟨h1, h3⟩
  · exact .inl h1
  · refine .inr ⟨h1, ?_⟩
    have : a.2 ≠ b.2 := fun z => h2 (Prod.ext h1 z)
    omega

abbrev season (m l : Int) (ss : List (Int × Int)) : PyData := .tuple [.int m, .int l, .tuple (ss.map P2)]
def InR (ss : List (Int × Int)) : Prop := ∀ a ∈ ss, (0 ≤ a.1 ∧ a.1 ≤ 3) ∧ (0 ≤ a.2 ∧ a.2 ≤ 3)
def seaTail : C := (.seq (.iff (.cmp .lt (.bi .lenset (.cons (.var 4) .nil)) (.var 8)) (.seq (.asg 4 false (.sl (.lst (.cons (.tup (.cons (.cst (.int 0)) (.cons (.cst (.int 0)) .nil))) (.cons (.tup (.cons (.cst (.int 0)) (.cons (.cst (.int 1)) .nil))) (.cons (.tup (.cons (.cst (.int 1)) (.cons (.cst (.int 0)) .nil))) .nil)))) .nil (.cons (.var 8) .nil))) .skip) .skip) (.seq (.ret (.tup (.cons (.var 6) (.cons (.var 7) (.cons (.bi .tuple (.cons (.bi .sorted (.cons (.var 4) .nil)) .nil)) .nil))))) .skip))
theorem seaTail_ok (S : Sig) (o : Bool) (e0 e1 e2 e3 e5 e9 : Option (Bool × PyData)) (m l : Int) (ss : List (Int × Int)) (hl : ss.length = 2 ∨ ss.length = 3) (hr : InR ss) :
    ∃ ss', ex S 100 seaTail [e0, e1, e2, e3, some (o, .list (ss.map P2)), e5, some (false, .int m), some (false, .int l), some (false, .int ss.length), e9] = .rt (season m l ss') ∧ ss'.length = ss.length ∧ InR ss' ∧ Rise ss' := by
  have hz : ss.length < 64 := by omega
  have hle : ∀ n : Nat, n ≤ 1000 → decide (n ≤ lineN) = true := fun n h => decide_eq_true (Nat.le_trans h (by decide))
  have h3 : R.chk (decide (3 ≤ lineN)) (R.ok (PyData.tuple [])) = R.ok (PyData.tuple []) := rfl
  by_cases h : ss.length ≤ (distinct (ss.map fun a => [a.1, a.2])).length
  · refine ⟨isort lex ss, ?_, isort_perm.length_eq, fun a ha => hr a (isort_perm.mem_iff.mp ha), rise_sort ss h⟩
    have hn : ¬ ((distinct (ss.map fun a => [a.1, a.2])).length < ss.length) := by omega
    have e1' := lenset_pairs ss hz
    have e2' := sortD_pairs ss (by omega)
    simp [ex, ev, evs, seaTail, e1', e2', hn, hle]
  · have hd : (distinct (ss.map fun a => [a.1, a.2])).length < ss.length := by omega
    have e1' := lenset_pairs ss hz
    rcases hl with hl | hl
    · refine ⟨[(0, 0), (0, 1)], ?_, hl.symm, by intro a ha; simp at ha; rcases ha with rfl | rfl <;> decide, by unfold Rise; simp⟩
      rw [hl] at hd ⊢
      have hd' : (((distinct (ss.map fun a => [a.1, a.2])).length : Nat) : Int) < 2 := by omega
      have e3' : sortD false [P2 (0, 0), P2 (0, 1)] = .ok (.list [P2 (0, 0), P2 (0, 1)]) := by kernel_rfl
      simp only [P2] at e3'
      simp [ex, ev, evs, evO, optInt, slD, cutL, HT.sIx, seaTail, e1', hd', hle, e3']
    · refine ⟨[(0, 0), (0, 1), (1, 0)], ?_, hl.symm, by intro a ha; simp at ha; rcases ha with rfl | rfl | rfl <;> decide, by unfold Rise; simp⟩
      rw [hl] at hd ⊢
      have hd' : (((distinct (ss.map fun a => [a.1, a.2])).length : Nat) : Int) < 3 := by omega
      have e3' : sortD false [P2 (0, 0), P2 (0, 1), P2 (1, 0)] = .ok (.list [P2 (0, 0), P2 (0, 1), P2 (1, 0)]) := by kernel_rfl
      simp only [P2] at e3'
      simp [ex, ev, evs, evO, optInt, slD, cutL, HT.sIx, seaTail, e1', hd', hle, e3']

/-- the drawn numbers, as the other defs see them -/
def Draws (S : Sig) (sc : PyData) : Prop := ∀ k many : Int, 0 ≤ k → 0 < many → ∃ r : Int, S.cl "_law_drawn" [sc, .int k, .int many] = .ok (.int r) ∧ 0 ≤ r ∧ r < many
def KC (m l c : Int) : Prop := (m = 3 ∧ l = 1 ∧ c = 3) ∨ (m = 3 ∧ l = 1 ∧ c = 2) ∨ (m = 2 ∧ l = 2 ∧ c = 3) ∨ (m = 4 ∧ l = 1 ∧ c = 2) ∨ (m = 3 ∧ l = 2 ∧ c = 2)
def kinds (m l : Int) : Prop := (m = 3 ∧ l = 1) ∨ (m = 2 ∧ l = 2) ∨ (m = 4 ∧ l = 1) ∨ (m = 3 ∧ l = 2)
def seaLoop : C := (.for_ (.var 5) (.rng (.cons (.var 8) .nil)) (.seq (.app 4 (.tup (.cons (.call "_law_drawn" (.cons (.var 0) (.cons (.bin .add (.bin .add (.var 1) (.cst (.int 1))) (.bin .mul (.cst (.int 2)) (.var 5))) (.cons (.cst (.int 4)) .nil)))) (.cons (.call "_law_drawn" (.cons (.var 0) (.cons (.bin .add (.bin .add (.var 1) (.cst (.int 2))) (.bin .mul (.cst (.int 2)) (.var 5))) (.cons (.cst (.int 3)) .nil)))) .nil)))) .skip))
theorem season_term : b__law_season = .seq (.asg 3 false (.lst (.cons (.tup (.cons (.cst (.int 3)) (.cons (.cst (.int 1)) (.cons (.cst (.int 3)) (.cons (.cst (.int 27)) .nil))))) (.cons (.tup (.cons (.cst (.int 3)) (.cons (.cst (.int 1)) (.cons (.cst (.int 2)) (.cons (.cst (.int 8)) .nil))))) (.cons (.tup (.cons (.cst (.int 2)) (.cons (.cst (.int 2)) (.cons (.cst (.int 3)) (.cons (.cst (.int 9)) .nil))))) (.cons (.tup (.cons (.cst (.int 3)) (.cons (.cst (.int 1)) (.cons (.cst (.int 3)) (.cons (.cst (.int 27)) .nil))))) (.cons (.tup (.cons (.cst (.int 4)) (.cons (.cst (.int 1)) (.cons (.cst (.int 2)) (.cons (.cst (.int 64)) .nil))))) .nil))))))) (.seq (.asg 3 false (.bin .add (.var 3) (.lst (.cons (.tup (.cons (.cst (.int 3)) (.cons (.cst (.int 2)) (.cons (.cst (.int 2)) (.cons (.cst (.int 64)) .nil))))) .nil)))) (.seq (.unp (.tup (.cons (.var 6) (.cons (.var 7) (.cons (.var 8) (.cons (.var 9) .nil))))) (.idx (.var 3) (.call "_law_drawn" (.cons (.var 0) (.cons (.var 1) (.cons (.cst (.int 6)) .nil)))))) (.seq (.iff (.cmp .gt (.var 9) (.var 2)) (.seq (.par (.cons (.var 6) (.cons (.var 7) (.cons (.var 8) .nil))) [false, false, false] (.cons (.cst (.int 3)) (.cons (.cst (.int 1)) (.cons (.cst (.int 2)) .nil)))) .skip) .skip) (.seq (.asg 4 true (.lst .nil)) (.seq seaLoop seaTail))))) := rfl
theorem seaLoop_ok (S : Sig) (sc : PyData) (hd : Draws S sc) (e2 e3 e6 e7 e9 : Option (Bool × PyData)) (e5 : Option (Bool × PyData)) (c : Int) (hc : c = 2 ∨ c = 3) :
    ∃ ss : List (Int × Int), ∃ e5', ex S 100 seaLoop [some (false, sc), some (false, .int 10), e2, e3, some (true, .list []), e5, e6, e7, some (false, .int c), e9] = .nx [some (false, sc), some (false, .int 10), e2, e3, some (true, .list (ss.map P2)), e5', e6, e7, some (false, .int c), e9] ∧ (ss.length : Int) = c ∧ InR ss := by
  obtain ⟨a1, h1, p1⟩ := hd 11 4 (by decide) (by decide)
  obtain ⟨b1, g1, q1⟩ := hd 12 3 (by decide) (by decide)
  obtain ⟨a2, h2, p2⟩ := hd 13 4 (by decide) (by decide)
  obtain ⟨b2, g2, q2⟩ := hd 14 3 (by decide) (by decide)
  obtain ⟨a3, h3, p3⟩ := hd 15 4 (by decide) (by decide)
  obtain ⟨b3, g3, q3⟩ := hd 16 3 (by decide) (by decide)
  have m2 : ∀ k : Int, mulOk 2 k = true := fun _ => rfl
  have hle : ∀ n : Nat, n ≤ 1000 → decide (n ≤ lineN) = true := fun n h => decide_eq_true (Nat.le_trans h (by decide))
  have r2 : rngD [.int 2] = .ok [.int 0, .int 1] := by kernel_rfl
  have r3 : rngD [.int 3] = .ok [.int 0, .int 1, .int 2] := by kernel_rfl
  rcases hc with rfl | rfl
  · refine ⟨[(a1, b1), (a2, b2)], some (false, .int 1), ?_, rfl, ?_⟩
    · simp [ex, ev, evs, its, seaLoop, r2, forGo, bindT, R.chk, m2, h1, g1, h2, g2, hle, ownL, appO]
    · intro a ha
      simp only [List.mem_cons, List.not_mem_nil, or_false] at ha
      rcases ha with rfl | rfl <;> (simp only; omega)
  · refine ⟨[(a1, b1), (a2, b2), (a3, b3)], some (false, .int 2), ?_, rfl, ?_⟩
    · simp [ex, ev, evs, its, seaLoop, r3, forGo, bindT, R.chk, m2, h1, g1, h2, g2, h3, g3, hle, ownL, appO]
    · intro a ha
      simp only [List.mem_cons, List.not_mem_nil, or_false] at ha
      rcases ha with rfl | rfl | rfl <;> (simp only; omega)
def knownL : List PyData := [.tuple [.int 3, .int 1, .int 3, .int 27], .tuple [.int 3, .int 1, .int 2, .int 8], .tuple [.int 2, .int 2, .int 3, .int 9], .tuple [.int 3, .int 1, .int 3, .int 27], .tuple [.int 4, .int 1, .int 2, .int 64], .tuple [.int 3, .int 2, .int 2, .int 64]]
theorem ex_season (S : Sig) (sc : PyData) (hd : Draws S sc) (mo : Int) (hmo : 27 ≤ mo) : ∃ m l ss, ex S 100 b__law_season (startE 10 [sc, .int 10, .int mo]) = .rt (season m l ss) ∧ KC m l ss.length ∧ InR ss ∧ Rise ss := by
  obtain ⟨r, h1, h2, h3⟩ := hd 10 6 (by decide) (by decide)
  have hle : ∀ n : Nat, n ≤ 1000 → decide (n ≤ lineN) = true := fun n h => decide_eq_true (Nat.le_trans h (by decide))
  have go : ∀ (m l c z : Int) (e3 : Option (Bool × PyData)), KC m l c → ∃ ss, ((ex S 100 seaLoop [some (false, sc), some (false, .int 10), some (false, .int mo), e3, some (true, .list []), none, some (false, .int m), some (false, .int l), some (false, .int c), some (false, .int z)]).then (ex S 100 seaTail)) = .rt (season m l ss) ∧ KC m l ss.length ∧ InR ss ∧ Rise ss := fun m l c z e3 hk => by
    have hc : c = 2 ∨ c = 3 := by unfold KC at hk; omega
    obtain ⟨ss, e5', e, hl, hr⟩ := seaLoop_ok S sc hd (some (false, .int mo)) e3 (some (false, .int m)) (some (false, .int l)) (some (false, .int z)) none c hc
    rw [e]
    obtain ⟨ss', g1, g2, g3, g4⟩ := seaTail_ok S true (some (false, sc)) (some (false, .int 10)) (some (false, .int mo)) e3 e5' (some (false, .int z)) m l ss (by omega) hr
    rw [hl] at g1
    exact ⟨ss', g1, by rw [g2, hl]; exact hk, g3, g4⟩
  have fin : ∀ (m l c z : Int) (e3 : Option (Bool × PyData)), KC m l c → ex S 100 b__law_season (startE 10 [sc, .int 10, .int mo]) = ((ex S 100 seaLoop [some (false, sc), some (false, .int 10), some (false, .int mo), e3, some (true, .list []), none, some (false, .int m), some (false, .int l), some (false, .int c), some (false, .int z)]).then (ex S 100 seaTail)) → ∃ m l ss, ex S 100 b__law_season (startE 10 [sc, .int 10, .int mo]) = .rt (season m l ss) ∧ KC m l ss.length ∧ InR ss ∧ Rise ss := fun m l c z e3 hk e => by
    obtain ⟨ss, g, rest⟩ := go m l c z e3 hk
    exact ⟨m, l, ss, e.trans g, rest⟩
  have h27 : ¬ mo < 27 := by omega
  have h8 : ¬ mo < 8 := by omega
  have h9 : ¬ mo < 9 := by omega
  have hr : r = 0 ∨ r = 1 ∨ r = 2 ∨ r = 3 ∨ r = 4 ∨ r = 5 := by omega
  rcases hr with rfl | rfl | rfl | rfl | rfl | rfl
  · refine fin 3 1 3 27 (some (false, .list knownL)) (by unfold KC; omega) ?_
    rw [season_term]
    simp [ex, ev, evs, startE, hle, h1, h27, h8, h9, ixD, L2.atI, L2.ixN, bindT, bindTs, R.chk, knownL]
  · refine fin 3 1 2 8 (some (false, .list knownL)) (by unfold KC; omega) ?_
    rw [season_term]
    simp [ex, ev, evs, startE, hle, h1, h27, h8, h9, ixD, L2.atI, L2.ixN, bindT, bindTs, R.chk, knownL]
  · refine fin 2 2 3 9 (some (false, .list knownL)) (by unfold KC; omega) ?_
    rw [season_term]
    simp [ex, ev, evs, startE, hle, h1, h27, h8, h9, ixD, L2.atI, L2.ixN, bindT, bindTs, R.chk, knownL]
  · refine fin 3 1 3 27 (some (false, .list knownL)) (by unfold KC; omega) ?_
    rw [season_term]
    simp [ex, ev, evs, startE, hle, h1, h27, h8, h9, ixD, L2.atI, L2.ixN, bindT, bindTs, R.chk, knownL]
  · by_cases h64 : mo < 64
    · refine fin 3 1 2 64 (some (false, .list knownL)) (by unfold KC; omega) ?_
      rw [season_term]
      simp [ex, ev, evs, startE, hle, h1, h27, h8, h9, h64, evPar, putPar, ixD, L2.atI, L2.ixN, bindT, bindTs, R.chk, knownL]
    · refine fin 4 1 2 64 (some (false, .list knownL)) (by unfold KC; omega) ?_
      rw [season_term]
      simp [ex, ev, evs, startE, hle, h1, h27, h8, h9, h64, evPar, putPar, ixD, L2.atI, L2.ixN, bindT, bindTs, R.chk, knownL]
  · by_cases h64 : mo < 64
    · refine fin 3 1 2 64 (some (false, .list knownL)) (by unfold KC; omega) ?_
      rw [season_term]
      simp [ex, ev, evs, startE, hle, h1, h27, h8, h9, h64, evPar, putPar, ixD, L2.atI, L2.ixN, bindT, bindTs, R.chk, knownL]
    · refine fin 3 2 2 64 (some (false, .list knownL)) (by unfold KC; omega) ?_
      rw [season_term]
      simp [ex, ev, evs, startE, hle, h1, h27, h8, h9, h64, evPar, putPar, ixD, L2.atI, L2.ixN, bindT, bindTs, R.chk, knownL]
end Cr

set_option Elab.async false
set_option linter.all false
set_option maxRecDepth 100000
set_option maxHeartbeats 4000000
/-! Core texts, part 3: a season is asked. -/
namespace Cr
open Rf PySem
theorem ex_is_int (S : Sig) (i a b : Int) : ex S 100 b_is_int (startE 3 [.int i, .int a, .int b]) = .rt (.bool (decide (a ≤ i) && decide (i ≤ b))) := by
  by_cases h : a ≤ i
  · simp [ex, ev, evs, evAnd, startE, b_is_int, isIntD, isBoolD, h]
  · simp [ex, ev, evs, evAnd, startE, b_is_int, isIntD, isBoolD, h]
def IntOk (S : Sig) : Prop := ∀ i a b : Int, S.cl "is_int" [.int i, .int a, .int b] = .ok (.bool (decide (a ≤ i) && decide (i ≤ b)))
theorem eqv_int (i j : Int) : PyData.eqv (.int i) (.int j) = decide (i = j) := by
  simp only [PyData.eqv]
  by_cases h : i = j <;> simp [h]
theorem ex_is_score (S : Sig) (hI : IntOk S) (hG : S.gl "MAX_GOALS" = .ok (.int 3)) (p : Int × Int) : ex S 100 b_is_score (startE 2 [P2 p]) = .rt (.bool (decide (0 ≤ p.1) && decide (p.1 ≤ 3) && (decide (0 ≤ p.2) && decide (p.2 ≤ 3)))) := by
  have e : ∀ i j : Int, shp (.int i) = true := fun _ _ => rfl
  simp [ex, ev, evs, evC, evAnd, its, startE, b_is_score, isTupleD, eqD, shp, SeqAt.shaped, PyData.canLay0, PyData.depth, eqv_int, lcGo, bindT, tgVars, wipeE, hI _ _ _, hG, boolsOf, R.chk, R.nox]
theorem cmpP2 (p q : Int × Int) : cmpB .lt (P2 p) (P2 q) = .ok (PySem.W.dataLt (P2 p) (P2 q)) := by
  refine cmpB_ltT ?_ ?_ rfl rfl
  · simp [PySem.W.alike, PySem.W.alikeAll]
  · simp [PyData.depth, PyData.depthAll]
theorem ex_is_rising2 (S : Sig) (p q : Int × Int) (h : Rise [p, q]) : ex S 100 b_is_rising (startE 3 [.tuple [P2 p, P2 q]]) = .rt (.bool true) := by
  have h1 : p.1 < q.1 ∨ (p.1 = q.1 ∧ p.2 < q.2) := by simpa [Rise] using h
  have d1 : PySem.W.dataLt (P2 p) (P2 q) = true := by rw [PySem.W.dataLt_ii]; exact decide_eq_true h1
  simp [ex, ev, evs, evC, evO, optInt, its, startE, b_is_rising, slD, cutL, HT.sIx, zips, lcGo, bindT, bindTs, tgVars, wipeE, boolsOf, R.chk, R.nox, PySem.W.alike, PySem.W.alikeAll, PyData.depth, PyData.depthAll, cmpP2, d1]
theorem ex_is_rising3 (S : Sig) (p q r : Int × Int) (h : Rise [p, q, r]) : ex S 100 b_is_rising (startE 3 [.tuple [P2 p, P2 q, P2 r]]) = .rt (.bool true) := by
  have h0 : ((p.1 < q.1 ∨ (p.1 = q.1 ∧ p.2 < q.2)) ∧ (p.1 < r.1 ∨ (p.1 = r.1 ∧ p.2 < r.2))) ∧ (q.1 < r.1 ∨ (q.1 = r.1 ∧ q.2 < r.2)) := by simpa [Rise] using h
  have d1 : PySem.W.dataLt (P2 p) (P2 q) = true := by rw [PySem.W.dataLt_ii]; exact decide_eq_true h0.1.1
  have d2 : PySem.W.dataLt (P2 q) (P2 r) = true := by rw [PySem.W.dataLt_ii]; exact decide_eq_true h0.2
  simp [ex, ev, evs, evC, evO, optInt, its, startE, b_is_rising, slD, cutL, HT.sIx, zips, lcGo, bindT, bindTs, tgVars, wipeE, boolsOf, R.chk, R.nox, PySem.W.alike, PySem.W.alikeAll, PyData.depth, PyData.depthAll, cmpP2, d1, d2]
theorem ex_is_season (S : Sig) (m l : Int) (ss : List (Int × Int)) (hk : kinds m l) (hl : ss.length = 2 ∨ ss.length = 3) (hI : IntOk S) (hsc : ∀ p ∈ ss, S.cl "is_score" [P2 p] = .ok (.bool true)) (hri : S.cl "is_rising" [.tuple (ss.map P2)] = .ok (.bool true))
    (g1 : S.gl "MAX_SIDES" = .ok (.int 4)) (g2 : S.gl "MAX_TWICE" = .ok (.int 3)) (g3 : S.gl "MAX_SCORES" = .ok (.int 4)) : ex S 100 b_is_season (startE 5 [season m l ss]) = .rt (.bool true) := by
  match ss, hl with
  | [p, q], _ =>
    have a1 := hsc p (by simp)
    have a2 := hsc q (by simp)
    simp only [List.map_cons, List.map_nil] at hri
    rcases hk with ⟨rfl, rfl⟩ | ⟨rfl, rfl⟩ | ⟨rfl, rfl⟩ | ⟨rfl, rfl⟩ <;>
      simp [ex, ev, evs, evC, evAnd, evOr, its, startE, b_is_season, isTupleD, eqD, shp, SeqAt.shaped, PyData.canLay0, PyData.depth, eqv_int, lcGo, bindT, bindTs, tgVars, wipeE, hI _ _ _, g1, g2, g3, boolsOf, R.chk, R.nox, a1, a2, hri]
  | [p, q, r], _ =>
    have a1 := hsc p (by simp)
    have a2 := hsc q (by simp)
    have a3 := hsc r (by simp)
    simp only [List.map_cons, List.map_nil] at hri
    rcases hk with ⟨rfl, rfl⟩ | ⟨rfl, rfl⟩ | ⟨rfl, rfl⟩ | ⟨rfl, rfl⟩ <;>
      simp [ex, ev, evs, evC, evAnd, evOr, its, startE, b_is_season, isTupleD, eqD, shp, SeqAt.shaped, PyData.canLay0, PyData.depth, eqv_int, lcGo, bindT, bindTs, tgVars, wipeE, hI _ _ _, g1, g2, g3, boolsOf, R.chk, R.nox, a1, a2, a3, hri]

/-! the calls -/
section
variable {t : Tab}
theorem draws (h : LA t) (n : Nat) (ns : List Int) (hl : ns.length ≤ 63) : Draws (Sg t (n + 1)) (.list (ns.map .int)) := fun k many hk hm => by
  obtain ⟨r, e, hr⟩ := ex_drawn (Sg t n) ns k many hl hk hm
  refine ⟨r, ?_, hr⟩
  have q : cd t (n + 1) "_law_drawn" [.list (ns.map .int), .int k, .int many] = .ok (.int r) := by
    rw [cd_succ t h._law_drawn rfl]
    show (ex (Sg t n) 100 b__law_drawn (startE 6 _)).fin = _
    rw [e]
    rfl
  exact q
theorem intOk (h : SA t) (n : Nat) : IntOk (Sg t (n + 1)) := fun i a b => by
  have q : cd t (n + 1) "is_int" [.int i, .int a, .int b] = .ok (.bool (decide (a ≤ i) && decide (i ≤ b))) := by
    rw [cd_succ t h.is_int rfl]
    show (ex (Sg t n) 100 b_is_int (startE 3 _)).fin = _
    rw [ex_is_int]
    rfl
  exact q
theorem cd_score (h : SA t) (n : Nat) (p : Int × Int) (hp : (0 ≤ p.1 ∧ p.1 ≤ 3) ∧ (0 ≤ p.2 ∧ p.2 ≤ 3)) : cd t (n + 2) "is_score" [P2 p] = .ok (.bool true) := by
  rw [cd_succ t h.is_score rfl]
  show (ex (Sg t (n + 1)) 100 b_is_score (startE 2 _)).fin = _
  rw [ex_is_score _ (intOk h n) h.MAX_GOALS]
  simp [hp]
theorem cd_rising (h : SA t) (n : Nat) (ss : List (Int × Int)) (hl : ss.length = 2 ∨ ss.length = 3) (hr : Rise ss) : cd t (n + 1) "is_rising" [.tuple (ss.map P2)] = .ok (.bool true) := by
  rw [cd_succ t h.is_rising rfl]
  show (ex (Sg t n) 100 b_is_rising (startE 3 _)).fin = _
  match ss, hl with
  | [p, q], _ => rw [show [p, q].map P2 = [P2 p, P2 q] from rfl, ex_is_rising2 _ p q hr]; rfl
  | [p, q, r], _ => rw [show [p, q, r].map P2 = [P2 p, P2 q, P2 r] from rfl, ex_is_rising3 _ p q r hr]; rfl
/-- a drawn season -/
structure Sea (m l : Int) (ss : List (Int × Int)) : Prop where
  k : KC m l ss.length
  r : InR ss
  u : Rise ss
theorem Sea.len {m l : Int} {ss : List (Int × Int)} (h : Sea m l ss) : ss.length = 2 ∨ ss.length = 3 := by have := h.k; unfold KC at this; omega
theorem cd_is_season (h : SA t) (n : Nat) {m l : Int} {ss : List (Int × Int)} (hs : Sea m l ss) : cd t (n + 3) "is_season" [season m l ss] = .ok (.bool true) := by
  rw [cd_succ t h.is_season rfl]
  show (ex (Sg t (n + 2)) 100 b_is_season (startE 5 _)).fin = _
  rw [ex_is_season (Sg t (n + 2)) m l ss (by have := hs.k; unfold KC at this; unfold kinds; omega) hs.len (intOk h (n + 1)) (fun p hp => cd_score h n p (hs.r p hp)) (cd_rising h (n + 1) ss hs.len hs.u) h.MAX_SIDES h.MAX_TWICE h.MAX_SCORES]
  rfl
theorem cd_check_season (h : SA t) (n : Nat) {m l : Int} {ss : List (Int × Int)} (hs : Sea m l ss) : cd t (n + 4) "check_season" [season m l ss] = .ok .none := by
  rw [cd_succ t h.check_season rfl]
  show (ex (Sg t (n + 3)) 100 b_check_season (startE 1 _)).fin = _
  have e : (Sg t (n + 3)).cl "is_season" [season m l ss] = .ok (.bool true) := cd_is_season h n hs
  generalize Sg t (n + 3) = S at e ⊢
  simp [ex, ev, evs, startE, b_check_season, e]
theorem cd_law_season (h : LA t) (n : Nat) (ns : List Int) (hl : ns.length ≤ 63) (mo : Int) (hmo : 27 ≤ mo) : ∃ m l ss, cd t (n + 2) "_law_season" [.list (ns.map .int), .int 10, .int mo] = .ok (season m l ss) ∧ Sea m l ss := by
  obtain ⟨m, l, ss, e, h1, h2, h3⟩ := ex_season (Sg t (n + 1)) (.list (ns.map .int)) (draws h n ns hl) mo hmo
  refine ⟨m, l, ss, ?_, h1, h2, h3⟩
  rw [cd_succ t h._law_season rfl]
  show (ex (Sg t (n + 1)) 100 b__law_season (startE 10 _)).fin = _
  rw [e]
  rfl
end
end Cr

set_option Elab.async false
set_option linter.all false
set_option maxRecDepth 100000
set_option maxHeartbeats 4000000
/-! Core texts, part 4: sides, groups, rows; what a word counts (the program's way). -/
namespace Cr
open Rf PySem

/-! ### sides, groups, matches, rows -/
abbrev Sd := Fin 4
abbrev sd (i : Sd) : PyData := .str ⟨#[97 + i.val]⟩
abbrev grp (g : List Sd) : Str := ⟨(g.map fun i => 97 + i.val).toArray⟩
abbrev gd (g : List Sd) : PyData := .str (grp g)
abbrev encM (p : Sd × Sd) : PyData := .tuple [sd p.1, sd p.2]
abbrev Row := (Sd × Sd) × (Int × Int)
abbrev encRow (r : Row) : PyData := .tuple [encM r.1, P2 r.2]
def own (r : Row) (s : Sd) : Int × Int := if r.1.1 = s then r.2 else (r.2.2, r.2.1)
def hasS (s : Sd) (r : Row) : Bool := decide (r.1.1 = s) || decide (r.1.2 = s)
theorem eqv_str (a b : Str) : PyData.eqv (.str a) (.str b) = decide (a = b) := by
  simp only [PyData.eqv]
  by_cases h : a = b <;> simp [h]
theorem eqv_sd (i j : Sd) : PyData.eqv (sd i) (sd j) = decide (i = j) := by
  rw [eqv_str]
  revert i j
  decide
theorem shp_sd (i : Sd) : shp (sd i) = true := by
  revert i
  decide +kernel
theorem eqD_sd (i j : Sd) : eqD (sd i) (sd j) = .ok (decide (i = j)) := by
  rw [eqD_ok2 (shp_sd i) (shp_sd j), eqv_sd]
theorem eqD_int (a b : Int) : eqD (.int a) (.int b) = .ok (decide (a = b)) := by
  rw [← eqv_int]; rfl
theorem shp_pair (i j : Sd) : shp (.tuple [sd i, sd j]) = true := by
  revert i j
  decide +kernel
theorem inD_pair (s i j : Sd) : inD (sd s) (.tuple [sd i, sd j]) = .ok (decide (i = s) || decide (j = s)) := by
  show R.chk (shp (sd s) && shp (.tuple [sd i, sd j])) (.ok ([sd i, sd j].any fun z => PyData.eqv z (sd s))) = _
  rw [List.any_cons, List.any_cons, List.any_nil, eqv_sd, eqv_sd, Bool.or_false, shp_sd, shp_pair]
  rfl
theorem inD_grp (i : Sd) (g : List Sd) : inD (sd i) (gd g) = .ok (decide (i ∈ g)) := by
  show R.ok (!(Builtin.Str.occurrences (grp g) ⟨#[97 + i.val]⟩ 0 (grp g).length 1).isEmpty) = _
  rw [StrLaws.found_one]
  congr 1
  have e : ((97 + i.val) ∈ (grp g).cps.toList) ↔ i ∈ g := by
    show (97 + i.val) ∈ (g.map fun i => 97 + i.val).toArray.toList ↔ _
    simp only [List.mem_map]
    exact ⟨fun ⟨j, h1, h2⟩ => by have : j = i := Fin.ext (by omega)
                                 exact this ▸ h1, fun h => ⟨i, h, rfl⟩⟩
  by_cases h : i ∈ g
  · rw [decide_eq_true h, decide_eq_true (e.mpr h)]
  · rw [decide_eq_false h, decide_eq_false (fun z => h (e.mp z))]
theorem items_grp (g : List Sd) (h : g.length ≤ 1000) : items (gd g) = .ok (g.map sd) := by
  show R.chk (decide ((grp g).length ≤ lineN)) (.ok ((grp g).cps.toList.map fun c => PyData.str ⟨#[c]⟩)) = _
  have e : (grp g).length = g.length := by
    show (g.map fun i => 97 + i.val).toArray.size = _
    simp
  rw [e, decide_eq_true (Nat.le_trans h (by decide))]
  show R.ok (((g.map fun i => 97 + i.val).toArray.toList).map _) = _
  simp [List.map_map, Function.comp_def]
@[simp] theorem ix0 {a b : PyData} : ixD (.tuple [a, b]) (.int 0) = .ok a := rfl
@[simp] theorem ix1 {a b : PyData} : ixD (.tuple [a, b]) (.int 1) = .ok b := rfl
@[simp] theorem len2 {a b : PyData} : decide ([a, b].length ≤ lineN) = true := rfl
/-! ### comprehensions and loops over typed items -/
def lcS (S : Sig) (tg cond elt : C) (env : Rf.Env) (x : PyData) : R (Option PyData) :=
  ((bindT tg x (wipeE env (tgVars tg))).bind fun env' => (evC S cond env').bind fun k => match k with | true => (ev S false elt env').bind fun d => .ok (some d) | false => .ok none).nox
theorem lcGo_map {α : Type} {f : PyData → R (Option PyData)} (enc : α → PyData) (g : α → Option PyData) : ∀ {xs : List α}, (∀ x ∈ xs, f (enc x) = .ok (g x)) → lcGo f (xs.map enc) = .ok (xs.filterMap g)
  | [], _ => rfl
  | x :: xs, h => by
    rw [List.map_cons, lcGo, h x (List.mem_cons_self ..), R.bind_ok, lcGo_map enc g (fun y hy => h y (List.mem_cons_of_mem _ hy)), R.bind_ok]
    cases e : g x with
    | none => rw [List.filterMap_cons_none e]
    | some d => rw [List.filterMap_cons_some e]
theorem ev_lc {α : Type} {S : Sig} {t : Bool} {tg it cond elt : C} {env : Rf.Env} {xs : List α} (enc : α → PyData) (g : α → Option PyData) (hi : its S it env = .ok (xs.map enc)) (hf : ∀ x ∈ xs, lcS S tg cond elt env (enc x) = .ok (g x)) :
    ev S t (.lc tg it cond elt) env = .ok (.list (xs.filterMap g)) := by
  rw [ev, hi, R.bind_ok]
  show (lcGo (lcS S tg cond elt env) (xs.map enc)).bind _ = _
  rw [lcGo_map enc g hf]
  rfl
/-- each taken: no condition -/
theorem filterMap_some' {α β : Type} (g : α → β) : ∀ xs : List α, (xs.filterMap fun x => some (g x)) = xs.map g
  | [] => rfl
  | x :: xs => by rw [List.map_cons, ← filterMap_some' g xs]; rfl
theorem filterMap_if {α β : Type} (p : α → Bool) (g : α → β) : ∀ xs : List α, (xs.filterMap fun x => if p x = true then some (g x) else none) = (xs.filter p).map g
  | [] => rfl
  | x :: xs => by
    cases h : p x with
    | true => rw [List.filterMap_cons_some (b := g x) (by simp [h]), List.filter_cons_of_pos h, filterMap_if p g xs]; rfl
    | false => rw [List.filterMap_cons_none (by simp [h]), List.filter_cons_of_neg (by simp [h]), filterMap_if p g xs]
theorem intsOf_map (l : List Int) : intsOf (l.map PyData.int) = .ok l := by
  induction l with
  | nil => rfl
  | cons i l ih => rw [List.map_cons, intsOf, ih]; rfl
/-! ### the calls -/
theorem ex_own (S : Sig) (r : Row) (s : Sd) : ex S 100 b_own_and_other (startE 4 [encRow r, sd s]) = .rt (P2 (own r s)) := by
  have e := eqD_sd r.1.1 s
  unfold own
  by_cases h : r.1.1 = s
  · rw [decide_eq_true h] at e
    rw [if_pos h]
    simp only [sd] at e
    simp [ex, ev, evs, startE, b_own_and_other, bindT, bindTs, R.chk, e]
  · rw [decide_eq_false h] at e
    rw [if_neg h]
    simp only [sd] at e
    simp [ex, ev, evs, startE, b_own_and_other, bindT, bindTs, R.chk, e]
theorem cd_own (n : Nat) (r : Row) (s : Sd) : cM (n + 1) "own_and_other" [encRow r, sd s] = .ok (P2 (own r s)) := by
  show cd M (n + 1) _ _ = _
  rw [cd_succ M MSC.own_and_other rfl]
  show (ex (Sg M n) 100 b_own_and_other (startE 4 _)).fin = _
  rw [ex_own]
  rfl
def OwnOk (S : Sig) : Prop := ∀ (r : Row) (s : Sd), S.cl "own_and_other" [encRow r, sd s] = .ok (P2 (own r s))
/-- points of one row -/
def pt (w d : Int) (o : Int × Int) : Int := if o.1 > o.2 then w else if o.1 = o.2 then d else 0
def ptsS (w d : Int) (rows : List Row) (s : Sd) : Int := ((rows.filter (hasS s)).map fun r => pt w d (own r s)).sum
def ptsB : C := (.seq (.iff (.cmp .isin (.var 2) (.idx (.var 4) (.cst (.int 0)))) (.seq (.unp (.tup (.cons (.var 5) (.cons (.var 6) .nil))) (.call "own_and_other" (.cons (.var 4) (.cons (.var 2) .nil)))) (.seq (.asg 3 false (.bin .add (.var 3) (.ife (.cmp .gt (.var 5) (.var 6)) (.idx (.var 0) (.cst (.int 0))) (.ife (.cmp .eq (.var 5) (.var 6)) (.idx (.var 0) (.cst (.int 1))) (.cst (.int 0)))))) .skip)) .skip) .skip)
/-- what a book is to the counts -/
structure Bk (bk : PyData) (w d : Int) : Prop where
  win : ixD bk (.int 0) = .ok (.int w)
  draw : ixD bk (.int 1) = .ok (.int d)
theorem pts_loop (S : Sig) (hO : OwnOk S) {bk : PyData} {w d : Int} (hb : Bk bk w d) (rl : PyData) (s : Sd) : ∀ (rows : List Row) (v : Int) (x4 x5 x6 : Option (Bool × PyData)), ∃ y4 y5 y6, forGo (fun x env => (bindT (.var 4) x env).toS env (ex S 100 ptsB)) (rows.map encRow) [some (false, bk), some (false, rl), some (false, sd s), some (false, .int v), x4, x5, x6] =
    .nx [some (false, bk), some (false, rl), some (false, sd s), some (false, .int (v + ptsS w d rows s)), y4, y5, y6]
  | [], v, x4, x5, x6 => ⟨x4, x5, x6, by simp [forGo, ptsS]⟩
  | r :: rows, v, x4, x5, x6 => by
    have e1 := inD_pair s r.1.1 r.1.2
    cases hh : hasS s r with
    | false =>
      obtain ⟨y4, y5, y6, e⟩ := pts_loop S hO hb rl s rows v (some (false, encRow r)) x5 x6
      refine ⟨y4, y5, y6, ?_⟩
      have e2 : ptsS w d (r :: rows) s = ptsS w d rows s := by unfold ptsS; rw [List.filter_cons_of_neg (by simp [hh])]
      rw [show (decide (r.1.1 = s) || decide (r.1.2 = s)) = false from hh] at e1
      rw [e2, ← e, List.map_cons, forGo]
      simp [ptsB, ex, ev, evs, bindT, R.chk, e1]
    | true =>
      obtain ⟨y4, y5, y6, e⟩ := pts_loop S hO hb rl s rows (v + pt w d (own r s)) (some (false, encRow r)) (some (false, .int (own r s).1)) (some (false, .int (own r s).2))
      refine ⟨y4, y5, y6, ?_⟩
      have e2 : v + ptsS w d (r :: rows) s = v + pt w d (own r s) + ptsS w d rows s := by unfold ptsS; rw [List.filter_cons_of_pos hh, List.map_cons, List.sum_cons]; omega
      rw [show (decide (r.1.1 = s) || decide (r.1.2 = s)) = true from hh] at e1
      have e3 := eqD_int (own r s).1 (own r s).2
      rw [e2, ← e, List.map_cons, forGo]
      unfold pt
      by_cases h1 : (own r s).1 > (own r s).2
      · simp [ptsB, ex, ev, evs, bindT, bindTs, R.chk, e1, hO r s, h1, hb.win]
      · by_cases h2 : (own r s).1 = (own r s).2
        · simp [ptsB, ex, ev, evs, bindT, bindTs, R.chk, e1, hO r s, hb.draw, eqD_int, h2]
        · simp [ptsB, ex, ev, evs, bindT, bindTs, R.chk, e1, hO r s, h1, eqD_int, h2]
theorem cd_points (n : Nat) {bk : PyData} {w d : Int} (hb : Bk bk w d) (rows : List Row) (s : Sd) : cM (n + 2) "points_in" [bk, .list (rows.map encRow), sd s] = .ok (.int (ptsS w d rows s)) := by
  show cd M (n + 2) _ _ = _
  rw [cd_succ M MSC.points_in rfl]
  show (ex (Sg M (n + 1)) 100 b_points_in (startE 7 _)).fin = _
  have hO : OwnOk (Sg M (n + 1)) := cd_own n
  generalize Sg M (n + 1) = S at hO ⊢
  obtain ⟨y4, y5, y6, e⟩ := pts_loop S hO hb (.list (rows.map encRow)) s rows 0 none none none
  have term : b_points_in = .seq (.asg 3 false (.cst (.int 0))) (.seq (.for_ (.var 4) (.itm (.var 1)) ptsB) (.seq (.ret (.var 3)) .skip)) := rfl
  have e2 : ex S 100 (.for_ (.var 4) (.itm (.var 1)) ptsB) [some (false, bk), some (false, .list (rows.map encRow)), some (false, sd s), some (false, .int 0), none, none, none] = .nx [some (false, bk), some (false, .list (rows.map encRow)), some (false, sd s), some (false, .int (0 + ptsS w d rows s)), y4, y5, y6] := by
    rw [ex]
    have e3 : its S (.itm (.var 1)) [some (false, bk), some (false, .list (rows.map encRow)), some (false, sd s), some (false, .int 0), none, none, none] = .ok (rows.map encRow) := by simp [its, ev]
    rw [e3, R.toS_ok]
    exact e
  rw [term]
  generalize hF : (C.for_ (.var 4) (.itm (.var 1)) ptsB) = F at e2 ⊢
  simp [ex, ev, startE, e2]
end Cr

set_option Elab.async false
set_option linter.all false
set_option maxRecDepth 100000
set_option maxHeartbeats 4000000
/-! Core texts, part 5: what a word counts (the program's way). -/
namespace Cr
open Rf PySem

/-! ### words -/
inductive Wd where | goals | difference | wins | away | direct | directdiff | points
  deriving DecidableEq
def Wd.str : Wd → Str
  | .goals => "goals" | .difference => "difference" | .wins => "wins" | .away => "away" | .direct => "direct" | .directdiff => "directdiff" | .points => "points"
theorem eqD_w (a b : Wd) : eqD (.str a.str) (.str b.str) = .ok (decide (a = b)) := by
  cases a <;> cases b <;> kernel_rfl
def sumOf (f : Row → Int) (rows : List Row) : Int := (rows.map f).sum
def diffS (rows : List Row) (s : Sd) : Int := sumOf (fun r => (own r s).1 - (own r s).2) (rows.filter (hasS s))
def goalsS (rows : List Row) (s : Sd) : Int := sumOf (fun r => (own r s).1) (rows.filter (hasS s))
def awayS (rows : List Row) (s : Sd) : Int := sumOf (fun r => r.2.2) (rows.filter fun r => decide (r.1.2 = s))
def winsS (rows : List Row) (s : Sd) : Int := (((rows.filter (hasS s)).map fun r => own r s).filter fun o => decide (o.1 > o.2)).length
def amongS (g : List Sd) (rows : List Row) : List Row := rows.filter fun r => decide (r.1.1 ∈ g) && decide (r.1.2 ∈ g)
/-- what a word counts for a side of a group -/
def cntS (w d : Int) (rows : List Row) (g : List Sd) : Wd → Sd → Int
  | .goals, s => goalsS rows s
  | .difference, s => diffS rows s
  | .wins, s => winsS rows s
  | .away, s => awayS rows s
  | .direct, s => ptsS w d (amongS g rows) s
  | .directdiff, s => diffS (amongS g rows) s
  | .points, s => ptsS w d rows s

/-! ### difference -/
def dfB : C := (.seq (.iff (.cmp .isin (.var 1) (.idx (.var 3) (.cst (.int 0)))) (.seq (.unp (.tup (.cons (.var 4) (.cons (.var 5) .nil))) (.call "own_and_other" (.cons (.var 3) (.cons (.var 1) .nil)))) (.seq (.asg 2 false (.bin .sub (.bin .add (.var 2) (.var 4)) (.var 5))) .skip)) .skip) .skip)
theorem df_loop (S : Sig) (hO : OwnOk S) (rl : PyData) (s : Sd) : ∀ (rows : List Row) (v : Int) (x3 x4 x5 : Option (Bool × PyData)), ∃ y3 y4 y5, forGo (fun x env => (bindT (.var 3) x env).toS env (ex S 100 dfB)) (rows.map encRow) [some (false, rl), some (false, sd s), some (false, .int v), x3, x4, x5] =
    .nx [some (false, rl), some (false, sd s), some (false, .int (v + diffS rows s)), y3, y4, y5]
  | [], v, x3, x4, x5 => ⟨x3, x4, x5, by simp [forGo, diffS, sumOf]⟩
  | r :: rows, v, x3, x4, x5 => by
    have e1 := inD_pair s r.1.1 r.1.2
    cases hh : hasS s r with
    | false =>
      obtain ⟨y3, y4, y5, e⟩ := df_loop S hO rl s rows v (some (false, encRow r)) x4 x5
      refine ⟨y3, y4, y5, ?_⟩
      have e2 : diffS (r :: rows) s = diffS rows s := by unfold diffS sumOf; rw [List.filter_cons_of_neg (by simp [hh])]
      rw [show (decide (r.1.1 = s) || decide (r.1.2 = s)) = false from hh] at e1
      rw [e2, ← e, List.map_cons, forGo]
      simp [dfB, ex, ev, evs, bindT, R.chk, e1]
    | true =>
      obtain ⟨y3, y4, y5, e⟩ := df_loop S hO rl s rows (v + (own r s).1 - (own r s).2) (some (false, encRow r)) (some (false, .int (own r s).1)) (some (false, .int (own r s).2))
      refine ⟨y3, y4, y5, ?_⟩
      have e2 : v + diffS (r :: rows) s = v + (own r s).1 - (own r s).2 + diffS rows s := by unfold diffS sumOf; rw [List.filter_cons_of_pos hh, List.map_cons, List.sum_cons]; omega
      rw [show (decide (r.1.1 = s) || decide (r.1.2 = s)) = true from hh] at e1
      rw [e2, ← e, List.map_cons, forGo]
      simp [dfB, ex, ev, evs, bindT, bindTs, R.chk, e1, hO r s]
theorem cd_diff (n : Nat) (rows : List Row) (s : Sd) : cM (n + 2) "difference_in" [.list (rows.map encRow), sd s] = .ok (.int (diffS rows s)) := by
  show cd M (n + 2) _ _ = _
  rw [cd_succ M MSC.difference_in rfl]
  show (ex (Sg M (n + 1)) 100 b_difference_in (startE 6 _)).fin = _
  have hO : OwnOk (Sg M (n + 1)) := cd_own n
  generalize Sg M (n + 1) = S at hO ⊢
  obtain ⟨y3, y4, y5, e⟩ := df_loop S hO (.list (rows.map encRow)) s rows 0 none none none
  have term : b_difference_in = .seq (.asg 2 false (.cst (.int 0))) (.seq (.for_ (.var 3) (.itm (.var 0)) dfB) (.seq (.ret (.var 2)) .skip)) := rfl
  have e2 : ex S 100 (.for_ (.var 3) (.itm (.var 0)) dfB) [some (false, .list (rows.map encRow)), some (false, sd s), some (false, .int 0), none, none, none] = .nx [some (false, .list (rows.map encRow)), some (false, sd s), some (false, .int (0 + diffS rows s)), y3, y4, y5] := by
    rw [ex]
    have e3 : its S (.itm (.var 0)) [some (false, .list (rows.map encRow)), some (false, sd s), some (false, .int 0), none, none, none] = .ok (rows.map encRow) := by simp [its, ev]
    rw [e3, R.toS_ok]
    exact e
  rw [term]
  generalize hF : (C.for_ (.var 3) (.itm (.var 0)) dfB) = F at e2 ⊢
  simp [ex, ev, startE, e2]

/-! ### sums of comprehensions -/
theorem sum_lc {S : Sig} {env : Rf.Env} {l : C} {is : List Int} (h : ev S true l env = .ok (.list (is.map .int))) {t : Bool} : ev S t (.bi .sum (.cons l .nil)) env = .ok (.int is.sum) := by
  rw [ev, evs, h, R.bind_ok, evs]
  show (intsOf (is.map .int)).bind _ = _
  rw [intsOf_map]
  rfl
theorem len_lc {S : Sig} {env : Rf.Env} {l : C} {ds : List PyData} (h : ev S true l env = .ok (.list ds)) {t : Bool} : ev S t (.bi .len (.cons l .nil)) env = .ok (.int ds.length) := by
  rw [ev, evs, h, R.bind_ok, evs]
  rfl
theorem fm_ints {p : Row → Bool} {f : Row → Int} (rows : List Row) : (rows.filterMap fun r => if p r = true then some (PyData.int (f r)) else none) = ((rows.filter p).map f).map PyData.int := by
  rw [filterMap_if p (fun r => PyData.int (f r)), List.map_map]
  rfl
def lcG : C := .lc (.var 2) (.itm (.var 0)) (.cons (.cmp .isin (.var 1) (.idx (.var 2) (.cst (.int 0)))) .nil) (.idx (.call "own_and_other" (.cons (.var 2) (.cons (.var 1) .nil))) (.cst (.int 0)))
theorem cd_goals (n : Nat) (rows : List Row) (s : Sd) : cM (n + 2) "goals_in" [.list (rows.map encRow), sd s] = .ok (.int (goalsS rows s)) := by
  show cd M (n + 2) _ _ = _
  rw [cd_succ M MSC.goals_in rfl]
  show (ex (Sg M (n + 1)) 100 b_goals_in (startE 3 _)).fin = _
  have hO : OwnOk (Sg M (n + 1)) := cd_own n
  generalize Sg M (n + 1) = S at hO ⊢
  have e : ev S true lcG [some (false, .list (rows.map encRow)), some (false, sd s), none] = .ok (.list (((rows.filter (hasS s)).map fun r => (own r s).1).map .int)) := by
    unfold lcG
    rw [ev_lc (xs := rows) encRow (fun r => if hasS s r = true then some (.int (own r s).1) else none) (by simp [its, ev]) fun r _ => ?_, fm_ints]
    have e1 := inD_pair s r.1.1 r.1.2
    cases hh : hasS s r with
    | false =>
      rw [show (decide (r.1.1 = s) || decide (r.1.2 = s)) = false from hh] at e1
      simp [lcS, ev, evs, evC, bindT, tgVars, wipeE, R.chk, R.nox, e1]
    | true =>
      rw [show (decide (r.1.1 = s) || decide (r.1.2 = s)) = true from hh] at e1
      simp [lcS, ev, evs, evC, bindT, tgVars, wipeE, R.chk, R.nox, e1, hO r s]
  have e2 := sum_lc e (t := false)
  have term : b_goals_in = .seq (.ret (.bi .sum (.cons lcG .nil))) .skip := rfl
  rw [term]
  generalize hF : (C.bi .sum (.cons lcG .nil)) = F at e2 ⊢
  simp [ex, startE, e2, goalsS, sumOf]
/-! ### count_for -/
def lcAw : C := .lc (.tup (.cons (.var 9) (.cons (.var 10) .nil))) (.itm (.var 1)) (.cons (.cmp .eq (.idx (.var 9) (.cst (.int 1))) (.var 4)) .nil) (.idx (.var 10) (.cst (.int 1)))
def lcOw : C := .lc (.var 7) (.itm (.var 1)) (.cons (.cmp .isin (.var 4) (.idx (.var 7) (.cst (.int 0)))) .nil) (.call "own_and_other" (.cons (.var 7) (.cons (.var 4) .nil)))
def lcWi : C := .lc (.var 8) (.itm (.var 6)) (.cons (.cmp .gt (.idx (.var 8) (.cst (.int 0))) (.idx (.var 8) (.cst (.int 1)))) .nil) (.var 8)
def lcAm : C := .lc (.var 7) (.itm (.var 1)) (.cons (.band (.cons (.cmp .isin (.idx (.idx (.var 7) (.cst (.int 0))) (.cst (.int 0))) (.var 2)) (.cons (.cmp .isin (.idx (.idx (.var 7) (.cst (.int 0))) (.cst (.int 1))) (.var 2)) .nil))) .nil) (.var 7)
theorem cf_term : b_count_for = .seq (.iff (.cmp .eq (.var 3) (.glob "GOALS")) (.seq (.ret (.call "goals_in" (.cons (.var 1) (.cons (.var 4) .nil)))) .skip) .skip) (.seq (.iff (.cmp .eq (.var 3) (.glob "DIFFERENCE")) (.seq (.ret (.call "difference_in" (.cons (.var 1) (.cons (.var 4) .nil)))) .skip) .skip) (.seq (.iff (.cmp .eq (.var 3) (.glob "AWAY")) (.seq (.ret (.bi .sum (.cons lcAw .nil))) .skip) .skip) (.seq (.iff (.cmp .eq (.var 3) (.glob "WINS")) (.seq (.asg 6 false lcOw) (.seq (.ret (.bi .len (.cons lcWi .nil))) .skip)) .skip) (.seq (.asg 5 false lcAm) (.seq (.ret (.ife (.cmp .eq (.var 3) (.glob "DIRECT")) (.call "points_in" (.cons (.var 0) (.cons (.var 5) (.cons (.var 4) .nil)))) (.call "difference_in" (.cons (.var 5) (.cons (.var 4) .nil))))) .skip))))) := rfl
theorem cd_count (n : Nat) {bk : PyData} {w d : Int} (hb : Bk bk w d) (rows : List Row) (g : List Sd) (wd : Wd) (hw : wd ≠ .points) (s : Sd) : cM (n + 3) "count_for" [bk, .list (rows.map encRow), gd g, .str wd.str, sd s] = .ok (.int (cntS w d rows g wd s)) := by
  show cd M (n + 3) _ _ = _
  rw [cd_succ M MSC.count_for rfl]
  show (ex (Sg M (n + 2)) 100 b_count_for (startE 11 _)).fin = _
  have hO : OwnOk (Sg M (n + 2)) := cd_own (n + 1)
  have hP : ∀ rows s, (Sg M (n + 2)).cl "points_in" [bk, .list (rows.map encRow), sd s] = .ok (.int (ptsS w d rows s)) := fun rows s => cd_points n hb rows s
  have hD : ∀ rows s, (Sg M (n + 2)).cl "difference_in" [.list (rows.map encRow), sd s] = .ok (.int (diffS rows s)) := fun rows s => cd_diff n rows s
  have hG : ∀ rows s, (Sg M (n + 2)).cl "goals_in" [.list (rows.map encRow), sd s] = .ok (.int (goalsS rows s)) := fun rows s => cd_goals n rows s
  have g1 : (Sg M (n + 2)).gl "GOALS" = .ok (.str Wd.goals.str) := MSC.GOALS
  have g2 : (Sg M (n + 2)).gl "DIFFERENCE" = .ok (.str Wd.difference.str) := MSC.DIFFERENCE
  have g3 : (Sg M (n + 2)).gl "WINS" = .ok (.str Wd.wins.str) := MSC.WINS
  have g4 : (Sg M (n + 2)).gl "AWAY" = .ok (.str Wd.away.str) := MSC.AWAY
  have g5 : (Sg M (n + 2)).gl "DIRECT" = .ok (.str Wd.direct.str) := MSC.DIRECT
  generalize Sg M (n + 2) = S at hO hP hD hG g1 g2 g3 g4 g5 ⊢
  have eAw : ∀ x5 x6 x7 x8 x9 x10, ev S true lcAw [some (false, bk), some (false, .list (rows.map encRow)), some (false, gd g), some (false, .str wd.str), some (false, sd s), x5, x6, x7, x8, x9, x10] = .ok (.list (((rows.filter fun r => decide (r.1.2 = s)).map fun r => r.2.2).map .int)) := fun x5 x6 x7 x8 x9 x10 => by
    unfold lcAw
    rw [ev_lc (xs := rows) encRow (fun r => if decide (r.1.2 = s) = true then some (.int r.2.2) else none) (by simp [its, ev]) fun r _ => ?_, fm_ints]
    have e1 := eqD_sd r.1.2 s
    cases hh : decide (r.1.2 = s) with
    | false => rw [hh] at e1; simp [lcS, ev, evs, evC, bindT, bindTs, tgVars, wipeE, R.chk, R.nox, e1]
    | true => rw [hh] at e1; simp [lcS, ev, evs, evC, bindT, bindTs, tgVars, wipeE, R.chk, R.nox, e1]
  have eOw : ∀ x5 x6 x7 x8 x9 x10, ev S false lcOw [some (false, bk), some (false, .list (rows.map encRow)), some (false, gd g), some (false, .str wd.str), some (false, sd s), x5, x6, x7, x8, x9, x10] = .ok (.list (((rows.filter (hasS s)).map fun r => own r s).map P2)) := fun x5 x6 x7 x8 x9 x10 => by
    unfold lcOw
    rw [ev_lc (xs := rows) encRow (fun r => if hasS s r = true then some (P2 (own r s)) else none) (by simp [its, ev]) fun r _ => ?_, filterMap_if, List.map_map]
    · rfl
    have e1 := inD_pair s r.1.1 r.1.2
    cases hh : hasS s r with
    | false =>
      rw [show (decide (r.1.1 = s) || decide (r.1.2 = s)) = false from hh] at e1
      simp [lcS, ev, evs, evC, bindT, tgVars, wipeE, R.chk, R.nox, e1]
    | true =>
      rw [show (decide (r.1.1 = s) || decide (r.1.2 = s)) = true from hh] at e1
      simp [lcS, ev, evs, evC, bindT, tgVars, wipeE, R.chk, R.nox, e1, hO r s]
  have eWi : ∀ (os : List (Int × Int)) x0 x1 x2 x3 x4 x5 x7 x8 x9 x10, ev S true lcWi [x0, x1, x2, x3, x4, x5, some (false, .list (os.map P2)), x7, x8, x9, x10] = .ok (.list ((os.filter fun o => decide (o.1 > o.2)).map P2)) := fun os x0 x1 x2 x3 x4 x5 x7 x8 x9 x10 => by
    unfold lcWi
    rw [ev_lc (xs := os) P2 (fun o => if decide (o.1 > o.2) = true then some (P2 o) else none) (by simp [its, ev]) fun o _ => ?_, filterMap_if]
    by_cases hh : o.1 > o.2
    · simp [lcS, ev, evs, evC, bindT, tgVars, wipeE, R.chk, R.nox, hh]
    · simp [lcS, ev, evs, evC, bindT, tgVars, wipeE, R.chk, R.nox, hh]
  have eAm : ∀ x5 x6 x7 x8 x9 x10, ev S false lcAm [some (false, bk), some (false, .list (rows.map encRow)), some (false, gd g), some (false, .str wd.str), some (false, sd s), x5, x6, x7, x8, x9, x10] = .ok (.list ((amongS g rows).map encRow)) := fun x5 x6 x7 x8 x9 x10 => by
    unfold lcAm
    rw [ev_lc (xs := rows) encRow (fun r => if (decide (r.1.1 ∈ g) && decide (r.1.2 ∈ g)) = true then some (encRow r) else none) (by simp [its, ev]) fun r _ => ?_, filterMap_if]
    · rfl
    have e1 := inD_grp r.1.1 g
    have e2 := inD_grp r.1.2 g
    cases h1 : decide (r.1.1 ∈ g) with
    | false => rw [h1] at e1; simp [lcS, ev, evs, evC, evAnd, bindT, tgVars, wipeE, R.chk, R.nox, e1]
    | true =>
      rw [h1] at e1
      cases h2 : decide (r.1.2 ∈ g) with
      | false => rw [h2] at e2; simp [lcS, ev, evs, evC, evAnd, bindT, tgVars, wipeE, R.chk, R.nox, e1, e2]
      | true => rw [h2] at e2; simp [lcS, ev, evs, evC, evAnd, bindT, tgVars, wipeE, R.chk, R.nox, e1, e2]
  rw [cf_term]
  cases wd with
  | points => exact absurd rfl hw
  | goals => simp [ex, ev, evs, startE, g1, eqD_w, hG, cntS]
  | difference => simp [ex, ev, evs, startE, g1, g2, eqD_w, hD, cntS]
  | away =>
    have e := sum_lc (eAw none none none none none none) (t := false)
    generalize hF : (C.bi .sum (.cons lcAw .nil)) = F at e ⊢
    simp [ex, ev, evs, startE, g1, g2, g4, eqD_w, e, cntS, awayS, sumOf]
  | wins =>
    have e := eOw none none none none none none
    have e2 := len_lc (eWi ((rows.filter (hasS s)).map fun r => own r s) (some (false, bk)) (some (false, .list (rows.map encRow))) (some (false, gd g)) (some (false, .str Wd.wins.str)) (some (false, sd s)) none none none none none) (t := false)
    rw [List.length_map] at e2
    have ec : cntS w d rows g .wins s = ((((rows.filter (hasS s)).map fun r => own r s).filter fun o => decide (o.1 > o.2)).length : Int) := rfl
    rw [ec]
    generalize hF : (C.bi .len (.cons lcWi .nil)) = F at e2 ⊢
    generalize hF2 : lcOw = F2 at e ⊢
    generalize ((rows.filter (hasS s)).map fun r => own r s) = os at e e2 ⊢
    simp [ex, startE, ev, g1, g2, g3, g4, eqD_w, e, e2]
  | direct =>
    have e := eAm none none none none none none
    generalize hF : lcAm = F at e ⊢
    simp [ex, startE, ev, evs, g1, g2, g3, g4, g5, eqD_w, e, hP, cntS]
  | directdiff =>
    have e := eAm none none none none none none
    generalize hF : lcAm = F at e ⊢
    simp [ex, startE, ev, evs, g1, g2, g3, g4, g5, eqD_w, e, hD, cntS]
end Cr

set_option Elab.async false
set_option linter.all false
set_option maxRecDepth 100000
set_option maxHeartbeats 4000000
/-! Core texts, part 6: what a word counts (the law's way), and that it is the same. -/
namespace Cr
open Rf PySem

structure LRow where
  opp : Sd
  home : Bool
  a : Int
  b : Int
abbrev encL (r : LRow) : PyData := .tuple [sd r.opp, .bool r.home, .int r.a, .int r.b]
def lrow (s : Sd) (r : Row) : List LRow := (if r.1.1 = s then [⟨r.1.2, true, r.2.1, r.2.2⟩] else []) ++ (if r.1.2 = s then [⟨r.1.1, false, r.2.2, r.2.1⟩] else [])
def ownR (s : Sd) (rows : List Row) : List LRow := rows.flatMap (lrow s)
abbrev encO : Option (Int × Int) → PyData | none => .none | some p => P2 p
/-- the rows with a score -/
def rowsOf (mt : List (Sd × Sd)) (os : List (Option (Int × Int))) : List Row := (mt.zip os).filterMap fun po => po.2.map fun sc => (po.1, sc)
@[simp] theorem ix40 {a b c d : PyData} : ixD (.tuple [a, b, c, d]) (.int 0) = .ok a := rfl
@[simp] theorem ix41 {a b c d : PyData} : ixD (.tuple [a, b, c, d]) (.int 1) = .ok b := rfl
@[simp] theorem ix42 {a b c d : PyData} : ixD (.tuple [a, b, c, d]) (.int 2) = .ok c := rfl
@[simp] theorem ix43 {a b c d : PyData} : ixD (.tuple [a, b, c, d]) (.int 3) = .ok d := rfl
def owB : C := (.seq (.iff (.band (.cons (.cmp .isnot (.var 5) (.cst .none)) (.cons (.cmp .eq (.idx (.var 4) (.cst (.int 0))) (.var 2)) .nil))) (.seq (.app 3 (.tup (.cons (.idx (.var 4) (.cst (.int 1))) (.cons (.cst (.bool true)) (.cons (.idx (.var 5) (.cst (.int 0))) (.cons (.idx (.var 5) (.cst (.int 1))) .nil)))))) .skip) .skip) (.seq (.iff (.band (.cons (.cmp .isnot (.var 5) (.cst .none)) (.cons (.cmp .eq (.idx (.var 4) (.cst (.int 1))) (.var 2)) .nil))) (.seq (.app 3 (.tup (.cons (.idx (.var 4) (.cst (.int 0))) (.cons (.cst (.bool false)) (.cons (.idx (.var 5) (.cst (.int 1))) (.cons (.idx (.var 5) (.cst (.int 0))) .nil)))))) .skip) .skip) .skip))
theorem le_line {n : Nat} (h : n ≤ 1000000) : decide (n ≤ lineN) = true := decide_eq_true (Nat.le_trans h (by decide))
theorem ow_loop (S : Sig) (se rl : PyData) (s : Sd) : ∀ (mt : List (Sd × Sd)) (os : List (Option (Int × Int))) (acc : List LRow) (x4 x5 : Option (Bool × PyData)), acc.length + 2 * mt.length ≤ 1000 → ∃ y4 y5, forGo (fun x env => (bindT (.tup (.cons (.var 4) (.cons (.var 5) .nil))) x env).toS env (ex S 100 owB)) (zips (mt.map encM) (os.map encO)) [some (false, se), some (false, rl), some (false, sd s), some (true, .list (acc.map encL)), x4, x5] =
    .nx [some (false, se), some (false, rl), some (false, sd s), some (true, .list ((acc ++ ownR s (rowsOf mt os)).map encL)), y4, y5]
  | [], os, acc, x4, x5, _ => ⟨x4, x5, by simp [zips, forGo, rowsOf, ownR]⟩
  | p :: mt, [], acc, x4, x5, _ => ⟨x4, x5, by simp [zips, forGo, rowsOf, ownR]⟩
  | p :: mt, none :: os, acc, x4, x5, hl => by
    obtain ⟨y4, y5, e⟩ := ow_loop S se rl s mt os acc (some (false, encM p)) (some (false, .none)) (by simp only [List.length_cons] at hl; omega)
    refine ⟨y4, y5, ?_⟩
    have e2 : rowsOf (p :: mt) (none :: os) = rowsOf mt os := rfl
    rw [e2, ← e]
    show forGo _ (.tuple [encM p, .none] :: zips (mt.map encM) (os.map encO)) _ = _
    rw [forGo]
    simp [owB, ex, ev, evs, evAnd, bindT, bindTs, R.chk, isNone]
  | p :: mt, some sc :: os, acc, x4, x5, hl => by
    have hl' : acc.length + 2 * (mt.length + 1) ≤ 1000 := by simpa only [List.length_cons] using hl
    have e1 := eqD_sd p.1 s
    have e3 := eqD_sd p.2 s
    have e4 : rowsOf (p :: mt) (some sc :: os) = (p, sc) :: rowsOf mt os := rfl
    have e5 : ∀ acc : List LRow, acc ++ ownR s ((p, sc) :: rowsOf mt os) = acc ++ lrow s (p, sc) ++ ownR s (rowsOf mt os) := fun acc => by unfold ownR; rw [List.flatMap_cons, List.append_assoc]
    have ll : (lrow s (p, sc)).length ≤ 2 := by unfold lrow; split <;> split <;> simp
    obtain ⟨y4, y5, e⟩ := ow_loop S se rl s mt os (acc ++ lrow s (p, sc)) (some (false, encM p)) (some (false, P2 sc)) (by rw [List.length_append]; omega)
    refine ⟨y4, y5, ?_⟩
    rw [e4, e5, ← e]
    show forGo _ (.tuple [encM p, P2 sc] :: zips (mt.map encM) (os.map encO)) _ = _
    rw [forGo]
    have l1 : decide (acc.length + 1 ≤ lineN) = true := le_line (by omega)
    have l2 : decide (acc.length + 1 + 1 ≤ lineN) = true := le_line (by omega)
    have l4 : ∀ a b c d : PyData, decide ([a, b, c, d].length ≤ lineN) = true := fun _ _ _ _ => rfl
    unfold lrow
    cases h1 : decide (p.1 = s) with
    | false =>
      rw [h1] at e1
      have h1' := of_decide_eq_false h1
      cases h2 : decide (p.2 = s) with
      | false =>
        rw [h2] at e3
        have h2' := of_decide_eq_false h2
        simp [owB, ex, ev, evs, evAnd, bindT, bindTs, R.chk, isNone, eqD_sd, h1', h2']
      | true =>
        rw [h2] at e3
        have h2' := of_decide_eq_true h2
        simp [owB, ex, ev, evs, evAnd, bindT, bindTs, R.chk, isNone, eqD_sd, h1', h2', Rf.ownL, appO, l1, l4]
    | true =>
      rw [h1] at e1
      have h1' := of_decide_eq_true h1
      cases h2 : decide (p.2 = s) with
      | false =>
        rw [h2] at e3
        have h2' := of_decide_eq_false h2
        simp [owB, ex, ev, evs, evAnd, bindT, bindTs, R.chk, isNone, eqD_sd, h1', h2', Rf.ownL, appO, l1, l4]
      | true =>
        rw [h2] at e3
        have h2' := of_decide_eq_true h2
        simp [owB, ex, ev, evs, evAnd, bindT, bindTs, R.chk, isNone, eqD_sd, h1', h2', Rf.ownL, appO, l1, l2, l4]
theorem cd_law_own (n : Nat) {se : PyData} {mt : List (Sd × Sd)} (hm : cM n "_law_matches" [se] = .ok (.list (mt.map encM))) (hl : mt.length ≤ 100) (os : List (Option (Int × Int))) (s : Sd) : cM (n + 1) "_law_own" [se, .tuple (os.map encO), sd s] = .ok (.list ((ownR s (rowsOf mt os)).map encL)) := by
  show cd M (n + 1) _ _ = _
  rw [cd_succ M MLC._law_own rfl]
  show (ex (Sg M n) 100 b__law_own (startE 6 _)).fin = _
  have hM : (Sg M n).cl "_law_matches" [se] = .ok (.list (mt.map encM)) := hm
  generalize Sg M n = S at hM ⊢
  obtain ⟨y4, y5, e⟩ := ow_loop S se (.tuple (os.map encO)) s mt os [] none none (by simp; omega)
  have term : b__law_own = .seq (.asg 3 true (.lst .nil)) (.seq (.for_ (.tup (.cons (.var 4) (.cons (.var 5) .nil))) (.zip (.call "_law_matches" (.cons (.var 0) .nil)) (.var 1)) owB) (.fz 3 (.seq (.ret (.var 3)) .skip))) := rfl
  have e2 : ex S 100 (.for_ (.tup (.cons (.var 4) (.cons (.var 5) .nil))) (.zip (.call "_law_matches" (.cons (.var 0) .nil)) (.var 1)) owB) [some (false, se), some (false, .tuple (os.map encO)), some (false, sd s), some (true, .list []), none, none] = .nx [some (false, se), some (false, .tuple (os.map encO)), some (false, sd s), some (true, .list ((ownR s (rowsOf mt os)).map encL)), y4, y5] := by
    rw [ex]
    have e3 : its S (.zip (.call "_law_matches" (.cons (.var 0) .nil)) (.var 1)) [some (false, se), some (false, .tuple (os.map encO)), some (false, sd s), some (true, .list []), none, none] = .ok (zips (mt.map encM) (os.map encO)) := by
      simp [its, ev, evs, hM]
    rw [e3, R.toS_ok]
    exact e
  rw [term]
  generalize hF : (C.for_ (.tup (.cons (.var 4) (.cons (.var 5) .nil))) (.zip (.call "_law_matches" (.cons (.var 0) .nil)) (.var 1)) owB) = F at e2 ⊢
  have l0 : decide (([] : List PyData).length ≤ lineN) = true := rfl
  simp [ex, ev, evs, startE, l0, e2, Rf.freeze]
end Cr

set_option Elab.async false
set_option linter.all false
set_option maxRecDepth 100000
set_option maxHeartbeats 4000000
/-! Core texts, part 7: the law's count, and that it is the program's. -/
namespace Cr
open Rf PySem

def isDir (wd : Wd) : Bool := decide (wd = .direct) || decide (wd = .directdiff)
def dirL (g : List Sd) (wd : Wd) (os : List LRow) : List LRow := if isDir wd = true then os.filter fun r => decide (r.opp ∈ g) else os
def ptsL (w d : Int) (os : List LRow) : Int := w * (os.filter fun r => decide (r.a > r.b)).length + d * (os.filter fun r => decide (r.a = r.b)).length
def diffL (os : List LRow) : Int := (os.map (·.a)).sum - (os.map (·.b)).sum
def cntL (w d : Int) (os : List LRow) (g : List Sd) : Wd → Int
  | .points => ptsL w d os
  | .direct => ptsL w d (dirL g .direct os)
  | .difference => diffL os
  | .directdiff => diffL (dirL g .directdiff os)
  | .wins => (os.filter fun r => decide (r.a > r.b)).length
  | .goals => (os.map (·.a)).sum
  | .away => ((os.filter fun r => !r.home).map (·.a)).sum
theorem inD_dir (wd : Wd) : inD (.str wd.str) (.tuple [.str "direct", .str "directdiff"]) = .ok (isDir wd) := by cases wd <;> kernel_rfl
theorem inD_pd (wd : Wd) : inD (.str wd.str) (.tuple [.str "points", .str "direct"]) = .ok (decide (wd = .points) || decide (wd = .direct)) := by cases wd <;> kernel_rfl
theorem inD_dd (wd : Wd) : inD (.str wd.str) (.tuple [.str "difference", .str "directdiff"]) = .ok (decide (wd = .difference) || decide (wd = .directdiff)) := by cases wd <;> kernel_rfl
theorem eqD_wins (wd : Wd) : eqD (.str wd.str) (.str "wins") = .ok (decide (wd = .wins)) := eqD_w wd .wins
theorem eqD_goals (wd : Wd) : eqD (.str wd.str) (.str "goals") = .ok (decide (wd = .goals)) := eqD_w wd .goals
/-- a book's numbers are small -/
structure Bs (bk : PyData) (w d : Int) : Prop extends Bk bk w d where
  w0 : 0 ≤ w ∧ w ≤ 3
  d0 : 0 ≤ d ∧ d ≤ 3
theorem mul_small {w k : Int} (h : 0 ≤ w ∧ w ≤ 3) : mulOk w k = true := by
  unfold mulOk
  have : (decide (-(2 ^ 64) < w) && decide (w < 2 ^ 64)) = true := by simp only [Bool.and_eq_true, decide_eq_true_eq]; omega
  rw [this, Bool.true_or]
def lcD : C := .lc (.var 6) (.itm (.var 1)) (.cons (.cmp .isin (.idx (.var 6) (.cst (.int 0))) (.var 2)) .nil) (.var 6)
def lcW : C := .lc (.var 6) (.itm (.var 1)) (.cons (.cmp .gt (.idx (.var 6) (.cst (.int 2))) (.idx (.var 6) (.cst (.int 3)))) .nil) (.var 6)
def lcE : C := .lc (.var 6) (.itm (.var 1)) (.cons (.cmp .eq (.idx (.var 6) (.cst (.int 2))) (.idx (.var 6) (.cst (.int 3)))) .nil) (.var 6)
def lcA : C := .lc (.var 6) (.itm (.var 1)) .nil (.idx (.var 6) (.cst (.int 2)))
def lcB : C := .lc (.var 6) (.itm (.var 1)) .nil (.idx (.var 6) (.cst (.int 3)))
def lcX : C := .lc (.var 6) (.itm (.var 1)) (.cons (.bor (.cons (.cmp .eq (.var 3) (.cst (.str "goals"))) (.cons (.bnot (.idx (.var 6) (.cst (.int 1)))) .nil))) .nil) (.idx (.var 6) (.cst (.int 2)))
def lcTl : C := (.seq (.iff (.cmp .isin (.var 3) (.tup (.cons (.cst (.str "points")) (.cons (.cst (.str "direct")) .nil)))) (.seq (.par (.cons (.var 4) (.cons (.var 5) .nil)) [false, false] (.cons lcW (.cons lcE .nil))) (.seq (.ret (.bin .add (.bin .mul (.idx (.var 0) (.cst (.int 0))) (.bi .len (.cons (.var 4) .nil))) (.bin .mul (.idx (.var 0) (.cst (.int 1))) (.bi .len (.cons (.var 5) .nil))))) .skip)) .skip) (.seq (.iff (.cmp .isin (.var 3) (.tup (.cons (.cst (.str "difference")) (.cons (.cst (.str "directdiff")) .nil)))) (.seq (.ret (.bin .sub (.bi .sum (.cons lcA .nil)) (.bi .sum (.cons lcB .nil)))) .skip) .skip) (.seq (.iff (.cmp .eq (.var 3) (.cst (.str "wins"))) (.seq (.ret (.bi .len (.cons lcW .nil))) .skip) .skip) (.seq (.ret (.bi .sum (.cons lcX .nil))) .skip))))
theorem lcnt_term : b__law_count = .seq (.iff (.cmp .isin (.var 3) (.tup (.cons (.cst (.str "direct")) (.cons (.cst (.str "directdiff")) .nil)))) (.seq (.asg 1 false lcD) .skip) .skip) lcTl := rfl
section
variable {S : Sig} {bk : PyData} {g : List Sd} {wd : Wd}
abbrev envL (bk : PyData) (os : List LRow) (g : List Sd) (wd : Wd) (x4 x5 x6 : Option (Bool × PyData)) : Rf.Env := [some (false, bk), some (false, .list (os.map encL)), some (false, gd g), some (false, .str wd.str), x4, x5, x6]
variable (os : List LRow) (x4 x5 x6 : Option (Bool × PyData))
theorem eD {t : Bool} : ev S t lcD (envL bk os g wd x4 x5 x6) = .ok (.list ((os.filter fun r => decide (r.opp ∈ g)).map encL)) := by
  unfold lcD
  rw [ev_lc (xs := os) encL (fun r => if decide (r.opp ∈ g) = true then some (encL r) else none) (by simp [its, ev]) fun r _ => ?_, filterMap_if]
  have e1 := inD_grp r.opp g
  cases hh : decide (r.opp ∈ g) with
  | false => rw [hh] at e1; simp [lcS, ev, evs, evC, bindT, tgVars, wipeE, R.chk, R.nox, e1]
  | true => rw [hh] at e1; simp [lcS, ev, evs, evC, bindT, tgVars, wipeE, R.chk, R.nox, e1]
theorem eW {t : Bool} : ev S t lcW (envL bk os g wd x4 x5 x6) = .ok (.list ((os.filter fun r => decide (r.a > r.b)).map encL)) := by
  unfold lcW
  rw [ev_lc (xs := os) encL (fun r => if decide (r.a > r.b) = true then some (encL r) else none) (by simp [its, ev]) fun r _ => ?_, filterMap_if]
  by_cases hh : r.a > r.b
  · simp [lcS, ev, evs, evC, bindT, tgVars, wipeE, R.chk, R.nox, hh]
  · simp [lcS, ev, evs, evC, bindT, tgVars, wipeE, R.chk, R.nox, hh]
theorem eE {t : Bool} : ev S t lcE (envL bk os g wd x4 x5 x6) = .ok (.list ((os.filter fun r => decide (r.a = r.b)).map encL)) := by
  unfold lcE
  rw [ev_lc (xs := os) encL (fun r => if decide (r.a = r.b) = true then some (encL r) else none) (by simp [its, ev]) fun r _ => ?_, filterMap_if]
  by_cases hh : r.a = r.b
  · simp [lcS, ev, evs, evC, bindT, tgVars, wipeE, R.chk, R.nox, eqD_int, hh]
  · simp [lcS, ev, evs, evC, bindT, tgVars, wipeE, R.chk, R.nox, eqD_int, hh]
theorem eA : ev S true lcA (envL bk os g wd x4 x5 x6) = .ok (.list ((os.map (·.a)).map .int)) := by
  unfold lcA
  rw [ev_lc (xs := os) encL (fun r => some (.int r.a)) (by simp [its, ev]) fun r _ => by simp [lcS, ev, evs, evC, bindT, tgVars, wipeE, R.chk, R.nox], filterMap_some', List.map_map]
  rfl
theorem eB : ev S true lcB (envL bk os g wd x4 x5 x6) = .ok (.list ((os.map (·.b)).map .int)) := by
  unfold lcB
  rw [ev_lc (xs := os) encL (fun r => some (.int r.b)) (by simp [its, ev]) fun r _ => by simp [lcS, ev, evs, evC, bindT, tgVars, wipeE, R.chk, R.nox], filterMap_some', List.map_map]
  rfl
theorem eX : ev S true lcX (envL bk os g wd x4 x5 x6) = .ok (.list (((os.filter fun r => decide (wd = .goals) || !r.home).map (·.a)).map .int)) := by
  unfold lcX
  rw [ev_lc (xs := os) encL (fun r => if (decide (wd = .goals) || !r.home) = true then some (.int r.a) else none) (by simp [its, ev]) fun r _ => ?_, filterMap_if, List.map_map]
  · rfl
  · have e1 := eqD_goals wd
    cases hh : decide (wd = .goals) with
    | true => rw [hh] at e1; simp [lcS, ev, evs, evC, evOr, bindT, tgVars, wipeE, R.chk, R.nox, e1]
    | false =>
      rw [hh] at e1
      cases h2 : r.home with
      | true => simp [lcS, ev, evs, evC, evOr, bindT, tgVars, wipeE, R.chk, R.nox, e1, h2]
      | false => simp [lcS, ev, evs, evC, evOr, bindT, tgVars, wipeE, R.chk, R.nox, e1, h2]
theorem lcTl_ok {w d : Int} (hb : Bs bk w d) : ex S 100 lcTl (envL bk os g wd x4 x5 x6) = .rt (.int (match wd with
    | .points => ptsL w d os | .direct => ptsL w d os | .difference => diffL os | .directdiff => diffL os | .wins => (os.filter fun r => decide (r.a > r.b)).length | .goals => (os.map (·.a)).sum | .away => ((os.filter fun r => !r.home).map (·.a)).sum)) := by
  have eW1 := eW (S := S) (bk := bk) (g := g) (wd := wd) os x4 x5 x6 (t := false)
  have eE1 := eE (S := S) (bk := bk) (g := g) (wd := wd) os x4 x5 x6 (t := false)
  have eL := len_lc (eW (S := S) (bk := bk) (g := g) (wd := wd) os x4 x5 x6 (t := true)) (t := false)
  have sA := sum_lc (eA (S := S) (bk := bk) (g := g) (wd := wd) os x4 x5 x6) (t := true)
  have sB := sum_lc (eB (S := S) (bk := bk) (g := g) (wd := wd) os x4 x5 x6) (t := true)
  have sX := sum_lc (eX (S := S) (bk := bk) (g := g) (wd := wd) os x4 x5 x6) (t := false)
  rw [List.length_map] at eL
  unfold lcTl
  generalize hF1 : (C.bi .len (.cons lcW .nil)) = F1 at eL ⊢
  generalize hF2 : (C.bi .sum (.cons lcA .nil)) = F2 at sA ⊢
  generalize hF3 : (C.bi .sum (.cons lcB .nil)) = F3 at sB ⊢
  generalize hF4 : (C.bi .sum (.cons lcX .nil)) = F4 at sX ⊢
  generalize hF5 : lcW = F5 at eW1 ⊢
  generalize hF6 : lcE = F6 at eE1 ⊢
  have i1 := inD_pd wd
  have i2 := inD_dd wd
  have i3 := eqD_wins wd
  have ft : (os.filter fun _ => true) = os := List.filter_eq_self.mpr fun _ _ => rfl
  cases wd <;> simp [ft, ex, ev, evs, evPar, putPar, i1, i2, i3, eW1, eE1, eL, sA, sB, sX, hb.win, hb.draw, mul_small hb.w0, mul_small hb.d0, ptsL, diffL, R.chk]
end
theorem cd_law_count (n : Nat) {bk : PyData} {w d : Int} (hb : Bs bk w d) (os : List LRow) (g : List Sd) (wd : Wd) : cM (n + 1) "_law_count" [bk, .list (os.map encL), gd g, .str wd.str] = .ok (.int (cntL w d os g wd)) := by
  show cd M (n + 1) _ _ = _
  rw [cd_succ M MLC._law_count rfl]
  show (ex (Sg M n) 100 b__law_count (startE 7 _)).fin = _
  generalize Sg M n = S
  rw [lcnt_term]
  have eD1 := eD (S := S) (bk := bk) (g := g) (wd := wd) os none none none (t := false)
  have tl := fun os' => lcTl_ok (S := S) (g := g) (wd := wd) os' none none none hb
  have i0 := inD_dir wd
  generalize hF : lcD = F at eD1 ⊢
  generalize hT : lcTl = Tl at tl ⊢
  cases h : isDir wd with
  | false =>
    rw [h] at i0
    have e := tl os
    simp [ex, ev, evs, startE, i0, e]
    cases wd <;> first | rfl | (cases h; done)
  | true =>
    rw [h] at i0
    have e := tl (os.filter fun r => decide (r.opp ∈ g))
    simp [ex, ev, evs, startE, i0, eD1, e]
    cases wd <;> first | rfl | (cases h; done)

/-! ### the same -/
def lr (s : Sd) (r : Row) : LRow := ⟨if r.1.1 = s then r.1.2 else r.1.1, decide (r.1.1 = s), (own r s).1, (own r s).2⟩
def Irr (rows : List Row) : Prop := ∀ r ∈ rows, r.1.1 ≠ r.1.2
theorem ownR_eq (s : Sd) : ∀ {rows : List Row}, Irr rows → ownR s rows = (rows.filter (hasS s)).map (lr s)
  | [], _ => rfl
  | r :: rows, h => by
    have ih := ownR_eq s (rows := rows) fun x hx => h x (List.mem_cons_of_mem _ hx)
    have hr := h r (List.mem_cons_self ..)
    unfold ownR at ih ⊢
    rw [List.flatMap_cons, ih]
    by_cases h1 : r.1.1 = s
    · have h2 : ¬ r.1.2 = s := fun z => hr (h1.trans z.symm)
      rw [List.filter_cons_of_pos (by simp [hasS, h1])]
      simp [lrow, lr, own, h1, h2]
    · by_cases h2 : r.1.2 = s
      · rw [List.filter_cons_of_pos (by simp [hasS, h2])]
        simp [lrow, lr, own, h1, h2]
      · rw [List.filter_cons_of_neg (by simp [hasS, h1, h2])]
        simp [lrow, h1, h2]
theorem pts_eq (w d : Int) (s : Sd) : ∀ (l : List Row), (l.map fun r => pt w d (own r s)).sum = ptsL w d (l.map (lr s))
  | [] => by simp [ptsL]
  | r :: l => by
    rw [List.map_cons, List.sum_cons, pts_eq w d s l]
    unfold ptsL
    rw [List.map_cons]
    unfold pt
    by_cases h1 : (own r s).1 > (own r s).2
    · have h2 : ¬ (own r s).1 = (own r s).2 := by omega
      rw [if_pos h1, List.filter_cons_of_pos (by simpa [lr] using h1), List.filter_cons_of_neg (by show ¬ decide ((own r s).1 = (own r s).2) = true; rw [decide_eq_false h2]; decide), List.length_cons]
      rw [show (((l.map (lr s)).filter fun r => decide (r.a > r.b)).length + 1 : Nat) = (((((l.map (lr s)).filter fun r => decide (r.a > r.b)).length : Nat) : Int) + 1 : Int) from by omega, Int.mul_add, Int.mul_one]
      omega
    · by_cases h2 : (own r s).1 = (own r s).2
      · rw [if_neg h1, if_pos h2, List.filter_cons_of_neg (by simpa [lr] using h1), List.filter_cons_of_pos (by show decide ((own r s).1 = (own r s).2) = true; exact decide_eq_true h2), List.length_cons]
        rw [show (((l.map (lr s)).filter fun r => decide (r.a = r.b)).length + 1 : Nat) = (((((l.map (lr s)).filter fun r => decide (r.a = r.b)).length : Nat) : Int) + 1 : Int) from by omega, Int.mul_add, Int.mul_one]
        omega
      · rw [if_neg h1, if_neg h2, List.filter_cons_of_neg (by simpa [lr] using h1), List.filter_cons_of_neg (by show ¬ decide ((own r s).1 = (own r s).2) = true; rw [decide_eq_false h2]; decide)]
        omega
theorem diff_eq (s : Sd) : ∀ (l : List Row), (l.map fun r => (own r s).1 - (own r s).2).sum = diffL (l.map (lr s))
  | [] => by simp [diffL]
  | r :: l => by
    rw [List.map_cons, List.sum_cons, diff_eq s l]
    unfold diffL
    simp only [List.map_cons, List.sum_cons, lr]
    omega
theorem dir_eq (s : Sd) (g : List Sd) (hs : s ∈ g) {rows : List Row} (h : Irr rows) (wd : Wd) (hd : isDir wd = true) : dirL g wd (ownR s rows) = ((amongS g rows).filter (hasS s)).map (lr s) := by
  unfold dirL
  rw [if_pos hd, ownR_eq s h, List.filter_map]
  congr 1
  unfold amongS
  rw [List.filter_filter, List.filter_filter]
  refine List.filter_congr fun r hr => ?_
  have hr' := h r hr
  by_cases h1 : r.1.1 = s
  · have h2 : ¬ r.1.2 = s := fun z => hr' (h1.trans z.symm)
    simp [Function.comp, lr, hasS, h1, h2, hs]
  · by_cases h2 : r.1.2 = s
    · simp [Function.comp, lr, hasS, h1, h2, hs]
    · simp [Function.comp, lr, hasS, h1, h2]
/-- the law's count is the program's -/
theorem cnt_same (w d : Int) {rows : List Row} (h : Irr rows) (g : List Sd) (s : Sd) (hs : s ∈ g) (wd : Wd) : cntL w d (ownR s rows) g wd = cntS w d rows g wd s := by
  cases wd with
  | points => show ptsL w d _ = ptsS w d rows s; rw [ownR_eq s h]; exact (pts_eq w d s _).symm
  | direct => show ptsL w d _ = ptsS w d (amongS g rows) s; rw [dir_eq s g hs h .direct rfl]; exact (pts_eq w d s _).symm
  | difference => show diffL _ = diffS rows s; rw [ownR_eq s h]; exact (diff_eq s _).symm
  | directdiff => show diffL _ = diffS (amongS g rows) s; rw [dir_eq s g hs h .directdiff rfl]; exact (diff_eq s _).symm
  | wins =>
    show ((((ownR s rows).filter fun r => decide (r.a > r.b)).length : Nat) : Int) = winsS rows s
    rw [ownR_eq s h]
    unfold winsS
    rw [List.filter_map, List.length_map, List.filter_map, List.length_map]
    rfl
  | goals =>
    show ((ownR s rows).map (·.a)).sum = goalsS rows s
    rw [ownR_eq s h, List.map_map]
    rfl
  | away =>
    show (((ownR s rows).filter fun r => !r.home).map (·.a)).sum = awayS rows s
    rw [ownR_eq s h, List.filter_map, List.map_map]
    unfold awayS sumOf
    have e : (rows.filter (hasS s)).filter ((fun r => !r.home) ∘ lr s) = rows.filter fun r => decide (r.1.2 = s) := by
      rw [List.filter_filter]
      refine List.filter_congr fun r hr => ?_
      have hr' := h r hr
      by_cases h1 : r.1.1 = s
      · have h2 : ¬ r.1.2 = s := fun z => hr' (h1.trans z.symm)
        simp [Function.comp, lr, hasS, h1, h2]
      · simp [Function.comp, lr, hasS, h1]
    rw [e]
    refine congrArg List.sum (List.map_congr_left fun r hr => ?_)
    have h2 : r.1.2 = s := by simpa using (List.mem_filter.mp hr).2
    have hr' := h r (List.mem_filter.mp hr).1
    have h1 : ¬ r.1.1 = s := fun z => hr' (z.trans h2.symm)
    show (own r s).1 = r.2.2
    unfold own
    rw [if_neg h1]
end Cr

set_option Elab.async false
set_option linter.all false
set_option maxRecDepth 100000
set_option maxHeartbeats 4000000
/-! Core texts, part 8: the kinds of seasons, results. -/
namespace Cr
open Rf PySem
inductive Kd where | k31 | k22 | k41 | k32
def Kd.m : Kd → Int | .k31 => 3 | .k22 => 2 | .k41 => 4 | .k32 => 3
def Kd.l : Kd → Int | .k31 => 1 | .k22 => 2 | .k41 => 1 | .k32 => 2
def Kd.ss : Kd → List Sd | .k31 => [0, 1, 2] | .k22 => [0, 1] | .k41 => [0, 1, 2, 3] | .k32 => [0, 1, 2]
def Kd.mt : Kd → List (Sd × Sd)
  | .k31 => [(0, 1), (0, 2), (1, 2)] | .k22 => [(0, 1), (1, 0)] | .k41 => [(0, 1), (0, 2), (0, 3), (1, 2), (1, 3), (2, 3)] | .k32 => [(0, 1), (0, 2), (1, 2), (1, 0), (2, 0), (2, 1)]
theorem kd_of {m l c : Int} (h : KC m l c) : ∃ kd : Kd, m = kd.m ∧ l = kd.l := by
  unfold KC at h
  rcases h with ⟨rfl, rfl, _⟩ | ⟨rfl, rfl, _⟩ | ⟨rfl, rfl, _⟩ | ⟨rfl, rfl, _⟩ | ⟨rfl, rfl, _⟩
  · exact ⟨.k31, rfl, rfl⟩
  · exact ⟨.k31, rfl, rfl⟩
  · exact ⟨.k22, rfl, rfl⟩
  · exact ⟨.k41, rfl, rfl⟩
  · exact ⟨.k32, rfl, rfl⟩
theorem cd_fm (n : Nat) (kd : Kd) (x : PyData) : cM (n + 2) "find_matches" [.tuple [.int kd.m, .int kd.l, x]] = .ok (.list (kd.mt.map encM)) := by cases kd <;> kernel_rfl
theorem cd_lm (n : Nat) (kd : Kd) (x : PyData) : cM (n + 1) "_law_matches" [.tuple [.int kd.m, .int kd.l, x]] = .ok (.list (kd.mt.map encM)) := by cases kd <;> kernel_rfl
theorem cd_fs (n : Nat) (kd : Kd) (x : PyData) : cM (n + 1) "find_sides" [.tuple [.int kd.m, .int kd.l, x]] = .ok (gd kd.ss) := by cases kd <;> kernel_rfl
theorem sl_abcd (kd : Kd) : slD (.str "abcd") none (some kd.m) = .ok (gd kd.ss) := by cases kd <;> kernel_rfl
theorem mt_irr (kd : Kd) : ∀ p ∈ kd.mt, p.1 ≠ p.2 := by cases kd <;> decide
theorem mt_len (kd : Kd) : 0 < kd.mt.length ∧ kd.mt.length ≤ 6 := by cases kd <;> decide
theorem ss_len (kd : Kd) : kd.ss.length ≤ 4 := by cases kd <;> decide
theorem rows_irr (kd : Kd) (os : List (Option (Int × Int))) : Irr (rowsOf kd.mt os) := fun r hr => by
  unfold rowsOf at hr
  obtain ⟨po, h1, h2⟩ := List.mem_filterMap.mp hr
  cases e : po.2 with
  | none => rw [e] at h2; cases h2
  | some sc =>
    rw [e] at h2
    cases h2
    exact mt_irr kd _ (List.of_mem_zip h1).1
theorem rng_mt (kd : Kd) : rngD [.int (kd.mt.length : Int)] = .ok (rangeD 0 kd.mt.length) := by cases kd <;> kernel_rfl
theorem zips_map (mt : List (Sd × Sd)) (os : List (Option (Int × Int))) : zips (mt.map encM) (os.map encO) = (mt.zip os).map fun po => .tuple [encM po.1, encO po.2] := by
  induction mt generalizing os with
  | nil => rfl
  | cons p mt ih => cases os with
    | nil => rfl
    | cons o os => show _ :: zips (mt.map encM) (os.map encO) = _; rw [ih]; rfl
/-- the rows that are played -/
theorem cd_played (n : Nat) (kd : Kd) (x : PyData) (os : List (Option (Int × Int))) : cM (n + 3) "played" [.tuple [.int kd.m, .int kd.l, x], .tuple (os.map encO)] = .ok (.list ((rowsOf kd.mt os).map encRow)) := by
  show cd M (n + 3) _ _ = _
  rw [cd_succ M MSC.played rfl]
  show (ex (Sg M (n + 2)) 100 b_played (startE 4 _)).fin = _
  have hM : (Sg M (n + 2)).cl "find_matches" [.tuple [.int kd.m, .int kd.l, x]] = .ok (.list (kd.mt.map encM)) := cd_fm n kd x
  generalize Sg M (n + 2) = S at hM ⊢
  generalize hse : PyData.tuple [.int kd.m, .int kd.l, x] = se at hM ⊢
  let lcP : C := .lc (.tup (.cons (.var 2) (.cons (.var 3) .nil))) (.zip (.call "find_matches" (.cons (.var 0) .nil)) (.var 1)) (.cons (.cmp .isnot (.var 3) (.cst .none)) .nil) (.tup (.cons (.var 2) (.cons (.var 3) .nil)))
  have term : b_played = .seq (.ret lcP) .skip := rfl
  have e : ev S false lcP [some (false, se), some (false, .tuple (os.map encO)), none, none] = .ok (.list ((rowsOf kd.mt os).map encRow)) := by
    show ev S false (.lc _ _ _ _) _ = _
    rw [ev_lc (xs := kd.mt.zip os) (fun po => .tuple [encM po.1, encO po.2]) (fun po => po.2.map fun sc => encRow (po.1, sc)) ?_ fun po _ => ?_]
    · unfold rowsOf
      rw [List.map_filterMap]
      congr 2
      refine congrArg (fun f => List.filterMap f _) (funext fun po => ?_)
      cases po.2 <;> rfl
    · rw [← zips_map]
      simp [its, ev, evs, hM]
    · cases h : po.2 with
      | none => simp [lcS, ev, evs, evC, bindT, bindTs, tgVars, wipeE, R.chk, R.nox, isNone]
      | some sc => simp [lcS, ev, evs, evC, bindT, bindTs, tgVars, wipeE, R.chk, R.nox, isNone]
  rw [term]
  generalize lcP = F at e ⊢
  simp [ex, startE, e]
/-! results, drawn and asked -/
theorem lcGo_from {ss : List (Int × Int)} {f : PyData → R (Option PyData)} : ∀ {xs : List PyData}, (∀ x ∈ xs, ∃ p ∈ ss, f x = .ok (some (P2 p))) → ∃ rs : List (Int × Int), lcGo f xs = .ok (rs.map P2) ∧ rs.length = xs.length ∧ ∀ r ∈ rs, r ∈ ss
  | [], _ => ⟨[], rfl, rfl, fun _ h => absurd h (by simp)⟩
  | x :: xs, h => by
    obtain ⟨p, hp, e⟩ := h x (List.mem_cons_self ..)
    obtain ⟨rs, e2, l2, h2⟩ := lcGo_from (f := f) (xs := xs) fun y hy => h y (List.mem_cons_of_mem _ hy)
    refine ⟨p :: rs, ?_, by simp [l2], fun r hr => ?_⟩
    · rw [lcGo, e, R.bind_ok, e2]; rfl
    · rcases List.mem_cons.mp hr with rfl | hr
      · exact hp
      · exact h2 r hr
theorem range_mem {n : Nat} {x : PyData} (h : x ∈ rangeD 0 n) : ∃ k : Nat, x = .int k := by
  unfold rangeD at h
  obtain ⟨k, _, rfl⟩ := List.mem_map.mp h
  exact ⟨k, by simp⟩
def lcR : C := .lc (.var 4) (.rng (.cons (.bi .len (.cons (.call "_law_matches" (.cons (.var 2) .nil)) .nil)) .nil)) .nil (.idx (.var 3) (.call "_law_drawn" (.cons (.var 0) (.cons (.bin .add (.var 1) (.var 4)) (.cons (.bi .len (.cons (.var 3) .nil)) .nil)))))
theorem lcR_term : b__law_results = .seq (.asg 3 false (.idx (.var 2) (.cst (.int 2)))) (.seq (.ret (.bi .tuple (.cons lcR .nil))) .skip) := rfl
def rsF (S : Sig) (k0 : Int) (sc : PyData) (m l : Int) (ss : List (Int × Int)) (x : PyData) : R (Option PyData) := ((bindT (.var 4) x (wipeE [some (false, sc), some (false, .int k0), some (false, season m l ss), some (false, .tuple (ss.map P2)), none] (tgVars (.var 4)))).bind fun env' => (evC S .nil env').bind fun k => match k with | true => (ev S false (.idx (.var 3) (.call "_law_drawn" (.cons (.var 0) (.cons (.bin .add (.var 1) (.var 4)) (.cons (.bi .len (.cons (.var 3) .nil)) .nil))))) env').bind fun d => .ok (some d) | false => .ok none).nox
theorem ex_results (S : Sig) (k0 : Int) (hk0 : 0 ≤ k0) (sc : PyData) (hd : Draws S sc) (m l : Int) (ss : List (Int × Int)) (ML : List PyData) (hM : S.cl "_law_matches" [season m l ss] = .ok (.list ML)) (hs : 0 < ss.length) (hr : rngD [.int (ML.length : Int)] = .ok (rangeD 0 ML.length)) :
    ∃ rs : List (Int × Int), ex S 100 b__law_results (startE 5 [sc, .int k0, season m l ss]) = .rt (.tuple (rs.map P2)) ∧ rs.length = ML.length ∧ ∀ r ∈ rs, r ∈ ss := by
  have key : ∀ x ∈ rangeD 0 ML.length, ∃ p ∈ ss, rsF S k0 sc m l ss x = .ok (some (P2 p)) := fun x hx => by
    obtain ⟨k, rfl⟩ := range_mem hx
    obtain ⟨r, h1, h2, h3⟩ := hd (k0 + k) ss.length (by omega) (by omega)
    obtain ⟨d, e, hm⟩ := atI_ok (ss.map P2) r h2 (by simpa using h3)
    obtain ⟨p, hp, rfl⟩ := List.mem_map.mp hm
    refine ⟨p, hp, ?_⟩
    have e3 : ixD (.tuple (ss.map P2)) (.int r) = .ok (P2 p) := by unfold ixD; simp only [e]
    simp [rsF, ev, evs, evC, bindT, tgVars, wipeE, R.chk, h1, e3, R.nox]
  obtain ⟨rs, e, hl, h⟩ := lcGo_from key
  refine ⟨rs, ?_, by rw [hl]; unfold rangeD; simp, h⟩
  have e4 : ixD (.tuple [.int m, .int l, .tuple (ss.map P2)]) (.int 2) = .ok (.tuple (ss.map P2)) := rfl
  have e5 : ∀ n : Nat, n ≤ 1000 → decide (n ≤ lineN) = true := fun n h => decide_eq_true (Nat.le_trans h (by decide))
  have e6 : ev S true lcR [some (false, sc), some (false, .int k0), some (false, season m l ss), some (false, .tuple (ss.map P2)), none] = .ok (.list (rs.map P2)) := by
    unfold lcR
    rw [ev]
    have e7 : its S (.rng (.cons (.bi .len (.cons (.call "_law_matches" (.cons (.var 2) .nil)) .nil)) .nil)) [some (false, sc), some (false, .int k0), some (false, season m l ss), some (false, .tuple (ss.map P2)), none] = .ok (rangeD 0 ML.length) := by
      have e8 : evs S true (.cons (.bi .len (.cons (.call "_law_matches" (.cons (.var 2) .nil)) .nil)) .nil) [some (false, sc), some (false, .int k0), some (false, season m l ss), some (false, .tuple (ss.map P2)), none] = .ok [.int (ML.length : Int)] := by simp [ev, evs, hM]
      rw [its, e8, R.bind_ok, hr]
    rw [e7, R.bind_ok]
    show (lcGo (rsF S k0 sc m l ss) (rangeD 0 ML.length)).bind _ = _
    rw [e]
    rfl
  rw [lcR_term]
  simp [ex, ev, evs, startE, e4, e6]
/-- one thing asked: is it a score of these -/
def Elem (S : Sig) (ss : List (Int × Int)) (x : PyData) (b : Bool) : Prop := S.cl "is_score" [x] = .ok (.bool false) ∧ b = false ∨ S.cl "is_score" [x] = .ok (.bool true) ∧ inD x (.tuple (ss.map P2)) = .ok b
theorem lcGo_bools {S : Sig} {ss : List (Int × Int)} {f : PyData → R (Option PyData)} (hf : ∀ x b, Elem S ss x b → f x = .ok (some (.bool b))) : ∀ {xs : List PyData}, (∀ x ∈ xs, ∃ b, Elem S ss x b) → ∃ bs : List Bool, lcGo f xs = .ok (bs.map PyData.bool) ∧ (∀ b, (∀ x ∈ xs, Elem S ss x b) → ∀ c ∈ bs, c = b) ∧ (∀ x r, xs = x :: r → ∀ b, Elem S ss x b → ∃ r', bs = b :: r')
  | [], _ => ⟨[], rfl, fun _ _ _ h => absurd h (by simp), fun _ _ h => nomatch h⟩
  | x :: xs, h => by
    obtain ⟨b, hb⟩ := h x (List.mem_cons_self ..)
    obtain ⟨bs, e, h1, _⟩ := lcGo_bools hf (xs := xs) fun y hy => h y (List.mem_cons_of_mem _ hy)
    have uniq : ∀ b', Elem S ss x b' → b' = b := fun b' hb' => by
      have q := (hf x b' hb').symm.trans (hf x b hb)
      cases q
      rfl
    refine ⟨b :: bs, ?_, fun b' hb' c hc => ?_, fun y r e2 b' hb' => ?_⟩
    · rw [lcGo, hf x b hb, R.bind_ok, e]; rfl
    · rcases List.mem_cons.mp hc with rfl | hc
      · exact (uniq b' (hb' x (List.mem_cons_self ..))).symm
      · exact h1 b' (fun z hz => hb' z (List.mem_cons_of_mem _ hz)) c hc
    · cases e2
      exact ⟨bs, by rw [uniq b' hb']⟩
theorem boolsOf_map (bs : List Bool) : boolsOf (bs.map PyData.bool) = .ok bs := by
  induction bs with
  | nil => rfl
  | cons b bs ih => simp [boolsOf, ih]
def hrF (S : Sig) (se : PyData) (vs : List PyData) (x : PyData) : R (Option PyData) :=
  ((bindT (.var 2) x (wipeE [some (false, se), some (false, .tuple vs), none] (tgVars (.var 2)))).bind fun env' => (evC S .nil env').bind fun k => match k with | true => (ev S false (.band (.cons (.call "is_score" (.cons (.var 2) .nil)) (.cons (.cmp .isin (.var 2) (.idx (.var 0) (.cst (.int 2)))) .nil))) env').bind fun d => .ok (some d) | false => .ok none).nox
theorem hrF_ok {S : Sig} {m l : Int} {ss : List (Int × Int)} {vs : List PyData} (x : PyData) (b : Bool) (h : Elem S ss x b) : hrF S (season m l ss) vs x = .ok (some (.bool b)) := by
  have e4 : ixD (.tuple [.int m, .int l, .tuple (ss.map P2)]) (.int 2) = .ok (.tuple (ss.map P2)) := rfl
  unfold hrF
  rcases h with ⟨h, rfl⟩ | ⟨h, h2⟩
  · simp [ev, evs, evC, evAnd, bindT, tgVars, wipeE, R.chk, R.nox, h]
  · simp [ev, evs, evC, evAnd, bindT, tgVars, wipeE, R.chk, R.nox, h, e4, h2]
def lcH : C := .lc (.var 2) (.itm (.var 1)) .nil (.band (.cons (.call "is_score" (.cons (.var 2) .nil)) (.cons (.cmp .isin (.var 2) (.idx (.var 0) (.cst (.int 2)))) .nil)))
theorem ex_has (S : Sig) (m l : Int) (ss : List (Int × Int)) (ML vs : List PyData) (hM : S.cl "find_matches" [season m l ss] = .ok (.list ML)) :
    (vs.length ≠ ML.length → ex S 100 b_has_results (startE 3 [season m l ss, .tuple vs]) = .rt (.bool false)) ∧
    (vs.length = ML.length → (∀ x ∈ vs, Elem S ss x true) → ex S 100 b_has_results (startE 3 [season m l ss, .tuple vs]) = .rt (.bool true)) ∧
    (vs.length = ML.length → ∀ x r, vs = x :: r → Elem S ss x false → (∀ y ∈ r, ∃ b, Elem S ss y b) → ex S 100 b_has_results (startE 3 [season m l ss, .tuple vs]) = .rt (.bool false)) := by
  have e1 : ∀ a b : Int, eqD (.int a) (.int b) = .ok (decide (a = b)) := fun a b => by
    rw [← eqv_int]; rfl
  have term : b_has_results = .seq (.iff (.bor (.cons (.bnot (.bi .isTuple (.cons (.var 1) .nil))) (.cons (.cmp .ne (.bi .len (.cons (.var 1) .nil)) (.bi .len (.cons (.call "find_matches" (.cons (.var 0) .nil)) .nil))) .nil))) (.seq (.ret (.cst (.bool false))) .skip) .skip) (.seq (.ret (.bi .all (.cons lcH .nil))) .skip) := rfl
  have run : vs.length = ML.length → ∀ bs : List Bool, lcGo (hrF S (season m l ss) vs) vs = .ok (bs.map PyData.bool) → ex S 100 b_has_results (startE 3 [season m l ss, .tuple vs]) = .rt (.bool (bs.all id)) := fun hl bs e => by
    have hl' : ((vs.length : Int) = (ML.length : Int)) := by omega
    have e6 : ev S true lcH [some (false, season m l ss), some (false, .tuple vs), none] = .ok (.list (bs.map PyData.bool)) := by
      unfold lcH
      rw [ev]
      have e7 : its S (.itm (.var 1)) [some (false, season m l ss), some (false, .tuple vs), none] = .ok vs := by simp [its, ev]
      rw [e7, R.bind_ok]
      show (lcGo (hrF S (season m l ss) vs) vs).bind _ = _
      rw [e]
      rfl
    rw [term]
    simp [ex, ev, evs, evOr, startE, isTupleD, hM, e1, hl, e6, boolsOf_map]
  refine ⟨fun h => ?_, fun hl h => ?_, fun hl x r e h hr => ?_⟩
  · have h' : ¬ ((vs.length : Int) = (ML.length : Int)) := by omega
    rw [term]
    simp [ex, ev, evs, evOr, startE, isTupleD, hM, e1, h, h']
  · obtain ⟨bs, e, h1, _⟩ := lcGo_bools (S := S) (ss := ss) (f := hrF S (season m l ss) vs) (fun x b h => hrF_ok x b h) (xs := vs) fun x hx => ⟨true, h x hx⟩
    rw [run hl bs e]
    have : bs.all id = true := List.all_eq_true.mpr fun c hc => h1 true h c hc
    rw [this]
  · obtain ⟨bs, e2, _, h1⟩ := lcGo_bools (S := S) (ss := ss) (f := hrF S (season m l ss) vs) (fun x b h => hrF_ok x b h) (xs := vs) fun y hy => by
      rw [e] at hy
      rcases List.mem_cons.mp hy with rfl | hy
      · exact ⟨false, h⟩
      · exact hr y hy
    rw [run hl bs e2]
    obtain ⟨r', rfl⟩ := h1 x r e false h
    rfl
theorem isq_nd {b : Bool} {v : PyData} (h : isDicD v = false) : isq b v = .ok (.bool b) := by cases v <;> first | rfl | (cases h; done)
theorem ex_hasNo (S : Sig) (se v : PyData) (h : isTupleD v = false) (hd : isDicD v = false) : ex S 100 b_has_results (startE 3 [se, v]) = .rt (.bool false) := by
  simp [ex, ev, evs, evOr, startE, b_has_results, h, isq_nd hd]

/-! the calls -/
theorem cd_law_results (n : Nat) (ns : List Int) (hl : ns.length ≤ 63) (k0 : Int) (hk0 : 0 ≤ k0) (kd : Kd) {ss : List (Int × Int)} (hs : 0 < ss.length) : ∃ rs : List (Int × Int), cM (n + 2) "_law_results" [.list (ns.map .int), .int k0, season kd.m kd.l ss] = .ok (.tuple (rs.map P2)) ∧ rs.length = kd.mt.length ∧ ∀ r ∈ rs, r ∈ ss := by
  obtain ⟨rs, e, h1, h2⟩ := ex_results (Sg M (n + 1)) k0 hk0 (.list (ns.map .int)) (draws MLA n ns hl) kd.m kd.l ss (kd.mt.map encM) (cd_lm n kd _) hs (by rw [List.length_map]; exact rng_mt kd)
  refine ⟨rs, ?_, by rw [h1, List.length_map], h2⟩
  show cd M (n + 2) _ _ = _
  rw [cd_succ M MLA._law_results rfl]
  show (ex (Sg M (n + 1)) 100 b__law_results (startE 5 _)).fin = _
  rw [e]
  rfl
theorem eqv_P2 (p q : Int × Int) : PyData.eqv (P2 p) (P2 q) = decide (p = q) := by
  simp only [PyData.eqv, PyData.eqvAll]
  by_cases h : p = q
  · subst h; simp
  · have : ¬ (p.1 = q.1 ∧ p.2 = q.2) := fun z => h (Prod.ext z.1 z.2)
    simp [h]
    omega
theorem shp_P2 (p : Int × Int) : shp (P2 p) = true := rfl
theorem canLay_P2s (ss : List (Int × Int)) : PyData.canLayAll0 (ss.map P2) = true := by
  induction ss with
  | nil => rfl
  | cons a ss ih => rw [List.map_cons, PyData.canLayAll0, ih]; rfl
theorem depth_P2s (ss : List (Int × Int)) : PyData.depthAll (ss.map P2) ≤ 2 := by
  induction ss with
  | nil => decide
  | cons a ss ih => rw [List.map_cons]; exact Nat.max_le.mpr ⟨by simp [PyData.depth, PyData.depthAll], ih⟩
theorem shp_P2s (ss : List (Int × Int)) : shp (.tuple (ss.map P2)) = true := by
  unfold shp SeqAt.shaped
  have h1 := canLay_P2s ss
  have h2 := depth_P2s ss
  simp [PyData.canLay0, h1, PyData.depth]
  omega
theorem inD_P2s (p : Int × Int) (ss : List (Int × Int)) : inD (P2 p) (.tuple (ss.map P2)) = .ok (decide (p ∈ ss)) := by
  show R.chk (shp (P2 p) && shp (.tuple (ss.map P2))) (.ok ((ss.map P2).any fun z => PyData.eqv z (P2 p))) = _
  rw [shp_P2, shp_P2s]
  show R.ok _ = _
  congr 1
  induction ss with
  | nil => rfl
  | cons a ss ih =>
    rw [List.map_cons, List.any_cons, ih, eqv_P2]
    by_cases h : a = p
    · subst h; simp
    · by_cases h2 : p ∈ ss <;> simp [h, h2, Ne.symm h, eq_comm]
theorem cd_has_results (n : Nat) (kd : Kd) {ss : List (Int × Int)} (hr : InR ss) {rs : List (Int × Int)} (hl : rs.length = kd.mt.length) (hm : ∀ r ∈ rs, r ∈ ss) : cM (n + 3) "has_results" [season kd.m kd.l ss, .tuple (rs.map P2)] = .ok (.bool true) := by
  show cd M (n + 3) _ _ = _
  rw [cd_succ M MSR.has_results rfl]
  show (ex (Sg M (n + 2)) 100 b_has_results (startE 3 _)).fin = _
  have h := (ex_has (Sg M (n + 2)) kd.m kd.l ss (kd.mt.map encM) (rs.map P2) (cd_fm n kd _)).2.1 (by rw [List.length_map, List.length_map]; exact hl) fun x hx => by
    obtain ⟨r, h1, rfl⟩ := List.mem_map.mp hx
    exact .inr ⟨cd_score MSA n r (hr r (hm r h1)), by rw [inD_P2s, decide_eq_true (hm r h1)]⟩
  rw [h]
  rfl
theorem cd_check_results (n : Nat) (kd : Kd) {ss : List (Int × Int)} (hr : InR ss) {rs : List (Int × Int)} (hl : rs.length = kd.mt.length) (hm : ∀ r ∈ rs, r ∈ ss) : cM (n + 4) "check_results" [season kd.m kd.l ss, .tuple (rs.map P2)] = .ok .none := by
  show cd M (n + 4) _ _ = _
  rw [cd_succ M MSR.check_results rfl]
  show (ex (Sg M (n + 3)) 100 b_check_results (startE 2 _)).fin = _
  have e : (Sg M (n + 3)).cl "has_results" [season kd.m kd.l ss, .tuple (rs.map P2)] = .ok (.bool true) := cd_has_results n kd hr hl hm
  generalize Sg M (n + 3) = S at e ⊢
  simp [ex, ev, evs, startE, b_check_results, e]
end Cr

set_option Elab.async false
set_option linter.all false
set_option maxRecDepth 100000
set_option maxHeartbeats 4000000
/-! Core texts, part 9: books. -/
namespace Cr
open Rf PySem

abbrev encW (x : Wd) : PyData := .str x.str
structure Book where
  w : Int
  d : Int
  ws : List Wd
  anew : Bool
  drawn : Bool
def modeS (b : Bool) : PyData := match b with | true => .str "anew" | false => .str "once"
def endS (b : Bool) : PyData := match b with | true => .str "drawn" | false => .str "shared"
abbrev encB (b : Book) : PyData := .tuple [.int b.w, .int b.d, .tuple (b.ws.map encW), modeS b.anew, endS b.drawn]
structure BookOk (b : Book) : Prop where
  w : 1 ≤ b.w ∧ b.w ≤ 3
  d : 0 ≤ b.d ∧ b.d ≤ b.w
  l : b.ws.length ≤ 4
  u : b.ws.Nodup
  p : ∀ x ∈ b.ws, x ≠ .points
theorem BookOk.bs {b : Book} (h : BookOk b) : Bs (encB b) b.w b.d := { win := rfl, draw := rfl, w0 := by have := h.w; omega, d0 := by have := h.w; have := h.d; omega }
theorem str_inj {a b : Wd} (h : a.str = b.str) : a = b := by
  have e := eqD_w a b
  rw [h, eqD_w b b] at e
  cases e' : decide (a = b) with
  | true => exact of_decide_eq_true e'
  | false => rw [e', decide_eq_true rfl] at e; cases e
theorem strs_w (ws : List Wd) : strsOf (ws.map encW) = .ok (ws.map Wd.str) := by
  induction ws with
  | nil => rfl
  | cons x ws ih => rw [List.map_cons, strsOf, ih]; rfl
theorem distinct_self {α : Type} [DecidableEq α] : ∀ {l : List α}, l.Nodup → distinct l = l
  | [], _ => rfl
  | x :: l, h => by
    obtain ⟨h1, h2⟩ := List.nodup_cons.mp h
    unfold distinct
    rw [decide_eq_false h1, distinct_self h2]
theorem lenset_w {ws : List Wd} (h : ws.Nodup) (hl : ws.length ≤ 1000) : lenSetD (.tuple (ws.map encW)) = .ok (.int ws.length) := by
  show lenSetL (ws.map encW) = _
  have e : lenSetL (ws.map encW) = (strsOf (ws.map encW)).bind fun zs => R.chk (decide (zs.length ≤ 4000)) (.ok (.int (distinct zs).length)) := by cases ws <;> rfl
  have nd : (ws.map Wd.str).Nodup := List.pairwise_map.mpr (h.imp fun h z => h (str_inj z))
  rw [e, strs_w, R.bind_ok, distinct_self nd, List.length_map, decide_eq_true (by omega)]
  rfl
theorem inD_words {x : Wd} (h : x ≠ .points) : inD (encW x) (.tuple [.str "goals", .str "difference", .str "wins", .str "away", .str "direct", .str "directdiff"]) = .ok true := by
  cases x <;> first
    | exact absurd rfl h
    | kernel_rfl
def lcHb : C := .lc (.var 1) (.itm (.var 0)) .nil (.band (.cons (.bi .isStr (.cons (.var 1) .nil)) (.cons (.cmp .isin (.var 1) (.glob "WORDS")) .nil)))
theorem bools_rep : ∀ n : Nat, boolsOf (List.replicate n (PyData.bool true)) = .ok (List.replicate n true)
  | 0 => rfl
  | n + 1 => by rw [List.replicate_succ, boolsOf, bools_rep n]; rfl
theorem all_true {S : Sig} {env : Rf.Env} {l : C} {n : Nat} (h : ev S true l env = .ok (.list (List.replicate n (.bool true)))) {t : Bool} : ev S t (.bi .all (.cons l .nil)) env = .ok (.bool true) := by
  rw [ev, evs, h, R.bind_ok, evs]
  show (boolsOf (List.replicate n (.bool true))).bind _ = _
  rw [bools_rep]
  show R.ok (PyData.bool ((List.replicate n true).all id)) = _
  have : (List.replicate n true).all id = true := List.all_eq_true.mpr fun x hx => (List.eq_of_mem_replicate hx)
  rw [this]
theorem cd_has_breaks (n : Nat) {ws : List Wd} (hl : ws.length ≤ 4) (hu : ws.Nodup) (hp : ∀ x ∈ ws, x ≠ .points) : cM (n + 1) "has_breaks" [.tuple (ws.map encW)] = .ok (.bool true) := by
  show cd M (n + 1) _ _ = _
  rw [cd_succ M MSB.has_breaks rfl]
  show (ex (Sg M n) 100 b_has_breaks (startE 2 _)).fin = _
  have g1 : (Sg M n).gl "MAX_BREAKS" = .ok (.int 4) := MSB.MAX_BREAKS
  have g2 : (Sg M n).gl "WORDS" = .ok (.tuple [.str "goals", .str "difference", .str "wins", .str "away", .str "direct", .str "directdiff"]) := MSB.WORDS
  generalize Sg M n = S at g1 g2 ⊢
  have term : b_has_breaks = .seq (.iff (.bor (.cons (.bnot (.bi .isTuple (.cons (.var 0) .nil))) (.cons (.cmp .gt (.bi .len (.cons (.var 0) .nil)) (.glob "MAX_BREAKS")) .nil))) (.seq (.ret (.cst (.bool false))) .skip) .skip) (.seq (.ret (.band (.cons (.bi .all (.cons lcHb .nil)) (.cons (.cmp .eq (.bi .lenset (.cons (.var 0) .nil)) (.bi .len (.cons (.var 0) .nil))) .nil)))) .skip) := rfl
  have e : ev S true lcHb [some (false, .tuple (ws.map encW)), none] = .ok (.list (List.replicate ws.length (.bool true))) := by
    unfold lcHb
    rw [ev_lc (xs := ws) encW (fun _ => some (.bool true)) (by simp [its, ev]) fun x hx => ?_, filterMap_some', List.map_const']
    have e1 := inD_words (hp x hx)
    simp [lcS, ev, evs, evC, evAnd, bindT, tgVars, wipeE, R.chk, R.nox, isStrD, g2, e1]
  have e2 := all_true e (t := true)
  have e3 := lenset_w hu (by omega)
  have h4 : ¬ ((4 : Int) < (ws.length : Int)) := by omega
  rw [term]
  generalize hF : (C.bi .all (.cons lcHb .nil)) = F at e2 ⊢
  simp [ex, ev, evs, evAnd, evOr, startE, isTupleD, g1, h4, e2, e3, eqD_int]
theorem inD_mode (b : Bool) : inD (modeS b) (.tuple [.str "anew", .str "once"]) = .ok true := by cases b <;> kernel_rfl
theorem inD_end (b : Bool) : inD (endS b) (.tuple [.str "shared", .str "drawn"]) = .ok true := by cases b <;> kernel_rfl
theorem isS_mode (b : Bool) : biD .isStr [modeS b] = .ok (.bool true) := by cases b <;> rfl
theorem isS_end (b : Bool) : biD .isStr [endS b] = .ok (.bool true) := by cases b <;> rfl
theorem cd_is_book (n : Nat) {b : Book} (h : BookOk b) : cM (n + 2) "is_book" [encB b] = .ok (.bool true) := by
  show cd M (n + 2) _ _ = _
  rw [cd_succ M MSB.is_book rfl]
  show (ex (Sg M (n + 1)) 100 b_is_book (startE 6 _)).fin = _
  have hI : IntOk (Sg M (n + 1)) := intOk MSA n
  have hb : (Sg M (n + 1)).cl "has_breaks" [.tuple (b.ws.map encW)] = .ok (.bool true) := cd_has_breaks n h.l h.u h.p
  have g1 : (Sg M (n + 1)).gl "MAX_WIN" = .ok (.int 3) := MSB.MAX_WIN
  have g2 : (Sg M (n + 1)).gl "ANEW" = .ok (.str "anew") := MSB.ANEW
  have g3 : (Sg M (n + 1)).gl "ONCE" = .ok (.str "once") := MSB.ONCE
  have g4 : (Sg M (n + 1)).gl "SHARED" = .ok (.str "shared") := MSB.SHARED
  have g5 : (Sg M (n + 1)).gl "DRAWN" = .ok (.str "drawn") := MSB.DRAWN
  generalize Sg M (n + 1) = S at hI hb g1 g2 g3 g4 g5 ⊢
  have i1 := inD_mode b.anew
  have i2 := inD_end b.drawn
  have i3 := isS_mode b.anew
  have i4 := isS_end b.drawn
  have hw := h.w
  have hd := h.d
  have l2 : ∀ x y : PyData, decide ([x, y].length ≤ lineN) = true := fun _ _ => rfl
  simp [ex, ev, evs, evAnd, evOr, startE, b_is_book, isTupleD, bindT, bindTs, R.chk, eqD_int, hI _ _ _, hb, g1, g2, g3, g4, g5, hw.1, hw.2, hd.1, hd.2, i1, i2, i3, i4, l2]
theorem cd_check_book (n : Nat) {b : Book} (h : BookOk b) : cM (n + 3) "check_book" [encB b] = .ok .none := by
  show cd M (n + 3) _ _ = _
  rw [cd_succ M MSB.check_book rfl]
  show (ex (Sg M (n + 2)) 100 b_check_book (startE 1 _)).fin = _
  have e : (Sg M (n + 2)).cl "is_book" [encB b] = .ok (.bool true) := cd_is_book n h
  generalize Sg M (n + 2) = S at e ⊢
  generalize encB b = x at e ⊢
  simp [ex, ev, evs, startE, b_check_book, e]
end Cr

set_option Elab.async false
set_option linter.all false
set_option maxRecDepth 100000
set_option maxHeartbeats 4000000
/-! Core texts, part 10: the drawn book. -/
namespace Cr
open Rf PySem

theorem erase_perm' {α : Type} : ∀ (l : List α) (i : Nat) (y : α), l[i]? = some y → (y :: l.eraseIdx i).Perm l
  | [], i, y, e => by simp at e
  | a :: l, 0, y, e => by
    have q : a = y := by simpa using e
    subst q
    exact List.Perm.refl _
  | a :: l, i + 1, y, e => by
    have q := erase_perm' l i y (by simpa using e)
    exact (List.Perm.swap a y _).trans (q.cons a)
theorem map_erase {α β : Type} (f : α → β) : ∀ (l : List α) (i : Nat), (l.map f).eraseIdx i = (l.eraseIdx i).map f
  | [], _ => rfl
  | a :: l, 0 => rfl
  | a :: l, i + 1 => by show f a :: (l.map f).eraseIdx i = _; rw [map_erase f l i]; rfl
theorem ixN_in {n : Nat} {r : Int} (h0 : 0 ≤ r) (h1 : r < n) : L2.ixN n r = some r.toNat := by
  unfold L2.ixN
  rw [if_pos h0, if_pos h1]
def bkA : C := (.call "_law_drawn" (.cons (.var 0) (.cons (.bin .add (.bin .add (.var 1) (.cst (.int 1))) (.var 2)) (.cons (.bi .len (.cons (.var 6) .nil)) .nil))))
def bkB : C := .seq (.apop 7 6 bkA) .skip
def okWs (l : List Wd) : Prop := l.Nodup ∧ ∀ x ∈ l, x ≠ .points
theorem bk_step (S : Sig) (sc : PyData) (hd : Draws S sc) (k0 : Int) (hk : 0 ≤ k0) (i : Nat) (f l : List Wd) (h0 : 0 < l.length) (hl : f.length + l.length = 6) (ok : okWs (f ++ l)) (x3 x4 x5 : Option (Bool × PyData)) : ∃ f' l' : List Wd, ex S 100 bkB [some (false, sc), some (false, .int k0), some (false, .int (i : Nat)), x3, x4, x5, some (true, .list (l.map encW)), some (true, .list (f.map encW))] =
    .nx [some (false, sc), some (false, .int k0), some (false, .int (i : Nat)), x3, x4, x5, some (true, .list (l'.map encW)), some (true, .list (f'.map encW))] ∧ f'.length = f.length + 1 ∧ f'.length + l'.length = 6 ∧ okWs (f' ++ l') := by
  obtain ⟨r, e, r0, r1⟩ := hd (k0 + 1 + i) l.length (by omega) (by omega)
  have hlt : r.toNat < l.length := by omega
  have hx : l[r.toNat]? = some l[r.toNat] := List.getElem?_eq_getElem hlt
  have ll : (l.eraseIdx r.toNat).length + 1 = l.length := by rw [List.length_eraseIdx, if_pos hlt]; omega
  refine ⟨f ++ [l[r.toNat]], l.eraseIdx r.toNat, ?_, by simp, by simp; omega, ?_⟩
  · have eA : ev S false bkA [some (false, sc), some (false, .int k0), some (false, .int (i : Nat)), x3, x4, x5, some (true, .list (l.map encW)), some (true, .list (f.map encW))] = .ok (.int r) := by
      have e' : S.cl "_law_drawn" [sc, .int (k0 + 1 + (i : Int)), .int (l.length : Int)] = .ok (.int r) := e
      simp [bkA, ev, evs, e']
    have eP : popL (l.map encW) r = some (encW l[r.toNat], (l.eraseIdx r.toNat).map encW) := by
      unfold popL
      rw [List.length_map, ixN_in r0 (by omega)]
      simp only [List.getElem?_map, hx, Option.map_some]
      rw [map_erase]
    have l1 : decide ((l.map encW).length ≤ lineN) = true := le_line (by rw [List.length_map]; omega)
    have l2 : decide ((f.map encW).length + [encW l[r.toNat]].length ≤ lineN) = true := le_line (by simp; omega)
    have l2' : decide (f.length + 1 ≤ lineN) = true := le_line (by omega)
    have l1' : decide (l.length ≤ lineN) = true := le_line (by omega)
    unfold bkB
    generalize bkA = A at eA ⊢
    simp [ex, Rf.ownL, eA, popO, eP, l1', l2', appO, R.chk]
  · have p : (f ++ [l[r.toNat]] ++ l.eraseIdx r.toNat).Perm (f ++ l) := by
      rw [List.append_assoc]
      exact List.Perm.append_left f (erase_perm' l r.toNat _ hx)
    exact ⟨p.nodup_iff.mpr ok.1, fun x hx => ok.2 x (p.mem_iff.mp hx)⟩
theorem bk_loop (S : Sig) (sc : PyData) (hd : Draws S sc) (k0 : Int) (hk : 0 ≤ k0) (x3 x4 x5 : Option (Bool × PyData)) : ∀ (is : List Nat) (f l : List Wd) (x2 : Option (Bool × PyData)), is.length < l.length → f.length + l.length = 6 → okWs (f ++ l) → ∃ f' l' : List Wd, ∃ y2, forGo (fun x env => (bindT (.var 2) x env).toS env (ex S 100 bkB)) (is.map fun i => .int (i : Nat)) [some (false, sc), some (false, .int k0), x2, x3, x4, x5, some (true, .list (l.map encW)), some (true, .list (f.map encW))] =
    .nx [some (false, sc), some (false, .int k0), y2, x3, x4, x5, some (true, .list (l'.map encW)), some (true, .list (f'.map encW))] ∧ f'.length = f.length + is.length ∧ okWs (f' ++ l')
  | [], f, l, x2, _, _, ok => ⟨f, l, x2, by simp [forGo], rfl, ok⟩
  | i :: is, f, l, x2, h1, h2, ok => by
    obtain ⟨f1, l1, e1, a1, a2, a3⟩ := bk_step S sc hd k0 hk i f l (by simp only [List.length_cons] at h1; omega) h2 ok x3 x4 x5
    obtain ⟨f2, l2, y2, e2, b1, b2⟩ := bk_loop S sc hd k0 hk x3 x4 x5 is f1 l1 (some (false, .int (i : Nat))) (by simp only [List.length_cons] at h1; omega) a2 a3
    refine ⟨f2, l2, y2, ?_, by rw [b1, a1, List.length_cons]; omega, b2⟩
    rw [List.map_cons, forGo]
    have eb : (bindT (.var 2) (.int (i : Nat)) [some (false, sc), some (false, .int k0), x2, x3, x4, x5, some (true, .list (l.map encW)), some (true, .list (f.map encW))]).toS [some (false, sc), some (false, .int k0), x2, x3, x4, x5, some (true, .list (l.map encW)), some (true, .list (f.map encW))] (ex S 100 bkB) = ex S 100 bkB [some (false, sc), some (false, .int k0), some (false, .int (i : Nat)), x3, x4, x5, some (true, .list (l.map encW)), some (true, .list (f.map encW))] := by
      simp [bindT, R.chk]
    rw [eb, e1]
    exact e2
def allW : List Wd := [.goals, .difference, .wins, .away, .direct, .directdiff]
def bkFor : C := .for_ (.var 2) (.rng (.cons (.call "_law_drawn" (.cons (.var 0) (.cons (.var 1) (.cons (.cst (.int 4)) .nil)))) .nil)) bkB
def bkTail : C := (.seq (.asg 3 false (.idx (.lst (.cons (.cst (.int 3)) (.cons (.cst (.int 2)) (.cons (.cst (.int 1)) (.cons (.cst (.int 3)) .nil))))) (.call "_law_drawn" (.cons (.var 0) (.cons (.bin .add (.var 1) (.cst (.int 5))) (.cons (.cst (.int 4)) .nil)))))) (.seq (.asg 4 false (.bi .min (.cons (.var 3) (.cons (.idx (.lst (.cons (.cst (.int 1)) (.cons (.cst (.int 0)) (.cons (.cst (.int 1)) (.cons (.cst (.int 2)) .nil))))) (.call "_law_drawn" (.cons (.var 0) (.cons (.bin .add (.var 1) (.cst (.int 6))) (.cons (.cst (.int 4)) .nil))))) .nil)))) (.seq (.asg 5 false (.idx (.lst (.cons (.cst (.str "anew")) (.cons (.cst (.str "once")) .nil))) (.call "_law_drawn" (.cons (.var 0) (.cons (.bin .add (.var 1) (.cst (.int 7))) (.cons (.cst (.int 2)) .nil)))))) (.seq (.ret (.tup (.cons (.var 3) (.cons (.var 4) (.cons (.bi .tuple (.cons (.var 7) .nil)) (.cons (.var 5) (.cons (.idx (.lst (.cons (.cst (.str "shared")) (.cons (.cst (.str "drawn")) .nil))) (.call "_law_drawn" (.cons (.var 0) (.cons (.bin .add (.var 1) (.cst (.int 8))) (.cons (.cst (.int 2)) .nil))))) .nil))))))) .skip))))
theorem book_term : b__law_book = .seq (.par (.cons (.var 6) (.cons (.var 7) .nil)) [true, true] (.cons (.lst (.cons (.cst (.str "goals")) (.cons (.cst (.str "difference")) (.cons (.cst (.str "wins")) (.cons (.cst (.str "away")) (.cons (.cst (.str "direct")) (.cons (.cst (.str "directdiff")) .nil))))))) (.cons (.lst .nil) .nil))) (.seq bkFor bkTail) := rfl
theorem pick_w (r : Int) (h0 : 0 ≤ r) (h1 : r < 4) : ∃ w : Int, ixD (.list [.int 3, .int 2, .int 1, .int 3]) (.int r) = .ok (.int w) ∧ 1 ≤ w ∧ w ≤ 3 := by
  have : r = 0 ∨ r = 1 ∨ r = 2 ∨ r = 3 := by omega
  rcases this with rfl | rfl | rfl | rfl
  · exact ⟨3, rfl, by decide, by decide⟩
  · exact ⟨2, rfl, by decide, by decide⟩
  · exact ⟨1, rfl, by decide, by decide⟩
  · exact ⟨3, rfl, by decide, by decide⟩
theorem pick_d (r : Int) (h0 : 0 ≤ r) (h1 : r < 4) : ∃ w : Int, ixD (.list [.int 1, .int 0, .int 1, .int 2]) (.int r) = .ok (.int w) ∧ 0 ≤ w := by
  have : r = 0 ∨ r = 1 ∨ r = 2 ∨ r = 3 := by omega
  rcases this with rfl | rfl | rfl | rfl
  · exact ⟨1, rfl, by decide⟩
  · exact ⟨0, rfl, by decide⟩
  · exact ⟨1, rfl, by decide⟩
  · exact ⟨2, rfl, by decide⟩
theorem pick_m (r : Int) (h0 : 0 ≤ r) (h1 : r < 2) : ∃ b : Bool, ixD (.list [.str "anew", .str "once"]) (.int r) = .ok (modeS b) := by
  have : r = 0 ∨ r = 1 := by omega
  rcases this with rfl | rfl
  · exact ⟨true, rfl⟩
  · exact ⟨false, rfl⟩
theorem pick_e (r : Int) (h0 : 0 ≤ r) (h1 : r < 2) : ∃ b : Bool, ixD (.list [.str "shared", .str "drawn"]) (.int r) = .ok (endS b) := by
  have : r = 0 ∨ r = 1 := by omega
  rcases this with rfl | rfl
  · exact ⟨false, rfl⟩
  · exact ⟨true, rfl⟩
theorem ex_book (S : Sig) (sc : PyData) (hd : Draws S sc) (k0 : Int) (hk : 0 ≤ k0) : ∃ b : Book, ex S 100 b__law_book (startE 8 [sc, .int k0]) = .rt (encB b) ∧ BookOk b := by
  obtain ⟨r0, e0, a0, b0⟩ := hd k0 4 hk (by decide)
  obtain ⟨r5, e5, a5, b5⟩ := hd (k0 + 5) 4 (by omega) (by decide)
  obtain ⟨r6, e6, a6, b6⟩ := hd (k0 + 6) 4 (by omega) (by decide)
  obtain ⟨r7, e7, a7, b7⟩ := hd (k0 + 7) 2 (by omega) (by decide)
  obtain ⟨r8, e8, a8, b8⟩ := hd (k0 + 8) 2 (by omega) (by decide)
  obtain ⟨w, hw, w1, w3⟩ := pick_w r5 a5 b5
  obtain ⟨dd, hdd, d0⟩ := pick_d r6 a6 b6
  obtain ⟨an, han⟩ := pick_m r7 a7 b7
  obtain ⟨dr, hdr⟩ := pick_e r8 a8 b8
  obtain ⟨ws, l', y2, el, fl, ok⟩ := bk_loop S sc hd k0 hk none none none (List.range r0.toNat) [] allW none (by rw [List.length_range]; show r0.toNat < 6; omega) rfl ⟨by decide, by decide⟩
  have hwl : ws.length ≤ 3 := by rw [fl, List.length_range]; simp; omega
  have nd := List.nodup_append.mp ok.1
  refine ⟨⟨w, if dd < w then dd else w, ws, an, dr⟩, ?_, ⟨⟨w1, w3⟩, ?_, by show ws.length ≤ 4; omega, nd.1, fun x hx => ok.2 x (List.mem_append_left _ hx)⟩⟩
  · have eF : ex S 100 bkFor [some (false, sc), some (false, .int k0), none, none, none, none, some (true, .list (allW.map encW)), some (true, .list [])] = .nx [some (false, sc), some (false, .int k0), y2, none, none, none, some (true, .list (l'.map encW)), some (true, .list (ws.map encW))] := by
      unfold bkFor
      rw [ex]
      have e1 : its S (.rng (.cons (.call "_law_drawn" (.cons (.var 0) (.cons (.var 1) (.cons (.cst (.int 4)) .nil)))) .nil)) [some (false, sc), some (false, .int k0), none, none, none, none, some (true, .list (allW.map encW)), some (true, .list [])] = .ok ((List.range r0.toNat).map fun i => .int (i : Nat)) := by
        have er : rngD [.int r0] = .ok ((List.range r0.toNat).map fun i => .int (i : Nat)) := by
          have : r0 = 0 ∨ r0 = 1 ∨ r0 = 2 ∨ r0 = 3 := by omega
          rcases this with rfl | rfl | rfl | rfl <;> kernel_rfl
        rw [its]
        have e2 : evs S true (.cons (.call "_law_drawn" (.cons (.var 0) (.cons (.var 1) (.cons (.cst (.int 4)) .nil)))) .nil) [some (false, sc), some (false, .int k0), none, none, none, none, some (true, .list (allW.map encW)), some (true, .list [])] = .ok [.int r0] := by
          simp [ev, evs, e0]
        rw [e2, R.bind_ok, er]
      rw [e1, R.toS_ok]
      exact el
    have l4 : ∀ a b c d : PyData, decide ([a, b, c, d].length ≤ lineN) = true := fun _ _ _ _ => rfl
    have l5 : ∀ a b c d e : PyData, decide ([a, b, c, d, e].length ≤ lineN) = true := fun _ _ _ _ _ => rfl
    have l2 : ∀ x y : PyData, decide ([x, y].length ≤ lineN) = true := fun _ _ => rfl
    have em : ∀ i j : Int, biD .min [.int i, .int j] = .ok (.int (if j < i then j else i)) := fun _ _ => rfl
    have eT : ex S 100 bkTail [some (false, sc), some (false, .int k0), y2, none, none, none, some (true, .list (l'.map encW)), some (true, .list (ws.map encW))] = .rt (encB ⟨w, if dd < w then dd else w, ws, an, dr⟩) := by
      simp [bkTail, ex, ev, evs, e5, e6, e7, e8, hw, hdd, han, hdr, l4, l2, l5, em, R.chk]
    have l6 : ∀ a b c d e f : PyData, decide ([a, b, c, d, e, f].length ≤ lineN) = true := fun _ _ _ _ _ _ => rfl
    have l0 : decide (([] : List PyData).length ≤ lineN) = true := rfl
    rw [book_term]
    have eF' : ex S 100 bkFor [some (false, sc), some (false, .int k0), none, none, none, none, some (true, .list [.str "goals", .str "difference", .str "wins", .str "away", .str "direct", .str "directdiff"]), some (true, .list [])] = _ := eF
    generalize bkFor = Fo at eF' ⊢
    generalize bkTail = Ta at eT ⊢
    simp [ex, evPar, putPar, ev, evs, startE, ownD, l6, l0, R.chk, eF', eT]
  · show 0 ≤ (if dd < w then dd else w) ∧ (if dd < w then dd else w) ≤ w
    split <;> omega
theorem cd_law_book (n : Nat) (ns : List Int) (hl : ns.length ≤ 63) (k0 : Int) (hk : 0 ≤ k0) : ∃ b : Book, cM (n + 2) "_law_book" [.list (ns.map .int), .int k0] = .ok (encB b) ∧ BookOk b := by
  obtain ⟨b, e, h⟩ := ex_book (Sg M (n + 1)) (.list (ns.map .int)) (draws MLA n ns hl) k0 hk
  refine ⟨b, ?_, h⟩
  show cd M (n + 2) _ _ = _
  rw [cd_succ M MLK._law_book rfl]
  show (ex (Sg M (n + 1)) 100 b__law_book (startE 8 _)).fin = _
  rw [e]
  rfl
end Cr

set_option Elab.async false
set_option linter.all false
set_option maxRecDepth 100000
set_option maxHeartbeats 4000000
/-! Core texts, part 13: a group divided by numbers (the program's way). -/
namespace Cr
open Rf PySem

/-- the groups by descending number -/
def splitS (g : List Sd) (f : Sd → Int) : List (List Sd) := ((sortSetI (g.map f)).reverse).map fun k => g.filter fun s => decide (f s = k)
abbrev ch (i : Sd) : Str := ⟨#[97 + i.val]⟩
theorem join_ch : ∀ l : List Sd, Str.join ⟨#[]⟩ (l.map ch) = grp l
  | [] => rfl
  | [i] => rfl
  | i :: j :: r => by
    have ih := join_ch (j :: r)
    show ch i ++ (⟨#[]⟩ : Str) ++ Str.join ⟨#[]⟩ ((j :: r).map ch) = _
    rw [ih]
    show (⟨(#[97 + i.val] ++ #[]) ++ ((j :: r).map fun i => 97 + i.val).toArray⟩ : Str) = ⟨((i :: j :: r).map fun i => 97 + i.val).toArray⟩
    simp
theorem strs_ch (l : List Sd) : strsOf (l.map sd) = .ok (l.map ch) := by
  induction l with
  | nil => rfl
  | cons i l ih => rw [List.map_cons, strsOf, ih]; rfl
theorem join_sd {l : List Sd} (h : l.length ≤ 1000) : joinD (PyData.str "") (PyData.list (l.map sd)) = R.ok (gd l) := by
  show (strsOf (l.map sd)).bind (fun zs => R.chk (decide ((zs.map (fun z : Str => z.length)).sum + zs.length * (Str.length "") ≤ lineN)) (R.ok (PyData.str (Str.join "" zs)))) = _
  rw [strs_ch, R.bind_ok]
  have e1 : ((l.map ch).map (fun z : Str => z.length)).sum = l.length := by
    clear h
    induction l with
    | nil => rfl
    | cons i l ih => rw [List.map_cons, List.map_cons, List.sum_cons, ih]; show 1 + l.length = _; rw [List.length_cons]; omega
  have e2 : decide (((l.map ch).map (fun z : Str => z.length)).sum + (l.map ch).length * (Str.length "") ≤ lineN) = true := by
    rw [e1]
    show decide (l.length + (l.map ch).length * 0 ≤ lineN) = true
    exact le_line (by omega)
  rw [e2]
  show R.ok (PyData.str (Str.join ⟨#[]⟩ (l.map ch))) = _
  rw [join_ch]
theorem sortset_ints {is : List Int} (h : is.length ≤ 60) : biD .sortset [.list (is.map .int)] = .ok (.list ((sortSetI is).map .int)) := by
  show sortSetL (is.map .int) = _
  unfold sortSetL
  cases is with
  | nil => rfl
  | cons i is =>
    have hd : (distinct (i :: is)).length ≤ (i :: is).length := Cr.distinct_len (i :: is)
    rw [show isIntL ((i :: is).map PyData.int) = true from rfl]
    show (intsOf ((i :: is).map PyData.int)).bind _ = _
    rw [intsOf_map, R.bind_ok]
    have e : (decide ((i :: is).length ≤ 4000) && decide ((distinct (i :: is)).length < 64)) = true := by
      rw [decide_eq_true (by omega), decide_eq_true (by omega)]; rfl
    rw [e]
    rfl
def lcV : C := .lc (.tup (.cons (.var 4) (.cons (.var 5) .nil))) (.zip (.var 0) (.var 1)) (.cons (.cmp .eq (.var 5) (.var 3)) .nil) (.var 4)
def dvB : C := .seq (.app 2 (.bi .join (.cons (.cst (.str "")) (.cons lcV .nil)))) .skip
theorem dv_term : b_divided = .seq (.asg 2 true (.lst .nil)) (.seq (.for_ (.var 3) (.itm (.rev (.bi .sortset (.cons (.var 1) .nil)))) dvB) (.fz 2 (.seq (.ret (.var 2)) .skip))) := rfl
theorem zips_sd (g : List Sd) (f : Sd → Int) : zips (g.map sd) ((g.map f).map .int) = g.map fun s => .tuple [sd s, .int (f s)] := by
  induction g with
  | nil => rfl
  | cons s g ih => show _ :: zips (g.map sd) ((g.map f).map .int) = _; rw [ih]; rfl
theorem eV (S : Sig) {g : List Sd} (hg : g.length ≤ 60) (f : Sd → Int) (k : Int) (x2 x4 x5 : Option (Bool × PyData)) : ev S true lcV [some (false, gd g), some (false, .list ((g.map f).map .int)), x2, some (false, .int k), x4, x5] = .ok (.list ((g.filter fun s => decide (f s = k)).map sd)) := by
  unfold lcV
  rw [ev_lc (xs := g) (fun s => .tuple [sd s, .int (f s)]) (fun s => if decide (f s = k) = true then some (sd s) else none) ?_ fun s _ => ?_, filterMap_if]
  · rw [← zips_sd]
    have := items_grp g (by omega)
    simp only [its, ev, getV_z, getV_s, R.bind_ok, this, items_l]
    simp [this]
  · by_cases h : f s = k
    · simp [lcS, ev, evs, evC, bindT, bindTs, tgVars, wipeE, R.chk, R.nox, eqD_int, h]
    · simp [lcS, ev, evs, evC, bindT, bindTs, tgVars, wipeE, R.chk, R.nox, eqD_int, h]
theorem dv_loop (S : Sig) {g : List Sd} (hg : g.length ≤ 60) (f : Sd → Int) : ∀ (ks : List Int) (acc : List (List Sd)) (x3 x4 x5 : Option (Bool × PyData)), acc.length + ks.length ≤ 1000 → ∃ y3, forGo (fun x env => (bindT (.var 3) x env).toS env (ex S 100 dvB)) (ks.map .int) [some (false, gd g), some (false, .list ((g.map f).map .int)), some (true, .list (acc.map gd)), x3, x4, x5] =
    .nx [some (false, gd g), some (false, .list ((g.map f).map .int)), some (true, .list ((acc ++ ks.map fun k => g.filter fun s => decide (f s = k)).map gd)), y3, x4, x5]
  | [], acc, x3, x4, x5, _ => ⟨x3, by simp [forGo]⟩
  | k :: ks, acc, x3, x4, x5, hl => by
    obtain ⟨y3, e⟩ := dv_loop S hg f ks (acc ++ [g.filter fun s => decide (f s = k)]) (some (false, .int k)) x4 x5 (by simp only [List.length_append, List.length_cons, List.length_nil] at hl ⊢; omega)
    refine ⟨y3, ?_⟩
    rw [show acc ++ (k :: ks).map (fun k => g.filter fun s => decide (f s = k)) = acc ++ [g.filter fun s => decide (f s = k)] ++ ks.map fun k => g.filter fun s => decide (f s = k) by simp, ← e, List.map_cons, forGo]
    have ej : ev S false (.bi .join (.cons (.cst (.str "")) (.cons lcV .nil))) [some (false, gd g), some (false, .list ((g.map f).map .int)), some (true, .list (acc.map gd)), some (false, .int k), x4, x5] = .ok (gd (g.filter fun s => decide (f s = k))) := by
      rw [ev, evs, evs, eV S hg f k, evs]
      exact join_sd (Nat.le_trans (List.length_filter_le _ _) (by omega))
    have l1 : decide (acc.length + 1 ≤ lineN) = true := le_line (by simp only [List.length_cons] at hl; omega)
    unfold dvB
    generalize hF : (C.bi .join (.cons (.cst (.str "")) (.cons lcV .nil))) = F at ej ⊢
    generalize (g.filter fun s => decide (f s = k)) = gk at ej ⊢
    generalize gd g = G at ej ⊢
    generalize PyData.list ((g.map f).map .int) = N at ej ⊢
    simp [ex, bindT, R.chk, Rf.ownL, ej, appO, l1]
theorem cd_divided (n : Nat) {g : List Sd} (hg : g.length ≤ 60) (f : Sd → Int) : cM (n + 1) "divided" [gd g, .list ((g.map f).map .int)] = .ok (.list ((splitS g f).map gd)) := by
  show cd M (n + 1) _ _ = _
  rw [cd_succ M MST.divided rfl]
  show (ex (Sg M n) 100 b_divided (startE 6 _)).fin = _
  generalize Sg M n = S
  have hd : (sortSetI (g.map f)).length ≤ 60 := by
    unfold sortSetI
    rw [isort_perm.length_eq]
    have := Cr.distinct_len (g.map f)
    rw [List.length_map] at this
    omega
  obtain ⟨y3, e⟩ := dv_loop S hg f (sortSetI (g.map f)).reverse [] none none none (by simp; omega)
  have e2 : ex S 100 (.for_ (.var 3) (.itm (.rev (.bi .sortset (.cons (.var 1) .nil)))) dvB) [some (false, gd g), some (false, .list ((g.map f).map .int)), some (true, .list []), none, none, none] = .nx [some (false, gd g), some (false, .list ((g.map f).map .int)), some (true, .list ((splitS g f).map gd)), y3, none, none] := by
    rw [ex]
    have e3 : its S (.itm (.rev (.bi .sortset (.cons (.var 1) .nil)))) [some (false, gd g), some (false, .list ((g.map f).map .int)), some (true, .list []), none, none, none] = .ok ((sortSetI (g.map f)).reverse.map .int) := by
      have := sortset_ints (is := g.map f) (by rw [List.length_map]; exact hg)
      generalize PyData.list ((g.map f).map .int) = N at this ⊢
      simp [its, ev, evs, this, revD, itemsK]
    rw [e3, R.toS_ok]
    exact e
  rw [dv_term]
  generalize hF : (C.for_ (.var 3) (.itm (.rev (.bi .sortset (.cons (.var 1) .nil)))) dvB) = F at e2 ⊢
  have l0 : decide (([] : List PyData).length ≤ lineN) = true := rfl
  generalize PyData.list ((g.map f).map .int) = N at e2 ⊢
  simp [ex, ev, evs, startE, l0, e2, Rf.freeze, R.chk]
end Cr

set_option Elab.async false
set_option linter.all false
set_option maxRecDepth 100000
set_option maxHeartbeats 4000000
/-! Core texts, part 14: the law's split (under way). -/
namespace Cr
open Rf PySem

/-- keys as they come first -/
def addK (acc : List Int) (k : Int) : List Int := if k ∈ acc then acc else acc ++ [k]
def keysO (l : List Int) : List Int := l.foldl addK []
/-- what the dict holds behind the sides of l -/
def accM (f : Sd → Int) (l : List Sd) : List (Int × List Sd) := (keysO (l.map f)).map fun k => (k, l.filter fun s => decide (f s = k))
abbrev encD (m : List (Int × List Sd)) : List (PyData × PyData) := m.map fun p => (.int p.1, gd p.2)
theorem keysO_snoc (l : List Int) (k : Int) : keysO (l ++ [k]) = addK (keysO l) k := by
  unfold keysO
  rw [List.foldl_append]
  rfl
theorem keysO_mem {k : Int} : ∀ {l acc : List Int}, k ∈ l.foldl addK acc ↔ k ∈ acc ∨ k ∈ l
  | [], acc => by simp
  | x :: l, acc => by
    rw [List.foldl_cons, keysO_mem (l := l) (acc := addK acc x)]
    unfold addK
    by_cases h : x ∈ acc
    · rw [if_pos h, List.mem_cons]
      constructor
      · rintro (a | a)
        · exact .inl a
        · exact .inr (.inr a)
      · rintro (a | rfl | a)
        · exact .inl a
        · exact .inl h
        · exact .inr a
    · rw [if_neg h, List.mem_append, List.mem_singleton, List.mem_cons, or_assoc]
theorem keysO_nodup : ∀ {l acc : List Int}, acc.Nodup → (l.foldl addK acc).Nodup
  | [], acc, h => h
  | x :: l, acc, h => by
    rw [List.foldl_cons]
    refine keysO_nodup ?_
    unfold addK
    by_cases hx : x ∈ acc
    · rw [if_pos hx]; exact h
    · rw [if_neg hx]
      exact List.nodup_append.mpr ⟨h, by simp, fun a ha b hb => by rw [List.mem_singleton] at hb; subst hb; exact fun z => hx (z ▸ ha)⟩
theorem desc_eq (l : List Int) : isort (fun a b : Int => decide (b ≤ a)) (keysO l) = (sortSetI l).reverse := by
  have t : PySem.W.TotalLe (fun a b : Int => decide (b ≤ a)) := by
    constructor
    · intro a b c h1 h2; simp only [decide_eq_true_eq] at *; omega
    · intro a b; simp only [decide_eq_true_eq]; omega
  have ti : PySem.W.TotalLe (fun a b : Int => decide (a ≤ b)) := by
    constructor
    · intro a b c h1 h2; simp only [decide_eq_true_eq] at *; omega
    · intro a b; simp only [decide_eq_true_eq]; omega
  have p1 : (isort (fun a b : Int => decide (b ≤ a)) (keysO l)).Pairwise (fun a b => decide (b ≤ a) = true) := isort_pair t
  have p2 : (sortSetI l).Pairwise (fun a b => decide (a ≤ b) = true) := isort_pair ti
  have n1 : (isort (fun a b : Int => decide (b ≤ a)) (keysO l)).Nodup := isort_perm.nodup_iff.mpr (keysO_nodup .nil)
  have n2 : (sortSetI l).Nodup := by unfold sortSetI; exact isort_perm.nodup_iff.mpr distinct_nodup
  have key : ∀ {a b : List Int}, a.Pairwise (fun a b => decide (b ≤ a) = true) → b.Pairwise (fun a b => decide (b ≤ a) = true) → a.Nodup → b.Nodup → (∀ k, k ∈ a ↔ k ∈ b) → a = b := fun {a} => by
    induction a with
    | nil => intro b _ _ _ _ h; cases b with
      | nil => rfl
      | cons y b => have := (h y).mpr (by simp); simp at this
    | cons x a ih =>
      intro b pa pb na nb h
      cases b with
      | nil => have := (h x).mp (by simp); simp at this
      | cons y b =>
        rw [List.pairwise_cons] at pa pb
        rw [List.nodup_cons] at na nb
        have e : x = y := by
          rcases List.mem_cons.mp ((h x).mp (by simp)) with q | q
          · exact q
          · rcases List.mem_cons.mp ((h y).mpr (by simp)) with q2 | q2
            · exact q2.symm
            · have a1 := of_decide_eq_true (pa.1 y q2)
              have a2 := of_decide_eq_true (pb.1 x q)
              omega
        subst e
        rw [ih pa.2 pb.2 na.2 nb.2 fun k => ?_]
        have hk := h k
        simp only [List.mem_cons] at hk
        constructor
        · intro q; exact (hk.mp (.inr q)).resolve_left fun z => na.1 (z ▸ q)
        · intro q; exact (hk.mpr (.inr q)).resolve_left fun z => nb.1 (z ▸ q)
  refine key p1 ?_ n1 ((List.reverse_perm _).nodup_iff.mpr n2) fun k => ?_
  · rw [List.pairwise_reverse]; exact p2
  · rw [isort_perm.mem_iff, List.mem_reverse]
    unfold sortSetI
    rw [isort_perm.mem_iff, distinct_mem]
    unfold keysO
    rw [keysO_mem]
    simp
/-! the dict -/
theorem eqv_i (a b : Int) : PyData.eqv (.int a) (.int b) = decide (a = b) := eqv_int a b
theorem encD_keys (m : List (Int × List Sd)) (k : Int) : keyOk (encD m) (.int k) = true := by
  unfold keyOk
  have : ((encD m).all fun p => isLeafK p.1) = true := List.all_eq_true.mpr fun p hp => by
    obtain ⟨q, _, rfl⟩ := List.mem_map.mp hp
    rfl
  rw [this]
  rfl
theorem encD_find (k : Int) : ∀ m : List (Int × List Sd), dfind (encD m) (.int k) = (m.find? fun p => decide (p.1 = k)).map fun p => gd p.2
  | [] => rfl
  | p :: m => by
    unfold dfind
    show ((((PyData.int p.1, gd p.2) : PyData × PyData) :: encD m).find? fun p => PyData.eqv p.1 (.int k)).map (·.2) = _
    rw [List.find?_cons, List.find?_cons]
    show (match PyData.eqv (.int p.1) (.int k) with | true => some _ | false => _).map _ = _
    rw [eqv_i]
    cases h : decide (p.1 = k) with
    | true => rfl
    | false => exact encD_find k m
theorem acc_find (f : Sd → Int) (l : List Sd) (k : Int) : ((accM f l).find? fun p => decide (p.1 = k)).map (fun p => gd p.2) = if k ∈ keysO (l.map f) then some (gd (l.filter fun s => decide (f s = k))) else none := by
  unfold accM
  generalize keysO (l.map f) = ks
  induction ks with
  | nil => rfl
  | cons x ks ih =>
    rw [List.map_cons, List.find?_cons]
    by_cases h : x = k
    · subst h
      simp
    · rw [show decide (((x, l.filter fun s => decide (f s = x)) : Int × List Sd).1 = k) = false from decide_eq_false h]
      show ((ks.map _).find? _).map _ = _
      rw [ih]
      have : (k ∈ x :: ks) ↔ k ∈ ks := by rw [List.mem_cons]; exact ⟨fun z => z.resolve_left fun e => h e.symm, .inr⟩
      by_cases h2 : k ∈ ks
      · rw [if_pos h2, if_pos (this.mpr h2)]
      · rw [if_neg h2, if_neg fun z => h2 (this.mp z)]
theorem acc_get (f : Sd → Int) (l : List Sd) (k : Int) : dgetD (.dict (encD (accM f l))) (.int k) (.str "") = .ok (gd (l.filter fun s => decide (f s = k))) := by
  show R.chk (keyOk (encD (accM f l)) (.int k)) (.ok ((dfind (encD (accM f l)) (.int k)).getD (.str ""))) = _
  rw [encD_keys, encD_find, acc_find]
  by_cases h : k ∈ keysO (l.map f)
  · rw [if_pos h]; rfl
  · rw [if_neg h]
    have : l.filter (fun s => decide (f s = k)) = [] := by
      rw [List.filter_eq_nil_iff]
      intro s hs
      have : f s ≠ k := fun z => h (by unfold keysO; rw [keysO_mem]; exact .inr (List.mem_map.mpr ⟨s, hs, z⟩))
      simpa using this
    rw [this]
    rfl
theorem acc_put (f : Sd → Int) (l : List Sd) (s : Sd) : dputL (encD (accM f l)) (.int (f s)) (gd ((l.filter fun x => decide (f x = f s)) ++ [s])) = encD (accM f (l ++ [s])) := by
  have ea : ((encD (accM f l)).any fun p => PyData.eqv p.1 (.int (f s))) = decide (f s ∈ keysO (l.map f)) := by
    unfold accM
    generalize keysO (l.map f) = ks
    induction ks with
    | nil => rfl
    | cons x ks ih =>
      show (PyData.eqv (.int x) (.int (f s)) || ((encD (ks.map fun k => (k, l.filter fun s => decide (f s = k)))).any fun p => PyData.eqv p.1 (.int (f s)))) = _
      rw [ih, eqv_i]
      by_cases h : x = f s
      · simp [h]
      · by_cases h2 : f s ∈ ks
        · simp [h, h2]
        · simp [h, h2, Ne.symm h]
        
  have ek : keysO ((l ++ [s]).map f) = addK (keysO (l.map f)) (f s) := by rw [List.map_append]; exact keysO_snoc _ _
  have ef : ∀ k, (l ++ [s]).filter (fun x => decide (f x = k)) = l.filter (fun x => decide (f x = k)) ++ if f s = k then [s] else [] := fun k => by
    rw [List.filter_append]
    by_cases h : f s = k
    · rw [if_pos h, List.filter_cons_of_pos (by simpa using h)]; rfl
    · rw [if_neg h, List.filter_cons_of_neg (by simpa using h)]; rfl
  unfold dputL
  rw [ea]
  unfold accM
  rw [ek]
  unfold addK
  by_cases h : f s ∈ keysO (l.map f)
  · rw [decide_eq_true h, if_pos h]
    show (encD ((keysO (l.map f)).map fun k => (k, l.filter fun s => decide (f s = k)))).map _ = _
    unfold encD
    rw [List.map_map, List.map_map, List.map_map]
    refine List.map_congr_left fun k hk => ?_
    show (match PyData.eqv (.int k) (.int (f s)) with | true => ((PyData.int k, gd ((l.filter fun x => decide (f x = f s)) ++ [s])) : PyData × PyData) | false => (.int k, gd (l.filter fun s => decide (f s = k)))) = (.int k, gd ((l ++ [s]).filter fun x => decide (f x = k)))
    rw [eqv_i, ef]
    by_cases h2 : k = f s
    · subst h2; simp
    · rw [decide_eq_false h2, if_neg (Ne.symm h2), List.append_nil]
  · rw [decide_eq_false h, if_neg h]
    show encD _ ++ [(PyData.int (f s), gd ((l.filter fun x => decide (f x = f s)) ++ [s]))] = _
    rw [List.map_append]
    unfold encD
    rw [List.map_append]
    congr 1
    · rw [List.map_map, List.map_map]
      refine List.map_congr_left fun k hk => ?_
      have h2 : ¬ f s = k := fun z => h (z ▸ hk)
      show ((PyData.int k, gd (l.filter fun s => decide (f s = k))) : PyData × PyData) = (.int k, gd ((l ++ [s]).filter fun x => decide (f x = k)))
      rw [ef, if_neg h2, List.append_nil]
    · show [((PyData.int (f s), gd ((l.filter fun x => decide (f x = f s)) ++ [s])) : PyData × PyData)] = [(.int (f s), gd ((l ++ [s]).filter fun x => decide (f x = f s)))]
      rw [ef, if_pos rfl]
end Cr

set_option Elab.async false
set_option linter.all false
set_option maxRecDepth 100000
set_option maxHeartbeats 4000000
/-! Core texts, part 15: the law's split is the program's. -/
namespace Cr
open Rf PySem

/-- sorted(dict, reverse=True), keys ints -/
theorem rsort_keys (m : List (Int × List Sd)) (h : m.length ≤ 1000) : biD .rsorted [.dict (encD m)] = .ok (.list ((isort (fun a b : Int => decide (b ≤ a)) (m.map (·.1))).map .int)) := by
  show sortD true ((encD m).map (·.1)) = _
  have e0 : (encD m).map (·.1) = (m.map (·.1)).map PyData.int := by unfold encD; rw [List.map_map, List.map_map]; rfl
  rw [e0]
  unfold sortD
  have h1 : decide (((m.map (·.1)).map PyData.int).length ≤ lineN) = true := le_line (by simp; omega)
  have h2 : alikeAllB ((m.map (·.1)).map PyData.int) = true := by unfold alikeAllB; simp [List.all_map, PySem.W.alike]
  have h3 : sortableB ((m.map (·.1)).map PyData.int) = true := by unfold sortableB; simp [List.all_map]
  have h4 : depthB ((m.map (·.1)).map PyData.int) = true := by unfold depthB; simp [List.all_map, PyData.depth]
  have h5 : nodics ((m.map (·.1)).map PyData.int) = true := by
    generalize m.map (·.1) = l
    induction l with
    | nil => rfl
    | cons a l ih => rw [List.map_cons, nodics, ih]; rfl
  rw [h1, h2, h3, h4, h5, isort_map PyData.int (le' := fun a b : Int => decide (b ≤ a)) fun a b => ?_]
  · rfl
  · have := congrFun (congrFun (PySem.W.dataGe_int (fun a : Int => a)) a) b
    exact this
def spB : C := (.seq (.asg 6 false (.call "_law_count" (.cons (.var 0) (.cons (.idx (.var 1) (.var 5)) (.cons (.var 2) (.cons (.var 3) .nil)))))) (.seq (.dput 4 (.var 6) (.bin .add (.dget (.var 4) (.var 6) (.cst (.str ""))) (.var 5))) .skip))
theorem grp_snoc (acc : List Sd) (s : Sd) : (grp acc ++ (⟨#[97 + s.val]⟩ : Str)) = grp (acc ++ [s]) := by
  show (⟨(acc.map fun i => 97 + i.val).toArray ++ #[97 + s.val]⟩ : Str) = ⟨((acc ++ [s]).map fun i => 97 + i.val).toArray⟩
  simp
theorem grp_len (acc : List Sd) : (grp acc).length = acc.length := by
  show ((acc.map fun i => 97 + i.val).toArray).size = _
  simp
theorem add_grp {acc : List Sd} (s : Sd) (h : acc.length ≤ 1000) : binD .add (gd acc) (sd s) = .ok (gd (acc ++ [s])) := by
  have hle : (grp acc).length + (⟨#[97 + s.val]⟩ : Str).length ≤ lineN := by
    rw [grp_len]
    show acc.length + 1 ≤ lineN
    exact Nat.le_trans (show acc.length + 1 ≤ 1000000 by omega) (by decide)
  rw [show binD .add (gd acc) (sd s) = .ok (.str (grp acc ++ ⟨#[97 + s.val]⟩)) from binD_addS hle, grp_snoc]
theorem acc_len (f : Sd → Int) (l : List Sd) : (encD (accM f l)).length ≤ l.length := by
  unfold encD accM
  rw [List.length_map, List.length_map]
  have : ∀ (l acc : List Int), (l.foldl addK acc).length ≤ acc.length + l.length := fun l => by
    induction l with
    | nil => intro acc; simp
    | cons x l ih =>
      intro acc
      rw [List.foldl_cons]
      have h1 := ih (addK acc x)
      have h2 : (addK acc x).length ≤ acc.length + 1 := by unfold addK; split <;> simp
      simp only [List.length_cons]
      omega
  have h := this (l.map f) []
  unfold keysO
  simpa using h
theorem sp_loop (S : Sig) (bk kn wdD : PyData) (g : List Sd) (f : Sd → Int) (K : Sd → PyData) (hk : ∀ s ∈ g, ixD kn (sd s) = .ok (K s)) (hc : ∀ s ∈ g, S.cl "_law_count" [bk, K s, gd g, wdD] = .ok (.int (f s))) : ∀ (l pre : List Sd) (x5 x6 : Option (Bool × PyData)), (∀ s ∈ l, s ∈ g) → pre.length + l.length ≤ 60 → ∃ y5 y6,
    forGo (fun x env => (bindT (.var 5) x env).toS env (ex S 100 spB)) (l.map sd) [some (false, bk), some (false, kn), some (false, gd g), some (false, wdD), some (true, .dict (encD (accM f pre))), x5, x6] =
    .nx [some (false, bk), some (false, kn), some (false, gd g), some (false, wdD), some (true, .dict (encD (accM f (pre ++ l)))), y5, y6]
  | [], pre, x5, x6, _, _ => ⟨x5, x6, by rw [List.append_nil]; rfl⟩
  | s :: l, pre, x5, x6, hl, hn => by
    have hs := hl s (List.mem_cons_self ..)
    obtain ⟨y5, y6, e⟩ := sp_loop S bk kn wdD g f K hk hc l (pre ++ [s]) (some (false, sd s)) (some (false, .int (f s))) (fun x hx => hl x (List.mem_cons_of_mem _ hx)) (by simp only [List.length_append, List.length_cons, List.length_nil] at hn ⊢; omega)
    refine ⟨y5, y6, ?_⟩
    rw [show pre ++ s :: l = pre ++ [s] ++ l by simp, ← e, List.map_cons, forGo]
    have e1 := hk s hs
    have e2 := hc s hs
    have e3 := acc_get f pre (f s)
    have e4 := add_grp (acc := pre.filter fun x => decide (f x = f s)) s (Nat.le_trans (List.length_filter_le _ _) (by simp only [List.length_cons] at hn; omega))
    have e5 := acc_put f pre s
    have e6 := encD_keys (accM f pre) (f s)
    have e7 : decide ((encD (accM f pre)).length < lineN) = true := decide_eq_true (Nat.lt_of_le_of_lt (acc_len f pre) (by simp only [List.length_cons] at hn; exact Nat.lt_of_le_of_lt (show pre.length ≤ 60 by omega) (by decide)))
    generalize encD (accM f pre) = m0 at e3 e5 e6 e7 ⊢
    generalize encD (accM f (pre ++ [s])) = m1 at e5 ⊢
    generalize gd (pre.filter fun x => decide (f x = f s)) = gp at e3 e4 ⊢
    generalize gd ((pre.filter fun x => decide (f x = f s)) ++ [s]) = gq at e4 e5 ⊢
    generalize gd g = G at e2 ⊢
    simp [spB, ex, ev, evs, bindT, R.chk, e1, e2, e3, e4, ownDi, isDicD, dputO, e5, e6, e7]
def lcSp : C := .lc (.var 6) (.itm (.bi .rsorted (.cons (.var 4) .nil))) .nil (.idx (.var 4) (.var 6))
theorem sp_term : b__law_split = .seq (.asg 4 true .dnew) (.seq (.for_ (.var 5) (.itm (.var 2)) spB) (.seq (.ret lcSp) .skip)) := rfl
theorem acc_ix (f : Sd → Int) (l : List Sd) (k : Int) (h : k ∈ keysO (l.map f)) : ixD (.dict (encD (accM f l))) (.int k) = .ok (gd (l.filter fun s => decide (f s = k))) := by
  show R.chk (keyOk (encD (accM f l)) (.int k)) (match dfind (encD (accM f l)) (.int k) with | some d => .ok d | none => .bad) = _
  rw [encD_keys, encD_find, acc_find, if_pos h]
  rfl
theorem ex_split (S : Sig) (bk kn wdD : PyData) (g : List Sd) (hg : g.length ≤ 60) (f : Sd → Int) (K : Sd → PyData) (hk : ∀ s ∈ g, ixD kn (sd s) = .ok (K s)) (hc : ∀ s ∈ g, S.cl "_law_count" [bk, K s, gd g, wdD] = .ok (.int (f s))) : ex S 100 b__law_split (startE 7 [bk, kn, gd g, wdD]) = .rt (.list ((splitS g f).map gd)) := by
  obtain ⟨y5, y6, e⟩ := sp_loop S bk kn wdD g f K hk hc g [] none none (fun _ h => h) (by simp; exact hg)
  rw [List.nil_append] at e
  have e2 : ex S 100 (.for_ (.var 5) (.itm (.var 2)) spB) [some (false, bk), some (false, kn), some (false, gd g), some (false, wdD), some (true, .dict []), none, none] = .nx [some (false, bk), some (false, kn), some (false, gd g), some (false, wdD), some (true, .dict (encD (accM f g))), y5, y6] := by
    rw [ex]
    have e3 : its S (.itm (.var 2)) [some (false, bk), some (false, kn), some (false, gd g), some (false, wdD), some (true, .dict []), none, none] = .ok (g.map sd) := by
      have := items_grp g (by omega)
      simp [its, ev, itemsK, this]
    rw [e3, R.toS_ok]
    exact e
  have hm : (accM f g).map (·.1) = keysO (g.map f) := by unfold accM; rw [List.map_map]; exact List.map_id _
  have hr := rsort_keys (accM f g) (by have := acc_len f g; unfold encD at this; rw [List.length_map] at this; omega)
  rw [hm, desc_eq] at hr
  have e4 : ev S false lcSp [some (false, bk), some (false, kn), some (false, gd g), some (false, wdD), some (true, .dict (encD (accM f g))), y5, y6] = .ok (.list ((splitS g f).map gd)) := by
    unfold lcSp
    rw [ev_lc (xs := (sortSetI (g.map f)).reverse) (fun k => .int k) (fun k => some (gd (g.filter fun s => decide (f s = k)))) ?_ fun k hk' => ?_, filterMap_some']
    · unfold splitS; rw [List.map_map]; rfl
    · generalize encD (accM f g) = m at hr ⊢
      simp [its, ev, evs, hr, itemsK]
    · have hin : k ∈ keysO (g.map f) := by
        unfold keysO
        rw [keysO_mem]
        rw [List.mem_reverse] at hk'
        unfold sortSetI at hk'
        rw [isort_perm.mem_iff, distinct_mem] at hk'
        exact .inr hk'
      have e5 := acc_ix f g k hin
      generalize encD (accM f g) = m at e5 ⊢
      simp [lcS, ev, evs, evC, bindT, tgVars, wipeE, R.chk, R.nox, e5]
  rw [sp_term]
  generalize hF : (C.for_ (.var 5) (.itm (.var 2)) spB) = F at e2 ⊢
  generalize lcSp = G at e4 ⊢
  simp [ex, ev, startE, putO, e2, e4]
end Cr

set_option Elab.async false
set_option linter.all false
set_option maxRecDepth 100000
set_option maxHeartbeats 8000000
/-! Core texts, part 11: values that are no seasons, no books. -/
namespace Cr
open Rf PySem

def one2 : PyData := .tuple [P2 (0, 0), P2 (1, 0)]
def badS : List PyData := [.none, .tuple [], .tuple [.int 3, .int 1], .tuple [.int 1, .int 1, one2], .tuple [.int 5, .int 1, one2], .tuple [.int 4, .int 2, one2], .tuple [.int 3, .int 0, one2], .tuple [.int 3, .int 3, one2], .tuple [.int 3, .int 1, .tuple []],
  .tuple [.int 3, .int 1, .tuple [P2 (1, 0), P2 (0, 0)]], .tuple [.int 3, .int 1, .list [P2 (0, 0)]], .tuple [.int 3, .int 1, .tuple [P2 (0, 4)]], .tuple [.int 3, .int 1, .tuple [.tuple [.int 0]]], .tuple [.bool true, .int 1, one2],
  .tuple [.int 3, .int 1, .tuple [P2 (0, 0), P2 (0, 0)]], .list [.int 3, .int 1, one2], .tuple [.int 3, .int 1, .tuple [P2 (0, 0), P2 (0, 1), P2 (0, 2), P2 (1, 0), P2 (2, 0)]]]
theorem badS_no (n : Nat) : ∀ v ∈ badS, cM (n + 3) "is_season" [v] = .ok (.bool false) := by
  intro v hv
  simp only [badS, List.mem_cons, List.not_mem_nil, or_false] at hv
  rcases hv with rfl | rfl | rfl | rfl | rfl | rfl | rfl | rfl | rfl | rfl | rfl | rfl | rfl | rfl | rfl | rfl | rfl <;> kernel_rfl

theorem ex_badseason (S : Sig) (sc : PyData) (hd : Draws S sc) (k0 : Int) (hk : 0 ≤ k0) : ∃ v ∈ badS, ex S 100 b__law_badseason (startE 4 [sc, .int k0]) = .rt v := by
  obtain ⟨r, e, r0, r1⟩ := hd k0 17 hk (by decide)
  obtain ⟨v, e2, hv⟩ := atI_ok badS r r0 (by show r < 17; omega)
  refine ⟨v, hv, ?_⟩
  have e3 : ixD (.list badS) (.int r) = .ok v := by unfold ixD; simp only [e2]
  simp only [badS, one2, P2] at e3
  have l0 : ∀ n : Nat, n ≤ 1000 → decide (n ≤ lineN) = true := fun n h => le_line (by omega)
  simp [ex, ev, evs, startE, b__law_badseason, l0, R.chk, revD, e, e3]
def badB : List PyData := [.none, .tuple [], .tuple [.int 3, .int 1, .tuple [], .str "anew"], .tuple [.int 0, .int 0, .tuple [], .str "anew", .str "shared"], .tuple [.int 4, .int 1, .tuple [], .str "anew", .str "shared"],
  .tuple [.int 2, .int 3, .tuple [], .str "anew", .str "shared"], .tuple [.int 3, .int 1, .tuple [.str "goals", .str "goals"], .str "anew", .str "shared"], .tuple [.int 3, .int 1, .list [.str "goals"], .str "anew", .str "shared"], .tuple [.int 3, .int 1, .tuple [.str "points"], .str "anew", .str "shared"],
  .tuple [.int 3, .int 1, .tuple [], .str "new", .str "shared"], .tuple [.int 3, .int 1, .tuple [], .str "once", .str "share"], .list [.int 3, .int 1, .tuple [], .str "once", .str "drawn"], .tuple [.int 3, .int 1, .tuple [.str "goals", .str "wins", .str "away", .str "direct", .str "directdiff"], .str "once", .str "drawn"],
  .tuple [.int 3, .int (-1), .tuple [], .str "once", .str "drawn"], .tuple [.int 3, .bool true, .tuple [], .str "once", .str "drawn"], .tuple [.int 3, .int 1, .tuple [.none], .str "once", .str "drawn"]]
theorem badB_no (n : Nat) : ∀ v ∈ badB, cM (n + 3) "is_book" [v] = .ok (.bool false) := by
  intro v hv
  simp only [badB, List.mem_cons, List.not_mem_nil, or_false] at hv
  rcases hv with rfl | rfl | rfl | rfl | rfl | rfl | rfl | rfl | rfl | rfl | rfl | rfl | rfl | rfl | rfl | rfl <;> kernel_rfl
theorem ex_badbook (S : Sig) (sc : PyData) (hd : Draws S sc) (k0 : Int) (hk : 0 ≤ k0) : ∃ v ∈ badB, ex S 100 b__law_badbook (startE 3 [sc, .int k0]) = .rt v := by
  obtain ⟨r, e, r0, r1⟩ := hd k0 16 hk (by decide)
  obtain ⟨v, e2, hv⟩ := atI_ok badB r r0 (by show r < 16; omega)
  refine ⟨v, hv, ?_⟩
  have e3 : ixD (.list badB) (.int r) = .ok v := by unfold ixD; simp only [e2]
  simp only [badB] at e3
  have l0 : ∀ n : Nat, n ≤ 1000 → decide (n ≤ lineN) = true := fun n h => le_line (by omega)
  simp [ex, ev, evs, startE, b__law_badbook, l0, R.chk, negD, e, e3]
theorem cd_law_badseason (n : Nat) (ns : List Int) (hl : ns.length ≤ 63) (k0 : Int) (hk : 0 ≤ k0) : ∃ v ∈ badS, cM (n + 2) "_law_badseason" [.list (ns.map .int), .int k0] = .ok v := by
  obtain ⟨v, hv, e⟩ := ex_badseason (Sg M (n + 1)) (.list (ns.map .int)) (draws MLA n ns hl) k0 hk
  refine ⟨v, hv, ?_⟩
  show cd M (n + 2) _ _ = _
  rw [cd_succ M MLB._law_badseason rfl]
  show (ex (Sg M (n + 1)) 100 b__law_badseason (startE 4 _)).fin = _
  rw [e]
  rfl
theorem cd_law_badbook (n : Nat) (ns : List Int) (hl : ns.length ≤ 63) (k0 : Int) (hk : 0 ≤ k0) : ∃ v ∈ badB, cM (n + 2) "_law_badbook" [.list (ns.map .int), .int k0] = .ok v := by
  obtain ⟨v, hv, e⟩ := ex_badbook (Sg M (n + 1)) (.list (ns.map .int)) (draws MLA n ns hl) k0 hk
  refine ⟨v, hv, ?_⟩
  show cd M (n + 2) _ _ = _
  rw [cd_succ M MLD._law_badbook rfl]
  show (ex (Sg M (n + 1)) 100 b__law_badbook (startE 3 _)).fin = _
  rw [e]
  rfl
/-! checks that fail -/
theorem cd_check_season_no (n : Nat) {v : PyData} (hv : v ∈ badS) : cM (n + 4) "check_season" [v] = .exc "InvalidSeason" := by
  show cd M (n + 4) _ _ = _
  rw [cd_succ M MSA.check_season rfl]
  show (ex (Sg M (n + 3)) 100 b_check_season (startE 1 _)).fin = _
  have e : (Sg M (n + 3)).cl "is_season" [v] = .ok (.bool false) := badS_no n v hv
  generalize Sg M (n + 3) = S at e ⊢
  simp [ex, ev, evs, startE, b_check_season, e]
theorem cd_check_book_no (n : Nat) {v : PyData} (hv : v ∈ badB) : cM (n + 4) "check_book" [v] = .exc "InvalidBook" := by
  show cd M (n + 4) _ _ = _
  rw [cd_succ M MSB.check_book rfl]
  show (ex (Sg M (n + 3)) 100 b_check_book (startE 1 _)).fin = _
  have e : (Sg M (n + 3)).cl "is_book" [v] = .ok (.bool false) := badB_no n v hv
  generalize Sg M (n + 3) = S at e ⊢
  simp [ex, ev, evs, startE, b_check_book, e]
end Cr

set_option Elab.async false
set_option linter.all false
set_option maxRecDepth 100000
set_option maxHeartbeats 8000000
/-! Core texts, part 12: check_all, points, counts. -/
namespace Cr
open Rf PySem

/-! ### results that are none -/
def wrongR (rs : List (Int × Int)) : List PyData := [.none, .tuple [], .tuple (rs.tail.map P2), .list (rs.map P2), .tuple (.none :: rs.tail.map P2)]
theorem score_none (n : Nat) : cM (n + 2) "is_score" [.none] = .ok (.bool false) := by kernel_rfl
theorem cd_has_results_no (n : Nat) (kd : Kd) {ss : List (Int × Int)} (hr : InR ss) {rs : List (Int × Int)} (hl : rs.length = kd.mt.length) (hm : ∀ r ∈ rs, r ∈ ss) {v : PyData} (hv : v ∈ wrongR rs) : cM (n + 3) "has_results" [season kd.m kd.l ss, v] = .ok (.bool false) := by
  show cd M (n + 3) _ _ = _
  rw [cd_succ M MSR.has_results rfl]
  show (ex (Sg M (n + 2)) 100 b_has_results (startE 3 _)).fin = _
  have hp := mt_len kd
  have h := fun vs => ex_has (Sg M (n + 2)) kd.m kd.l ss (kd.mt.map encM) vs (cd_fm n kd _)
  simp only [wrongR, List.mem_cons, List.not_mem_nil, or_false] at hv
  rcases hv with rfl | rfl | rfl | rfl | rfl
  · rw [ex_hasNo _ _ _ rfl rfl]; rfl
  · rw [(h []).1 (by rw [List.length_map]; simp; omega)]; rfl
  · rw [(h _).1 (by rw [List.length_map, List.length_map, List.length_tail]; omega)]; rfl
  · rw [ex_hasNo _ _ _ rfl rfl]; rfl
  · rw [(h (.none :: rs.tail.map P2)).2.2 (by rw [List.length_cons, List.length_map, List.length_map, List.length_tail]; omega) .none (rs.tail.map P2) rfl (.inl ⟨score_none n, rfl⟩) fun y hy => ?_]
    · rfl
    · obtain ⟨r, h1, rfl⟩ := List.mem_map.mp hy
      have h1 := List.mem_of_mem_tail h1
      exact ⟨true, .inr ⟨cd_score MSA n r (hr r (hm r h1)), by rw [inD_P2s, decide_eq_true (hm r h1)]⟩⟩
theorem cd_check_results_no (n : Nat) (kd : Kd) {ss : List (Int × Int)} (hr : InR ss) {rs : List (Int × Int)} (hl : rs.length = kd.mt.length) (hm : ∀ r ∈ rs, r ∈ ss) {v : PyData} (hv : v ∈ wrongR rs) : cM (n + 4) "check_results" [season kd.m kd.l ss, v] = .exc "InvalidResults" := by
  show cd M (n + 4) _ _ = _
  rw [cd_succ M MSR.check_results rfl]
  show (ex (Sg M (n + 3)) 100 b_check_results (startE 2 _)).fin = _
  have e : (Sg M (n + 3)).cl "has_results" [season kd.m kd.l ss, v] = .ok (.bool false) := cd_has_results_no n kd hr hl hm hv
  generalize Sg M (n + 3) = S at e ⊢
  simp [ex, ev, evs, startE, b_check_results, e]
/-! ### check_all -/
theorem M_check_all : M.tab "check_all" = some d_check_all := by kernel_rfl
section
variable {kd : Kd} {ss : List (Int × Int)} {b : Book} {rs : List (Int × Int)}
theorem cd_check_all (n : Nat) (hs : Sea kd.m kd.l ss) (hb : BookOk b) (hl : rs.length = kd.mt.length) (hm : ∀ r ∈ rs, r ∈ ss) : cM (n + 5) "check_all" [season kd.m kd.l ss, encB b, .tuple (rs.map P2)] = .ok .none := by
  show cd M (n + 5) _ _ = _
  rw [cd_succ M M_check_all rfl]
  show (ex (Sg M (n + 4)) 100 b_check_all (startE 3 _)).fin = _
  have e1 : (Sg M (n + 4)).cl "check_season" [season kd.m kd.l ss] = .ok .none := cd_check_season MSA n hs
  have e2 : (Sg M (n + 4)).cl "check_book" [encB b] = .ok .none := cd_check_book (n + 1) hb
  have e3 : (Sg M (n + 4)).cl "check_results" [season kd.m kd.l ss, .tuple (rs.map P2)] = .ok .none := cd_check_results n kd hs.r hl hm
  generalize Sg M (n + 4) = S at e1 e2 e3 ⊢
  generalize season kd.m kd.l ss = x at e1 e3 ⊢
  generalize encB b = y at e2 ⊢
  generalize PyData.tuple (rs.map P2) = z at e3 ⊢
  simp [ex, ev, evs, startE, b_check_all, e1, e2, e3]
theorem cd_check_all_s (n : Nat) {v x y : PyData} (hv : v ∈ badS) : cM (n + 5) "check_all" [v, x, y] = .exc "InvalidSeason" := by
  show cd M (n + 5) _ _ = _
  rw [cd_succ M M_check_all rfl]
  show (ex (Sg M (n + 4)) 100 b_check_all (startE 3 _)).fin = _
  have e1 : (Sg M (n + 4)).cl "check_season" [v] = .exc "InvalidSeason" := cd_check_season_no n hv
  generalize Sg M (n + 4) = S at e1 ⊢
  simp [ex, ev, evs, startE, b_check_all, e1]
theorem cd_check_all_b (n : Nat) (hs : Sea kd.m kd.l ss) {v y : PyData} (hv : v ∈ badB) : cM (n + 5) "check_all" [season kd.m kd.l ss, v, y] = .exc "InvalidBook" := by
  show cd M (n + 5) _ _ = _
  rw [cd_succ M M_check_all rfl]
  show (ex (Sg M (n + 4)) 100 b_check_all (startE 3 _)).fin = _
  have e1 : (Sg M (n + 4)).cl "check_season" [season kd.m kd.l ss] = .ok .none := cd_check_season MSA n hs
  have e2 : (Sg M (n + 4)).cl "check_book" [v] = .exc "InvalidBook" := cd_check_book_no n hv
  generalize Sg M (n + 4) = S at e1 e2 ⊢
  generalize season kd.m kd.l ss = x at e1 ⊢
  simp [ex, ev, evs, startE, b_check_all, e1, e2]
theorem cd_check_all_r (n : Nat) (hs : Sea kd.m kd.l ss) (hb : BookOk b) (hl : rs.length = kd.mt.length) (hm : ∀ r ∈ rs, r ∈ ss) {v : PyData} (hv : v ∈ wrongR rs) : cM (n + 5) "check_all" [season kd.m kd.l ss, encB b, v] = .exc "InvalidResults" := by
  show cd M (n + 5) _ _ = _
  rw [cd_succ M M_check_all rfl]
  show (ex (Sg M (n + 4)) 100 b_check_all (startE 3 _)).fin = _
  have e1 : (Sg M (n + 4)).cl "check_season" [season kd.m kd.l ss] = .ok .none := cd_check_season MSA n hs
  have e2 : (Sg M (n + 4)).cl "check_book" [encB b] = .ok .none := cd_check_book (n + 1) hb
  have e3 : (Sg M (n + 4)).cl "check_results" [season kd.m kd.l ss, v] = .exc "InvalidResults" := cd_check_results_no n kd hs.r hl hm hv
  generalize Sg M (n + 4) = S at e1 e2 e3 ⊢
  generalize season kd.m kd.l ss = x at e1 e3 ⊢
  generalize encB b = y at e2 ⊢
  simp [ex, ev, evs, startE, b_check_all, e1, e2, e3]
/-! ### points, counts -/
theorem M_points : M.tab "points" = some d_points := by kernel_rfl
theorem M_counts : M.tab "counts" = some d_counts := by kernel_rfl
theorem some_enc (rs : List (Int × Int)) : (rs.map some).map encO = rs.map P2 := by rw [List.map_map]; rfl
abbrev rowsF (kd : Kd) (rs : List (Int × Int)) : List Row := rowsOf kd.mt (rs.map some)
theorem cd_points_all (n : Nat) (hs : Sea kd.m kd.l ss) (hb : BookOk b) (hl : rs.length = kd.mt.length) (hm : ∀ r ∈ rs, r ∈ ss) : cM (n + 6) "points" [season kd.m kd.l ss, encB b, .tuple (rs.map P2)] = .ok (.tuple (kd.ss.map fun s => .int (ptsS b.w b.d (rowsF kd rs) s))) := by
  show cd M (n + 6) _ _ = _
  rw [cd_succ M M_points rfl]
  show (ex (Sg M (n + 5)) 100 b_points (startE 5 _)).fin = _
  have e1 : (Sg M (n + 5)).cl "check_all" [season kd.m kd.l ss, encB b, .tuple (rs.map P2)] = .ok .none := cd_check_all n hs hb hl hm
  have e2 : (Sg M (n + 5)).cl "played" [season kd.m kd.l ss, .tuple (rs.map P2)] = .ok (.list ((rowsF kd rs).map encRow)) := by
    have := cd_played (n + 2) kd (.tuple (ss.map P2)) (rs.map some)
    rw [some_enc] at this
    exact this
  have e3 : (Sg M (n + 5)).cl "find_sides" [season kd.m kd.l ss] = .ok (gd kd.ss) := cd_fs (n + 4) kd (.tuple (ss.map P2))
  have e4 : ∀ s, (Sg M (n + 5)).cl "points_in" [encB b, .list ((rowsF kd rs).map encRow), sd s] = .ok (.int (ptsS b.w b.d (rowsF kd rs) s)) := fun s => cd_points (n + 3) hb.bs.toBk _ s
  generalize Sg M (n + 5) = S at e1 e2 e3 e4 ⊢
  generalize rowsF kd rs = rows at e2 e4 ⊢
  generalize season kd.m kd.l ss = x at e1 e2 e3 ⊢
  generalize hy : encB b = y at e1 e4 ⊢
  generalize PyData.tuple (rs.map P2) = z at e1 e2 ⊢
  let lcP : C := .lc (.var 4) (.itm (.call "find_sides" (.cons (.var 0) .nil))) .nil (.call "points_in" (.cons (.var 1) (.cons (.var 3) (.cons (.var 4) .nil))))
  have term : b_points = .seq (.exp (.call "check_all" (.cons (.var 0) (.cons (.var 1) (.cons (.var 2) .nil))))) (.seq (.asg 3 false (.call "played" (.cons (.var 0) (.cons (.var 2) .nil)))) (.seq (.ret (.bi .tuple (.cons lcP .nil))) .skip)) := rfl
  have e : ev S true lcP [some (false, x), some (false, y), some (false, z), some (false, .list (rows.map encRow)), none] = .ok (.list (kd.ss.map fun s => .int (ptsS b.w b.d rows s))) := by
    show ev S true (.lc _ _ _ _) _ = _
    rw [ev_lc (xs := kd.ss) sd (fun s => some (.int (ptsS b.w b.d rows s))) ?_ fun s _ => ?_, filterMap_some']
    · have := items_grp kd.ss (by have := ss_len kd; omega)
      simp [its, ev, evs, e3, itemsK, this]
    · simp [lcS, ev, evs, evC, bindT, tgVars, wipeE, R.chk, R.nox, e4 s]
  rw [term]
  generalize lcP = F at e ⊢
  simp [ex, ev, evs, startE, e1, e2, e]
/-- the groups of a season's sides -/
def Kd.gs : Kd → List (List Sd)
  | .k22 => [[0], [1], [0, 1]]
  | .k41 => [[0], [1], [2], [3], [0, 1], [0, 2], [0, 3], [1, 2], [1, 3], [2, 3], [0, 1, 2], [0, 1, 3], [0, 2, 3], [1, 2, 3], [0, 1, 2, 3]]
  | _ => [[0], [1], [2], [0, 1], [0, 2], [1, 2], [0, 1, 2]]
theorem cd_has_group (n : Nat) (kd : Kd) (x : PyData) {g : List Sd} (hg : g ∈ kd.gs) : cM (n + 2) "has_group" [.tuple [.int kd.m, .int kd.l, x], gd g] = .ok (.bool true) := by
  cases kd <;> simp only [Kd.gs, List.mem_cons, List.not_mem_nil, or_false] at hg
  · rcases hg with rfl | rfl | rfl | rfl | rfl | rfl | rfl <;> kernel_rfl
  · rcases hg with rfl | rfl | rfl <;> kernel_rfl
  · rcases hg with rfl | rfl | rfl | rfl | rfl | rfl | rfl | rfl | rfl | rfl | rfl | rfl | rfl | rfl | rfl <;> kernel_rfl
  · rcases hg with rfl | rfl | rfl | rfl | rfl | rfl | rfl <;> kernel_rfl
theorem gs_len {kd : Kd} {g : List Sd} (hg : g ∈ kd.gs) : g.length ≤ 4 := by
  revert g
  cases kd <;> decide
theorem isS_w (wd : Wd) : biD .isStr [.str wd.str] = .ok (.bool true) := rfl
theorem cd_counts (n : Nat) (hs : Sea kd.m kd.l ss) (hb : BookOk b) (hl : rs.length = kd.mt.length) (hm : ∀ r ∈ rs, r ∈ ss) {g : List Sd} (hg : g ∈ kd.gs) (wd : Wd) (hw : wd ≠ .points) : cM (n + 6) "counts" [season kd.m kd.l ss, encB b, .tuple (rs.map P2), gd g, .str wd.str] = .ok (.tuple (g.map fun s => .int (cntS b.w b.d (rowsF kd rs) g wd s))) := by
  show cd M (n + 6) _ _ = _
  rw [cd_succ M M_counts rfl]
  show (ex (Sg M (n + 5)) 100 b_counts (startE 7 _)).fin = _
  have e1 : (Sg M (n + 5)).cl "check_all" [season kd.m kd.l ss, encB b, .tuple (rs.map P2)] = .ok .none := cd_check_all n hs hb hl hm
  have e2 : (Sg M (n + 5)).cl "played" [season kd.m kd.l ss, .tuple (rs.map P2)] = .ok (.list ((rowsF kd rs).map encRow)) := by
    have := cd_played (n + 2) kd (.tuple (ss.map P2)) (rs.map some)
    rw [some_enc] at this
    exact this
  have e3 : (Sg M (n + 5)).cl "has_group" [season kd.m kd.l ss, gd g] = .ok (.bool true) := cd_has_group (n + 3) kd (.tuple (ss.map P2)) hg
  have e4 : ∀ s, (Sg M (n + 5)).cl "count_for" [encB b, .list ((rowsF kd rs).map encRow), gd g, .str wd.str, sd s] = .ok (.int (cntS b.w b.d (rowsF kd rs) g wd s)) := fun s => cd_count (n + 2) hb.bs.toBk _ g wd hw s
  have e5 : (Sg M (n + 5)).gl "WORDS" = .ok (.tuple [.str "goals", .str "difference", .str "wins", .str "away", .str "direct", .str "directdiff"]) := MSB.WORDS
  have e6 := inD_words hw
  generalize Sg M (n + 5) = S at e1 e2 e3 e4 e5 ⊢
  generalize rowsF kd rs = rows at e2 e4 ⊢
  generalize season kd.m kd.l ss = x at e1 e2 e3 ⊢
  generalize hy : encB b = y at e1 e4 ⊢
  generalize PyData.tuple (rs.map P2) = z at e1 e2 ⊢
  let lcP : C := .lc (.var 6) (.itm (.var 3)) .nil (.call "count_for" (.cons (.var 1) (.cons (.var 5) (.cons (.var 3) (.cons (.var 4) (.cons (.var 6) .nil))))))
  have term : b_counts = .seq (.exp (.call "check_all" (.cons (.var 0) (.cons (.var 1) (.cons (.var 2) .nil))))) (.seq (.iff (.bnot (.call "has_group" (.cons (.var 0) (.cons (.var 3) .nil)))) (.seq (.raise "InvalidGroup") .skip) .skip) (.seq (.iff (.bor (.cons (.bnot (.bi .isStr (.cons (.var 4) .nil))) (.cons (.cmp .notin (.var 4) (.glob "WORDS")) .nil))) (.seq (.raise "InvalidWord") .skip) .skip) (.seq (.asg 5 false (.call "played" (.cons (.var 0) (.cons (.var 2) .nil)))) (.seq (.ret (.bi .tuple (.cons lcP .nil))) .skip)))) := rfl
  have e : ev S true lcP [some (false, x), some (false, y), some (false, z), some (false, gd g), some (false, .str wd.str), some (false, .list (rows.map encRow)), none] = .ok (.list (g.map fun s => .int (cntS b.w b.d rows g wd s))) := by
    show ev S true (.lc _ _ _ _) _ = _
    rw [ev_lc (xs := g) sd (fun s => some (.int (cntS b.w b.d rows g wd s))) ?_ fun s _ => ?_, filterMap_some']
    · have := items_grp g (by have := gs_len hg; omega)
      simp [its, ev, evs, itemsK, this]
    · simp [lcS, ev, evs, evC, bindT, tgVars, wipeE, R.chk, R.nox, e4 s]
  rw [term]
  generalize lcP = F at e ⊢
  simp [ex, ev, evs, evOr, startE, e1, e2, e3, e5, e6, isStrD, e]
end
end Cr

set_option Elab.async false
set_option linter.all false
set_option maxRecDepth 100000
set_option maxHeartbeats 4000000
/-! Core texts: encodings of plain data, and what all of them have. -/
namespace Cr
open Rf PySem

/-- a faithful, shallow encoding -/
structure En {α : Type} [DecidableEq α] (f : α → PyData) (n : Nat) : Prop where
  lay : ∀ a, (f a).canLay0 = true
  dp : ∀ a, (f a).depth ≤ n
  eq : ∀ a b, PyData.eqv (f a) (f b) = decide (a = b)
  nd : ∀ a, nodic (f a) = true
/-- all of them can be ordered -/
def Al {α : Type} (f : α → PyData) : Prop := ∀ a b, PySem.W.alike (f a) (f b) = true
section
variable {α β γ : Type} [DecidableEq α] [DecidableEq β] [DecidableEq γ] {f : α → PyData} {g : β → PyData} {h : γ → PyData} {m n k : Nat}
theorem En.int : En PyData.int 0 := ⟨fun _ => rfl, fun _ => Nat.le_refl _, eqv_int, fun _ => rfl⟩
theorem En.sd : En (α := Sd) sd 0 := ⟨fun a => by have := shp_sd a; exact (Bool.and_eq_true_iff.mp this).1, fun _ => Nat.le_refl _, eqv_sd, fun _ => rfl⟩
theorem En.wd : En encW 0 := ⟨fun a => by cases a <;> decide +kernel, fun _ => Nat.le_refl _, fun a b => by
  rw [eqv_str]
  by_cases e : a = b
  · subst e; simp
  · rw [decide_eq_false e, decide_eq_false fun z => e (str_inj z)], fun _ => rfl⟩
theorem map_inj97 {a b : List Sd} (e : (a.map fun i => 97 + i.val) = (b.map fun i => 97 + i.val)) : a = b := by
  induction a generalizing b with
  | nil => cases b with
    | nil => rfl
    | cons y b => cases e
  | cons x a ih => cases b with
    | nil => cases e
    | cons y b =>
      rw [List.map_cons, List.map_cons] at e
      injection e with e1 e2
      rw [ih e2, Fin.ext (by omega : x.val = y.val)]
theorem grp_inj {a b : List Sd} (e : grp a = grp b) : a = b := by
  have e : (a.map fun i => 97 + i.val).toArray = (b.map fun i => 97 + i.val).toArray := congrArg Str.cps e
  exact map_inj97 (by simpa using e)
theorem grp_ok (a : List Sd) : (gd a).canLay0 = true := by
  show ((a.map fun i => 97 + i.val).toArray.all fun c => decide (c < 0x110000)) = true
  rw [Array.all_eq_true]
  intro i hi
  have : (a.map fun i => 97 + i.val).toArray[i] < 0x110000 := by
    simp
    omega
  simpa using this
theorem En.gd : En gd 0 := ⟨grp_ok, fun _ => Nat.le_refl _, fun a b => by
  rw [eqv_str]
  by_cases e : a = b
  · subst e; simp
  · rw [decide_eq_false e, decide_eq_false fun z => e (grp_inj z)], fun _ => rfl⟩
theorem eqvAll_map (e : En f n) : ∀ a b : List α, PyData.eqvAll (a.map f) (b.map f) = decide (a = b)
  | [], [] => rfl
  | [], _ :: _ => rfl
  | _ :: _, [] => rfl
  | x :: a, y :: b => by
    rw [List.map_cons, List.map_cons, PyData.eqvAll, e.eq, eqvAll_map e a b]
    by_cases h1 : x = y <;> by_cases h2 : a = b <;> simp [h1, h2]
theorem lay_map (e : En f n) : ∀ a : List α, PyData.canLayAll0 (a.map f) = true
  | [] => rfl
  | x :: a => by rw [List.map_cons, PyData.canLayAll0, e.lay, lay_map e a]; rfl
theorem dp_map (e : En f n) : ∀ a : List α, PyData.depthAll (a.map f) ≤ n
  | [] => Nat.zero_le _
  | x :: a => by rw [List.map_cons, PyData.depthAll]; exact Nat.max_le.mpr ⟨e.dp x, dp_map e a⟩
theorem nd_map (e : En f n) : ∀ a : List α, nodics (a.map f) = true
  | [] => rfl
  | x :: a => by rw [List.map_cons, nodics, e.nd, nd_map e a]; rfl
theorem En.tuple (e : En f n) : En (fun l : List α => PyData.tuple (l.map f)) (n + 1) :=
  ⟨fun a => lay_map e a, fun a => by rw [PyData.depth]; exact Nat.succ_le_succ (dp_map e a), fun a b => by rw [PyData.eqv]; exact eqvAll_map e a b, fun a => by rw [nodic]; exact nd_map e a⟩
theorem En.list (e : En f n) : En (fun l : List α => PyData.list (l.map f)) (n + 1) :=
  ⟨fun a => lay_map e a, fun a => by rw [PyData.depth]; exact Nat.succ_le_succ (dp_map e a), fun a b => by rw [PyData.eqv]; exact eqvAll_map e a b, fun a => by rw [nodic]; exact nd_map e a⟩
theorem En.pair (e : En f m) (e2 : En g n) : En (fun p : α × β => PyData.tuple [f p.1, g p.2]) (max m n + 1) :=
  ⟨fun a => by simp [PyData.canLay0, PyData.canLayAll0, e.lay, e2.lay],
   fun a => by have := e.dp a.1; have := e2.dp a.2; simp only [PyData.depth, PyData.depthAll]; omega,
   fun a b => by
    rw [PyData.eqv, PyData.eqvAll, PyData.eqvAll, e.eq, e2.eq]
    show (decide (a.1 = b.1) && (decide (a.2 = b.2) && true)) = _
    obtain ⟨a1, a2⟩ := a
    obtain ⟨b1, b2⟩ := b
    by_cases h1 : a1 = b1 <;> by_cases h2 : a2 = b2 <;> simp [h1, h2],
   fun a => by simp [nodic, nodics, e.nd, e2.nd]⟩
theorem En.trip (e : En f m) (e2 : En g n) (e3 : En h k) : En (fun p : α × β × γ => PyData.tuple [f p.1, g p.2.1, h p.2.2]) (max m (max n k) + 1) :=
  ⟨fun a => by simp [PyData.canLay0, PyData.canLayAll0, e.lay, e2.lay, e3.lay],
   fun a => by have := e.dp a.1; have := e2.dp a.2.1; have := e3.dp a.2.2; simp only [PyData.depth, PyData.depthAll]; omega,
   fun a b => by
    rw [PyData.eqv, PyData.eqvAll, PyData.eqvAll, PyData.eqvAll, e.eq, e2.eq, e3.eq]
    show (decide (a.1 = b.1) && (decide (a.2.1 = b.2.1) && (decide (a.2.2 = b.2.2) && true))) = _
    obtain ⟨a1, a2, a3⟩ := a
    obtain ⟨b1, b2, b3⟩ := b
    by_cases h1 : a1 = b1 <;> by_cases h2 : a2 = b2 <;> by_cases h3 : a3 = b3 <;> simp [h1, h2, h3],
   fun a => by simp [nodic, nodics, e.nd, e2.nd, e3.nd]⟩
theorem En.P2 : En P2 1 := En.pair En.int En.int
/-- None, or one that is never None -/
theorem En.opt (e : En f n) (hn : ∀ a, PyData.eqv .none (f a) = false ∧ PyData.eqv (f a) .none = false) : En (fun o : Option α => match o with | none => PyData.none | some a => f a) n :=
  ⟨fun a => by cases a with | none => rfl | some a => exact e.lay a, fun a => by cases a with | none => exact Nat.zero_le _ | some a => exact e.dp a,
   fun a b => by
    cases a with
    | none => cases b with
      | none => rfl
      | some b => show PyData.eqv .none (f b) = _; rw [(hn b).1]; simp
    | some a => cases b with
      | none => show PyData.eqv (f a) .none = _; rw [(hn a).2]; simp
      | some b => show PyData.eqv (f a) (f b) = _; rw [e.eq]; simp,
   fun a => by cases a with | none => rfl | some a => exact e.nd a⟩
theorem En.shp (e : En f n) (hn : n ≤ 64) (a : α) : shp (f a) = true := by
  show ((f a).canLay0 && decide ((f a).depth ≤ 64)) = true
  rw [e.lay, decide_eq_true (Nat.le_trans (e.dp a) hn)]
  rfl
theorem En.eqD (e : En f n) (hn : n ≤ 64) (a b : α) : eqD (f a) (f b) = .ok (decide (a = b)) := by rw [eqD_ok2 (e.shp hn a) (e.shp hn b), e.eq]
theorem any_map (e : En f n) (a : α) : ∀ l : List α, ((l.map f).any fun z => PyData.eqv z (f a)) = decide (a ∈ l)
  | [] => rfl
  | x :: l => by
    rw [List.map_cons, List.any_cons, e.eq, any_map e a l]
    by_cases h1 : x = a
    · simp [h1]
    · have : a ≠ x := fun z => h1 z.symm
      simp [h1, this]
theorem En.inL (e : En f n) (hn : n ≤ 63) (a : α) (l : List α) : inD (f a) (.list (l.map f)) = .ok (decide (a ∈ l)) := by
  show R.chk (Rf.shp (f a) && Rf.shp (.list (l.map f))) (.ok ((l.map f).any fun z => PyData.eqv z (f a))) = _
  rw [e.shp (by omega) a, e.list.shp (by omega) l, any_map e]
  rfl
theorem En.inT (e : En f n) (hn : n ≤ 63) (a : α) (l : List α) : inD (f a) (.tuple (l.map f)) = .ok (decide (a ∈ l)) := by
  show R.chk (Rf.shp (f a) && Rf.shp (.tuple (l.map f))) (.ok ((l.map f).any fun z => PyData.eqv z (f a))) = _
  rw [e.shp (by omega) a, e.tuple.shp (by omega) l, any_map e]
  rfl
theorem En.inj (e : En f n) {a b : α} (h : f a = f b) : a = b := by
  have h1 := e.eq a b
  rw [h, e.eq b b, decide_eq_true rfl] at h1
  exact of_decide_eq_true h1.symm
end
/-! orders -/
theorem Al.int : Al PyData.int := fun _ _ => rfl
theorem Al.sd : Al sd := fun _ _ => rfl
theorem Al.gd : Al gd := fun _ _ => rfl
section
variable {α β : Type} {f : α → PyData} {g : β → PyData}
theorem alikeAll_map (e : Al f) : ∀ a b : List α, PySem.W.alikeAll (a.map f) (b.map f) = true
  | [], [] => by rw [List.map_nil, PySem.W.alikeAll]
  | [], _ :: _ => by rw [List.map_nil, PySem.W.alikeAll]
  | _ :: _, [] => by rw [List.map_nil, List.map_cons, PySem.W.alikeAll]
  | x :: a, y :: b => by rw [List.map_cons, List.map_cons, PySem.W.alikeAll, e, alikeAll_map e a b]; rfl
theorem Al.tuple (e : Al f) : Al (fun l : List α => PyData.tuple (l.map f)) := fun a b => by rw [PySem.W.alike]; exact alikeAll_map e a b
theorem Al.pair (e : Al f) (e2 : Al g) : Al (fun p : α × β => PyData.tuple [f p.1, g p.2]) := fun a b => by simp [PySem.W.alike, PySem.W.alikeAll, e a.1 b.1, e2 a.2 b.2]
theorem Al.P2 : Al P2 := Al.pair Al.int Al.int
theorem sortD_al [DecidableEq α] {n : Nat} (en : En f n) (e : Al f) (hn : n ≤ 60) (r : Bool) {l : List α} (hl : l.length ≤ 1000000) (hs : sortableB (l.map f) = true) {le : α → α → Bool} (hle : ∀ a b, PySem.W.dataLe r id (f a) (f b) = le a b) : sortD r (l.map f) = .ok (.list ((isort le l).map f)) := by
  unfold sortD
  have h1 : decide ((l.map f).length ≤ lineN) = true := le_line (by rw [List.length_map]; exact hl)
  have h2 : alikeAllB (l.map f) = true := by
    unfold alikeAllB
    rw [List.all_eq_true]
    intro a ha
    obtain ⟨a, _, rfl⟩ := List.mem_map.mp ha
    rw [List.all_eq_true]
    intro b hb
    obtain ⟨b, _, rfl⟩ := List.mem_map.mp hb
    exact e a b
  have h4 : depthB (l.map f) = true := by
    unfold depthB
    rw [List.all_eq_true]
    intro a ha
    obtain ⟨a, _, rfl⟩ := List.mem_map.mp ha
    exact decide_eq_true (Nat.le_trans (en.dp a) hn)
  rw [h1, h2, hs, h4, nd_map en, isort_map f hle]
  rfl
end
/-! loops over typed items -/
theorem forGo_fold {α σ : Type} {F : PyData → Rf.Env → Rf.SR} (enc : α → PyData) (E : σ → Rf.Env → Prop) (step : σ → α → σ) : ∀ {xs : List α}, (∀ s x env, x ∈ xs → E s env → ∃ env', F (enc x) env = .nx env' ∧ E (step s x) env') → ∀ {s env}, E s env → ∃ env', forGo F (xs.map enc) env = .nx env' ∧ E (xs.foldl step s) env'
  | [], _, s, env, h => ⟨env, rfl, h⟩
  | x :: xs, hs, s, env, h => by
    obtain ⟨e1, h1, h2⟩ := hs s x env (List.mem_cons_self ..) h
    obtain ⟨e2, h3, h4⟩ := forGo_fold enc E step (xs := xs) (fun s y env hy => hs s y env (List.mem_cons_of_mem _ hy)) h2
    refine ⟨e2, ?_, h4⟩
    rw [List.map_cons, forGo, h1, turn_nx, h3]
/-- a loop that may return -/
theorem forGo_find {α σ : Type} {F : PyData → Rf.Env → Rf.SR} (enc : α → PyData) (E : σ → Rf.Env → Prop) (step : σ → α → σ) (out : σ → α → Option PyData) : ∀ {xs : List α}, (∀ s x env, x ∈ xs → E s env → match out s x with | some d => F (enc x) env = .rt d | none => ∃ env', F (enc x) env = .nx env' ∧ E (step s x) env') → ∀ {s env}, E s env →
    (∃ d, forGo F (xs.map enc) env = .rt d ∧ ∃ a x b, xs = a ++ x :: b ∧ out (a.foldl step s) x = some d ∧ ∀ a' y b', a = a' ++ y :: b' → out (a'.foldl step s) y = none) ∨
    (∃ env', forGo F (xs.map enc) env = .nx env' ∧ E (xs.foldl step s) env' ∧ ∀ a x b, xs = a ++ x :: b → out (a.foldl step s) x = none)
  | [], _, s, env, h => .inr ⟨env, rfl, h, fun a x b z => by cases a <;> cases z⟩
  | x :: xs, hs, s, env, h => by
    have h0 := hs s x env (List.mem_cons_self ..) h
    cases ho : out s x with
    | some d =>
      rw [ho] at h0
      refine .inl ⟨d, ?_, [], x, xs, rfl, ho, fun a' y b' z => by cases a' <;> cases z⟩
      rw [List.map_cons, forGo, h0]
      rfl
    | none =>
      rw [ho] at h0
      obtain ⟨e1, h1, h2⟩ := h0
      have ih := forGo_find enc E step out (xs := xs) (fun s y env hy => hs s y env (List.mem_cons_of_mem _ hy)) h2
      rcases ih with ⟨d, g1, a, y, b, g2, g3, g4⟩ | ⟨e2, g1, g2, g3⟩
      · refine .inl ⟨d, ?_, x :: a, y, b, by rw [g2]; rfl, g3, fun a' z b' q => ?_⟩
        · rw [List.map_cons, forGo, h1, turn_nx, g1]
        · cases a' with
          | nil => cases q; exact ho
          | cons w a' => cases q; exact g4 a' z b' rfl
      · refine .inr ⟨e2, ?_, g2, fun a y b q => ?_⟩
        · rw [List.map_cons, forGo, h1, turn_nx, g1]
        · cases a with
          | nil => cases q; exact ho
          | cons w a => cases q; exact g3 a y b rfl
end Cr

set_option Elab.async false
set_option linter.all false
set_option maxRecDepth 100000
set_option maxHeartbeats 4000000
/-! Core texts, part 16: the table (its spec). -/
namespace Cr
open Rf PySem

/-- a group asked from a tie-break on; n: fuel -/
def askS (b : Book) (rows : List Row) : Nat → List Sd → Nat → List (List Sd)
  | 0, _, _ => []
  | n + 1, g, k => match decide (g.length = 1) with
    | true => [g]
    | false => match b.ws[k]? with
      | none => match b.drawn with | true => g.map fun s => [s] | false => [g]
      | some wd => (splitS g (cntS b.w b.d rows g wd)).flatMap fun p => askS b rows n p (match b.anew && decide (1 < (splitS g (cntS b.w b.d rows g wd)).length) with | true => 0 | false => k + 1)
def tableS (b : Book) (rows : List Row) (n : Nat) (ss : List Sd) : List (List Sd) := (splitS ss (ptsS b.w b.d rows)).flatMap fun g => askS b rows n g 0

/-! what is divided -/
theorem split_keys (g : List Sd) (f : Sd → Int) : ((sortSetI (g.map f)).reverse).Nodup ∧ (∀ k, k ∈ (sortSetI (g.map f)).reverse ↔ ∃ s ∈ g, f s = k) := by
  constructor
  · refine (List.reverse_perm _).nodup_iff.mpr ?_
    unfold sortSetI
    exact isort_perm.nodup_iff.mpr distinct_nodup
  · intro k
    rw [List.mem_reverse]
    unfold sortSetI
    rw [isort_perm.mem_iff, distinct_mem, List.mem_map]
theorem sum_ind : ∀ {ks : List Int}, ks.Nodup → ∀ {x : Int}, x ∈ ks → (ks.map fun k => if x = k then (1 : Nat) else 0).sum = 1
  | [], _, x, h => absurd h List.not_mem_nil
  | k :: ks, nd, x, h => by
    obtain ⟨h1, h2⟩ := List.nodup_cons.mp nd
    rw [List.map_cons, List.sum_cons]
    by_cases e : x = k
    · subst e
      rw [if_pos rfl]
      have : ∀ l : List Int, x ∉ l → (l.map fun k => if x = k then (1 : Nat) else 0).sum = 0 := fun l => by
        induction l with
        | nil => intro _; rfl
        | cons y l ih =>
          intro hl
          rw [List.map_cons, List.sum_cons, if_neg (fun z => hl (by simp [z])), ih (fun z => hl (by simp [z]))]
      rw [this ks h1]
    · rw [if_neg e, sum_ind h2 ((List.mem_cons.mp h).resolve_left e)]
theorem sum_len (f : Sd → Int) {ks : List Int} (nd : ks.Nodup) : ∀ g : List Sd, (∀ s ∈ g, f s ∈ ks) → ((ks.map fun k => g.filter fun s => decide (f s = k)).map List.length).sum = g.length
  | [], _ => by
    clear nd
    induction ks with
    | nil => rfl
    | cons k ks ih => rw [List.map_cons, List.map_cons, List.sum_cons, ih (fun _ h => absurd h List.not_mem_nil)]; rfl
  | s :: g, h => by
    have ih := sum_len f nd g (fun x hx => h x (List.mem_cons_of_mem _ hx))
    have e := sum_ind nd (h s (List.mem_cons_self ..))
    rw [List.map_map] at ih ⊢
    have q : ∀ ks : List Int, (ks.map (List.length ∘ fun k => (s :: g).filter fun s => decide (f s = k))).sum = (ks.map fun k => if f s = k then (1 : Nat) else 0).sum + (ks.map (List.length ∘ fun k => g.filter fun s => decide (f s = k))).sum := by
      intro ks
      induction ks with
      | nil => rfl
      | cons k ks ih =>
        rw [List.map_cons, List.map_cons, List.map_cons, List.sum_cons, List.sum_cons, List.sum_cons, ih]
        show ((s :: g).filter fun s => decide (f s = k)).length + _ = _ + ((g.filter fun s => decide (f s = k)).length + _)
        by_cases hk : f s = k
        · rw [if_pos hk, List.filter_cons_of_pos (by simpa using hk), List.length_cons]; omega
        · rw [if_neg hk, List.filter_cons_of_neg (by simpa using hk)]; omega
    rw [q, e, ih, List.length_cons]
    omega
theorem split_sum (g : List Sd) (f : Sd → Int) : ((splitS g f).map List.length).sum = g.length := by
  have h := split_keys g f
  exact sum_len f h.1 g fun s hs => (h.2 _).mpr ⟨s, hs, rfl⟩
theorem split_mem {g : List Sd} {f : Sd → Int} {p : List Sd} (h : p ∈ splitS g f) : p ≠ [] ∧ (∀ s ∈ p, s ∈ g) ∧ (g.Nodup → p.Nodup) ∧ ∃ k, p = g.filter fun s => decide (f s = k) := by
  unfold splitS at h
  obtain ⟨k, hk, rfl⟩ := List.mem_map.mp h
  obtain ⟨s, hs, e⟩ := ((split_keys g f).2 k).mp hk
  refine ⟨fun z => ?_, fun s hs => (List.mem_filter.mp hs).1, fun nd => nd.filter _, k, rfl⟩
  have : s ∈ g.filter fun s => decide (f s = k) := List.mem_filter.mpr ⟨hs, by simpa using e⟩
  rw [z] at this
  cases this
theorem part_len : ∀ {l : List (List Sd)}, (∀ p ∈ l, p ≠ []) → ∀ {p}, p ∈ l → p.length + (l.length - 1) ≤ (l.map List.length).sum
  | [], _, p, h => absurd h List.not_mem_nil
  | q :: l, hn, p, h => by
    rw [List.map_cons, List.sum_cons, List.length_cons]
    have hq : 1 ≤ q.length := List.length_pos_iff.mpr (hn q (List.mem_cons_self ..))
    have hl : l.length ≤ (l.map List.length).sum := by
      have : ∀ l : List (List Sd), (∀ p ∈ l, p ≠ []) → l.length ≤ (l.map List.length).sum := fun l => by
        induction l with
        | nil => intro _; exact Nat.le_refl _
        | cons x l ih =>
          intro h
          have := ih fun p hp => h p (List.mem_cons_of_mem _ hp)
          have hx : 1 ≤ x.length := List.length_pos_iff.mpr (h x (List.mem_cons_self ..))
          rw [List.map_cons, List.sum_cons, List.length_cons]
          omega
      exact this l fun p hp => hn p (List.mem_cons_of_mem _ hp)
    rcases List.mem_cons.mp h with rfl | h
    · omega
    · have := part_len (fun p hp => hn p (List.mem_cons_of_mem _ hp)) h
      have : 1 ≤ l.length := List.length_pos_of_mem h
      omega
theorem split_len {g : List Sd} {f : Sd → Int} {p : List Sd} (h : p ∈ splitS g f) : p.length + ((splitS g f).length - 1) ≤ g.length := by
  have := part_len (fun p hp => (split_mem hp).1) h
  rw [split_sum] at this
  exact this
theorem split_le (g : List Sd) (f : Sd → Int) : (splitS g f).length ≤ g.length := by
  cases e : splitS g f with
  | nil => exact Nat.zero_le _
  | cons p l =>
    have h := split_len (g := g) (f := f) (p := p) (by rw [e]; simp)
    have hp : 1 ≤ p.length := List.length_pos_iff.mpr (split_mem (g := g) (f := f) (p := p) (by rw [e]; simp)).1
    rw [e, List.length_cons] at h
    rw [List.length_cons]
    omega
/-! measures -/
def mu (W : Nat) (g : List Sd) (k : Nat) : Nat := (W + 1) * g.length - k
def nextK (b : Book) (parts : List (List Sd)) (k : Nat) : Nat := match b.anew && decide (1 < parts.length) with | true => 0 | false => k + 1
theorem nextK_le {b : Book} {parts : List (List Sd)} {k W : Nat} (h : k < W) : nextK b parts k ≤ W := by
  unfold nextK
  split <;> omega
theorem mul_step (W a c : Nat) (h : a + 1 ≤ c) : (W + 1) * a + (W + 1) ≤ (W + 1) * c := by
  calc (W + 1) * a + (W + 1) = (W + 1) * (a + 1) := by rw [Nat.mul_add, Nat.mul_one]
    _ ≤ _ := Nat.mul_le_mul_left _ h
theorem mu_next {b : Book} {g : List Sd} {f : Sd → Int} {k W : Nat} (hk : k < W) {p : List Sd} (h : p ∈ splitS g f) : mu W p (nextK b (splitS g f) k) < mu W g k := by
  have h1 := split_len h
  have hp : 1 ≤ p.length := List.length_pos_iff.mpr (split_mem h).1
  have h2 : (W + 1) * 1 ≤ (W + 1) * p.length := Nat.mul_le_mul_left _ hp
  unfold mu nextK
  cases e : b.anew && decide (1 < (splitS g f).length) with
  | true =>
    have e := of_decide_eq_true (Bool.and_eq_true_iff.mp e).2
    have h3 := mul_step W p.length g.length (by omega)
    simp only
    omega
  | false =>
    have h3 : (W + 1) * p.length ≤ (W + 1) * g.length := Nat.mul_le_mul_left _ (by omega)
    simp only
    omega
theorem askS_some {b : Book} {rows : List Row} {n : Nat} {g : List Sd} {k : Nat} {wd : Wd} (h1 : g.length ≠ 1) (hw : b.ws[k]? = some wd) : askS b rows (n + 1) g k = (splitS g (cntS b.w b.d rows g wd)).flatMap fun p => askS b rows n p (nextK b (splitS g (cntS b.w b.d rows g wd)) k) := by
  rw [askS, decide_eq_false h1]
  simp only [hw]
  rfl
theorem askS_none {b : Book} {rows : List Row} {n : Nat} {g : List Sd} {k : Nat} (h1 : g.length ≠ 1) (hw : b.ws[k]? = none) : askS b rows (n + 1) g k = match b.drawn with | true => g.map fun s => [s] | false => [g] := by
  rw [askS, decide_eq_false h1]
  simp only [hw]
theorem askS_one {b : Book} {rows : List Row} {n : Nat} {g : List Sd} {k : Nat} (h1 : g.length = 1) : askS b rows (n + 1) g k = [g] := by
  rw [askS, decide_eq_true h1]
theorem flatMap_congr' {α β : Type} {f g : α → List β} : ∀ {l : List α}, (∀ x ∈ l, f x = g x) → l.flatMap f = l.flatMap g
  | [], _ => rfl
  | x :: l, h => by rw [List.flatMap_cons, List.flatMap_cons, h x (List.mem_cons_self ..), flatMap_congr' fun y hy => h y (List.mem_cons_of_mem _ hy)]
/-- the fuel is of no matter -/
theorem ask_fuel {b : Book} {rows : List Row} : ∀ n m {g : List Sd} {k : Nat}, k ≤ b.ws.length → mu b.ws.length g k < n → mu b.ws.length g k < m → askS b rows n g k = askS b rows m g k
  | 0, _, _, _, _, h, _ => absurd h (Nat.not_lt_zero _)
  | _ + 1, 0, _, _, _, _, h => absurd h (Nat.not_lt_zero _)
  | n + 1, m + 1, g, k, hk, h1, h2 => by
    by_cases hg : g.length = 1
    · rw [askS_one hg, askS_one hg]
    · cases hw : b.ws[k]? with
      | none => rw [askS_none hg hw, askS_none hg hw]
      | some wd =>
        have hk2 : k < b.ws.length := (List.getElem?_eq_some_iff.mp hw).1
        rw [askS_some hg hw, askS_some hg hw]
        refine flatMap_congr' fun p hp => ?_
        have := mu_next (b := b) hk2 hp
        exact ask_fuel n m (nextK_le hk2) (by omega) (by omega)
theorem flat_len {A : List Sd → List (List Sd)} : ∀ {l : List (List Sd)}, (∀ p ∈ l, (A p).length ≤ p.length) → (l.flatMap A).length ≤ (l.map List.length).sum
  | [], _ => Nat.le_refl _
  | p :: l, h => by
    rw [List.flatMap_cons, List.length_append, List.map_cons, List.sum_cons]
    have h1 := h p (List.mem_cons_self ..)
    have h2 := flat_len (A := A) (l := l) fun q hq => h q (List.mem_cons_of_mem _ hq)
    omega
theorem ask_len {b : Book} {rows : List Row} : ∀ n {g : List Sd} {k : Nat}, g ≠ [] → (askS b rows n g k).length ≤ g.length
  | 0, _, _, _ => Nat.zero_le _
  | n + 1, g, k, hn => by
    have hp : 1 ≤ g.length := List.length_pos_iff.mpr hn
    by_cases hg : g.length = 1
    · rw [askS_one hg]; simpa using hp
    · cases hw : b.ws[k]? with
      | none =>
        rw [askS_none hg hw]
        cases b.drawn with
        | true => simp
        | false => simpa using hp
      | some wd =>
        rw [askS_some hg hw]
        have := flat_len (A := fun p => askS b rows n p (nextK b (splitS g (cntS b.w b.d rows g wd)) k)) (l := splitS g (cntS b.w b.d rows g wd)) fun p hp => ask_len n (split_mem hp).1
        rw [split_sum] at this
        exact this
/-! parts of a group -/
def Part : List (List Sd) → List Sd → Prop
  | [], g => g = []
  | p :: t, g => p ≠ [] ∧ p = (g.filter fun s => decide (s ∈ p)) ∧ Part t (g.filter fun s => !decide (s ∈ p))
theorem part_append (q : Sd → Bool) : ∀ {t1 : List (List Sd)} {g : List Sd} {t2 : List (List Sd)}, Part t1 (g.filter q) → Part t2 (g.filter fun s => !q s) → Part (t1 ++ t2) g
  | [], g, t2, h1, h2 => by
    have h1 : g.filter q = [] := h1
    rw [List.filter_eq_nil_iff] at h1
    have : g.filter (fun s => !q s) = g := List.filter_eq_self.mpr fun s hs => by have := h1 s hs; simpa using this
    rw [this] at h2
    exact h2
  | a :: t1, g, t2, h1, h2 => by
    obtain ⟨ha, e, h1⟩ := h1
    have hq : ∀ s ∈ a, q s = true := fun s hs => by
      rw [e] at hs
      exact (List.mem_filter.mp (List.mem_filter.mp hs).1).2
    refine ⟨ha, ?_, ?_⟩
    · conv => lhs; rw [e]
      rw [List.filter_filter]
      refine List.filter_congr fun s hs => ?_
      by_cases hsa : s ∈ a
      · simp [hsa, hq s hsa]
      · simp [hsa]
    · refine part_append q (g := g.filter fun s => !decide (s ∈ a)) ?_ ?_
      · rw [List.filter_filter] at h1 ⊢
        have : (fun s => q s && !decide (s ∈ a)) = (fun s => !decide (s ∈ a) && q s) := funext fun s => Bool.and_comm _ _
        rw [this]
        exact h1
      · rw [List.filter_filter]
        have : (g.filter fun s => (!q s && !decide (s ∈ a))) = g.filter fun s => !q s := List.filter_congr fun s hs => by
          by_cases hsa : s ∈ a
          · simp [hsa, hq s hsa]
          · simp [hsa]
        rw [this]
        exact h2
theorem part_keys (f : Sd → Int) (A : List Sd → List (List Sd)) : ∀ {ks : List Int} {g : List Sd}, ks.Nodup → (∀ s ∈ g, f s ∈ ks) → (∀ k ∈ ks, Part (A (g.filter fun s => decide (f s = k))) (g.filter fun s => decide (f s = k))) → Part ((ks.map fun k => g.filter fun s => decide (f s = k)).flatMap A) g
  | [], g, _, h, _ => by
    cases g with
    | nil => rfl
    | cons s g => exact absurd (h s (List.mem_cons_self ..)) List.not_mem_nil
  | k :: ks, g, nd, h, hA => by
    obtain ⟨n1, n2⟩ := List.nodup_cons.mp nd
    rw [List.map_cons, List.flatMap_cons]
    refine part_append (fun s => decide (f s = k)) (hA k (List.mem_cons_self ..)) ?_
    have e : ∀ k' ∈ ks, (g.filter fun s => decide (f s = k')) = (g.filter fun s => !decide (f s = k)).filter fun s => decide (f s = k') := fun k' hk' => by
      rw [List.filter_filter]
      refine List.filter_congr fun s hs => ?_
      by_cases h1 : f s = k'
      · have : f s ≠ k := fun z => n1 (by rw [← z, h1]; exact hk')
        simp [h1]
        intro z
        exact this (by rw [h1, z])
      · simp [h1]
    have e2 : (ks.map fun k' => g.filter fun s => decide (f s = k')) = ks.map fun k' => (g.filter fun s => !decide (f s = k)).filter fun s => decide (f s = k') := List.map_congr_left e
    rw [e2]
    refine part_keys f A n2 (fun s hs => ?_) fun k' hk' => ?_
    · obtain ⟨h1, h2⟩ := List.mem_filter.mp hs
      have h3 : f s ≠ k := by simpa using h2
      exact (List.mem_cons.mp (h s h1)).resolve_left h3
    · rw [← e k' hk']
      exact hA k' (List.mem_cons_of_mem _ hk')
theorem part_split (g : List Sd) (f : Sd → Int) (A : List Sd → List (List Sd)) (h : ∀ p ∈ splitS g f, Part (A p) p) : Part ((splitS g f).flatMap A) g := by
  have hk := split_keys g f
  refine part_keys f A hk.1 (fun s hs => (hk.2 _).mpr ⟨s, hs, rfl⟩) fun k hk => ?_
  exact h _ (List.mem_map.mpr ⟨k, hk, rfl⟩)
theorem part_self {g : List Sd} (h : g ≠ []) : Part [g] g := by
  refine ⟨h, ?_, ?_⟩
  · symm
    rw [List.filter_eq_self]
    intro s hs
    simpa using hs
  · show _ = []
    rw [List.filter_eq_nil_iff]
    intro s hs
    simpa using hs
theorem part_each : ∀ {g : List Sd}, g.Nodup → Part (g.map fun s => [s]) g
  | [], _ => rfl
  | s :: g, nd => by
    obtain ⟨n1, n2⟩ := List.nodup_cons.mp nd
    rw [List.map_cons]
    have e1 : (g.filter fun x => decide (x ∈ [s])) = [] := by
      rw [List.filter_eq_nil_iff]
      intro x hx
      have : x ≠ s := fun z => n1 (z ▸ hx)
      simpa using this
    have e2 : (g.filter fun x => !decide (x ∈ [s])) = g := by
      rw [List.filter_eq_self]
      intro x hx
      have : x ≠ s := fun z => n1 (z ▸ hx)
      simpa using this
    refine ⟨by simp, ?_, ?_⟩
    · rw [List.filter_cons_of_pos (by simp), e1]
    · rw [List.filter_cons_of_neg (by simp), e2]
      exact part_each n2
theorem ask_part {b : Book} {rows : List Row} : ∀ n {g : List Sd} {k : Nat}, g ≠ [] → g.Nodup → k ≤ b.ws.length → mu b.ws.length g k < n → Part (askS b rows n g k) g
  | 0, _, _, _, _, _, h => absurd h (Nat.not_lt_zero _)
  | n + 1, g, k, hn, nd, hk, h1 => by
    by_cases hg : g.length = 1
    · rw [askS_one hg]; exact part_self hn
    · cases hw : b.ws[k]? with
      | none =>
        rw [askS_none hg hw]
        cases b.drawn with
        | true => exact part_each nd
        | false => exact part_self hn
      | some wd =>
        have hk2 : k < b.ws.length := (List.getElem?_eq_some_iff.mp hw).1
        rw [askS_some hg hw]
        refine part_split g _ _ fun p hp => ?_
        have := mu_next (b := b) hk2 hp
        exact ask_part n (split_mem hp).1 ((split_mem hp).2.2.1 nd) (nextK_le hk2) (by omega)
theorem table_part {b : Book} {rows : List Row} {n : Nat} {ss : List Sd} (nd : ss.Nodup) (hn : (b.ws.length + 1) * ss.length < n) : Part (tableS b rows n ss) ss := by
  unfold tableS
  refine part_split ss _ _ fun p hp => ?_
  have h1 := split_len hp
  have h2 : (b.ws.length + 1) * p.length ≤ (b.ws.length + 1) * ss.length := Nat.mul_le_mul_left _ (by omega)
  exact ask_part n (split_mem hp).1 ((split_mem hp).2.2.1 nd) (Nat.zero_le _) (by unfold mu; omega)
/-- all orders of groups of sides -/
def subs : List Sd → List (List Sd)
  | [] => [[]]
  | s :: g => (subs g).map (s :: ·) ++ subs g
theorem subs_mem (q : Sd → Bool) : ∀ g : List Sd, g.filter q ∈ subs g
  | [] => by simp [subs]
  | s :: g => by
    have ih := subs_mem q g
    unfold subs
    cases h : q s with
    | true => rw [List.filter_cons_of_pos h]; exact List.mem_append_left _ (List.mem_map.mpr ⟨_, ih, rfl⟩)
    | false => rw [List.filter_cons_of_neg (by simp [h])]; exact List.mem_append_right _ ih
def orders : Nat → List Sd → List (List (List Sd))
  | 0, _ => [[]]
  | n + 1, g => match g with
    | [] => [[]]
    | _ :: _ => ((subs g).filter fun p => !p.isEmpty).flatMap fun p => (orders n (g.filter fun s => !decide (s ∈ p))).map (p :: ·)
theorem orders_mem : ∀ {n : Nat} {t : List (List Sd)} {g : List Sd}, g.length ≤ n → Part t g → t ∈ orders n g
  | 0, t, g, hl, h => by
    have : g = [] := List.length_eq_zero_iff.mp (by omega)
    subst this
    cases t with
    | nil => simp [orders]
    | cons p t =>
      obtain ⟨h1, h2, _⟩ := h
      exact absurd h2 h1
  | n + 1, [], g, hl, h => by
    have : g = [] := h
    subst this
    simp [orders]
  | n + 1, p :: t, g, hl, h => by
    obtain ⟨h1, h2, h3⟩ := h
    cases g with
    | nil => exact absurd h2 h1
    | cons s g =>
      have h4 : (List.filter (fun x => !decide (x ∈ p)) (s :: g)).length < (s :: g).length := by
        cases p with
        | nil => exact absurd rfl h1
        | cons a p =>
          have ha : a ∈ (s :: g) := by
            have : a ∈ ((s :: g).filter fun x => decide (x ∈ (a :: p))) := by rw [← h2]; simp
            exact (List.mem_filter.mp this).1
          refine List.length_filter_lt_length_iff_exists.mpr ⟨a, ha, by simp⟩
      have ih := orders_mem (n := n) (by omega) h3
      unfold orders
      refine List.mem_flatMap.mpr ⟨p, List.mem_filter.mpr ⟨?_, ?_⟩, List.mem_map.mpr ⟨t, ih, rfl⟩⟩
      · have := subs_mem (fun x => decide (x ∈ p)) (s :: g)
        rw [← h2] at this
        exact this
      · cases p with
        | nil => exact absurd rfl h1
        | cons a p => rfl
/-- the tables of a season -/
def Kd.ts (kd : Kd) : List (List (List Sd)) := orders 4 kd.ss
theorem ss_nodup (kd : Kd) : kd.ss.Nodup := by cases kd <;> decide
theorem table_mem (kd : Kd) {b : Book} (hb : b.ws.length ≤ 4) (rows : List Row) : tableS b rows 21 kd.ss ∈ kd.ts := by
  have h1 := ss_len kd
  have h2 : (b.ws.length + 1) * kd.ss.length ≤ 5 * 4 := Nat.mul_le_mul (by omega) h1
  exact orders_mem h1 (table_part (ss_nodup kd) (by omega))
end Cr

set_option Elab.async false
set_option linter.all false
set_option maxRecDepth 100000
set_option maxHeartbeats 4000000
/-! Core texts, part 17: the table (the program's way). -/
namespace Cr
open Rf PySem

abbrev encT (t : List (List Sd)) : PyData := .tuple (t.map gd)
/-- what a book is to a table -/
structure Bt (bk : PyData) (b : Book) : Prop where
  ws : ixD bk (.int 2) = .ok (.tuple (b.ws.map encW))
  mode : ixD bk (.int 3) = .ok (modeS b.anew)
  fin : ixD bk (.int 4) = .ok (endS b.drawn)
theorem bt_enc (b : Book) : Bt (encB b) b := ⟨rfl, rfl, rfl⟩
theorem eq_mode (a : Bool) : eqD (modeS a) (.str "anew") = .ok a := by cases a <;> kernel_rfl
theorem eq_drawn (a : Bool) : eqD (endS a) (.str "drawn") = .ok a := by cases a <;> kernel_rfl
theorem eq_shared (a : Bool) : eqD (endS a) (.str "shared") = .ok (!a) := by cases a <;> kernel_rfl
theorem len_gd {g : List Sd} (h : g.length ≤ 1000) : biD .len [gd g] = .ok (.int g.length) := by
  rw [biD_lenS, grp_len]
  rw [grp_len]
  exact Nat.le_trans h (by decide)
theorem list_gd {g : List Sd} (h : g.length ≤ 1000) : biD .list [gd g] = .ok (.list (g.map sd)) := by
  have := items_grp g h
  show R.chk (decide ((grp g).length ≤ lineN)) (R.ok (PyData.list ((grp g).cps.toList.map fun c => PyData.str ⟨#[c]⟩))) = _
  have h2 : R.chk (decide ((grp g).length ≤ lineN)) (R.ok ((grp g).cps.toList.map fun c => PyData.str ⟨#[c]⟩)) = .ok (g.map sd) := this
  have h3 : decide ((grp g).length ≤ lineN) = true := by rw [grp_len]; exact le_line (by omega)
  rw [h3] at h2 ⊢
  have h2 := R.ok.inj h2
  show R.ok (PyData.list _) = _
  rw [h2]
theorem ix_nat {α : Type} (f : α → PyData) (l : List α) (k : Nat) (x : α) (h : l[k]? = some x) : ixD (.tuple (l.map f)) (.int k) = .ok (f x) := by
  have hk := (List.getElem?_eq_some_iff.mp h).1
  have e : L2.ixN (l.map f).length (k : Int) = some k := by
    rw [List.length_map]
    unfold L2.ixN
    rw [if_pos (by omega), if_pos (by omega)]
    rfl
  have e2 : L2.atI (l.map f) (k : Int) = some (f x) := by
    unfold L2.atI
    rw [e]
    show (l.map f)[k]? = _
    rw [List.getElem?_map, h]
    rfl
  show (match L2.atI (l.map f) (k : Int) with | some d => R.ok d | none => .bad) = _
  rw [e2]
theorem ix_natL {α : Type} (f : α → PyData) (l : List α) (k : Nat) (x : α) (h : l[k]? = some x) : ixD (.list (l.map f)) (.int k) = .ok (f x) := ix_nat f l k x h
theorem clM {n : Nat} {f : Str} {ds : List PyData} {r : R PyData} (h : cM n f ds = r) : (Sg M n).cl f ds = r := h
def lcAs : C := .lc (.var 7) (.itm (.var 2)) .nil (.call "count_for" (.cons (.var 0) (.cons (.var 1) (.cons (.var 2) (.cons (.idx (.idx (.var 0) (.cst (.int 2))) (.var 3)) (.cons (.var 7) .nil))))))
def asB : C := .seq (.ext 5 (.call "asked" (.cons (.var 0) (.cons (.var 1) (.cons (.var 6) (.cons (.ife (.band (.cons (.cmp .eq (.idx (.var 0) (.cst (.int 3))) (.glob "ANEW")) (.cons (.cmp .gt (.bi .len (.cons (.var 4) .nil)) (.cst (.int 1))) .nil))) (.cst (.int 0)) (.bin .add (.var 3) (.cst (.int 1)))) .nil)))))) .skip
def asTl : C := (.seq (.asg 4 false (.call "divided" (.cons (.var 2) (.cons lcAs .nil)))) (.seq (.asg 5 true (.lst .nil)) (.seq (.for_ (.var 6) (.itm (.var 4)) asB) (.fz 5 (.seq (.ret (.var 5)) .skip)))))
theorem asked_term : b_asked = .seq (.iff (.cmp .eq (.bi .len (.cons (.var 2) .nil)) (.cst (.int 1))) (.seq (.ret (.lst (.cons (.var 2) .nil))) .skip) .skip) (.seq (.iff (.cmp .eq (.var 3) (.bi .len (.cons (.idx (.var 0) (.cst (.int 2))) .nil))) (.seq (.ret (.ife (.cmp .eq (.idx (.var 0) (.cst (.int 4))) (.glob "DRAWN")) (.bi .list (.cons (.var 2) .nil)) (.lst (.cons (.var 2) .nil)))) .skip) .skip) asTl) := rfl
theorem nextK_int (b : Book) (parts : List (List Sd)) (k : Nat) : ((nextK b parts k : Nat) : Int) = if (b.anew && decide (1 < parts.length)) = true then 0 else (k : Int) + 1 := by
  unfold nextK
  cases b.anew && decide (1 < parts.length) with
  | true => rfl
  | false => simp
theorem as_loop (S : Sig) (hg1 : S.gl "ANEW" = .ok (.str "anew")) {bk : PyData} {b : Book} (hb : Bt bk b) (rw_ gD : PyData) (k : Nat) (parts : List (List Sd)) (A : List Sd → List (List Sd)) (hA : ∀ p ∈ parts, S.cl "asked" [bk, rw_, gd p, .int (nextK b parts k : Nat)] = .ok (.list ((A p).map gd))) :
    ∀ (ps : List (List Sd)) (acc : List (List Sd)) (x6 x7 : Option (Bool × PyData)), (∀ p ∈ ps, p ∈ parts) → acc.length + (ps.flatMap A).length ≤ 1000 → ∃ y6 y7,
    forGo (fun x env => (bindT (.var 6) x env).toS env (ex S 100 asB)) (ps.map gd) [some (false, bk), some (false, rw_), some (false, gD), some (false, .int k), some (false, .list (parts.map gd)), some (true, .list (acc.map gd)), x6, x7] =
    .nx [some (false, bk), some (false, rw_), some (false, gD), some (false, .int k), some (false, .list (parts.map gd)), some (true, .list ((acc ++ ps.flatMap A).map gd)), y6, y7]
  | [], acc, x6, x7, _, _ => ⟨x6, x7, by rw [List.flatMap_nil, List.append_nil]; rfl⟩
  | p :: ps, acc, x6, x7, hp, hl => by
    rw [List.flatMap_cons] at hl ⊢
    rw [List.length_append] at hl
    obtain ⟨y6, y7, e⟩ := as_loop S hg1 hb rw_ gD k parts A hA ps (acc ++ A p) (some (false, gd p)) x7 (fun q hq => hp q (List.mem_cons_of_mem _ hq)) (by rw [List.length_append]; omega)
    refine ⟨y6, y7, ?_⟩
    rw [← List.append_assoc, ← e, List.map_cons, forGo]
    have e1 := hA p (hp p (List.mem_cons_self ..))
    rw [nextK_int] at e1
    have e2 : decide ((acc.map gd).length + ((A p).map gd).length ≤ lineN) = true := le_line (by rw [List.length_map, List.length_map]; omega)
    have e3 := eq_mode b.anew
    rw [List.map_append]
    generalize (A p).map gd = dp at e1 e2 ⊢
    generalize acc.map gd = da at e2 ⊢
    generalize hpl : parts.map gd = dparts at e ⊢
    have e4 : dparts.length = parts.length := by rw [← hpl, List.length_map]
    generalize gd p = gp at e1 ⊢
    cases ha : b.anew with
    | false =>
      rw [ha] at e1 e3
      simp at e1
      simp [asB, ex, ev, evs, evAnd, bindT, R.chk, hb.mode, ha, hg1, e3, e1, ownL, appO, unlist, e2]
    | true =>
      rw [ha] at e1 e3
      by_cases h1 : 1 < parts.length
      · have h1' : (1 : Int) < (dparts.length : Int) := by omega
        simp [h1] at e1
        simp [asB, ex, ev, evs, evAnd, bindT, R.chk, hb.mode, ha, hg1, e3, e1, ownL, appO, unlist, e2, h1']
      · have h1' : ¬ (1 : Int) < (dparts.length : Int) := by omega
        simp [h1] at e1
        simp [asB, ex, ev, evs, evAnd, bindT, R.chk, hb.mode, ha, hg1, e3, e1, ownL, appO, unlist, e2, h1']
theorem ex_asked_one (S : Sig) (bk rw_ : PyData) (g : List Sd) (k : PyData) (h : g.length = 1) : ex S 100 b_asked (startE 8 [bk, rw_, gd g, k]) = .rt (.list [gd g]) := by
  have e1 := len_gd (g := g) (by omega)
  rw [h] at e1
  rw [asked_term]
  generalize gd g = gD at e1 ⊢
  generalize asTl = tl
  simp [ex, ev, evs, startE, e1, eqD_int, le_line, R.chk]
theorem ex_asked_none (S : Sig) (hg1 : S.gl "DRAWN" = .ok (.str "drawn")) {bk : PyData} {b : Book} (hb : Bt bk b) (rw_ : PyData) (g : List Sd) (hl : g.length ≤ 1000) (h : g.length ≠ 1) : ex S 100 b_asked (startE 8 [bk, rw_, gd g, .int b.ws.length]) = .rt (.list ((match b.drawn with | true => g.map fun s => [s] | false => [g]).map gd)) := by
  have e1 := len_gd hl
  have e2 := list_gd hl
  have e3 := eq_drawn b.drawn
  have h' : ¬ (g.length : Int) = 1 := by omega
  rw [asked_term]
  have e4 : (g.map fun s => [s]).map gd = g.map sd := by rw [List.map_map]; rfl
  cases hd : b.drawn with
  | true =>
    rw [hd] at e3
    rw [e4]
    generalize gd g = gD at e1 e2 ⊢
    generalize asTl = tl
    simp [ex, ev, evs, startE, e1, eqD_int, h', hb.ws, hb.fin, hd, hg1, e3, e2]
  | false =>
    rw [hd] at e3
    show _ = SR.rt (.list [gd g])
    generalize gd g = gD at e1 e2 ⊢
    generalize asTl = tl
    simp [ex, ev, evs, startE, e1, eqD_int, h', hb.ws, hb.fin, hd, hg1, e3, e2, le_line, R.chk]
theorem ex_asked_some (S : Sig) (hg1 : S.gl "ANEW" = .ok (.str "anew")) {bk : PyData} {b : Book} (hb : Bt bk b) (rw_ : PyData) (g : List Sd) (hl : g.length ≤ 1000) (h : g.length ≠ 1) (k : Nat) (wd : Wd) (hw : b.ws[k]? = some wd) (f : Sd → Int) (hc : ∀ s, S.cl "count_for" [bk, rw_, gd g, encW wd, sd s] = .ok (.int (f s)))
    (hd : S.cl "divided" [gd g, .list ((g.map f).map .int)] = .ok (.list ((splitS g f).map gd))) (A : List Sd → List (List Sd)) (hA : ∀ p ∈ splitS g f, S.cl "asked" [bk, rw_, gd p, .int (nextK b (splitS g f) k : Nat)] = .ok (.list ((A p).map gd))) (hlen : ((splitS g f).flatMap A).length ≤ 1000) :
    ex S 100 b_asked (startE 8 [bk, rw_, gd g, .int k]) = .rt (.list (((splitS g f).flatMap A).map gd)) := by
  have e1 := len_gd hl
  have h' : ¬ (g.length : Int) = 1 := by omega
  have hk := (List.getElem?_eq_some_iff.mp hw).1
  have hk' : ¬ (k : Int) = (b.ws.length : Int) := by omega
  have e2 := ix_nat encW b.ws k wd hw
  have elc : ev S false lcAs [some (false, bk), some (false, rw_), some (false, gd g), some (false, .int k), none, none, none, none] = .ok (.list ((g.map f).map .int)) := by
    unfold lcAs
    rw [ev_lc (xs := g) sd (fun s => some (.int (f s))) ?_ fun s _ => ?_, filterMap_some']
    · rw [List.map_map]; rfl
    · have := items_grp g hl
      simp [its, ev, itemsK, this]
    · have := hc s
      simp [lcS, ev, evs, evC, bindT, tgVars, wipeE, R.chk, R.nox, hb.ws, e2, this]
  obtain ⟨y6, y7, e⟩ := as_loop S hg1 hb rw_ (gd g) k (splitS g f) A hA (splitS g f) [] none none (fun _ h => h) (by simpa using hlen)
  rw [List.nil_append] at e
  rw [asked_term]
  unfold asTl
  have efor : ex S 100 (.for_ (.var 6) (.itm (.var 4)) asB) [some (false, bk), some (false, rw_), some (false, gd g), some (false, .int k), some (false, .list ((splitS g f).map gd)), some (true, .list []), none, none] = .nx [some (false, bk), some (false, rw_), some (false, gd g), some (false, .int k), some (false, .list ((splitS g f).map gd)), some (true, .list (((splitS g f).flatMap A).map gd)), y6, y7] := by
    rw [ex]
    have e3 : its S (.itm (.var 4)) [some (false, bk), some (false, rw_), some (false, gd g), some (false, .int k), some (false, .list ((splitS g f).map gd)), some (true, .list []), none, none] = .ok ((splitS g f).map gd) := by
      generalize (splitS g f).map gd = z
      simp [its, ev]
    rw [e3, R.toS_ok]
    exact e
  generalize ((splitS g f).flatMap A).map gd = out at efor ⊢
  generalize (splitS g f).map gd = parts at hd efor ⊢
  generalize (g.map f).map PyData.int = nums at hd elc ⊢
  generalize hgD : gd g = gD at e1 elc hd efor ⊢
  generalize hF : C.for_ (.var 6) (.itm (.var 4)) asB = F at efor ⊢
  generalize lcAs = L at elc ⊢
  simp [ex, ev, evs, startE, e1, eqD_int, h', hk', hb.ws, elc, hd, efor, freeze]
theorem cd_asked {b : Book} (hb : BookOk b) (rows : List Row) : ∀ (n : Nat) (g : List Sd) (k : Nat), g ≠ [] → g.length ≤ 60 → k ≤ b.ws.length → mu b.ws.length g k < n → cM (n + 3) "asked" [encB b, .list (rows.map encRow), gd g, .int k] = .ok (.list ((askS b rows n g k).map gd))
  | 0, _, _, _, _, _, h => absurd h (Nat.not_lt_zero _)
  | n + 1, g, k, hn, hl, hk, hmu => by
    show cd M (n + 4) _ _ = _
    rw [cd_succ M MST.asked rfl]
    show (ex (Sg M (n + 3)) 100 b_asked (startE 8 _)).fin = _
    by_cases hg : g.length = 1
    · rw [ex_asked_one _ _ _ _ _ hg, askS_one hg]; rfl
    · cases hw : b.ws[k]? with
      | none =>
        have : k = b.ws.length := by
          have := List.getElem?_eq_none_iff.mp hw
          omega
        subst this
        rw [ex_asked_none _ MSB.DRAWN (bt_enc b) _ g (by omega) hg, askS_none hg hw]; rfl
      | some wd =>
        have hk2 : k < b.ws.length := (List.getElem?_eq_some_iff.mp hw).1
        have hwp : wd ≠ .points := hb.p wd (List.mem_of_getElem? hw)
        rw [askS_some hg hw]
        have h1 := ask_len (b := b) (rows := rows) (n + 1) (k := k) hn
        rw [askS_some hg hw] at h1
        rw [ex_asked_some (Sg M (n + 3)) MSB.ANEW (bt_enc b) _ g (by omega) hg k wd hw (cntS b.w b.d rows g wd) (fun s => cd_count n hb.bs.toBk rows g wd hwp s) (cd_divided (n + 2) hl _) (fun p => askS b rows n p (nextK b (splitS g (cntS b.w b.d rows g wd)) k)) (fun p hp => ?_) (by omega)]
        · rfl
        · have := mu_next (b := b) hk2 hp
          have hpl := split_len hp
          exact cd_asked hb rows n p _ (split_mem hp).1 (by omega) (nextK_le hk2) (by omega)
/-! ranked, find_table, table_of -/
def lcRk : C := .lc (.var 6) (.itm (.var 3)) .nil (.call "points_in" (.cons (.var 1) (.cons (.var 2) (.cons (.var 6) .nil))))
def rkB : C := .seq (.ext 4 (.call "asked" (.cons (.var 1) (.cons (.var 2) (.cons (.var 5) (.cons (.cst (.int 0)) .nil)))))) .skip
theorem ranked_term : b_ranked = .seq (.asg 3 false (.call "find_sides" (.cons (.var 0) .nil))) (.seq (.asg 4 true (.lst .nil)) (.seq (.for_ (.var 5) (.itm (.call "divided" (.cons (.var 3) (.cons lcRk .nil)))) rkB) (.seq (.ret (.bi .tuple (.cons (.var 4) .nil))) .skip))) := rfl
theorem rk_loop (S : Sig) (se bk rw_ gD : PyData) (A : List Sd → List (List Sd)) : ∀ (ps : List (List Sd)) (acc : List (List Sd)) (x5 x6 : Option (Bool × PyData)), (∀ p ∈ ps, S.cl "asked" [bk, rw_, gd p, .int 0] = .ok (.list ((A p).map gd))) → acc.length + (ps.flatMap A).length ≤ 1000 → ∃ y5 y6,
    forGo (fun x env => (bindT (.var 5) x env).toS env (ex S 100 rkB)) (ps.map gd) [some (false, se), some (false, bk), some (false, rw_), some (false, gD), some (true, .list (acc.map gd)), x5, x6] =
    .nx [some (false, se), some (false, bk), some (false, rw_), some (false, gD), some (true, .list ((acc ++ ps.flatMap A).map gd)), y5, y6]
  | [], acc, x5, x6, _, _ => ⟨x5, x6, by rw [List.flatMap_nil, List.append_nil]; rfl⟩
  | p :: ps, acc, x5, x6, hp, hl => by
    rw [List.flatMap_cons] at hl ⊢
    rw [List.length_append] at hl
    obtain ⟨y5, y6, e⟩ := rk_loop S se bk rw_ gD A ps (acc ++ A p) (some (false, gd p)) x6 (fun q hq => hp q (List.mem_cons_of_mem _ hq)) (by rw [List.length_append]; omega)
    refine ⟨y5, y6, ?_⟩
    rw [← List.append_assoc, ← e, List.map_cons, forGo]
    have e1 := hp p (List.mem_cons_self ..)
    have e2 : decide ((acc.map gd).length + ((A p).map gd).length ≤ lineN) = true := le_line (by rw [List.length_map, List.length_map]; omega)
    rw [List.map_append]
    generalize (A p).map gd = dp at e1 e2 ⊢
    generalize acc.map gd = da at e2 ⊢
    generalize gd p = gp at e1 ⊢
    simp [rkB, ex, ev, evs, bindT, R.chk, e1, ownL, appO, unlist, e2]
theorem ex_ranked (S : Sig) (se bk rw_ : PyData) (ss : List Sd) (hl : ss.length ≤ 60) (hs : S.cl "find_sides" [se] = .ok (gd ss)) (f : Sd → Int) (hc : ∀ s, S.cl "points_in" [bk, rw_, sd s] = .ok (.int (f s)))
    (hd : S.cl "divided" [gd ss, .list ((ss.map f).map .int)] = .ok (.list ((splitS ss f).map gd))) (A : List Sd → List (List Sd)) (hA : ∀ p ∈ splitS ss f, S.cl "asked" [bk, rw_, gd p, .int 0] = .ok (.list ((A p).map gd))) (hlen : ((splitS ss f).flatMap A).length ≤ 1000) :
    ex S 100 b_ranked (startE 7 [se, bk, rw_]) = .rt (.tuple (((splitS ss f).flatMap A).map gd)) := by
  have elc : ev S false lcRk [some (false, se), some (false, bk), some (false, rw_), some (false, gd ss), some (true, .list []), none, none] = .ok (.list ((ss.map f).map .int)) := by
    unfold lcRk
    rw [ev_lc (xs := ss) sd (fun s => some (.int (f s))) ?_ fun s _ => ?_, filterMap_some']
    · rw [List.map_map]; rfl
    · have := items_grp ss (by omega)
      simp [its, ev, itemsK, this]
    · have := hc s
      simp [lcS, ev, evs, evC, bindT, tgVars, wipeE, R.chk, R.nox, this]
  obtain ⟨y5, y6, e⟩ := rk_loop S se bk rw_ (gd ss) A (splitS ss f) [] none none hA (by simpa using hlen)
  rw [List.nil_append] at e
  rw [ranked_term]
  have efor : ex S 100 (.for_ (.var 5) (.itm (.call "divided" (.cons (.var 3) (.cons lcRk .nil)))) rkB) [some (false, se), some (false, bk), some (false, rw_), some (false, gd ss), some (true, .list []), none, none] = .nx [some (false, se), some (false, bk), some (false, rw_), some (false, gd ss), some (true, .list (((splitS ss f).flatMap A).map gd)), y5, y6] := by
    rw [ex]
    have e3 : its S (.itm (.call "divided" (.cons (.var 3) (.cons lcRk .nil)))) [some (false, se), some (false, bk), some (false, rw_), some (false, gd ss), some (true, .list []), none, none] = .ok ((splitS ss f).map gd) := by
      generalize lcRk = L at elc ⊢
      generalize (splitS ss f).map gd = z at hd ⊢
      generalize (ss.map f).map PyData.int = nums at hd elc
      simp [its, ev, evs, elc, hd]
    rw [e3, R.toS_ok]
    exact e
  generalize ((splitS ss f).flatMap A).map gd = out at efor ⊢
  generalize hF : C.for_ (.var 5) (.itm (.call "divided" (.cons (.var 3) (.cons lcRk .nil)))) rkB = F at efor ⊢
  simp [ex, ev, evs, startE, hs, putO, efor]
abbrev ptsB' (b : Book) (rows : List Row) : Sd → Int := ptsS b.w b.d rows
theorem cd_ranked (kd : Kd) {b : Book} (hb : BookOk b) (rows : List Row) (n : Nat) (x : PyData) : cM (n + 25) "ranked" [.tuple [.int kd.m, .int kd.l, x], encB b, .list (rows.map encRow)] = .ok (encT (tableS b rows (n + 21) kd.ss)) := by
  show cd M (n + 25) _ _ = _
  rw [cd_succ M MST.ranked rfl]
  show (ex (Sg M (n + 24)) 100 b_ranked (startE 7 _)).fin = _
  have hs := ss_len kd
  have hm : (b.ws.length + 1) * kd.ss.length ≤ 5 * 4 := Nat.mul_le_mul (by have := hb.l; omega) hs
  have hlen : ((splitS kd.ss (ptsS b.w b.d rows)).flatMap fun g => askS b rows (n + 21) g 0).length ≤ 1000 := by
    have := flat_len (A := fun g => askS b rows (n + 21) g 0) (l := splitS kd.ss (ptsS b.w b.d rows)) fun p hp => ask_len (n + 21) (split_mem hp).1
    rw [split_sum] at this
    omega
  rw [ex_ranked (Sg M (n + 24)) _ _ _ kd.ss (by omega) (cd_fs (n + 23) kd x) (ptsS b.w b.d rows) (fun s => cd_points (n + 22) hb.bs.toBk rows s) (cd_divided (n + 23) (by omega) _) (fun g => askS b rows (n + 21) g 0) (fun p hp => ?_) hlen]
  · rfl
  · have h1 := split_len hp
    have h2 : (b.ws.length + 1) * p.length ≤ (b.ws.length + 1) * kd.ss.length := Nat.mul_le_mul_left _ (by omega)
    exact cd_asked hb rows (n + 21) p 0 (split_mem hp).1 (by omega) (Nat.zero_le _) (by unfold mu; omega)
theorem table_fuel (kd : Kd) {b : Book} (hb : b.ws.length ≤ 4) (rows : List Row) (n : Nat) : tableS b rows (n + 21) kd.ss = tableS b rows 21 kd.ss := by
  unfold tableS
  refine flatMap_congr' fun p hp => ?_
  have hs := ss_len kd
  have hm : (b.ws.length + 1) * kd.ss.length ≤ 5 * 4 := Nat.mul_le_mul (by omega) hs
  have h1 := split_len hp
  have h2 : (b.ws.length + 1) * p.length ≤ (b.ws.length + 1) * kd.ss.length := Nat.mul_le_mul_left _ (by omega)
  exact ask_fuel (n + 21) 21 (Nat.zero_le _) (by unfold mu; omega) (by unfold mu; omega)
/-- the table of results, or of those that are there -/
def tabO (kd : Kd) (b : Book) (os : List (Option (Int × Int))) : List (List Sd) := tableS b (rowsOf kd.mt os) 21 kd.ss
theorem tabO_mem (kd : Kd) {b : Book} (hb : BookOk b) (os : List (Option (Int × Int))) : tabO kd b os ∈ kd.ts := table_mem kd hb.l _
theorem cd_find_table (kd : Kd) {b : Book} (hb : BookOk b) (os : List (Option (Int × Int))) (n : Nat) (x : PyData) : cM (n + 26) "find_table" [.tuple [.int kd.m, .int kd.l, x], encB b, .tuple (os.map encO)] = .ok (encT (tabO kd b os)) := by
  show cd M (n + 26) _ _ = _
  rw [cd_succ M MST.find_table rfl]
  show (ex (Sg M (n + 25)) 100 b_find_table (startE 3 _)).fin = _
  have e1 := clM (n := n + 25) (cd_played (n + 22) kd x os)
  have e2 := clM (n := n + 25) (cd_ranked kd hb (rowsOf kd.mt os) n x)
  rw [table_fuel kd hb.l] at e2
  unfold tabO
  generalize Sg M (n + 25) = S at e1 e2 ⊢
  generalize encT (tableS b (rowsOf kd.mt os) 21 kd.ss) = out at e2 ⊢
  generalize (rowsOf kd.mt os).map encRow = rows at e1 e2 ⊢
  generalize PyData.tuple (os.map encO) = z at e1 ⊢
  generalize PyData.tuple [.int kd.m, .int kd.l, x] = se at e1 e2 ⊢
  generalize encB b = y at e2 ⊢
  simp [ex, ev, evs, startE, b_find_table, e1, e2]
/-- the table of all results -/
abbrev tabR (kd : Kd) (b : Book) (rs : List (Int × Int)) : List (List Sd) := tabO kd b (rs.map some)
theorem cd_find_tableR (kd : Kd) {b : Book} (hb : BookOk b) (rs : List (Int × Int)) (n : Nat) (x : PyData) : cM (n + 26) "find_table" [.tuple [.int kd.m, .int kd.l, x], encB b, .tuple (rs.map P2)] = .ok (encT (tabR kd b rs)) := by
  have := cd_find_table kd hb (rs.map some) n x
  rw [some_enc] at this
  exact this
theorem cd_find_tableS (kd : Kd) {b : Book} (hb : BookOk b) (ss rs : List (Int × Int)) (n : Nat) : cM (n + 26) "find_table" [season kd.m kd.l ss, encB b, .tuple (rs.map P2)] = .ok (encT (tabR kd b rs)) := cd_find_tableR kd hb rs n (.tuple (ss.map P2))
theorem M_table_of : M.tab "table_of" = some d_table_of := by kernel_rfl
section
variable {kd : Kd} {ss : List (Int × Int)} {b : Book} {rs : List (Int × Int)}
theorem cd_table_of (n : Nat) (hs : Sea kd.m kd.l ss) (hb : BookOk b) (hl : rs.length = kd.mt.length) (hm : ∀ r ∈ rs, r ∈ ss) : cM (n + 27) "table_of" [season kd.m kd.l ss, encB b, .tuple (rs.map P2)] = .ok (encT (tabR kd b rs)) := by
  show cd M (n + 27) _ _ = _
  rw [cd_succ M M_table_of rfl]
  show (ex (Sg M (n + 26)) 100 b_table_of (startE 3 _)).fin = _
  have e1 := clM (n := n + 26) (cd_check_all (n + 21) hs hb hl hm)
  have e2 := clM (n := n + 26) (cd_find_tableS kd hb ss rs n)
  generalize Sg M (n + 26) = S at e1 e2 ⊢
  generalize encT (tabR kd b rs) = out at e2 ⊢
  generalize PyData.tuple (rs.map P2) = z at e1 e2 ⊢
  generalize season kd.m kd.l ss = se at e1 e2 ⊢
  generalize encB b = y at e1 e2 ⊢
  simp [ex, ev, evs, startE, b_table_of, e1, e2]
end
end Cr

set_option Elab.async false
set_option linter.all false
set_option maxRecDepth 100000
set_option maxHeartbeats 4000000
/-! Core texts, part 18: the table (the laws' way). -/
namespace Cr
open Rf PySem

theorem dict_ok (kd : Kd) (L : Sd → PyData) : dictD (.list (kd.ss.map fun s => .tuple [sd s, L s])) = .ok (.dict (kd.ss.map fun s => (sd s, L s))) := by cases kd <;> kernel_rfl
theorem dict_ix (kd : Kd) (L : Sd → PyData) (s : Sd) (hs : s ∈ kd.ss) : ixD (.dict (kd.ss.map fun s => (sd s, L s))) (sd s) = .ok (L s) := by
  cases kd <;> simp only [Kd.ss, List.mem_cons, List.not_mem_nil, or_false] at hs
  · rcases hs with rfl | rfl | rfl <;> kernel_rfl
  · rcases hs with rfl | rfl <;> kernel_rfl
  · rcases hs with rfl | rfl | rfl | rfl <;> kernel_rfl
  · rcases hs with rfl | rfl | rfl <;> kernel_rfl
theorem En.nat : En (fun k : Nat => PyData.int k) 0 := ⟨fun _ => rfl, fun _ => Nat.le_refl _, fun a b => by
  rw [eqv_int]
  by_cases h : a = b
  · subst h; simp
  · have : ¬ (a : Int) = (b : Int) := by omega
    rw [decide_eq_false h, decide_eq_false this], fun _ => rfl⟩
abbrev nodeD (e : List Sd × Nat) : PyData := .tuple [gd e.1, .int e.2]
theorem En.node : En nodeD 1 := En.pair En.gd En.nat
theorem ix0c {x : PyData} {xs : List PyData} : ixD (.list (x :: xs)) (.int 0) = .ok x := by
  have : L2.atI (x :: xs) 0 = some x := by
    unfold L2.atI L2.ixN
    rw [if_pos (Int.le_refl 0), if_pos (by simp)]
    rfl
  show (match L2.atI (x :: xs) 0 with | some d => R.ok d | none => .bad) = _
  rw [this]
theorem sl1c {x : PyData} {xs : List PyData} : slD (.list (x :: xs)) (some 1) none = .ok (.list xs) := by
  show R.ok (PyData.list (cutL (x :: xs) (some 1) none)) = _
  have : cutL (x :: xs) (some 1) none = xs := by
    unfold cutL
    simp [HT.sIx]
  rw [this]
def lcKn : C := .lc (.var 9) (.itm (.sl (.cst (.str "abcd")) .nil (.cons (.idx (.var 0) (.cst (.int 0))) .nil))) .nil (.tup (.cons (.var 9) (.cons (.call "_law_own" (.cons (.var 0) (.cons (.var 2) (.cons (.var 9) .nil)))) .nil)))
def lcL0 : C := .lc (.var 10) (.itm (.call "_law_split" (.cons (.var 1) (.cons (.var 3) (.cons (.sl (.cst (.str "abcd")) .nil (.cons (.idx (.var 0) (.cst (.int 0))) .nil)) (.cons (.cst (.str "points")) .nil)))))) .nil (.tup (.cons (.var 10) (.cons (.cst (.int 0)) .nil)))
def lcPt : C := .lc (.var 10) (.itm (.var 8)) .nil (.tup (.cons (.var 10) (.cons (.var 7) .nil)))
def tbCond : C := .cmp .ne (.var 5) (.lst .nil)
def tbSp : C := (.seq (.asg 8 false (.call "_law_split" (.cons (.var 1) (.cons (.var 3) (.cons (.var 6) (.cons (.idx (.idx (.var 1) (.cst (.int 2))) (.var 7)) .nil)))))) (.seq (.asg 7 false (.ife (.band (.cons (.cmp .gt (.bi .len (.cons (.var 8) .nil)) (.cst (.int 1))) (.cons (.cmp .eq (.idx (.var 1) (.cst (.int 3))) (.cst (.str "anew"))) .nil))) (.cst (.int 0)) (.bin .add (.var 7) (.cst (.int 1))))) (.seq (.asg 5 false (.bin .add lcPt (.var 5))) .skip)))
def tbB : C := (.seq (.unp (.tup (.cons (.var 6) (.cons (.var 7) .nil))) (.idx (.var 5) (.cst (.int 0)))) (.seq (.asg 5 false (.sl (.var 5) (.cons (.cst (.int 1)) .nil) .nil)) (.seq (.iff (.bor (.cons (.cmp .eq (.bi .len (.cons (.var 6) .nil)) (.cst (.int 1))) (.cons (.cmp .eq (.var 7) (.bi .len (.cons (.idx (.var 1) (.cst (.int 2))) .nil))) .nil))) (.seq (.asg 4 false (.bin .add (.var 4) (.ife (.cmp .eq (.idx (.var 1) (.cst (.int 4))) (.cst (.str "shared"))) (.lst (.cons (.var 6) .nil)) (.bi .list (.cons (.var 6) .nil))))) .skip) tbSp) .skip)))
theorem ltable_term : b__law_table = .seq (.asg 3 false (.bi .dict (.cons lcKn .nil))) (.seq (.par (.cons (.var 4) (.cons (.var 5) .nil)) [false, false] (.cons (.lst .nil) (.cons lcL0 .nil))) (.seq (.while_ tbCond tbB) (.seq (.ret (.bi .tuple (.cons (.var 4) .nil))) .skip))) := rfl
/-! the measure -/
def phi (W : Nat) (e : List Sd × Nat) : Nat := (W + 1) * (2 * e.1.length - 1) - e.2
theorem w_step (w m : Nat) (h : 1 ≤ m) : w * (2 * m - 1) + w = w * (2 * m) := by
  have : 2 * m - 1 + 1 = 2 * m := by omega
  calc w * (2 * m - 1) + w = w * (2 * m - 1 + 1) := by rw [Nat.mul_add, Nat.mul_one]
    _ = _ := by rw [this]
theorem w_sum (w : Nat) : ∀ {l : List (List Sd)}, (∀ p ∈ l, p ≠ []) → (l.map fun p => w * (2 * p.length - 1)).sum + w * l.length = w * (2 * (l.map List.length).sum)
  | [], _ => rfl
  | p :: l, h => by
    have ih := w_sum w (l := l) fun q hq => h q (List.mem_cons_of_mem _ hq)
    have hp := w_step w p.length (List.length_pos_iff.mpr (h p (List.mem_cons_self ..)))
    rw [List.map_cons, List.map_cons, List.sum_cons, List.sum_cons, List.length_cons, Nat.mul_add 2, Nat.mul_add w, Nat.mul_add w, Nat.mul_one]
    omega
theorem phi_le (W k : Nat) : ∀ l : List (List Sd), ((l.map fun p => (p, k)).map (phi W)).sum ≤ (l.map fun p => (W + 1) * (2 * p.length - 1)).sum
  | [] => Nat.le_refl _
  | p :: l => by
    have := phi_le W k l
    rw [List.map_cons, List.map_cons, List.map_cons, List.sum_cons, List.sum_cons]
    have h : phi W (p, k) ≤ (W + 1) * (2 * p.length - 1) := Nat.sub_le _ _
    omega
theorem phi_pos {W : Nat} {e : List Sd × Nat} (h1 : e.1 ≠ []) (h2 : e.2 ≤ W) : 1 ≤ phi W e := by
  have hp : 1 ≤ e.1.length := List.length_pos_iff.mpr h1
  have := w_step (W + 1) e.1.length hp
  have h3 : (W + 1) * 2 ≤ (W + 1) * (2 * e.1.length) := Nat.mul_le_mul_left _ (by omega)
  unfold phi
  omega
theorem phi_split (b : Book) {g : List Sd} (hg : g ≠ []) (f : Sd → Int) {k : Nat} (hk : k < b.ws.length) : (((splitS g f).map fun p => (p, nextK b (splitS g f) k)).map (phi b.ws.length)).sum < phi b.ws.length (g, k) := by
  have h0 := split_sum g f
  have h1 := w_sum (b.ws.length + 1) (l := splitS g f) fun p hp => (split_mem hp).1
  have h2 := phi_le b.ws.length (nextK b (splitS g f) k) (splitS g f)
  have hp : 1 ≤ g.length := List.length_pos_iff.mpr hg
  have h3 := w_step (b.ws.length + 1) g.length hp
  rw [h0] at h1
  by_cases hc : 2 ≤ (splitS g f).length
  · have h4 : (b.ws.length + 1) * 2 ≤ (b.ws.length + 1) * (splitS g f).length := Nat.mul_le_mul_left _ hc
    show _ < (b.ws.length + 1) * (2 * g.length - 1) - k
    omega
  · have hn : nextK b (splitS g f) k = k + 1 := by
      unfold nextK
      have : decide (1 < (splitS g f).length) = false := decide_eq_false (by omega)
      rw [this, Bool.and_false]
    cases hs : splitS g f with
    | nil =>
      show 0 < _
      have := phi_pos (W := b.ws.length) (e := (g, k)) hg (by show k ≤ _; omega)
      omega
    | cons p l =>
      rw [hs] at hc hn
      have hl : l = [] := by
        cases l with
        | nil => rfl
        | cons q l => simp at hc
      subst hl
      rw [hs] at h0
      have h5 : p.length = g.length := by simpa using h0
      rw [hn]
      show (phi b.ws.length (p, k + 1)) + 0 < (b.ws.length + 1) * (2 * g.length - 1) - k
      show (b.ws.length + 1) * (2 * p.length - 1) - (k + 1) + 0 < _
      rw [h5]
      have h6 : (b.ws.length + 1) * 2 ≤ (b.ws.length + 1) * (2 * g.length) := Nat.mul_le_mul_left _ (by omega)
      omega
structure NodeOk (ss : List Sd) (W : Nat) (e : List Sd × Nat) : Prop where
  ne : e.1 ≠ []
  len : e.1.length ≤ 4
  inS : ∀ s ∈ e.1, s ∈ ss
  le : e.2 ≤ W
theorem sum_len_le {W : Nat} {ss : List Sd} : ∀ {left : List (List Sd × Nat)}, (∀ e ∈ left, NodeOk ss W e) → left.length ≤ (left.map (phi W)).sum
  | [], _ => Nat.le_refl _
  | e :: l, h => by
    have := sum_len_le (l.forall_mem_cons.mp h).2
    have h1 := (l.forall_mem_cons.mp h).1
    have h2 := phi_pos h1.ne h1.le
    rw [List.map_cons, List.sum_cons, List.length_cons]
    omega
/-! one turn -/
theorem tb_end (S : Sig) {bk : PyData} {b : Book} (hb : Bt bk b) (se rs kn : PyData) (g : List Sd) (k : Nat) (hl : g.length ≤ 4) (h : g.length = 1 ∨ k = b.ws.length) (found : List (List Sd)) (hf : found.length ≤ 1000) (leftD : List PyData) (x6 x7 x8 x9 x10 : Option (Bool × PyData)) :
    ex S 100 tbB [some (false, se), some (false, bk), some (false, rs), some (false, kn), some (false, .list (found.map gd)), some (false, .list (nodeD (g, k) :: leftD)), x6, x7, x8, x9, x10] =
    .nx [some (false, se), some (false, bk), some (false, rs), some (false, kn), some (false, .list ((found ++ (match b.drawn with | true => g.map fun s => [s] | false => [g])).map gd)), some (false, .list leftD), some (false, gd g), some (false, .int k), x8, x9, x10] := by
  have e1 := len_gd (g := g) (by omega)
  have e2 := list_gd (g := g) (by omega)
  have e3 := eq_shared b.drawn
  have hfl : ∀ ds : List PyData, ds.length ≤ 1000 → decide ((found.map gd).length + ds.length ≤ lineN) = true := fun ds hd => le_line (by rw [List.length_map]; omega)
  have f1 := hfl [gd g] (by simp)
  have f2 := hfl (g.map sd) (by simp; omega)
  have e4 : (g.map fun s => [s]).map gd = g.map sd := by rw [List.map_map]; rfl
  rw [List.map_append, show nodeD (g, k) = .tuple [gd g, .int k] from rfl]
  cases hd : b.drawn with
  | true =>
    rw [hd] at e3
    rw [e4]
    have f2 := of_decide_eq_true f2
    generalize g.map sd = gs at e2 f2 ⊢
    generalize gd g = gD at e1 e2 ⊢
    generalize found.map gd = fD at f2 ⊢
    generalize tbSp = sp
    by_cases h1 : g.length = 1
    · rw [h1] at e1
      simp [tbB, ex, ev, evs, evOr, evO, optInt, ix0c, sl1c, bindT, bindTs, R.chk, e1, eqD_int, hb.fin, hd, e3, e2, f2]
    · have h2 := h.resolve_left h1
      have h1' : ¬ (g.length : Int) = 1 := by omega
      simp [tbB, ex, ev, evs, evOr, evO, optInt, ix0c, sl1c, bindT, bindTs, R.chk, e1, eqD_int, h1', hb.ws, h2, hb.fin, hd, e3, e2, f2]
  | false =>
    rw [hd] at e3
    have f1 := of_decide_eq_true f1
    show _ = SR.nx [_, _, _, _, some (false, .list (found.map gd ++ [gd g])), _, _, _, _, _, _]
    generalize gd g = gD at e1 e2 f1 ⊢
    generalize found.map gd = fD at f1 ⊢
    have f1 : fD.length + 1 ≤ lineN := f1
    generalize tbSp = sp
    by_cases h1 : g.length = 1
    · rw [h1] at e1
      simp [tbB, ex, ev, evs, evOr, evO, optInt, ix0c, sl1c, bindT, bindTs, R.chk, e1, eqD_int, hb.fin, hd, e3, e2, f1, le_line]
    · have h2 := h.resolve_left h1
      have h1' : ¬ (g.length : Int) = 1 := by omega
      simp [tbB, ex, ev, evs, evOr, evO, optInt, ix0c, sl1c, bindT, bindTs, R.chk, e1, eqD_int, h1', hb.ws, h2, hb.fin, hd, e3, e2, f1, le_line]
theorem ev_pt (S : Sig) (parts : List (List Sd)) (k : Nat) (x0 x1 x2 x3 x4 x5 x6 x9 x10 : Option (Bool × PyData)) : ev S true lcPt [x0, x1, x2, x3, x4, x5, x6, some (false, .int k), some (false, .list (parts.map gd)), x9, x10] = .ok (.list ((parts.map fun p => (p, k)).map nodeD)) := by
  unfold lcPt
  rw [ev_lc (xs := parts) gd (fun p => some (nodeD (p, k))) ?_ fun p _ => ?_, filterMap_some']
  · rw [List.map_map]; rfl
  · generalize parts.map gd = z
    simp [its, ev, itemsK]
  · generalize parts.map gd = z
    simp [lcS, ev, evs, evC, bindT, tgVars, wipeE, R.chk, R.nox, le_line]
theorem tb_split (S : Sig) {bk : PyData} {b : Book} (hb : Bt bk b) (se rs kn : PyData) (g : List Sd) (k : Nat) (hl : g.length ≤ 4) (h : g.length ≠ 1) (wd : Wd) (hw : b.ws[k]? = some wd) (f : Sd → Int) (hs : S.cl "_law_split" [bk, kn, gd g, encW wd] = .ok (.list ((splitS g f).map gd))) (fD : PyData) (leftD : List PyData) (hll : leftD.length ≤ 1000) (x6 x7 x8 x9 x10 : Option (Bool × PyData)) :
    ex S 100 tbB [some (false, se), some (false, bk), some (false, rs), some (false, kn), some (false, fD), some (false, .list (nodeD (g, k) :: leftD)), x6, x7, x8, x9, x10] =
    .nx [some (false, se), some (false, bk), some (false, rs), some (false, kn), some (false, fD), some (false, .list (((splitS g f).map fun p => (p, nextK b (splitS g f) k)).map nodeD ++ leftD)), some (false, gd g), some (false, .int (nextK b (splitS g f) k : Nat)), some (false, .list ((splitS g f).map gd)), x9, x10] := by
  have e1 := len_gd (g := g) (by omega)
  have hk := (List.getElem?_eq_some_iff.mp hw).1
  have h1' : ¬ (g.length : Int) = 1 := by omega
  have hk' : ¬ (k : Int) = (b.ws.length : Int) := by omega
  have e2 := ix_nat encW b.ws k wd hw
  have e3 := eq_mode b.anew
  have hsl := split_le g f
  have e5 := fun x0 x1 x2 x3 x4 x5 x6 x9 x10 => ev_pt S (splitS g f) (nextK b (splitS g f) k) x0 x1 x2 x3 x4 x5 x6 x9 x10
  have e6 : ((((splitS g f).map fun p => (p, nextK b (splitS g f) k)).map nodeD).length + leftD.length ≤ lineN) := Nat.le_trans (show _ ≤ 1000000 by rw [List.length_map, List.length_map]; omega) (by decide)
  have e7 := nextK_int b (splitS g f) k
  have e8 : ((splitS g f).map gd).length = (splitS g f).length := List.length_map ..
  rw [show nodeD (g, k) = .tuple [gd g, .int k] from rfl]
  generalize ((splitS g f).map fun p => (p, nextK b (splitS g f) k)).map nodeD = nd at e5 e6 ⊢
  generalize hp : nextK b (splitS g f) k = k' at e5 e7 ⊢
  generalize (splitS g f).map gd = pD at hs e5 e8 ⊢
  generalize hc : (splitS g f).length = c at e7 e8
  generalize gd g = gD at e1 hs ⊢
  have f1 : (decide (1 < c) = true → (1 : Int) < (pD.length : Int)) ∧ (decide (1 < c) = false → ¬ (1 : Int) < (pD.length : Int)) := ⟨fun h => by have := of_decide_eq_true h; omega, fun h => by have := of_decide_eq_false h; omega⟩
  cases h1 : decide (1 < c) with
  | true =>
    have f2 := f1.1 h1
    cases ha : b.anew with
    | true =>
      rw [ha] at e3
      rw [ha, h1] at e7
      simp at e7
      have e7 : (k' : Int) = 0 := by omega
      rw [e7] at e5 ⊢
      unfold tbB tbSp
      generalize lcPt = L at e5 ⊢
      simp [tbB, tbSp, ex, ev, evs, evAnd, evOr, evO, optInt, ix0c, sl1c, bindT, bindTs, R.chk, e1, eqD_int, h1', hk', hb.ws, hb.mode, e2, hs, f2, ha, e3, e5, e6]
    | false =>
      rw [ha] at e3
      rw [ha, h1] at e7
      simp at e7
      rw [e7] at e5 ⊢
      unfold tbB tbSp
      generalize lcPt = L at e5 ⊢
      simp [tbB, tbSp, ex, ev, evs, evAnd, evOr, evO, optInt, ix0c, sl1c, bindT, bindTs, R.chk, e1, eqD_int, h1', hk', hb.ws, hb.mode, e2, hs, f2, ha, e3, e5, e6]
  | false =>
    have f2 := f1.2 h1
    rw [h1, Bool.and_false] at e7
    simp at e7
    rw [e7] at e5 ⊢
    unfold tbB tbSp
    generalize lcPt = L at e5 ⊢
    simp [tbB, tbSp, ex, ev, evs, evAnd, evOr, evO, optInt, ix0c, sl1c, bindT, bindTs, R.chk, e1, eqD_int, h1', hk', hb.ws, hb.mode, e2, hs, f2, e5, e6]
theorem ask_more {b : Book} {rows : List Row} (hW : b.ws.length ≤ 4) {g : List Sd} {k : Nat} {wd : Wd} (hl : g.length ≤ 4) (h : g.length ≠ 1) (hw : b.ws[k]? = some wd) : askS b rows 21 g k = ((splitS g (cntS b.w b.d rows g wd)).map fun p => (p, nextK b (splitS g (cntS b.w b.d rows g wd)) k)).flatMap fun e => askS b rows 21 e.1 e.2 := by
  have hk := (List.getElem?_eq_some_iff.mp hw).1
  rw [askS_some h hw, List.flatMap_map]
  refine flatMap_congr' fun p hp => ?_
  have h1 := mu_next (b := b) hk hp
  have h2 : mu b.ws.length g k ≤ 20 := by
    have : (b.ws.length + 1) * g.length ≤ 5 * 4 := Nat.mul_le_mul (by omega) hl
    unfold mu
    omega
  exact ask_fuel 20 21 (nextK_le hk) (by omega) (by omega)
theorem ask_end {b : Book} {rows : List Row} {g : List Sd} {k : Nat} (h : g.length = 1 ∨ k = b.ws.length) : askS b rows 21 g k = (match b.drawn with | true => g.map fun s => [s] | false => [g]) := by
  by_cases hg : g.length = 1
  · rw [askS_one hg]
    match g, hg with
    | [s], _ => cases b.drawn <;> rfl
  · have hk := h.resolve_left hg
    rw [askS_none hg (List.getElem?_eq_none_iff.mpr (by omega))]
    all_goals (cases b.drawn <;> rfl)
theorem tb_loop (S : Sig) {bk : PyData} {b : Book} (hb : Bt bk b) (hW : b.ws.length ≤ 4) (se rs kn : PyData) (ss : List Sd) (rows : List Row) (hsp : ∀ (g : List Sd) (wd : Wd), (∀ s ∈ g, s ∈ ss) → g.length ≤ 4 → S.cl "_law_split" [bk, kn, gd g, encW wd] = .ok (.list ((splitS g (cntS b.w b.d rows g wd)).map gd))) :
    ∀ (fuel : Nat) (left : List (List Sd × Nat)) (found : List (List Sd)) (x6 x7 x8 x9 x10 : Option (Bool × PyData)), fuel ≤ 100 → (left.map (phi b.ws.length)).sum < fuel → (∀ e ∈ left, NodeOk ss b.ws.length e) → found.length + (left.flatMap fun e => askS b rows 21 e.1 e.2).length ≤ 1000 → ∃ y6 y7 y8,
    whileGo (fun env => (ev S true tbCond env).bind toBool) (ex S 100 tbB) fuel [some (false, se), some (false, bk), some (false, rs), some (false, kn), some (false, .list (found.map gd)), some (false, .list (left.map nodeD)), x6, x7, x8, x9, x10] =
    .nx [some (false, se), some (false, bk), some (false, rs), some (false, kn), some (false, .list ((found ++ left.flatMap fun e => askS b rows 21 e.1 e.2).map gd)), some (false, .list []), y6, y7, y8, x9, x10]
  | 0, _, _, _, _, _, _, _, _, h, _, _ => absurd h (Nat.not_lt_zero _)
  | fuel + 1, [], found, x6, x7, x8, x9, x10, _, _, _, _ => by
    refine ⟨x6, x7, x8, ?_⟩
    have e0 : eqD (.list []) (.list []) = .ok true := by kernel_rfl
    rw [whileGo, List.flatMap_nil, List.append_nil]
    generalize found.map gd = fD
    simp [tbCond, ev, evs, R.chk, le_line, e0]
  | fuel + 1, (g, k) :: left, found, x6, x7, x8, x9, x10, hf, hs, hn, hlen => by
    have hn0 := (left.forall_mem_cons.mp hn).1
    have hn1 := (left.forall_mem_cons.mp hn).2
    have hp := phi_pos hn0.ne hn0.le
    rw [List.map_cons, List.sum_cons] at hs
    have hll := sum_len_le hn1
    have e0 := En.node.list.eqD (by decide) ((g, k) :: left) []
    have e0 : eqD (.list (nodeD (g, k) :: left.map nodeD)) (.list []) = .ok false := e0
    have ec : ((ev S true tbCond [some (false, se), some (false, bk), some (false, rs), some (false, kn), some (false, .list (found.map gd)), some (false, .list (nodeD (g, k) :: left.map nodeD)), x6, x7, x8, x9, x10]).bind Rf.toBool) = .ok true := by
      generalize found.map gd = fD
      generalize nodeD (g, k) :: left.map nodeD = lD at e0 ⊢
      simp [tbCond, ev, evs, R.chk, le_line, e0]
    rw [List.flatMap_cons, List.length_append] at hlen
    rw [whileGo, List.map_cons, ec, R.toS_ok, List.flatMap_cons]
    by_cases h : g.length = 1 ∨ k = b.ws.length
    · have e1 := tb_end S hb se rs kn g k hn0.len h found (by omega) (left.map nodeD) x6 x7 x8 x9 x10
      rw [← ask_end (rows := rows) h] at e1
      obtain ⟨y6, y7, y8, e2⟩ := tb_loop S hb hW se rs kn ss rows hsp fuel left (found ++ askS b rows 21 g k) (some (false, gd g)) (some (false, .int k)) x8 x9 x10 (by omega) (by omega) hn1 (by rw [List.length_append]; dsimp only at hlen; omega)
      refine ⟨y6, y7, y8, ?_⟩
      rw [e1, turn_nx, e2, List.append_assoc]
    · have hg : g.length ≠ 1 := fun z => h (.inl z)
      have hk : k < b.ws.length := by have h1 := hn0.le; have h2 : k ≠ b.ws.length := fun z => h (.inr z); dsimp only at h1; omega
      have hw : b.ws[k]? = some b.ws[k] := List.getElem?_eq_getElem hk
      have e1 := tb_split S hb se rs kn g k hn0.len hg _ hw (cntS b.w b.d rows g b.ws[k]) (hsp g _ hn0.inS hn0.len) (.list (found.map gd)) (left.map nodeD) (by rw [List.length_map]; omega) x6 x7 x8 x9 x10
      rw [← List.map_append] at e1
      have e3 := ask_more (rows := rows) hW hn0.len hg hw
      have e4 := phi_split b hn0.ne (cntS b.w b.d rows g b.ws[k]) hk
      generalize hsp' : splitS g (cntS b.w b.d rows g b.ws[k]) = parts at e1 e3 e4
      dsimp only at e3 e4
      have hnode : ∀ e ∈ (parts.map fun p => (p, nextK b parts k)) ++ left, NodeOk ss b.ws.length e := fun e he => by
        rcases List.mem_append.mp he with he | he
        · obtain ⟨p, hp, rfl⟩ := List.mem_map.mp he
          rw [← hsp'] at hp
          have h1 := split_mem hp
          have h2 := split_len hp
          have h3 := hn0.len
          exact ⟨h1.1, by dsimp only at h3 ⊢; omega, fun s hs => hn0.inS s (h1.2.1 s hs), nextK_le hk⟩
        · exact hn1 e he
      obtain ⟨y6, y7, y8, e2⟩ := tb_loop S hb hW se rs kn ss rows hsp fuel ((parts.map fun p => (p, nextK b parts k)) ++ left) found (some (false, gd g)) (some (false, .int (nextK b parts k : Nat))) (some (false, .list (parts.map gd))) x9 x10 (by omega) (by rw [List.map_append, List.sum_append]; omega) hnode (by rw [List.flatMap_append, ← e3, List.length_append]; exact hlen)
      refine ⟨y6, y7, y8, ?_⟩
      rw [e1, turn_nx, e2, List.flatMap_append, ← e3]
/-! the law's split, the law's table -/
theorem M_law_split : M.tab "_law_split" = some d__law_split := by kernel_rfl
abbrev knD (kd : Kd) (rows : List Row) : PyData := .dict (kd.ss.map fun s => (sd s, .list ((ownR s rows).map encL)))
theorem cd_law_split (kd : Kd) {b : Book} (hb : BookOk b) {rows : List Row} (hr : Irr rows) (n : Nat) (g : List Sd) (wd : Wd) (hg : ∀ s ∈ g, s ∈ kd.ss) (hl : g.length ≤ 60) : cM (n + 2) "_law_split" [encB b, knD kd rows, gd g, encW wd] = .ok (.list ((splitS g (cntS b.w b.d rows g wd)).map gd)) := by
  show cd M (n + 2) _ _ = _
  rw [cd_succ M M_law_split rfl]
  show (ex (Sg M (n + 1)) 100 b__law_split (startE 7 _)).fin = _
  rw [ex_split (Sg M (n + 1)) (encB b) (knD kd rows) (encW wd) g hl (cntS b.w b.d rows g wd) (fun s => .list ((ownR s rows).map encL)) (fun s hs => dict_ix kd _ s (hg s hs)) fun s hs => ?_]
  · rfl
  · rw [← cnt_same b.w b.d hr g s hs wd]
    exact cd_law_count n hb.bs (ownR s rows) g wd
theorem ex_ltable (S : Sig) {bk : PyData} {b : Book} (hb : Bt bk b) (hW : b.ws.length ≤ 4) (kd : Kd) (x rs : PyData) (rows : List Row) (ho : ∀ s, S.cl "_law_own" [.tuple [.int kd.m, .int kd.l, x], rs, sd s] = .ok (.list ((ownR s rows).map encL)))
    (hsp : ∀ (g : List Sd) (wd : Wd), (∀ s ∈ g, s ∈ kd.ss) → g.length ≤ 4 → S.cl "_law_split" [bk, knD kd rows, gd g, encW wd] = .ok (.list ((splitS g (cntS b.w b.d rows g wd)).map gd))) :
    ex S 100 b__law_table (startE 11 [.tuple [.int kd.m, .int kd.l, x], bk, rs]) = .rt (encT (((splitS kd.ss (cntS b.w b.d rows kd.ss .points)).map fun p => (p, 0)).flatMap fun e => askS b rows 21 e.1 e.2)) := by
  have hs := ss_len kd
  have e0 := sl_abcd kd
  have i0 : itemsK (gd kd.ss) = .ok (kd.ss.map sd) := items_grp kd.ss (by omega)
  have e1 : ev S true lcKn [some (false, .tuple [.int kd.m, .int kd.l, x]), some (false, bk), some (false, rs), none, none, none, none, none, none, none, none] = .ok (.list (kd.ss.map fun s => .tuple [sd s, .list ((ownR s rows).map encL)])) := by
    unfold lcKn
    rw [ev_lc (xs := kd.ss) sd (fun s => some (.tuple [sd s, .list ((ownR s rows).map encL)])) ?_ fun s _ => ?_, filterMap_some']
    · generalize gd kd.ss = G at e0 i0
      simp [its, ev, evs, evO, optInt, ixD, L2.atI, L2.ixN, e0, i0]
    · have := ho s
      generalize (ownR s rows).map encL = z at this ⊢
      generalize PyData.tuple [.int kd.m, .int kd.l, x] = se at this ⊢
      simp [lcS, ev, evs, evC, bindT, tgVars, wipeE, R.chk, R.nox, this, le_line]
  have e2 : dictD (.list (kd.ss.map fun s => PyData.tuple [sd s, .list ((ownR s rows).map encL)])) = .ok (knD kd rows) := dict_ok kd fun s => .list ((ownR s rows).map encL)
  have hp := hsp kd.ss .points (fun s h => h) hs
  have e3 : ev S false lcL0 [some (false, .tuple [.int kd.m, .int kd.l, x]), some (false, bk), some (false, rs), some (false, knD kd rows), none, none, none, none, none, none, none] = .ok (.list (((splitS kd.ss (cntS b.w b.d rows kd.ss .points)).map fun p => (p, 0)).map nodeD)) := by
    unfold lcL0
    rw [ev_lc (xs := splitS kd.ss (cntS b.w b.d rows kd.ss .points)) gd (fun p => some (nodeD (p, 0))) ?_ fun p _ => ?_, filterMap_some']
    · rw [List.map_map]; rfl
    · have hp : S.cl "_law_split" [bk, knD kd rows, gd kd.ss, .str "points"] = _ := hp
      generalize (splitS kd.ss (cntS b.w b.d rows kd.ss .points)).map gd = z at hp ⊢
      generalize knD kd rows = K at hp ⊢
      generalize gd kd.ss = G at e0 hp
      simp [its, ev, evs, evO, optInt, ixD, L2.atI, L2.ixN, itemsK, e0, hp]
    · generalize knD kd rows = K
      simp [lcS, ev, evs, evC, bindT, tgVars, wipeE, R.chk, R.nox, le_line]
  have hsum := split_sum kd.ss (cntS b.w b.d rows kd.ss .points)
  have hmem := fun p => split_mem (g := kd.ss) (f := cntS b.w b.d rows kd.ss .points) (p := p)
  have hle := fun p => split_len (g := kd.ss) (f := cntS b.w b.d rows kd.ss .points) (p := p)
  generalize splitS kd.ss (cntS b.w b.d rows kd.ss .points) = parts at e3 hsum hmem hle ⊢
  have hw := w_sum (b.ws.length + 1) (l := parts) fun p hp => (hmem p hp).1
  have hph := phi_le b.ws.length 0 parts
  rw [hsum] at hw
  have hm : (b.ws.length + 1) * (2 * kd.ss.length) ≤ 5 * 8 := Nat.mul_le_mul (by omega) (by omega)
  have hfl : ((parts.map fun p => (p, 0)).flatMap fun e => askS b rows 21 e.1 e.2).length ≤ 1000 := by
    rw [List.flatMap_map]
    have := flat_len (A := fun p => askS b rows 21 p 0) (l := parts) fun p hp => ask_len 21 (hmem p hp).1
    rw [hsum] at this
    show (parts.flatMap fun p => askS b rows 21 p 0).length ≤ 1000
    omega
  obtain ⟨y6, y7, y8, e4⟩ := tb_loop S hb hW (.tuple [.int kd.m, .int kd.l, x]) rs (knD kd rows) kd.ss rows hsp 100 (parts.map fun p => (p, 0)) [] none none none none none (Nat.le_refl _) (by omega) (fun e he => by
      obtain ⟨p, hp, rfl⟩ := List.mem_map.mp he
      have := hle p hp
      exact ⟨(hmem p hp).1, by dsimp only; omega, (hmem p hp).2.1, Nat.zero_le _⟩) (by simpa using hfl)
  rw [List.nil_append] at e4
  have e5 : ex S 100 (.while_ tbCond tbB) [some (false, .tuple [.int kd.m, .int kd.l, x]), some (false, bk), some (false, rs), some (false, knD kd rows), some (false, .list []), some (false, .list ((parts.map fun p => (p, 0)).map nodeD)), none, none, none, none, none] = _ := e4
  rw [ltable_term]
  unfold encT
  generalize ((parts.map fun p => (p, 0)).flatMap fun e => askS b rows 21 e.1 e.2).map gd = out at e5 ⊢
  generalize (parts.map fun p => (p, 0)).map nodeD = lD at e3 e5
  generalize hK : knD kd rows = K at e3 e5 e2
  generalize hL : (kd.ss.map fun s => PyData.tuple [sd s, .list ((ownR s rows).map encL)]) = KL at e1 e2
  generalize PyData.tuple [.int kd.m, .int kd.l, x] = se at e1 e3 e5 ⊢
  generalize lcKn = L1 at e1 ⊢
  generalize lcL0 = L2 at e3 ⊢
  generalize C.while_ tbCond tbB = W at e5 ⊢
  have e2' : biD .dict [.list KL] = .ok K := e2
  simp [ex, ev, evs, evPar, putPar, startE, e1, e2', R.chk, le_line, e3, e5]
theorem M_law_table : M.tab "_law_table" = some d__law_table := by kernel_rfl
theorem cd_law_table (kd : Kd) {b : Book} (hb : BookOk b) (os : List (Option (Int × Int))) (n : Nat) (x : PyData) : cM (n + 3) "_law_table" [.tuple [.int kd.m, .int kd.l, x], encB b, .tuple (os.map encO)] = .ok (encT (tabO kd b os)) := by
  show cd M (n + 3) _ _ = _
  rw [cd_succ M M_law_table rfl]
  show (ex (Sg M (n + 2)) 100 b__law_table (startE 11 _)).fin = _
  rw [ex_ltable (Sg M (n + 2)) (bt_enc b) hb.l kd x _ (rowsOf kd.mt os) (fun s => cd_law_own (n + 1) (cd_lm n kd x) (by have := mt_len kd; omega) os s) fun g wd hg hl => cd_law_split kd hb (rows_irr kd os) n g wd hg (by omega)]
  unfold tabO tableS
  rw [List.flatMap_map]
  rfl
theorem cd_law_tableS (kd : Kd) {b : Book} (hb : BookOk b) (ss rs : List (Int × Int)) (n : Nat) : cM (n + 3) "_law_table" [season kd.m kd.l ss, encB b, .tuple (rs.map P2)] = .ok (encT (tabR kd b rs)) := by
  have := cd_law_table kd hb (rs.map some) n (.tuple (ss.map P2))
  rw [some_enc] at this
  exact this
end Cr

set_option Elab.async false
set_option linter.all false
set_option maxRecDepth 100000
set_option maxHeartbeats 4000000
/-! Core texts, part 19: tables asked, places. -/
namespace Cr
open Rf PySem

def okI (r : R PyData) (i : Int) : Bool := match r with | .ok (.int j) => decide (j = i) | _ => false
def okB (r : R PyData) (b : Bool) : Bool := match r with | .ok (.bool c) => decide (c = b) | _ => false
def isX (r : R PyData) (x : Str) : Bool := match r with | .exc c => decide (c = x) | _ => false
theorem okI_eq {r : R PyData} {i : Int} (h : okI r i = true) : r = .ok (.int i) := by
  unfold okI at h
  split at h
  · rw [of_decide_eq_true h]
  · cases h
theorem okB_eq {r : R PyData} {i : Bool} (h : okB r i = true) : r = .ok (.bool i) := by
  unfold okB at h
  split at h
  · rw [of_decide_eq_true h]
  · cases h
theorem isX_eq {r : R PyData} {i : Str} (h : isX r i = true) : r = .exc i := by
  unfold isX at h
  split at h
  · rw [of_decide_eq_true h]
  · cases h
/-- the place of a side -/
def placeS (t : List (List Sd)) (s : Sd) : Int := ((1 + ((t.takeWhile fun g => !decide (s ∈ g)).map List.length).sum : Nat) : Int)
theorem all_find (kd : Kd) (n : Nat) : (kd.ts.all fun t => kd.ss.all fun s => okI (cM (n + 1) "find_place" [encT t, sd s]) (placeS t s)) = true := by cases kd <;> kernel_rfl
theorem all_lplace (kd : Kd) (n : Nat) : (kd.ts.all fun t => kd.ss.all fun s => okI (cM (n + 1) "_law_place" [encT t, sd s]) (placeS t s)) = true := by cases kd <;> kernel_rfl
theorem all_ht (kd : Kd) (n : Nat) (x : PyData) : (kd.ts.all fun t => okB (cM (n + 3) "has_table" [.tuple [.int kd.m, .int kd.l, x], encT t]) true) = true := by cases kd <;> kernel_rfl
theorem all_cs (kd : Kd) (n : Nat) (x : PyData) : (kd.ss.all fun s => match cM (n + 2) "check_side" [.tuple [.int kd.m, .int kd.l, x], sd s] with | .ok .none => true | _ => false) = true := by cases kd <;> kernel_rfl
section
variable {kd : Kd} {t : List (List Sd)} {s : Sd} {ss : List (Int × Int)}
theorem cd_find_place (n : Nat) (ht : t ∈ kd.ts) (hs : s ∈ kd.ss) : cM (n + 1) "find_place" [encT t, sd s] = .ok (.int (placeS t s)) :=
  okI_eq (List.all_eq_true.mp (List.all_eq_true.mp (all_find kd n) t ht) s hs)
theorem cd_law_place (n : Nat) (ht : t ∈ kd.ts) (hs : s ∈ kd.ss) : cM (n + 1) "_law_place" [encT t, sd s] = .ok (.int (placeS t s)) :=
  okI_eq (List.all_eq_true.mp (List.all_eq_true.mp (all_lplace kd n) t ht) s hs)
theorem cd_has_table (n : Nat) (ht : t ∈ kd.ts) (x : PyData) : cM (n + 3) "has_table" [.tuple [.int kd.m, .int kd.l, x], encT t] = .ok (.bool true) :=
  okB_eq (List.all_eq_true.mp (all_ht kd n x) t ht)
theorem cd_check_side (n : Nat) (hs : s ∈ kd.ss) (x : PyData) : cM (n + 2) "check_side" [.tuple [.int kd.m, .int kd.l, x], sd s] = .ok .none := by
  have h := List.all_eq_true.mp (all_cs kd n x) s hs
  split at h
  · assumption
  · cases h
theorem M_check_table : M.tab "check_table" = some d_check_table := by kernel_rfl
theorem M_check_side : M.tab "check_side" = some d_check_side := by kernel_rfl
theorem M_is_table : M.tab "is_table" = some d_is_table := by kernel_rfl
theorem M_place_in : M.tab "place_in" = some d_place_in := by kernel_rfl
theorem check_table_of {n : Nat} {se v : PyData} (h : cM n "has_table" [se, v] = .ok (.bool true)) : cM (n + 1) "check_table" [se, v] = .ok .none := by
  show cd M (n + 1) _ _ = _
  rw [cd_succ M M_check_table rfl]
  show (ex (Sg M n) 100 b_check_table (startE 2 _)).fin = _
  have h := clM h
  generalize Sg M n = S at h ⊢
  simp [ex, ev, evs, startE, b_check_table, h]
theorem check_table_no {n : Nat} {se v : PyData} (h : cM n "has_table" [se, v] = .ok (.bool false)) : cM (n + 1) "check_table" [se, v] = .exc "InvalidTable" := by
  show cd M (n + 1) _ _ = _
  rw [cd_succ M M_check_table rfl]
  show (ex (Sg M n) 100 b_check_table (startE 2 _)).fin = _
  have h := clM h
  generalize Sg M n = S at h ⊢
  simp [ex, ev, evs, startE, b_check_table, h]
theorem cd_check_table (n : Nat) (ht : t ∈ kd.ts) (x : PyData) : cM (n + 4) "check_table" [.tuple [.int kd.m, .int kd.l, x], encT t] = .ok .none := check_table_of (cd_has_table n ht x)
/-- what are no tables -/
def badT (kd : Kd) : List PyData := [.none, .tuple [], .list [gd kd.ss], .tuple [gd (kd.ss ++ [0])], .tuple [gd kd.ss, .str ""], .tuple [gd kd.ss.reverse], .tuple [gd kd.ss.tail], .tuple [.str "a", gd kd.ss], .tuple [gd kd.ss, .none], gd kd.ss, .tuple [.str (grp kd.ss ++ "e")]]
theorem all_bt (kd : Kd) (n : Nat) (x : PyData) : ((badT kd).all fun v => okB (cM (n + 3) "has_table" [.tuple [.int kd.m, .int kd.l, x], v]) false) = true := by cases kd <;> kernel_rfl
theorem cd_has_table_no (n : Nat) {v : PyData} (hv : v ∈ badT kd) (x : PyData) : cM (n + 3) "has_table" [.tuple [.int kd.m, .int kd.l, x], v] = .ok (.bool false) := okB_eq (List.all_eq_true.mp (all_bt kd n x) v hv)
def badSd : List PyData := [.none, .str "", .str "e", .str "ab", .int 5, .list [.str "a"]]
theorem all_bs (kd : Kd) (n : Nat) (x : PyData) : (badSd.all fun v => isX (cM (n + 2) "check_side" [.tuple [.int kd.m, .int kd.l, x], v]) "InvalidSide") = true := by cases kd <;> kernel_rfl
theorem cd_check_side_no (n : Nat) {v : PyData} (hv : v ∈ badSd) (x : PyData) : cM (n + 2) "check_side" [.tuple [.int kd.m, .int kd.l, x], v] = .exc "InvalidSide" := isX_eq (List.all_eq_true.mp (all_bs kd n x) v hv)
theorem cd_is_table (n : Nat) (hse : Sea kd.m kd.l ss) {v : PyData} {r : Bool} (h : ∀ n, cM (n + 3) "has_table" [season kd.m kd.l ss, v] = .ok (.bool r)) : cM (n + 5) "is_table" [season kd.m kd.l ss, v] = .ok (.bool r) := by
  show cd M (n + 5) _ _ = _
  rw [cd_succ M M_is_table rfl]
  show (ex (Sg M (n + 4)) 100 b_is_table (startE 2 _)).fin = _
  have e1 : (Sg M (n + 4)).cl "check_season" [season kd.m kd.l ss] = .ok .none := cd_check_season MSA n hse
  have e2 : (Sg M (n + 4)).cl "has_table" [season kd.m kd.l ss, v] = .ok (.bool r) := h (n + 1)
  generalize Sg M (n + 4) = S at e1 e2 ⊢
  generalize season kd.m kd.l ss = se at e1 e2 ⊢
  simp [ex, ev, evs, startE, b_is_table, e1, e2]
theorem is_table_bs (n : Nat) {v y : PyData} (hv : v ∈ badS) : cM (n + 5) "is_table" [v, y] = .exc "InvalidSeason" := by
  show cd M (n + 5) _ _ = _
  rw [cd_succ M M_is_table rfl]
  show (ex (Sg M (n + 4)) 100 b_is_table (startE 2 _)).fin = _
  have e1 : (Sg M (n + 4)).cl "check_season" [v] = .exc "InvalidSeason" := cd_check_season_no n hv
  generalize Sg M (n + 4) = S at e1 ⊢
  simp [ex, ev, evs, startE, b_is_table, e1]
theorem place_in_bs (n : Nat) {v y z : PyData} (hv : v ∈ badS) : cM (n + 5) "place_in" [v, y, z] = .exc "InvalidSeason" := by
  show cd M (n + 5) _ _ = _
  rw [cd_succ M M_place_in rfl]
  show (ex (Sg M (n + 4)) 100 b_place_in (startE 3 _)).fin = _
  have e1 : (Sg M (n + 4)).cl "check_season" [v] = .exc "InvalidSeason" := cd_check_season_no n hv
  generalize Sg M (n + 4) = S at e1 ⊢
  simp [ex, ev, evs, startE, b_place_in, e1]
theorem place_in_bt (n : Nat) (hse : Sea kd.m kd.l ss) {v z : PyData} (hv : v ∈ badT kd) : cM (n + 5) "place_in" [season kd.m kd.l ss, v, z] = .exc "InvalidTable" := by
  show cd M (n + 5) _ _ = _
  rw [cd_succ M M_place_in rfl]
  show (ex (Sg M (n + 4)) 100 b_place_in (startE 3 _)).fin = _
  have e1 : (Sg M (n + 4)).cl "check_season" [season kd.m kd.l ss] = .ok .none := cd_check_season MSA n hse
  have e2 : (Sg M (n + 4)).cl "check_table" [season kd.m kd.l ss, v] = .exc "InvalidTable" := check_table_no (cd_has_table_no n hv _)
  generalize Sg M (n + 4) = S at e1 e2 ⊢
  generalize season kd.m kd.l ss = se at e1 e2 ⊢
  simp [ex, ev, evs, startE, b_place_in, e1, e2]
theorem place_in_bd (n : Nat) (hse : Sea kd.m kd.l ss) (ht : t ∈ kd.ts) {z : PyData} (hz : z ∈ badSd) : cM (n + 5) "place_in" [season kd.m kd.l ss, encT t, z] = .exc "InvalidSide" := by
  show cd M (n + 5) _ _ = _
  rw [cd_succ M M_place_in rfl]
  show (ex (Sg M (n + 4)) 100 b_place_in (startE 3 _)).fin = _
  have e1 : (Sg M (n + 4)).cl "check_season" [season kd.m kd.l ss] = .ok .none := cd_check_season MSA n hse
  have e2 : (Sg M (n + 4)).cl "check_table" [season kd.m kd.l ss, encT t] = .ok .none := cd_check_table n ht _
  have e3 : (Sg M (n + 4)).cl "check_side" [season kd.m kd.l ss, z] = .exc "InvalidSide" := cd_check_side_no (n + 2) hz _
  generalize Sg M (n + 4) = S at e1 e2 e3 ⊢
  generalize season kd.m kd.l ss = se at e1 e2 e3 ⊢
  generalize encT t = T at e2 ⊢
  simp [ex, ev, evs, startE, b_place_in, e1, e2, e3]
theorem cd_place_in (n : Nat) (hse : Sea kd.m kd.l ss) (ht : t ∈ kd.ts) (hs : s ∈ kd.ss) : cM (n + 5) "place_in" [season kd.m kd.l ss, encT t, sd s] = .ok (.int (placeS t s)) := by
  show cd M (n + 5) _ _ = _
  rw [cd_succ M M_place_in rfl]
  show (ex (Sg M (n + 4)) 100 b_place_in (startE 3 _)).fin = _
  have e1 : (Sg M (n + 4)).cl "check_season" [season kd.m kd.l ss] = .ok .none := cd_check_season MSA n hse
  have e2 : (Sg M (n + 4)).cl "check_table" [season kd.m kd.l ss, encT t] = .ok .none := cd_check_table n ht _
  have e3 : (Sg M (n + 4)).cl "check_side" [season kd.m kd.l ss, sd s] = .ok .none := cd_check_side (n + 2) hs _
  have e4 : (Sg M (n + 4)).cl "find_place" [encT t, sd s] = .ok (.int (placeS t s)) := cd_find_place (n + 3) ht hs
  generalize Sg M (n + 4) = S at e1 e2 e3 e4 ⊢
  generalize season kd.m kd.l ss = se at e1 e2 e3 ⊢
  generalize encT t = T at e2 e4 ⊢
  generalize sd s = sD at e3 e4 ⊢
  simp [ex, ev, evs, startE, b_place_in, e1, e2, e3, e4]
/-! table_of's exceptions -/
variable {b : Book} {rs : List (Int × Int)}
theorem table_of_x {n : Nat} {x y z : PyData} {c : Str} (h : cM n "check_all" [x, y, z] = .exc c) : cM (n + 1) "table_of" [x, y, z] = .exc c := by
  show cd M (n + 1) _ _ = _
  rw [cd_succ M M_table_of rfl]
  show (ex (Sg M n) 100 b_table_of (startE 3 _)).fin = _
  have e1 := clM h
  generalize Sg M n = S at e1 ⊢
  simp [ex, ev, evs, startE, b_table_of, e1]
end
end Cr

set_option Elab.async false
set_option linter.all false
set_option maxHeartbeats 4000000
/-! Rf, part Z: two tables that agree on what is reached give the same. Plain Lean. -/
namespace Rf
open PySem

/-- the calls, the constants of a term are among these; it catches nothing -/
def okZ (L G : List Str) : C → Bool
  | .nil => true | .cons h t => okZ L G h && okZ L G t
  | .var _ => true | .cst _ => true | .glob x => G.contains x
  | .bin _ a b => okZ L G a && okZ L G b | .cmp _ a b => okZ L G a && okZ L G b | .chain _ _ a b c => okZ L G a && okZ L G b && okZ L G c
  | .band es => okZ L G es | .bor es => okZ L G es | .bnot a => okZ L G a | .neg a => okZ L G a | .ife c a b => okZ L G c && okZ L G a && okZ L G b
  | .tup es => okZ L G es | .lst es => okZ L G es
  | .idx a b => okZ L G a && okZ L G b | .sl a lo hi => okZ L G a && okZ L G lo && okZ L G hi | .rev a => okZ L G a
  | .call f es => L.contains f && okZ L G es | .bi _ es => okZ L G es
  | .dnew => true | .dget a b c => okZ L G a && okZ L G b && okZ L G c | .itm a => okZ L G a | .enum a => okZ L G a | .zip a b => okZ L G a && okZ L G b | .rng es => okZ L G es
  | .lc tg it cond elt => okZ L G it && okZ L G cond && okZ L G elt
  | .skip => true | .seq a b => okZ L G a && okZ L G b | .asg _ _ e => okZ L G e | .unp _ e => okZ L G e | .par _ _ es => okZ L G es
  | .iff c a b => okZ L G c && okZ L G a && okZ L G b | .for_ _ it body => okZ L G it && okZ L G body | .while_ c body => okZ L G c && okZ L G body
  | .ret e => okZ L G e | .app _ e => okZ L G e | .ext _ e => okZ L G e | .exp e => okZ L G e | .fz _ r => okZ L G r
  | .dput _ k v => okZ L G k && okZ L G v | .apop _ _ e => okZ L G e | .popu _ _ => true
  | .raise _ => true | .calls fs k es => fs.all L.contains && okZ L G k && okZ L G es | .tryx _ _ _ _ _ => false
structure Agree (L G : List Str) (S S' : Sig) : Prop where
  cl : ∀ f ds, L.contains f = true → S.cl f ds = S'.cl f ds
  gl : ∀ x, G.contains x = true → S.gl x = S'.gl x
structure Same8 (S S' : Sig) (c : C) : Prop where
  ev : ∀ t env, ev S t c env = Rf.ev S' t c env
  evC : ∀ env, evC S c env = Rf.evC S' c env
  evAnd : ∀ env, evAnd S c env = Rf.evAnd S' c env
  evOr : ∀ env, evOr S c env = Rf.evOr S' c env
  evO : ∀ env, evO S c env = Rf.evO S' c env
  evs : ∀ t env, evs S t c env = Rf.evs S' t c env
  its : ∀ env, its S c env = Rf.its S' c env
  par : ∀ os env, evPar S c os env = Rf.evPar S' c os env
theorem pickF_mem {fs : List Str} {x : D} {f : Str} (h : pickF fs x = .ok f) : f ∈ fs := by
  cases x with
  | int i =>
    have h : (match L2.atI fs i with | some f => R.ok f | none => .bad) = .ok f := h
    cases e : L2.atI fs i with
    | none => rw [e] at h; cases h
    | some g =>
      rw [e] at h
      cases h
      unfold L2.atI at e
      cases q : L2.ixN fs.length i with
      | none => rw [q] at e; cases e
      | some j => rw [q] at e; exact List.mem_of_getElem? e
  | _ => cases h
theorem evAnd_cons {S : Sig} {a r : C} {env : Env} (h : r ≠ .nil) : evAnd S (.cons a r) env = (ev S true a env).bind fun x => (toBool x).bind fun k => match k with | true => evAnd S r env | false => .ok (.bool false) := by
  cases r <;> first
    | exact absurd rfl h
    | rfl
theorem evOr_cons {S : Sig} {a r : C} {env : Env} (h : r ≠ .nil) : evOr S (.cons a r) env = (ev S true a env).bind fun x => (toBool x).bind fun k => match k with | true => .ok (.bool true) | false => evOr S r env := by
  cases r <;> first
    | exact absurd rfl h
    | rfl
theorem b2 {a b : Bool} (h : (a && b) = true) : a = true ∧ b = true := by rwa [Bool.and_eq_true] at h
theorem justE {S S' : Sig} {c : C} (h : ∀ t env, ev S t c env = Rf.ev S' t c env) (h2 : ∀ S S' : Sig, (∀ env, evC S c env = Rf.evC S' c env) ∧ (∀ env, evAnd S c env = Rf.evAnd S' c env) ∧ (∀ env, evOr S c env = Rf.evOr S' c env) ∧ (∀ env, evO S c env = Rf.evO S' c env) ∧ (∀ t env, evs S t c env = Rf.evs S' t c env) ∧ (∀ env, its S c env = Rf.its S' c env) ∧ ∀ os env, evPar S c os env = Rf.evPar S' c os env := by exact fun _ _ => ⟨fun _ => rfl, fun _ => rfl, fun _ => rfl, fun _ => rfl, fun _ _ => rfl, fun _ => rfl, fun os _ => by cases os <;> rfl⟩) : Same8 S S' c :=
  ⟨h, (h2 S S').1, (h2 S S').2.1, (h2 S S').2.2.1, (h2 S S').2.2.2.1, (h2 S S').2.2.2.2.1, (h2 S S').2.2.2.2.2.1, (h2 S S').2.2.2.2.2.2⟩
theorem justI {S S' : Sig} {c : C} (h : ∀ env, its S c env = Rf.its S' c env) (h2 : ∀ S S' : Sig, (∀ t env, ev S t c env = Rf.ev S' t c env) ∧ (∀ env, evC S c env = Rf.evC S' c env) ∧ (∀ env, evAnd S c env = Rf.evAnd S' c env) ∧ (∀ env, evOr S c env = Rf.evOr S' c env) ∧ (∀ env, evO S c env = Rf.evO S' c env) ∧ (∀ t env, evs S t c env = Rf.evs S' t c env) ∧ ∀ os env, evPar S c os env = Rf.evPar S' c os env := by exact fun _ _ => ⟨fun _ _ => rfl, fun _ => rfl, fun _ => rfl, fun _ => rfl, fun _ => rfl, fun _ _ => rfl, fun os _ => by cases os <;> rfl⟩) : Same8 S S' c :=
  ⟨(h2 S S').1, (h2 S S').2.1, (h2 S S').2.2.1, (h2 S S').2.2.2.1, (h2 S S').2.2.2.2.1, (h2 S S').2.2.2.2.2.1, h, (h2 S S').2.2.2.2.2.2⟩
theorem same8 {L G : List Str} {S S' : Sig} (A : Agree L G S S') (c : C) (h : okZ L G c = true) : Same8 S S' c := by
  induction c with
  | nil => exact ⟨fun _ _ => rfl, fun _ => rfl, fun _ => rfl, fun _ => rfl, fun _ => rfl, fun _ _ => rfl, fun _ => rfl, fun os _ => by cases os <;> rfl⟩
  | cons a r i1 i2 =>
    obtain ⟨h1, h2⟩ := b2 h
    have i1 := i1 h1
    have i2 := i2 h2
    refine ⟨fun _ _ => rfl, fun env => ?_, fun env => ?_, fun env => ?_, fun env => ?_, fun t env => ?_, fun _ => rfl, fun os env => ?_⟩
    · cases r <;> first | rfl | (rw [Rf.evC, Rf.evC, i1.ev])
    · by_cases hr : r = .nil
      · subst hr; show Rf.ev S false a env = Rf.ev S' false a env; exact i1.ev _ _
      · rw [evAnd_cons hr, evAnd_cons hr, i1.ev]
        have e : Rf.evAnd S r = Rf.evAnd S' r := funext i2.evAnd
        rw [e]
    · by_cases hr : r = .nil
      · subst hr; show Rf.ev S false a env = Rf.ev S' false a env; exact i1.ev _ _
      · rw [evOr_cons hr, evOr_cons hr, i1.ev]
        have e : Rf.evOr S r = Rf.evOr S' r := funext i2.evOr
        rw [e]
    · cases r <;> first | rfl | (rw [Rf.evO, Rf.evO, i1.ev])
    · rw [Rf.evs, Rf.evs, i1.ev]; simp only [i2.evs]
    · cases os with
      | nil => rfl
      | cons o os => cases o <;> (rw [Rf.evPar, Rf.evPar, i1.ev]; simp only [i2.par])
  | var i => exact justE fun _ _ => rfl
  | cst d => exact justE fun _ _ => rfl
  | glob x => exact justE fun t env => A.gl x h
  | bin o a b i1 i2 => obtain ⟨h1, h2⟩ := b2 h; exact justE fun t env => by rw [ev, ev, (i1 h1).ev, (i2 h2).ev]
  | cmp o a b i1 i2 => obtain ⟨h1, h2⟩ := b2 h; exact justE fun t env => by rw [ev, ev, (i1 h1).ev, (i2 h2).ev]
  | chain o1 o2 a b c i1 i2 i3 => obtain ⟨h, h3⟩ := b2 h; obtain ⟨h1, h2⟩ := b2 h; exact justE fun t env => by rw [ev, ev, (i1 h1).ev, (i2 h2).ev, (i3 h3).ev]
  | band es i => exact justE fun t env => by rw [ev, ev, (i h).evAnd]
  | bor es i => exact justE fun t env => by rw [ev, ev, (i h).evOr]
  | bnot a i => exact justE fun t env => by rw [ev, ev, (i h).ev]
  | neg a i => exact justE fun t env => by rw [ev, ev, (i h).ev]
  | ife c a b i1 i2 i3 => obtain ⟨h, h3⟩ := b2 h; obtain ⟨h1, h2⟩ := b2 h; exact justE fun t env => by rw [ev, ev, (i1 h1).ev, (i2 h2).ev, (i3 h3).ev]
  | tup es i => exact justE fun t env => by rw [ev, ev, (i h).evs]
  | lst es i => exact justE fun t env => by rw [ev, ev, (i h).evs]
  | idx a b i1 i2 => obtain ⟨h1, h2⟩ := b2 h; exact justE fun t env => by rw [ev, ev, (i1 h1).ev, (i2 h2).ev]
  | sl a lo hi i1 i2 i3 => obtain ⟨h, h3⟩ := b2 h; obtain ⟨h1, h2⟩ := b2 h; exact justE fun t env => by rw [ev, ev, (i1 h1).ev, (i2 h2).evO, (i3 h3).evO]
  | rev a i => exact justE fun t env => by rw [ev, ev, (i h).ev]
  | call f es i => 
    obtain ⟨h1, h2⟩ := b2 h
    exact justE fun t env => by
      rw [ev, ev, (i h2).evs]
      have e : S.cl f = S'.cl f := funext fun ds => A.cl f ds h1
      rw [e]
  | calls fs k es i1 i2 => 
    obtain ⟨h, h3⟩ := b2 h
    obtain ⟨h1, h2⟩ := b2 h
    exact justE fun t env => by
      rw [ev, ev, (i1 h2).ev, (i2 h3).evs]
      cases Rf.ev S' true k env with
      | ok x =>
        rw [R.bind_ok, R.bind_ok]
        cases e : pickF fs x with
        | ok f =>
          rw [R.bind_ok, R.bind_ok]
          have e2 : S.cl f = S'.cl f := funext fun ds => A.cl f ds (List.all_eq_true.mp h1 f (pickF_mem e))
          rw [e2]
        | _ => rfl
      | _ => rfl
  | bi b es i => exact justE fun t env => by rw [ev, ev, (i h).evs]
  | dnew => exact justE fun _ _ => rfl
  | dget a b c i1 i2 i3 => obtain ⟨h, h3⟩ := b2 h; obtain ⟨h1, h2⟩ := b2 h; exact justE fun t env => by rw [ev, ev, (i1 h1).ev, (i2 h2).ev, (i3 h3).ev]
  | lc tg it cond elt i0 i1 i2 i3 => 
    obtain ⟨h, h3⟩ := b2 h
    obtain ⟨h1, h2⟩ := b2 h
    exact justE fun t env => by
      rw [ev, ev, (i1 h1).its]
      have e2 : Rf.evC S cond = Rf.evC S' cond := funext (i2 h2).evC
      have e3 : Rf.ev S false elt = Rf.ev S' false elt := funext ((i3 h3).ev false)
      rw [e2, e3]
  | itm a i => exact justI fun env => by rw [its, its, (i h).ev]
  | enum a i => exact justI fun env => by rw [its, its, (i h).ev]
  | zip a b i1 i2 => obtain ⟨h1, h2⟩ := b2 h; exact justI fun env => by rw [its, its, (i1 h1).ev, (i2 h2).ev]
  | rng es i => exact justI fun env => by rw [its, its, (i h).evs]
  | _ => exact justE fun _ _ => rfl
theorem same_ex {L G : List Str} {S S' : Sig} (A : Agree L G S S') (fuel : Nat) (c : C) (h : okZ L G c = true) : ∀ env, ex S fuel c env = ex S' fuel c env := by
  induction c with
  | seq a b i1 i2 =>
    obtain ⟨h1, h2⟩ := b2 h
    intro env
    rw [ex, ex, i1 h1, show ex S fuel b = ex S' fuel b from funext (i2 h2)]
  | asg i o e _ => intro env; rw [ex, ex, (same8 A e h).ev]
  | unp tg e _ _ => intro env; rw [ex, ex, (same8 A e h).ev]
  | par tg o es _ _ => intro env; rw [ex, ex, (same8 A es h).par]
  | iff c a b _ i1 i2 =>
    obtain ⟨h, h3⟩ := b2 h
    obtain ⟨h1, h2⟩ := b2 h
    intro env
    rw [ex, ex, (same8 A c h1).ev, show ex S fuel a = ex S' fuel a from funext (i1 h2), show ex S fuel b = ex S' fuel b from funext (i2 h3)]
  | for_ tg it body _ _ i =>
    obtain ⟨h1, h2⟩ := b2 h
    intro env
    rw [ex, ex, (same8 A it h1).its, show ex S fuel body = ex S' fuel body from funext (i h2)]
  | while_ c body _ i =>
    obtain ⟨h1, h2⟩ := b2 h
    intro env
    rw [ex, ex, show Rf.ev S true c = Rf.ev S' true c from funext ((same8 A c h1).ev true), show ex S fuel body = ex S' fuel body from funext (i h2)]
  | ret e _ => intro env; rw [ex, ex, (same8 A e h).ev]
  | app i e _ => intro env; rw [ex, ex, (same8 A e h).ev]
  | ext i e _ => intro env; rw [ex, ex, (same8 A e h).ev]
  | exp e _ => intro env; rw [ex, ex, (same8 A e h).ev]
  | fz i r ih => intro env; rw [ex, ex, ih h]
  | dput i k v _ _ =>
    obtain ⟨h1, h2⟩ := b2 h
    intro env
    rw [ex, ex, (same8 A v h2).ev, (same8 A k h1).ev]
  | apop i j e _ => intro env; rw [ex, ex, (same8 A e h).ev]
  | tryx x ei fi gs body _ => exact nomatch (show false = true from h)
  | _ => exact fun _ => rfl
/-- the tables agree on what is reached from the names of L -/
theorem callD_agree {tab tab' : Str → Option Def} {gl gl' : Str → R D} {sub sub' : Str → Str → Bool} {L G : List Str} (h : ∀ f, L.contains f = true → tab f = tab' f ∧ ∀ d, tab f = some d → okZ L G d.body = true) (g : ∀ x, G.contains x = true → gl x = gl' x) (fuel : Nat) :
    ∀ n f ds, L.contains f = true → callD tab gl sub fuel n f ds = callD tab' gl' sub' fuel n f ds := by
  intro n
  induction n with
  | zero => intro f ds _; rfl
  | succ n ih =>
    intro f ds hf
    obtain ⟨h1, h2⟩ := h f hf
    rw [callD, callD, ← h1]
    cases e : tab f with
    | none => rfl
    | some d =>
      have A : Agree L G ⟨callD tab gl sub fuel n, gl, sub⟩ ⟨callD tab' gl' sub' fuel n, gl', sub'⟩ := ⟨fun f ds hf => ih f ds hf, g⟩
      show R.chk _ _ = R.chk _ _
      rw [same_ex A fuel d.body (h2 d e)]
end Rf

set_option Elab.async false
set_option linter.all false
set_option maxRecDepth 100000
set_option maxHeartbeats 8000000
namespace K05
open Rf PySem Cr
def X : Txt := ⟨T, gl, free, excs, supers⟩
def T0 : Tab := ⟨tabD X.T, X.glf, X.sub⟩
def L : List Str := [("is_int" : Str), ("is_score" : Str), ("is_rising" : Str), ("is_season" : Str), ("check_season" : Str), ("find_sides" : Str), ("find_matches" : Str), ("has_results" : Str), ("check_results" : Str), ("has_breaks" : Str), ("is_book" : Str), ("check_book" : Str), ("played" : Str), ("own_and_other" : Str), ("points_in" : Str), ("difference_in" : Str), ("goals_in" : Str), ("count_for" : Str), ("check_all" : Str), ("has_group" : Str), ("divided" : Str), ("asked" : Str), ("ranked" : Str), ("find_table" : Str), ("table_of" : Str), ("has_table" : Str), ("is_table" : Str), ("check_table" : Str), ("check_side" : Str), ("find_place" : Str), ("place_in" : Str), ("_law_drawn" : Str), ("_law_season" : Str), ("_law_book" : Str), ("_law_matches" : Str), ("_law_results" : Str), ("_law_own" : Str), ("_law_count" : Str), ("_law_split" : Str), ("_law_table" : Str), ("_law_place" : Str), ("_law_badseason" : Str), ("_law_badbook" : Str)]
def LG : List Str := [("ANEW" : Str), ("AWAY" : Str), ("DIFFERENCE" : Str), ("DIRECT" : Str), ("DRAWN" : Str), ("GOALS" : Str), ("LETTERS" : Str), ("MAX_BREAKS" : Str), ("MAX_GOALS" : Str), ("MAX_SCORES" : Str), ("MAX_SIDES" : Str), ("MAX_TWICE" : Str), ("MAX_WIN" : Str), ("ONCE" : Str), ("SHARED" : Str), ("WINS" : Str), ("WORDS" : Str)]
theorem ag {f : Str} {d : Rf.Def} (h1 : T0.tab f = some d) (h2 : M.tab f = some d) (h3 : okZ L LG d.body = true) : T0.tab f = M.tab f ∧ ∀ d, T0.tab f = some d → okZ L LG d.body = true :=
  ⟨by rw [h1, h2], fun e h => by rw [h1] at h; cases h; exact h3⟩
theorem agL : ∀ f, L.contains f = true → T0.tab f = M.tab f ∧ ∀ d, T0.tab f = some d → okZ L LG d.body = true := by
  intro f hf
  have hf : f ∈ L := by simpa using hf
  simp only [L, List.mem_cons, List.not_mem_nil, or_false] at hf
  rcases hf with rfl | rfl | rfl | rfl | rfl | rfl | rfl | rfl | rfl | rfl | rfl | rfl | rfl | rfl | rfl | rfl | rfl | rfl | rfl | rfl | rfl | rfl | rfl | rfl | rfl | rfl | rfl | rfl | rfl | rfl | rfl | rfl | rfl | rfl | rfl | rfl | rfl | rfl | rfl | rfl | rfl | rfl | rfl
  · exact ag (d := Cr.d_is_int) (by kernel_rfl) (by kernel_rfl) (by decide +kernel)
  · exact ag (d := Cr.d_is_score) (by kernel_rfl) (by kernel_rfl) (by decide +kernel)
  · exact ag (d := Cr.d_is_rising) (by kernel_rfl) (by kernel_rfl) (by decide +kernel)
  · exact ag (d := Cr.d_is_season) (by kernel_rfl) (by kernel_rfl) (by decide +kernel)
  · exact ag (d := Cr.d_check_season) (by kernel_rfl) (by kernel_rfl) (by decide +kernel)
  · exact ag (d := Cr.d_find_sides) (by kernel_rfl) (by kernel_rfl) (by decide +kernel)
  · exact ag (d := Cr.d_find_matches) (by kernel_rfl) (by kernel_rfl) (by decide +kernel)
  · exact ag (d := Cr.d_has_results) (by kernel_rfl) (by kernel_rfl) (by decide +kernel)
  · exact ag (d := Cr.d_check_results) (by kernel_rfl) (by kernel_rfl) (by decide +kernel)
  · exact ag (d := Cr.d_has_breaks) (by kernel_rfl) (by kernel_rfl) (by decide +kernel)
  · exact ag (d := Cr.d_is_book) (by kernel_rfl) (by kernel_rfl) (by decide +kernel)
  · exact ag (d := Cr.d_check_book) (by kernel_rfl) (by kernel_rfl) (by decide +kernel)
  · exact ag (d := Cr.d_played) (by kernel_rfl) (by kernel_rfl) (by decide +kernel)
  · exact ag (d := Cr.d_own_and_other) (by kernel_rfl) (by kernel_rfl) (by decide +kernel)
  · exact ag (d := Cr.d_points_in) (by kernel_rfl) (by kernel_rfl) (by decide +kernel)
  · exact ag (d := Cr.d_difference_in) (by kernel_rfl) (by kernel_rfl) (by decide +kernel)
  · exact ag (d := Cr.d_goals_in) (by kernel_rfl) (by kernel_rfl) (by decide +kernel)
  · exact ag (d := Cr.d_count_for) (by kernel_rfl) (by kernel_rfl) (by decide +kernel)
  · exact ag (d := Cr.d_check_all) (by kernel_rfl) (by kernel_rfl) (by decide +kernel)
  · exact ag (d := Cr.d_has_group) (by kernel_rfl) (by kernel_rfl) (by decide +kernel)
  · exact ag (d := Cr.d_divided) (by kernel_rfl) (by kernel_rfl) (by decide +kernel)
  · exact ag (d := Cr.d_asked) (by kernel_rfl) (by kernel_rfl) (by decide +kernel)
  · exact ag (d := Cr.d_ranked) (by kernel_rfl) (by kernel_rfl) (by decide +kernel)
  · exact ag (d := Cr.d_find_table) (by kernel_rfl) (by kernel_rfl) (by decide +kernel)
  · exact ag (d := Cr.d_table_of) (by kernel_rfl) (by kernel_rfl) (by decide +kernel)
  · exact ag (d := Cr.d_has_table) (by kernel_rfl) (by kernel_rfl) (by decide +kernel)
  · exact ag (d := Cr.d_is_table) (by kernel_rfl) (by kernel_rfl) (by decide +kernel)
  · exact ag (d := Cr.d_check_table) (by kernel_rfl) (by kernel_rfl) (by decide +kernel)
  · exact ag (d := Cr.d_check_side) (by kernel_rfl) (by kernel_rfl) (by decide +kernel)
  · exact ag (d := Cr.d_find_place) (by kernel_rfl) (by kernel_rfl) (by decide +kernel)
  · exact ag (d := Cr.d_place_in) (by kernel_rfl) (by kernel_rfl) (by decide +kernel)
  · exact ag (d := Cr.d__law_drawn) (by kernel_rfl) (by kernel_rfl) (by decide +kernel)
  · exact ag (d := Cr.d__law_season) (by kernel_rfl) (by kernel_rfl) (by decide +kernel)
  · exact ag (d := Cr.d__law_book) (by kernel_rfl) (by kernel_rfl) (by decide +kernel)
  · exact ag (d := Cr.d__law_matches) (by kernel_rfl) (by kernel_rfl) (by decide +kernel)
  · exact ag (d := Cr.d__law_results) (by kernel_rfl) (by kernel_rfl) (by decide +kernel)
  · exact ag (d := Cr.d__law_own) (by kernel_rfl) (by kernel_rfl) (by decide +kernel)
  · exact ag (d := Cr.d__law_count) (by kernel_rfl) (by kernel_rfl) (by decide +kernel)
  · exact ag (d := Cr.d__law_split) (by kernel_rfl) (by kernel_rfl) (by decide +kernel)
  · exact ag (d := Cr.d__law_table) (by kernel_rfl) (by kernel_rfl) (by decide +kernel)
  · exact ag (d := Cr.d__law_place) (by kernel_rfl) (by kernel_rfl) (by decide +kernel)
  · exact ag (d := Cr.d__law_badseason) (by kernel_rfl) (by kernel_rfl) (by decide +kernel)
  · exact ag (d := Cr.d__law_badbook) (by kernel_rfl) (by kernel_rfl) (by decide +kernel)
theorem agG : ∀ x, LG.contains x = true → T0.gl x = M.gl x := by
  intro x hx
  have hx : x ∈ LG := by simpa using hx
  simp only [LG, List.mem_cons, List.not_mem_nil, or_false] at hx
  rcases hx with rfl | rfl | rfl | rfl | rfl | rfl | rfl | rfl | rfl | rfl | rfl | rfl | rfl | rfl | rfl | rfl | rfl <;> kernel_rfl
theorem agree (n : Nat) (f : Str) (ds : List PyData) (h : L.contains f = true) : cd T0 n f ds = cM n f ds := callD_agree (L := L) (G := LG) agL agG 100 n f ds h
theorem cl {n : Nat} {f : Str} {ds : List PyData} {r : R PyData} (h : L.contains f = true) (e : cM n f ds = r) : (Sg T0 n).cl f ds = r := (agree n f ds h).trans e
end K05

set_option Elab.async false
set_option linter.all false
set_option maxRecDepth 100000
set_option maxHeartbeats 4000000
/-! Core texts: what holds behind a row of statements. -/
namespace Cr
open Rf PySem

def Wp (r : Rf.SR) (N : Rf.Env → Prop) (Q : PyData → Prop) : Prop := match r with
  | .nx e => N e
  | .rt d => Q d
  | _ => False
section
variable {N N' : Rf.Env → Prop} {Q Q' : PyData → Prop} {env : Rf.Env} {r : Rf.SR} {S : Sig} {n : Nat}
@[simp] theorem Wp_nx : Wp (.nx env) N Q = N env := rfl
@[simp] theorem Wp_rt {d : PyData} : Wp (.rt d) N Q = Q d := rfl
theorem Wp.fin {x : PyData} (h : Wp r (fun _ => False) (fun d => d = x)) : r.fin = .ok x := by
  cases r with
  | rt d => have h : d = x := h; subst h; rfl
  | nx e => exact False.elim h
  | _ => exact False.elim h
theorem Wp.mono (h : Wp r N Q) (h1 : ∀ e, N e → N' e) (h2 : ∀ d, Q d → Q' d) : Wp r N' Q' := by
  cases r with
  | rt d => exact h2 d h
  | nx e => exact h1 e h
  | _ => exact False.elim h
theorem Wp.then {f : Rf.Env → Rf.SR} (h : Wp r (fun e => Wp (f e) N Q) Q) : Wp (r.then f) N Q := by
  cases r with
  | rt d => exact h
  | nx e => exact h
  | _ => exact False.elim h
@[simp] theorem Wp_then_iff {f : Rf.Env → Rf.SR} : Wp (r.then f) N Q ↔ Wp r (fun e => Wp (f e) N Q) Q := by
  cases r with
  | rt d => exact Iff.rfl
  | nx e => exact Iff.rfl
  | _ => exact Iff.rfl
theorem Wp.turn {f : Rf.Env → Rf.SR} (h : Wp r (fun e => Wp (f e) N Q) Q) : Wp (r.turn f) N Q := by
  cases r with
  | rt d => exact h
  | nx e => exact h
  | _ => exact False.elim h
theorem Wp.seq {a b : C} (h : Wp (ex S n a env) (fun e => Wp (ex S n b e) N Q) Q) : Wp (ex S n (.seq a b) env) N Q := by
  rw [ex]
  exact Wp.then h
theorem Wp.get (h : Wp r N Q) (h1 : ∀ d, ¬ Q d) : ∃ e, r = .nx e ∧ N e := by
  cases r with
  | rt d => exact absurd h (h1 d)
  | nx e => exact ⟨e, rfl, h⟩
  | _ => exact False.elim h
/-- a loop, its invariant by what was walked -/
theorem Wp.forGo {α : Type} {F : PyData → Rf.Env → Rf.SR} (enc : α → PyData) (E : List α → Rf.Env → Prop) : ∀ {xs pre : List α} {env : Rf.Env}, (∀ p x q env, xs = p ++ x :: q → E (pre ++ p) env → Wp (F (enc x) env) (E (pre ++ p ++ [x])) Q) → E pre env → Wp (forGo F (xs.map enc) env) (E (pre ++ xs)) Q
  | [], pre, env, _, h => by rw [List.append_nil]; exact h
  | x :: xs, pre, env, hs, h => by
    rw [List.map_cons, Rf.forGo]
    refine Wp.turn (Wp.mono (hs [] x xs env rfl (by rw [List.append_nil]; exact h)) (fun e he => ?_) fun d hd => hd)
    have ih := Wp.forGo (F := F) enc E (xs := xs) (pre := pre ++ [x]) (env := e) (fun p y q env hq hE => by
      have := hs (x :: p) y q env (by rw [hq]; rfl) (by rw [List.append_assoc] at hE; exact hE)
      have e2 : pre ++ [x] ++ p ++ [y] = pre ++ (x :: p) ++ [y] := by simp
      rw [e2]
      exact this) (by have he' := he; rw [List.append_nil] at he'; exact he')
    have e2 : pre ++ [x] ++ xs = pre ++ x :: xs := by simp
    rw [e2] at ih
    exact ih
theorem Wp.for_ {α : Type} {tg it body : C} {xs : List α} (enc : α → PyData) (hi : its S it env = .ok (xs.map enc)) (E : List α → Rf.Env → Prop) (h : E [] env) (hs : ∀ p x q env, xs = p ++ x :: q → E p env → Wp ((bindT tg (enc x) env).toS env (ex S n body)) (E (p ++ [x])) Q) (hk : ∀ env, E xs env → N env) : Wp (ex S n (.for_ tg it body) env) N Q := by
  rw [ex, hi, R.toS_ok]
  refine Wp.mono (Wp.forGo enc E (pre := []) (fun p x q env hq hE => ?_) h) (fun e he => hk e he) fun d hd => hd
  exact hs p x q env hq hE
/-- a slot -/
def sl (env : Rf.Env) (i : Nat) : Option (Option (Bool × PyData)) := env[i]?
def getS (t : Bool) : Option (Option (Bool × PyData)) → R PyData
  | some (some (o, d)) => R.chk (t || !o) (.ok d)
  | _ => .bad
@[simp] theorem getS_f {t : Bool} {d : PyData} : getS t (some (some (false, d))) = .ok d := by cases t <;> rfl
@[simp] theorem getS_t {d : PyData} : getS true (some (some (true, d))) = .ok d := rfl
theorem getV_sl {t : Bool} {i : Nat} : getV t env i = getS t (sl env i) := by
  unfold getV getS sl
  cases env[i]? with
  | none => rfl
  | some x => cases x with
    | none => rfl
    | some p => rfl
@[simp] theorem sl_zero {x : Option (Bool × PyData)} {xs : Rf.Env} : sl (x :: xs) 0 = some x := rfl
@[simp] theorem sl_succ {x : Option (Bool × PyData)} {xs : Rf.Env} {i : Nat} : sl (x :: xs) (i + 1) = sl xs i := rfl
@[simp] theorem sl_set {i j : Nat} {v : Option (Bool × PyData)} : sl (env.set j v) i = if j = i then (if j < env.length then some v else none) else sl env i := by
  unfold sl
  rw [List.getElem?_set]
/-- what the slots hold -/
def Has (env : Rf.Env) (n : Nat) (l : List (Nat × Bool × PyData)) : Prop := env.length = n ∧ ∀ p ∈ l, sl env p.1 = some (some p.2)
theorem has_nil : Has env n [] ↔ env.length = n := ⟨fun h => h.1, fun h => ⟨h, fun _ z => absurd z List.not_mem_nil⟩⟩
theorem has_cons {p : Nat × Bool × PyData} {l : List (Nat × Bool × PyData)} : Has env n (p :: l) ↔ sl env p.1 = some (some p.2) ∧ Has env n l :=
  ⟨fun h => ⟨h.2 p (List.mem_cons_self ..), h.1, fun q hq => h.2 q (List.mem_cons_of_mem _ hq)⟩, fun h => ⟨h.2.1, fun q hq => by
    rcases List.mem_cons.mp hq with rfl | hq
    · exact h.1
    · exact h.2.2 q hq⟩⟩
/-- own lists and dicts by their slots -/
def ownS : Option (Option (Bool × PyData)) → Bool
  | some (some (true, .list _)) => true
  | _ => false
def ownT : Option (Option (Bool × PyData)) → Bool
  | some (some (true, .dict _)) => true
  | _ => false
theorem ownL_sl {i : Nat} : ownL env i = ownS (sl env i) := by
  unfold ownL ownS sl
  cases env[i]? with
  | none => rfl
  | some x => cases x with
    | none => rfl
    | some p => obtain ⟨o, d⟩ := p; cases o <;> cases d <;> rfl
theorem ownDi_sl {i : Nat} : ownDi env i = ownT (sl env i) := by
  unfold ownDi ownT sl
  cases env[i]? with
  | none => rfl
  | some x => cases x with
    | none => rfl
    | some p => obtain ⟨o, d⟩ := p; cases o <;> cases d <;> rfl
@[simp] theorem ownS_l {xs : List PyData} : ownS (some (some (true, .list xs))) = true := rfl
@[simp] theorem ownT_d {xs : List (PyData × PyData)} : ownT (some (some (true, .dict xs))) = true := rfl
def appS (env : Rf.Env) (i : Nat) (ds : List PyData) : Option (Option (Bool × PyData)) → Rf.SR
  | some (some (true, .list xs)) => chkS (decide (xs.length + ds.length ≤ lineN)) (.nx (env.set i (some (true, .list (xs ++ ds)))))
  | _ => .bad
theorem appO_sl {i : Nat} {ds : List PyData} : appO env i ds = appS env i ds (sl env i) := by
  unfold appO appS sl
  cases env[i]? with
  | none => rfl
  | some x => cases x with
    | none => rfl
    | some p => obtain ⟨o, d⟩ := p; cases o <;> cases d <;> rfl
@[simp] theorem appS_l {i : Nat} {xs ds : List PyData} : appS env i ds (some (some (true, .list xs))) = chkS (decide (xs.length + ds.length ≤ lineN)) (.nx (env.set i (some (true, .list (xs ++ ds))))) := rfl
def frS (env : Rf.Env) (i : Nat) : Option (Option (Bool × PyData)) → Rf.Env
  | some (some (_, d)) => env.set i (some (false, d))
  | _ => env
theorem freeze_sl {i : Nat} : freeze env i = frS env i (sl env i) := by
  unfold freeze frS sl
  cases env[i]? with
  | none => rfl
  | some x => cases x with
    | none => rfl
    | some p => rfl
@[simp] theorem frS_s {i : Nat} {o : Bool} {d : PyData} : frS env i (some (some (o, d))) = env.set i (some (false, d)) := rfl
def putS (env : Rf.Env) (i : Nat) (k v : PyData) : Option (Option (Bool × PyData)) → Rf.SR
  | some (some (true, .dict kvs)) => chkS (keyOk kvs k && decide (kvs.length < lineN)) (.nx (env.set i (some (true, .dict (dputL kvs k v)))))
  | _ => .bad
theorem dputO_sl {i : Nat} {k v : PyData} : dputO env i k v = putS env i k v (sl env i) := by
  unfold dputO putS sl
  cases env[i]? with
  | none => rfl
  | some x => cases x with
    | none => rfl
    | some p => obtain ⟨o, d⟩ := p; cases o <;> cases d <;> rfl
@[simp] theorem putS_d {i : Nat} {k v : PyData} {kvs : List (PyData × PyData)} : putS env i k v (some (some (true, .dict kvs))) = chkS (keyOk kvs k && decide (kvs.length < lineN)) (.nx (env.set i (some (true, .dict (dputL kvs k v))))) := rfl
theorem itemsK_grp (g : List Sd) (h : g.length ≤ 1000) : itemsK (gd g) = .ok (g.map sd) := items_grp g h
@[simp] theorem wipe_nil : wipeE env [] = env := rfl
@[simp] theorem wipe_cons {v : Nat} {vs : List Nat} : wipeE env (v :: vs) = (wipeE env vs).set v none := rfl
end
end Cr

set_option Elab.async false
set_option linter.all false
set_option maxRecDepth 100000
set_option maxHeartbeats 4000000
/-! Core texts, part 20: small facts for the laws' ends. -/
namespace Cr
open Rf PySem

theorem cut_tail {α : Type} (l : List α) : cutL l (some 1) none = l.tail := by
  cases l with
  | nil => rfl
  | cons x l => simp [cutL, HT.sIx]
theorem sl1T (l : List PyData) : slD (.tuple l) (some 1) none = .ok (.tuple l.tail) := by
  show R.ok (PyData.tuple (cutL l (some 1) none)) = _
  rw [cut_tail]
theorem sl1L (l : List PyData) : slD (.list l) (some 1) none = .ok (.list l.tail) := by
  show R.ok (PyData.list (cutL l (some 1) none)) = _
  rw [cut_tail]
theorem add_none {l : List PyData} (h : l.length ≤ 1000) : binD .add (.tuple [.none]) (.tuple l) = .ok (.tuple (.none :: l)) := by
  rw [binD_addT]
  · rfl
  · exact Nat.le_trans (show 1 + l.length ≤ 1000000 by omega) (by decide)
/-- what results are not, one of them drawn -/
theorem ix_wrong (rs : List (Int × Int)) {r : Int} (h0 : 0 ≤ r) (h1 : r < 5) : ∃ v ∈ wrongR rs, ixD (.list [.none, .tuple [], .tuple (rs.map P2).tail, .list (rs.map P2), .tuple (.none :: (rs.map P2).tail)]) (.int r) = .ok v := by
  obtain ⟨v, hv, hm⟩ := atI_ok (wrongR rs) r h0 (by show r < 5; omega)
  refine ⟨v, hm, ?_⟩
  rw [show (rs.map P2).tail = rs.tail.map P2 by cases rs <;> rfl]
  show (match L2.atI (wrongR rs) r with | some d => R.ok d | none => .bad) = _
  rw [hv]
theorem ix_in (l : List PyData) {r : Int} (h0 : 0 ≤ r) (h1 : r < l.length) : ∃ v ∈ l, ixD (.list l) (.int r) = .ok v := by
  obtain ⟨v, hv, hm⟩ := atI_ok l r h0 h1
  refine ⟨v, hm, ?_⟩
  show (match L2.atI l r with | some d => R.ok d | none => .bad) = _
  rw [hv]
theorem ss_a (kd : Kd) : binD .add (gd kd.ss) (.str "a") = .ok (gd (kd.ss ++ [0])) := by cases kd <;> kernel_rfl
theorem ss_e (kd : Kd) : binD .add (gd kd.ss) (.str "e") = .ok (.str (grp kd.ss ++ "e")) := by cases kd <;> kernel_rfl
theorem ss_rev (kd : Kd) : revD (gd kd.ss) = .ok (gd kd.ss.reverse) := by cases kd <;> kernel_rfl
theorem ss_tail (kd : Kd) : slD (gd kd.ss) (some 1) none = .ok (gd kd.ss.tail) := by cases kd <;> kernel_rfl
theorem eqD_T (t u : List (List Sd)) : eqD (encT t) (encT u) = .ok (decide (t = u)) := En.gd.tuple.eqD (by decide) t u
theorem eqD_TT (t : List (List Sd)) : eqD (encT t) (encT t) = .ok true := by rw [eqD_T, decide_eq_true rfl]
theorem eq_nil2 : eqD (.list []) (.list []) = .ok true := by kernel_rfl
theorem rng1 : rngD [.int 1] = .ok ([0].map fun k : Nat => .int k) := by kernel_rfl
theorem rng2 : rngD [.int 2] = .ok ([0, 1].map fun k : Nat => .int k) := by kernel_rfl
theorem rng3 : rngD [.int 3] = .ok ([0, 1, 2].map fun k : Nat => .int k) := by kernel_rfl
theorem rng4 : rngD [.int 4] = .ok ([0, 1, 2, 3].map fun k : Nat => .int k) := by kernel_rfl
theorem rng6 : rngD [.int 6] = .ok ([0, 1, 2, 3, 4, 5].map fun k : Nat => .int k) := by kernel_rfl
end Cr

set_option Elab.async false
set_option linter.all false
set_option maxRecDepth 100000
set_option maxHeartbeats 8000000
namespace K05
open Rf PySem Cr
def wB1 : C := .seq (.iff (.cmp .ne (.call "place_in" (.cons (.var 1) (.cons (.var 8) (.cons (.var 6) .nil)))) (.call "_law_place" (.cons (.var 8) (.cons (.var 6) .nil)))) (.seq (.ret (.cst (.bool false))) .skip) .skip) .skip
def wF1 : C := .for_ (.var 6) (.itm (.var 2)) wB1
def wB2 : C := .seq (.par (.cons (.var 12) (.cons (.var 13) .nil)) [false, false] (.cons (.call "_law_book" (.cons (.var 0) (.cons (.bin .add (.cst (.int 30)) (.bin .mul (.cst (.int 10)) (.var 3))) .nil))) (.cons (.call "_law_results" (.cons (.var 0) (.cons (.bin .add (.cst (.int 90)) (.bin .mul (.cst (.int 10)) (.var 3))) (.cons (.var 1) .nil)))) .nil))) (.seq (.asg 8 false (.call "table_of" (.cons (.var 1) (.cons (.var 12) (.cons (.var 13) .nil))))) (.seq (.iff (.bor (.cons (.cmp .ne (.var 8) (.call "_law_table" (.cons (.var 1) (.cons (.var 12) (.cons (.var 13) .nil))))) (.cons (.cmp .isnot (.call "is_table" (.cons (.var 1) (.cons (.var 8) .nil))) (.cst (.bool true))) .nil))) (.seq (.ret (.cst (.bool false))) .skip) .skip) (.seq wF1 .skip)))
def wF2 : C := .for_ (.var 3) (.rng (.cons (.cst (.int 6)) .nil)) wB2
def wL1 : C := .lc (.var 14) (.itm (.var 4)) (.cons (.cmp .isnot (.call "is_table" (.cons (.var 1) (.cons (.var 14) .nil))) (.cst (.bool false))) .nil) (.var 14)
def wK1 : C := .seq (.asg 4 false (.lst (.cons (.cst .none) (.cons (.tup .nil) (.cons (.lst (.cons (.var 2) .nil)) (.cons (.tup (.cons (.bin .add (.var 2) (.cst (.str "a"))) .nil)) (.cons (.tup (.cons (.var 2) (.cons (.cst (.str "")) .nil))) (.cons (.tup (.cons (.rev (.var 2)) .nil)) (.cons (.tup (.cons (.sl (.var 2) (.cons (.cst (.int 1)) .nil) .nil) .nil)) .nil))))))))) (.seq (.asg 4 false (.bin .add (.var 4) (.lst (.cons (.tup (.cons (.cst (.str "a")) (.cons (.var 2) .nil))) (.cons (.tup (.cons (.var 2) (.cons (.cst .none) .nil))) (.cons (.var 2) (.cons (.tup (.cons (.bin .add (.var 2) (.cst (.str "e"))) .nil)) .nil))))))) (.seq (.iff (.cmp .ne wL1 (.lst .nil)) (.seq (.ret (.cst (.bool false))) .skip) .skip) (.seq (.par (.cons (.var 9) (.cons (.var 10) .nil)) [false, false] (.cons (.call "_law_badseason" (.cons (.var 0) (.cons (.cst (.int 1)) .nil))) (.cons (.call "_law_badbook" (.cons (.var 0) (.cons (.cst (.int 2)) .nil))) .nil))) (.seq (.par (.cons (.var 11) (.cons (.var 5) .nil)) [false, false] (.cons (.idx (.var 4) (.call "_law_drawn" (.cons (.var 0) (.cons (.cst (.int 3)) (.cons (.cst (.int 11)) .nil))))) (.cons (.lst (.cons (.cst .none) (.cons (.tup .nil) (.cons (.sl (.var 13) (.cons (.cst (.int 1)) .nil) .nil) (.cons (.bi .list (.cons (.var 13) .nil)) (.cons (.bin .add (.tup (.cons (.cst .none) .nil)) (.sl (.var 13) (.cons (.cst (.int 1)) .nil) .nil)) .nil)))))) .nil))) (.seq (.asg 5 false (.idx (.var 5) (.call "_law_drawn" (.cons (.var 0) (.cons (.cst (.int 4)) (.cons (.cst (.int 5)) .nil)))))) (.seq (.asg 6 false (.idx (.lst (.cons (.cst .none) (.cons (.cst (.str "")) (.cons (.cst (.str "e")) (.cons (.cst (.str "ab")) (.cons (.cst (.int 5)) (.cons (.lst (.cons (.cst (.str "a")) .nil)) .nil))))))) (.call "_law_drawn" (.cons (.var 0) (.cons (.cst (.int 5)) (.cons (.cst (.int 6)) .nil)))))) (.seq (.asg 7 false (.lst (.cons (.call "_law_error" (.cons (.cst (.int 0)) (.cons (.var 9) (.cons (.var 11) (.cons (.cst (.int 0)) .nil))))) (.cons (.call "_law_error" (.cons (.cst (.int 1)) (.cons (.var 9) (.cons (.var 10) (.cons (.var 5) .nil))))) .nil)))) (.seq (.asg 7 false (.bin .add (.var 7) (.lst (.cons (.call "_law_error" (.cons (.cst (.int 2)) (.cons (.var 9) (.cons (.var 11) (.cons (.var 6) .nil))))) .nil)))) (.seq (.asg 7 false (.bin .add (.var 7) (.lst (.cons (.call "_law_error" (.cons (.cst (.int 1)) (.cons (.var 1) (.cons (.var 10) (.cons (.var 5) .nil))))) (.cons (.call "_law_error" (.cons (.cst (.int 1)) (.cons (.var 1) (.cons (.var 12) (.cons (.var 5) .nil))))) .nil))))) (.seq (.asg 7 false (.bin .add (.var 7) (.lst (.cons (.call "_law_error" (.cons (.cst (.int 2)) (.cons (.var 1) (.cons (.var 11) (.cons (.var 6) .nil))))) .nil)))) (.seq (.ret (.cmp .eq (.bin .add (.var 7) (.lst (.cons (.call "_law_error" (.cons (.cst (.int 2)) (.cons (.var 1) (.cons (.var 8) (.cons (.var 6) .nil))))) .nil))) (.lst (.cons (.cst (.int 0)) (.cons (.cst (.int 0)) (.cons (.cst (.int 0)) (.cons (.cst (.int 1)) (.cons (.cst (.int 2)) (.cons (.cst (.int 3)) (.cons (.cst (.int 4)) .nil)))))))))) .skip)))))))))))
theorem wterm : b_law = .seq (.iff (.bnot (.call "_law_fixed" .nil)) (.seq (.ret (.cst (.bool false))) .skip) .skip) (.seq (.asg 1 false (.call "_law_season" (.cons (.var 0) (.cons (.cst (.int 10)) (.cons (.cst (.int 4096)) .nil))))) (.seq (.asg 2 false (.sl (.cst (.str "abcd")) .nil (.cons (.idx (.var 1) (.cst (.int 0))) .nil))) (.seq wF2 wK1))) := rfl
abbrev S0 : Sig := Sg T0 39
theorem c0 {f : Str} {ds : List PyData} {r : R PyData} (h : L.contains f = true) (e : cM 39 f ds = r) : S0.cl f ds = r := cl h e
/-! what raises -/
theorem err0 {a b c : PyData} {x : Str} {i : Int} (h : cM 38 "is_table" [a, b] = .exc x) (h9 : X.sub x "TableError" = true) (hf : firstTrue [X.sub x "InvalidSeason", X.sub x "InvalidBook", X.sub x "InvalidResults", X.sub x "InvalidTable", X.sub x "InvalidSide"] = .ok (.int i)) : S0.cl "_law_error" [.int 0, a, b, c] = .ok (.int i) := by
  suffices q : cd T0 39 "_law_error" [.int 0, a, b, c] = .ok (.int i) from q
  rw [cd_succ T0 (df := ⟨6, 4, b__law_error⟩) (by kernel_rfl) rfl]
  show (ex (Sg T0 38) 100 b__law_error (startE 6 _)).fin = _
  have e1 := cl (n := 38) (f := "is_table") (by decide +kernel) h
  have hS : (Sg T0 38).sub = X.sub := rfl
  generalize Sg T0 38 = S at e1 hS ⊢
  simp [ex, ev, evs, evC, evAnd, evOr, evO, its, evPar, putPar, bindT, bindTs, optInt, R.chk, getV_sl, ownL_sl, ownDi_sl, appO_sl, freeze_sl, dputO_sl, le_line, startE, b__law_error, eqD_int, e1, hS, h9, hf]
theorem err1 {a b c : PyData} {x : Str} {i : Int} (h : cM 38 "table_of" [a, b, c] = .exc x) (h9 : X.sub x "TableError" = true) (hf : firstTrue [X.sub x "InvalidSeason", X.sub x "InvalidBook", X.sub x "InvalidResults", X.sub x "InvalidTable", X.sub x "InvalidSide"] = .ok (.int i)) : S0.cl "_law_error" [.int 1, a, b, c] = .ok (.int i) := by
  suffices q : cd T0 39 "_law_error" [.int 1, a, b, c] = .ok (.int i) from q
  rw [cd_succ T0 (df := ⟨6, 4, b__law_error⟩) (by kernel_rfl) rfl]
  show (ex (Sg T0 38) 100 b__law_error (startE 6 _)).fin = _
  have e1 := cl (n := 38) (f := "table_of") (by decide +kernel) h
  have hS : (Sg T0 38).sub = X.sub := rfl
  generalize Sg T0 38 = S at e1 hS ⊢
  simp [ex, ev, evs, evC, evAnd, evOr, evO, its, evPar, putPar, bindT, bindTs, optInt, R.chk, getV_sl, ownL_sl, ownDi_sl, appO_sl, freeze_sl, dputO_sl, le_line, startE, b__law_error, eqD_int, pickF, L2.atI, L2.ixN, e1, hS, h9, hf]
theorem err2 {a b c : PyData} {x : Str} {i : Int} (h : cM 38 "place_in" [a, b, c] = .exc x) (h9 : X.sub x "TableError" = true) (hf : firstTrue [X.sub x "InvalidSeason", X.sub x "InvalidBook", X.sub x "InvalidResults", X.sub x "InvalidTable", X.sub x "InvalidSide"] = .ok (.int i)) : S0.cl "_law_error" [.int 2, a, b, c] = .ok (.int i) := by
  suffices q : cd T0 39 "_law_error" [.int 2, a, b, c] = .ok (.int i) from q
  rw [cd_succ T0 (df := ⟨6, 4, b__law_error⟩) (by kernel_rfl) rfl]
  show (ex (Sg T0 38) 100 b__law_error (startE 6 _)).fin = _
  have e1 := cl (n := 38) (f := "place_in") (by decide +kernel) h
  have hS : (Sg T0 38).sub = X.sub := rfl
  generalize Sg T0 38 = S at e1 hS ⊢
  simp [ex, ev, evs, evC, evAnd, evOr, evO, its, evPar, putPar, bindT, bindTs, optInt, R.chk, getV_sl, ownL_sl, ownDi_sl, appO_sl, freeze_sl, dputO_sl, le_line, startE, b__law_error, eqD_int, pickF, L2.atI, L2.ixN, e1, hS, h9, hf]
/-! the law's turns -/
section
variable {sc : PyData} {kd : Kd} {ss : List (Int × Int)}
abbrev Q1 : PyData → Prop := fun d => d = .bool true
theorem in_loop {t : List (List Sd)} (hse : Sea kd.m kd.l ss) (ht : t ∈ kd.ts) {bD rD : PyData} {env : Rf.Env} (h : Has env 15 [(0, false, sc), (1, false, season kd.m kd.l ss), (2, false, gd kd.ss), (8, false, encT t), (12, false, bD), (13, false, rD)]) :
    Wp (ex S0 100 wF1 env) (fun env => Has env 15 [(0, false, sc), (1, false, season kd.m kd.l ss), (2, false, gd kd.ss), (8, false, encT t), (12, false, bD), (13, false, rD)]) Q1 := by
  have hi := itemsK_grp kd.ss (by have := ss_len kd; omega)
  refine Wp.for_ (xs := kd.ss) sd ?_ (fun _ env => Has env 15 [(0, false, sc), (1, false, season kd.m kd.l ss), (2, false, gd kd.ss), (8, false, encT t), (12, false, bD), (13, false, rD)]) h (fun p s q env hq hE => ?_) fun env h => h
  · simp only [has_cons, has_nil] at h
    obtain ⟨h0, h1, h2, h8, h12, h13, hn⟩ := h
    generalize gd kd.ss = G at hi h2
    simp [ex, ev, evs, evC, evAnd, evOr, evO, its, evPar, putPar, bindT, bindTs, optInt, R.chk, getV_sl, ownL_sl, ownDi_sl, appO_sl, freeze_sl, dputO_sl, le_line, h2, hi]
  · have hs : s ∈ kd.ss := by rw [hq]; simp
    have e1 := c0 (f := "place_in") (by decide +kernel) (cd_place_in 34 hse ht hs)
    have e2 := c0 (f := "_law_place") (by decide +kernel) (cd_law_place (kd := kd) 38 ht hs)
    have e3 := eqD_int (placeS t s) (placeS t s)
    simp only [has_cons, has_nil] at hE ⊢
    obtain ⟨h0, h1, h2, h8, h12, h13, hn⟩ := hE
    generalize S0 = S at e1 e2 ⊢
    generalize season kd.m kd.l ss = se at h1 e1 ⊢
    generalize encT t = T at h8 e1 e2 ⊢
    generalize gd kd.ss = G at h2 ⊢
    generalize sd s = sD at e1 e2 ⊢
    simp [ex, ev, evs, evC, evAnd, evOr, evO, its, evPar, putPar, bindT, bindTs, optInt, R.chk, getV_sl, ownL_sl, ownDi_sl, appO_sl, freeze_sl, dputO_sl, le_line, wB1, h0, h1, h2, h8, h12, h13, hn, e1, e2, e3]
def Base (sc : PyData) (kd : Kd) (ss : List (Int × Int)) (env : Rf.Env) : Prop := Has env 15 [(0, false, sc), (1, false, season kd.m kd.l ss), (2, false, gd kd.ss)]
def Full (sc : PyData) (kd : Kd) (ss : List (Int × Int)) (env : Rf.Env) : Prop := ∃ b rs, BookOk b ∧ rs.length = kd.mt.length ∧ (∀ r ∈ rs, r ∈ ss) ∧ Has env 15 [(0, false, sc), (1, false, season kd.m kd.l ss), (2, false, gd kd.ss), (8, false, encT (tabR kd b rs)), (12, false, encB b), (13, false, .tuple (rs.map P2))]
theorem turn (hse : Sea kd.m kd.l ss) (ns : List Int) (hn : ns.length ≤ 63) (k : Nat) {env : Rf.Env} (h : Base (.list (ns.map .int)) kd ss env) : Wp ((bindT (.var 3) (.int k) env).toS env (ex S0 100 wB2)) (Full (.list (ns.map .int)) kd ss) Q1 := by
  obtain ⟨b, e1, hb⟩ := cd_law_book 37 ns hn (30 + 10 * k) (by omega)
  obtain ⟨rs, e2, hl, hm⟩ := cd_law_results 37 ns hn (90 + 10 * k) (by omega) kd (ss := ss) (by have := hse.len; omega)
  have e1 := c0 (f := "_law_book") (by decide +kernel) e1
  have e2 := c0 (f := "_law_results") (by decide +kernel) e2
  have e3 := c0 (f := "table_of") (by decide +kernel) (cd_table_of 12 hse hb hl hm)
  have e4 := c0 (f := "_law_table") (by decide +kernel) (cd_law_tableS kd hb ss rs 36)
  have ht := tabO_mem kd hb (rs.map some)
  have e5 := c0 (f := "is_table") (by decide +kernel) (cd_is_table 34 hse (v := encT (tabR kd b rs)) (r := true) fun n => cd_has_table n ht _)
  have e6 := eqD_TT (tabR kd b rs)
  have m10 : mulOk 10 (k : Int) = true := rfl
  have fin : ∀ env, Has env 15 [(0, false, .list (ns.map .int)), (1, false, season kd.m kd.l ss), (2, false, gd kd.ss), (8, false, encT (tabR kd b rs)), (12, false, encB b), (13, false, .tuple (rs.map P2))] → Wp (ex S0 100 wF1 env) (Full (.list (ns.map .int)) kd ss) Q1 := fun env h =>
    Wp.mono (in_loop hse ht h) (fun e he => ⟨b, rs, hb, hl, hm, he⟩) fun d hd => hd
  simp only [Base, has_cons, has_nil] at h
  simp only [has_cons, has_nil] at fin
  obtain ⟨h0, h1, h2, hn⟩ := h
  unfold wB2
  generalize wF1 = F1 at fin ⊢
  generalize encT (tabR kd b rs) = T at e3 e4 e5 e6 fin
  generalize PyData.tuple (rs.map P2) = rD at e2 e3 e4 fin
  generalize encB b = bD at e1 e3 e4 fin
  generalize S0 = S at e1 e2 e3 e4 e5 fin ⊢
  unfold Full at *
  generalize (fun env : Rf.Env => ∃ b rs, BookOk b ∧ rs.length = kd.mt.length ∧ (∀ r ∈ rs, r ∈ ss) ∧ Has env 15 [(0, false, .list (ns.map .int)), (1, false, season kd.m kd.l ss), (2, false, gd kd.ss), (8, false, encT (tabR kd b rs)), (12, false, encB b), (13, false, .tuple (rs.map P2))]) = FE at fin ⊢
  generalize season kd.m kd.l ss = se at h1 e2 e3 e4 e5 fin
  generalize PyData.list (ns.map .int) = sc at h0 e1 e2 fin
  generalize gd kd.ss = G at h2 fin
  simp [ex, ev, evs, evC, evAnd, evOr, evO, its, evPar, putPar, bindT, bindTs, optInt, R.chk, getV_sl, ownL_sl, ownDi_sl, appO_sl, freeze_sl, dputO_sl, le_line, h0, h1, h2, hn, e1, e2, e3, e4, e5, e6, m10, fin]
theorem ends (hse : Sea kd.m kd.l ss) (ns : List Int) (hn : ns.length ≤ 63) {env : Rf.Env} (h : Full (.list (ns.map .int)) kd ss env) : Wp (ex S0 100 wK1 env) (fun _ => False) Q1 := by
  obtain ⟨b, rs, hb, hl, hm, h⟩ := h
  have ht := tabO_mem kd hb (rs.map some)
  have hd : Draws S0 (.list (ns.map .int)) := fun k many hk hm => by
    obtain ⟨r, h1, h2⟩ := draws MLA 38 ns hn k many hk hm
    exact ⟨r, c0 (f := "_law_drawn") (by decide +kernel) h1, h2⟩
  obtain ⟨od, hod, e1⟩ := cd_law_badseason 37 ns hn 1 (by decide)
  obtain ⟨bd, hbd, e2⟩ := cd_law_badbook 37 ns hn 2 (by decide)
  have e1 := c0 (f := "_law_badseason") (by decide +kernel) e1
  have e2 := c0 (f := "_law_badbook") (by decide +kernel) e2
  obtain ⟨r3, d3, a3, b3⟩ := hd 3 11 (by decide) (by decide)
  obtain ⟨r4, d4, a4, b4⟩ := hd 4 5 (by decide) (by decide)
  obtain ⟨r5, d5, a5, b5⟩ := hd 5 6 (by decide) (by decide)
  obtain ⟨wf, hwf, i1⟩ := ix_in (badT kd) a3 b3
  obtain ⟨wr, hwr, i2⟩ := ix_wrong rs a4 b4
  obtain ⟨wd, hwd, i3⟩ := ix_in badSd a5 b5
  have eL : ∀ env, env.length = 15 → sl env 1 = some (some (false, season kd.m kd.l ss)) → sl env 4 = some (some (false, .list (badT kd))) → ev S0 true wL1 env = .ok (.list []) := fun env hn h1 h4 => by
    unfold wL1
    rw [ev_lc (xs := badT kd) id (fun _ => none) ?_ fun v hv => ?_]
    · simp
    · generalize badT kd = B at h4
      simp [ex, ev, evs, evC, evAnd, evOr, evO, its, evPar, putPar, bindT, bindTs, optInt, R.chk, getV_sl, ownL_sl, ownDi_sl, appO_sl, freeze_sl, dputO_sl, le_line, h4, itemsK]
    · have e := c0 (f := "is_table") (by decide +kernel) (cd_is_table 34 hse (v := v) (r := false) fun n => cd_has_table_no n hv _)
      generalize season kd.m kd.l ss = se at h1 e
      generalize S0 = S at e ⊢
      simp [ex, ev, evs, evC, evAnd, evOr, evO, its, evPar, putPar, bindT, bindTs, optInt, R.chk, getV_sl, ownL_sl, ownDi_sl, appO_sl, freeze_sl, dputO_sl, le_line, lcS, tgVars, R.nox, h1, hn, e]
  have f1 := err0 (b := wf) (c := .int 0) (is_table_bs 33 hod) (i := 0) (by kernel_rfl) (by kernel_rfl)
  have f2 := err1 (table_of_x (y := bd) (z := wr) (cd_check_all_s 32 hod)) (i := 0) (by kernel_rfl) (by kernel_rfl)
  have f3 := err2 (b := wf) (c := wd) (place_in_bs 33 hod) (i := 0) (by kernel_rfl) (by kernel_rfl)
  have f4 := err1 (table_of_x (z := wr) (cd_check_all_b 32 hse hbd)) (i := 1) (by kernel_rfl) (by kernel_rfl)
  have f5 := err1 (table_of_x (cd_check_all_r 32 hse hb hl hm hwr)) (i := 2) (by kernel_rfl) (by kernel_rfl)
  have f6 := err2 (c := wd) (place_in_bt 33 hse hwf) (i := 3) (by kernel_rfl) (by kernel_rfl)
  have f7 := err2 (place_in_bd 33 hse ht hwd) (i := 4) (by kernel_rfl) (by kernel_rfl)
  have g1 := ss_a kd
  have g2 := ss_e kd
  have g3 := ss_rev kd
  have g4 := ss_tail kd
  have g5 := sl1T (rs.map P2)
  have g7 : biD .list [.tuple (rs.map P2)] = .ok (.list (rs.map P2)) := rfl
  have g6 := add_none (l := (rs.map P2).tail) (by have := (mt_len kd).2; simp; omega)
  have seven : eqD (.list [.int 0, .int 0, .int 0, .int 1, .int 2, .int 3, .int 4]) (.list [.int 0, .int 0, .int 0, .int 1, .int 2, .int 3, .int 4]) = .ok true := by kernel_rfl
  have en := eq_nil2
  simp only [has_cons, has_nil] at h
  obtain ⟨h0, h1, h2, h8, h12, h13, hn⟩ := h
  unfold wK1
  simp only [badT] at eL i1
  simp only [badSd] at i3
  generalize wL1 = L1 at eL ⊢
  generalize S0 = S at e1 e2 d3 d4 d5 eL f1 f2 f3 f4 f5 f6 f7 ⊢
  generalize season kd.m kd.l ss = se at h1 eL f4 f5 f6 f7
  generalize PyData.list (ns.map .int) = sc at h0 e1 e2 d3 d4 d5
  generalize encT (tabR kd b rs) = T at h8 f7
  generalize PyData.tuple (rs.map P2) = rD at h13 g5 g7
  generalize encB b = bD at h12 f5
  generalize (rs.map P2).tail = q1 at g5 g6 i2
  generalize rs.map P2 = q2 at g7 i2
  generalize gd (kd.ss ++ [0]) = A1 at eL i1 g1
  generalize (PyData.str (grp kd.ss ++ "e")) = A2 at eL i1 g2
  generalize gd kd.ss.reverse = A3 at eL i1 g3
  generalize gd kd.ss.tail = A4 at eL i1 g4
  generalize gd kd.ss = G at h2 eL i1 g1 g2 g3 g4
  simp [ex, ev, evs, evC, evAnd, evOr, evO, its, evPar, putPar, bindT, bindTs, optInt, R.chk, getV_sl, ownL_sl, ownDi_sl, appO_sl, freeze_sl, dputO_sl, le_line, h0, h1, h2, h8, h12, h13, hn, e1, e2, d3, d4, d5, i1, i2, i3, eL, g1, g2, g3, g4, g5, g6, g7, en, f1, f2, f3, f4, f5, f6, f7, seven]
end
end K05

set_option Elab.async false
set_option linter.all false
set_option maxRecDepth 100000
set_option maxHeartbeats 8000000
namespace K05
open Rf PySem Cr
theorem law_go (S : Sig) (env : Rf.Env) (K : C) (sc se G : PyData) (m : Int) (h0 : sl env 0 = some (some (false, sc))) (hn : env.length = 15) (e0 : S.cl "_law_fixed" [] = .ok (.bool true)) (e1 : S.cl "_law_season" [sc, .int 10, .int 4096] = .ok se) (e2 : slD (.str "abcd") none (some m) = .ok G) (e3 : ixD se (.int 0) = .ok (.int m))
  (fin : ∀ env, sl env 0 = some (some (false, sc)) ∧ sl env 1 = some (some (false, se)) ∧ sl env 2 = some (some (false, G)) ∧ env.length = 15 → Wp (ex S 100 K env) (fun _ => False) (fun d => d = .bool true)) :
  Wp (ex S 100 (.seq (.iff (.bnot (.call "_law_fixed" .nil)) (.seq (.ret (.cst (.bool false))) .skip) .skip) (.seq (.asg 1 false (.call "_law_season" (.cons (.var 0) (.cons (.cst (.int 10)) (.cons (.cst (.int 4096)) .nil))))) (.seq (.asg 2 false (.sl (.cst (.str "abcd")) .nil (.cons (.idx (.var 1) (.cst (.int 0))) .nil))) K))) env) (fun _ => False) (fun d => d = .bool true) := by
  simp [ex, ev, evs, evC, evAnd, evOr, evO, its, evPar, putPar, bindT, bindTs, optInt, R.chk, getV_sl, ownL_sl, ownDi_sl, appO_sl, freeze_sl, dputO_sl, le_line, h0, hn, e0, e1, e2, e3, fin]
theorem fixed_ok : cd T0 39 "_law_fixed" [] = .ok (.bool true) := by kernel_rfl
theorem law_true (ns : List Int) (hl : ns.length ≤ 63) : callD (tabD X.T) X.glf X.sub 100 40 "law" [.list (ns.map .int)] = .ok (.bool true) := by
  show cd T0 40 _ _ = _
  rw [cd_succ T0 (df := ⟨15, 1, b_law⟩) (by kernel_rfl) rfl]
  show (ex S0 100 b_law (startE 15 _)).fin = _
  refine Wp.fin ?_
  obtain ⟨m, l, ss, e1, hse⟩ := cd_law_season MLA 37 ns hl 4096 (by decide)
  obtain ⟨kd, rfl, rfl⟩ := kd_of hse.k
  have e0 : S0.cl "_law_fixed" [] = .ok (.bool true) := fixed_ok
  have e1 := c0 (f := "_law_season") (by decide +kernel) e1
  have e2 := sl_abcd kd
  have e3 : ixD (season kd.m kd.l ss) (.int 0) = .ok (.int kd.m) := rfl
  have fin : ∀ env, Base (.list (ns.map .int)) kd ss env → Wp (ex S0 100 (.seq wF2 wK1) env) (fun _ => False) (fun d => d = .bool true) := fun env h => by
    refine Wp.seq (Wp.for_ (xs := [0, 1, 2, 3, 4, 5]) (fun k : Nat => .int k) (by simp [ex, ev, evs, evC, evAnd, evOr, evO, its, evPar, putPar, bindT, bindTs, optInt, R.chk, getV_sl, ownL_sl, ownDi_sl, appO_sl, freeze_sl, dputO_sl, le_line, rng6]) (fun p env => Base (.list (ns.map .int)) kd ss env ∧ (p = [] ∨ Full (.list (ns.map .int)) kd ss env)) ⟨h, .inl rfl⟩ (fun p k q env hq hE => ?_) fun env h => ?_)
    · refine Wp.mono (turn hse ns hl k hE.1) (fun e he => ⟨?_, .inr he⟩) fun d hd => hd
      obtain ⟨b, rs, hb, hl, hm, h⟩ := he
      simp only [Base, has_cons, has_nil] at h ⊢
      exact ⟨h.1, h.2.1, h.2.2.1, h.2.2.2.2.2.2⟩
    · exact ends hse ns hl (h.2.resolve_left (by simp))
  simp only [Base, has_cons, has_nil] at fin
  rw [wterm]
  exact law_go S0 (startE 15 [.list (ns.map .int)]) (C.seq wF2 wK1) _ _ _ _ rfl rfl e0 e1 e2 e3 fin
end K05

set_option Elab.async false
set_option linter.all false
set_option maxRecDepth 100000
set_option maxHeartbeats 0
namespace K05
open PySem PySem.Spec PyProof.Rows L2 Rf
theorem X_ok : X.ok = true := by decide +kernel
theorem X_flat : X.gl.all (fun p => flatG p.2) = true := by decide +kernel
abbrev R : PySem.W.OpenRow := PySem.W.OpenLaw.row PySem.Challenge.rw_tablebreaks_k05_tables
abbrev hk : PySem.W.Hook := He.hookX 4 X.fa X.fn [] [] X.more
def ob (s : PySem.W.SharedT) : He.AlX := He.obsX 4 X.fa X.fn [] [] X.more (HandSHeadRun.getT s)
theorem ob_eq (s : PySem.W.SharedT) : ob s = hk.obs s.abs := He.obsX_eq (HandSHeadRun.getT_eq s)
def loose : List Str := [("TableError" : Str), ("InvalidSeason" : Str), ("InvalidBook" : Str), ("InvalidResults" : Str), ("InvalidTable" : Str), ("InvalidSide" : Str), ("LETTERS" : Str), ("MAX_SIDES" : Str), ("MAX_TWICE" : Str), ("MAX_GOALS" : Str), ("MAX_SCORES" : Str), ("is_int" : Str), ("is_score" : Str), ("is_rising" : Str), ("is_season" : Str), ("check_season" : Str), ("find_sides" : Str), ("find_matches" : Str), ("has_results" : Str), ("check_results" : Str), ("GOALS" : Str), ("DIFFERENCE" : Str), ("WINS" : Str), ("AWAY" : Str), ("DIRECT" : Str), ("DIRECTDIFF" : Str), ("WORDS" : Str), ("ANEW" : Str), ("ONCE" : Str), ("SHARED" : Str), ("DRAWN" : Str), ("MAX_WIN" : Str), ("MAX_BREAKS" : Str), ("has_breaks" : Str), ("is_book" : Str), ("check_book" : Str), ("played" : Str), ("own_and_other" : Str), ("points_in" : Str), ("difference_in" : Str), ("goals_in" : Str), ("count_for" : Str), ("check_all" : Str), ("has_group" : Str), ("divided" : Str), ("asked" : Str), ("ranked" : Str), ("find_table" : Str), ("table_of" : Str), ("has_table" : Str), ("is_table" : Str), ("check_table" : Str), ("check_side" : Str), ("find_place" : Str), ("place_in" : Str), ("_law_drawn" : Str), ("_law_season" : Str), ("_law_book" : Str), ("_law_matches" : Str), ("_law_results" : Str), ("_law_own" : Str), ("_law_count" : Str), ("_law_split" : Str), ("_law_table" : Str), ("_law_place" : Str), ("_law_badseason" : Str), ("_law_badbook" : Str), ("_law_error" : Str), ("_law_fixed" : Str)]
theorem run (w : World) : HandSHeadRun.RunEq R (PySem.W.view R.prog [74]) hk ob 4000 loose w := by
  intro os
  kernel_rfl
end K05
open PySem PySem.W PySem.Calls PyProof.Rows
theorem K05.holds (hm : ∀ ns : List Int, ns.length ≤ 63 → Rf.callD (Rf.tabD K05.X.T) K05.X.glf K05.X.sub 100 40 "law" [.list (ns.map .int)] = .ok (.bool true)) : PySem.Challenge.rw_tablebreaks_k05_tables.Holds := by
  w_on; o_law
  refine HandSHeadRun.head_any (r := OpenLaw.row PySem.Challenge.rw_tablebreaks_k05_tables) (q := view (OpenLaw.row PySem.Challenge.rw_tablebreaks_k05_tables).prog [74]) (H := K05.hk) (ob := K05.ob) (M := 4000) (loose := K05.loose) (d := HandSHeadRun.topDef (OpenLaw.row PySem.Challenge.rw_tablebreaks_k05_tables).prog 74) (kwd := []) K05.ob_eq
    (by kernel_rfl) (fun s => by kernel_rfl) K05.run (by kernel_rfl) (by kernel_rfl) (by kernel_rfl) (by rfl) (by first | assumption | decide +kernel) (by decide +kernel) ⟨rfl, rfl, rfl, rfl, rfl, by decide +kernel⟩ ?hw ?hc
  case hw => w_witness2
  case hc =>
    refine L2.walk_ofE (l := PySem.Challenge.rw_tablebreaks_k05_tables) (n := 63) (k := 40) (x := "_law_script") (CX := L2.CX0) rfl (by decide) (by kernel_rfl) ⟨rfl, by decide, by decide⟩ ?F (fun _ _ _ _ z => z)
    intro w mg fa h Y G hmg0
    obtain ⟨K, KX, c⟩ := Y
    have hmg : mg ("law" : PySem.Str) = some (.ref fa) := by
      have e : (HandSHeadRun.topDef (OpenLaw.row PySem.Challenge.rw_tablebreaks_k05_tables).prog 74).name = ("law" : PySem.Str) := by kernel_rfl
      rw [← e]
      exact hmg0
    obtain ⟨fd, hb, hF⟩ := Rf.law_fn (P := (PySem.Challenge.rw_tablebreaks_k05_tables).prog) (w := w) (X := K05.X) (fuel := 100) (n := 39) (d := K05.d_law) (lw := "law") (x := "_law_script") KX G c K05.X_ok K05.binds K05.X_flat (by unfold K05.X K05.T; simp) rfl rfl (by kernel_rfl) hmg hm
    exact ⟨K, fd, Rf.spLaw K, KX, hb, fun H a ns hl _ hS => ⟨a, ns, rfl, hl, hS, fun _ => rfl⟩, fun base _ _ => hF base⟩

theorem PySem.Challenge.cw_tablebreaks_k05_tables_holds : PySem.Challenge.rw_tablebreaks_k05_tables.Holds :=
  K05.holds K05.law_true

