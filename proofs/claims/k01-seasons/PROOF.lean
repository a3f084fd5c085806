import PyProof.Rows.All
import Wide.All
import OpenK.AllK
import Wide.FinOn
import HandS.ForMost
import HandS.TupAny
import HandS.Deep
import HandS.Style
import HandS.Walk
import HandS.IsInst
import KE.SortData
import HandS.TupSets
import HandS.Wide
import KE.DataCmp
import HandS.ExcOwn
import HandS.WordsExc
import KE.GoesEnum
import KE.GoesMore
import KE.GoesZip
import HandS.ExcIs
import HandS.Defaults
import HandS.HeadHook1
import HandS.HeadHook2
import HandS.HeadHook4
import HandS.Head0
import HandS.Head1
import HandS.Head2
import HandS.HeadEnd
import KE.KStateDown
import Lean
import HandS.More
import PySem.Challenge.RW_tablebreaks_k01_seasons
set_option Elab.async false
set_option linter.all false
/-! Rf, part A: the core syntax and its evaluator. Plain Lean, no program. -/
namespace Rf
open PySem

abbrev D := PyData
inductive R (α : Type) where
  | ok (a : α) | exc (c : Str) | bad
def R.bind {α β : Type} (x : R α) (f : α → R β) : R β := match x with
  | .ok a => f a
  | .exc c => .exc c
  | .bad => .bad
@[simp] theorem R.bind_ok {α β : Type} (a : α) (f : α → R β) : (R.ok a).bind f = f a := rfl
@[simp] theorem R.bind_exc {α β : Type} (c : Str) (f : α → R β) : (R.exc c : R α).bind f = .exc c := rfl
@[simp] theorem R.bind_bad {α β : Type} (f : α → R β) : (R.bad : R α).bind f = .bad := rfl
/-- an exception isn't carried -/
def R.nox {α : Type} (x : R α) : R α := match x with
  | .ok a => .ok a
  | _ => .bad
@[simp] theorem R.nox_ok {α : Type} (a : α) : (R.ok a).nox = .ok a := rfl
def R.chk {α : Type} (b : Bool) (x : R α) : R α := match b with | true => x | false => .bad
@[simp] theorem R.chk_true {α : Type} (x : R α) : R.chk true x = x := rfl
@[simp] theorem R.chk_false {α : Type} (x : R α) : R.chk false x = .bad := rfl

inductive Bop where | add | sub | mul | fdiv | mod | pow
  deriving DecidableEq
inductive Cop where | lt | le | gt | ge | eq | ne | isin | notin | is | isnot
  deriving DecidableEq
/-- built-in functions of values -/
inductive BI where | len | all | sum | sorted | rsorted | lenset | sortset | list | tuple | int | isInt | isBool | isTuple | isStr | isList | min | max | str
  deriving DecidableEq

inductive C where
  | nil | cons (h t : C)
  | var (i : Nat) | cst (d : PyData) | glob (x : Str)
  | bin (o : Bop) (a b : C) | cmp (o : Cop) (a b : C) | chain (o1 o2 : Cop) (a b c : C)
  | band (es : C) | bor (es : C) | bnot (a : C) | ife (c a b : C)
  | tup (es : C) | lst (es : C)
  | idx (a b : C) | sl (a lo hi : C) | rev (a : C)
  | call (f : Str) (es : C) | bi (b : BI) (es : C)
  | itm (a : C) | enum (a : C) | zip (a b : C) | rng (es : C)
  | lc (tg : C) (it : C) (cond : C) (elt : C)
  -- statements
  | skip | seq (a b : C) | asg (i : Nat) (own : Bool) (e : C) | unp (tg : C) (e : C) | par (tg : C) (own : List Bool) (es : C)
  | iff (c a b : C) | for_ (tg it body : C) | while_ (c body : C)
  | ret (e : C) | app (i : Nat) (e : C) | ext (i : Nat) (e : C) | exp (e : C) | fz (i : Nat) (rest : C)
  | raise (x : Str) | calls (fs : List Str) (k es : C) | tryx (x : Str) (ei fi : Nat) (gs : List (List Str)) (body : C)

/-! ### values -/
def lineN : Nat := 16777216
def items : D → R (List D)
  | .list ds => .ok ds
  | .tuple ds => .ok ds
  | .str z => R.chk (decide (z.length ≤ lineN)) (.ok (z.cps.toList.map fun c => .str ⟨#[c]⟩))
  | _ => .bad
def toBool : D → R Bool | .bool b => .ok b | _ => .bad

def addD : D → D → R D
  | .int i, .int j => .ok (.int (i + j))
  | .str a, .str b => R.chk (decide (a.length + b.length ≤ lineN)) (.ok (.str (a ++ b)))
  | .tuple a, .tuple b => R.chk (decide (a.length + b.length ≤ lineN)) (.ok (.tuple (a ++ b)))
  | .list a, .list b => R.chk (decide (a.length + b.length ≤ lineN)) (.ok (.list (a ++ b)))
  | _, _ => .bad
def mulOk (i j : Int) : Bool := (decide (-(2 ^ 64) < i) && decide (i < 2 ^ 64)) || (decide (-(2 ^ 64) < j) && decide (j < 2 ^ 64))
def mulD : D → D → R D
  | .int i, .int j => R.chk (mulOk i j) (.ok (.int (i * j)))
  | .list a, .int k => R.chk (decide (-(2 ^ 63) ≤ k) && decide (k < 2 ^ 63) && decide (a.length * k.toNat ≤ lineN)) (.ok (.list (List.replicate k.toNat a).flatten))
  | _, _ => .bad
def binD : Bop → D → D → R D
  | .add, a, b => addD a b
  | .sub, .int i, .int j => .ok (.int (i - j))
  | .mul, a, b => mulD a b
  | .fdiv, .int i, .int j => R.chk (decide (0 < j) && decide (j < 2 ^ 200)) (.ok (.int (i / j)))
  | .mod, .int i, .int j => R.chk (decide (0 < j)) (.ok (.int (i % j)))
  | .pow, .int i, .int j => R.chk (decide (0 ≤ j) && decide (j ≤ 1000000) && decide (i.natAbs < 2 ^ 64)) (.ok (.int (i ^ j.toNat)))
  | _, _, _ => .bad

/-- order of intsOf, texts, tuples of these -/
def strLt (a b : Str) : Bool := decide (a.cps.toList < b.cps.toList)
def shp (d : D) : Bool := SeqAt.shaped d
def eqD (d e : D) : R Bool := R.chk (shp d && shp e) (.ok (PyData.eqv d e))
def inD (d : D) : D → R Bool
  | .list ds => R.chk (shp d && shp (.list ds)) (.ok (ds.any fun z => PyData.eqv z d))
  | .tuple ds => R.chk (shp d && shp (.tuple ds)) (.ok (ds.any fun z => PyData.eqv z d))
  | .str z => match d with
    | .str x => .ok (!(Builtin.Str.occurrences z x 0 z.length 1).isEmpty)
    | _ => .bad
  | _ => .bad
def isNone : D → Bool | .none => true | _ => false
/-- tuples in their order -/
def ordT (d e : D) (b : Bool) : R Bool := R.chk (PySem.W.alike d e && decide (d.depth ≤ 60)) (.ok b)
def cmpB : Cop → D → D → R Bool
  | .lt, .int i, .int j => .ok (decide (i < j))
  | .le, .int i, .int j => .ok (decide (i ≤ j))
  | .gt, .int i, .int j => .ok (decide (j < i))
  | .ge, .int i, .int j => .ok (decide (j ≤ i))
  | .lt, .str a, .str b => .ok (strLt a b)
  | .lt, .tuple a, .tuple b => ordT (.tuple a) (.tuple b) (PySem.W.dataLt (.tuple a) (.tuple b))
  | .gt, .tuple a, .tuple b => ordT (.tuple a) (.tuple b) (PySem.W.dataLt (.tuple b) (.tuple a))
  | .le, .tuple a, .tuple b => ordT (.tuple a) (.tuple b) (!PySem.W.dataLt (.tuple b) (.tuple a))
  | .ge, .tuple a, .tuple b => ordT (.tuple a) (.tuple b) (!PySem.W.dataLt (.tuple a) (.tuple b))
  | .eq, d, e => eqD d e
  | .ne, d, e => (eqD d e).bind fun b => .ok (!b)
  | .isin, d, e => inD d e
  | .notin, d, e => (inD d e).bind fun b => .ok (!b)
  | .is, d, .none => .ok (isNone d)
  | .isnot, d, .none => .ok (!isNone d)
  | .is, .bool a, .bool b => .ok (decide (a = b))
  | .isnot, .bool a, .bool b => .ok (!decide (a = b))
  | _, _, _ => .bad
def cmpD (o : Cop) (d e : D) : R D := (cmpB o d e).bind fun b => .ok (.bool b)

def ixD : D → D → R D
  | .list ds, .int i => match L2.atI ds i with | some d => .ok d | none => .bad
  | .tuple ds, .int i => match L2.atI ds i with | some d => .ok d | none => .bad
  | .str z, .int i => R.chk (decide (z.length ≤ lineN)) (match L2.atI z.cps.toList i with | some c => .ok (.str ⟨#[c]⟩) | none => .bad)
  | _, _ => .bad
def cutL {α : Type} (ds : List α) (lo hi : Option Int) : List α := (ds.drop (HT.sIx ds.length 0 lo)).take (HT.sIx ds.length ds.length hi - HT.sIx ds.length 0 lo)
def slD (d : D) (lo hi : Option Int) : R D := match d with
  | .list ds => .ok (.list (cutL ds lo hi))
  | .tuple ds => .ok (.tuple (cutL ds lo hi))
  | .str z => R.chk (decide (z.length ≤ lineN)) (.ok (.str (L2.cutS z lo hi)))
  | _ => .bad
def revD : D → R D
  | .list ds => .ok (.list ds.reverse)
  | .tuple ds => R.chk (decide (ds.length ≤ lineN)) (.ok (.tuple ds.reverse))
  | _ => .bad

def boolsOf : List D → R (List Bool)
  | [] => .ok []
  | .bool b :: r => (boolsOf r).bind fun bs => .ok (b :: bs)
  | _ :: _ => .bad
def intsOf : List D → R (List Int)
  | [] => .ok []
  | .int b :: r => (intsOf r).bind fun bs => .ok (b :: bs)
  | _ :: _ => .bad
def lenD : D → R D
  | .list ds => .ok (.int ds.length)
  | .tuple ds => .ok (.int ds.length)
  | .str z => R.chk (decide (z.length ≤ lineN)) (.ok (.int z.length))
  | _ => .bad
def isIntD : D → Bool | .int _ => true | .bool _ => true | _ => false
def isBoolD : D → Bool | .bool _ => true | _ => false
def isTupleD : D → Bool | .tuple _ => true | _ => false
def isListD : D → Bool | .list _ => true | _ => false
def isStrD : D → Bool | .str _ => true | _ => false
/-! sorting, sets -/
def ins {α : Type} (le : α → α → Bool) (x : α) : List α → List α
  | [] => [x]
  | y :: ys => match le x y with | true => x :: y :: ys | false => y :: ins le x ys
def isort {α : Type} (le : α → α → Bool) : List α → List α
  | [] => []
  | x :: xs => ins le x (isort le xs)
def alikeAllB (ds : List D) : Bool := ds.all fun a => ds.all fun b => PySem.W.alike a b
def sortableB (ds : List D) : Bool := (ds.all fun d => match d with | .tuple (_ :: _) => true | _ => false) || ds.all fun d => match d with | .none => false | .tuple _ => false | _ => true
def depthB (ds : List D) : Bool := ds.all fun d => decide (d.depth ≤ 60)
def sortD (rev : Bool) (ds : List D) : R D := R.chk (decide (ds.length ≤ lineN) && alikeAllB ds && sortableB ds && depthB ds) (.ok (.list (isort (PySem.W.dataLe rev id) ds)))
def tupInts : D → R (List Int) | .tuple ds => intsOf ds | _ => .bad
def keysD : List D → R (List (List Int))
  | [] => .ok []
  | d :: r => (tupInts d).bind fun k => (keysD r).bind fun ks => .ok (k :: ks)
def distinct {α : Type} [DecidableEq α] : List α → List α
  | [] => []
  | x :: xs => match decide (x ∈ xs) with | true => distinct xs | false => x :: distinct xs
def lenSetD : D → R D
  | .list ds => R.chk (decide (ds.length < 64)) ((keysD ds).bind fun ks => .ok (.int (distinct ks).length))
  | _ => .bad
def biD : BI → List D → R D
  | .sorted, [.list ds] => sortD false ds
  | .lenset, [d] => lenSetD d
  | .len, [d] => lenD d
  | .all, [.list ds] => (boolsOf ds).bind fun bs => .ok (.bool (bs.all id))
  | .sum, [.list ds] => (intsOf ds).bind fun is => .ok (.int is.sum)
  | .list, [.list ds] => .ok (.list ds)
  | .list, [.tuple ds] => .ok (.list ds)
  | .tuple, [.list ds] => .ok (.tuple ds)
  | .tuple, [.tuple ds] => .ok (.tuple ds)
  | .int, [.int i] => .ok (.int i)
  | .isInt, [d] => .ok (.bool (isIntD d))
  | .isBool, [d] => .ok (.bool (isBoolD d))
  | .isTuple, [d] => .ok (.bool (isTupleD d))
  | .isList, [d] => .ok (.bool (isListD d))
  | .isStr, [d] => .ok (.bool (isStrD d))
  | _, _ => .bad

/-! ### the environment -/
abbrev Env := List (Option (Bool × D))
/-- the value of a name; t: where a value is only read (its own list may be handed) -/
def getV (t : Bool) (env : Env) (i : Nat) : R D := match env[i]? with
  | some (some (o, d)) => R.chk (t || !o) (.ok d)
  | _ => .bad
/-- names as targets: a name, or a tuple of names -/
def bindTs : C → List D → Env → R Env
  | .nil, [], env => .ok env
  | .cons (.var i) t, d :: ds, env => R.chk (decide (i < env.length)) (bindTs t ds (env.set i (some (false, d))))
  | _, _, _ => .bad
def bindT : C → D → Env → R Env
  | .var i, d, env => R.chk (decide (i < env.length)) (.ok (env.set i (some (false, d))))
  | .tup ts, .tuple ds, env => bindTs ts ds env
  | _, _, _ => .bad
def tgVars : C → List Nat
  | .var i => [i]
  | .nil => []
  | .cons h t => tgVars h ++ tgVars t
  | .tup ts => tgVars ts
  | _ => []
def wipeE (env : Env) : List Nat → Env
  | [] => env
  | v :: vs => (wipeE env vs).set v none
def pairs : Int → List D → List D
  | _, [] => []
  | k, d :: ds => .tuple [.int k, d] :: pairs (k + 1) ds
def zips : List D → List D → List D
  | a :: as, b :: bs => .tuple [a, b] :: zips as bs
  | _, _ => []
def rangeD (lo : Int) (n : Nat) : List D := (List.range n).map fun i => .int (lo + (i : Nat))
def rngD : List D → R (List D)
  | [.int j] => R.chk (decide (-(2 ^ 62) ≤ j) && decide (j < 2 ^ 62) && decide (j.toNat ≤ lineN)) (.ok (rangeD 0 j.toNat))
  | [.int i, .int j] => R.chk (decide (-(2 ^ 62) ≤ i) && decide (i < 2 ^ 62) && decide (-(2 ^ 62) ≤ j) && decide (j < 2 ^ 62) && decide ((j - i).toNat ≤ lineN)) (.ok (rangeD i (j - i).toNat))
  | _ => .bad
/-- a comprehension's items -/
def lcGo (f : D → R (Option D)) : List D → R (List D)
  | [] => .ok []
  | x :: xs => (f x).bind fun o => (lcGo f xs).bind fun r => .ok (match o with | some d => d :: r | none => r)
/-- which of the functions -/
def pickF (fs : List Str) : D → R Str | .int i => (match L2.atI fs i with | some f => .ok f | none => .bad) | _ => .bad
def optInt : D → R (Option Int) | .int i => .ok (some i) | _ => .bad

/-- what a text's names mean: its defs, its constants -/
structure Sig where
  cl : Str → List D → R D
  gl : Str → R D
  /-- is the class a subclass of the other -/
  sub : Str → Str → Bool
mutual
def ev (S : Sig) (t : Bool) : C → Env → R D
  | .var i, env => getV t env i
  | .cst d, _ => .ok d
  | .glob x, _ => S.gl x
  | .bin o a b, env => (ev S true a env).bind fun x => (ev S true b env).bind fun y => binD o x y
  | .cmp o a b, env => (ev S true a env).bind fun x => (ev S true b env).bind fun y => cmpD o x y
  | .chain o1 o2 a b c, env => (ev S true a env).bind fun x => (ev S true b env).bind fun y => (cmpB o1 x y).bind fun k =>
      match k with | true => (ev S true c env).bind fun z => cmpD o2 y z | false => .ok (.bool false)
  | .band es, env => evAnd S es env
  | .bor es, env => evOr S es env
  | .bnot a, env => (ev S true a env).bind fun x => (toBool x).bind fun k => .ok (.bool (!k))
  | .ife c a b, env => (ev S true c env).bind fun x => (toBool x).bind fun k => match k with | true => ev S false a env | false => ev S false b env
  | .tup es, env => (evs S false es env).bind fun ds => R.chk (decide (ds.length ≤ lineN)) (.ok (.tuple ds))
  | .lst es, env => (evs S false es env).bind fun ds => R.chk (decide (ds.length ≤ lineN)) (.ok (.list ds))
  | .idx a b, env => (ev S true a env).bind fun x => (ev S true b env).bind fun y => ixD x y
  | .sl a lo hi, env => (ev S true a env).bind fun x => (evO S lo env).bind fun l => (evO S hi env).bind fun h => slD x l h
  | .rev a, env => (ev S true a env).bind fun x => revD x
  | .call f es, env => (evs S false es env).bind fun ds => S.cl f ds
  | .calls fs k es, env => (ev S true k env).bind fun x => (pickF fs x).bind fun f => (evs S false es env).bind fun ds => S.cl f ds
  | .bi b es, env => (evs S true es env).bind fun ds => biD b ds
  | .lc tg it cond elt, env => (its S it env).bind fun xs =>
      (lcGo (fun x => ((bindT tg x (wipeE env (tgVars tg))).bind fun env' => (evC S cond env').bind fun k => match k with | true => (ev S false elt env').bind fun d => .ok (some d) | false => .ok none).nox) xs).bind fun ds => .ok (.list ds)
  | _, _ => .bad
def evC (S : Sig) : C → Env → R Bool
  | .nil, _ => .ok true
  | .cons c .nil, env => (ev S true c env).bind toBool
  | _, _ => .bad
def evAnd (S : Sig) : C → Env → R D
  | .cons a .nil, env => ev S false a env
  | .cons a r, env => (ev S true a env).bind fun x => (toBool x).bind fun k => match k with | true => evAnd S r env | false => .ok (.bool false)
  | _, _ => .bad
def evOr (S : Sig) : C → Env → R D
  | .cons a .nil, env => ev S false a env
  | .cons a r, env => (ev S true a env).bind fun x => (toBool x).bind fun k => match k with | true => .ok (.bool true) | false => evOr S r env
  | _, _ => .bad
def evO (S : Sig) : C → Env → R (Option Int)
  | .nil, _ => .ok none
  | .cons a .nil, env => (ev S true a env).bind optInt
  | _, _ => .bad
def evs (S : Sig) (t : Bool) : C → Env → R (List D)
  | .nil, _ => .ok []
  | .cons h r, env => (ev S t h env).bind fun d => (evs S t r env).bind fun ds => .ok (d :: ds)
  | _, _ => .bad
def its (S : Sig) : C → Env → R (List D)
  | .itm a, env => (ev S false a env).bind items
  | .enum a, env => (ev S false a env).bind fun d => (items d).bind fun xs => .ok (pairs 0 xs)
  | .zip a b, env => (ev S false a env).bind fun d => (ev S false b env).bind fun e => (items d).bind fun xs => (items e).bind fun ys => .ok (zips xs ys)
  | .rng es, env => (evs S true es env).bind rngD
  | _, _ => .bad
end

/-! ### statements -/
inductive SR where
  | nx (env : Env) | rt (d : D) | bk (env : Env) | ct (env : Env) | exc (c : Str) (env : Env) | bad
def R.toS {α : Type} (x : R α) (env : Env) (f : α → SR) : SR := match x with
  | .ok a => f a
  | .exc c => .exc c env
  | .bad => .bad
@[simp] theorem R.toS_ok {α : Type} (a : α) (env : Env) (f : α → SR) : (R.ok a).toS env f = f a := rfl
@[simp] theorem R.toS_exc {α : Type} (c : Str) (env : Env) (f : α → SR) : (R.exc c : R α).toS env f = .exc c env := rfl
@[simp] theorem R.toS_bad {α : Type} (env : Env) (f : α → SR) : (R.bad : R α).toS env f = .bad := rfl
def SR.then (r : SR) (f : Env → SR) : SR := match r with
  | .nx env => f env
  | .rt d => .rt d
  | .bk env => .bk env
  | .ct env => .ct env
  | .exc c env => .exc c env
  | .bad => .bad
@[simp] theorem SR.then_nx (env : Env) (f : Env → SR) : (SR.nx env).then f = f env := rfl
@[simp] theorem SR.then_rt (d : D) (f : Env → SR) : (SR.rt d).then f = .rt d := rfl
@[simp] theorem SR.then_exc (c : Str) (env : Env) (f : Env → SR) : (SR.exc c env).then f = .exc c env := rfl
@[simp] theorem SR.then_bad (f : Env → SR) : (SR.bad).then f = .bad := rfl
@[simp] theorem SR.then_bk (env : Env) (f : Env → SR) : (SR.bk env).then f = .bk env := rfl
@[simp] theorem SR.then_ct (env : Env) (f : Env → SR) : (SR.ct env).then f = .ct env := rfl
/-- behind a turn -/
def SR.turn (r : SR) (f : Env → SR) : SR := match r with
  | .nx env => f env
  | .ct env => f env
  | .bk env => .nx env
  | .rt d => .rt d
  | .exc c env => .exc c env
  | .bad => .bad
def forGo (f : D → Env → SR) : List D → Env → SR
  | [], env => .nx env
  | x :: xs, env => (f x env).turn (forGo f xs)
def whileGo (c : Env → R Bool) (f : Env → SR) : Nat → Env → SR
  | 0, _ => .bad
  | n + 1, env => (c env).toS env fun k => match k with
    | false => .nx env
    | true => (f env).turn (whileGo c f n)
def putO (env : Env) (i : Nat) (own : Bool) (d : D) : SR := match own, d with
  | true, .list ds => .nx (env.set i (some (true, .list ds)))
  | true, _ => .bad
  | false, d => .nx (env.set i (some (false, d)))
def chkS (b : Bool) (x : SR) : SR := match b with | true => x | false => .bad
@[simp] theorem chkS_true (x : SR) : chkS true x = x := rfl
@[simp] theorem chkS_false (x : SR) : chkS false x = .bad := rfl
/-- the list that the slot owns grows -/
def appO (env : Env) (i : Nat) (ds : List D) : SR := match env[i]? with
  | some (some (true, .list xs)) => chkS (decide (xs.length + ds.length ≤ lineN)) (.nx (env.set i (some (true, .list (xs ++ ds)))))
  | _ => .bad
def ownL (env : Env) (i : Nat) : Bool := match env[i]? with
  | some (some (true, .list _)) => true
  | _ => false
def freeze (env : Env) (i : Nat) : Env := match env[i]? with
  | some (some (_, d)) => env.set i (some (false, d))
  | _ => env
def unlist : D → R (List D) | .list ds => .ok ds | _ => .bad
/-- several values, each to its name: what is laid beside the slots -/
def evPar (S : Sig) : C → List Bool → Env → R Env
  | .nil, [], _ => .ok []
  | .cons e r, true :: os, env => (ev S false e env).bind fun d => (unlist d).bind fun ds => (evPar S r os env).bind fun ts => .ok (some (true, .list ds) :: ts)
  | .cons e r, false :: os, env => (ev S false e env).bind fun d => (evPar S r os env).bind fun ts => .ok (some (false, d) :: ts)
  | _, _, _ => .bad
def putPar : C → Env → Env → R Env
  | .nil, [], env => .ok env
  | .cons (.var i) r, t :: ts, env => R.chk (decide (i < env.length)) (putPar r ts (env.set i t))
  | _, _, _ => .bad
/-- the first True -/
def firstTrue : List Bool → R D
  | [] => .bad
  | true :: _ => .ok (.int 0)
  | false :: r => (firstTrue r).bind fun d => match d with | .int i => .ok (.int (i + 1)) | _ => .bad
def ex (S : Sig) (fuel : Nat) : C → Env → SR
  | .tryx x ei fi gs body, env => match ex S fuel body env with
    | .exc n env' => match S.sub n x with | true => chkS (decide (ei < env'.length) && decide (fi < env'.length)) ((firstTrue (gs.flatten.map (S.sub n))).toS env' .rt) | false => .bad
    | r => r
  | .skip, env => .nx env
  | .seq a b, env => (ex S fuel a env).then (ex S fuel b)
  | .fz i r, env => ex S fuel r (freeze env i)
  | .asg i own e, env => (ev S false e env).toS env fun d => chkS (decide (i < env.length)) (putO env i own d)
  | .unp tg e, env => (ev S false e env).toS env fun d => (bindT tg d env).toS env .nx
  | .par tg own es, env => (evPar S es own env).toS env fun ts => (putPar tg ts env).toS env .nx
  | .iff c a b, env => ((ev S true c env).bind toBool).toS env fun k => match k with | true => ex S fuel a env | false => ex S fuel b env
  | .for_ tg it body, env => (its S it env).toS env fun xs => forGo (fun x env => (bindT tg x env).toS env (ex S fuel body)) xs env
  | .while_ c body, env => whileGo (fun env => (ev S true c env).bind toBool) (ex S fuel body) fuel env
  | .ret e, env => (ev S false e env).toS env .rt
  | .app i e, env => chkS (ownL env i) ((ev S false e env).toS env fun d => appO env i [d])
  | .ext i e, env => chkS (ownL env i) ((ev S false e env).toS env fun d => (unlist d).toS env fun ds => appO env i ds)
  | .exp e, env => (ev S false e env).toS env fun _ => .nx env
  | .raise x, env => .exc x env
  | _, _ => .bad
/-- a def called: its body from its arguments -/
structure Def where
  names : Nat
  arity : Nat
  body : C
def SR.fin (r : SR) : R D := match r with
  | .rt d => .ok d
  | .nx _ => .ok .none
  | .exc c _ => .exc c
  | _ => .bad
def startE (n : Nat) (ds : List D) : Env := ds.map (fun d => some (false, d)) ++ List.replicate (n - ds.length) none
def callD (defs : Str → Option Def) (gl : Str → R D) (sub : Str → Str → Bool) (fuel : Nat) : Nat → Str → List D → R D
  | 0, _, _ => .bad
  | n + 1, f, ds => match defs f with
    | none => .bad
    | some df => R.chk (decide (ds.length = df.arity)) (ex ⟨callD defs gl sub fuel n, gl, sub⟩ fuel df.body (startE df.names ds)).fin
end Rf

set_option Elab.async false
set_option linter.all false
set_option maxHeartbeats 1000000
/-! Rf, part X: the evaluator's steps as rewriting rules. Plain Lean. -/
namespace Rf
open PySem
section
variable {i j : Int} {d e : D} {ds es : List D} {b : Bool} {t : Bool} {x : Option (Bool × D)} {xs : Env} {n : Nat}
@[simp] theorem getV_z (o : Bool) (h : (t || !o) = true) : getV t (some (o, d) :: xs) 0 = .ok d := by unfold getV; simp [h, R.chk]
@[simp] theorem getV_s : getV t (x :: xs) (n + 1) = getV t xs n := by unfold getV; simp
@[simp] theorem binD_addI : binD .add (.int i) (.int j) = .ok (.int (i + j)) := rfl
@[simp] theorem binD_subI : binD .sub (.int i) (.int j) = .ok (.int (i - j)) := rfl
@[simp] theorem binD_mulI (h : mulOk i j = true) : binD .mul (.int i) (.int j) = .ok (.int (i * j)) := by show R.chk (mulOk i j) _ = _; rw [h]; rfl
@[simp] theorem binD_fdivI (h : 0 < j) (h2 : j < 2 ^ 200) : binD .fdiv (.int i) (.int j) = .ok (.int (i / j)) := by show R.chk (decide (0 < j) && decide (j < 2 ^ 200)) _ = _; rw [decide_eq_true h, decide_eq_true h2]; rfl
@[simp] theorem binD_modI (h : 0 < j) : binD .mod (.int i) (.int j) = .ok (.int (i % j)) := by show R.chk (decide (0 < j)) _ = _; rw [decide_eq_true h]; rfl
@[simp] theorem binD_powI (h : 0 ≤ j) (h2 : j ≤ 1000000) (h3 : i.natAbs < 2 ^ 64) : binD .pow (.int i) (.int j) = .ok (.int (i ^ j.toNat)) := by show R.chk (decide (0 ≤ j) && decide (j ≤ 1000000) && decide (i.natAbs < 2 ^ 64)) _ = _; rw [decide_eq_true h, decide_eq_true h2, decide_eq_true h3]; rfl
@[simp] theorem binD_addL (h : ds.length + es.length ≤ lineN) : binD .add (.list ds) (.list es) = .ok (.list (ds ++ es)) := by show R.chk (decide (ds.length + es.length ≤ lineN)) _ = _; rw [decide_eq_true h]; rfl
@[simp] theorem binD_addT (h : ds.length + es.length ≤ lineN) : binD .add (.tuple ds) (.tuple es) = .ok (.tuple (ds ++ es)) := by show R.chk (decide (ds.length + es.length ≤ lineN)) _ = _; rw [decide_eq_true h]; rfl
@[simp] theorem binD_addS {a b : Str} (h : a.length + b.length ≤ lineN) : binD .add (.str a) (.str b) = .ok (.str (a ++ b)) := by show R.chk (decide (a.length + b.length ≤ lineN)) _ = _; rw [decide_eq_true h]; rfl
@[simp] theorem cmpB_lt : cmpB .lt (.int i) (.int j) = .ok (decide (i < j)) := rfl
@[simp] theorem cmpB_le : cmpB .le (.int i) (.int j) = .ok (decide (i ≤ j)) := rfl
@[simp] theorem cmpB_gt : cmpB .gt (.int i) (.int j) = .ok (decide (j < i)) := rfl
@[simp] theorem cmpB_ge : cmpB .ge (.int i) (.int j) = .ok (decide (j ≤ i)) := rfl
@[simp] theorem cmpB_ltT (h : PySem.W.alike (.tuple ds) (.tuple es) = true) (h2 : (PyData.tuple ds).depth ≤ 60) : cmpB .lt (.tuple ds) (.tuple es) = .ok (PySem.W.dataLt (.tuple ds) (.tuple es)) := by show ordT _ _ _ = _; unfold ordT; rw [h, decide_eq_true h2]; rfl
@[simp] theorem cmpB_eq : cmpB .eq d e = eqD d e := by cases d <;> cases e <;> rfl
@[simp] theorem cmpB_ne : cmpB .ne d e = (eqD d e).bind fun b => .ok (!b) := by cases d <;> cases e <;> rfl
@[simp] theorem cmpB_in : cmpB .isin d e = inD d e := by cases d <;> cases e <;> rfl
@[simp] theorem cmpB_notin : cmpB .notin d e = (inD d e).bind fun b => .ok (!b) := by cases d <;> cases e <;> rfl
@[simp] theorem cmpB_isN : cmpB .is d .none = .ok (isNone d) := by cases d <;> rfl
@[simp] theorem cmpB_isnotN : cmpB .isnot d .none = .ok (!isNone d) := by cases d <;> rfl
@[simp] theorem cmpB_isB {a b : Bool} : cmpB .is (.bool a) (.bool b) = .ok (decide (a = b)) := rfl
@[simp] theorem cmpB_isnotB {a b : Bool} : cmpB .isnot (.bool a) (.bool b) = .ok (!decide (a = b)) := rfl
@[simp] theorem cmpD_eq (o : Cop) : cmpD o d e = (cmpB o d e).bind fun b => .ok (.bool b) := rfl
@[simp] theorem toBool_b : Rf.toBool (.bool b) = .ok b := rfl
@[simp] theorem eqD_ok2 (h : shp d = true) (h2 : shp e = true) : eqD d e = .ok (PyData.eqv d e) := by unfold eqD; rw [h, h2]; rfl
@[simp] theorem biD_int : biD .int [.int i] = .ok (.int i) := rfl
@[simp] theorem biD_lenL : biD .len [.list ds] = .ok (.int ds.length) := rfl
@[simp] theorem biD_lenT : biD .len [.tuple ds] = .ok (.int ds.length) := rfl
@[simp] theorem biD_lenS {z : Str} (h : z.length ≤ lineN) : biD .len [.str z] = .ok (.int z.length) := by show R.chk (decide (z.length ≤ lineN)) _ = _; rw [decide_eq_true h]; rfl
@[simp] theorem biD_listL : biD .list [.list ds] = .ok (.list ds) := rfl
@[simp] theorem biD_listT : biD .list [.tuple ds] = .ok (.list ds) := rfl
@[simp] theorem biD_tupleL : biD .tuple [.list ds] = .ok (.tuple ds) := rfl
@[simp] theorem biD_tupleT : biD .tuple [.tuple ds] = .ok (.tuple ds) := rfl
@[simp] theorem biD_isInt : biD .isInt [d] = .ok (.bool (isIntD d)) := by cases d <;> rfl
@[simp] theorem biD_isBool : biD .isBool [d] = .ok (.bool (isBoolD d)) := by cases d <;> rfl
@[simp] theorem biD_isTuple : biD .isTuple [d] = .ok (.bool (isTupleD d)) := by cases d <;> rfl
@[simp] theorem biD_isList : biD .isList [d] = .ok (.bool (isListD d)) := by cases d <;> rfl
@[simp] theorem biD_isStr : biD .isStr [d] = .ok (.bool (isStrD d)) := by cases d <;> rfl
@[simp] theorem biD_all : biD .all [.list ds] = (boolsOf ds).bind fun bs => .ok (.bool (bs.all id)) := rfl
@[simp] theorem biD_sum : biD .sum [.list ds] = (intsOf ds).bind fun is => .ok (.int is.sum) := rfl
@[simp] theorem biD_sorted : biD .sorted [.list ds] = sortD false ds := rfl
@[simp] theorem biD_lenset : biD .lenset [d] = lenSetD d := by cases d <;> rfl
@[simp] theorem putO_f {env : Env} : putO env n false d = .nx (env.set n (some (false, d))) := by unfold putO; rfl
@[simp] theorem putO_t {env : Env} : putO env n true (.list ds) = .nx (env.set n (some (true, .list ds))) := rfl
@[simp] theorem items_l : items (.list ds) = .ok ds := rfl
@[simp] theorem items_t : items (.tuple ds) = .ok ds := rfl
@[simp] theorem turn_nx {env : Env} {f : Env → SR} : (SR.nx env).turn f = f env := rfl
@[simp] theorem turn_rt {f : Env → SR} : (SR.rt d).turn f = .rt d := rfl
@[simp] theorem turn_exc {c : Str} {env : Env} {f : Env → SR} : (SR.exc c env).turn f = .exc c env := rfl
@[simp] theorem fin_rt : (SR.rt d).fin = .ok d := rfl
@[simp] theorem fin_nx {env : Env} : (SR.nx env).fin = .ok .none := rfl
@[simp] theorem fin_exc {c : Str} {env : Env} : (SR.exc c env).fin = .exc c := rfl
@[simp] theorem line_ok {n : Nat} (h : n ≤ 1000000) : n ≤ lineN := Nat.le_trans h (by decide)
end
end Rf

set_option Elab.async false
set_option linter.all false
set_option maxHeartbeats 1000000
/-! Rf, part B: data in the heap; the operations by their rules. -/
namespace Rf
open PySem PySem.Spec PyProof.Rows L2

theorem lineN_eq : lineN = sizeLine := by rw [sizeLine_eq]; rfl
theorem chk_ok {α : Type} {b : Bool} {x : R α} {a : α} (h : R.chk b x = .ok a) : b = true ∧ x = .ok a := by
  cases b with
  | true => exact ⟨rfl, h⟩
  | false => cases h
theorem bind_ok {α β : Type} {x : R α} {f : α → R β} {b : β} (h : x.bind f = .ok b) : ∃ a, x = .ok a ∧ f a = .ok b := by
  cases x with
  | ok a => exact ⟨a, rfl, h⟩
  | exc c => cases h
  | bad => cases h

/-! ### heaps -/
def Gr (F H H' : Hp) : Hp := fun a => match H a with | none => H' a | some _ => F a
theorem gr_none {F H H' : Hp} {a : Addr} (h : H a = none) : Gr F H H' a = H' a := by unfold Gr; rw [h]
theorem gr_some {F H H' : Hp} {a : Addr} {o : HO} (h : H a = some o) : Gr F H H' a = F a := by unfold Gr; rw [h]
theorem gr_sub {F H H' : Hp} (f : Same F H) (s : Same H H') : Same (Gr F H H') H' := fun a o e => by
  cases q : H a with
  | none => rw [gr_none q] at e; exact e
  | some u => rw [gr_some q] at e; exact s a o (f a o e)
theorem gr_F {F H H' : Hp} (f : Same F H) : Same F (Gr F H H') := fun a o e => by
  rw [gr_some (f a o e)]; exact e
theorem gr_left {F H H1 H2 : Hp} (s : Same H1 H2) : Same (Gr F H H1) (Gr F H H2) := fun a o e => by
  cases q : H a with
  | none => rw [gr_none q] at e ⊢; exact s a o e
  | some u => rw [gr_some q] at e ⊢; exact e
theorem gr_gr {F H H1 H2 : Hp} (s : Same H H1) (s2 : Same H1 H2) : Same (Gr (Gr F H H1) H1 H2) (Gr F H H2) := fun a o e => by
  cases q1 : H1 a with
  | none =>
    rw [gr_none q1] at e
    have q : H a = none := s.free q1
    rw [gr_none q]; exact e
  | some u =>
    rw [gr_some q1] at e
    exact gr_left s2 a o e
theorem gr_right {F H H1 H2 : Hp} (f : Same F H) (s : Same H H1) (s2 : Same H1 H2) : Same (Gr F H1 H2) (Gr F H H2) := fun a o e => by
  cases q1 : H1 a with
  | none =>
    rw [gr_none q1] at e
    have q : H a = none := s.free q1
    rw [gr_none q]; exact e
  | some u =>
    rw [gr_some q1] at e
    rw [gr_some (f a o e)]; exact e
theorem gr_self {F H : Hp} : Same (Gr F H H) F := fun a o e => by
  cases q : H a with
  | none => rw [gr_none q, q] at e; cases e
  | some u => rw [gr_some q] at e; exact e
theorem same_upd {H : Hp} {p : Addr} {o : HO} (h : H p = none) : Same H (upd H p o) := fun a u e => by
  rw [upd_ne (ne_of_none e h)]; exact e

theorem _root_.L2.Same.rd {H H' : Hp} {a : Addr} {u : HO} (e : Same H H') (h : Rd H a u) : Rd H' a u := by
  rcases h with h | ⟨o, h⟩
  · exact .inl (e _ _ h)
  · exact .inr ⟨o, e _ _ h⟩
theorem _root_.L2.Same.sqL {K : PySem.W.Frag} {H H' : Hp} {a : Addr} {xs : List V} (e : Same H H') (h : SqL K H a xs) : SqL K H' a xs := by
  rcases h with h | h
  · exact .inl (e.rd h)
  · exact .inr h
theorem _root_.L2.Same.sqT {K : PySem.W.Frag} {H H' : Hp} {a : Addr} {xs : List V} (e : Same H H') (h : SqT K H a xs) : SqT K H' a xs := by
  rcases h with h | h
  · exact .inl (e.rd h)
  · exact .inr h

/-! ### data in the heap -/
mutual
inductive Rp (K : PySem.W.Frag) (H : Hp) : V → D → Prop
  | non : Rp K H .non .none
  | bl (b : Bool) : Rp K H (.bl b) (.bool b)
  | int (i : Int) : Rp K H (.int i) (.int i)
  | str (x : Str) : Rp K H (.str x) (.str x)
  | lst {a : Addr} {xs : List V} {ds : List D} : SqL K H a xs → RpL K H xs ds → Rp K H (.ref a) (.list ds)
  | tup {a : Addr} {xs : List V} {ds : List D} : SqT K H a xs → RpL K H xs ds → Rp K H (.ref a) (.tuple ds)
inductive RpL (K : PySem.W.Frag) (H : Hp) : List V → List D → Prop
  | nil : RpL K H [] []
  | cons {v : V} {vs : List V} {d : D} {ds : List D} : Rp K H v d → RpL K H vs ds → RpL K H (v :: vs) (d :: ds)
end
mutual
theorem Rp.mono {K : PySem.W.Frag} {H H' : Hp} (s : Same H H') : ∀ {v : V} {d : D}, Rp K H v d → Rp K H' v d
  | _, _, .non => .non
  | _, _, .bl b => .bl b
  | _, _, .int i => .int i
  | _, _, .str x => .str x
  | _, _, .lst h r => .lst (s.sqL h) (RpL.mono s r)
  | _, _, .tup h r => .tup (s.sqT h) (RpL.mono s r)
theorem RpL.mono {K : PySem.W.Frag} {H H' : Hp} (s : Same H H') : ∀ {vs : List V} {ds : List D}, RpL K H vs ds → RpL K H' vs ds
  | _, _, .nil => .nil
  | _, _, .cons h r => .cons (Rp.mono s h) (RpL.mono s r)
end
mutual
theorem Rp.dp {K : PySem.W.Frag} {H : Hp} : ∀ {v : V} {d : D}, Rp K H v d → Dp K H v d
  | _, _, .non => .non
  | _, _, .bl b => .bl b
  | _, _, .int i => .int i
  | _, _, .str x => .str x
  | _, _, .lst h r => .lst h (RpL.dp r)
  | _, _, .tup h r => .tup h (RpL.dp r)
theorem RpL.dp {K : PySem.W.Frag} {H : Hp} : ∀ {vs : List V} {ds : List D}, RpL K H vs ds → DpAll K H vs ds
  | _, _, .nil => .nil
  | _, _, .cons h r => .cons (Rp.dp h) (RpL.dp r)
end
/-- the top in H, what is within in G -/
def RpT (K : PySem.W.Frag) (G H : Hp) (v : V) : D → Prop
  | .none => v = .non
  | .bool b => v = .bl b
  | .int i => v = .int i
  | .str z => v = .str z
  | .list ds => ∃ a vs, v = .ref a ∧ SqL K H a vs ∧ RpL K G vs ds
  | .tuple ds => ∃ a vs, v = .ref a ∧ SqT K G a vs ∧ RpL K G vs ds
  | .dict _ => False
section
variable {K : PySem.W.Frag} {F G H H' H1 : Hp} {v : V} {d : D} {vs : List V} {ds : List D}
theorem Rp.top (h : Rp K G v d) (s : Same G H) : RpT K G H v d := by
  cases h with
  | non => rfl
  | bl b => rfl
  | int i => rfl
  | str x => rfl
  | lst h r => exact ⟨_, _, rfl, s.sqL h, r⟩
  | tup h r => exact ⟨_, _, rfl, h, r⟩
theorem RpT.rp (h : RpT K G H v d) (s : Same G H) : Rp K H v d := by
  cases d with
  | none => cases (show v = .non from h); exact .non
  | bool b => cases (show v = .bl b from h); exact .bl b
  | int i => cases (show v = .int i from h); exact .int i
  | str z => cases (show v = .str z from h); exact .str z
  | list ds => obtain ⟨a, vs, rfl, h1, h2⟩ := h; exact .lst h1 (RpL.mono s h2)
  | tuple ds => obtain ⟨a, vs, rfl, h1, h2⟩ := h; exact .tup (s.sqT h1) (RpL.mono s h2)
  | dict _ => exact h.elim
theorem RpT.mono {G' : Hp} (h : RpT K G H v d) (g : Same G G') (s : Same H H') : RpT K G' H' v d := by
  cases d with
  | none => exact h
  | bool b => exact h
  | int i => exact h
  | str z => exact h
  | list ds => obtain ⟨a, vs, rfl, h1, h2⟩ := h; exact ⟨a, vs, rfl, s.sqL h1, RpL.mono g h2⟩
  | tuple ds => obtain ⟨a, vs, rfl, h1, h2⟩ := h; exact ⟨a, vs, rfl, g.sqT h1, RpL.mono g h2⟩
  | dict _ => exact h
theorem RpL.length : ∀ {vs : List V} {ds : List D}, RpL K H vs ds → vs.length = ds.length
  | _, _, .nil => rfl
  | _, _, .cons _ r => by simp only [List.length_cons]; rw [RpL.length r]
theorem RpL.get : ∀ {vs : List V} {ds : List D} {i : Nat} {d : D}, RpL K H vs ds → ds[i]? = some d → ∃ v, vs[i]? = some v ∧ Rp K H v d
  | _, _, _, _, .nil, e => by simp at e
  | _, _, 0, _, .cons h _, e => by simp at e; subst e; exact ⟨_, rfl, h⟩
  | _, _, i + 1, d, .cons _ r, e => by
    obtain ⟨v, h1, h2⟩ := RpL.get (i := i) (d := d) r (by simpa using e)
    exact ⟨v, by simpa using h1, h2⟩
theorem RpL.app : ∀ {vs us : List V} {ds es : List D}, RpL K H vs ds → RpL K H us es → RpL K H (vs ++ us) (ds ++ es)
  | _, _, _, _, .nil, s => s
  | _, _, _, _, .cons h r, s => .cons h (RpL.app r s)
theorem RpL.take : ∀ {vs : List V} {ds : List D} (n : Nat), RpL K H vs ds → RpL K H (vs.take n) (ds.take n)
  | _, _, 0, _ => .nil
  | _, _, _ + 1, .nil => .nil
  | _, _, n + 1, .cons h r => .cons h (RpL.take n r)
theorem RpL.drop : ∀ {vs : List V} {ds : List D} (n : Nat), RpL K H vs ds → RpL K H (vs.drop n) (ds.drop n)
  | _, _, 0, r => r
  | _, _, _ + 1, .nil => .nil
  | _, _, n + 1, .cons _ r => RpL.drop n r
theorem RpL.rev : ∀ {vs : List V} {ds : List D}, RpL K H vs ds → RpL K H vs.reverse ds.reverse
  | _, _, .nil => .nil
  | _, _, .cons h r => by simp only [List.reverse_cons]; exact (RpL.rev r).app (.cons h .nil)
theorem RpL.cut {lo hi : Option Int} (h : RpL K H vs ds) : RpL K H (cutV vs lo hi) (cutL ds lo hi) := by
  unfold cutV cutL
  rw [h.length]
  exact (h.drop _).take _
theorem RpL.rep : ∀ (n : Nat), RpL K H vs ds → RpL K H (List.replicate n vs).flatten (List.replicate n ds).flatten
  | 0, _ => .nil
  | n + 1, h => by simp only [List.replicate_succ, List.flatten_cons]; exact h.app (RpL.rep n h)
theorem atI_rp {i : Int} (h : RpL K H vs ds) (e : atI ds i = some d) : ∃ v, atI vs i = some v ∧ Rp K H v d := by
  unfold atI at e ⊢
  rw [h.length]
  cases q : ixN ds.length i with
  | none => rw [q] at e; cases e
  | some j =>
    rw [q] at e
    obtain ⟨v, h1, h2⟩ := h.get (i := j) (d := d) e
    exact ⟨v, h1, h2⟩
theorem RpL.intsOf : ∀ {ds : List D} {is : List Int} {vs : List V}, RpL K H vs ds → intsOf ds = .ok is → vs = is.map V.int
  | [], is, _, .nil, e => by cases e; rfl
  | _ :: _, is, _, .cons h r, e => by
    cases h with
    | int i =>
      obtain ⟨bs, e1, e2⟩ := bind_ok (show (Rf.intsOf _).bind _ = _ from e)
      cases e2
      rw [RpL.intsOf r e1]; rfl
    | _ => cases e
theorem RpL.boolsOf : ∀ {ds : List D} {is : List Bool} {vs : List V}, RpL K H vs ds → boolsOf ds = .ok is → vs = is.map V.bl
  | [], is, _, .nil, e => by cases e; rfl
  | _ :: _, is, _, .cons h r, e => by
    cases h with
    | bl i =>
      obtain ⟨bs, e1, e2⟩ := bind_ok (show (Rf.boolsOf _).bind _ = _ from e)
      cases e2
      rw [RpL.boolsOf r e1]; rfl
    | _ => cases e
end

/-! ### what is wanted of a result -/
def PostV (K : PySem.W.Frag) (F H : Hp) (r : R D) (Q : VK) : Prop := match r with
  | .ok d => ∀ v H', Same H H' → Rp K (Gr F H H') v d → Q v H'
  | _ => False
/-- a new list -/
def PostN (K : PySem.W.Frag) (F H : Hp) (ds : List D) (Q : VK) : Prop :=
  ∀ vs H1 p, Same H H1 → H1 p = none → RpL K (Gr F H H1) vs ds → Q (.ref p) (upd H1 p (.lst vs))
theorem PostV.n {K : PySem.W.Frag} {F H : Hp} {ds : List D} {Q : VK} (f : Same F H) (h : PostV K F H (.ok (.list ds)) Q) : PostN K F H ds Q := fun vs H1 p s n r =>
  h _ _ (fun a o e => same_upd n a o (s a o e)) (.lst (.inl (.inl (by rw [gr_none (s.free n), upd_same]))) (RpL.mono (gr_left (same_upd n)) r))
/-- a new tuple -/
theorem PostV.t {K : PySem.W.Frag} {F H : Hp} {ds : List D} {Q : VK} {vs : List V} {p : Addr} (f : Same F H) (h : PostV K F H (.ok (.tuple ds)) Q) (n : H p = none) (r : RpL K F vs ds) : Q (.ref p) (upd H p (.tup vs)) :=
  h _ _ (same_upd n) (.tup (.inl (.inl (by rw [gr_none n, upd_same]))) (RpL.mono (gr_F f) r))
theorem PostV.here {K : PySem.W.Frag} {F H : Hp} {d : D} {Q : VK} {v : V} (f : Same F H) (h : PostV K F H (.ok d) Q) (r : Rp K F v d) : Q v H :=
  h v H (fun _ _ e => e) (Rp.mono (gr_F f) r)
theorem PostV.newL {K : PySem.W.Frag} {F H : Hp} {ds : List D} {Q : VK} {vs : List V} {p : Addr} (f : Same F H) (h : PostV K F H (.ok (.list ds)) Q) (n : H p = none) (r : RpL K F vs ds) : Q (.ref p) (upd H p (.lst vs)) :=
  h.n f vs H p (fun _ _ e => e) n (RpL.mono (gr_F f) r)

/-- an operation on two values does what g says -/
def rOp (K : PySem.W.Frag) (g : D → D → R D) : R2 := fun x y H Q => ∃ F d e, Same F H ∧ RpT K F H x d ∧ RpT K F H y e ∧ PostV K F H (g d e) Q

section
variable {X : Cx}
theorem op_subD : OpR X (binaryOp .Sub) (rOp X.K (binD .sub)) := by
  intro pins s σ H x y v u Q I rx ry ⟨F, d, e, f, hx, hy, q⟩
  cases d <;> cases e <;> try exact q.elim
  rename_i i j
  exact op_sub pins s σ H x y v u Q I rx ry ⟨i, j, hx, hy, q.here f (.int _)⟩
theorem op_fdivD : OpR X (binaryOp .FloorDiv) (rOp X.K (binD .fdiv)) := by
  intro pins s σ H x y v u Q I rx ry ⟨F, d, e, f, hx, hy, q⟩
  cases d <;> cases e <;> try exact q.elim
  rename_i i j
  have q' : PostV X.K F H (R.chk (decide (0 < j) && decide (j < 2 ^ 200)) (.ok (.int (i / j)))) Q := q
  cases c : (decide (0 < j) && decide (j < 2 ^ 200)) with
  | false => rw [c] at q'; exact q'.elim
  | true =>
    rw [c] at q'
    simp only [Bool.and_eq_true, decide_eq_true_eq] at c
    exact op_fdivW pins s σ H x y v u Q I rx ry ⟨i, j, hx, hy, wide_div (b := 200) c.1 (by have := c.1; have := c.2; omega) (by decide) (by decide), PostV.here f q' (.int _)⟩
theorem op_modD : OpR X (binaryOp .Mod) (rOp X.K (binD .mod)) := by
  intro pins s σ H x y v u Q I rx ry ⟨F, d, e, f, hx, hy, q⟩
  cases d <;> cases e <;> try exact q.elim
  rename_i i j
  have q' : PostV X.K F H (R.chk (decide (0 < j)) (.ok (.int (i % j)))) Q := q
  cases c : (decide (0 < j)) with
  | false => rw [c] at q'; exact q'.elim
  | true =>
    rw [c] at q'
    simp only [decide_eq_true_eq] at c
    exact op_mod pins s σ H x y v u Q I rx ry ⟨i, j, hx, hy, c, PostV.here f q' (.int _)⟩
theorem op_powD : OpR X (binaryOp .Pow) (rOp X.K (binD .pow)) := by
  intro pins s σ H x y v u Q I rx ry ⟨F, d, e, f, hx, hy, q⟩
  cases d <;> cases e <;> try exact q.elim
  rename_i i j
  have q' : PostV X.K F H (R.chk (decide (0 ≤ j) && decide (j ≤ 1000000) && decide (i.natAbs < 2 ^ 64)) (.ok (.int (i ^ j.toNat)))) Q := q
  cases c : (decide (0 ≤ j) && decide (j ≤ 1000000) && decide (i.natAbs < 2 ^ 64)) with
  | false => rw [c] at q'; exact q'.elim
  | true =>
    rw [c] at q'
    simp only [Bool.and_eq_true, decide_eq_true_eq] at c
    exact op_pow pins s σ H x y v u Q I rx ry ⟨i, j, hx, hy, ⟨c.1.1, c.1.2, c.2⟩, PostV.here f q' (.int _)⟩

/-! ### + and * -/
/-- a list that is read, as its object stands -/
def LsAt (h : Heap) (a : Addr) (its : Array Value) (n : Nat) (sl : Array (Option Value)) : Prop := h.get? a = some { cls := .type "list", dict := none, data := .seq its n, slots := sl }
theorem Inv.sqM {pins : List (Addr × Obj)} {σ : L2.St} {H : Hp} {s : Shared} {l : Addr} {xs : List V} (I : Inv X pins σ H s) (hH : SqL X.K H l xs) : xs.length ≤ sizeLine ∧ ∃ (its : List Value) (n : Nat) (sl : Array (Option Value)), Vals xs its ∧ xs.length = its.length ∧ LsAt s.heap l its.toArray n sl := by
  obtain ⟨its, r, ⟨o, n, e, c, d, q⟩, z⟩ := I.list hH
  refine ⟨z, its, n, o.slots, r, r.length, ?_⟩
  unfold LsAt
  rw [e]
  obtain ⟨oc, od, dt, osl⟩ := o
  cases c; cases d; cases q
  rfl
theorem m_add (l : Addr) (items : Array Value) (n : Nat) (b : Addr) (items2 : Array Value) (n2 : Nat) (sl sl2 : Array (Option Value)) (hc0 : items.size + items2.size ≤ sizeLine) :
    Meets (Builtin.«list.__add__» ⟨[.ref l, .ref b], []⟩) (fun _ R s => LsAt s.heap l items n sl ∧ LsAt s.heap b items2 n2 sl2 ∧ R (.ok (.ret (Value.ref s.heap.objs.size))) { s with heap := s.heap.push { cls := Value.type "list", data := Data.seq (items ++ items2) }, toks := s.toks }) :=
  .of_wp fun prog w A R s h => by obtain ⟨hp, g, d, tk, os⟩ := s; obtain ⟨hl, hb, h⟩ := h; unfold LsAt at hl hb; have f1 := AutoSeq1.idx_int; have f2 := AutoSeq1.sub_tuple_tuple; have f3 := AutoSeq1.sub_list_list; have f4 := AutoSeq1.sub_tuple_list; have f5 := AutoSeq1.sub_list_tuple; wp_walk using AutoSeq1.wpAny_loadPart' hl, AutoSeq1.wpAny_loadPart' hb; exact ⟨_, rfl, h⟩
theorem m_rmul (a : Int) (t : Tok) (l : Addr) (items : Array Value) (n : Nat) (sl : Array (Option Value)) :
    Meets (Builtin.«int.__rmul__» ⟨[.int a t, .ref l], []⟩) (fun _ R s => LsAt s.heap l items n sl ∧ R (.ok (.ret Value.notImplemented)) s) :=
  .of_wp fun prog w A R s h => by obtain ⟨hp, g, d, tk, os⟩ := s; obtain ⟨hl, h⟩ := h; unfold LsAt at hl; wp_walk; exact ⟨_, rfl, h⟩
theorem m_mul (l : Addr) (items : Array Value) (n : Nat) (sl : Array (Option Value)) (x : Int) (u : Tok) (hc0 : ¬(!Builtin.List.listFitsIndex x) = true) (hc1 : ¬items.size * x.toNat > (2 ^ 63 - 1) / 8) (hc2 : ¬Builtin.List.listTooLong (items.size * x.toNat) = true) :
    Meets (Builtin.«list.__mul__» ⟨[.ref l, .int x u], []⟩) (fun _ R s => LsAt s.heap l items n sl ∧ R (.ok (.ret (Value.ref s.heap.objs.size))) { s with heap := s.heap.push { cls := Value.type "list", data := Data.seq (List.foldl (fun x1 x2 => x1 ++ x2) #[] (List.replicate (if items.isEmpty = true then 0 else x.toNat) items)) }, toks := s.toks }) :=
  .of_wp fun prog w A R s h => by
    obtain ⟨hp, g, d, tk, os⟩ := s; obtain ⟨hl, h⟩ := h
    unfold LsAt at hl
    have hsz := AutoListH.joined_fits hc2
    wp_walk; refine wpAny_ite_false (decide_eq_false (Nat.not_lt.mpr hsz)) ?_; wp_walk; exact ⟨_, rfl, h⟩
def rCatD (K : PySem.W.Frag) : R2 := fun x y H Q => ∃ l b xs zs, x = .ref l ∧ y = .ref b ∧ SqL K H l xs ∧ SqL K H b zs ∧ xs.length + zs.length ≤ sizeLine ∧ ∀ p, H p = none → Q (.ref p) (upd H p (.lst (xs ++ zs)))
theorem op_catD : OpR X (binaryOp .Add) (rCatD X.K) := by
  intro pins s σ H x y v u Q I rx ry h
  obtain ⟨l, b, xs, zs, rfl, rfl, hH, hB, hz, q⟩ := h
  cases rx
  cases ry
  obtain ⟨z, its, n, sl, r, hl, e⟩ := Inv.sqM I hH
  obtain ⟨z2, its2, n2, sl2, r2, hl2, e2⟩ := Inv.sqM I hB
  refine concat_meets ⟨_, e, rfl⟩ ⟨_, e2, rfl⟩ noFill_list_add seq_list_add F.slot_list_add F.entry_list_add (F.args_list_add_2 _ _) (m_add l its.toArray n b its2.toArray n2 sl sl2 (by rw [List.size_toArray, List.size_toArray]; omega)) ⟨e, e2, ?_⟩
  have ea : its.toArray ++ its2.toArray = (its ++ its2).toArray := by simp
  rw [ea]
  exact ⟨.ref _, _, I.lnew (t' := s.toks) (r.append r2) (by rw [List.length_append]; omega), rfl, q _ I.fresh⟩
theorem op_addD : OpR X (binaryOp .Add) (rOp X.K (binD .add)) := by
  intro pins s σ H x y v u Q I rx ry ⟨F, d, e, f, hx, hy, q⟩
  cases d <;> cases e <;> try exact q.elim
  case int i j => exact op_add pins s σ H x y v u Q I rx ry ⟨i, j, hx, hy, q.here f (.int _)⟩
  case str a b =>
    have q' : PostV X.K F H (R.chk (decide (a.length + b.length ≤ lineN)) (.ok (.str (a ++ b)))) Q := q
    cases c : (decide (a.length + b.length ≤ lineN)) with
    | false => rw [c] at q'; exact q'.elim
    | true =>
      rw [c] at q'
      simp only [decide_eq_true_eq, lineN_eq] at c
      exact op_add_str pins s σ H x y v u Q I rx ry ⟨a, b, hx, hy, c, PostV.here f q' (.str _)⟩
  case list a b =>
    obtain ⟨l, xs, rfl, hl, rl⟩ := hx
    obtain ⟨m, zs, rfl, hm, rm⟩ := hy
    have q' : PostV X.K F H (R.chk (decide (a.length + b.length ≤ lineN)) (.ok (.list (a ++ b)))) Q := q
    cases c : (decide (a.length + b.length ≤ lineN)) with
    | false => rw [c] at q'; exact q'.elim
    | true =>
      rw [c] at q'
      simp only [decide_eq_true_eq, lineN_eq] at c
      exact op_catD pins s σ H _ _ v u Q I rx ry ⟨l, m, xs, zs, rfl, rfl, hl, hm, by rw [rl.length, rm.length]; exact c, fun p hp => PostV.newL f q' hp (rl.app rm)⟩
  case tuple a b =>
    obtain ⟨l, xs, rfl, hl, rl⟩ := hx
    obtain ⟨m, zs, rfl, hm, rm⟩ := hy
    have q' : PostV X.K F H (R.chk (decide (a.length + b.length ≤ lineN)) (.ok (.tuple (a ++ b)))) Q := q
    cases c : (decide (a.length + b.length ≤ lineN)) with
    | false => rw [c] at q'; exact q'.elim
    | true =>
      rw [c] at q'
      simp only [decide_eq_true_eq, lineN_eq] at c
      refine op_catA pins s σ H _ _ v u Q I rx ry ⟨l, m, xs, zs, rfl, rfl, f.sqT hl, f.sqT hm, by rw [rl.length, rm.length]; exact c, fun e => ?_, fun _ e => ?_, fun _ _ p hp => PostV.t f q' hp (rl.app rm)⟩
      · subst e; cases rl; exact PostV.here f q' (.tup hm rm)
      · subst e; cases rm; exact PostV.here f q' (.tup hl (by rw [List.append_nil]; exact rl))
def rRepD (K : PySem.W.Frag) : R2 := fun x y H Q => ∃ l k xs, x = .ref l ∧ y = .int k ∧ SqL K H l xs ∧ -(2 ^ 63) ≤ k ∧ k < 2 ^ 63 ∧ xs.length * k.toNat ≤ sizeLine ∧
  ∀ p, H p = none → Q (.ref p) (upd H p (.lst (List.replicate k.toNat xs).flatten))
theorem op_repD : OpR X (binaryOp .Mult) (rRepD X.K) := by
  intro pins s σ H x y v u Q I rx ry h
  obtain ⟨l, k, xs, rfl, rfl, hH, h1, h2, hz, q⟩ := h
  cases rx
  obtain ⟨t, rfl⟩ := ry
  obtain ⟨z, its, n, sl, r, hl, e⟩ := Inv.sqM I hH
  have hlen : its.toArray.size * k.toNat ≤ sizeLine := by rw [List.size_toArray, ← hl]; exact hz
  have hcap : ¬ its.toArray.size * k.toNat > (2 ^ 63 - 1) / 8 := by
    have : (sizeLine : Nat) ≤ (2 ^ 63 - 1) / 8 := by decide
    omega
  have hfit : ¬ (!Builtin.List.listFitsIndex k) = true := by
    rw [fitsIndex_both h1 h2]
    exact Bool.false_ne_true
  have hlong : ¬ Builtin.List.listTooLong (its.toArray.size * k.toNat) = true := by
    rw [notLongL hlen]
    exact Bool.false_ne_true
  have hnew : List.foldl (fun x1 x2 => x1 ++ x2) #[] (List.replicate (if its.toArray.isEmpty = true then 0 else k.toNat) its.toArray) = (List.replicate k.toNat its).flatten.toArray := by
    have f0 : ∀ m : Nat, List.foldl (fun x1 x2 => x1 ++ x2) #[] (List.replicate m its.toArray) = (List.replicate m its).flatten.toArray := fun m => by
      have := foldl_rep its m []
      rw [List.nil_append] at this
      exact this
    rw [f0]
    cases its with
    | nil => simp
    | cons a r' => rw [if_neg (by simp)]
  refine wpAny_binaryOp_repeat_ref (T := "list") (U := "int") (by decide) ⟨_, e, rfl⟩ (fun s' => typeIs_int s' k t) noFill_list_mul F.fills_int_mul F.slot_int_rmul repeat_list F.slot_int_index.lookup
    (call_meets F.slot_int_rmul (typeIs_int s k t) F.entry_int_rmul (F.args_int_rmul_2 _ _) (m_rmul k t l its.toArray n sl)
      ⟨e, rfl, ⟨_, e, rfl⟩, call_meets F.slot_list_mul ⟨_, e, rfl⟩ F.entry_list_mul (F.args_list_mul_2 _ _) (m_mul l its.toArray n sl k t hfit hcap hlong) ⟨e, ?_⟩⟩)
  rw [hnew]
  exact ⟨.ref _, _, I.lnew (t' := s.toks) (r.rep k.toNat) (by rw [PyProof.Rows.lm_len_rep_flat, Nat.mul_comm]; exact hz), rfl, q _ I.fresh⟩
theorem op_mulD : OpR X (binaryOp .Mult) (rOp X.K (binD .mul)) := by
  intro pins s σ H x y v u Q I rx ry ⟨F, d, e, f, hx, hy, q⟩
  cases d <;> cases e <;> try exact q.elim
  case int i j =>
    have q' : PostV X.K F H (R.chk (mulOk i j) (.ok (.int (i * j)))) Q := q
    cases c : mulOk i j with
    | false => rw [c] at q'; exact q'.elim
    | true =>
      rw [c] at q'
      unfold mulOk at c
      simp only [Bool.or_eq_true, Bool.and_eq_true, decide_eq_true_eq] at c
      exact op_mul pins s σ H x y v u Q I rx ry ⟨i, j, hx, hy, c, PostV.here f q' (.int _)⟩
  case list a k =>
    obtain ⟨l, xs, rfl, hl, rl⟩ := hx
    have q' : PostV X.K F H (R.chk (decide (-(2 ^ 63) ≤ k) && decide (k < 2 ^ 63) && decide (a.length * k.toNat ≤ lineN)) (.ok (.list (List.replicate k.toNat a).flatten))) Q := q
    cases c : (decide (-(2 ^ 63) ≤ k) && decide (k < 2 ^ 63) && decide (a.length * k.toNat ≤ lineN)) with
    | false => rw [c] at q'; exact q'.elim
    | true =>
      rw [c] at q'
      simp only [Bool.and_eq_true, decide_eq_true_eq, lineN_eq] at c
      exact op_repD pins s σ H _ y v u Q I rx ry ⟨l, k, xs, rfl, hy, hl, c.1.1, c.1.2, by rw [rl.length]; exact c.2, fun p hp => PostV.newL f q' hp (rl.rep _)⟩
/-- the binary operators -/
def bopS : Bop → Operator
  | .add => .Add | .sub => .Sub | .mul => .Mult | .fdiv => .FloorDiv | .mod => .Mod | .pow => .Pow
theorem op_bin (o : Bop) : OpR X (binaryOp (bopS o)) (rOp X.K (binD o)) := by
  cases o
  · exact op_addD
  · exact op_subD
  · exact op_mulD
  · exact op_fdivD
  · exact op_modD
  · exact op_powD

/-! ### comparisons -/
def rOpB (K : PySem.W.Frag) (g : D → D → R Bool) : R2 := fun x y H Q => ∃ F d e k, Same F H ∧ RpT K F H x d ∧ RpT K F H y e ∧ g d e = .ok k ∧ Q (.bl k) H
theorem ordT_ok {d e : D} {b k : Bool} (h : ordT d e b = .ok k) : PySem.W.alike d e = true ∧ d.depth ≤ 60 ∧ k = b := by
  obtain ⟨h1, h2⟩ := chk_ok h
  simp only [Bool.and_eq_true, decide_eq_true_eq] at h1
  cases h2
  exact ⟨h1.1, h1.2, rfl⟩
theorem eqD_ok {d e : D} {k : Bool} (h : eqD d e = .ok k) : SeqAt.shaped d = true ∧ SeqAt.shaped e = true ∧ k = PyData.eqv d e := by
  obtain ⟨h1, h2⟩ := chk_ok h
  simp only [Bool.and_eq_true] at h1
  cases h2
  exact ⟨h1.1, h1.2, rfl⟩
variable (hu : X.A.units + 65 < cLine)
include hu
theorem op_eqB : OpR X (compareOp .Eq) (rOpB X.K (cmpB .eq)) := by
  intro pins s σ H x y v u Q I rx ry ⟨F, d, e, k, f, hx, hy, g, q⟩
  obtain ⟨s1, s2, rfl⟩ := eqD_ok g
  exact op_eqD (by omega) pins s σ H x y v u Q I rx ry ⟨d, e, (hx.rp f).dp, (hy.rp f).dp, s1, s2, q⟩
theorem op_neB : OpR X (compareOp .NotEq) (rOpB X.K (cmpB .ne)) := by
  intro pins s σ H x y v u Q I rx ry ⟨F, d, e, k, f, hx, hy, g, q⟩
  obtain ⟨b, g1, g2⟩ := bind_ok (show (eqD d e).bind (fun b => .ok (!b)) = .ok k from g)
  obtain ⟨s1, s2, rfl⟩ := eqD_ok g1
  cases g2
  exact op_neD (by omega) pins s σ H x y v u Q I rx ry ⟨d, e, (hx.rp f).dp, (hy.rp f).dp, s1, s2, q⟩
theorem op_ltB : OpR X (compareOp .Lt) (rOpB X.K (cmpB .lt)) := by
  intro pins s σ H x y v u Q I rx ry ⟨F, d, e, k, f, hx, hy, g, q⟩
  cases d <;> cases e <;> try (cases g; done)
  case int.int => cases g; exact op_lt pins s σ H x y v u Q I rx ry ⟨_, _, hx, hy, q⟩
  case str.str => cases g; exact op_lt_str pins s σ H x y v u Q I rx ry ⟨_, _, hx, hy, q⟩
  case tuple.tuple =>
    obtain ⟨g1, g2, rfl⟩ := ordT_ok g
    obtain ⟨as, r1⟩ := Dp.reads I _ x v (hx.rp f).dp rx
    obtain ⟨bs, r2⟩ := Dp.reads I _ y u (hy.rp f).dp ry
    exact PySem.W.rcLt_alike _ _ _ _ _ _ _ _ r1 r2 g1 (fun z => nomatch z) (by omega) _ _ _ _ ⟨.bl _, H, I, rfl, q⟩
theorem op_leB : OpR X (compareOp .LtE) (rOpB X.K (cmpB .le)) := by
  intro pins s σ H x y v u Q I rx ry ⟨F, d, e, k, f, hx, hy, g, q⟩
  cases d <;> cases e <;> try (cases g; done)
  case int.int => cases g; exact op_le pins s σ H x y v u Q I rx ry ⟨_, _, hx, hy, q⟩
  case tuple.tuple =>
    obtain ⟨g1, g2, rfl⟩ := ordT_ok g
    obtain ⟨as, r1⟩ := Dp.reads I _ x v (hx.rp f).dp rx
    obtain ⟨bs, r2⟩ := Dp.reads I _ y u (hy.rp f).dp ry
    exact PySem.W.rcLe_alike _ _ _ _ _ _ _ _ r1 r2 g1 (fun z => nomatch z) (by omega) _ _ _ _ ⟨.bl _, H, I, rfl, q⟩
theorem op_gtB : OpR X (compareOp .Gt) (rOpB X.K (cmpB .gt)) := by
  intro pins s σ H x y v u Q I rx ry ⟨F, d, e, k, f, hx, hy, g, q⟩
  cases d <;> cases e <;> try (cases g; done)
  case int.int => cases g; exact op_gt pins s σ H x y v u Q I rx ry ⟨_, _, hx, hy, q⟩
  case tuple.tuple =>
    obtain ⟨g1, g2, rfl⟩ := ordT_ok g
    obtain ⟨as, r1⟩ := Dp.reads I _ x v (hx.rp f).dp rx
    obtain ⟨bs, r2⟩ := Dp.reads I _ y u (hy.rp f).dp ry
    exact PySem.W.rcGt_alike _ _ _ _ _ _ _ _ r1 r2 g1 (fun z => nomatch z) (by omega) _ _ _ _ ⟨.bl _, H, I, rfl, q⟩
theorem op_geB : OpR X (compareOp .GtE) (rOpB X.K (cmpB .ge)) := by
  intro pins s σ H x y v u Q I rx ry ⟨F, d, e, k, f, hx, hy, g, q⟩
  cases d <;> cases e <;> try (cases g; done)
  case int.int => cases g; exact op_ge pins s σ H x y v u Q I rx ry ⟨_, _, hx, hy, q⟩
  case tuple.tuple =>
    obtain ⟨g1, g2, rfl⟩ := ordT_ok g
    obtain ⟨as, r1⟩ := Dp.reads I _ x v (hx.rp f).dp rx
    obtain ⟨bs, r2⟩ := Dp.reads I _ y u (hy.rp f).dp ry
    exact PySem.W.rcGe_alike _ _ _ _ _ _ _ _ r1 r2 g1 (fun z => nomatch z) (by omega) _ _ _ _ ⟨.bl _, H, I, rfl, q⟩
theorem RpT.none_iff {K : PySem.W.Frag} {F H : Hp} {x : V} {d : D} (h : RpT K F H x d) : decide (x = .non) = isNone d := by
  cases d with
  | none => cases (show x = .non from h); rfl
  | bool b => cases (show x = .bl b from h); rfl
  | int i => cases (show x = .int i from h); rfl
  | str z => cases (show x = .str z from h); rfl
  | list ds => obtain ⟨a, vs, rfl, _⟩ := h; rfl
  | tuple ds => obtain ⟨a, vs, rfl, _⟩ := h; rfl
  | dict _ => exact h.elim
theorem op_isB : OpR X (compareOp .Is) (rOpB X.K (cmpB .is)) := by
  intro pins s σ H x y v u Q I rx ry ⟨F, d, e, k, f, hx, hy, g, q⟩
  cases e with
  | none =>
    have g' : R.ok (isNone d) = R.ok k := by cases d <;> exact g
    cases g'
    cases (show y = .non from hy)
    exact op_isN pins s σ H x _ v u Q I rx ry ⟨rfl, by rw [RpT.none_iff hu hx]; exact q⟩
  | bool b =>
    cases d <;> cases g
    cases (show x = .bl _ from hx)
    cases (show y = .bl _ from hy)
    exact op_isBl pins s σ H _ _ v u Q I rx ry ⟨_, _, rfl, rfl, q⟩
  | _ => cases d <;> cases g
theorem op_isnotB : OpR X (compareOp .IsNot) (rOpB X.K (cmpB .isnot)) := by
  intro pins s σ H x y v u Q I rx ry ⟨F, d, e, k, f, hx, hy, g, q⟩
  cases e with
  | none =>
    have g' : R.ok (!isNone d) = R.ok k := by cases d <;> exact g
    cases g'
    cases (show y = .non from hy)
    exact op_notN pins s σ H x _ v u Q I rx ry ⟨rfl, by rw [RpT.none_iff hu hx]; exact q⟩
  | bool b =>
    cases d <;> cases g
    cases (show x = .bl _ from hx)
    cases (show y = .bl _ from hy)
    exact op_notBl pins s σ H _ _ v u Q I rx ry ⟨_, _, rfl, rfl, q⟩
  | _ => cases d <;> cases g
theorem op_inB : OpR X (compareOp .In) (rOpB X.K (cmpB .isin)) := by
  intro pins s σ H x y v u Q I rx ry ⟨F, d, e, k, f, hx, hy, g, q⟩
  have g : inD d e = .ok k := g
  cases e with
  | list ds =>
    obtain ⟨h1, h2⟩ := chk_ok (show R.chk (shp d && shp (.list ds)) _ = _ from g)
    simp only [Bool.and_eq_true] at h1
    cases h2
    exact op_inD hu pins s σ H x y v u Q I rx ry ⟨d, ds, (hx.rp f).dp, (hy.rp f).dp, h1.1, h1.2, q⟩
  | tuple ds =>
    obtain ⟨h1, h2⟩ := chk_ok (show R.chk (shp d && shp (.tuple ds)) _ = _ from g)
    simp only [Bool.and_eq_true] at h1
    cases h2
    obtain ⟨as, r1⟩ := Dp.reads I d x v (hx.rp f).dp rx
    obtain ⟨bs, r2⟩ := Dp.reads I (.tuple ds) y u (hy.rp f).dp ry
    exact SeqAt.in_tuple_reads r2 r1 (SeqAt.canLay_of_shaped h1.2) (SeqAt.canLay_of_shaped h1.1) (room_in_shaped h1.1 hu) ⟨.bl _, H, I, rfl, q⟩
  | str z =>
    cases d <;> cases g
    exact op_in_str pins s σ H x y v u Q I rx ry ⟨_, _, hx, hy, q⟩
  | _ => cases g
theorem op_notinB : OpR X (compareOp .NotIn) (rOpB X.K (cmpB .notin)) := by
  intro pins s σ H x y v u Q I rx ry ⟨F, d, e, k, f, hx, hy, g0, q⟩
  obtain ⟨b, g, g2⟩ := bind_ok (show (inD d e).bind (fun b => .ok (!b)) = .ok k from g0)
  clear g0
  cases g2
  cases e with
  | list ds =>
    obtain ⟨h1, h2⟩ := chk_ok (show R.chk (shp d && shp (.list ds)) _ = _ from g)
    simp only [Bool.and_eq_true] at h1
    cases h2
    exact op_notInD hu pins s σ H x y v u Q I rx ry ⟨d, ds, (hx.rp f).dp, (hy.rp f).dp, h1.1, h1.2, q⟩
  | tuple ds =>
    obtain ⟨h1, h2⟩ := chk_ok (show R.chk (shp d && shp (.tuple ds)) _ = _ from g)
    simp only [Bool.and_eq_true] at h1
    cases h2
    obtain ⟨as, r1⟩ := Dp.reads I d x v (hx.rp f).dp rx
    obtain ⟨bs, r2⟩ := Dp.reads I (.tuple ds) y u (hy.rp f).dp ry
    exact SeqAt.notIn_tuple_reads r2 r1 (SeqAt.canLay_of_shaped h1.2) (SeqAt.canLay_of_shaped h1.1) (room_in_shaped h1.1 hu) ⟨.bl _, H, I, rfl, q⟩
  | str z =>
    cases d <;> cases g
    exact op_notin_str pins s σ H x y v u Q I rx ry ⟨_, _, hx, hy, q⟩
  | _ => cases g
def copS : Cop → CmpOp
  | .lt => .Lt | .le => .LtE | .gt => .Gt | .ge => .GtE | .eq => .Eq | .ne => .NotEq | .isin => .In | .notin => .NotIn | .is => .Is | .isnot => .IsNot
theorem op_cmp (o : Cop) : OpR X (compareOp (copS o)) (rOpB X.K (cmpB o)) := by
  cases o
  · exact op_ltB hu
  · exact op_leB hu
  · exact op_gtB hu
  · exact op_geB hu
  · exact op_eqB hu
  · exact op_neB hu
  · exact op_inB hu
  · exact op_notinB hu
  · exact op_isB hu
  · exact op_isnotB hu
end
end Rf

set_option Elab.async false
set_option linter.all false
set_option maxHeartbeats 1000000
/-! Rf, part B2: subscripts, slices, built-in functions by their rules. -/
namespace Rf
open PySem PySem.Spec PyProof.Rows L2
section
variable {X : Cx}
theorem ix_D : IxR X (rOp X.K ixD) := by
  intro value slice pins s σ H x y v u Q I rx ry ⟨F, d, e, f, hx, hy, q⟩ hs
  cases d <;> cases e <;> try exact q.elim
  case list ds i =>
    obtain ⟨l, xs, rfl, hl, rl⟩ := hx
    have q' : PostV X.K F H (match L2.atI ds i with | some d => .ok d | none => .bad) Q := q
    cases c : L2.atI ds i with
    | none => rw [c] at q'; exact q'.elim
    | some d =>
      rw [c] at q'
      obtain ⟨z, h1, h2⟩ := atI_rp rl c
      exact ix_list value slice pins s σ H _ y v u Q I rx ry ⟨l, xs, i, z, rfl, hy, hl, h1, PostV.here f q' h2⟩ hs
  case tuple ds i =>
    obtain ⟨l, xs, rfl, hl, rl⟩ := hx
    have q' : PostV X.K F H (match L2.atI ds i with | some d => .ok d | none => .bad) Q := q
    cases c : L2.atI ds i with
    | none => rw [c] at q'; exact q'.elim
    | some d =>
      rw [c] at q'
      obtain ⟨z, h1, h2⟩ := atI_rp rl c
      exact ix_tup value slice pins s σ H _ y v u Q I rx ry ⟨l, xs, i, z, rfl, hy, f.sqT hl, h1, PostV.here f q' h2⟩ hs
  case str z i =>
    have q' : PostV X.K F H (R.chk (decide (z.length ≤ lineN)) (match L2.atI z.cps.toList i with | some c => .ok (.str ⟨#[c]⟩) | none => .bad)) Q := q
    cases c : decide (z.length ≤ lineN) with
    | false => rw [c] at q'; exact q'.elim
    | true =>
      rw [c] at q'
      simp only [decide_eq_true_eq, lineN_eq] at c
      cases c2 : L2.atI z.cps.toList i with
      | none => rw [c2] at q'; exact q'.elim
      | some k =>
        rw [c2] at q'
        exact ix_str value slice pins s σ H x y v u Q I rx ry ⟨z, i, k, hx, hy, c, c2, PostV.here f q' (.str _)⟩ hs

def rSlD (K : PySem.W.Frag) : V → Option Int → Option Int → Hp → VK → Prop := fun x lo hi H Q => ∃ F d, Same F H ∧ RpT K F H x d ∧ PostV K F H (slD d lo hi) Q
theorem cutL_whole {α : Type} {xs : List α} {lo hi : Option Int} (h : HT.sIx xs.length 0 lo = 0 ∧ HT.sIx xs.length xs.length hi = xs.length) : cutL xs lo hi = xs := by
  unfold cutL
  rw [h.1, h.2]
  simp
theorem sl_D : SlR X (rSlD X.K) := by
  intro pins s σ H x v vl vu lo hi sl Q I rx hs pl pu ⟨F, d, f, hx, q⟩
  cases d <;> try exact q.elim
  case list ds =>
    obtain ⟨l, xs, rfl, hl, rl⟩ := hx
    have q' : PostV X.K F H (.ok (.list (cutL ds lo hi))) Q := q
    exact sl_list pins s σ H _ v vl vu lo hi sl Q I rx hs pl pu ⟨l, xs, rfl, hl, fun p hp => PostV.newL f q' hp rl.cut⟩
  case tuple ds =>
    obtain ⟨l, xs, rfl, hl, rl⟩ := hx
    have q' : PostV X.K F H (.ok (.tuple (cutL ds lo hi))) Q := q
    refine sl_tupA pins s σ H _ v vl vu lo hi sl Q I rx hs pl pu ⟨l, xs, rfl, f.sqT hl, fun hw => ?_, fun _ p hp => PostV.t f q' hp rl.cut⟩
    rw [rl.length] at hw
    rw [cutL_whole hw] at q'
    exact PostV.here f q' (.tup hl rl)
  case str z =>
    have q' : PostV X.K F H (R.chk (decide (z.length ≤ lineN)) (.ok (.str (L2.cutS z lo hi)))) Q := q
    cases c : decide (z.length ≤ lineN) with
    | false => rw [c] at q'; exact q'.elim
    | true =>
      rw [c] at q'
      simp only [decide_eq_true_eq, lineN_eq] at c
      exact sl_str pins s σ H x v vl vu lo hi sl Q I rx hs pl pu ⟨z, hx, c, PostV.here f q' (.str _)⟩

/-! ### built-in functions -/
def RpTs (K : PySem.W.Frag) (F H : Hp) : List V → List D → Prop
  | [], [] => True
  | v :: vs, d :: ds => RpT K F H v d ∧ RpTs K F H vs ds
  | _, _ => False
theorem RpTs.one {K : PySem.W.Frag} {F H : Hp} {vs : List V} {d : D} (h : RpTs K F H vs [d]) : ∃ v, vs = [v] ∧ RpT K F H v d := by
  cases vs with
  | nil => exact h.elim
  | cons v r =>
    cases r with
    | nil => exact ⟨v, rfl, h.1⟩
    | cons _ _ => exact h.2.elim
theorem RpTs.two {K : PySem.W.Frag} {F H : Hp} {vs : List V} {d e : D} (h : RpTs K F H vs [d, e]) : ∃ v w, vs = [v, w] ∧ RpT K F H v d ∧ RpT K F H w e := by
  cases vs with
  | nil => exact h.elim
  | cons v r =>
    obtain ⟨w, rfl, h2⟩ := RpTs.one h.2
    exact ⟨v, w, rfl, h.1, h2⟩
theorem RpTs.length {K : PySem.W.Frag} {F H : Hp} : ∀ {vs : List V} {ds : List D}, RpTs K F H vs ds → vs.length = ds.length
  | [], [], _ => rfl
  | _ :: _, _ :: _, h => by simp only [List.length_cons]; rw [RpTs.length h.2]
  | [], _ :: _, h => h.elim
  | _ :: _, [], h => h.elim
theorem RpTs.mono {K : PySem.W.Frag} {F F' H H' : Hp} (g : Same F F') (s : Same H H') : ∀ {vs : List V} {ds : List D}, RpTs K F H vs ds → RpTs K F' H' vs ds
  | [], [], _ => trivial
  | _ :: _, _ :: _, h => ⟨h.1.mono g s, RpTs.mono g s h.2⟩
  | [], _ :: _, h => h.elim
  | _ :: _, [], h => h.elim
/-- a call of built-in b does what biD says -/
def rBI (K : PySem.W.Frag) (b : BI) : List V → Hp → VK → Prop := fun xs H Q => ∃ F ds, Same F H ∧ RpTs K F H xs ds ∧ PostV K F H (biD b ds) Q
/-- biD is asked of one value -/
theorem rBI.one {K : PySem.W.Frag} {b : BI} {xs : List V} {H : Hp} {Q : VK} (h1 : biD b [] = .bad) (h2 : ∀ a c r, biD b (a :: c :: r) = .bad) (h : rBI K b xs H Q) : ∃ F d x, xs = [x] ∧ Same F H ∧ RpT K F H x d ∧ PostV K F H (biD b [d]) Q := by
  obtain ⟨F, ds, f, r, q⟩ := h
  match ds, r, q with
  | [], r, q => rw [h1] at q; exact q.elim
  | [d], r, q =>
    obtain ⟨v, rfl, hv⟩ := r.one
    exact ⟨F, d, v, rfl, f, hv, q⟩
  | a :: c :: t, r, q => rw [h2] at q; exact q.elim
theorem cr_len : CallR X (.builtin "len") (rBI X.K .len) := by
  intro pins s σ H xs us Q I r h
  obtain ⟨F, d, x, rfl, f, hx, q0⟩ := rBI.one rfl (by intro a c r; cases a <;> rfl) h
  have q : PostV X.K F H (lenD d) Q := q0
  clear q0
  cases d <;> try exact q.elim
  case list ds =>
    obtain ⟨l, vs, rfl, hl, rl⟩ := hx
    exact call_len pins s σ H _ us Q I r ⟨_, vs.length, rfl, .inl ⟨vs, hl, rfl⟩, by rw [rl.length]; exact PostV.here f q (.int _)⟩
  case tuple ds =>
    obtain ⟨l, vs, rfl, hl, rl⟩ := hx
    exact call_len pins s σ H _ us Q I r ⟨_, vs.length, rfl, .inr ⟨vs, f.sqT hl, rfl⟩, by rw [rl.length]; exact PostV.here f q (.int _)⟩
  case str z =>
    have q' : PostV X.K F H (R.chk (decide (z.length ≤ lineN)) (.ok (.int z.length))) Q := q
    cases c : decide (z.length ≤ lineN) with
    | false => rw [c] at q'; exact q'.elim
    | true =>
      rw [c] at q'
      simp only [decide_eq_true_eq, lineN_eq] at c
      cases (show x = .str z from hx)
      exact call_len pins s σ H _ us Q I r ⟨_, z.length, rfl, ⟨c, rfl⟩, PostV.here f q' (.int _)⟩
theorem cr_allD (hc : X.calm = true) : CallR X (.builtin "all") (rBI X.K .all) := by
  intro pins s σ H xs us Q I r h
  obtain ⟨F, d, x, rfl, f, hx, q⟩ := rBI.one rfl (by intro a c r; cases a <;> rfl) h
  cases d <;> try exact q.elim
  case list ds =>
    obtain ⟨l, vs, rfl, hl, rl⟩ := hx
    have q : PostV X.K F H ((boolsOf ds).bind fun bs => .ok (.bool (bs.all id))) Q := q
    cases c : boolsOf ds with
    | ok bs =>
      rw [c] at q
      have e := rl.boolsOf c
      subst e
      exact cr_all hc pins s σ H _ us Q I r ⟨l, bs, rfl, hl, PostV.here f q (.bl _)⟩
    | exc c => rw [c] at q; exact q.elim
    | bad => rw [c] at q; exact q.elim
theorem cr_sumD (hc : X.calm = true) : CallR X (.builtin "sum") (rBI X.K .sum) := by
  intro pins s σ H xs us Q I r h
  obtain ⟨F, d, x, rfl, f, hx, q⟩ := rBI.one rfl (by intro a c r; cases a <;> rfl) h
  cases d <;> try exact q.elim
  case list ds =>
    obtain ⟨l, vs, rfl, hl, rl⟩ := hx
    have q : PostV X.K F H ((intsOf ds).bind fun bs => .ok (.int bs.sum)) Q := q
    cases c : intsOf ds with
    | ok bs =>
      rw [c] at q
      have e := rl.intsOf c
      subst e
      exact cr_sum hc pins s σ H _ us Q I r ⟨l, bs, rfl, hl, PostV.here f q (.int _)⟩
    | exc c => rw [c] at q; exact q.elim
    | bad => rw [c] at q; exact q.elim
theorem cr_listD : CallR X (.type "list") (rBI X.K .list) := by
  intro pins s σ H xs us Q I r h
  obtain ⟨F, d, x, rfl, f, hx, q⟩ := rBI.one rfl (by intro a c r; cases a <;> rfl) h
  cases d <;> try exact q.elim
  case list ds =>
    obtain ⟨l, vs, rfl, hl, rl⟩ := hx
    exact call_list_of pins s σ H _ us Q I r ⟨l, vs, rfl, .inl hl, fun p hp => PostV.newL f q hp rl⟩
  case tuple ds =>
    obtain ⟨l, vs, rfl, hl, rl⟩ := hx
    exact call_list_of pins s σ H _ us Q I r ⟨l, vs, rfl, .inr (f.sqT hl), fun p hp => PostV.newL f q hp rl⟩
theorem cr_tupleD : CallR X (.type "tuple") (rBI X.K .tuple) := by
  intro pins s σ H xs us Q I r h
  obtain ⟨F, d, x, rfl, f, hx, q⟩ := rBI.one rfl (by intro a c r; cases a <;> rfl) h
  cases d <;> try exact q.elim
  case list ds =>
    obtain ⟨l, vs, rfl, hl, rl⟩ := hx
    exact call_tuple_of pins s σ H _ us Q I r ⟨l, vs, rfl, .inl ⟨hl, fun p hp => PostV.t f q hp rl⟩⟩
  case tuple ds =>
    obtain ⟨l, vs, rfl, hl, rl⟩ := hx
    exact call_tuple_of pins s σ H _ us Q I r ⟨l, vs, rfl, .inr ⟨f.sqT hl, PostV.here f q (.tup hl rl)⟩⟩
theorem cr_intD : CallR X (.type "int") (rBI X.K .int) := by
  intro pins s σ H xs us Q I r h
  obtain ⟨F, d, x, rfl, f, hx, q⟩ := rBI.one rfl (by intro a c r; cases a <;> rfl) h
  cases d <;> try exact q.elim
  case int i =>
    cases (show x = .int i from hx)
    exact call_int1 pins s σ H _ us Q I r (.inl ⟨i, rfl, PostV.here f q (.int _)⟩)

/-! ### isinstance -/
def tyD : D → String
  | .none => "NoneType" | .bool _ => "bool" | .int _ => "int" | .str _ => "str" | .list _ => "list" | .tuple _ => "tuple" | .dict _ => "dict"
theorem RpT.ty {K : PySem.W.Frag} {F H : Hp} {x : V} {d : D} (f : Same F H) (h : RpT K F H x d) : TyX K H x (.type (tyD d)) := by
  cases d with
  | none => cases (show x = .non from h); exact .base .non
  | bool b => cases (show x = .bl b from h); exact .base (.bl b)
  | int i => cases (show x = .int i from h); exact .base (.int i)
  | str z => cases (show x = .str z from h); exact .base (.str z)
  | list ds =>
    obtain ⟨a, vs, rfl, h1, h2⟩ := h
    rcases h1 with (h1 | ⟨o, h1⟩) | ⟨o, its, n, h1, h2, _⟩
    · exact .base (.lst h1)
    · exact .base (.frz h1)
    · exact .kList h1 h2
  | tuple ds =>
    obtain ⟨a, vs, rfl, h1, h2⟩ := h
    rcases f.sqT h1 with (h1 | ⟨o, h1⟩) | ⟨o, its, n, h1, h2, _⟩
    · exact .base (.tup h1)
    · exact .fTuple h1
    · exact .kTuple h1 h2
  | dict _ => exact h.elim
/-- isinstance(x, T), T a built-in class -/
def rIs (K : PySem.W.Frag) (T : String) : List V → Hp → VK → Prop := fun xs H Q => ∃ F x d b, xs = [x, .ty T] ∧ Same F H ∧ RpT K F H x d ∧ kitB (tyD d) T = some b ∧ Q (.bl b) H
theorem cr_is {T : String} : CallR X (.builtin "isinstance") (rIs X.K T) := by
  intro pins s σ H xs us Q I r ⟨F, x, d, b, e, f, hx, k, q⟩
  subst e
  exact call_isi pins s σ H _ us Q I r ⟨x, .ty T, .type (tyD d), .type T, b, rfl, .ty T, hx.ty f, kit_ty k, q⟩
def isTy : BI → Option String
  | .isInt => some "int" | .isBool => some "bool" | .isTuple => some "tuple" | .isList => some "list" | .isStr => some "str" | _ => none
theorem is_ans {b : BI} {T : String} (h : isTy b = some T) (d : D) (hd : ∀ k, d ≠ .dict k) : ∃ k, biD b [d] = .ok (.bool k) ∧ kitB (tyD d) T = some k := by
  cases b <;> cases h <;> cases d <;> first
    | (refine ⟨true, rfl, ?_⟩; dsimp only [tyD]; decide +kernel)
    | (refine ⟨false, rfl, ?_⟩; dsimp only [tyD]; decide +kernel)
    | exact (hd _ rfl).elim
end
end Rf

set_option Elab.async false
set_option linter.all false
set_option maxHeartbeats 1000000
/-! Rf, part C: the meaning of expressions. -/
namespace Rf
open PySem PySem.Spec PyProof.Rows L2

/-! ### no built-in operation lets an own exception out -/
theorem chk_noexc {α : Type} {b : Bool} {x : R α} {n : Str} (h : x ≠ .exc n) : R.chk b x ≠ .exc n := by
  cases b with
  | true => exact h
  | false => intro z; cases z
theorem chkok_noexc {α : Type} {b : Bool} {a : α} {n : Str} : R.chk b (R.ok a) ≠ .exc n := chk_noexc fun z => nomatch z
theorem binD_noexc {o : Bop} {d e : D} {n : Str} : binD o d e ≠ .exc n := by
  intro h
  cases o <;> cases d <;> cases e <;> first
    | cases h
    | exact chkok_noexc h
theorem eqD_noexc {d e : D} {n : Str} : eqD d e ≠ .exc n := chk_noexc fun z => nomatch z
theorem inD_noexc {d e : D} {n : Str} : inD d e ≠ .exc n := by
  intro h
  cases e with
  | list ds => exact chkok_noexc h
  | tuple ds => exact chkok_noexc h
  | str z => cases d <;> cases h
  | _ => cases h
theorem bind_noexc {α β : Type} {x : R α} {f : α → R β} {n : Str} (h : x ≠ .exc n) (h2 : ∀ a, f a ≠ .exc n) : x.bind f ≠ .exc n := by
  cases x with
  | ok a => exact h2 a
  | exc c => intro z; cases z; exact h rfl
  | bad => intro z; cases z
theorem cmpB_noexc {o : Cop} {d e : D} {n : Str} : cmpB o d e ≠ .exc n := by
  cases o
  case eq => exact eqD_noexc
  case ne => exact bind_noexc eqD_noexc fun _ z => nomatch z
  case isin => exact inD_noexc
  case notin => exact bind_noexc inD_noexc fun _ z => nomatch z
  all_goals
    intro h
    cases d <;> cases e <;> first
      | (cases h; done)
      | exact chkok_noexc h
theorem cmpD_noexc {o : Cop} {d e : D} {n : Str} : cmpD o d e ≠ .exc n := bind_noexc cmpB_noexc fun _ z => nomatch z
theorem ixD_noexc {d e : D} {n : Str} : ixD d e ≠ .exc n := by
  intro h
  cases d <;> cases e <;> first
    | cases h
    | skip
  case list.int ds i =>
    have h : (match L2.atI ds i with | some d => R.ok d | none => .bad) = .exc n := h
    cases c : L2.atI ds i <;> rw [c] at h <;> cases h
  case tuple.int ds i =>
    have h : (match L2.atI ds i with | some d => R.ok d | none => .bad) = .exc n := h
    cases c : L2.atI ds i <;> rw [c] at h <;> cases h
  case str.int z i =>
    refine chk_noexc ?_ (show R.chk (decide (z.length ≤ lineN)) (match L2.atI z.cps.toList i with | some c => R.ok (PyData.str ⟨#[c]⟩) | none => .bad) = .exc n from h)
    intro h
    cases c : L2.atI z.cps.toList i <;> rw [c] at h <;> cases h
theorem slD_noexc {d : D} {lo hi : Option Int} {n : Str} : slD d lo hi ≠ .exc n := by
  intro h
  cases d <;> first
    | cases h
    | exact chkok_noexc h
theorem boolsOf_noexc {n : Str} : ∀ {ds : List D}, boolsOf ds ≠ .exc n
  | [] => fun z => nomatch z
  | .bool b :: r => bind_noexc boolsOf_noexc fun _ z => nomatch z
  | .none :: _ => fun z => nomatch z
  | .int _ :: _ => fun z => nomatch z
  | .str _ :: _ => fun z => nomatch z
  | .list _ :: _ => fun z => nomatch z
  | .tuple _ :: _ => fun z => nomatch z
  | .dict _ :: _ => fun z => nomatch z
theorem intsOf_noexc {n : Str} : ∀ {ds : List D}, intsOf ds ≠ .exc n
  | [] => fun z => nomatch z
  | .int b :: r => bind_noexc intsOf_noexc fun _ z => nomatch z
  | .none :: _ => fun z => nomatch z
  | .bool _ :: _ => fun z => nomatch z
  | .str _ :: _ => fun z => nomatch z
  | .list _ :: _ => fun z => nomatch z
  | .tuple _ :: _ => fun z => nomatch z
  | .dict _ :: _ => fun z => nomatch z
theorem bindok_noexc {α β : Type} {x : R α} {f : α → β} {n : Str} (h : x ≠ .exc n) : (x.bind fun a => R.ok (f a)) ≠ .exc n := bind_noexc h fun _ z => nomatch z
theorem tupInts_noexc {n : Str} {d : D} : tupInts d ≠ .exc n := by
  cases d <;> first
    | exact intsOf_noexc
    | (intro z; cases z; done)
theorem keysD_noexc {n : Str} : ∀ {ds : List D}, keysD ds ≠ .exc n
  | [] => fun z => nomatch z
  | d :: r => bind_noexc tupInts_noexc fun _ => bind_noexc keysD_noexc fun _ z => nomatch z
theorem lenSetD_noexc {n : Str} {d : D} : lenSetD d ≠ .exc n := by
  cases d <;> first
    | exact chk_noexc (bindok_noexc keysD_noexc)
    | (intro z; cases z; done)
theorem biD_noexc {b : BI} {ds : List D} {n : Str} : biD b ds ≠ .exc n := by
  intro h
  match ds, h with
  | [], h => cases b <;> cases h
  | [d], h =>
    cases b <;> cases d <;> first
      | (cases h; done)
      | exact lenSetD_noexc (d := .list _) h
      | exact chkok_noexc h
      | exact bindok_noexc (f := fun bs : List Bool => PyData.bool (bs.all id)) boolsOf_noexc h
      | exact bindok_noexc (f := fun bs : List Int => PyData.int bs.sum) intsOf_noexc h
  | a :: c :: r, h => cases b <;> cases a <;> cases h

/-! ### slots -/
def Own (K : PySem.W.Frag) (F H : Hp) (v : V) (d : D) : Prop := match d with
  | .list ds => ∃ a vs, v = .ref a ∧ F a = none ∧ H a = some (.lst vs) ∧ RpL K F vs ds
  | _ => False
/-- slot by slot: what stands there -/
def Sl (K : PySem.W.Frag) (F H : Hp) : Option (Bool × D) → Option V → Prop
  | none, _ => True
  | some (false, d), some v => Rp K F v d
  | some (true, d), some v => Own K F H v d
  | some _, none => False
structure Ss (K : PySem.W.Frag) (F H : Hp) (env : Env) (σ : L2.St) : Prop where
  sub : Same F H
  len : σ.length = env.length
  slot : ∀ (i : Nat) (b : Option (Bool × D)), env[i]? = some b → ∃ v : Option V, σ[i]? = some v ∧ Sl K F H b v
  apart : ∀ (i j : Nat) (di dj : D) (a : Addr), i ≠ j → env[i]? = some (some (true, di)) → env[j]? = some (some (true, dj)) → σ[i]? = some (some (.ref a)) → σ[j]? = some (some (.ref a)) → False
section
variable {K : PySem.W.Frag} {F F' H H' H1 : Hp} {env : Env} {σ : L2.St}
theorem Own.mono {v : V} {d : D} (h : Own K F H v d) (s : Same H H') : Own K F H' v d := by
  cases d with
  | list ds => obtain ⟨a, vs, rfl, f, h1, r⟩ := h; exact ⟨a, vs, rfl, f, s _ _ h1, r⟩
  | _ => exact h.elim
theorem Sl.mono {b : Option (Bool × D)} {v : Option V} (h : Sl K F H b v) (s : Same H H') : Sl K F H' b v := by
  match b, v, h with
  | none, _, _ => trivial
  | some (false, d), some v, h => exact h
  | some (true, d), some v, h => exact Own.mono h s
theorem Ss.grow (h : Ss K F H env σ) (s : Same H H') : Ss K F H' env σ :=
  ⟨h.sub.trans s, h.len, fun i b e => let ⟨v, h1, h2⟩ := h.slot i b e; ⟨v, h1, h2.mono s⟩, h.apart⟩
/-- the new objects join what stands still -/
theorem Ss.growF (h : Ss K F H env σ) (s : Same H H') : Ss K (Gr F H H') H' env σ := by
  refine ⟨gr_sub h.sub s, h.len, fun i b e => ?_, h.apart⟩
  obtain ⟨v, h1, h2⟩ := h.slot i b e
  refine ⟨v, h1, ?_⟩
  match b, v, h2 with
  | none, _, _ => trivial
  | some (false, d), some v, h2 => exact Rp.mono (gr_F h.sub) h2
  | some (true, d), some v, h2 =>
    cases d with
    | list ds =>
      obtain ⟨a, vs, rfl, f, h3, r⟩ := h2
      exact ⟨a, vs, rfl, by rw [gr_some h3]; exact f, s _ _ h3, RpL.mono (gr_F h.sub) r⟩
    | _ => exact h2.elim
end

/-! ### results -/
/-- how a result is laid: t: its top may be a list of the frame's own -/
def RpB (t : Bool) (K : PySem.W.Frag) (G H : Hp) (v : V) (d : D) : Prop := match t with
  | true => RpT K G H v d
  | false => Rp K G v d
theorem RpB.of {t : Bool} {K : PySem.W.Frag} {G H : Hp} {v : V} {d : D} (h : Rp K G v d) (s : Same G H) : RpB t K G H v d := by
  cases t with
  | true => exact h.top s
  | false => exact h
theorem RpB.rt {t : Bool} {K : PySem.W.Frag} {G H : Hp} {v : V} {d : D} (h : RpB t K G H v d) (s : Same G H) : RpT K G H v d := by
  cases t with
  | true => exact h
  | false => exact Rp.top h s
abbrev ExA := Str → Option Addr
def Exc (ca : ExA) (W : WX) (H : Hp) (σ : L2.St) (n : Str) : Prop := ∀ H' C, Same H H' → ca n = some C → W (.ref C) none σ H'
def PG {α : Type} (ca : ExA) (W : WX) (H : Hp) (σ : L2.St) (r : R α) (k : α → Prop) : Prop := match r with
  | .ok a => k a
  | .exc n => Exc ca W H σ n
  | .bad => False
section
variable {α β : Type} {ca : ExA} {W : WX} {H H' : Hp} {σ : L2.St}
theorem PG.of_bind {r : R α} {f : α → R β} {k : β → Prop} (h : PG ca W H σ (r.bind f) k) : PG ca W H σ r fun a => PG ca W H σ (f a) k := by
  cases r with
  | ok a => exact h
  | exc n => exact h
  | bad => exact h
theorem PG.imp {r : R α} {k k' : α → Prop} (h : PG ca W H σ r k) (i : ∀ a, k a → k' a) : PG ca W H σ r k' := by
  cases r with
  | ok a => exact i a h
  | exc n => exact h
  | bad => exact h
theorem PG.later {r : R α} {k : α → Prop} (h : PG ca W H σ r k) (s : Same H H') : PG ca W H' σ r k := by
  cases r with
  | ok a => exact h
  | exc n => exact fun H2 C s2 e => h H2 C (s.trans s2) e
  | bad => exact h
theorem PG.go {r : R α} {k k' : α → Prop} (h : PG ca W H σ r k) (s : Same H H') (i : ∀ a, k a → k' a) : PG ca W H' σ r k' := (h.later s).imp i
theorem PG.ok {r : R α} {k : α → Prop} {a : α} (h : PG ca W H σ r k) (e : r = .ok a) : k a := by subst e; exact h
end
/-- what is wanted of an expression's value -/
abbrev WB (t : Bool) (K : PySem.W.Frag) (F H : Hp) (Q : VK) (d : D) : Prop := ∀ v H', Same H H' → RpB t K (Gr F H H') H' v d → Q v H'
/-- the reading of an expression: what it evaluates to by ev -/
def rd (S : Sig) (ca : ExA) (W : WX) (K : PySem.W.Frag) (t : Bool) (c : C) : TE := fun σ H Q => ∃ F env, Ss K F H env σ ∧ PG ca W H σ (ev S t c env) (WB t K F H Q)
def rdA (S : Sig) (ca : ExA) (W : WX) (K : PySem.W.Frag) (t : Bool) (c : C) : TA := fun σ H Q => ∃ F env, Ss K F H env σ ∧ PG ca W H σ (evs S t c env)
  (fun ds => ∀ vs H', Same H H' → (match t with | true => RpTs K (Gr F H H') H' vs ds | false => RpL K (Gr F H H') vs ds) → Q vs H')
def rdT (S : Sig) (ca : ExA) (W : WX) (K : PySem.W.Frag) (c : C) : TT := fun σ H Q => ∃ F env, Ss K F H env σ ∧ PG ca W H σ ((ev S true c env).bind toBool) (fun b => ∀ H', Same H H' → Q b H')
theorem _root_.L2.PE.imp {X : Cx} {e : Expr} {t t' : TE} (h : PE X e t) (i : ∀ σ H Q, t' σ H Q → t σ H Q) : PE X e t' := ⟨fun pins s σ H Q I w => h.run pins s σ H Q I (i _ _ _ w)⟩
theorem _root_.L2.PT.imp {X : Cx} {e : Expr} {t t' : TT} (h : PT X e t) (i : ∀ σ H Q, t' σ H Q → t σ H Q) : PT X e t' := ⟨fun pins s σ H Q I w => h.run pins s σ H Q I (i _ _ _ w)⟩
theorem _root_.L2.PW.imp {X : Cx} {e : Expr} {t t' : TT} (h : PW X e t) (i : ∀ σ H Q, t' σ H Q → t σ H Q) : PW X e t' := ⟨fun wh pins s σ H Q I w => h.run wh pins s σ H Q I (i _ _ _ w)⟩
theorem _root_.L2.PA.imp {X : Cx} {es : List Expr} {t t' : TA} (h : PA X es t) (i : ∀ σ H Q, t' σ H Q → t σ H Q) : PA X es t' := ⟨fun pos pins s σ H Q I w => h.run pos pins s σ H Q I (i _ _ _ w)⟩
theorem _root_.L2.PS.imp {X : Cx} {e : Stmt} {t t' : TS} (h : PS X e t) (i : ∀ D σ H, t' D σ H → t D σ H) : PS X e t' := ⟨fun pins s σ H D I w => h.run pins s σ H D I (i _ _ _ w)⟩
theorem _root_.L2.PSs.imp {X : Cx} {e : List Stmt} {t t' : TS} (h : PSs X e t) (i : ∀ D σ H, t' D σ H → t D σ H) : PSs X e t' := ⟨fun pins s σ H D I w => h.run pins s σ H D I (i _ _ _ w)⟩

section
variable {S : Sig} {ca : ExA} {W : WX} {X : Cx} {t : Bool} {a b c : C} {ea eb ec : Expr} {pos : Pos}
/-- two operands, then an operation -/
theorem rd_two {g : D → D → R D} {r : R2} {σ : L2.St} {H : Hp} {Q : VK} {F : Hp} {env : Env} (ne : ∀ d e n, g d e ≠ .exc n) (s : Ss X.K F H env σ)
    (p : PG ca W H σ ((ev S true a env).bind fun x => (ev S true b env).bind fun y => g x y) (WB t X.K F H Q))
    (hr : ∀ x y H' Q', rOp X.K g x y H' Q' → r x y H' Q') : tOp r (rd S ca W X.K true a) (rd S ca W X.K true b) σ H Q := by
  refine ⟨F, env, s, p.of_bind.imp fun d p x H1 s1 rx => ⟨F, env, s.grow s1, p.of_bind.go s1 fun e p y H2 s2 ry => hr _ _ _ _ ?_⟩⟩
  have s12 := s1.trans s2
  refine ⟨Gr F H H2, d, e, gr_sub s.sub s12, RpT.mono rx (gr_left s2) s2, RpT.mono ry (gr_right s.sub s1 s2) (fun _ _ z => z), ?_⟩
  unfold PostV
  cases q : g d e with
  | ok k =>
    rw [q] at p
    intro v H' s3 rv
    have rv' := Rp.mono (gr_gr s12 s3) rv
    exact p v H' (s12.trans s3) (RpB.of rv' (gr_sub s.sub (s12.trans s3)))
  | exc n => exact (ne d e n q).elim
  | bad => rw [q] at p; exact p
theorem se_var {i : Nat} {x : Str} (hN : X.N[i]? = some x) (hv : Vis X.env.scope x) (hd : (x == ("__debug__" : Str)) = false) (hcd : (x == ("__classdict__" : Str)) = false) : PE X (.Name x pos) (rd S ca W X.K t (.var i)) := by
  refine (pe_var hN hv hd hcd).imp fun σ H Q ⟨F, env, s, p⟩ => ?_
  have p : PG ca W H σ (getV t env i) (WB t X.K F H Q) := by
    have e : ev S t (.var i) env = getV t env i := by rw [ev]
    rw [e] at p; exact p
  unfold getV at p
  cases q : env[i]? with
  | none => rw [q] at p; exact p.elim
  | some o =>
    rw [q] at p
    obtain ⟨v, h1, h2⟩ := s.slot i o q
    match o, v, h2, p with
    | none, _, _, p => exact p.elim
    | some (true, d), some v, h2, p =>
      cases t with
      | false => exact p.elim
      | true =>
        refine ⟨v, h1, p v H (fun _ _ z => z) ?_⟩
        cases d with
        | list ds =>
          obtain ⟨l, vs, rfl, f, h3, r⟩ := h2
          exact ⟨l, vs, rfl, .inl (.inl h3), RpL.mono (gr_F s.sub) r⟩
        | _ => exact h2.elim
    | some (false, d), some v, h2, p =>
      have p : WB t X.K F H Q d := by cases t <;> exact p
      exact ⟨v, h1, p v H (fun _ _ z => z) (RpB.of (Rp.mono (gr_F s.sub) h2) (gr_sub s.sub fun _ _ z => z))⟩
/-- a constant of any kind -/
theorem rd_c {d : D} {v : V} {σ : L2.St} {H : Hp} {Q : VK} (h : rd S ca W X.K t (.cst d) σ H Q) (r : ∀ G, Rp X.K G v d) : Q v H := by
  obtain ⟨F, env, s, p⟩ := h
  have p : PG ca W H σ (.ok d) (WB t X.K F H Q) := by
    have e : ev S t (.cst d) env = .ok d := by rw [ev]
    rw [e] at p; exact p
  exact p v H (fun _ _ z => z) (RpB.of (r _) (gr_sub s.sub fun _ _ z => z))
theorem se_int {i : Int} {k : Nat} : PE X (.Constant (.int i) k pos) (rd S ca W X.K t (.cst (.int i))) := pe_int.imp fun _ _ _ h => rd_c h fun _ => .int i
theorem se_bool {b : Bool} {k : Nat} : PE X (.Constant (.bool b) k pos) (rd S ca W X.K t (.cst (.bool b))) := pe_bl.imp fun _ _ _ h => rd_c h fun _ => .bl b
theorem se_none {k : Nat} : PE X (.Constant .none k pos) (rd S ca W X.K t (.cst .none)) := pe_non.imp fun _ _ _ h => rd_c h fun _ => .non
theorem se_str {z : Str} {k : Nat} : PE X (.Constant (.str z) k pos) (rd S ca W X.K t (.cst (.str z))) := pe_str.imp fun _ _ _ h => rd_c h fun _ => .str z
theorem same_none {H : Hp} : Same (fun _ => none) H := fun _ _ e => nomatch e
theorem se_glob {x : Str} {v : V} {u : Value} {d : D} (hg : Gl X x) (hm : X.mg x = some u) (r : RelV v u) (hd : (x == ("__debug__" : Str)) = false) (e : S.gl x = .ok d) (rp : Rp X.K (fun _ => none) v d) : PE X (.Name x pos) (rd S ca W X.K t (.glob x)) := by
  refine (pe_glob hg hm r hd).imp fun σ H Q ⟨F, env, s, p⟩ => ?_
  have p : PG ca W H σ (.ok d) (WB t X.K F H Q) := by
    have e : ev S t (.glob x) env = .ok d := by rw [ev]; exact e
    rw [e] at p; exact p
  exact p v H (fun _ _ z => z) (RpB.of (Rp.mono same_none rp) (gr_sub s.sub fun _ _ z => z))
theorem se_bin {o : Bop} (ha : PE X ea (rd S ca W X.K true a)) (hb : PE X eb (rd S ca W X.K true b)) : PE X (.BinOp ea (bopS o) eb pos) (rd S ca W X.K t (.bin o a b)) := by
  refine (pe_op (op_bin o) ha hb).imp fun σ H Q ⟨F, env, s, p⟩ => ?_
  rw [ev] at p
  exact rd_two (fun _ _ _ => binD_noexc) s p fun _ _ _ _ h => h
theorem se_idx (ha : PE X ea (rd S ca W X.K true a)) (hb : PE X eb (rd S ca W X.K true b)) (hs : PlainIx eb) : PE X (.Subscript ea eb pos) (rd S ca W X.K t (.idx a b)) := by
  refine (pe_ix ix_D ha hb hs).imp fun σ H Q ⟨F, env, s, p⟩ => ?_
  rw [ev] at p
  exact rd_two (fun _ _ _ => ixD_noexc) s p fun _ _ _ _ h => h
/-- rOp's form of a comparison -/
theorem cmp_r {o : Cop} {x y : V} {H : Hp} {Q : VK} (h : rOp X.K (cmpD o) x y H Q) : rOpB X.K (cmpB o) x y H Q := by
  obtain ⟨F, d, e, f, hx, hy, q⟩ := h
  cases g : cmpB o d e with
  | ok k =>
    have q : PostV X.K F H (.ok (.bool k)) Q := by
      have e2 : cmpD o d e = .ok (.bool k) := by unfold cmpD; rw [g]; rfl
      rw [← e2]; exact q
    exact ⟨F, d, e, k, f, hx, hy, g, PostV.here f q (.bl k)⟩
  | exc n => exact (cmpB_noexc g).elim
  | bad =>
    have e2 : cmpD o d e = .bad := by unfold cmpD; rw [g]; rfl
    rw [e2] at q; exact q.elim
theorem se_cmp {o : Cop} (hu : X.A.units + 65 < cLine) (ha : PE X ea (rd S ca W X.K true a)) (hb : PE X eb (rd S ca W X.K true b)) (hm : behindInMarks (copS o) eb = false) : PE X (.Compare ea [copS o] [eb] pos) (rd S ca W X.K t (.cmp o a b)) := by
  refine (pe_cmpR (op_cmp hu o) ha hb hm).imp fun σ H Q ⟨F, env, s, p⟩ => ?_
  rw [ev] at p
  exact rd_two (fun _ _ _ => cmpD_noexc) s p fun _ _ _ _ h => cmp_r h
theorem toBool_bool {b : Bool} : toBool (.bool b) = .ok b := rfl
theorem st_cmp {o : Cop} (hu : X.A.units + 65 < cLine) (ha : PE X ea (rd S ca W X.K true a)) (hb : PE X eb (rd S ca W X.K true b)) (hm : behindInMarks (copS o) eb = false) : PT X (.Compare ea [copS o] [eb] pos) (rdT S ca W X.K (.cmp o a b)) := by
  refine (pt_cmpR (op_cmp hu o) ha hb hm).imp fun σ H Q ⟨F, env, s, p⟩ => ?_
  rw [ev] at p
  refine ⟨F, env, s, p.of_bind.of_bind.imp fun d p x H1 s1 rx => ⟨F, env, s.grow s1, p.of_bind.go s1 fun e p y H2 s2 ry => ?_⟩⟩
  have s12 := s1.trans s2
  cases g : cmpB o d e with
  | ok k =>
    have e2 : cmpD o d e = .ok (.bool k) := by unfold cmpD; rw [g]; rfl
    rw [e2] at p
    exact ⟨Gr F H H2, d, e, k, gr_sub s.sub s12, RpT.mono rx (gr_left s2) s2, RpT.mono ry (gr_right s.sub s1 s2) (fun _ _ z => z), g, k, rfl, p H2 s12⟩
  | exc n => exact (cmpB_noexc g).elim
  | bad =>
    have e2 : cmpD o d e = .bad := by unfold cmpD; rw [g]; rfl
    rw [e2] at p; exact p.elim
end
end Rf

set_option Elab.async false
set_option linter.all false
set_option maxHeartbeats 1000000
/-! Rf, part D: further expressions: argument lists, displays, calls, and, or, not, chains. -/
namespace Rf
open PySem PySem.Spec PyProof.Rows L2

def RpBs (t : Bool) (K : PySem.W.Frag) (G H : Hp) (vs : List V) (ds : List D) : Prop := match t with
  | true => RpTs K G H vs ds
  | false => RpL K G vs ds
theorem RpBs.cons {t : Bool} {K : PySem.W.Frag} {G H : Hp} {v : V} {vs : List V} {d : D} {ds : List D} (h : RpB t K G H v d) (r : RpBs t K G H vs ds) : RpBs t K G H (v :: vs) (d :: ds) := by
  cases t with
  | true => exact ⟨h, r⟩
  | false => exact RpL.cons h r
theorem RpBs.nil {t : Bool} {K : PySem.W.Frag} {G H : Hp} : RpBs t K G H [] [] := by
  cases t with
  | true => trivial
  | false => exact RpL.nil
theorem RpB.mono {t : Bool} {K : PySem.W.Frag} {G G' H H' : Hp} {v : V} {d : D} (h : RpB t K G H v d) (g : Same G G') (s : Same H H') : RpB t K G' H' v d := by
  cases t with
  | true => exact RpT.mono h g s
  | false => exact Rp.mono g h
theorem RpBs.mono {t : Bool} {K : PySem.W.Frag} {G G' H H' : Hp} {vs : List V} {ds : List D} (h : RpBs t K G H vs ds) (g : Same G G') (s : Same H H') : RpBs t K G' H' vs ds := by
  cases t with
  | true => exact RpTs.mono g s h
  | false => exact RpL.mono g h
theorem rdA_eq {S : Sig} {ca : ExA} {W : WX} {K : PySem.W.Frag} {t : Bool} {c : C} {σ : L2.St} {H : Hp} {Q : List V → Hp → Prop} :
    rdA S ca W K t c σ H Q ↔ ∃ F env, Ss K F H env σ ∧ PG ca W H σ (evs S t c env) (fun ds => ∀ vs H', Same H H' → RpBs t K (Gr F H H') H' vs ds → Q vs H') := by
  cases t <;> exact Iff.rfl
theorem same_refl {H : Hp} : Same H H := fun _ _ z => z

theorem WB.n {t : Bool} {K : PySem.W.Frag} {F H H1 : Hp} {Q : VK} {ds : List D} {vs : List V} {p : Addr} (f : Same F H) (h : WB t K F H Q (.list ds)) (s : Same H H1) (n : H1 p = none) (r : RpL K (Gr F H H1) vs ds) : Q (.ref p) (upd H1 p (.lst vs)) :=
  have s2 : Same H (upd H1 p (.lst vs)) := s.trans (same_upd n)
  h _ _ s2 (RpB.of (.lst (.inl (.inl (by rw [gr_none (s.free n), upd_same]))) (RpL.mono (gr_left (same_upd n)) r)) (gr_sub f s2))
theorem WB.t {t : Bool} {K : PySem.W.Frag} {F H H1 : Hp} {Q : VK} {ds : List D} {vs : List V} {p : Addr} (f : Same F H) (h : WB t K F H Q (.tuple ds)) (s : Same H H1) (n : H1 p = none) (r : RpL K (Gr F H H1) vs ds) : Q (.ref p) (upd H1 p (.tup vs)) :=
  have s2 : Same H (upd H1 p (.tup vs)) := s.trans (same_upd n)
  h _ _ s2 (RpB.of (.tup (.inl (.inl (by rw [gr_none (s.free n), upd_same]))) (RpL.mono (gr_left (same_upd n)) r)) (gr_sub f s2))
/-- a value without parts -/
theorem WB.s {t : Bool} {K : PySem.W.Frag} {F H H1 : Hp} {Q : VK} {d : D} {v : V} (f : Same F H) (h : WB t K F H Q d) (s : Same H H1) (r : ∀ G, Rp K G v d) : Q v H1 := h v H1 s (RpB.of (r _) (gr_sub f s))

def notStar : Expr → Bool | .Starred _ _ => false | _ => true
theorem star_cons {e : Expr} {es : List Expr} {env : PySem.Env} (h : notStar e = true) : starEach (e :: es) env = (false, eval e env) :: starEach es env := by
  cases e <;> first
    | rfl
    | cases h
theorem star_any {pos : Pos} {env : PySem.Env} : ∀ {es : List Expr}, es.all notStar = true → (backTo pos (starEach es env)).any (·.1) = false
  | [], _ => rfl
  | e :: es, h => by
    rw [List.all_cons, Bool.and_eq_true] at h
    rw [star_cons h.1]
    show ((false, _) :: backTo pos (starEach es env)).any (·.1) = false
    rw [List.any_cons, star_any h.2]; rfl
theorem ev_true {S : Sig} {a : C} {env : Env} : ev S false a env = ev S true a env ∨ ev S false a env = .bad := by
  cases a with
  | var i =>
    rw [ev, ev]
    unfold getV
    cases env[i]? with
    | none => exact .inl rfl
    | some o => match o with
      | none => exact .inl rfl
      | some (true, d) => exact .inr rfl
      | some (false, d) => exact .inl rfl
  | _ => exact .inl (by simp only [ev])

section
variable {S : Sig} {ca : ExA} {W : WX} {X : Cx} {t : Bool} {a b c : C} {ea eb ec : Expr} {es : List Expr} {pos : Pos}
theorem sa_nil : PA X [] (rdA S ca W X.K t .nil) := by
  refine pa_nil.imp fun σ H Q h => ?_
  obtain ⟨F, env, s, p⟩ := rdA_eq.mp h
  rw [evs] at p
  exact p [] H same_refl .nil
theorem sa_cons (ha : PE X ea (rd S ca W X.K t a)) (hr : PA X es (rdA S ca W X.K t b)) (hs : notStar ea = true) : PA X (ea :: es) (rdA S ca W X.K t (.cons a b)) := by
  refine (pa_cons ha hr (star_cons hs)).imp fun σ H Q h => ?_
  obtain ⟨F, env, s, p⟩ := rdA_eq.mp h
  rw [evs] at p
  refine ⟨F, env, s, p.of_bind.imp fun d p x H1 s1 rx => rdA_eq.mpr ⟨F, env, s.grow s1, p.of_bind.go s1 fun ds p vs H2 s2 rs => ?_⟩⟩
  exact p (x :: vs) H2 (s1.trans s2) (.cons (RpB.mono rx (gr_left s2) s2) (RpBs.mono rs (gr_right s.sub s1 s2) same_refl))
theorem se_tup {k : Nat} (h : PA X es (rdA S ca W X.K false a)) : PE X (.Tuple es k pos) (rd S ca W X.K t (.tup a)) := by
  refine (pe_tup h).imp fun σ H Q ⟨F, env, s, p⟩ => ?_
  rw [ev] at p
  refine ⟨F, env, s, p.of_bind.imp fun ds p vs H1 s1 rs => ?_⟩
  have rs : RpL X.K (Gr F H H1) vs ds := rs
  cases q : decide (ds.length ≤ lineN) with
  | false => rw [q] at p; exact p.elim
  | true =>
    rw [q] at p
    simp only [decide_eq_true_eq, lineN_eq] at q
    exact ⟨by rw [rs.length]; exact q, fun l hl => WB.t s.sub p s1 hl rs⟩
theorem se_lst (h : PA X es (rdA S ca W X.K false a)) : PE X (.List es pos) (rd S ca W X.K t (.lst a)) := by
  refine (pe_lst h).imp fun σ H Q ⟨F, env, s, p⟩ => ?_
  rw [ev] at p
  refine ⟨F, env, s, p.of_bind.imp fun ds p vs H1 s1 rs => ?_⟩
  have rs : RpL X.K (Gr F H H1) vs ds := rs
  cases q : decide (ds.length ≤ lineN) with
  | false => rw [q] at p; exact p.elim
  | true =>
    rw [q] at p
    simp only [decide_eq_true_eq, lineN_eq] at q
    exact ⟨by rw [rs.length]; exact q, fun l hl => WB.n s.sub p s1 hl rs⟩

/-! ### calls of built-in functions -/
def biNm : BI → Str
  | .len => "len" | .all => "all" | .sum => "sum" | .sorted => "sorted" | .list => "list" | .tuple => "tuple" | .int => "int" | .min => "min" | .max => "max" | .str => "str"
  | _ => "isinstance"
/-- which have their rule -/
def biR : BI → Bool
  | .len => true | .all => true | .sum => true | .list => true | .tuple => true | .int => true | _ => false
theorem rd_bi {bi : BI} {σ : L2.St} {H : Hp} {Q : VK} (h : rd S ca W X.K t (.bi bi a) σ H Q) : tCB (rBI X.K bi) (rdA S ca W X.K true a) σ H Q := by
  obtain ⟨F, env, s, p⟩ := h
  rw [ev] at p
  refine rdA_eq.mpr ⟨F, env, s, p.of_bind.imp fun ds p vs H1 s1 rs => ?_⟩
  refine ⟨Gr F H H1, ds, gr_sub s.sub s1, rs, ?_⟩
  unfold PostV
  cases q : biD bi ds with
  | ok k =>
    rw [q] at p
    intro v H' s3 rv
    exact p v H' (s1.trans s3) (RpB.of (Rp.mono (gr_gr s1 s3) rv) (gr_sub s.sub (s1.trans s3)))
  | exc n => exact (biD_noexc q).elim
  | bad => rw [q] at p; exact p
theorem se_bi {bi : BI} {x : Str} {p : Pos} (hb : biR bi = true) (hx : biNm bi = x) (hc : X.calm = true) (hg : Gl X x) (hm : X.mg x = none) (ha : PA X (ea :: es) (rdA S ca W X.K true a)) (hs : (ea :: es).all notStar = true) :
    PE X (.Call (.Name x p) (ea :: es) [] pos) (rd S ca W X.K t (.bi bi a)) := by
  subst hx
  rw [List.all_cons, Bool.and_eq_true] at hs
  have he := star_cons (es := es) (env := X.env) hs.1
  have hp := star_any (pos := pos) (env := X.env) hs.2
  refine L2.PE.imp (t := tCB (rBI X.K bi) (rdA S ca W X.K true a)) ?_ fun σ H Q h => rd_bi h
  cases bi <;> first
    | exact absurd hb (by decide)
    | exact pe_callB cr_len hg hm boot_len ha (by decide) (by decide) he hp
    | exact pe_callB (cr_allD hc) hg hm (by decide +kernel) ha (by decide) (by decide) he hp
    | exact pe_callB (cr_sumD hc) hg hm (by decide +kernel) ha (by decide) (by decide) he hp
    | exact pe_callTy cr_listD hg hm (by decide +kernel) ha (by decide) (by decide) he hp
    | exact pe_callTy cr_tupleD hg hm (by decide +kernel) ha (by decide) (by decide) he hp
    | exact pe_callTy cr_intD hg hm (by decide +kernel) ha (by decide) (by decide) he hp
theorem RpT.nodict {K : PySem.W.Frag} {F H : Hp} {x : V} {d : D} (h : RpT K F H x d) : ∀ k, d ≠ .dict k := fun k e => by subst e; exact h
theorem se_is {bi : BI} {T : String} {x ty : Str} {p p2 : Pos} (hi : isTy bi = some T) (hx : x = "isinstance") (hg : Gl X x) (hm : X.mg x = none) (hg2 : Gl X ty) (hm2 : X.mg ty = none) (hb2 : bootBuiltins ty = some (.type T)) (hn2 : ty ≠ "__name__") (hd2 : (ty == ("__debug__" : Str)) = false)
    (ha : PE X ea (rd S ca W X.K true a)) (hs : notStar ea = true) :
    PE X (.Call (.Name x p) [ea, .Name ty p2] [] pos) (rd S ca W X.K t (.bi bi (.cons a .nil))) := by
  subst hx
  have hty : PE X (.Name ty p2) (tC (.ty T)) := pe_bltn hg2 hm2 hb2 rfl hn2 hd2
  have he := star_cons (es := [.Name ty p2]) (env := X.env) hs
  refine L2.PE.imp (t := tCB (rIs X.K T) (tCons (rd S ca W X.K true a) (tCons (tC (.ty T)) tNil))) (pe_callB cr_is hg hm (by decide +kernel) (pa_cons ha (pa_cons hty pa_nil rfl) he) (by decide) (by decide) he rfl) fun σ H Q ⟨F, env, s, p⟩ => ?_
  rw [ev] at p
  have e1 : evs S true (.cons a .nil) env = (ev S true a env).bind fun d => .ok [d] := by rw [evs, evs]; rfl
  rw [e1] at p
  refine ⟨F, env, s, p.of_bind.of_bind.imp fun d p x H1 s1 rx => ?_⟩
  have rx : RpT X.K (Gr F H H1) H1 x d := rx
  obtain ⟨k, h1, h2⟩ := is_ans hi d rx.nodict
  have p : PG ca W H σ (biD bi [d]) (WB t X.K F H Q) := p
  rw [h1] at p
  exact ⟨Gr F H H1, x, d, k, rfl, gr_sub s.sub s1, rx, h2, WB.s s.sub p s1 fun _ => .bl k⟩

/-! ### calls of the text's own defs -/
def spD (K : PySem.W.Frag) (S : Sig) (ca : ExA) (f : Str) (n : Nat) : Sp := fun vs H Q E => vs.length = n ∧ ∃ F ds, Same F H ∧ RpL K F vs ds ∧
  PG ca (fun cls d _ H' => E cls d H') H [] (S.cl f ds) (fun d => ∀ v H', Same H H' → Rp K (Gr F H H') v d → Q v H')
theorem rd_call {f : Str} {n : Nat} {σ : L2.St} {H : Hp} {Q : VK} (h : rd S ca W X.K t (.call f a) σ H Q) (hn : ∀ env ds, evs S false a env = .ok ds → ds.length = n) : tCallS (spD X.K S ca f n) (WE W) (rdA S ca W X.K false a) σ H Q := by
  obtain ⟨F, env, s, p⟩ := h
  rw [ev] at p
  cases q : evs S false a env with
  | ok ds =>
    rw [q] at p
    have hl := hn env ds q
    refine rdA_eq.mpr ⟨F, env, s, ?_⟩
    rw [q]
    intro vs H1 s1 rs
    have rs : RpL X.K (Gr F H H1) vs ds := rs
    have p : PG ca W H σ (S.cl f ds) (WB t X.K F H Q) := p
    refine ⟨by rw [rs.length]; exact hl, Gr F H H1, ds, gr_sub s.sub s1, rs, ?_⟩
    cases q2 : S.cl f ds with
    | ok d =>
      rw [q2] at p
      intro v H' s2 rv
      exact p v H' (s1.trans s2) (RpB.of (Rp.mono (gr_gr s1 s2) rv) (gr_sub s.sub (s1.trans s2)))
    | exc n =>
      rw [q2] at p
      exact fun H' C s2 e => p H' C (s1.trans s2) e
    | bad => rw [q2] at p; exact p
  | exc n =>
    refine rdA_eq.mpr ⟨F, env, s, ?_⟩
    rw [q] at p ⊢
    exact p
  | bad => rw [q] at p; exact p.elim
/-- as many as are written -/
def cLen : C → Nat
  | .cons _ r => cLen r + 1
  | _ => 0
theorem evs_inv {S : Sig} {t : Bool} {env : Env} {a : C} {ds : List D} (e : evs S t a env = .ok ds) : (a = .nil ∧ ds = []) ∨ ∃ h r d ds', a = .cons h r ∧ ds = d :: ds' ∧ ev S t h env = .ok d ∧ evs S t r env = .ok ds' := by
  unfold evs at e
  split at e
  · cases e; exact .inl ⟨rfl, rfl⟩
  · obtain ⟨d, e1, e2⟩ := bind_ok e
    obtain ⟨ds', e3, e4⟩ := bind_ok e2
    cases e4
    exact .inr ⟨_, _, _, _, rfl, rfl, e1, e3⟩
  · cases e
theorem evs_len {S : Sig} {t : Bool} {env : Env} {ds : List D} : ∀ {a : C}, evs S t a env = .ok ds → ds.length = cLen a := by
  induction ds with
  | nil =>
    intro a e
    rcases evs_inv e with ⟨rfl, _⟩ | ⟨_, _, _, _, _, z, _⟩
    · rfl
    · cases z
  | cons d ds ih =>
    intro a e
    rcases evs_inv e with ⟨_, z⟩ | ⟨h, r, _, _, rfl, z, _, e⟩
    · cases z
    · cases z
      rw [List.length_cons, ih e]; rfl
theorem se_call {f : Str} {n k : Nat} {fa : Addr} {fd : FuncData} {ps : List Str} {p : Pos} (G : FnOk X.prog X.w X.K X.mg X.base (L2.CX X.prog X.w) k fa fd ps (spD X.K S ca f n)) (hr : Room k X.A) (hg : Gl X f) (hm : X.mg f = some (.ref fa)) (hk : PySem.W.keepIn X.K (.ref fa) = true)
    (hb : Binds X.K fd ps []) (tk : Takes X W) (ha : PA X (ea :: es) (rdA S ca W X.K false a)) (hn : cLen a = n) (hd : (f == ("__debug__" : Str)) = false) (hs : (ea :: es).all notStar = true) : PE X (.Call (.Name f p) (ea :: es) [] pos) (rd S ca W X.K t (.call f a)) := by
  rw [List.all_cons, Bool.and_eq_true] at hs
  exact (pe_callS G hr hg hm hk hb (passAt tk) ha hd (star_cons hs.1) (star_any hs.2)).imp fun σ H Q h => rd_call h fun env ds e => by rw [evs_len e]; exact hn

/-! ### tests -/
theorem RpT.bl {K : PySem.W.Frag} {F H : Hp} {x : V} {b : Bool} (h : RpT K F H x (.bool b)) : x = .bl b := h
theorem toBool_ok {d : D} {k : Bool} (h : toBool d = .ok k) : d = .bool k := by
  cases d <;> cases h
  rfl
theorem toBool_noexc {d : D} {n : Str} : toBool d ≠ .exc n := by
  cases d <;> exact fun z => nomatch z
theorem rdT_val {σ : L2.St} {H : Hp} {Q : Bool → Hp → Prop} (h : rdT S ca W X.K a σ H Q) : tB (rd S ca W X.K true a) σ H Q := by
  obtain ⟨F, env, s, p⟩ := h
  refine ⟨F, env, s, p.of_bind.imp fun d p x H1 s1 rx => ?_⟩
  have rx : RpT X.K (Gr F H H1) H1 x d := rx
  cases q : toBool d with
  | ok k =>
    rw [q] at p
    have e := toBool_ok q
    subst e
    exact ⟨k, rx, p H1 s1⟩
  | exc n => exact (toBool_noexc q).elim
  | bad => rw [q] at p; exact p.elim
def plainT : Expr → Bool
  | .BoolOp _ _ _ => false | .UnaryOp _ _ _ => false | .Compare _ _ _ _ => false | .IfExp _ _ _ _ => false | .NamedExpr _ _ _ => false | .Constant _ _ _ => false | .Tuple _ _ _ => false | .List _ _ => false | .Set _ _ _ => false | .Dict _ _ _ => false | _ => true
theorem st_val (he : PE X ea (rd S ca W X.K true a)) (hp : ∀ whole, isTrue ea X.env whole = (do let v ← whole; standAt ea.pos; holding [v] (truthy v))) : PT X ea (rdT S ca W X.K a) :=
  (pt_val he hp).imp fun σ H Q h => rdT_val h
end
end Rf

set_option Elab.async false
set_option linter.all false
set_option maxHeartbeats 1000000
/-! Rf, part I: what a for or a comprehension walks: lists, tuples, texts, ranges, enumerate and zip of these. -/
namespace Rf
open PySem PySem.Spec PyProof.Rows L2

/-! ### sources -/
inductive Sr where
  | lst (a : Addr) | tup (a : Addr) | str (z : Str)
def SrOk (K : PySem.W.Frag) (H : Hp) : Sr → List V → Prop
  | .lst a, vs => SqL K H a vs
  | .tup a, vs => SqT K H a vs
  | .str z, vs => vs = z.cps.toList.map fun c => V.str ⟨#[c]⟩
def SrIt (h : Heap) (it : Addr) (i : Nat) : Sr → Prop
  | .lst a => h.IsListIter it a i
  | .tup a => h.IsTupleIter it a i
  | .str z => ∃ t, h.IsStrIter it (strIterType z) z t i
def SrV : Sr → Value → Prop
  | .lst a, v => v = .ref a
  | .tup a, v => v = .ref a
  | .str z, v => ∃ t, v = .str z t
def srAd : Sr → List Addr
  | .lst a => [a]
  | .tup a => [a]
  | .str _ => []
theorem SrIt.at {h h' : Heap} {it : Addr} {i : Nat} {sr : Sr} (x : SrIt h it i sr) (k : ∀ o, h.get? it = some o → h'.get? it = some o) : SrIt h' it i sr := by
  cases sr with
  | lst a => obtain ⟨o, e, r⟩ := x; exact ⟨o, k o e, r⟩
  | tup a => obtain ⟨o, e, r⟩ := x; exact ⟨o, k o e, r⟩
  | str z => obtain ⟨t, o, e, r⟩ := x; exact ⟨t, o, k o e, r⟩
theorem SrIt.obj {h : Heap} {it : Addr} {i : Nat} {sr : Sr} (x : SrIt h it i sr) : ∃ o, h.get? it = some o ∧ ∀ v, o.data ≠ .cell v := by
  cases sr with
  | lst a => obtain ⟨o, e, _, d⟩ := x; exact ⟨o, e, fun v q => by rw [d] at q; cases q⟩
  | tup a => obtain ⟨o, e, _, d⟩ := x; exact ⟨o, e, fun v q => by rw [d] at q; cases q⟩
  | str z => obtain ⟨t, o, e, _, d⟩ := x; exact ⟨o, e, fun v q => by rw [d] at q; cases q⟩
theorem SrOk.mono {K : PySem.W.Frag} {H H' : Hp} {sr : Sr} {vs : List V} (s : Same H H') (h : SrOk K H sr vs) : SrOk K H' sr vs := by
  cases sr with
  | lst a => exact s.sqL h
  | tup a => exact s.sqT h
  | str z => exact h
section
variable {X : Cx} {pins : List (Addr × Obj)} {σ : L2.St} {H : Hp} {s : Shared}
theorem SrOk.inj (I : Inv X pins σ H s) {sr : Sr} {vs ws : List V} (h : SrOk X.K H sr vs) (h' : SrOk X.K H sr ws) : vs = ws := by
  cases sr with
  | lst a => exact I.list_inj h h'
  | tup a => exact I.tuple_inj h h'
  | str z => exact (show vs = _ from h).trans (show ws = _ from h').symm
theorem SrOk.len (I : Inv X pins σ H s) {sr : Sr} {vs : List V} (h : SrOk X.K H sr vs) (hz : ∀ z, sr = .str z → z.length ≤ lineN) : vs.length ≤ lineN := by
  rw [lineN_eq]
  cases sr with
  | lst a => obtain ⟨_, _, _, z⟩ := I.list h; exact z
  | tup a => obtain ⟨_, _, _, z⟩ := I.tuple h; exact z
  | str z =>
    cases (show vs = _ from h)
    have := hz z rfl
    rw [lineN_eq] at this
    rw [List.length_map]
    exact this
/-- what a source's iterator draws -/
theorem sr_draws (I : Inv X pins σ H s) (hh : X.A.handled = none) {sr : Sr} {vs : List V} {it : Addr} {i : Nat} (h : SrOk X.K H sr vs) (hit : SrIt s.heap it i sr) (hne : ∀ a ∈ srAd sr, a ≠ it) :
    ∃ (P : Nat → Value → Prop) (St : Nat → Heap → Prop), Draws X.prog X.w X.A.in1 it (it :: srAd sr) vs.length P St ∧ (∀ i x, P i x → ∃ v, vs[i]? = some v ∧ RelV v x) ∧ St i s.heap ∧ ∀ i h, St i h → SrIt h it i sr := by
  have hh' : X.A.in1.handled = none := hh
  cases sr with
  | lst a =>
    obtain ⟨its, r, p, z⟩ := I.list h
    refine ⟨fun i v => its.toArray[i]? = some v, fun i h => h.IsListIter it a i ∧ h.IsList a its.toArray, by rw [r.length, ← List.size_toArray]; exact Draws.list hh' it a (hne a (by simp [srAd])) its.toArray, fun i x hx => ?_, ⟨hit, p.isList⟩, fun i h st => st.1⟩
    have hx : its[i]? = some x := by simpa using hx
    cases e : vs[i]? with
    | none => rw [Vals.none_of r e] at hx; cases hx
    | some v =>
      obtain ⟨u, h1, h2⟩ := Vals.get r e
      rw [hx] at h1; cases h1
      exact ⟨v, rfl, h2⟩
  | tup a =>
    obtain ⟨its, r, p, z⟩ := I.tuple h
    refine ⟨fun i v => its.toArray[i]? = some v, fun i h => h.IsTupleIter it a i ∧ h.IsTuple a its.toArray, by rw [r.length, ← List.size_toArray]; exact Draws.tuple hh' it a (hne a (by simp [srAd])) its.toArray, fun i x hx => ?_, ⟨hit, show s.heap.IsTuple a its.toArray from p⟩, fun i h st => st.1⟩
    have hx : its[i]? = some x := by simpa using hx
    cases e : vs[i]? with
    | none => rw [Vals.none_of r e] at hx; cases hx
    | some v =>
      obtain ⟨u, h1, h2⟩ := Vals.get r e
      rw [hx] at h1; cases h1
      exact ⟨v, rfl, h2⟩
  | str z =>
    cases (show vs = _ from h)
    obtain ⟨t, hit⟩ := hit
    refine ⟨_, _, by rw [List.length_map, Array.length_toList]; exact Draws.text hh' it z t, fun i x hx => ?_, hit, fun i h st => ⟨t, st⟩⟩
    obtain ⟨c, u, h1, rfl⟩ := hx
    exact ⟨.str ⟨#[c]⟩, by simp [h1], ⟨u, rfl⟩⟩
/-- iter(v) makes one object -/
theorem sr_begins (I : Inv X pins σ H s) {sr : Sr} {vs : List V} {v : Value} (h : SrOk X.K H sr vs) (hv : SrV sr v) :
    ∃ (o : Obj) (Hb : Heap → Prop), Begins v o Hb ∧ Hb s.heap ∧ (∀ (h : Heap) (it : Addr), h.get? it = some o → SrIt h it 0 sr) ∧ ∀ a ∈ srAd sr, a < s.heap.objs.size := by
  cases sr with
  | lst a =>
    cases (show v = .ref a from hv)
    obtain ⟨its, r, p, z⟩ := I.list h
    exact ⟨_, _, begins_list a its.toArray, p.isList, fun h it e => ⟨_, e, rfl, rfl⟩, fun b hb => by cases (List.mem_singleton.mp hb); exact p.lt⟩
  | tup a =>
    cases (show v = .ref a from hv)
    obtain ⟨its, r, p, z⟩ := I.tuple h
    exact ⟨_, _, begins_tuple a its.toArray, (show s.heap.IsTuple a its.toArray from p), fun h it e => ⟨_, e, rfl, rfl⟩, fun b hb => by cases (List.mem_singleton.mp hb); exact p.lt⟩
  | str z =>
    obtain ⟨t, rfl⟩ := (show ∃ t, v = .str z t from hv)
    exact ⟨_, _, begins_text z t, trivial, fun h it e => ⟨t, _, e, rfl, rfl⟩, fun b hb => nomatch hb⟩
end

/-! ### pairs: a step of a walk whose targets are tuples -/
theorem pair_step {X : Cx} {pins : List (Addr × Obj)} {σ : L2.St} {H : Hp} {s : Shared} {E : Value → Shared → Prop} {I : Addr} {fp wr : List Addr} {n i : Nat} {Pt : Nat → Array Value → Prop} {St : Nat → Heap → Prop} {Mid : Nat → Addr → Heap → Prop} {elts : List Expr} {kk : Nat} {tpos : Pos} {x y : V}
    (W : WalksT X.prog X.w X.A I fp wr n Pt St Mid) (J : Inv X pins σ H s) (hf : ∀ b ∈ wr, FpOk X pins H b) (hi : i < n) (st : St i s.heap) (rel : ∀ vals, Pt i vals → ∃ u1 u2, vals = #[u1, u2] ∧ RelV x u1 ∧ RelV y u2) :
    wpAny (model X.prog X.w) X.A (pyNext (.ref I)) (fun r s1 => ∃ u, r = some u ∧
      wpAny (model X.prog X.w) X.A (letOwnedTupleGo (.Tuple elts kk tpos) (.ref I) u) (fun _ s2 => ∃ T, u = .ref T ∧ H T = none ∧ s.heap.objs.size ≤ T ∧ Inv X pins σ (upd H T (.tup [x, y])) s2 ∧ St (i + 1) s2.heap) E s1) E s := by
  refine W.item i s _ _ hi st fun T vals h' tk hp hT hIs mid keep => ⟨_, rfl, ?_⟩
  obtain ⟨u1, u2, rfl, r1, r2⟩ := rel vals hp
  refine W.go elts kk tpos i T { s with heap := h', toks := tk } _ _ mid fun h'' st'' keep2 => ?_
  have hn : H T = none := J.hok.fresh hT
  have hIs2 : h''.IsTuple T #[u1, u2] := by
    obtain ⟨o, e, r⟩ := hIs
    exact ⟨o, keep2 T o (W.apart _ _ _ mid) e, r⟩
  refine ⟨T, rfl, hn, hT, J.turnedNew (t' := tk) (ch := wr) (fun b o hb e => keep2 b o hb (keep b o hb e)) hf hT ?_, st''⟩
  exact ⟨by show 2 ≤ sizeLine; decide, [u1, u2], .cons r1 (.cons r2 .nil), hIs2⟩
theorem pair_done {X : Cx} {pins : List (Addr × Obj)} {σ : L2.St} {H : Hp} {s : Shared} {E : Value → Shared → Prop} {I : Addr} {fp wr : List Addr} {n : Nat} {Pt : Nat → Array Value → Prop} {St : Nat → Heap → Prop} {Mid : Nat → Addr → Heap → Prop}
    (W : WalksT X.prog X.w X.A I fp wr n Pt St Mid) (J : Inv X pins σ H s) (hf : ∀ b ∈ wr, FpOk X pins H b) (st : St n s.heap) :
    wpAny (model X.prog X.w) X.A (pyNext (.ref I)) (fun r s1 => r = none ∧ Inv X pins σ H s1) E s :=
  W.done s _ _ st fun h' tk keep => ⟨rfl, J.turnedL (t' := tk) (ch := wr) keep hf⟩

/-! ### enumerate -/
def JEnum (K : PySem.W.Frag) (sr : Sr) : It :=
  ⟨fun i H => ∃ xs, SrOk K H sr xs ∧ i < xs.length,
   fun i H v H' => ∃ T x, v = .ref T ∧ H T = none ∧ H' = upd H T (.tup [.int (i : Nat), x]) ∧ ∀ xs, SrOk K H sr xs → xs[i]? = some x,
   fun i H => ∃ xs, SrOk K H sr xs ∧ xs.length = i⟩
theorem turn_enumD {P : Program} {w : World} {K : PySem.W.Frag} {elts : List Expr} {kk : Nat} {tpos : Pos} (N : Nat) (sr : Sr) (hN : ∀ a ∈ srAd sr, a < N) :
    Turn P w K (.Tuple elts kk tpos) (JEnum K sr) [N + 1, N] (N + 1) (fun i h => (∃ old, IsEnum h (N + 1) N ((i : Nat) : Int) old) ∧ SrIt h N i sr) where
  mem := by simp
  obj := fun i h st b hb => by
    obtain ⟨⟨old, he⟩, hit⟩ := st
    have e' : b = N + 1 ∨ b = N := by simpa using hb
    rcases e' with z | z
    · rw [z]; exact ⟨_, he, fun v q => nomatch q⟩
    · rw [z]; exact hit.obj
  keep := fun i h h' st k => let ⟨⟨old, he⟩, hi⟩ := st; ⟨⟨old, k (N + 1) (by simp) _ he⟩, hi.at fun o q => k N (by simp) o q⟩
  item := by
    intro X hP hw hK hc i pins s σ H E I hf st hg
    subst hP hw hK
    obtain ⟨⟨old, he⟩, hit⟩ := st
    obtain ⟨xs, hq, hx⟩ := hg
    have hne : ∀ a ∈ srAd sr, a ≠ N := fun a ha z => by have := hN a ha; rw [z] at this; exact absurd this (Nat.lt_irrefl _)
    obtain ⟨Pd, Sd, D, hP, hS, hB⟩ := sr_draws I (I.ok.hd hc) hq hit hne
    have hef : (N + 1) ∉ N :: srAd sr := fun hm => by
      rcases List.mem_cons.mp hm with e | hm
      · exact absurd e (Nat.succ_ne_self _)
      · have q : (N + 1 : Nat) < N := hN _ hm
        omega
    have W := WalksT.enumFrom (prog := X.prog) (w := X.w) (A := X.A) 0 D (N + 1) (Nat.succ_ne_self _) hef (List.mem_cons_self ..)
    have e0 : ∀ i : Nat, (0 : Int) + (i : Int) = (i : Int) := fun i => by omega
    refine thn (pair_step (i := i) (x := .int (i : Nat)) (y := xs[i]) W I (fun b hb => hf b hb) hx ⟨⟨old, by rw [e0]; exact he⟩, hS⟩ fun vals hp => ?_) fun r s1 ⟨u, hu, h1⟩ => ⟨u, hu, thn h1 fun _ s2 ⟨T, eT, hT, hsz, I2, ⟨old2, st2⟩, st3⟩ => ?_⟩
    · obtain ⟨t, x, hx', rfl⟩ := hp
      obtain ⟨v, h1, h2⟩ := hP i x hx'
      have : xs[i] = v := by
        have h3 := List.getElem?_eq_getElem hx
        rw [h3] at h1; exact Option.some.inj h1
      rw [this]
      exact ⟨_, _, rfl, ⟨t, by rw [e0]⟩, h2⟩
    · refine ⟨.ref T, _, I2, eT ▸ rfl, ⟨T, xs[i], rfl, hT, rfl, fun ys hy => by rw [SrOk.inj I hy hq]; exact List.getElem?_eq_getElem hx⟩, ⟨⟨old2, ?_⟩, hB _ _ st3⟩, fun b hb => ?_⟩
      · rw [e0] at st2; exact st2
      · have hb' : b < s.heap.objs.size := by
          have e' : b = N + 1 ∨ b = N := by simpa using hb
          rcases e' with z | z
          · rw [z]; exact Heap.lt_size he
          · rw [z]; obtain ⟨o, q, _⟩ := hit.obj; exact Heap.lt_size q
        rw [upd_ne (Nat.ne_of_lt (Nat.lt_of_lt_of_le hb' hsz))]
        exact (hf b hb).1
  done := by
    intro X hP hw hK hc i pins s σ H E I hf st hg
    subst hP hw hK
    obtain ⟨⟨old, he⟩, hit⟩ := st
    obtain ⟨xs, hq, hx⟩ := hg
    have hne : ∀ a ∈ srAd sr, a ≠ N := fun a ha z => by have := hN a ha; rw [z] at this; exact absurd this (Nat.lt_irrefl _)
    obtain ⟨Pd, Sd, D, hP, hS, hB⟩ := sr_draws I (I.ok.hd hc) hq hit hne
    have hef : (N + 1) ∉ N :: srAd sr := fun hm => by
      rcases List.mem_cons.mp hm with e | hm
      · exact absurd e (Nat.succ_ne_self _)
      · have q : (N + 1 : Nat) < N := hN _ hm
        omega
    have W := WalksT.enumFrom (prog := X.prog) (w := X.w) (A := X.A) 0 D (N + 1) (Nat.succ_ne_self _) hef (List.mem_cons_self ..)
    have e0 : ∀ i : Nat, (0 : Int) + (i : Int) = (i : Int) := fun i => by omega
    exact pair_done W I (fun b hb => hf b hb) ⟨⟨old, by rw [e0, hx]; exact he⟩, by rw [hx]; exact hS⟩
  self := fun A i s Q E st h => let ⟨⟨_, he⟩, _⟩ := st; wpAny_pyIter_enum he h

/-! ### zip -/
def JZip (K : PySem.W.Frag) (s1 s2 : Sr) : It :=
  ⟨fun i H => ∃ xs ys, SrOk K H s1 xs ∧ SrOk K H s2 ys ∧ i < min xs.length ys.length,
   fun i H v H' => ∃ T x y, v = .ref T ∧ H T = none ∧ H' = upd H T (.tup [x, y]) ∧ (∀ xs, SrOk K H s1 xs → xs[i]? = some x) ∧ ∀ ys, SrOk K H s2 ys → ys[i]? = some y,
   fun i H => ∃ xs ys, SrOk K H s1 xs ∧ SrOk K H s2 ys ∧ min xs.length ys.length = i⟩
theorem turn_zipD {P : Program} {w : World} {K : PySem.W.Frag} {elts : List Expr} {kk : Nat} {tpos : Pos} (N : Nat) (s1 s2 : Sr) (hN1 : ∀ a ∈ srAd s1, a < N) (hN2 : ∀ a ∈ srAd s2, a < N) :
    Turn P w K (.Tuple elts kk tpos) (JZip K s1 s2) [N + 4, N + 2, N + 3, N, N + 1] (N + 4)
      (fun i h => IsZip h (N + 4) (N + 2) (N + 3) .none ∧ IsTupOf2 h (N + 2) (.ref N) (.ref (N + 1)) ∧ (∃ x y, IsTupOf2 h (N + 3) x y) ∧ SrIt h N i s1 ∧ SrIt h (N + 1) i s2) where
  mem := by simp
  obj := fun i h st b hb => by
    obtain ⟨hz, hTI, ⟨x, y, hTO⟩, h1, h2⟩ := st
    have e' : b = N + 4 ∨ b = N + 2 ∨ b = N + 3 ∨ b = N ∨ b = N + 1 := by simpa using hb
    rcases e' with q | q | q | q | q
    · rw [q]; exact ⟨_, hz, fun v q => nomatch q⟩
    · rw [q]; exact ⟨_, hTI, fun v q => nomatch q⟩
    · rw [q]; exact ⟨_, hTO, fun v q => nomatch q⟩
    · rw [q]; exact h1.obj
    · rw [q]; exact h2.obj
  keep := fun i h h' st k => by
    obtain ⟨hz, hTI, ⟨x, y, hTO⟩, h1, h2⟩ := st
    exact ⟨k _ (by simp) _ hz, k _ (by simp) _ hTI, ⟨x, y, k _ (by simp) _ hTO⟩, h1.at fun o q => k _ (by simp) o q, h2.at fun o q => k _ (by simp) o q⟩
  item := by
    intro X hP hw hK hc i pins s σ H E I hf st hg
    subst hP hw hK
    obtain ⟨hz, hTI, ⟨x0, y0, hTO⟩, h1, h2⟩ := st
    obtain ⟨xs, ys, hqx, hqy, hlt⟩ := hg
    have hne1 : ∀ a ∈ srAd s1, a ≠ N := fun a ha z => by have := hN1 a ha; rw [z] at this; exact absurd this (Nat.lt_irrefl _)
    have hne2 : ∀ a ∈ srAd s2, a ≠ N + 1 := fun a ha z => absurd (Nat.lt_of_lt_of_le (hN2 a ha) (Nat.le_succ N)) (by rw [z]; exact Nat.lt_irrefl _)
    obtain ⟨P1, S1, D1, hP1, hS1, hB1⟩ := sr_draws I (I.ok.hd hc) hqx h1 hne1
    obtain ⟨P2, S2, D2, hP2, hS2, hB2⟩ := sr_draws I (I.ok.hd hc) hqy h2 hne2
    have W := WalksT.zipD2 (prog := X.prog) (w := X.w) (A := X.A) (zip_sep2 hN1 hN2) D1 D2
    have hx : i < xs.length := by omega
    have hy : i < ys.length := by omega
    have sub : ∀ b ∈ ([N + 4, N + 3, N, N + 1] : List Addr), b ∈ ([N + 4, N + 2, N + 3, N, N + 1] : List Addr) := fun b hb => by
      have e' : b = N + 4 ∨ b = N + 3 ∨ b = N ∨ b = N + 1 := by simpa using hb
      rcases e' with q | q | q | q <;> (rw [q]; simp)
    refine thn (pair_step (i := i) (x := xs[i]) (y := ys[i]) W I (fun b hb => hf b (sub b hb)) hlt ⟨hz, hTI, ⟨x0, y0, hTO⟩, hS1, hS2⟩ fun vals hp => ?_) fun r s1' ⟨u, hu, g1⟩ => ⟨u, hu, thn g1 fun _ s2' ⟨T, eT, hT, hsz, I2, z2, t2, o2, d1, d2⟩ => ?_⟩
    · obtain ⟨x1, x2, hx1, hx2, rfl⟩ := hp
      obtain ⟨v1, a1, b1⟩ := hP1 i x1 hx1
      obtain ⟨v2, a2, b2⟩ := hP2 i x2 hx2
      rw [List.getElem?_eq_getElem hx] at a1
      rw [List.getElem?_eq_getElem hy] at a2
      cases a1; cases a2
      exact ⟨_, _, rfl, b1, b2⟩
    · refine ⟨.ref T, _, I2, eT ▸ rfl, ⟨T, xs[i], ys[i], rfl, hT, rfl, fun l hl => by rw [SrOk.inj I hl hqx]; exact List.getElem?_eq_getElem hx, fun l hl => by rw [SrOk.inj I hl hqy]; exact List.getElem?_eq_getElem hy⟩, ⟨z2, t2, o2, hB1 _ _ d1, hB2 _ _ d2⟩, fun b hb => ?_⟩
      have hb' : b < s.heap.objs.size := by
        have e' : b = N + 4 ∨ b = N + 2 ∨ b = N + 3 ∨ b = N ∨ b = N + 1 := by simpa using hb
        rcases e' with q | q | q | q | q
        · rw [q]; exact Heap.lt_size hz
        · rw [q]; exact Heap.lt_size hTI
        · rw [q]; exact Heap.lt_size hTO
        · rw [q]; obtain ⟨o, e, _⟩ := h1.obj; exact Heap.lt_size e
        · rw [q]; obtain ⟨o, e, _⟩ := h2.obj; exact Heap.lt_size e
      rw [upd_ne (Nat.ne_of_lt (Nat.lt_of_lt_of_le hb' hsz))]
      exact (hf b hb).1
  done := by
    intro X hP hw hK hc i pins s σ H E I hf st hg
    subst hP hw hK
    obtain ⟨hz, hTI, ⟨x0, y0, hTO⟩, h1, h2⟩ := st
    obtain ⟨xs, ys, hqx, hqy, hn⟩ := hg
    have hne1 : ∀ a ∈ srAd s1, a ≠ N := fun a ha z => by have := hN1 a ha; rw [z] at this; exact absurd this (Nat.lt_irrefl _)
    have hne2 : ∀ a ∈ srAd s2, a ≠ N + 1 := fun a ha z => absurd (Nat.lt_of_lt_of_le (hN2 a ha) (Nat.le_succ N)) (by rw [z]; exact Nat.lt_irrefl _)
    obtain ⟨P1, S1, D1, hP1, hS1, hB1⟩ := sr_draws I (I.ok.hd hc) hqx h1 hne1
    obtain ⟨P2, S2, D2, hP2, hS2, hB2⟩ := sr_draws I (I.ok.hd hc) hqy h2 hne2
    have W := WalksT.zipD2 (prog := X.prog) (w := X.w) (A := X.A) (zip_sep2 hN1 hN2) D1 D2
    have sub : ∀ b ∈ ([N + 4, N + 3, N, N + 1] : List Addr), b ∈ ([N + 4, N + 2, N + 3, N, N + 1] : List Addr) := fun b hb => by
      have e' : b = N + 4 ∨ b = N + 3 ∨ b = N ∨ b = N + 1 := by simpa using hb
      rcases e' with q | q | q | q <;> (rw [q]; simp)
    subst hn
    exact pair_done W I (fun b hb => hf b (sub b hb)) ⟨hz, hTI, ⟨x0, y0, hTO⟩, hS1, hS2⟩
  self := fun A i s Q E st h => wpAny_pyIter_zip st.1 h
end Rf

set_option Elab.async false
set_option linter.all false
set_option maxHeartbeats 1000000
/-! Rf, part I2: the walked things by their data. -/
namespace Rf
open PySem PySem.Spec PyProof.Rows L2

def WalkD (K : PySem.W.Frag) (J : It) (F : Hp) (ds : List D) : Prop := ∀ i H, Same F H →
  (i < ds.length → J.go i H ∧ ∀ x H', J.yld i H x H' → Same H H' ∧ ∃ d, ds[i]? = some d ∧ Rp K (Gr F H H') x d) ∧ (i = ds.length → J.stop i H)
def rdI (S : Sig) (ca : ExA) (W : WX) (K : PySem.W.Frag) (c : C) : TI := fun σ H R => ∃ F env, Ss K F H env σ ∧ PG ca W H σ (its S c env)
  (fun ds => ∀ J H1, Same H H1 → ds.length ≤ lineN → WalkD K J (Gr F H H1) ds → R J H1)
theorem _root_.L2.PI.imp {X : Cx} {tg e : Expr} {t t' : TI} (h : PI X tg e t) (i : ∀ σ H R, t' σ H R → t σ H R) : PI X tg e t' := ⟨fun pins s σ H R I w => h.run pins s σ H R I (i _ _ _ w)⟩
theorem items_noexc {d : D} {n : Str} : items d ≠ .exc n := by
  intro h
  cases d <;> first
    | cases h
    | exact chkok_noexc h
/-- the source that a datum is -/
theorem sr_of {K : PySem.W.Frag} {G : Hp} {v : V} {d : D} {ds : List D} (h : Rp K G v d) (e : items d = .ok ds) :
    ∃ sr vs, (∀ u, RelV v u → SrV sr u) ∧ SrOk K G sr vs ∧ RpL K G vs ds ∧ ∀ z, sr = .str z → z.length ≤ lineN := by
  cases h with
  | @lst a xs ds h r => cases e; exact ⟨.lst a, xs, fun u q => q, h, r, fun z q => nomatch q⟩
  | @tup a xs ds h r => cases e; exact ⟨.tup a, xs, fun u q => q, h, r, fun z q => nomatch q⟩
  | str z =>
    obtain ⟨c, e⟩ := chk_ok (show R.chk (decide (z.length ≤ lineN)) _ = _ from e)
    cases e
    refine ⟨.str z, _, fun u q => q, rfl, ?_, fun z' q => by cases q; exact of_decide_eq_true c⟩
    induction z.cps.toList with
    | nil => exact .nil
    | cons c cs ih => exact .cons (.str _) ih
  | _ => cases e
theorem rp_at {K : PySem.W.Frag} {G : Hp} {vs : List V} {ds : List D} (r : RpL K G vs ds) {i : Nat} {x : V} (e : vs[i]? = some x) : ∃ d, ds[i]? = some d ∧ Rp K G x d := by
  have hi : i < ds.length := by rw [← r.length]; exact (List.getElem?_eq_some_iff.mp e).1
  obtain ⟨v, h1, h2⟩ := r.get (List.getElem?_eq_getElem hi)
  rw [e] at h1; cases h1
  exact ⟨_, List.getElem?_eq_getElem hi, h2⟩

section
variable {S : Sig} {ca : ExA} {W : WX} {X : Cx} {t : Bool} {a b c : C} {ea eb ec tg : Expr} {es : List Expr} {pos p : Pos}
/-- a plain source walked -/
def JSr (K : PySem.W.Frag) : Sr → It
  | .lst a => Itl K a
  | .tup a => Itt K a
  | .str z => Its z
theorem walk_sr {K : PySem.W.Frag} {G : Hp} {sr : Sr} {vs : List V} {ds : List D} (h : SrOk K G sr vs) (r : RpL K G vs ds) : WalkD K (JSr K sr) G ds := by
  intro i H s
  have h' := h.mono s
  have gx : ∀ {x : V}, vs[i]? = some x → ∃ d, ds[i]? = some d ∧ Rp K (Gr G H H) x d := fun e => let ⟨d, h1, h2⟩ := rp_at r e; ⟨d, h1, Rp.mono (gr_F s) h2⟩
  cases sr with
  | lst a =>
    have h' : SqL K H a vs := h'
    exact ⟨fun hi => ⟨⟨vs, vs[i]'(by rw [r.length]; exact hi), h', by simp [r.length, hi]⟩, fun x H' y => by obtain ⟨rfl, y⟩ := y; exact ⟨same_refl, gx (y vs h')⟩⟩, fun hi => ⟨vs, h', by rw [r.length, hi]; exact Nat.le_refl _⟩⟩
  | tup a =>
    have h' : SqT K H a vs := h'
    exact ⟨fun hi => ⟨⟨vs, vs[i]'(by rw [r.length]; exact hi), h', by simp [r.length, hi]⟩, fun x H' y => by obtain ⟨rfl, y⟩ := y; exact ⟨same_refl, gx (y vs h')⟩⟩, fun hi => ⟨vs, h', by rw [r.length, hi]; exact Nat.le_refl _⟩⟩
  | str z =>
    have e : vs = z.cps.toList.map fun c => V.str ⟨#[c]⟩ := h
    have hl : z.cps.size = ds.length := by rw [← r.length, e, List.length_map, Array.length_toList]
    refine ⟨fun hi => ⟨(by rw [← hl] at hi; exact hi), fun x H' y => ?_⟩, fun hi => ?_⟩
    · obtain ⟨rfl, c, h1, rfl⟩ := y
      refine ⟨same_refl, gx ?_⟩
      rw [e]
      simp [h1]
    · show z.cps.size ≤ i
      rw [hl, hi]; exact Nat.le_refl _
theorem si_itm (ha : PE X ea (rd S ca W X.K false a)) : PI X tg ea (rdI S ca W X.K (.itm a)) := by
  refine ⟨fun pins s σ H R I ⟨F, env, ss, p⟩ => ?_⟩
  rw [its] at p
  have q : rd S ca W X.K false a σ H (fun v H1 => ∃ d ds, Same H H1 ∧ Rp X.K (Gr F H H1) v d ∧ items d = .ok ds ∧ ∀ J, ds.length ≤ lineN → WalkD X.K J (Gr F H H1) ds → R J H1) := by
    refine ⟨F, env, ss, p.of_bind.imp fun d p v H1 s1 rv => ?_⟩
    cases e : items d with
    | ok ds => rw [e] at p; exact ⟨d, ds, s1, rv, e, fun J hl w => p J H1 s1 hl w⟩
    | exc n => exact (items_noexc e).elim
    | bad => rw [e] at p; exact p.elim
  refine thn (ha.run pins s σ H _ I q) fun v s1 ⟨x, H1, I1, r1, d, ds, s1', rx, e, go⟩ => ?_
  obtain ⟨sr, vs, hv, hok, rl, hz⟩ := sr_of rx e
  have g : Same (Gr F H H1) H1 := gr_sub ss.sub s1'
  have hok' := hok.mono g
  have hl : ds.length ≤ lineN := by rw [← rl.length]; exact SrOk.len I1 hok' hz
  have R1 : R (JSr X.K sr) H1 := go _ hl (walk_sr hok rl)
  have fp : ∀ b ∈ [s1.heap.objs.size], FpOk X pins H1 b := fun b hb => by
    have e : b = s1.heap.objs.size := by simpa using hb
    subst e
    exact I1.fpOk (Nat.le_refl _) (I1.hok.fresh (Nat.le_refl _))
  have hv := hv v r1
  cases sr with
  | lst l =>
    cases (show v = .ref l from hv)
    obtain ⟨its, rv, pl, _⟩ := I1.list hok'
    refine wpAny_pyIter_list pl.isList ?_
    exact ⟨s1.heap.objs.size, [s1.heap.objs.size], _, _, H1, rfl, I1.kept (t' := s1.toks) fun b o e => Heap.get?_push_of_some _ e, turn_list l _, ⟨_, Heap.get?_push_size _ rfl, rfl, rfl⟩, fp, R1⟩
  | tup l =>
    cases (show v = .ref l from hv)
    obtain ⟨its, rv, pl, _⟩ := I1.tuple hok'
    refine wpAny_pyIter_tuple (show s1.heap.IsTuple l its.toArray from pl) ?_
    exact ⟨s1.heap.objs.size, [s1.heap.objs.size], _, _, H1, rfl, I1.kept (t' := s1.toks) fun b o e => Heap.get?_push_of_some _ e, turn_tuple l _, ⟨_, Heap.get?_push_size _ rfl, rfl, rfl⟩, fp, R1⟩
  | str z =>
    obtain ⟨t, rfl⟩ := (show ∃ t, v = .str z t from hv)
    cases ha : z.cps.all (· < 128)
    · exact wpAny_pyIter_wide ha (pi_one (tk := s1.toks) I1 _ (turn_str _ z t "str_iterator" (.inr rfl)) ⟨_, Heap.get?_push_size _ rfl, rfl, rfl⟩ R1)
    · exact wpAny_pyIter_ascii ha (pi_one (tk := s1.toks) I1 _ (turn_str _ z t "str_ascii_iterator" (.inl rfl)) ⟨_, Heap.get?_push_size _ rfl, rfl, rfl⟩ R1)

/-! ### enumerate(v) -/
theorem meets_enumB1 {v : Value} {o : Obj} {Hb : Heap → Prop} (B : Begins v o Hb) :
    Meets (Builtin.«enumerate.__new__» ⟨[.type "enumerate", v], []⟩) (fun _ R s => Hb s.heap ∧
      R (.ok (.ret (.ref (s.heap.push o).objs.size))) { s with heap := (s.heap.push o).push { cls := .type "enumerate", data := .fields #[.none, .bool false, .ref s.heap.objs.size, rawInt 0, .none, .none] } }) :=
  .of_wp fun prog w A R s h => by
    obtain ⟨hp, g, d, tk, os⟩ := s; obtain ⟨h1, h⟩ := h
    have hsub := sub_enumerate
    have q1 : ∀ {A' : Around} {E : Value → Shared → Prop} {Q : Value → Shared → Prop}, Q (.ref hp.objs.size) ⟨hp.push o, g, d, tk, os⟩ → wpAny (model prog w) A' (pyIter v) Q E ⟨hp, g, d, tk, os⟩ :=
      fun q => B.iter prog w _ _ ⟨hp, g, d, tk, os⟩ _ h1 q
    wp_walk using q1
    refine wpAny_stack_any fun st => wpAny_pure ?_
    split
    · rename_i c _ _ _ _ _
      cases (c == Value.type "enumerate")
      · wp_walk using q1
        exact ⟨_, rfl, h⟩
      · wp_walk using q1
        exact ⟨_, rfl, h⟩
    · wp_walk using q1
      exact ⟨_, rfl, h⟩
theorem enum_begins1 {prog : Program} {w : World} {A : Around} {E : Value → Shared → Prop} {s : Shared} {v : Value} {o : Obj} {Hb : Heap → Prop} {Q : Value → Shared → Prop} (B : Begins v o Hb) (h1 : Hb s.heap)
    (h : ∀ h', IsEnum h' (s.heap.objs.size + 1) s.heap.objs.size 0 .none → h'.get? s.heap.objs.size = some o → h'.objs.size = s.heap.objs.size + 2 →
      (∀ b o, s.heap.get? b = some o → h'.get? b = some o) → Q (.ref (s.heap.objs.size + 1)) { s with heap := h' }) :
    wpAny (model prog w) A (call (.type "enumerate") [v]) Q E s := by
  refine callType_new F.called_enumerate (by decide) (F.typeCall_enumerate_1 _) (F.newCall_enumerate_1 _) (fun obj => F.args_object_init_2 obj _) F.entry_enumerate_new
    (meets_enumB1 B) ⟨h1, ?_⟩
  have hz : (s.heap.push o).objs.size = s.heap.objs.size + 1 := Heap.size_push ..
  show _ ∧ _
  rw [hz]
  have he : IsEnum ((s.heap.push o).push { cls := .type "enumerate", data := .fields #[.none, .bool false, .ref s.heap.objs.size, rawInt 0, .none, .none] }) (s.heap.objs.size + 1) s.heap.objs.size 0 .none := by
    have := Heap.get?_push_size (s.heap.push o) (o := { cls := .type "enumerate", data := .fields #[.none, .bool false, .ref s.heap.objs.size, rawInt 0, .none, .none] }) rfl
    rw [hz] at this; exact this
  refine ⟨⟨_, he, rfl⟩, h _ he (Heap.get?_push_of_some _ (Heap.get?_push_size _ B.free)) (by rw [Heap.size_push, hz]) fun b o x => Heap.get?_push_of_some _ (Heap.get?_push_of_some _ x)⟩
theorem pairs_length (k : Int) : ∀ ds : List D, (pairs k ds).length = ds.length := by
  intro ds
  induction ds generalizing k with
  | nil => rfl
  | cons d ds ih => rw [pairs, List.length_cons, ih, List.length_cons]
theorem pairs_at : ∀ (k : Int) (ds : List D) (i : Nat) (d : D), ds[i]? = some d → (pairs k ds)[i]? = some (.tuple [.int (k + (i : Nat)), d])
  | k, d :: ds, 0, d', e => by
    have e' : d = d' := by simpa using e
    subst e'
    simp [pairs]
  | k, d :: ds, i + 1, d', e => by
    have e1 : ds[i]? = some d' := by simpa using e
    have := pairs_at (k + 1) ds i d' e1
    rw [pairs, List.getElem?_cons_succ, this]
    have : k + 1 + (i : Nat) = k + ((i + 1 : Nat) : Int) := by omega
    rw [this]
  | k, [], _, _, e => by simp at e
theorem walk_enumD {K : PySem.W.Frag} {G : Hp} {sr : Sr} {vs : List V} {ds : List D} (h : SrOk K G sr vs) (r : RpL K G vs ds) : WalkD K (JEnum K sr) G (pairs 0 ds) := by
  intro i H s
  have h' := h.mono s
  rw [pairs_length]
  refine ⟨fun hi => ⟨⟨vs, h', by rw [r.length]; exact hi⟩, fun x H' y => ?_⟩, fun hi => ⟨vs, h', by rw [r.length]; exact hi.symm⟩⟩
  obtain ⟨T, z, rfl, hT, rfl, y⟩ := y
  have e := y vs h'
  obtain ⟨d, h1, h2⟩ := rp_at r e
  refine ⟨same_upd hT, _, pairs_at 0 ds i d h1, ?_⟩
  have e0 : (0 : Int) + (i : Nat) = (i : Nat) := by omega
  rw [e0]
  exact .tup (.inl (.inl (by rw [gr_none hT, upd_same]))) (.cons (.int _) (.cons (Rp.mono (gr_F s) h2) .nil))
theorem si_enum {elts : List Expr} {kk : Nat} {tpos : Pos} {x : Str} (hx : x = "enumerate") (hg : Gl X x) (hm : X.mg x = none) (ha : PE X ea (rd S ca W X.K false a)) (hs : notStar ea = true) :
    PI X (.Tuple elts kk tpos) (.Call (.Name x p) [ea] [] pos) (rdI S ca W X.K (.enum a)) := by
  subst hx
  refine ⟨fun pins s σ H R I ⟨F, env, ss, q⟩ => ?_⟩
  rw [its] at q
  have q : tCons (rd S ca W X.K false a) tNil σ H (fun vs H1 => ∃ v d ds, vs = [v] ∧ Same H H1 ∧ Rp X.K (Gr F H H1) v d ∧ items d = .ok ds ∧ ∀ J, (pairs 0 ds).length ≤ lineN → WalkD X.K J (Gr F H H1) (pairs 0 ds) → R J H1) := by
    refine ⟨F, env, ss, q.of_bind.imp fun d q v H1 s1 rv => ?_⟩
    cases e : items d with
    | ok ds => rw [e] at q; exact ⟨v, d, ds, rfl, s1, rv, e, fun J hl w => q J H1 s1 hl w⟩
    | exc n => exact (items_noexc e).elim
    | bad => rw [e] at q; exact q.elim
  refine Call_ (ld_blt I hg hm boot_enumerate (PyProof.Rows.callWith_type1 (thn ((pa_cons ha pa_nil (star_cons hs)).run pos pins s σ H _ I q) fun us s1 ⟨vs, H1, I1, r1, v, d, ds, e1, s1', rx, e, go⟩ => ?_) (star_cons hs) rfl))
  subst e1
  obtain ⟨u, rfl, ru⟩ := vals1 r1
  obtain ⟨sr, vs, hv, hok, rl, hz⟩ := sr_of rx e
  have g : Same (Gr F H H1) H1 := gr_sub ss.sub s1'
  have hok' := hok.mono g
  have hl : (pairs 0 ds).length ≤ lineN := by rw [pairs_length, ← rl.length]; exact SrOk.len I1 hok' hz
  have R1 : R (JEnum X.K sr) H1 := go _ hl (walk_enumD hok rl)
  obtain ⟨o, Hb, B, hb, hit, hN⟩ := sr_begins I1 hok' (hv u ru)
  refine enum_begins1 B hb fun h' he ho hsz hk => wpAny_pyIter_enum he ?_
  have I2 : Inv X pins σ H1 { s1 with heap := h' } := I1.kept (t' := s1.toks) hk
  refine ⟨s1.heap.objs.size + 1, [s1.heap.objs.size + 1, s1.heap.objs.size], _, _, H1, rfl, I2, turn_enumD s1.heap.objs.size sr hN, ⟨⟨.none, he⟩, hit _ _ ho⟩, fun b hb => ?_, R1⟩
  have e' : b = s1.heap.objs.size + 1 ∨ b = s1.heap.objs.size := by simpa using hb
  have hle : s1.heap.objs.size ≤ b := by
    rcases e' with z | z
    · rw [z]; exact Nat.le_add_right _ _
    · rw [z]; exact Nat.le_refl _
  exact I1.fpOk hle (I1.hok.fresh hle)

/-! ### zip(v, w) -/
theorem zips_length : ∀ ds es : List D, (zips ds es).length = min ds.length es.length
  | [], es => by simp [zips]
  | _ :: _, [] => by simp [zips]
  | d :: ds, e :: es => by
    rw [zips, List.length_cons, zips_length ds es, List.length_cons, List.length_cons]; omega
theorem zips_at : ∀ (ds es : List D) (i : Nat) (d e : D), ds[i]? = some d → es[i]? = some e → (zips ds es)[i]? = some (.tuple [d, e])
  | d :: ds, e :: es, 0, d', e', h1, h2 => by
    have h1 : d = d' := by simpa using h1
    have h2 : e = e' := by simpa using h2
    subst h1; subst h2
    simp [zips]
  | d :: ds, e :: es, i + 1, d', e', h1, h2 => by
    rw [zips, List.getElem?_cons_succ]
    exact zips_at ds es i d' e' (by simpa using h1) (by simpa using h2)
  | [], _, _, _, _, h, _ => by simp at h
  | _ :: _, [], _, _, _, _, h => by simp at h
theorem walk_zipD {K : PySem.W.Frag} {G : Hp} {s1 s2 : Sr} {vs ws : List V} {ds es : List D} (h1 : SrOk K G s1 vs) (h2 : SrOk K G s2 ws) (r1 : RpL K G vs ds) (r2 : RpL K G ws es) : WalkD K (JZip K s1 s2) G (zips ds es) := by
  intro i H s
  have h1' := h1.mono s
  have h2' := h2.mono s
  rw [zips_length]
  refine ⟨fun hi => ⟨⟨vs, ws, h1', h2', by rw [r1.length, r2.length]; exact hi⟩, fun x H' y => ?_⟩, fun hi => ⟨vs, ws, h1', h2', by rw [r1.length, r2.length]; exact hi.symm⟩⟩
  obtain ⟨T, z1, z2, rfl, hT, rfl, y1, y2⟩ := y
  obtain ⟨d, a1, a2⟩ := rp_at r1 (y1 vs h1')
  obtain ⟨e, b1, b2⟩ := rp_at r2 (y2 ws h2')
  exact ⟨same_upd hT, _, zips_at ds es i d e a1 b1, .tup (.inl (.inl (by rw [gr_none hT, upd_same]))) (.cons (Rp.mono (gr_F s) a2) (.cons (Rp.mono (gr_F s) b2) .nil))⟩
theorem si_zip {elts : List Expr} {kk : Nat} {tpos : Pos} {x : Str} (hx : x = "zip") (hg : Gl X x) (hm : X.mg x = none) (ha : PE X ea (rd S ca W X.K false a)) (hb : PE X eb (rd S ca W X.K false b)) (hs : notStar ea = true) (hs2 : notStar eb = true) :
    PI X (.Tuple elts kk tpos) (.Call (.Name x p) [ea, eb] [] pos) (rdI S ca W X.K (.zip a b)) := by
  subst hx
  refine ⟨fun pins s σ H R I ⟨F, env, ss, q⟩ => ?_⟩
  rw [its] at q
  have q : tCons (rd S ca W X.K false a) (tCons (rd S ca W X.K false b) tNil) σ H (fun vs H1 => ∃ v w d e ds es, vs = [v, w] ∧ Same H H1 ∧ Rp X.K (Gr F H H1) v d ∧ Rp X.K (Gr F H H1) w e ∧ items d = .ok ds ∧ items e = .ok es ∧
      ∀ J, (zips ds es).length ≤ lineN → WalkD X.K J (Gr F H H1) (zips ds es) → R J H1) := by
    refine ⟨F, env, ss, q.of_bind.imp fun d q v H1 s1 rv => ⟨F, env, ss.grow s1, q.of_bind.go s1 fun e q w H2 s2 rw' => ?_⟩⟩
    have s12 := s1.trans s2
    cases e1 : items d with
    | ok ds =>
      rw [e1] at q
      cases e2 : items e with
      | ok es =>
        have q : ∀ J H1, Same H H1 → (zips ds es).length ≤ lineN → WalkD X.K J (Gr F H H1) (zips ds es) → R J H1 := by
          have q : PG ca W H σ ((items e).bind fun ys => .ok (zips ds ys)) _ := q
          rw [e2] at q
          exact q
        exact ⟨v, w, d, e, ds, es, rfl, s12, Rp.mono (gr_left s2) rv, Rp.mono (gr_right ss.sub s1 s2) rw', e1, e2, fun J hl wk => q J H2 s12 hl wk⟩
      | exc n => exact (items_noexc e2).elim
      | bad =>
        have q : PG ca W H σ ((items e).bind fun ys => .ok (zips ds ys)) _ := q
        rw [e2] at q; exact q.elim
    | exc n => exact (items_noexc e1).elim
    | bad => rw [e1] at q; exact q.elim
  refine Call_ (ld_blt I hg hm PyProof.Rows.boot_zip (PyProof.Rows.callWith_type1 (thn ((pa_cons ha (pa_cons hb pa_nil (star_cons hs2)) (star_cons hs)).run pos pins s σ H _ I q) fun us s1 ⟨vs, H1, I1, r1, v, w, d, e, ds, es, e0, s1', rx, ry, e1, e2, go⟩ => ?_) (star_cons hs) (star_any (by simp [hs2]))))
  subst e0
  obtain ⟨u1, u2, rfl, ru1, ru2⟩ := vals2 r1
  obtain ⟨sr1, vs1, hv1, hok1, rl1, hz1⟩ := sr_of rx e1
  obtain ⟨sr2, vs2, hv2, hok2, rl2, hz2⟩ := sr_of ry e2
  have g : Same (Gr F H H1) H1 := gr_sub ss.sub s1'
  have hok1' := hok1.mono g
  have hok2' := hok2.mono g
  have hl : (zips ds es).length ≤ lineN := by
    have : vs1.length ≤ lineN := SrOk.len I1 hok1' hz1
    rw [zips_length, ← rl1.length]; omega
  have R1 : R (JZip X.K sr1 sr2) H1 := go _ hl (walk_zipD hok1 hok2 rl1 rl2)
  obtain ⟨o1, Hb1, B1, hb1, hit1, hN1⟩ := sr_begins I1 hok1' (hv1 u1 ru1)
  obtain ⟨o2, Hb2, B2, hb2, hit2, hN2⟩ := sr_begins I1 hok2' (hv2 u2 ru2)
  refine zip_begins2 B1 B2 hb1 hb2 fun h' hz hTI hTO ho1 ho2 hsz hk => wpAny_pyIter_zip hz ?_
  have I2 : Inv X pins σ H1 { s1 with heap := h' } := I1.kept (t' := s1.toks) hk
  refine ⟨s1.heap.objs.size + 4, [s1.heap.objs.size + 4, s1.heap.objs.size + 2, s1.heap.objs.size + 3, s1.heap.objs.size, s1.heap.objs.size + 1], _, _, H1, rfl, I2, turn_zipD s1.heap.objs.size sr1 sr2 hN1 hN2, ⟨hz, hTI, ⟨_, _, hTO⟩, hit1 _ _ ho1, hit2 _ _ ho2⟩, fun c hcm => ?_, R1⟩
  have e' : c = s1.heap.objs.size + 4 ∨ c = s1.heap.objs.size + 2 ∨ c = s1.heap.objs.size + 3 ∨ c = s1.heap.objs.size ∨ c = s1.heap.objs.size + 1 := by simpa using hcm
  have hle : s1.heap.objs.size ≤ c := by
    rcases e' with z | z | z | z | z
    · rw [z]; exact Nat.le_add_right _ _
    · rw [z]; exact Nat.le_add_right _ _
    · rw [z]; exact Nat.le_add_right _ _
    · rw [z]; exact Nat.le_refl _
    · rw [z]; exact Nat.le_add_right _ _
  exact I1.fpOk hle (I1.hok.fresh hle)

/-! ### range -/
theorem rangeD_length {lo : Int} {n : Nat} : (rangeD lo n).length = n := by simp [rangeD]
theorem walk_rngD {K : PySem.W.Frag} {G : Hp} {lo : Int} {n : Nat} : WalkD K (Itr lo n) G (rangeD lo n) := by
  intro i H s
  rw [rangeD_length]
  refine ⟨fun hi => ⟨hi, fun x H' y => ?_⟩, fun hi => by subst hi; exact Nat.le_refl _⟩
  obtain ⟨rfl, rfl⟩ := y
  exact ⟨same_refl, .int (lo + (i : Nat)), by simp [rangeD, hi], .int _⟩
theorem si_rng1 {x : Str} (hx : x = "range") (hg : Gl X x) (hm : X.mg x = none) (ha : PE X ea (rd S ca W X.K true a)) (hs : notStar ea = true) : PI X tg (.Call (.Name x p) [ea] [] pos) (rdI S ca W X.K (.rng (.cons a .nil))) := by
  subst hx
  refine (pi_range1 hg hm (pa_cons ha pa_nil (star_cons hs)) (star_cons hs)).imp fun σ H R ⟨F, env, ss, q⟩ => ?_
  rw [its] at q
  have e1 : evs S true (.cons a .nil) env = (ev S true a env).bind fun d => .ok [d] := by rw [evs, evs]; rfl
  rw [e1] at q
  refine ⟨F, env, ss, q.of_bind.of_bind.imp fun d q v H1 s1 rv => ?_⟩
  have q : PG ca W H σ (rngD [d]) _ := q
  have rv : RpT X.K (Gr F H H1) H1 v d := rv
  cases d with
  | int j =>
    have q : PG ca W H σ (Rf.R.chk (decide (-(2 ^ 62) ≤ j) && decide (j < 2 ^ 62) && decide (j.toNat ≤ lineN)) (.ok (rangeD 0 j.toNat))) _ := q
    cases c : (decide (-(2 ^ 62) ≤ j) && decide (j < 2 ^ 62) && decide (j.toNat ≤ lineN)) with
    | false => rw [c] at q; exact q.elim
    | true =>
      rw [c] at q
      simp only [Bool.and_eq_true, decide_eq_true_eq] at c
      cases (show v = .int j from rv)
      exact ⟨j, rfl, c.1.1, c.1.2, q _ H1 s1 (by rw [rangeD_length]; exact c.2) walk_rngD⟩
  | _ => exact q.elim
theorem si_rng2 {x : Str} (hx : x = "range") (hg : Gl X x) (hm : X.mg x = none) (ha : PE X ea (rd S ca W X.K true a)) (hb : PE X eb (rd S ca W X.K true b)) (hs : notStar ea = true) (hs2 : notStar eb = true) : PI X tg (.Call (.Name x p) [ea, eb] [] pos) (rdI S ca W X.K (.rng (.cons a (.cons b .nil)))) := by
  subst hx
  refine (pi_range2 hg hm (pa_cons ha (pa_cons hb pa_nil (star_cons hs2)) (star_cons hs)) (by rw [star_cons hs, star_cons hs2]; rfl) (by rw [star_cons hs2]; rfl)).imp fun σ H R ⟨F, env, ss, q⟩ => ?_
  rw [its] at q
  have e1 : evs S true (.cons a (.cons b .nil)) env = (ev S true a env).bind fun d => (ev S true b env).bind fun e => .ok [d, e] := by
    rw [evs, evs, evs]
    cases ev S true a env <;> try rfl
    cases ev S true b env <;> rfl
  rw [e1] at q
  refine ⟨F, env, ss, q.of_bind.of_bind.imp fun d q v H1 s1 rv => ⟨F, env, ss.grow s1, q.of_bind.go s1 fun e q w H2 s2 rw' => ?_⟩⟩
  have q : PG ca W H σ (rngD [d, e]) _ := q
  have rv : RpT X.K (Gr F H H1) H1 v d := rv
  have rw' : RpT X.K (Gr F H1 H2) H2 w e := rw'
  cases d with
  | int i =>
    cases e with
    | int j =>
      have q : PG ca W H σ (Rf.R.chk (decide (-(2 ^ 62) ≤ i) && decide (i < 2 ^ 62) && decide (-(2 ^ 62) ≤ j) && decide (j < 2 ^ 62) && decide ((j - i).toNat ≤ lineN)) (.ok (rangeD i (j - i).toNat))) _ := q
      cases c : (decide (-(2 ^ 62) ≤ i) && decide (i < 2 ^ 62) && decide (-(2 ^ 62) ≤ j) && decide (j < 2 ^ 62) && decide ((j - i).toNat ≤ lineN)) with
      | false => rw [c] at q; exact q.elim
      | true =>
        rw [c] at q
        simp only [Bool.and_eq_true, decide_eq_true_eq] at c
        cases (show v = .int i from rv)
        cases (show w = .int j from rw')
        exact ⟨i, j, rfl, ⟨c.1.1.1.1, c.1.1.1.2, c.1.1.2, c.1.2⟩, q _ H2 (s1.trans s2) (by rw [rangeD_length]; exact c.2) walk_rngD⟩
    | _ => exact q.elim
  | _ => exact q.elim
end
end Rf

set_option Elab.async false
set_option linter.all false
set_option maxHeartbeats 1000000
set_option maxRecDepth 100000
/-! Rf, part T: t[::-1] of tuples; sorted; len(set(..)). -/
namespace Rf
open PySem PySem.Spec PyProof.Rows L2

section
variable {prog : Program} {w : World} {A : Around} {E : Value → Shared → Prop} {s : Shared}
theorem sliceApplied_rev {sl : Addr} {vs : Value} {n : Nat} {Q : Int × Int × Nat → Shared → Prop} (hs : s.heap.IsSliceOf sl .none .none vs) (ps : IsPart vs (some (-1)))
    (h : Q ((n : Int) - 1, -1, n) s) : wpAny (model prog w) A (Builtin.Slice.sliceApplied (.ref sl) (pure (n : Int))) Q E s := by
  obtain ⟨os, hos, hcs, hds⟩ := id hs
  unfold Builtin.Slice.sliceApplied Builtin.Slice.sliceFields
  refine wpAny_bind (wpAny_bind (wpAny_field hos hds (x := .none) rfl (wpAny_bind (wpAny_field hos hds (x := .none) rfl (wpAny_bind (wpAny_field hos hds (x := vs) rfl (wpAny_pure ?_)))))))
  refine wpAny_bind (HT.slicePart_ ps ?_)
  show wpAny _ _ (if ((-1 : Int) == 0) = true then _ else _) _ _ s
  rw [if_neg (by decide)]
  refine wpAny_bind (HT.slicePart_ .none (wpAny_bind (HT.slicePart_ .none (wpAny_bind (wpAny_pure ?_)))))
  have e : Builtin.Slice.sliceAdjust none none (-1) (n : Int) = ((n : Int) - 1, -1) := rfl
  have e2 : Builtin.Slice.slicePlaces ((n : Int) - 1) (-1) (-1) = n := by
    unfold Builtin.Slice.slicePlaces
    have h1 : ¬ ((-1 : Int) > 0) := by omega
    simp only [h1, if_false]
    split
    · have : (-(-1) : Int) = 1 := by decide
      rw [this, Int.ediv_one]
      omega
    · omega
  show wpAny _ _ (match Builtin.Slice.sliceAdjust none none (-1) (n : Int) with | (lo, hi) => pure (lo, (-1 : Int), Builtin.Slice.slicePlaces lo hi (-1))) _ _ s
  rw [e]
  show wpAny _ _ (pure ((n : Int) - 1, (-1 : Int), Builtin.Slice.slicePlaces ((n : Int) - 1) (-1) (-1))) _ _ s
  rw [e2]
  exact wpAny_pure h
theorem pick_rev (xs : Array Value) : ((List.range xs.size).filterMap fun (m : Nat) => xs[(((xs.size : Nat) : Int) - 1 + (m : Int) * (-1)).toNat]?).toArray = xs.toList.reverse.toArray := by
  congr 1
  have e : ∀ m ∈ List.range xs.size, xs[(((xs.size : Nat) : Int) - 1 + (m : Int) * (-1)).toNat]? = (xs.toList.reverse)[m]? := fun m hm => by
    have hm : m < xs.size := List.mem_range.mp hm
    have hi : (((xs.size : Nat) : Int) - 1 + (m : Int) * (-1)).toNat = xs.size - 1 - m := by omega
    rw [hi, List.getElem?_reverse (by simpa using hm)]
    simp
  have cg : ∀ (f g : Nat → Option Value) (l : List Nat), (∀ m ∈ l, f m = g m) → l.filterMap f = l.filterMap g := fun f g l => by
    induction l with
    | nil => exact fun _ => rfl
    | cons a l ih =>
      intro h
      rw [List.filterMap_cons, List.filterMap_cons, h a (List.mem_cons_self ..), ih fun m hm => h m (List.mem_cons_of_mem _ hm)]
  rw [cg _ _ _ e]
  have g : ∀ l : List Value, (List.range l.length).filterMap (fun m => l[m]?) = l := fun l => by
    induction l with
    | nil => rfl
    | cons a l ih =>
      rw [List.length_cons, List.range_succ_eq_map, List.filterMap_cons]
      simp only [List.getElem?_cons_zero, List.filterMap_map]
      congr 1
  have q := g xs.toList.reverse
  rw [List.length_reverse, Array.length_toList] at q
  exact q
theorem getItem_tuple_rev {t sl : Addr} {items : Array Value} {vs : Value} {Q : Value → Shared → Prop} (ht : IsTup s.heap t items) (hs : s.heap.IsSliceOf sl .none .none vs) (ps : IsPart vs (some (-1)))
    (h : Q (.ref s.heap.objs.size) { s with heap := s.heap.push { cls := .type "tuple", data := .seq items.toList.reverse.toArray } }) (hsz : items.size ≤ sizeLine) : wpAny (model prog w) A (getItem (.ref t) (.ref sl)) Q E s := by
  have htake : sizeOk (.seq items.toList.reverse.toArray) := by
    show items.toList.reverse.toArray.size ≤ sizeLine
    rw [List.size_toArray, List.length_reverse, Array.length_toList]
    exact hsz
  obtain ⟨os, hos, hcs, hds⟩ := id hs
  have hTs : s.TypeIs (.ref sl) "slice" := ⟨os, hos, hcs⟩
  unfold getItem
  try with_reducible refine wpAny_holding ?_
  first | refine wpAny_bind (wpAny_pure ?_) | skip
  refine wpAny_bind (wpAny_sequenceKey ht.typeIs (by decide) ?_)
  refine wpAny_bind (wpAny_callSpecial?_slot (name := Str.ofString "__getitem__") ht.typeIs PyProof.Rows.slot_tuple_getitem
    (wpAny_call_entry PyProof.Rows.slot_tuple_getitem ht.typeIs entry_tuple_getitem ?_ (args_tuple_getitem _ _)))
  show wpAny _ _ (Builtin.Tuple.tupleItemsOf (.ref t) >>= _) _ _ s
  refine wpAny_bind (tupleItemsOf_ ht ?_)
  refine wpAny_bind (wpAny_typeOf hTs ?_)
  rw [if_pos (by decide)]
  refine wpAny_bind (sliceApplied_rev hs ps ?_)
  have hno : ¬ ((((items.size : Int) - 1) == 0 && (-1 : Int) == 1 && items.size == items.size) = true) := by simp
  show wpAny _ _ (if (((items.size : Int) - 1) == 0 && (-1 : Int) == 1 && items.size == items.size) = true then _ else _) _ _ s
  rw [if_neg hno, pick_rev]
  first
    | exact wpAny_bind (m := Builtin.Tuple.tupleExact _) (wpAny_newObj_type (wpAny_pure ⟨_, rfl, wpAny_pure h⟩) htake)
    | exact wpAny_bind (m := Builtin.Tuple.tupleExact _) (wpAny_newObj_type (wpAny_bind (wpAny_pure (wpAny_pure ⟨_, rfl, wpAny_pure h⟩))) htake)
    | exact wpAny_bind (wpAny_bind (m := Builtin.Tuple.tupleExact _) (wpAny_newObj_type (wpAny_pure (wpAny_pure ⟨_, rfl, wpAny_pure h⟩)) htake))
    | exact wpAny_bind (wpAny_bind (m := Builtin.Tuple.tupleExact _) (wpAny_newObj_type (wpAny_pure ⟨_, rfl, wpAny_pure h⟩) htake))
end
/-- xs[::-1], a list or a tuple -/
def tRevS (K : PySem.W.Frag) (te : TE) : TE := fun σ H Q => te σ H fun x H1 => (∃ a xs, x = .ref a ∧ SqL K H1 a xs ∧ ∀ p, H1 p = none → Q (.ref p) (upd H1 p (.lst xs.reverse))) ∨ ∃ a xs, x = .ref a ∧ SqT K H1 a xs ∧ ∀ p, H1 p = none → Q (.ref p) (upd H1 p (.tup xs.reverse))
section
variable {X : Cx}
theorem pe_revS {e : Expr} {te : TE} {k : Nat} {p1 p2 p3 pos : Pos} (he : PE X e te) : PE X (.Subscript e (.Slice none none (some (.UnaryOp .USub (.Constant (.int 1) k p1) p2)) p3) pos) (tRevS X.K te) := by
  refine ⟨fun pins s σ H Q I h => ?_⟩
  refine Subscript_ (thn (he.run pins s σ H _ I h) fun v s1 ⟨x, H1, I1, r1, q1⟩ => ?_)
  have hst : PO X (some (.UnaryOp .USub (.Constant (.int 1) k p1) p2)) (tPart (tUn (rU fun i => .int (-i)) (tC (.int 1)))) := po_some (pe_un un_neg pe_int)
  refine wpAny_Slice (thn (po_none.run pins s1 σ H1 (fun o H2 => o = none ∧ H2 = H1) I1 ⟨rfl, rfl⟩) fun vl s2 ⟨l, H2, I2, pl, el, e2⟩ => ?_)
  subst el e2
  refine thn (po_none.run pins s2 σ H2 (fun o H3 => o = none ∧ H3 = H2) I2 ⟨rfl, rfl⟩) fun vu s3 ⟨u, H3, I3, pu, eu, e3⟩ => ?_
  subst eu e3
  refine thn (hst.run pins s3 σ H3 (fun o H4 => o = some (-1) ∧ H4 = H3) I3 ⟨1, rfl, -1, rfl, rfl, rfl⟩) fun vs s4 ⟨o, H4, I4, ps, eo, e4⟩ => ?_
  subst eo e4
  have I5 : Inv X pins σ H4 { s4 with heap := s4.heap.push { cls := .type "slice", data := .fields #[vl, vu, vs] } } := I4.kept (t' := s4.toks) fun b ob q => Heap.get?_push_of_some _ q
  rcases q1 with ⟨a, xs, ex, hx, q⟩ | ⟨a, xs, ex, hx, q⟩
  · subst ex
    cases r1
    obtain ⟨its, r, ht, hz⟩ := I5.list hx
    have hlen := r.length
    show wpAny (model X.prog X.w) X.A (subscriptTail e (.Slice none none (some (.UnaryOp .USub (.Constant (.int 1) k p1) p2)) p3) (.ref a) (.ref s4.heap.objs.size)) (EP X pins σ Q) X.xe { s4 with heap := s4.heap.push { cls := .type "slice", data := .fields #[vl, vu, vs] } }
    refine tail_any (ops := [.ref a, .ref s4.heap.objs.size]) ht.isList.typeIs (PySem.slot_list_getitem.lookup) ?_ (by with_unfolding_all rfl)
    refine wpAny_getItem_list_slice ht.isList (Heap.IsSliceOf.new _ vl vu vs) pl pu ps (by decide) ?_ (by rw [List.size_toArray]; omega)
    rw [PySem.W.krv_pick]
    refine ⟨.ref _, _, I5.laid (t' := s4.toks) (o := .lst xs.reverse) (fun b ob q => Heap.get?_push_of_some _ q) (Nat.le_refl _) ?_, rfl, q _ (I5.hok.fresh (Nat.le_refl _))⟩
    exact ⟨by rw [List.length_reverse]; exact hz, _, 0, r.reverse, Heap.get?_push_size _ rfl⟩
  · subst ex
    cases r1
    cases pl
    cases pu
    obtain ⟨its, r, ht, hz⟩ := I5.tuple hx
    have hlen := r.length
    show wpAny (model X.prog X.w) X.A (subscriptTail e (.Slice none none (some (.UnaryOp .USub (.Constant (.int 1) k p1) p2)) p3) (.ref a) (.ref s4.heap.objs.size)) (EP X pins σ Q) X.xe { s4 with heap := s4.heap.push { cls := .type "slice", data := .fields #[.none, .none, vs] } }
    refine tail_any (ops := [.ref a, .ref s4.heap.objs.size]) ht.typeIs (PyProof.Rows.slot_tuple_getitem.lookup) ?_ (by with_unfolding_all rfl)
    refine getItem_tuple_rev ht (Heap.IsSliceOf.new _ .none .none vs) ps ?_ (by rw [List.size_toArray]; omega)
    refine ⟨.ref _, _, I5.laid (t' := s4.toks) (o := .tup xs.reverse) (fun b ob q => Heap.get?_push_of_some _ q) (Nat.le_refl _) ?_, rfl, q _ (I5.hok.fresh (Nat.le_refl _))⟩
    exact ⟨by rw [List.length_reverse]; exact hz, _, r.reverse, IsTup.new _ _⟩

/-! ### sorted -/
theorem ins_perm {α : Type} {le : α → α → Bool} {x : α} : ∀ {l : List α}, (ins le x l).Perm (x :: l)
  | [] => .refl _
  | y :: ys => by
    unfold ins
    split
    · exact .refl _
    · exact (List.Perm.cons y ins_perm).trans (.swap x y ys)
theorem isort_perm {α : Type} {le : α → α → Bool} : ∀ {l : List α}, (isort le l).Perm l
  | [] => .refl _
  | x :: xs => (ins_perm).trans (.cons x isort_perm)
theorem ins_pair {α : Type} {le : α → α → Bool} (h : PySem.W.TotalLe le) {x : α} : ∀ {l : List α}, l.Pairwise (fun a b => le a b = true) → (ins le x l).Pairwise (fun a b => le a b = true)
  | [], _ => by unfold ins; exact List.pairwise_singleton _ _
  | y :: ys, p => by
    unfold ins
    obtain ⟨p1, p2⟩ := List.pairwise_cons.mp p
    cases q : le x y with
    | true =>
      refine List.pairwise_cons.mpr ⟨fun z hz => ?_, p⟩
      rcases List.mem_cons.mp hz with rfl | hz
      · exact q
      · exact h.trans _ _ _ q (p1 z hz)
    | false =>
      have q2 : le y x = true := (h.total y x).resolve_right (by rw [q]; exact Bool.false_ne_true)
      refine List.pairwise_cons.mpr ⟨fun z hz => ?_, ins_pair h p2⟩
      rcases List.mem_cons.mp (ins_perm.mem_iff.mp hz) with rfl | hz
      · exact q2
      · exact p1 z hz
theorem isort_pair {α : Type} {le : α → α → Bool} (h : PySem.W.TotalLe le) : ∀ {l : List α}, (isort le l).Pairwise (fun a b => le a b = true)
  | [] => .nil
  | x :: xs => ins_pair h (isort_pair h)
theorem ins_filter {α : Type} {le : α → α → Bool} (h : PySem.W.TotalLe le) (c x : α) : ∀ {l : List α}, (ins le x l).filter (PySem.W.sameRank le c) = (x :: l).filter (PySem.W.sameRank le c)
  | [] => rfl
  | y :: ys => by
    unfold ins
    cases q : le x y with
    | true => rfl
    | false =>
      show (y :: ins le x ys).filter _ = _
      rw [List.filter_cons, ins_filter h c x, List.filter_cons, List.filter_cons, List.filter_cons]
      by_cases hx : PySem.W.sameRank le c x = true
      · by_cases hy : PySem.W.sameRank le c y = true
        · exfalso
          unfold PySem.W.sameRank at hx hy
          rw [Bool.and_eq_true] at hx hy
          rw [h.trans _ _ _ hx.2 hy.1] at q
          cases q
        · simp [hx, hy]
      · simp [hx]
theorem isort_filter {α : Type} {le : α → α → Bool} (h : PySem.W.TotalLe le) (c : α) : ∀ {l : List α}, (isort le l).filter (PySem.W.sameRank le c) = l.filter (PySem.W.sameRank le c)
  | [] => rfl
  | x :: xs => by
    show (ins le x (isort le xs)).filter _ = _
    rw [ins_filter h, List.filter_cons, List.filter_cons, isort_filter h]
theorem isort_eq {α : Type} {le : α → α → Bool} (h : PySem.W.TotalLe le) {l : List α} : isort le l = l.mergeSort le := PySem.W.sort_unique h (isort_pair h) fun c => isort_filter h c
theorem alike_ok {ds : List D} (h : alikeAllB ds = true) : PySem.W.AllAlike ds := fun d hd d' hd' => List.all_eq_true.mp (List.all_eq_true.mp h d hd) d' hd'
theorem sortable_ok {ds : List D} (h : sortableB ds = true) : PySem.W.Sortable ds := by
  unfold sortableB at h
  rw [Bool.or_eq_true] at h
  rcases h with h | h
  · refine .inl fun d hd => ?_
    have q := List.all_eq_true.mp h d hd
    split at q
    · exact ⟨_, _, rfl⟩
    · cases q
  · refine .inr fun d hd => ?_
    have q := List.all_eq_true.mp h d hd
    split at q
    · cases q
    · cases q
    · rename_i h1 h2
      exact ⟨h1, h2⟩
theorem cr_sortD (hu : X.A.units + 65 < cLine) : CallR X (.builtin "sorted") (rBI X.K .sorted) := by
  intro pins s σ H xs us Q I r h
  obtain ⟨F, d, x, rfl, f, hx, q⟩ := rBI.one rfl (by intro a c r; cases a <;> rfl) h
  cases d <;> try exact q.elim
  case list ds =>
    obtain ⟨l, vs, rfl, hl, rl⟩ := hx
    have q : PostV X.K F H (R.chk (decide (ds.length ≤ lineN) && alikeAllB ds && sortableB ds && depthB ds) (.ok (.list (isort (PySem.W.dataLe false id) ds)))) Q := q
    cases c : (decide (ds.length ≤ lineN) && alikeAllB ds && sortableB ds && depthB ds) with
    | false => rw [c] at q; exact q.elim
    | true =>
      rw [c] at q
      simp only [Bool.and_eq_true, decide_eq_true_eq, lineN_eq] at c
      obtain ⟨⟨⟨c1, c2⟩, c3⟩, c4⟩ := c
      rw [Vals.ref1 r]
      obtain ⟨its, rv, pl, hz⟩ := I.list hl
      have hlen := rl.length
      let bs : List (V × D) := vs.zip ds
      let Rr : Value → V × D → Prop := fun u p => RelV p.1 u ∧ Rp X.K F p.1 p.2
      have eR : ∀ {vs : List V} {ds : List D} {its : List Value}, RpL X.K F vs ds → Vals vs its → PySem.W.EachIs Rr its (vs.zip ds) := fun {vs} => by
        induction vs with
        | nil => intro ds its a b; cases b; exact .nil
        | cons v vs ih =>
          intro ds its a b
          cases a with
          | cons a1 a2 =>
            cases b with
            | cons b1 b2 => exact .cons ⟨b1, a1⟩ (ih a2 b2)
      have e : PySem.W.EachIs Rr its bs := eR rl rv
      have hm : bs.map (·.2) = ds := List.map_snd_zip (by omega)
      have er : PySem.W.EachIs (fun v (b : V × D) => ∃ as, Reads s.heap v b.2 as) its bs := e.mono fun u p ⟨h1, h2⟩ => Dp.reads I p.2 p.1 u (Rp.dp (Rp.mono f h2)) h1
      have eD : ((bs.mergeSort (PySem.W.dataLe false (fun p : V × D => p.2))).map (·.2)) = isort (PySem.W.dataLe false id) ds := by
        rw [show isort (PySem.W.dataLe false id) ds = ds.mergeSort (PySem.W.dataLe false id) from isort_eq (PySem.W.sortLe_total _ _ _), ← hm]
        exact PySem.W.sort_maps _ fun a _ b _ => rfl
      have hbl : bs.length = ds.length := by rw [← hm, List.length_map]
      refine PySem.W.sorted_data (enc := fun p : V × D => p.2) pl.isList e er (by show PySem.W.AllAlike (bs.map (·.2)); rw [hm]; exact alike_ok c2) (by show PySem.W.Sortable (bs.map (·.2)); rw [hm]; exact sortable_ok c3) (by rw [hbl]; exact c1) (fun b hb => ?_) fun out ho ee => ?_
      · have : b.2 ∈ ds := by rw [← hm]; exact List.mem_map.mpr ⟨b, hb, rfl⟩
        have : b.2.depth ≤ 60 := of_decide_eq_true (List.all_eq_true.mp c4 _ this)
        omega
      · obtain ⟨ep, he'⟩ := PyProof.Rows.sortedAll_at s.heap its out.toArray
        have back : ∀ {us : List Value} {ps : List (V × D)}, PySem.W.EachIs Rr us ps → Vals (ps.map (·.1)) us ∧ RpL X.K F (ps.map (·.1)) (ps.map (·.2)) := fun {us} => by
          induction us with
          | nil => intro ps a; cases a; exact ⟨.nil, .nil⟩
          | cons u us ih =>
            intro ps a
            cases a with
            | cons a1 a2 =>
              obtain ⟨i1, i2⟩ := ih a2
              exact ⟨.cons a1.1 i1, .cons a1.2 i2⟩
        obtain ⟨b1, b2⟩ := back ee
        rw [eD] at b2
        have hlen2 : ((bs.mergeSort (PySem.W.dataLe false (fun p : V × D => p.2))).map (·.1)).length ≤ sizeLine := by
          rw [List.length_map, List.length_mergeSort, hbl]; exact c1
        exact ⟨.ref _, upd H (s.heap.objs.size + 1) (.lst ((bs.mergeSort (PySem.W.dataLe false (fun p : V × D => p.2))).map (·.1))), I.laid (t' := s.toks) (fun _ _ => PyProof.Rows.sortedAll_old) (Nat.le_succ _) ⟨hlen2, out, ep, b1, he'⟩, rfl, PostV.newL f q (I.hok.fresh (Nat.le_succ _)) b2⟩

/-! ### len(set(xs)), tuples of ints -/
theorem distinct_mem {α : Type} [DecidableEq α] {x : α} : ∀ {l : List α}, x ∈ distinct l ↔ x ∈ l
  | [] => Iff.rfl
  | y :: ys => by
    unfold distinct
    cases q : decide (y ∈ ys) with
    | true =>
      have q := of_decide_eq_true q
      show x ∈ distinct ys ↔ _
      rw [distinct_mem, List.mem_cons]
      exact ⟨.inr, fun h => h.elim (fun z => z ▸ q) id⟩
    | false =>
      show x ∈ y :: distinct ys ↔ _
      rw [List.mem_cons, List.mem_cons, distinct_mem]
theorem distinct_nodup {α : Type} [DecidableEq α] : ∀ {l : List α}, (distinct l).Nodup
  | [] => .nil
  | y :: ys => by
    unfold distinct
    cases q : decide (y ∈ ys) with
    | true => exact distinct_nodup
    | false =>
      have q := of_decide_eq_false q
      exact List.nodup_cons.mpr ⟨fun z => q (distinct_mem.mp z), distinct_nodup⟩
theorem nodup_len {α : Type} [DecidableEq α] : ∀ {l m : List α}, l.Nodup → (∀ x ∈ l, x ∈ m) → l.length ≤ m.length
  | [], _, _, _ => Nat.zero_le _
  | x :: l, m, h, s => by
    obtain ⟨h1, h2⟩ := List.nodup_cons.mp h
    have hx := s x (List.mem_cons_self ..)
    have := nodup_len (m := m.erase x) h2 fun y hy => (List.mem_erase_of_ne (fun z => by subst z; exact h1 hy)).mpr (s y (List.mem_cons_of_mem _ hy))
    rw [List.length_erase_of_mem hx] at this
    have : 0 < m.length := List.length_pos_of_mem hx
    simp only [List.length_cons]
    omega
theorem keys_of {K : PySem.W.Frag} {F : Hp} : ∀ {ds : List D} {vs : List V} {ks : List (List Int)}, RpL K F vs ds → keysD ds = .ok ks → ∃ ps : List (Addr × List Int), vs = ps.map (fun p => V.ref p.1) ∧ ks = ps.map (·.2) ∧ ∀ p ∈ ps, SqT K F p.1 (p.2.map V.int)
  | [], _, _, r, e => by cases r; cases e; exact ⟨[], rfl, rfl, fun _ z => absurd z (by simp)⟩
  | d :: ds, _, _, r, e => by
    cases r with
    | cons r1 r2 =>
      rw [keysD] at e
      obtain ⟨k, e1, e⟩ := bind_ok e
      obtain ⟨ks, e2, e⟩ := bind_ok e
      cases e
      obtain ⟨ps, rfl, rfl, h⟩ := keys_of r2 e2
      cases d with
      | tuple es =>
        cases r1 with
        | @tup a xs _ hs rs =>
          have := rs.intsOf e1
          subst this
          exact ⟨(a, k) :: ps, rfl, rfl, fun p hp => by rcases List.mem_cons.mp hp with rfl | hp; exact hs; exact h p hp⟩
      | _ => cases e1
/-- len of such a set -/
def rLenTO (K : PySem.W.Frag) (P : Program) (w : World) : List V → Hp → VK → Prop := fun xs H Q => ∃ (a : Addr) (L : List (Addr × List Int)), xs = [V.ref a] ∧ H a = some (SetTO P w a L) ∧ (∀ p ∈ L, SqT K H p.1 (p.2.map V.int)) ∧ ((L.map (·.2)).Nodup → Q (.int L.length) H)
theorem cr_lenTO : CallR X (.builtin "len") (rLenTO X.K X.prog X.w) := by
  intro pins s σ H xs us Q I r h
  obtain ⟨a, L, rfl, ha, hk, q⟩ := h
  have R0 : SetT0 X.prog X.w s.heap a L := (I.hok a _ ha).1
  obtain ⟨es, ep, t, R⟩ := R0.full fun p hp => I.isT (hk p hp)
  rw [Vals.ref1 r]
  obtain ⟨o, ho, hex, hd⟩ := R.ob
  have hz := R.size
  refine PySem.call_len_set ho hex hd R.fits (by have := R.few; omega) ⟨.int L.length, H, I.tok _, ⟨_, by rw [hz]⟩, q R.nd⟩
variable {S : Sig} {ca : ExA} {W : WX} {t : Bool} {a : C} {ea : Expr}
theorem se_lenset {p p2 q pos : Pos} {x y : Str} (hx : x = "len") (hy : y = "set") (hc : X.calm = true) (hu : X.A.units + 65 < cLine) (hg : Gl X x) (hm : X.mg x = none) (hg2 : Gl X y) (hm2 : X.mg y = none) (ha : PE X ea (rd S ca W X.K true a)) (hs : notStar ea = true) :
    PE X (.Call (.Name x p) [.Call (.Name y p2) [ea] [] q] [] pos) (rd S ca W X.K t (.bi .lenset (.cons a .nil))) := by
  subst hx hy
  have h1 : PE X (.Call (.Name "set" p2) [ea] [] q) (tCB (rSetOfT X.K X.prog X.w) (tCons (rd S ca W X.K true a) tNil)) := pe_callTy (cr_setOfT hc (by omega)) hg2 hm2 (by decide +kernel) (pa_cons ha pa_nil (star_cons hs)) (by decide) (by decide) (star_cons hs) rfl
  refine L2.PE.imp (t := tCB (rLenTO X.K X.prog X.w) (tCons (tCB (rSetOfT X.K X.prog X.w) (tCons (rd S ca W X.K true a) tNil)) tNil)) (pe_callB cr_lenTO hg hm boot_len (pa_cons h1 pa_nil rfl) (by decide) (by decide) rfl rfl) fun σ H Q ⟨F, env, s, p⟩ => ?_
  rw [ev] at p
  have e1 : evs S true (.cons a .nil) env = (ev S true a env).bind fun d => .ok [d] := by rw [evs, evs]; rfl
  rw [e1] at p
  refine ⟨F, env, s, p.of_bind.of_bind.imp fun d p x H1 s1 rx => ?_⟩
  have rx : RpT X.K (Gr F H H1) H1 x d := rx
  have p : PG ca W H σ (lenSetD d) (WB t X.K F H Q) := p
  cases d with
  | list ds =>
    obtain ⟨l, vs, rfl, hl, rl⟩ := rx
    have p : PG ca W H σ (R.chk (decide (ds.length < 64)) ((keysD ds).bind fun ks => .ok (.int (distinct ks).length))) (WB t X.K F H Q) := p
    cases c : decide (ds.length < 64) with
    | false => rw [c] at p; exact p.elim
    | true =>
      rw [c] at p
      have c := of_decide_eq_true c
      have p : PG ca W H σ ((keysD ds).bind fun ks => .ok (.int (distinct ks).length)) (WB t X.K F H Q) := p
      cases e : keysD ds with
      | exc n => exact (keysD_noexc e).elim
      | bad => rw [e] at p; exact p.elim
      | ok ks =>
        rw [e] at p
        have p : WB t X.K F H Q (.int (distinct ks).length) := p
        obtain ⟨ps, rfl, rfl, hp⟩ := keys_of rl e
        have sub := gr_sub s.sub s1
        refine ⟨l, ps, rfl, hl, fun z hz => sub.sqT (hp z hz), by rw [← List.length_map (f := fun p : Addr × List Int => V.ref p.1), rl.length]; exact c, fun b L hb h1 h2 => ⟨b, L, rfl, upd_same, fun z hz => (same_upd hb).sqT (sub.sqT (hp z (h1 z hz))), fun nd => ?_⟩⟩
        have el : L.length = (distinct (ps.map (·.2))).length := by
          have a1 := nodup_len (m := distinct (ps.map (·.2))) nd fun z hz => by
            obtain ⟨y, hy, rfl⟩ := List.mem_map.mp hz
            exact distinct_mem.mpr (List.mem_map.mpr ⟨y, h1 y hy, rfl⟩)
          have a2 := nodup_len (m := L.map (·.2)) distinct_nodup fun z hz => by
            obtain ⟨y, hy, rfl⟩ := List.mem_map.mp (distinct_mem.mp hz)
            exact h2 y hy
          exact Nat.le_antisymm (by rw [List.length_map] at a1; exact a1) (by rw [List.length_map] at a2; exact a2)
        rw [el]
        exact WB.s s.sub p (s1.trans (same_upd hb)) fun _ => .int _
  | _ => exact p.elim
end
end Rf

set_option Elab.async false
set_option linter.all false
set_option maxHeartbeats 1000000
/-! Rf, part E: chains, and, or, not, conditional expressions, slices, comprehensions. -/
namespace Rf
open PySem PySem.Spec PyProof.Rows L2
section
variable {S : Sig} {ca : ExA} {W : WX} {X : Cx} {t : Bool} {a b c : C} {ea eb ec tg : Expr} {es : List Expr} {pos p : Pos}

theorem cmp_post {o : Cop} {d e : D} {H : Hp} {σ : L2.St} {k : D → Prop} (p : PG ca W H σ (cmpD o d e) k) : ∃ b, cmpB o d e = .ok b ∧ k (.bool b) := by
  cases g : cmpB o d e with
  | ok b =>
    have e2 : cmpD o d e = .ok (.bool b) := by unfold cmpD; rw [g]; rfl
    rw [e2] at p; exact ⟨b, rfl, p⟩
  | exc n => exact (cmpB_noexc g).elim
  | bad =>
    have e2 : cmpD o d e = .bad := by unfold cmpD; rw [g]; rfl
    rw [e2] at p; exact p.elim
theorem rd_chain {o1 o2 : Cop} {σ : L2.St} {H : Hp} {Q : VK} (h : rd S ca W X.K t (.chain o1 o2 a b c) σ H Q) : tChain (rOpB X.K (cmpB o1)) (rOpB X.K (cmpB o2)) (rd S ca W X.K true a) (rd S ca W X.K true b) (rd S ca W X.K true c) σ H Q := by
  obtain ⟨F, env, s, p⟩ := h
  rw [ev] at p
  refine ⟨F, env, s, p.of_bind.imp fun d p x H1 s1 rx => ⟨F, env, s.grow s1, p.of_bind.go s1 fun e p y H2 s2 ry => ?_⟩⟩
  have s12 := s1.trans s2
  have rx : RpT X.K (Gr F H H1) H1 x d := rx
  have ry : RpT X.K (Gr F H1 H2) H2 y e := ry
  cases g : cmpB o1 d e with
  | ok k =>
    rw [g] at p
    refine ⟨Gr F H H2, d, e, k, gr_sub s.sub s12, RpT.mono rx (gr_left s2) s2, RpT.mono ry (gr_right s.sub s1 s2) same_refl, g, k, rfl, ?_⟩
    cases k with
    | false => exact iteF (WB.s s.sub p s12 fun _ => .bl false)
    | true =>
      refine iteT ⟨F, env, (s.grow s1).grow s2, (PG.of_bind (show PG ca W H σ ((ev S true c env).bind fun z => cmpD o2 e z) (WB t X.K F H Q) from p)).go s12 fun z p w H3 s3 rz => ?_⟩
      have s13 := s12.trans s3
      obtain ⟨b2, g2, p⟩ := cmp_post p
      have rz : RpT X.K (Gr F H2 H3) H3 w z := rz
      exact ⟨Gr F H H3, e, z, b2, gr_sub s.sub s13, RpT.mono ry (fun a o q => gr_left s3 a o (gr_right s.sub s1 s2 a o q)) s3, RpT.mono rz (gr_right s.sub s12 s3) same_refl, g2, WB.s s.sub p s13 fun _ => .bl b2⟩
  | exc n => exact (cmpB_noexc g).elim
  | bad => rw [g] at p; exact p.elim
theorem se_chain {o1 o2 : Cop} (hu : X.A.units + 65 < cLine) (ha : PE X ea (rd S ca W X.K true a)) (hb : PE X eb (rd S ca W X.K true b)) (hc : PE X ec (rd S ca W X.K true c)) (hm : lastMarks [copS o1, copS o2] [eb, ec] = false) :
    PE X (.Compare ea [copS o1, copS o2] [eb, ec] pos) (rd S ca W X.K t (.chain o1 o2 a b c)) :=
  (pe_chain (op_cmp hu o1) (op_cmp hu o2) ha hb hc hm).imp fun σ H Q h => rd_chain h
/-- a test's reading by its value's -/
theorem rd_test {σ : L2.St} {H : Hp} {Q : Bool → Hp → Prop} (h : rdT S ca W X.K a σ H Q) : rd S ca W X.K true a σ H fun x H' => ∃ k, x = .bl k ∧ Q k H' := rdT_val h
theorem st_chain {o1 o2 : Cop} (hu : X.A.units + 65 < cLine) (ha : PE X ea (rd S ca W X.K true a)) (hb : PE X eb (rd S ca W X.K true b)) (hc : PE X ec (rd S ca W X.K true c)) (hm : lastMarks [copS o1, copS o2] [eb, ec] = false) :
    PT X (.Compare ea [copS o1, copS o2] [eb, ec] pos) (rdT S ca W X.K (.chain o1 o2 a b c)) :=
  (pt_chain (op_cmp hu o1) (op_cmp hu o2) ha hb hc hm).imp fun σ H Q h => rd_chain (rd_test h)

/-! ### and, or -/
def rdAnd (S : Sig) (ca : ExA) (W : WX) (K : PySem.W.Frag) (c : C) : TE := fun σ H Q => ∃ F env, Ss K F H env σ ∧ PG ca W H σ (evAnd S c env) (WB false K F H Q)
def rdOr (S : Sig) (ca : ExA) (W : WX) (K : PySem.W.Frag) (c : C) : TE := fun σ H Q => ∃ F env, Ss K F H env σ ∧ PG ca W H σ (evOr S c env) (WB false K F H Q)
def rdTAnd (S : Sig) (ca : ExA) (W : WX) (K : PySem.W.Frag) (c : C) : TT := fun σ H Q => ∃ F env, Ss K F H env σ ∧ PG ca W H σ ((evAnd S c env).bind toBool) (fun b => ∀ H', Same H H' → Q b H')
def rdTOr (S : Sig) (ca : ExA) (W : WX) (K : PySem.W.Frag) (c : C) : TT := fun σ H Q => ∃ F env, Ss K F H env σ ∧ PG ca W H σ ((evOr S c env).bind toBool) (fun b => ∀ H', Same H H' → Q b H')
theorem WB.down {K : PySem.W.Frag} {F H : Hp} {Q : VK} {d : D} (f : Same F H) (h : WB t K F H Q d) : WB false K F H Q d := fun v H' s r => h v H' s (RpB.of r (gr_sub f s))
theorem se_band (h : PE X (.BoolOp .And es pos) (rdAnd S ca W X.K a)) : PE X (.BoolOp .And es pos) (rd S ca W X.K t (.band a)) :=
  h.imp fun σ H Q ⟨F, env, s, p⟩ => ⟨F, env, s, by rw [ev] at p; exact p.imp fun d q => WB.down s.sub q⟩
theorem se_bor (h : PE X (.BoolOp .Or es pos) (rdOr S ca W X.K a)) : PE X (.BoolOp .Or es pos) (rd S ca W X.K t (.bor a)) :=
  h.imp fun σ H Q ⟨F, env, s, p⟩ => ⟨F, env, s, by rw [ev] at p; exact p.imp fun d q => WB.down s.sub q⟩
theorem and_one (ha : PE X ea (rd S ca W X.K false a)) : PE X (.BoolOp .And [ea] pos) (rdAnd S ca W X.K (.cons a .nil)) :=
  (pe_one ha).imp fun σ H Q ⟨F, env, s, p⟩ => ⟨F, env, s, by rw [evAnd] at p; exact p⟩
theorem or_one (ha : PE X ea (rd S ca W X.K false a)) : PE X (.BoolOp .Or [ea] pos) (rdOr S ca W X.K (.cons a .nil)) :=
  (pe_one ha).imp fun σ H Q ⟨F, env, s, p⟩ => ⟨F, env, s, by rw [evOr] at p; exact p⟩
theorem bool_post {d : D} {x : V} {G H H1 : Hp} {σ : L2.St} {k : Bool → Prop} (p : PG ca W H σ (toBool d) k) (rx : RpT X.K G H1 x d) : ∃ b, x = .bl b ∧ d = .bool b ∧ k b := by
  cases q : toBool d with
  | ok b =>
    rw [q] at p
    have e := toBool_ok q
    subst e
    exact ⟨b, rx, rfl, p⟩
  | exc n => exact (toBool_noexc q).elim
  | bad => rw [q] at p; exact p.elim
theorem and_cons {r1 r2 : C} (ha : PE X ea (rd S ca W X.K true a)) (hr : PE X (.BoolOp .And (eb :: es) pos) (rdAnd S ca W X.K (.cons r1 r2))) : PE X (.BoolOp .And (ea :: eb :: es) pos) (rdAnd S ca W X.K (.cons a (.cons r1 r2))) := by
  refine (pe_and ha hr).imp fun σ H Q ⟨F, env, s, p⟩ => ?_
  rw [evAnd] at p
  · refine ⟨F, env, s, p.of_bind.imp fun d p x H1 s1 rx => ?_⟩
    obtain ⟨k, e1, e2, p⟩ := bool_post (X := X) p.of_bind rx
    refine ⟨k, e1, ?_⟩
    cases k with
    | false => exact iteF (WB.s s.sub p s1 fun _ => .bl false)
    | true => exact iteT ⟨F, env, s.grow s1, PG.go p s1 fun d q v H' s2 r => q v H' (s1.trans s2) (Rp.mono (gr_right s.sub s1 s2) r)⟩
  · intro z; cases z
theorem or_cons {r1 r2 : C} (ha : PE X ea (rd S ca W X.K true a)) (hr : PE X (.BoolOp .Or (eb :: es) pos) (rdOr S ca W X.K (.cons r1 r2))) : PE X (.BoolOp .Or (ea :: eb :: es) pos) (rdOr S ca W X.K (.cons a (.cons r1 r2))) := by
  refine (pe_or ha hr).imp fun σ H Q ⟨F, env, s, p⟩ => ?_
  rw [evOr] at p
  · refine ⟨F, env, s, p.of_bind.imp fun d p x H1 s1 rx => ?_⟩
    obtain ⟨k, e1, e2, p⟩ := bool_post (X := X) p.of_bind rx
    refine ⟨k, e1, ?_⟩
    cases k with
    | true => exact iteT (WB.s s.sub p s1 fun _ => .bl true)
    | false => exact iteF ⟨F, env, s.grow s1, PG.go p s1 fun d q v H' s2 r => q v H' (s1.trans s2) (Rp.mono (gr_right s.sub s1 s2) r)⟩
  · intro z; cases z
theorem st_band (h : PW X (.BoolOp .And es pos) (rdTAnd S ca W X.K a)) : PT X (.BoolOp .And es pos) (rdT S ca W X.K (.band a)) :=
  h.pt.imp fun σ H Q ⟨F, env, s, p⟩ => ⟨F, env, s, by rw [ev] at p; exact p⟩
theorem st_bor (h : PW X (.BoolOp .Or es pos) (rdTOr S ca W X.K a)) : PT X (.BoolOp .Or es pos) (rdT S ca W X.K (.bor a)) :=
  h.pt.imp fun σ H Q ⟨F, env, s, p⟩ => ⟨F, env, s, by rw [ev] at p; exact p⟩
theorem test_down {α : Type} {σ : L2.St} {H : Hp} {env : Env} {f : D → R α} {k : α → Prop} (p : PG ca W H σ ((ev S false a env).bind f) k) : PG ca W H σ ((ev S true a env).bind f) k := by
  rcases ev_true (S := S) (a := a) (env := env) with e | e
  · rw [e] at p; exact p
  · rw [e] at p; exact p.elim
theorem tand_one (ha : PT X ea (rdT S ca W X.K a)) : PW X (.BoolOp .And [ea] pos) (rdTAnd S ca W X.K (.cons a .nil)) :=
  (pw_and1 ha).imp fun σ H Q ⟨F, env, s, p⟩ => ⟨F, env, s, by rw [evAnd] at p; exact test_down p⟩
theorem tor_one (ha : PT X ea (rdT S ca W X.K a)) : PW X (.BoolOp .Or [ea] pos) (rdTOr S ca W X.K (.cons a .nil)) :=
  (pw_or1 ha).imp fun σ H Q ⟨F, env, s, p⟩ => ⟨F, env, s, by rw [evOr] at p; exact test_down p⟩
theorem bind_assoc {α β γ : Type} (x : R α) (f : α → R β) (g : β → R γ) : (x.bind f).bind g = x.bind fun a => (f a).bind g := by
  cases x <;> rfl
theorem tand_cons {r1 r2 : C} (ha : PT X ea (rdT S ca W X.K a)) (hr : PW X (.BoolOp .And (eb :: es) pos) (rdTAnd S ca W X.K (.cons r1 r2))) : PW X (.BoolOp .And (ea :: eb :: es) pos) (rdTAnd S ca W X.K (.cons a (.cons r1 r2))) := by
  refine (pw_and ha hr).imp fun σ H Q ⟨F, env, s, p⟩ => ?_
  rw [evAnd] at p
  · rw [bind_assoc] at p
    refine ⟨F, env, s, ?_⟩
    have p2 : PG ca W H σ (((ev S true a env).bind toBool).bind fun k => (match k with | true => evAnd S (.cons r1 r2) env | false => R.ok (PyData.bool false)).bind toBool) (fun b => ∀ H', Same H H' → Q b H') := by
      rw [bind_assoc]
      have e : ∀ x : D, ((toBool x).bind fun k => match k with | true => evAnd S (.cons r1 r2) env | false => R.ok (PyData.bool false)).bind toBool = (toBool x).bind fun k => (match k with | true => evAnd S (.cons r1 r2) env | false => R.ok (PyData.bool false)).bind toBool := fun x => bind_assoc _ _ _
      simp only [← e]
      exact p
    refine p2.of_bind.imp fun k p H1 s1 => ?_
    cases k with
    | false => exact iteF (p H1 s1)
    | true => exact iteT ⟨F, env, s.grow s1, PG.go p s1 fun d q H' s2 => q H' (s1.trans s2)⟩
  · intro z; cases z
theorem tor_cons {r1 r2 : C} (ha : PT X ea (rdT S ca W X.K a)) (hr : PW X (.BoolOp .Or (eb :: es) pos) (rdTOr S ca W X.K (.cons r1 r2))) : PW X (.BoolOp .Or (ea :: eb :: es) pos) (rdTOr S ca W X.K (.cons a (.cons r1 r2))) := by
  refine (pw_or ha hr).imp fun σ H Q ⟨F, env, s, p⟩ => ?_
  rw [evOr] at p
  · rw [bind_assoc] at p
    refine ⟨F, env, s, ?_⟩
    have p2 : PG ca W H σ (((ev S true a env).bind toBool).bind fun k => (match k with | true => R.ok (PyData.bool true) | false => evOr S (.cons r1 r2) env).bind toBool) (fun b => ∀ H', Same H H' → Q b H') := by
      rw [bind_assoc]
      have e : ∀ x : D, ((toBool x).bind fun k => match k with | true => R.ok (PyData.bool true) | false => evOr S (.cons r1 r2) env).bind toBool = (toBool x).bind fun k => (match k with | true => R.ok (PyData.bool true) | false => evOr S (.cons r1 r2) env).bind toBool := fun x => bind_assoc _ _ _
      simp only [← e]
      exact p
    refine p2.of_bind.imp fun k p H1 s1 => ?_
    cases k with
    | true => exact iteT (p H1 s1)
    | false => exact iteF ⟨F, env, s.grow s1, PG.go p s1 fun d q H' s2 => q H' (s1.trans s2)⟩
  · intro z; cases z

/-! ### not, a if c else b -/
theorem se_not (ha : PE X ea (rd S ca W X.K true a)) : PE X (.UnaryOp .Not ea pos) (rd S ca W X.K t (.bnot a)) := by
  refine (pe_not ha).imp fun σ H Q ⟨F, env, s, p⟩ => ?_
  rw [ev] at p
  refine ⟨F, env, s, p.of_bind.imp fun d p x H1 s1 rx => ?_⟩
  obtain ⟨k, e1, e2, p⟩ := bool_post (X := X) p.of_bind rx
  exact ⟨k, e1, WB.s s.sub p s1 fun _ => .bl _⟩
theorem st_not (ha : PT X ea (rdT S ca W X.K a)) : PT X (.UnaryOp .Not ea pos) (rdT S ca W X.K (.bnot a)) := by
  refine (pt_not ha).imp fun σ H Q ⟨F, env, s, p⟩ => ?_
  rw [ev] at p
  refine ⟨F, env, s, ?_⟩
  have e : (((ev S true a env).bind fun x => (toBool x).bind fun k => R.ok (PyData.bool (!k))).bind toBool) = ((ev S true a env).bind toBool).bind fun k => .ok (!k) := by
    cases ev S true a env with
    | ok d =>
      show ((toBool d).bind _).bind _ = (toBool d).bind _
      cases toBool d <;> rfl
    | exc n => rfl
    | bad => rfl
  rw [e] at p
  exact p.of_bind
theorem se_ife (hc : PT X ec (rdT S ca W X.K c)) (ha : PE X ea (rd S ca W X.K false a)) (hb : PE X eb (rd S ca W X.K false b)) : PE X (.IfExp ec ea eb pos) (rd S ca W X.K t (.ife c a b)) := by
  refine (pe_ifExp hc ha hb).imp fun σ H Q ⟨F, env, s, p⟩ => ?_
  rw [ev, ← bind_assoc] at p
  refine ⟨F, env, s, p.of_bind.imp fun k p H1 s1 => ?_⟩
  have fin : ∀ {e : C}, PG ca W H σ (ev S false e env) (WB t X.K F H Q) → rd S ca W X.K false e σ H1 Q := fun {e} p => ⟨F, env, s.grow s1, p.go s1 fun d q v H' s2 r => q v H' (s1.trans s2) (RpB.of (Rp.mono (gr_right s.sub s1 s2) r) (gr_sub s.sub (s1.trans s2)))⟩
  cases k with
  | true => exact iteT (fin p)
  | false => exact iteF (fin p)

/-! ### slices -/
def rdO (S : Sig) (ca : ExA) (W : WX) (K : PySem.W.Frag) (c : C) : TO := fun σ H Q => ∃ F env, Ss K F H env σ ∧ PG ca W H σ (evO S c env) (fun o => ∀ H', Same H H' → Q o H')
theorem _root_.L2.PO.imp {X : Cx} {e : Option Expr} {t t' : TO} (h : PO X e t) (i : ∀ σ H Q, t' σ H Q → t σ H Q) : PO X e t' := ⟨fun pins s σ H Q I w => h.run pins s σ H Q I (i _ _ _ w)⟩
theorem so_none : PO X none (rdO S ca W X.K .nil) := po_none.imp fun σ H Q ⟨F, env, s, p⟩ => by
  rw [evO] at p
  exact p H same_refl
theorem so_some (ha : PE X ea (rd S ca W X.K true a)) : PO X (some ea) (rdO S ca W X.K (.cons a .nil)) := by
  refine (po_some ha).imp fun σ H Q ⟨F, env, s, p⟩ => ?_
  rw [evO] at p
  refine ⟨F, env, s, p.of_bind.imp fun d p x H1 s1 rx => ?_⟩
  have rx : RpT X.K (Gr F H H1) H1 x d := rx
  cases d with
  | int i => exact ⟨i, rx, p H1 s1⟩
  | _ => exact p.elim
theorem se_sl {lo hi : C} {elo ehi : Option Expr} {p2 : Pos} (ha : PE X ea (rd S ca W X.K true a)) (hl : PO X elo (rdO S ca W X.K lo)) (hh : PO X ehi (rdO S ca W X.K hi)) : PE X (.Subscript ea (.Slice elo ehi none p2) pos) (rd S ca W X.K t (.sl a lo hi)) := by
  refine (pe_slice sl_D ha hl hh).imp fun σ H Q ⟨F, env, s, p⟩ => ?_
  rw [ev] at p
  refine ⟨F, env, s, p.of_bind.imp fun d p x H1 s1 rx => ⟨F, env, s.grow s1, p.of_bind.go s1 fun l p H2 s2 => ⟨F, env, (s.grow s1).grow s2, p.of_bind.go (s1.trans s2) fun h p H3 s3 => ?_⟩⟩⟩
  have s12 := s1.trans s2
  have s13 := s12.trans s3
  refine ⟨Gr F H H3, d, gr_sub s.sub s13, RpT.mono rx (gr_left (s2.trans s3)) (s2.trans s3), ?_⟩
  unfold PostV
  cases q : slD d l h with
  | ok k =>
    rw [q] at p
    intro v H' s4 rv
    exact p v H' (s13.trans s4) (RpB.of (Rp.mono (gr_gr s13 s4) rv) (gr_sub s.sub (s13.trans s4)))
  | exc n => exact (slD_noexc q).elim
  | bad => rw [q] at p; exact p.elim
theorem se_rev {k : Nat} {p1 p2 p3 : Pos} (ha : PE X ea (rd S ca W X.K true a)) : PE X (.Subscript ea (.Slice none none (some (.UnaryOp .USub (.Constant (.int 1) k p1) p2)) p3) pos) (rd S ca W X.K t (.rev a)) := by
  refine (pe_revS ha).imp fun σ H Q ⟨F, env, s, p⟩ => ?_
  rw [ev] at p
  refine ⟨F, env, s, p.of_bind.imp fun d p x H1 s1 rx => ?_⟩
  have rx : RpT X.K (Gr F H H1) H1 x d := rx
  cases d with
  | list ds =>
    obtain ⟨l, vs, rfl, hl, rl⟩ := rx
    exact .inl ⟨l, vs, rfl, hl, fun q hq => WB.n s.sub p s1 hq rl.rev⟩
  | tuple ds =>
    obtain ⟨l, vs, rfl, hl, rl⟩ := rx
    have p : PG ca W H σ (R.chk (decide (ds.length ≤ lineN)) (.ok (.tuple ds.reverse))) (WB t X.K F H Q) := p
    cases c : decide (ds.length ≤ lineN) with
    | false => rw [c] at p; exact p.elim
    | true =>
      rw [c] at p
      exact .inr ⟨l, vs, rfl, (gr_sub s.sub s1).sqT hl, fun q hq => WB.t s.sub p s1 hq rl.rev⟩
  | _ => exact p.elim
end
end Rf

set_option Elab.async false
set_option linter.all false
set_option maxHeartbeats 1000000
/-! Rf, part F: targets; comprehensions; new lists. -/
namespace Rf
open PySem PySem.Spec PyProof.Rows L2

/-! ### targets -/
def gsOf : C → TGs
  | .nil => gNil
  | .cons (.var i) r => gCons (gName i) (gsOf r)
  | _ => fun _ _ _ _ => False
def gOf (K : PySem.W.Frag) : C → TG
  | .var i => gName i
  | .tup ts => gTup K (cLen ts) (gsOf ts)
  | _ => fun _ _ _ _ => False
section
variable {K : PySem.W.Frag} {F H : Hp} {env : Env} {σ : L2.St}
theorem Ss.set {i : Nat} {d : D} {v : V} (h : Ss K F H env σ) (r : Rp K F v d) : Ss K F H (env.set i (some (false, d))) (σ.set i (some v)) := by
  refine ⟨h.sub, by rw [List.length_set, List.length_set]; exact h.len, fun j b e => ?_, fun j k dj dk a hjk e1 e2 e3 e4 => ?_⟩
  · by_cases hj : i = j
    · subst hj
      have hl : i < env.length := by
        have := (List.getElem?_eq_some_iff.mp e).1
        rwa [List.length_set] at this
      rw [List.getElem?_set_self hl] at e
      cases e
      exact ⟨some v, List.getElem?_set_self (by rw [h.len]; exact hl), r⟩
    · rw [List.getElem?_set_ne hj] at e
      obtain ⟨v', h1, h2⟩ := h.slot j b e
      exact ⟨v', by rw [List.getElem?_set_ne hj]; exact h1, h2⟩
  · have n1 : i ≠ j := fun q => by
      subst q
      by_cases hl : i < env.length
      · rw [List.getElem?_set_self hl] at e1; cases e1
      · rw [List.getElem?_eq_none (by rw [List.length_set]; omega)] at e1; cases e1
    have n2 : i ≠ k := fun q => by
      subst q
      by_cases hl : i < env.length
      · rw [List.getElem?_set_self hl] at e2; cases e2
      · rw [List.getElem?_eq_none (by rw [List.length_set]; omega)] at e2; cases e2
    rw [List.getElem?_set_ne n1] at e1 e3
    rw [List.getElem?_set_ne n2] at e2 e4
    exact h.apart j k dj dk a hjk e1 e2 e3 e4
theorem Ss.unset {i : Nat} (h : Ss K F H env σ) : Ss K F H (env.set i none) (σ.set i none) := by
  refine ⟨h.sub, by rw [List.length_set, List.length_set]; exact h.len, fun j b e => ?_, fun j k dj dk a hjk e1 e2 e3 e4 => ?_⟩
  · by_cases hj : i = j
    · subst hj
      have hl : i < env.length := by
        have := (List.getElem?_eq_some_iff.mp e).1
        rwa [List.length_set] at this
      rw [List.getElem?_set_self hl] at e
      cases e
      exact ⟨none, List.getElem?_set_self (by rw [h.len]; exact hl), trivial⟩
    · rw [List.getElem?_set_ne hj] at e
      obtain ⟨v', h1, h2⟩ := h.slot j b e
      exact ⟨v', by rw [List.getElem?_set_ne hj]; exact h1, h2⟩
  · have n1 : i ≠ j := fun q => by
      subst q
      by_cases hl : i < env.length
      · rw [List.getElem?_set_self hl] at e1; cases e1
      · rw [List.getElem?_eq_none (by rw [List.length_set]; omega)] at e1; cases e1
    have n2 : i ≠ k := fun q => by
      subst q
      by_cases hl : i < env.length
      · rw [List.getElem?_set_self hl] at e2; cases e2
      · rw [List.getElem?_eq_none (by rw [List.length_set]; omega)] at e2; cases e2
    rw [List.getElem?_set_ne n1] at e1 e3
    rw [List.getElem?_set_ne n2] at e2 e4
    exact h.apart j k dj dk a hjk e1 e2 e3 e4
theorem Ss.wipe (h : Ss K F H env σ) : ∀ vs : List Nat, Ss K F H (wipeE env vs) (L2.wipe σ vs)
  | [] => h
  | v :: vs => (Ss.wipe h vs).unset
theorem wipe_at (σ : L2.St) (vs : List Nat) (j : Nat) : (L2.wipe σ vs)[j]? = if j ∈ vs ∧ j < σ.length then some none else σ[j]? := by
  induction vs with
  | nil => simp [L2.wipe]
  | cons v vs ih =>
    show ((L2.wipe σ vs).set v none)[j]? = _
    by_cases h : v = j
    · subst h
      by_cases hl : v < σ.length
      · rw [List.getElem?_set_self (by rw [wipe_length]; exact hl), if_pos ⟨by simp, hl⟩]
      · rw [if_neg (fun q => hl q.2), List.getElem?_eq_none (by rw [List.length_set, wipe_length]; omega), List.getElem?_eq_none (by omega)]
    · rw [List.getElem?_set_ne h, ih]
      by_cases hj : j ∈ vs ∧ j < σ.length
      · rw [if_pos hj, if_pos ⟨List.mem_cons_of_mem _ hj.1, hj.2⟩]
      · rw [if_neg hj, if_neg (fun q => hj ⟨(List.mem_cons.mp q.1).resolve_left (fun z => h z.symm), q.2⟩)]
theorem wipe_set {σ : L2.St} {vs : List Nat} {i : Nat} {v : Option V} (hi : i ∈ vs) : L2.wipe (σ.set i v) vs = L2.wipe σ vs := by
  refine List.ext_getElem? fun j => ?_
  rw [wipe_at, wipe_at, List.length_set]
  by_cases h : j ∈ vs ∧ j < σ.length
  · rw [if_pos h, if_pos h]
  · rw [if_neg h, if_neg h]
    by_cases hj : i = j
    · subst hj
      have : ¬ i < σ.length := fun q => h ⟨hi, q⟩
      rw [List.getElem?_eq_none (by rw [List.length_set]; omega), List.getElem?_eq_none (by omega)]
    · rw [List.getElem?_set_ne hj]
theorem wipe_wipe {σ : L2.St} {vs : List Nat} : L2.wipe (L2.wipe σ vs) vs = L2.wipe σ vs := by
  refine List.ext_getElem? fun j => ?_
  rw [wipe_at, wipe_length]
  by_cases h : j ∈ vs ∧ j < σ.length
  · rw [if_pos h, wipe_at, if_pos h]
  · rw [if_neg h]
theorem bindTs_inv {ts : C} {ds : List D} {env env' : Env} (e : bindTs ts ds env = .ok env') : (ts = .nil ∧ ds = [] ∧ env' = env) ∨
    ∃ i r d ds', ts = .cons (.var i) r ∧ ds = d :: ds' ∧ i < env.length ∧ bindTs r ds' (env.set i (some (false, d))) = .ok env' := by
  unfold bindTs at e
  split at e
  · cases e; exact .inl ⟨rfl, rfl, rfl⟩
  · obtain ⟨h, e⟩ := chk_ok e
    exact .inr ⟨_, _, _, _, rfl, rfl, of_decide_eq_true h, e⟩
  · cases e
theorem bindTs_ok {P : Env → L2.St → Prop} (hP : ∀ env σ i d v, P env σ → Rp K F v d → P (env.set i (some (false, d))) (σ.set i (some v))) : ∀ {ds : List D} {ts : C} {xs : List V} {env env' : Env} {σ : L2.St} {vs : List Nat} {Q : L2.St → Hp → Prop}, bindTs ts ds env = .ok env' → RpL K F xs ds → P env σ → (∀ i ∈ tgVars ts, i ∈ vs) →
    (∀ σ', P env' σ' → L2.wipe σ' vs = L2.wipe σ vs → Q σ' H) → gsOf ts xs σ H Q ∧ ds.length = cLen ts := by
  intro ds
  induction ds with
  | nil =>
    intro ts xs env env' σ vs Q e r s hv q
    rcases bindTs_inv e with ⟨rfl, _, rfl⟩ | ⟨_, _, _, _, _, z, _⟩
    · cases r; exact ⟨⟨rfl, q _ s rfl⟩, rfl⟩
    · cases z
  | cons d ds ih =>
    intro ts xs env env' σ vs Q e r s hv q
    rcases bindTs_inv e with ⟨_, z, _⟩ | ⟨i, t, _, _, rfl, z, hi, e⟩
    · cases z
    · cases z
      cases r with
      | @cons v us _ _ h r =>
        have hv1 : i ∈ vs := hv i (by show i ∈ tgVars (.var i) ++ tgVars t; exact List.mem_append_left _ (by simp [tgVars]))
        obtain ⟨g, l⟩ := ih (σ := σ.set i (some v)) (vs := vs) (Q := Q) e r (hP _ _ i d v s h) (fun j hj => hv j (by show j ∈ tgVars (.var i) ++ tgVars t; exact List.mem_append_right _ hj)) fun σ' s' w => q σ' s' (w.trans (wipe_set hv1))
        exact ⟨⟨v, us, rfl, g⟩, by rw [List.length_cons, l]; rfl⟩
theorem bindT_inv {tg : C} {d : D} {env env' : Env} (e : bindT tg d env = .ok env') : (∃ i, tg = .var i ∧ i < env.length ∧ env' = env.set i (some (false, d))) ∨ ∃ ts ds, tg = .tup ts ∧ d = .tuple ds ∧ bindTs ts ds env = .ok env' := by
  unfold bindT at e
  split at e
  · obtain ⟨h, e⟩ := chk_ok e
    cases e
    exact .inl ⟨_, rfl, of_decide_eq_true h, rfl⟩
  · exact .inr ⟨_, _, rfl, rfl, e⟩
  · cases e
/-- a target takes a value -/
theorem bindT_okP {P : Env → L2.St → Prop} (hP : ∀ env σ i d v, P env σ → Rp K F v d → P (env.set i (some (false, d))) (σ.set i (some v))) {tg : C} {d : D} {v : V} {env' : Env} {vs : List Nat} {Q : L2.St → Hp → Prop} (e : bindT tg d env = .ok env') (r : Rp K F v d) (f : Same F H) (s : P env σ) (hv : ∀ i ∈ tgVars tg, i ∈ vs)
    (q : ∀ σ', P env' σ' → L2.wipe σ' vs = L2.wipe σ vs → Q σ' H) : gOf K tg v σ H Q := by
  rcases bindT_inv e with ⟨i, rfl, _, rfl⟩ | ⟨ts, ds, rfl, rfl, e⟩
  · exact q _ (hP _ _ _ _ _ s r) (wipe_set (hv i (by simp [tgVars])))
  · cases r with
    | @tup a xs _ h r =>
      obtain ⟨g, l⟩ := bindTs_ok (vs := vs) (Q := Q) hP e r s (fun i hi => hv i (by rw [tgVars]; exact hi)) q
      exact ⟨a, xs, rfl, f.sqT h, by rw [r.length]; exact l, g⟩
theorem bindT_ok {tg : C} {d : D} {v : V} {env' : Env} {vs : List Nat} {Q : L2.St → Hp → Prop} (e : bindT tg d env = .ok env') (r : Rp K F v d) (s : Ss K F H env σ) (hv : ∀ i ∈ tgVars tg, i ∈ vs)
    (q : ∀ σ', Ss K F H env' σ' → L2.wipe σ' vs = L2.wipe σ vs → Q σ' H) : gOf K tg v σ H Q := bindT_okP (P := Ss K F H) (fun _ _ _ _ _ h r => h.set r) e r s.sub s hv q
theorem bindTs_noexc {n : Str} : ∀ {ds : List D} {ts : C} {env : Env}, bindTs ts ds env ≠ .exc n := by
  intro ds
  induction ds with
  | nil => intro ts env h; unfold bindTs at h; split at h <;> first | (cases h; done) | (rename_i z; exact absurd z (by simp))
  | cons d ds ih =>
    intro ts env h
    unfold bindTs at h
    split at h
    · cases h
    · rename_i z
      cases z
      exact chk_noexc ih h
    · cases h
theorem bindT_noexc {n : Str} {tg : C} {d : D} {env : Env} : bindT tg d env ≠ .exc n := by
  intro h
  unfold bindT at h
  split at h
  · exact chkok_noexc h
  · exact bindTs_noexc h
  · cases h
end
end Rf

set_option Elab.async false
set_option linter.all false
set_option maxHeartbeats 1000000
/-! Rf, part G: comprehensions; new lists. -/
namespace Rf
open PySem PySem.Spec PyProof.Rows L2

def del (H : Hp) (D : Addr) : Hp := fun a => if a = D then none else H a
theorem del_ne {H : Hp} {D a : Addr} (h : a ≠ D) : del H D a = H a := by unfold del; rw [if_neg h]
theorem del_sub {H : Hp} {D : Addr} : Same (del H D) H := fun a o e => by
  by_cases h : a = D
  · subst h; unfold del at e; rw [if_pos rfl] at e; cases e
  · rw [del_ne h] at e; exact e
theorem sub_del {H1 H : Hp} {D : Addr} (s : Same H1 H) (n : H1 D = none) : Same H1 (del H D) := fun a o e => by
  rw [del_ne (ne_of_none e n)]; exact s a o e
theorem del_mono {H H' : Hp} {D : Addr} (s : Same H H') : Same (del H D) (del H' D) := fun a o e => by
  by_cases h : a = D
  · subst h; unfold del at e; rw [if_pos rfl] at e; cases e
  · rw [del_ne h] at e ⊢; exact s a o e
theorem del_upd {H : Hp} {D : Addr} {o : HO} : del (upd H D o) D = del H D := by
  funext a
  by_cases h : a = D
  · subst h; unfold del; rw [if_pos rfl, if_pos rfl]
  · rw [del_ne h, del_ne h, upd_ne h]
theorem upd_del {H : Hp} {D : Addr} {o : HO} (h : H D = some o) : upd (del H D) D o = H := by
  funext a
  by_cases e : a = D
  · subst e; rw [upd_same, h]
  · rw [upd_ne e, del_ne e]
theorem del_none {H : Hp} {D : Addr} : del H D D = none := by unfold del; rw [if_pos rfl]
/-- what a turn makes joins what stands still -/
theorem gr_turn {F H0 H1 H H' : Hp} {D : Addr} {o : HO} (s0 : Same H0 H1) (s1 : Same H1 H) (s : Same H H') (hD : H D = some o) (n : H1 D = none) : Same (Gr (Gr F H0 H1) H H') (Gr F H0 (del H' D)) := fun a u e => by
  cases q : H a with
  | none =>
    rw [gr_none q] at e
    have hn : a ≠ D := fun z => by subst z; rw [hD] at q; cases q
    rw [gr_none ((s0.trans s1).free q), del_ne hn]; exact e
  | some v =>
    rw [gr_some q] at e
    exact gr_left ((sub_del (s1.trans s) n)) a u e
theorem gr_elt {F H0 H' H3 H4 : Hp} {D : Addr} {o : HO} (s0 : Same H0 H') (s1 : Same H' H3) (s : Same H3 H4) (hD : H3 D = some o) : Same (Gr (Gr F H0 (del H' D)) H3 H4) (Gr F H0 (del H4 D)) := fun a u e => by
  cases q : H3 a with
  | none =>
    rw [gr_none q] at e
    have hn : a ≠ D := fun z => by subst z; rw [hD] at q; cases q
    rw [gr_none ((s0.trans s1).free q), del_ne hn]; exact e
  | some v =>
    rw [gr_some q] at e
    exact gr_left (del_mono (s1.trans s)) a u e

def rdC (S : Sig) (ca : ExA) (W : WX) (K : PySem.W.Frag) (c : C) : TT := fun σ H Q => ∃ F env, Ss K F H env σ ∧ PG ca W H σ (evC S c env) (fun b => ∀ H', Same H H' → Q b H')
abbrev W0 : WX := fun _ _ _ _ => False
theorem _root_.L2.PTs.imp {X : Cx} {e : List Expr} {t t' : TT} (h : PTs X e t) (i : ∀ σ H Q, t' σ H Q → t σ H Q) : PTs X e t' := ⟨fun pins s σ H Q I w => h.run pins s σ H Q I (i _ _ _ w)⟩
theorem sc_nil {S : Sig} {ca : ExA} {W : WX} {X : Cx} : PTs X [] (rdC S ca W X.K .nil) := pts_nil.imp fun σ H Q ⟨F, env, s, p⟩ => by
  rw [evC] at p
  exact p H same_refl
theorem sc_one {S : Sig} {ca : ExA} {W : WX} {X : Cx} {c : C} {e : Expr} (h : PT X e (rdT S ca W X.K c)) : PTs X [e] (rdC S ca W X.K (.cons c .nil)) := (pts_one h).imp fun σ H Q ⟨F, env, s, p⟩ => by
  rw [evC] at p
  exact ⟨F, env, s, p⟩
/-- a new list's reading -/
abbrev WN (K : PySem.W.Frag) (F H : Hp) (Q : VK) (ds : List D) : Prop := ∀ vs H1 p, Same H H1 → H1 p = none → RpL K (Gr F H H1) vs ds → Q (.ref p) (upd H1 p (.lst vs))
def rdN (S : Sig) (ca : ExA) (W : WX) (K : PySem.W.Frag) (c : C) : TE := fun σ H Q => ∃ F env, Ss K F H env σ ∧ PG ca W H σ (ev S false c env) (fun d => ∃ ds, d = .list ds ∧ WN K F H Q ds)
theorem nox_ok {α : Type} {x : R α} {a : α} (h : x.nox = .ok a) : x = .ok a := by
  cases x <;> cases h
  rfl
theorem nox_noexc {α : Type} {x : R α} {n : Str} : x.nox ≠ .exc n := by
  cases x <;> exact fun z => nomatch z
theorem lcGo_noexc {f : D → R (Option D)} (h : ∀ x n, f x ≠ .exc n) {n : Str} : ∀ xs : List D, lcGo f xs ≠ .exc n
  | [] => fun z => nomatch z
  | x :: xs => by
    rw [lcGo]
    exact bind_noexc (h x n) fun o => bind_noexc (lcGo_noexc h xs) fun r z => nomatch z

section
variable {S : Sig} {ca : ExA} {X : Cx} {W : WX} {tg it cond elt : C} {K : PySem.W.Frag}
def lcF (S : Sig) (tg cond elt : C) (env : Env) (x : D) : R (Option D) :=
  ((bindT tg x (wipeE env (tgVars tg))).bind fun env' => (evC S cond env').bind fun k => match k with | true => (ev S false elt env').bind fun d => .ok (some d) | false => .ok none).nox
theorem lc_read {F H0 : Hp} {env : Env} {σ : L2.St} {Q : VK} {xs all : List D} {vs : List Nat} (ss : Ss K F H0 env σ) (hv : ∀ i ∈ tgVars tg, i ∈ vs) (hw : tgVars tg = vs) (p : lcGo (lcF S tg cond elt env) xs = .ok all) (wn : WN K F H0 Q all)
    {J : It} {H1 : Hp} (s0 : Same H0 H1) (hl : xs.length ≤ lineN) (wk : WalkD K J (Gr F H0 H1) xs) {D : Addr} (hD : H1 D = none) :
    ∃ W : Nat → Nat → Hp → Prop, (∃ m, W 0 m (upd H1 D (.lst []))) ∧ ∀ i m H, W i m H →
      (J.stop i H ∧ Q (.ref D) H) ∨ (J.go i H ∧ ∃ Nx : Hp → Prop, (∀ H', Nx H' → ∃ m', m' < m ∧ W (i + 1) m' H') ∧ ∀ x H', J.yld i H x H' → gOf K tg x (L2.wipe σ vs) H' fun σ2 H2 => L2.wipe σ2 vs = L2.wipe σ vs ∧ rdC S ca W0 K cond σ2 H2 fun b H3 =>
        if b = true then rd S ca W0 K false elt σ2 H3 fun y H4 => ∃ acc, H4 D = some (.lst acc) ∧ acc.length < sizeLine ∧ Nx (upd H4 D (.lst (acc ++ [y]))) else Nx H3) := by
  let Pv : Nat → Hp → Prop := fun i H => ∃ acc rest us, H D = some (.lst us) ∧ Same H1 H ∧ RpL K (Gr F H0 (del H D)) us acc ∧ lcGo (lcF S tg cond elt env) (xs.drop i) = .ok rest ∧ all = acc ++ rest ∧ acc.length ≤ i ∧ i ≤ xs.length
  refine ⟨fun i m H => m = xs.length - i ∧ Pv i H, ⟨xs.length, by simp, [], all, [], upd_same, same_upd hD, .nil, p, rfl, Nat.le_refl _, Nat.zero_le _⟩, ?_⟩
  rintro i m H ⟨rfl, acc, rest, us, hu, s1, ru, e, ea, la, li⟩
  have hf : Same (Gr F H0 H1) H := fun a o z => s1 a o (gr_sub ss.sub s0 a o z)
  obtain ⟨w1, w2⟩ := wk i H hf
  by_cases hi : i < xs.length
  · obtain ⟨go, yl⟩ := w1 hi
    refine .inr ⟨go, Pv (i + 1), fun H' q => ⟨_, by omega, rfl, q⟩, fun x' H' y => ?_⟩
    obtain ⟨s2, x, hx, rx⟩ := yl x' H' y
    have ex : xs[i] = x := by rw [List.getElem?_eq_getElem hi] at hx; exact Option.some.inj hx
    rw [List.drop_eq_getElem_cons hi, ex, lcGo] at e
    obtain ⟨o, e1, e⟩ := bind_ok e
    obtain ⟨r', e2, e3⟩ := bind_ok e
    have e1 := nox_ok e1
    obtain ⟨env', b1, e1⟩ := bind_ok e1
    obtain ⟨k, b2, e1⟩ := bind_ok e1
    have sH' : Same H0 (del H' D) := fun a o z => sub_del (s1.trans s2) hD a o (s0 a o z)
    have ss' : Ss K (Gr F H0 (del H' D)) H' env σ := (ss.growF sH').grow del_sub
    have rx' := Rp.mono (gr_turn (F := F) s0 s1 s2 hu hD) rx
    rw [hw] at b1
    refine bindT_ok (vs := vs) b1 rx' (ss'.wipe vs) hv fun σ2 ss2 ew => ⟨ew.trans wipe_wipe, Gr F H0 (del H' D), env', ss2, ?_⟩
    rw [b2]
    intro H3 s3
    have hu3 : H3 D = some (.lst us) := s3 _ _ (s2 _ _ hu)
    cases k with
    | false =>
      cases e1
      refine iteF ⟨acc, rest, us, hu3, (s1.trans s2).trans s3, RpL.mono (gr_left (del_mono (s2.trans s3))) ru, ?_, ea, by omega, by omega⟩
      rw [e2]
      cases e3
      rfl
    | true =>
      obtain ⟨d, b3, e1⟩ := bind_ok e1
      cases e1
      cases e3
      refine iteT ⟨Gr F H0 (del H' D), env', ss2.grow s3, ?_⟩
      rw [b3]
      intro y H4 s4 ry
      have ry : Rp K (Gr (Gr F H0 (del H' D)) H3 H4) y d := ry
      refine ⟨us, s4 _ _ hu3, by rw [ru.length, ← lineN_eq]; omega, acc ++ [d], r', us ++ [y], upd_same, ?_, ?_, e2, by rw [ea]; simp, by rw [List.length_append]; simp; omega, by omega⟩
      · exact fun a o z => by rw [upd_ne (ne_of_none z hD)]; exact ((s1.trans s2).trans s3 |>.trans s4) a o z
      · rw [del_upd]
        exact RpL.app (RpL.mono (gr_left (del_mono ((s2.trans s3).trans s4))) ru) (.cons (Rp.mono (gr_elt ((s0.trans s1).trans s2) s3 s4 hu3) ry) .nil)
  · have hi : i = xs.length := by omega
    refine .inl ⟨w2 hi, ?_⟩
    rw [hi, List.drop_length] at e
    cases e
    have ea : all = acc := by rw [ea, List.append_nil]
    subst ea
    have q := wn us (del H D) D (fun a o z => sub_del s1 hD a o (s0 a o z)) del_none ru
    rw [upd_del hu] at q
    exact q
theorem rd_lcN {σ : L2.St} {H : Hp} {Q : VK} {vs : List Nat} (hw : tgVars tg = vs) (h : rdN S ca W K (.lc tg it cond elt) σ H Q) : tLc (rdI S ca W K it) (gOf K tg) (rdC S ca W0 K cond) (rd S ca W0 K false elt) vs σ H Q := by
  obtain ⟨F, env, ss, p⟩ := h
  rw [ev] at p
  refine ⟨F, env, ss, p.of_bind.imp fun xs p J H1 s0 hl wk D hD => ?_⟩
  have p : PG ca W H σ (lcGo (lcF S tg cond elt env) xs) (fun a => PG ca W H σ (R.ok (PyData.list a)) (fun d => ∃ ds, d = .list ds ∧ WN K F H Q ds)) := p.of_bind
  cases e : lcGo (lcF S tg cond elt env) xs with
  | ok all =>
    rw [e] at p
    obtain ⟨ds, e2, wn⟩ : ∃ ds, PyData.list all = .list ds ∧ WN K F H Q ds := p
    cases e2
    exact lc_read ss (fun i hi => hw ▸ hi) hw e wn s0 hl wk hD
  | exc n => exact (lcGo_noexc (fun x n => nox_noexc) xs e).elim
  | bad => rw [e] at p; exact p.elim
/-- a new list's expression read as any -/
theorem rd_n {t : Bool} {c : C} {σ : L2.St} {H : Hp} {Q : VK} (hl : ∀ t env d, ev S t c env = .ok d → ∃ ds, d = .list ds) (ht : ∀ env, ev S false c env = ev S t c env) (h : rd S ca W K t c σ H Q) : rdN S ca W K c σ H Q := by
  obtain ⟨F, env, ss, p⟩ := h
  refine ⟨F, env, ss, ?_⟩
  rw [ht]
  cases e : ev S t c env with
  | ok d =>
    obtain ⟨ds, rfl⟩ := hl t env d e
    rw [e] at p
    exact ⟨ds, rfl, fun vs H1 q s n r => WB.n ss.sub p s n r⟩
  | exc n => rw [e] at p; exact p
  | bad => rw [e] at p; exact p
theorem lc_isL {t : Bool} {env : Env} {d : D} (e : ev S t (.lc tg it cond elt) env = .ok d) : ∃ ds, d = .list ds := by
  rw [ev] at e
  obtain ⟨xs, _, e⟩ := bind_ok e
  obtain ⟨ds, _, e⟩ := bind_ok e
  cases e
  exact ⟨ds, rfl⟩

variable {etg eit eelt : Expr} {ifs : List Expr} {scope : Scope} {own : List (Str × Nat)} {pos : Pos}
theorem sn_lc (hc : X.calm = true) (hN : X.N.Nodup) (hi : PI X etg eit (rdI S ca W X.K it)) (ok : BlkOk X.N X.env.scope scope own) (hw : tgVars tg = own.map (·.2))
    (hg : ∀ (s : Shared) (H : Hp) (C : Addr) (cl : List (Str × Addr)) (fp : List Addr), L2.PG (X.blk s H scope (compEnvC scope cl C X.env) fp) etg (gOf X.K tg))
    (ht : ∀ (s : Shared) (H : Hp) (C : Addr) (cl : List (Str × Addr)) (fp : List Addr), PTs (X.blk s H scope (compEnvC scope cl C X.env) fp) ifs (rdC S ca W0 X.K cond))
    (he : ∀ (s : Shared) (H : Hp) (C : Addr) (cl : List (Str × Addr)) (fp : List Addr), PE (X.blk s H scope (compEnvC scope cl C X.env) fp) eelt (rd S ca W0 X.K false elt)) (hs : ∀ x, foldedSetIterable eit X.env x = pure x) :
    PE X (.ListComp eelt [⟨etg, eit, ifs, 0⟩] scope pos) (rdN S ca W X.K (.lc tg it cond elt)) :=
  (pe_lc hc hN hi ok hg ht he hs).imp fun σ H Q h => rd_lcN hw h
theorem se_lc {t : Bool} (h : PE X (.ListComp eelt [⟨etg, eit, ifs, 0⟩] scope pos) (rdN S ca W X.K (.lc tg it cond elt))) : PE X (.ListComp eelt [⟨etg, eit, ifs, 0⟩] scope pos) (rd S ca W X.K t (.lc tg it cond elt)) :=
  h.imp fun σ H Q h => rd_n (fun t env d e => lc_isL e) (fun env => by rw [ev, ev]) h
end
end Rf

set_option Elab.async false
set_option linter.all false
set_option maxHeartbeats 1000000
/-! Rf, part Q: a call by a list of defs; sorted. -/
namespace Rf
open PySem PySem.Spec PyProof.Rows L2
section
variable {S : Sig} {ca : ExA} {W : WX} {X : Cx} {t : Bool} {a b k : C} {ea eb ek : Expr} {es ns : List Expr} {fs : List Str} {pos p0 p1 : Pos}
theorem se_sorted {x : Str} {p : Pos} (hx : x = "sorted") (hu : X.A.units + 65 < cLine) (hg : Gl X x) (hm : X.mg x = none) (ha : PA X (ea :: es) (rdA S ca W X.K true a)) (hs : (ea :: es).all notStar = true) :
    PE X (.Call (.Name x p) (ea :: es) [] pos) (rd S ca W X.K t (.bi .sorted a)) := by
  subst hx
  rw [List.all_cons, Bool.and_eq_true] at hs
  exact L2.PE.imp (t := tCB (rBI X.K .sorted) (rdA S ca W X.K true a)) (pe_callB (cr_sortD hu) hg hm (by decide +kernel) ha (by decide) (by decide) (star_cons hs.1) (star_any hs.2)) fun σ H Q h => rd_bi h
def nsOk : List Expr → List Str → Bool
  | [], [] => true
  | .Name y _ :: es, f :: fs => decide (y = f) && nsOk es fs
  | _, _ => false
def tRf : List Addr → TA
  | [] => tNil
  | a :: r => tCons (tC (.ref a)) (tRf r)
theorem tRf_of {σ : L2.St} {H : Hp} : ∀ {as : List Addr} {Q : List V → Hp → Prop}, Q (as.map V.ref) H → tRf as σ H Q
  | [], _, q => q
  | a :: r, Q, q => tRf_of (as := r) (Q := fun vs H1 => Q (V.ref a :: vs) H1) q
/-- what is known of a def that may be called -/
def CalF (X : Cx) (S : Sig) (ca : ExA) (n : Nat) (f : Str) (fa : Addr) : Prop := X.mg f = some (.ref fa) ∧ PySem.W.keepIn X.K (.ref fa) = true ∧ ∃ k fd ps, FnOk X.prog X.w X.K X.mg X.base (L2.CX X.prog X.w) k fa fd ps (spD X.K S ca f n) ∧ Room k X.A ∧ Binds X.K fd ps []
theorem refs_of {n : Nat} : ∀ {ns : List Expr} {fs : List Str}, nsOk ns fs = true → (∀ f ∈ fs, (Gl X f ∧ (f == ("__debug__" : Str)) = false) ∧ ∃ fa, CalF X S ca n f fa) →
    ∃ as : List Addr, PA X ns (tRf as) ∧ as.length = fs.length ∧ ∀ (j : Nat) f, fs[j]? = some f → ∃ fa, as[j]? = some fa ∧ CalF X S ca n f fa
  | [], [], _, _ => ⟨[], pa_nil, rfl, fun j f z => by cases z⟩
  | .Name y p :: es, f :: fs, o, h => by
    have o : (decide (y = f) && nsOk es fs) = true := o
    rw [Bool.and_eq_true] at o
    have e := of_decide_eq_true o.1
    subst e
    obtain ⟨⟨h1, h2⟩, fa, h3⟩ := h y (List.mem_cons_self ..)
    obtain ⟨as, i1, i2, i3⟩ := refs_of o.2 fun f hf => h f (List.mem_cons_of_mem _ hf)
    refine ⟨fa :: as, pa_cons (pe_glob h1 h3.1 rfl h2) i1 rfl, by simp [i2], fun j g z => ?_⟩
    cases j with
    | zero => cases z; exact ⟨fa, rfl, h3⟩
    | succ j => exact i3 j g z
theorem pickF_noexc {d : D} {n : Str} : pickF fs d ≠ .exc n := by
  intro h
  cases d with
  | int i =>
    unfold pickF at h
    dsimp only at h
    split at h <;> cases h
  | _ => cases h
theorem se_calls {n : Nat} (o : nsOk ns fs = true) (hf : ∀ f ∈ fs, (Gl X f ∧ (f == ("__debug__" : Str)) = false) ∧ ∃ fa, CalF X S ca n f fa) (hz : fs.length ≤ 1000) (hk : PE X ek (rd S ca W X.K true k)) (hp : PlainIx ek) (tk : Takes X W)
    (ha : PA X (ea :: es) (rdA S ca W X.K false a)) (hn : cLen a = n) (hs : (ea :: es).all notStar = true) : PE X (.Call (.Subscript (.List ns p0) ek p1) (ea :: es) [] pos) (rd S ca W X.K t (.calls fs k a)) := by
  rw [List.all_cons, Bool.and_eq_true] at hs
  obtain ⟨as, i1, i2, i3⟩ := refs_of o hf
  have fe := pe_ix (pos := p1) ix_list (pe_lst (pos := p0) i1) hk hp
  refine ⟨fun pins s σ H Q I ⟨F, env, ss, p⟩ => ?_⟩
  rw [ev] at p
  refine Call_ (thn (fe.run pins s σ H (fun v H1 => ∃ fa f, v = V.ref fa ∧ Same H H1 ∧ CalF X S ca n f fa ∧ PG ca W H1 σ ((evs S false a env).bind fun ds => S.cl f ds) (WB t X.K F H Q)) I ?_) fun u s1 ⟨v, H1, I1, r1, fa, f, ev1, s01, cf, p⟩ => ?_)
  · refine tRf_of ⟨by rw [List.length_map, i2]; exact Nat.le_trans hz (by decide), fun l hl => ?_⟩
    have s1 := same_upd (o := .lst (as.map V.ref)) hl
    refine ⟨F, env, ss.grow s1, p.of_bind.go s1 fun d p y H2 s2 ry => ?_⟩
    cases q : pickF fs d with
    | exc n => exact (pickF_noexc q).elim
    | bad => rw [q] at p; exact p.elim
    | ok f =>
      rw [q] at p
      cases d with
      | int i =>
        unfold pickF at q
        dsimp only at q
        cases c : L2.atI fs i with
        | none => rw [c] at q; cases q
        | some g =>
          rw [c] at q
          cases q
          unfold L2.atI at c
          cases c2 : ixN fs.length i with
          | none => rw [c2] at c; cases c
          | some j =>
            rw [c2] at c
            obtain ⟨fa, h1, h2⟩ := i3 j f c
            refine ⟨l, as.map V.ref, i, .ref fa, rfl, ry, .of (s2 _ _ upd_same), ?_, fa, f, rfl, s1.trans s2, h2, ?_⟩
            · unfold L2.atI
              rw [List.length_map, i2, c2]
              show (as.map V.ref)[j]? = _
              rw [List.getElem?_map, h1]; rfl
            · have p : PG ca W H σ ((evs S false a env).bind fun ds => S.cl f ds) (WB t X.K F H Q) := p
              exact p.later (s1.trans s2)
      | _ => cases q
  · subst ev1
    cases r1
    obtain ⟨_, kp, kk, fd, ps, Fn, hr, hb⟩ := cf
    have hrd : tCallS (spD X.K S ca f n) (WE W) (rdA S ca W X.K false a) σ H1 Q := by
      have p2 : rd S ca W X.K t (.call f a) σ H1 Q := by
        refine ⟨Gr F H H1, env, ss.growF s01, ?_⟩
        rw [ev]
        exact p.imp fun d q v H' s2 r => q v H' (s01.trans s2) (RpB.mono r (gr_gr s01 s2) same_refl)
      exact rd_call p2 fun env ds e => by rw [evs_len e]; exact hn
    refine PySem.W.callWith_K (h₀ := X.base) I1.ok.mod.kin kp (thn (ha.run pos pins s1 σ H1 _ I1 hrd) fun us s2 ⟨vs, H2, I2, r, q⟩ => ⟨I2.kIn, ?_⟩) (star_cons hs.1) (star_any hs.2)
    exact run_fnS Fn hr hb (passAt tk σ) I2 r q
end
end Rf

set_option Elab.async false
set_option linter.all false
set_option maxHeartbeats 1000000
/-! Rf, part S: statements. -/
namespace Rf
open PySem PySem.Spec PyProof.Rows L2

/-- the frame within a def that began at F0, H0 -/
structure Fr (K : PySem.W.Frag) (L F0 H0 F H : Hp) (env : Env) (σ : L2.St) : Prop where
  ss : Ss K F H env σ
  old : Same H0 H
  bnd : Same F (Gr F0 H0 H)
  own : ∀ (i : Nat) (d : D) (a : Addr), env[i]? = some (some (true, d)) → σ[i]? = some (some (.ref a)) → H0 a = none
  low : Same L F
section
variable {K : PySem.W.Frag} {L F0 H0 F H H' : Hp} {env : Env} {σ : L2.St}
theorem Fr.grow (h : Fr K L F0 H0 F H env σ) (s : Same H H') : Fr K L F0 H0 F H' env σ := ⟨h.ss.grow s, h.old.trans s, fun a o e => gr_left s a o (h.bnd a o e), h.own, h.low⟩
theorem gr_base (h : Fr K L F0 H0 F H env σ) (s : Same H H') : Same (Gr F H H') (Gr F0 H0 H') := fun a o e => by
  cases q : H a with
  | none => rw [gr_none q] at e; rw [gr_none (h.old.free q)]; exact e
  | some u => rw [gr_some q] at e; exact gr_left s a o (h.bnd a o e)
theorem Fr.growF (h : Fr K L F0 H0 F H env σ) (s : Same H H') : Fr K L F0 H0 (Gr F H H') H' env σ := ⟨h.ss.growF s, h.old.trans s, gr_base h s, h.own, h.low.trans (gr_F h.ss.sub)⟩
theorem Fr.set {i : Nat} {d : D} {v : V} (h : Fr K L F0 H0 F H env σ) (r : Rp K F v d) : Fr K L F0 H0 F H (env.set i (some (false, d))) (σ.set i (some v)) := by
  refine ⟨h.ss.set r, h.old, h.bnd, fun j e a e1 e2 => ?_, h.low⟩
  have n1 : i ≠ j := fun q => by
    subst q
    by_cases hl : i < env.length
    · rw [List.getElem?_set_self hl] at e1; cases e1
    · rw [List.getElem?_eq_none (by rw [List.length_set]; omega)] at e1; cases e1
  rw [List.getElem?_set_ne n1] at e1 e2
  exact h.own j e a e1 e2
/-- a slot takes a new list as its own -/
theorem Fr.setN {i : Nat} {ds : List D} {vs : List V} {p : Addr} (h : Fr K L F0 H0 F H env σ) (hp : H p = none) (r : RpL K F vs ds) : Fr K L F0 H0 F (upd H p (.lst vs)) (env.set i (some (true, .list ds))) (σ.set i (some (.ref p))) := by
  have s := same_upd (o := .lst vs) hp
  have h' := h.grow s
  have hFp : F p = none := h.ss.sub.free hp
  refine ⟨⟨h'.ss.sub, by rw [List.length_set, List.length_set]; exact h.ss.len, fun j b e => ?_, fun j k dj dk a hjk e1 e2 e3 e4 => ?_⟩, h'.old, h'.bnd, fun j e a e1 e2 => ?_, h.low⟩
  · by_cases hj : i = j
    · subst hj
      have hl : i < env.length := by
        have := (List.getElem?_eq_some_iff.mp e).1
        rwa [List.length_set] at this
      rw [List.getElem?_set_self hl] at e
      cases e
      exact ⟨some (.ref p), List.getElem?_set_self (by rw [h.ss.len]; exact hl), p, vs, rfl, hFp, upd_same, r⟩
    · rw [List.getElem?_set_ne hj] at e
      obtain ⟨v', h1, h2⟩ := h'.ss.slot j b e
      exact ⟨v', by rw [List.getElem?_set_ne hj]; exact h1, h2⟩
  · have old : ∀ {m : Nat} {dm : D}, i ≠ m → (env.set i (some (true, .list ds)))[m]? = some (some (true, dm)) → (σ.set i (some (.ref p)))[m]? = some (some (.ref a)) → a ≠ p := fun {m dm} hm q1 q2 => by
      rw [List.getElem?_set_ne hm] at q1 q2
      obtain ⟨v, h1, h2⟩ := h.ss.slot m _ q1
      rw [q2] at h1; cases h1
      cases dm with
      | list es =>
        obtain ⟨a', us, q, _, h3, _⟩ := h2
        cases q
        exact ne_of_none h3 hp
      | _ => exact h2.elim
    by_cases hj : i = j
    · subst hj
      by_cases hl : i < σ.length
      · rw [List.getElem?_set_self hl] at e3
        cases e3
        exact old hjk e2 e4 rfl
      · rw [List.getElem?_eq_none (by rw [List.length_set]; omega)] at e3; cases e3
    · by_cases hk : i = k
      · subst hk
        by_cases hl : i < σ.length
        · rw [List.getElem?_set_self hl] at e4
          cases e4
          exact old hj e1 e3 rfl
        · rw [List.getElem?_eq_none (by rw [List.length_set]; omega)] at e4; cases e4
      · rw [List.getElem?_set_ne hj] at e1 e3
        rw [List.getElem?_set_ne hk] at e2 e4
        exact h.ss.apart j k dj dk a hjk e1 e2 e3 e4
  · by_cases hj : i = j
    · subst hj
      by_cases hl : i < σ.length
      · rw [List.getElem?_set_self hl] at e2
        cases e2
        exact h.old.free hp
      · rw [List.getElem?_eq_none (by rw [List.length_set]; omega)] at e2; cases e2
    · rw [List.getElem?_set_ne hj] at e1 e2
      exact h.own j e a e1 e2
/-- the own list of a slot is written -/
theorem Fr.write {i : Nat} {ds es : List D} {vs us : List V} {p : Addr} (h : Fr K L F0 H0 F H env σ) (e : env[i]? = some (some (true, .list ds))) (eσ : σ[i]? = some (some (.ref p))) (hp : H p = some (.lst vs)) (r : RpL K F us es) :
    Fr K L F0 H0 F (upd H p (.lst us)) (env.set i (some (true, .list es))) σ := by
  have hFp : F p = none := by
    obtain ⟨v, h1, h2⟩ := h.ss.slot i _ e
    rw [eσ] at h1; cases h1
    obtain ⟨a, ws, q, f, _⟩ := h2
    cases q
    exact f
  have hl : i < env.length := (List.getElem?_eq_some_iff.mp e).1
  have hH0 : H0 p = none := h.own i _ p e eσ
  have env_at : ∀ {j : Nat} {b : Option (Bool × D)}, (env.set i (some (true, .list es)))[j]? = some b → (i = j ∧ b = some (true, .list es)) ∨ (i ≠ j ∧ env[j]? = some b) := fun {j b} q => by
    by_cases hj : i = j
    · subst hj
      rw [List.getElem?_set_self hl] at q
      cases q
      exact .inl ⟨rfl, rfl⟩
    · rw [List.getElem?_set_ne hj] at q
      exact .inr ⟨hj, q⟩
  refine ⟨⟨fun a o q => ?_, by rw [List.length_set]; exact h.ss.len, fun j b q => ?_, fun j k dj dk a hjk e1 e2 e3 e4 => ?_⟩, fun a o q => ?_, fun a o q => ?_, fun j d a e1 e2 => ?_, h.low⟩
  · rw [upd_ne (ne_of_none q hFp)]; exact h.ss.sub a o q
  · rcases env_at q with ⟨rfl, rfl⟩ | ⟨hj, q⟩
    · exact ⟨_, eσ, p, us, rfl, hFp, upd_same, r⟩
    · obtain ⟨v, h1, h2⟩ := h.ss.slot j b q
      refine ⟨v, h1, ?_⟩
      match b, v, h2 with
      | none, _, _ => trivial
      | some (false, d), some v, h2 => exact h2
      | some (true, .list ws), some v, h2 =>
        obtain ⟨a, ys, rfl, f, h3, r3⟩ := h2
        have na : a ≠ p := fun z => by subst z; exact h.ss.apart i j _ _ _ hj e q eσ h1
        exact ⟨a, ys, rfl, f, by rw [upd_ne na]; exact h3, r3⟩
  · have get : ∀ {m : Nat} {d : D}, (env.set i (some (true, .list es)))[m]? = some (some (true, d)) → ∃ d', env[m]? = some (some (true, d')) := fun {m d} q => by
      rcases env_at q with ⟨rfl, _⟩ | ⟨_, q⟩
      · exact ⟨_, e⟩
      · exact ⟨_, q⟩
    obtain ⟨d1, q1⟩ := get e1
    obtain ⟨d2, q2⟩ := get e2
    exact h.ss.apart j k d1 d2 a hjk q1 q2 e3 e4
  · rw [upd_ne (ne_of_none q hH0)]; exact h.old a o q
  · have := h.bnd a o q
    have na : a ≠ p := fun z => by subst z; rw [hFp] at q; cases q
    cases q0 : H0 a with
    | none => rw [gr_none q0] at this ⊢; rw [upd_ne na]; exact this
    | some u => rw [gr_some q0] at this ⊢; exact this
  · rcases env_at e1 with ⟨rfl, _⟩ | ⟨_, e1⟩
    · exact h.own _ _ a e e2
    · exact h.own j d a e1 e2
/-- a slot's own list stands still from here on -/
theorem Fr.freeze {i : Nat} (h : Fr K L F0 H0 F H env σ) : ∃ F', Fr K L F0 H0 F' H (Rf.freeze env i) σ := by
  unfold Rf.freeze
  cases q : env[i]? with
  | none => exact ⟨F, h⟩
  | some b =>
    match b, q with
    | none, q => exact ⟨F, h⟩
    | some (o, d), q =>
      obtain ⟨v, h1, h2⟩ := h.ss.slot i _ q
      have hl : i < env.length := (List.getElem?_eq_some_iff.mp q).1
      match o, v, h2, q with
      | false, some v, h2, q =>
        have e : env.set i (some (false, d)) = env := by
          refine List.ext_getElem? fun j => ?_
          by_cases hj : i = j
          · subst hj; rw [List.getElem?_set_self hl, q]
          · rw [List.getElem?_set_ne hj]
        exact ⟨F, by show Fr K L F0 H0 F H (env.set i (some (false, d))) σ; rw [e]; exact h⟩
      | true, some v, h2, q =>
        cases d with
        | list ds =>
          obtain ⟨p, vs, rfl, f, h3, r⟩ := h2
          have hH0 : H0 p = none := h.own i _ p q h1
          have sF : Same F (upd F p (.lst vs)) := same_upd f
          have env_at : ∀ {j : Nat} {b : Option (Bool × D)}, (env.set i (some (false, .list ds)))[j]? = some b → (i = j ∧ b = some (false, .list ds)) ∨ (i ≠ j ∧ env[j]? = some b) := fun {j b} q => by
            by_cases hj : i = j
            · subst hj
              rw [List.getElem?_set_self hl] at q
              cases q
              exact .inl ⟨rfl, rfl⟩
            · rw [List.getElem?_set_ne hj] at q
              exact .inr ⟨hj, q⟩
          have own_at : ∀ {j : Nat} {d : D}, (env.set i (some (false, .list ds)))[j]? = some (some (true, d)) → i ≠ j ∧ env[j]? = some (some (true, d)) := fun {j d} q => by
            rcases env_at q with ⟨_, z⟩ | z
            · cases z
            · exact z
          refine ⟨upd F p (.lst vs), ⟨fun a o z => ?_, by rw [List.length_set]; exact h.ss.len, fun j b z => ?_, fun j k dj dk a hjk e1 e2 e3 e4 => ?_⟩, h.old, fun a o z => ?_, fun j d a e1 e2 => ?_, h.low.trans sF⟩
          · by_cases ha : a = p
            · subst ha; rw [upd_same] at z; cases z; exact h3
            · rw [upd_ne ha] at z; exact h.ss.sub a o z
          · rcases env_at z with ⟨rfl, rfl⟩ | ⟨hj, z⟩
            · exact ⟨_, h1, .lst (.inl (.inl upd_same)) (RpL.mono sF r)⟩
            · obtain ⟨v, g1, g2⟩ := h.ss.slot j b z
              refine ⟨v, g1, ?_⟩
              match b, v, g2 with
              | none, _, _ => trivial
              | some (false, d), some v, g2 => exact Rp.mono sF g2
              | some (true, .list ws), some v, g2 =>
                obtain ⟨a, ys, rfl, f2, g3, r3⟩ := g2
                have na : a ≠ p := fun y => by subst y; exact h.ss.apart i j _ _ _ hj q z h1 g1
                exact ⟨a, ys, rfl, by rw [upd_ne na]; exact f2, g3, RpL.mono sF r3⟩
          · obtain ⟨_, e1⟩ := own_at e1
            obtain ⟨_, e2⟩ := own_at e2
            exact h.ss.apart j k dj dk a hjk e1 e2 e3 e4
          · by_cases ha : a = p
            · subst ha; rw [upd_same] at z; cases z; rw [gr_none hH0]; exact h3
            · rw [upd_ne ha] at z; exact h.bnd a o z
          · exact h.own j d a (own_at e1).2 e2
        | _ => exact h2.elim
end

/-! ### what is wanted of a statement's result -/
def SPost (ca : ExA) (W : WX) (K : PySem.W.Frag) (L F0 H0 : Hp) (r : SR) (De : Ends) : Prop := match r with
  | .nx env => ∀ σ F H, Fr K L F0 H0 F H env σ → De.nx σ H
  | .ct env => ∀ σ F H, Fr K L F0 H0 F H env σ → De.ct σ H
  | .bk env => ∀ σ F H, Fr K L F0 H0 F H env σ → De.bk σ H
  | .rt d => ∀ v H, Same H0 H → Rp K (Gr F0 H0 H) v d → De.rt v H
  | .exc n env => ∀ σ F H C, Fr K L F0 H0 F H env σ → ca n = some C → W (.ref C) none σ H
  | .bad => False
def rdS (S : Sig) (fuel : Nat) (ca : ExA) (W : WX) (K : PySem.W.Frag) (L F0 H0 : Hp) (c : C) : TS := fun De σ H => ∃ F env, Fr K L F0 H0 F H env σ ∧ SPost ca W K L F0 H0 (ex S fuel c env) De
section
variable {S : Sig} {fuel : Nat} {ca : ExA} {W : WX} {X : Cx} {L F0 H0 : Hp} {a b c e : C} {ee : Expr} {st : Stmt} {rest : List Stmt} {pos : Pos}
/-- from an expression's result to a statement's -/
theorem toS_pg {α : Type} {K : PySem.W.Frag} {F H : Hp} {env : Env} {σ : L2.St} {r : R α} {f : α → SR} {De : Ends} (fr : Fr K L F0 H0 F H env σ) (p : SPost ca W K L F0 H0 (r.toS env f) De) : PG ca W H σ r fun a => SPost ca W K L F0 H0 (f a) De := by
  cases r with
  | ok a => exact p
  | exc n => exact fun H' C s h => p σ F H' C (fr.grow s) h
  | bad => exact p
theorem ss_skip : PSs X [] (rdS S fuel ca W X.K L F0 H0 .skip) := pss_nil.imp fun De σ H ⟨F, env, fr, p⟩ => by
  rw [ex] at p
  exact p σ F H fr
theorem ss_seq (h1 : PS X st (rdS S fuel ca W X.K L F0 H0 a)) (h2 : PSs X rest (rdS S fuel ca W X.K L F0 H0 b)) : PSs X (st :: rest) (rdS S fuel ca W X.K L F0 H0 (.seq a b)) := by
  refine (pss_cons h1 h2).imp fun De σ H ⟨F, env, fr, p⟩ => ?_
  rw [ex] at p
  refine ⟨F, env, fr, ?_⟩
  cases q : ex S fuel a env with
  | nx env' => rw [q] at p; exact fun σ' F' H' fr' => ⟨F', env', fr', p⟩
  | rt d => rw [q] at p; exact p
  | bk env' => rw [q] at p; exact p
  | ct env' => rw [q] at p; exact p
  | exc n env' => rw [q] at p; exact p
  | bad => rw [q] at p; exact p
theorem ss_fz {i : Nat} (h : PSs X rest (rdS S fuel ca W X.K L F0 H0 a)) : PSs X rest (rdS S fuel ca W X.K L F0 H0 (.fz i a)) := by
  refine h.imp fun De σ H ⟨F, env, fr, p⟩ => ?_
  rw [ex] at p
  obtain ⟨F', fr'⟩ := fr.freeze (i := i)
  exact ⟨F', _, fr', p⟩
theorem ss_ret (he : PE X ee (rd S ca W X.K false e)) : PS X (.Return (some ee) pos) (rdS S fuel ca W X.K L F0 H0 (.ret e)) := by
  refine (ps_ret he).imp fun De σ H ⟨F, env, fr, p⟩ => ?_
  rw [ex] at p
  refine ⟨F, env, fr.ss, (toS_pg fr p).imp fun d p v H' s r => ?_⟩
  exact p v H' (fr.old.trans s) (Rp.mono (gr_base fr s) r)
theorem rd_exp {De : Ends} {σ : L2.St} {H : Hp} (h : rdS S fuel ca W X.K L F0 H0 (.exp e) De σ H) : tDrop (rd S ca W X.K false e) De σ H := by
  obtain ⟨F, env, fr, p⟩ := h
  rw [ex] at p
  exact ⟨F, env, fr.ss, (toS_pg fr p).imp fun d p v H' s r => p σ F H' (fr.grow s)⟩
theorem ss_exp (he : PE X ee (rd S ca W X.K false e)) (hs : swapsWith ee none pos.line X.env = pure false) : PS X (.Expr ee pos) (rdS S fuel ca W X.K L F0 H0 (.exp e)) :=
  (ps_expr he hs).imp fun De σ H h => rd_exp h
theorem rd_asg {i : Nat} {De : Ends} {σ : L2.St} {H : Hp} (h : rdS S fuel ca W X.K L F0 H0 (.asg i false e) De σ H) : tAsg (rd S ca W X.K false e) (gName i) De σ H := by
  obtain ⟨F, env, fr, p⟩ := h
  rw [ex] at p
  refine ⟨F, env, fr.ss, (toS_pg fr p).imp fun d p v H' s r => ?_⟩
  cases q : decide (i < env.length) with
  | false => rw [q] at p; exact p.elim
  | true => rw [q] at p; exact p _ _ _ ((fr.growF s).set r)
theorem rd_asgN {i : Nat} {De : Ends} {σ : L2.St} {H : Hp} (h : rdS S fuel ca W X.K L F0 H0 (.asg i true e) De σ H) : tAsg (rdN S ca W X.K e) (gName i) De σ H := by
  obtain ⟨F, env, fr, p⟩ := h
  rw [ex] at p
  refine ⟨F, env, fr.ss, (toS_pg fr p).imp fun d p => ?_⟩
  cases q : decide (i < env.length) with
  | false => rw [q] at p; exact p.elim
  | true =>
    rw [q] at p
    cases d with
    | list ds =>
      refine ⟨ds, rfl, fun vs H1 l s n r => ?_⟩
      exact p _ _ _ ((fr.growF s).setN n r)
    | _ => exact p.elim
theorem ss_asg {i : Nat} {x : Str} {p' : Pos} (hN : X.N.Nodup) (hi : X.N[i]? = some x) (hx : Loc X.env.scope x) (he : PE X ee (rd S ca W X.K false e)) (hs : swapsWith ee (some (.Name x p')) pos.line X.env = pure false) (hf : X.fn x = true ∨ X.env.scope.names.lookup x = some .local) :
    PS X (.Assign [.Name x p'] ee pos) (rdS S fuel ca W X.K L F0 H0 (.asg i false e)) := (ps_set hN hi hx he hs hf).imp fun De σ H h => rd_asg h
theorem ss_asgN {i : Nat} {x : Str} {p' : Pos} (hN : X.N.Nodup) (hi : X.N[i]? = some x) (hx : Loc X.env.scope x) (he : PE X ee (rdN S ca W X.K e)) (hs : swapsWith ee (some (.Name x p')) pos.line X.env = pure false) (hf : X.fn x = true ∨ X.env.scope.names.lookup x = some .local) :
    PS X (.Assign [.Name x p'] ee pos) (rdS S fuel ca W X.K L F0 H0 (.asg i true e)) := (ps_set hN hi hx he hs hf).imp fun De σ H h => rd_asgN h
theorem ss_if {ec : Expr} {as bs : List Stmt} (hc : PT X ec (rdT S ca W X.K c)) (ha : PSs X as (rdS S fuel ca W X.K L F0 H0 a)) (hb : PSs X bs (rdS S fuel ca W X.K L F0 H0 b)) : PS X (.If ec as bs pos) (rdS S fuel ca W X.K L F0 H0 (.iff c a b)) := by
  refine (ps_if hc ha hb).imp fun De σ H ⟨F, env, fr, p⟩ => ?_
  rw [ex] at p
  refine ⟨F, env, fr.ss, (toS_pg fr p).imp fun k p H1 s1 => ?_⟩
  cases k with
  | true => exact iteT ⟨F, env, fr.grow s1, p⟩
  | false => exact iteF ⟨F, env, fr.grow s1, p⟩
end
end Rf

set_option Elab.async false
set_option linter.all false
set_option maxHeartbeats 1000000
/-! Rf, part S2: loops, lists that grow, several targets, raise. -/
namespace Rf
open PySem PySem.Spec PyProof.Rows L2

section
variable {K : PySem.W.Frag} {L L' F0 H0 F H H' : Hp} {env : Env} {σ : L2.St} {ca : ExA} {W : WX}
theorem Fr.lower (h : Fr K L F0 H0 F H env σ) (s : Same L' L) : Fr K L' F0 H0 F H env σ := ⟨h.ss, h.old, h.bnd, h.own, s.trans h.low⟩
theorem Fr.raise (h : Fr K L F0 H0 F H env σ) : Fr K F F0 H0 F H env σ := ⟨h.ss, h.old, h.bnd, h.own, same_refl⟩
/-- a turn of a loop -/
theorem SPost.turn {r : SR} {f : Env → SR} {De : Ends} {Nx : L2.St → Hp → Prop} (s : Same L L') (p : SPost ca W K L F0 H0 (r.turn f) De)
    (hN : ∀ env, SPost ca W K L F0 H0 (f env) De → ∀ σ F H, Fr K L' F0 H0 F H env σ → Nx σ H) : SPost ca W K L' F0 H0 r { De with nx := Nx, ct := Nx, bk := De.nx } := by
  cases r with
  | nx env => exact hN env p
  | ct env => exact hN env p
  | bk env => exact fun σ F H fr => p σ F H (fr.lower s)
  | rt d => exact p
  | exc n env => exact fun σ F H C fr e => p σ F H C (fr.lower s) e
  | bad => exact p
end
section
variable {S : Sig} {fuel : Nat} {ca : ExA} {W : WX} {X : Cx} {L F0 H0 : Hp} {a b c e tg it body : C} {ee etg eit : Expr} {st : Stmt} {rest ebody : List Stmt} {pos : Pos}
theorem ss_for (hp : PassesOwn (model X.prog X.w) X.A X.env X.xe) (hc : X.calm = true) (hi : PI X etg eit (rdI S ca W X.K it)) (hg : L2.PG X etg (gOf X.K tg)) (hb : ∀ L, PSs X ebody (rdS S fuel ca W X.K L F0 H0 body))
    (hs : ∀ x, foldedSetIterable eit X.env x = pure x) : PS X (.For etg eit ebody [] pos) (rdS S fuel ca W X.K L F0 H0 (.for_ tg it body)) := by
  refine ⟨fun pins s σ H De I ⟨F, env, fr, p⟩ => ?_⟩
  rw [ex] at p
  -- the loop's own floor: what stands still when it begins
  have p := toS_pg fr p
  cases q : its S it env with
  | bad => rw [q] at p; exact p.elim
  | exc n =>
    rw [q] at p
    -- the walked thing raises
    exact (ps_for hp hc hi hg (hb L) hs).run pins s σ H De I ⟨F, env, fr.ss, by rw [q]; exact p⟩
  | ok xs =>
    rw [q] at p
    -- the floor is chosen behind the making of the iterator; so the body is run by its meaning over any floor
    have hbody : PSs X ebody (fun De σ H => ∃ L, rdS S fuel ca W X.K L F0 H0 body De σ H) := ⟨fun pins s σ H De I ⟨L, w⟩ => (hb L).run pins s σ H De I w⟩
    refine (ps_for hp hc hi hg hbody hs).run pins s σ H De I ⟨F, env, fr.ss, ?_⟩
    rw [q]
    intro J H1 s1 hl wk
    let F1 := Gr F H H1
    have fr1 : Fr X.K F1 F0 H0 F1 H1 env σ := (fr.growF s1).raise
    have sL : Same L F1 := (fr.growF s1).low
    refine ⟨fun i m σ' H' => m = xs.length - i ∧ i ≤ xs.length ∧ ∃ F' env', Fr X.K F1 F0 H0 F' H' env' σ' ∧ SPost ca W X.K L F0 H0 (forGo (fun x env => (bindT tg x env).toS env (ex S fuel body)) (xs.drop i) env') De,
      ⟨xs.length, by simp, Nat.zero_le _, F1, env, fr1, p⟩, ?_⟩
    rintro i m σ' H' ⟨rfl, hi', F', env', fr', p'⟩
    obtain ⟨w1, w2⟩ := wk i H' (fr'.low.trans fr'.ss.sub)
    by_cases hlt : i < xs.length
    · obtain ⟨go, yl⟩ := w1 hlt
      refine .inr ⟨go, fun σ2 H2 => ∃ F2 env2, Fr X.K F1 F0 H0 F2 H2 env2 σ2 ∧ SPost ca W X.K L F0 H0 (forGo (fun x env => (bindT tg x env).toS env (ex S fuel body)) (xs.drop (i + 1)) env2) De,
        fun σ2 H2 n2 => ⟨_, by omega, rfl, hlt, n2⟩, fun x H2 y => ?_⟩
      obtain ⟨s2, d, hd, rx⟩ := yl x H2 y
      have ed : xs[i] = d := by rw [List.getElem?_eq_getElem hlt] at hd; exact Option.some.inj hd
      rw [List.drop_eq_getElem_cons hlt, ed, forGo] at p'
      have fr2 := fr'.growF s2
      -- what the turn gives stands still
      have rx' : Rp X.K (Gr F' H' H2) x d := Rp.mono (fun a o z => by
        cases e : H' a with
        | none => rw [gr_none e] at z ⊢; exact z
        | some u => rw [gr_some e] at z ⊢; exact fr'.low a o z) rx
      cases eb : bindT tg d env' with
      | ok env2 =>
        rw [eb] at p'
        -- the target
        refine bindT_okP (P := Fr X.K F1 F0 H0 (Gr F' H' H2) H2) (fun _ _ _ _ _ h r => h.set r) (vs := tgVars tg) eb rx' fr2.ss.sub fr2 (fun _ h => h) fun σ2 fr3 _ => ?_
        exact ⟨F1, _, env2, fr3, SPost.turn sL p' fun env3 p3 σ3 F3 H3 fr3 => ⟨F3, env3, fr3, p3⟩⟩
      | exc n => exact (bindT_noexc eb).elim
      | bad => rw [eb] at p'; exact p'.elim
    · have hi'' : i = xs.length := by omega
      refine .inl ⟨w2 hi'', ?_⟩
      rw [hi'', List.drop_length, forGo] at p'
      exact p' _ _ _ (fr'.lower sL)
end
end Rf

set_option Elab.async false
set_option linter.all false
set_option maxHeartbeats 1000000
/-! Rf, part S3: while, lists that grow, unpacking, several targets at once, raise. -/
namespace Rf
open PySem PySem.Spec PyProof.Rows L2

section
variable {S : Sig} {fuel : Nat} {ca : ExA} {W : WX} {X : Cx} {L F0 H0 : Hp} {a b c e tg it body : C} {ee etg ec : Expr} {es ts : List Expr} {st : Stmt} {rest ebody : List Stmt} {pos : Pos}
theorem ss_while (hp : PassesOwn (model X.prog X.w) X.A X.env X.xe) (hc : PT X ec (rdT S ca W X.K c)) (hb : ∀ L, PSs X ebody (rdS S fuel ca W X.K L F0 H0 body)) :
    PS X (.While ec ebody [] pos) (rdS S fuel ca W X.K L F0 H0 (.while_ c body)) := by
  refine (ps_while hp hc (hb L)).imp fun De σ H ⟨F, env, fr, p⟩ => ?_
  rw [ex] at p
  have gen : ∀ n : Nat, (∃ F env, Fr X.K L F0 H0 F H env σ ∧ SPost ca W X.K L F0 H0 (whileGo (fun env => (ev S true c env).bind toBool) (ex S fuel body) n env) De) → ∃ Wv : Nat → L2.St → Hp → Prop, (∃ m, Wv m σ H) ∧ ∀ m σ H, Wv m σ H →
      rdT S ca W X.K c σ H fun b H1 => if b = true then ∃ N : L2.St → Hp → Prop, (∀ σ' H', N σ' H' → ∃ m', m' < m ∧ Wv m' σ' H') ∧ rdS S fuel ca W X.K L F0 H0 body { De with nx := N, ct := N, bk := De.nx } σ H1 else De.nx σ H1 := fun n h => by
    refine ⟨fun m σ H => ∃ F env, Fr X.K L F0 H0 F H env σ ∧ SPost ca W X.K L F0 H0 (whileGo (fun env => (ev S true c env).bind toBool) (ex S fuel body) m env) De, ⟨n, h⟩, ?_⟩
    rintro m σ H ⟨F, env, fr, p⟩
    cases m with
    | zero => exact p.elim
    | succ m =>
      rw [whileGo] at p
      refine ⟨F, env, fr.ss, (toS_pg fr p).imp fun k p H1 s1 => ?_⟩
      cases k with
      | false => exact iteF (p _ _ _ (fr.grow s1))
      | true =>
        refine iteT ⟨fun σ' H' => ∃ F env, Fr X.K L F0 H0 F H' env σ' ∧ SPost ca W X.K L F0 H0 (whileGo (fun env => (ev S true c env).bind toBool) (ex S fuel body) m env) De, fun σ' H' q => ⟨m, Nat.lt_succ_self _, q⟩, F, env, fr.grow s1, ?_⟩
        exact SPost.turn same_refl p fun env2 p2 σ2 F2 H2 fr2 => ⟨F2, env2, fr2, p2⟩
  exact gen fuel ⟨F, env, fr, p⟩

/-! ### unpacking -/
theorem ss_unp (he : PE X ee (rd S ca W X.K false e)) (hg : L2.PG X etg (gOf X.K tg)) (hs : swapsWithSole [etg] ee pos.line X.env = pure false) (hw : swappedStores [etg] ee X.env = pure none) (h1 : (assignEach [etg] X.env).map (·.2) = [assign etg X.env]) :
    PS X (.Assign [etg] ee pos) (rdS S fuel ca W X.K L F0 H0 (.unp tg e)) := by
  refine (ps_asg he hg hs hw h1).imp fun De σ H ⟨F, env, fr, p⟩ => ?_
  rw [ex] at p
  refine ⟨F, env, fr.ss, (toS_pg fr p).imp fun d p v H' s r => ?_⟩
  cases eb : bindT tg d env with
  | ok env2 =>
    rw [eb] at p
    exact bindT_okP (P := Fr X.K L F0 H0 (Gr F H H') H') (fun _ _ _ _ _ h r => h.set r) (vs := tgVars tg) eb r (fr.growF s).ss.sub (fr.growF s) (fun _ h => h) fun σ2 fr2 _ => p _ _ _ fr2
  | exc n => exact (bindT_noexc eb).elim
  | bad => rw [eb] at p; exact p.elim

/-! ### x.append(e), x.extend(e) -/
def rExtendD (K : PySem.W.Frag) : V → List V → Hp → VK → Prop := fun x vs H Q => ∃ l b xs zs, x = .ref l ∧ vs = [.ref b] ∧ H l = some (.lst xs) ∧ SqL K H b zs ∧ xs.length + zs.length ≤ sizeLine ∧ Q .non (upd H l (.lst (xs ++ zs)))
theorem m_ext (l : Addr) (items : Array Value) (n : Nat) (b : Addr) (items2 : Array Value) (n2 : Nat) (sl2 : Array (Option Value)) (hc0 : ¬(!items.isEmpty && Builtin.List.listTooLong (items.size + items2.size)) = true) (hc1 : items.size ≤ sizeLine) (hs2 : items.size + items2.size ≤ sizeLine + 1) :
    Meets (Builtin.«list.extend» ⟨[.ref l, .ref b], []⟩) (fun _ R s => s.heap.get? l = some { cls := .type "list", dict := none, data := .seq items n, slots := #[] } ∧ LsAt s.heap b items2 n2 sl2 ∧ R (.ok (.ret Value.none)) { s with heap := s.heap.update l (Obj.mapSeq fun x => x ++ items2), toks := s.toks }) :=
  .of_wp fun prog w A R s h => by
    obtain ⟨hp, g, d, tk, os⟩ := s; obtain ⟨hl, hb, h⟩ := h
    unfold LsAt at hb
    have f1 := AutoSeq1.idx_int; have f2 := AutoSeq1.sub_tuple_tuple; have f3 := AutoSeq1.sub_list_list; have f4 := AutoSeq1.sub_tuple_list; have f5 := AutoSeq1.sub_list_tuple
    have hz' : (items ++ items2).size ≤ sizeLine + 1 := by rw [Array.size_append]; exact hs2
    wp_walk using (wpAny_updateSeq hl rfl (hz := hc1) (_hz' := hz')), AutoSeq1.wpAny_loadPart' hl, AutoSeq1.wpAny_loadPart' hb; exact ⟨_, rfl, h⟩
theorem mt_extendD : MtR X "list.extend" (rExtendD X.K) := by
  intro pins s σ H x vs v us Q I rx rv h
  obtain ⟨l, b, xs, zs, rfl, rfl, hH, hB, hz, q⟩ := h
  cases rx
  obtain ⟨u, rfl, ru⟩ := rv.one
  cases ru
  obtain ⟨z, its, n, r, hl, e⟩ := I.lstM hH
  obtain ⟨z2, its2, n2, sl2, r2, hl2, e2⟩ := Inv.sqM I hB
  have hsz : its.toArray.size + its2.toArray.size ≤ sizeLine := by rw [List.size_toArray, List.size_toArray]; omega
  have hlong : ¬ (!its.toArray.isEmpty && Builtin.List.listTooLong (its.toArray.size + its2.toArray.size)) = true := by
    rw [notLongL hsz, Bool.and_false]
    exact Bool.false_ne_true
  refine call_meets F.slot_list_extend ⟨_, e, rfl⟩ F.entry_list_extend (F.args_list_extend_2 _ _)
    (m_ext l its.toArray n b its2.toArray n2 sl2 hlong (by rw [List.size_toArray]; omega) (by omega)) ⟨e, e2, ?_⟩
  refine ⟨.non, _, I.lset (its' := its ++ its2) hH e (by simp) (r.append r2) ?_, rfl, q⟩
  rw [List.length_append]
  omega
theorem appO_inv {env : Env} {i : Nat} {ds : List D} {De : Ends} {K : PySem.W.Frag} (p : SPost ca W K L F0 H0 (appO env i ds) De) : ∃ xs, env[i]? = some (some (true, .list xs)) ∧ xs.length + ds.length ≤ lineN ∧ SPost ca W K L F0 H0 (.nx (env.set i (some (true, .list (xs ++ ds))))) De := by
  unfold appO at p
  split at p
  · rename_i xs h
    cases q : decide (xs.length + ds.length ≤ lineN) with
    | false => rw [q] at p; exact p.elim
    | true => rw [q] at p; exact ⟨xs, h, of_decide_eq_true q, p⟩
  · exact p.elim
theorem ownL_inv {env : Env} {i : Nat} {r : SR} {De : Ends} {K : PySem.W.Frag} (p : SPost ca W K L F0 H0 (chkS (ownL env i) r) De) : (∃ xs, env[i]? = some (some (true, .list xs))) ∧ SPost ca W K L F0 H0 r De := by
  unfold ownL at p
  split at p
  · rename_i xs h
    exact ⟨⟨xs, h⟩, p⟩
  · exact p.elim
theorem Fr.ownAt {K : PySem.W.Frag} {F H : Hp} {env : Env} {σ : L2.St} {i : Nat} {ds : List D} (h : Fr K L F0 H0 F H env σ) (e : env[i]? = some (some (true, .list ds))) : ∃ p vs, σ[i]? = some (some (.ref p)) ∧ H p = some (.lst vs) ∧ RpL K F vs ds := by
  obtain ⟨v, h1, h2⟩ := h.ss.slot i _ e
  match v, h2 with
  | some v, h2 =>
    obtain ⟨p, vs, rfl, f, h3, r⟩ := h2
    exact ⟨p, vs, h1, h3, r⟩
theorem pe_method {id : String} {r : V → List V → Hp → VK → Prop} {name : Str} {o : Expr} {to : TE} {t : TA} {apos cpos : Pos} (slot : Slot "list" name id) (hty : typeOf (.builtin id) = pure (.type "method_descriptor")) (hm : MtR X id r) (ho : PE X o to) (ha : PA X [ee] t)
    (hn : ∃ x p, o = .Name x p) (hst : notStar ee = true) (hl : (apos.endLine == cpos.line) = true) : PE X (.Call (.Attribute o name apos) [ee] [] cpos) (tBM X.K "list" r to t) := by
  obtain ⟨x, p, rfl⟩ := hn
  exact pe_bm PySem.F.plainAttrs_list slot hty hm ho ha rfl (by rw [star_cons hst]; rfl) hl (star_cons hst) rfl
theorem ss_app {i : Nat} {x : Str} {p1 p2 apos cpos : Pos} (hv : PE X (.Name x p1) (tVar i)) (he : PE X ee (rd S ca W X.K false e)) (hst : notStar ee = true) (hl : (apos.endLine == cpos.line) = true) :
    PS X (.Expr (.Call (.Attribute (.Name x p1) "append" apos) [ee] [] cpos) pos) (rdS S fuel ca W X.K L F0 H0 (.app i e)) := by
  refine (ps_expr (pe_method PySem.F.slot_list_append PySem.F.type_list_append mt_append hv (pa_cons he pa_nil (star_cons hst)) ⟨_, _, rfl⟩ hst hl) rfl).imp fun De σ H ⟨F, env, fr, p⟩ => ?_
  rw [ex] at p
  obtain ⟨⟨xs0, e0⟩, p⟩ := ownL_inv p
  have p := toS_pg fr p
  cases q : ev S false e env with
  | bad => rw [q] at p; exact p.elim
  | exc n =>
    rw [q] at p
    obtain ⟨l, vs, h1, h2, r⟩ := Fr.ownAt fr e0
    exact ⟨_, h1, .inl ⟨rfl, _, .inl (.inl h2)⟩, F, env, fr.ss, by rw [q]; exact p⟩
  | ok d =>
    rw [q] at p
    obtain ⟨xs, e1, hz, p⟩ := appO_inv p
    obtain ⟨l, vs, h1, h2, r⟩ := fr.ownAt e1
    refine ⟨_, h1, .inl ⟨rfl, _, .inl (.inl h2)⟩, F, env, fr.ss, ?_⟩
    rw [q]
    intro v H' s rv
    have fr' := fr.growF s
    refine ⟨l, vs, v, rfl, rfl, s _ _ h2, by rw [r.length, ← lineN_eq]; simp at hz; omega, p _ _ _ (fr'.write e1 h1 (s _ _ h2) (RpL.app (RpL.mono (gr_F fr.ss.sub) r) (.cons rv .nil)))⟩
theorem ss_ext {i : Nat} {x : Str} {p1 p2 apos cpos : Pos} (hv : PE X (.Name x p1) (tVar i)) (he : PE X ee (rd S ca W X.K false e)) (hst : notStar ee = true) (hl : (apos.endLine == cpos.line) = true) :
    PS X (.Expr (.Call (.Attribute (.Name x p1) "extend" apos) [ee] [] cpos) pos) (rdS S fuel ca W X.K L F0 H0 (.ext i e)) := by
  refine (ps_expr (pe_method PySem.F.slot_list_extend (by first | exact PySem.F.type_list_extend | kernel_rfl) mt_extendD hv (pa_cons he pa_nil (star_cons hst)) ⟨_, _, rfl⟩ hst hl) rfl).imp fun De σ H ⟨F, env, fr, p⟩ => ?_
  rw [ex] at p
  obtain ⟨⟨xs0, e0⟩, p⟩ := ownL_inv p
  have p := toS_pg fr p
  cases q : ev S false e env with
  | bad => rw [q] at p; exact p.elim
  | exc n =>
    rw [q] at p
    obtain ⟨l, vs, h1, h2, r⟩ := Fr.ownAt fr e0
    exact ⟨_, h1, .inl ⟨rfl, _, .inl (.inl h2)⟩, F, env, fr.ss, by rw [q]; exact p⟩
  | ok d =>
    rw [q] at p
    have p : SPost ca W X.K L F0 H0 ((unlist d).toS env fun ds => appO env i ds) De := p
    cases d with
    | list ds =>
      obtain ⟨xs, e1, hz, p⟩ := appO_inv p
      obtain ⟨l, vs, h1, h2, r⟩ := fr.ownAt e1
      refine ⟨_, h1, .inl ⟨rfl, _, .inl (.inl h2)⟩, F, env, fr.ss, ?_⟩
      rw [q]
      intro v H' s rv
      have fr' := fr.growF s
      have rv : Rp X.K (Gr F H H') v (.list ds) := rv
      cases rv with
      | lst hb rb =>
        exact ⟨l, _, vs, _, rfl, rfl, s _ _ h2, fr'.ss.sub.sqL hb, by rw [r.length, rb.length, ← lineN_eq]; exact hz, p _ _ _ (fr'.write e1 h1 (s _ _ h2) (RpL.app (RpL.mono (gr_F fr.ss.sub) r) rb))⟩
    | _ => exact p.elim

/-! ### raise X('..') -/
theorem ss_raise {x m : Str} {C : Addr} {bmB : List Value} {newId : String} {B initId : String} {j : Nat} {p p2 p3 : Pos} (FB : ExcBaseFacts B newId initId bmB) (q : PySem.W.excIn X.K C bmB newId = true) (gC : X.mg x = some (.ref C)) (kC : PySem.W.keepIn X.K (.ref C) = true) (r : Raises X (.ref C)) (hg : Gl X x)
    (hd : (x == ("__debug__" : Str)) = false) (hc : X.calm = true) (tk : Takes X W) (hca : ca x = some C) :
    PS X (.Raise (some (.Call (.Name x p) [.Constant (.str m) j p2] [] p3)) none pos) (rdS S fuel ca W X.K L F0 H0 (.raise x)) := by
  refine (ps_raise hc tk (pmk_own FB q gC kC r hg hd)).imp fun De σ H ⟨F, env, fr, p⟩ => ?_
  rw [ex] at p
  exact p σ F H C fr hca
end

/-! ### several values at once: they are laid beside the slots, then moved -/
section
variable {K : PySem.W.Frag} {L F0 H0 F H H' : Hp} {env tmp : Env} {σ us : L2.St}
theorem Fr.pre (h : Fr K L F0 H0 F H (env ++ tmp) (σ ++ us)) (hl : σ.length = env.length) : Fr K L F0 H0 F H env σ := by
  have e1 : ∀ {i : Nat} {b : Option (Bool × D)}, env[i]? = some b → (env ++ tmp)[i]? = some b := fun {i b} e => by
    rw [List.getElem?_append_left (List.getElem?_eq_some_iff.mp e).1]; exact e
  have e2 : ∀ {i : Nat} {b : Option V}, σ[i]? = some b → (σ ++ us)[i]? = some b := fun {i b} e => by
    rw [List.getElem?_append_left (List.getElem?_eq_some_iff.mp e).1]; exact e
  refine ⟨⟨h.ss.sub, hl, fun i b e => ?_, fun i j di dj a hij a1 a2 a3 a4 => h.ss.apart i j di dj a hij (e1 a1) (e1 a2) (e2 a3) (e2 a4)⟩, h.old, h.bnd, fun i d a a1 a2 => h.own i d a (e1 a1) (e2 a2), h.low⟩
  obtain ⟨v, h1, h2⟩ := h.ss.slot i b (e1 e)
  have hi : i < σ.length := by rw [hl]; exact (List.getElem?_eq_some_iff.mp e).1
  rw [List.getElem?_append_left hi] at h1
  exact ⟨v, h1, h2⟩
theorem set_end {α : Type} (l : List α) (a b : α) : (l ++ [a]).set l.length b = l ++ [b] := by
  rw [List.set_append_right _ _ (Nat.le_refl _), Nat.sub_self]; rfl
theorem Fr.room (h : Fr K L F0 H0 F H env σ) : Fr K L F0 H0 F H (env ++ [none]) (σ ++ [none]) := by
  have e1 : ∀ {i : Nat} {b : Option (Bool × D)}, (env ++ [none])[i]? = some b → (env[i]? = some b) ∨ (i = env.length ∧ b = none) := fun {i b} e => by
    by_cases hi : i < env.length
    · rw [List.getElem?_append_left hi] at e; exact .inl e
    · rw [List.getElem?_append_right (by omega)] at e
      by_cases h0 : i - env.length = 0
      · rw [h0] at e
        cases e
        exact .inr ⟨by omega, rfl⟩
      · rw [List.getElem?_eq_none (by simp; omega)] at e; cases e
  have e3 : ∀ {i : Nat} {d : D}, (env ++ [none])[i]? = some (some (true, d)) → env[i]? = some (some (true, d)) := fun {i d} e => (e1 e).resolve_right (fun z => by cases z.2)
  have e4 : ∀ {i : Nat} {d : D} {a : Addr}, env[i]? = some (some (true, d)) → (σ ++ [none])[i]? = some (some (.ref a)) → σ[i]? = some (some (.ref a)) := fun {i d a} e z => by
    have hi : i < σ.length := by rw [h.ss.len]; exact (List.getElem?_eq_some_iff.mp e).1
    rw [List.getElem?_append_left hi] at z; exact z
  refine ⟨⟨h.ss.sub, by rw [List.length_append, List.length_append, h.ss.len]; rfl, fun i b e => ?_, fun i j di dj a hij a1 a2 a3 a4 => h.ss.apart i j di dj a hij (e3 a1) (e3 a2) (e4 (e3 a1) a3) (e4 (e3 a2) a4)⟩, h.old, h.bnd, fun i d a a1 a2 => h.own i d a (e3 a1) (e4 (e3 a1) a2), h.low⟩
  rcases e1 e with e | ⟨rfl, rfl⟩
  · obtain ⟨v, h1, h2⟩ := h.ss.slot i b e
    exact ⟨v, by rw [List.getElem?_append_left (List.getElem?_eq_some_iff.mp h1).1]; exact h1, h2⟩
  · exact ⟨none, by rw [← h.ss.len, List.getElem?_append_right (Nat.le_refl _), Nat.sub_self]; rfl, trivial⟩
theorem Fr.push {d : D} {v : V} (h : Fr K L F0 H0 F H env σ) (r : Rp K F v d) : Fr K L F0 H0 F H (env ++ [some (false, d)]) (σ ++ [some v]) := by
  have q := h.room.set (i := env.length) r
  rw [set_end] at q
  rw [← h.ss.len, set_end] at q
  exact q
theorem Fr.pushN {ds : List D} {vs : List V} {p : Addr} (h : Fr K L F0 H0 F H env σ) (hp : H p = none) (r : RpL K F vs ds) : Fr K L F0 H0 F (upd H p (.lst vs)) (env ++ [some (true, .list ds)]) (σ ++ [some (.ref p)]) := by
  have q := h.room.setN (i := env.length) hp r
  rw [set_end] at q
  rw [← h.ss.len, set_end] at q
  exact q
/-- slot j moved to i -/
theorem Fr.move {i j : Nat} {b : Option (Bool × D)} {v : Option V} (h : Fr K L F0 H0 F H env σ) (hij : i ≠ j) (hi : i < env.length) (hb : env[j]? = some b) (hv : σ[j]? = some v) : Fr K L F0 H0 F H ((env.set i b).set j none) ((σ.set i v).set j none) := by
  have hj : j < env.length := (List.getElem?_eq_some_iff.mp hb).1
  have hjσ : j < σ.length := by rw [h.ss.len]; exact hj
  have hiσ : i < σ.length := by rw [h.ss.len]; exact hi
  have gE : ∀ k : Nat, ((env.set i b).set j none)[k]? = if k = j then some none else if k = i then some b else env[k]? := fun k => by
    by_cases h1 : k = j
    · subst h1; rw [if_pos rfl, List.getElem?_set_self (by rw [List.length_set]; exact hj)]
    · rw [if_neg h1, List.getElem?_set_ne (fun z => h1 z.symm)]
      by_cases h2 : k = i
      · subst h2; rw [if_pos rfl, List.getElem?_set_self hi]
      · rw [if_neg h2, List.getElem?_set_ne (fun z => h2 z.symm)]
  have gS : ∀ k : Nat, ((σ.set i v).set j none)[k]? = if k = j then some none else if k = i then some v else σ[k]? := fun k => by
    by_cases h1 : k = j
    · subst h1; rw [if_pos rfl, List.getElem?_set_self (by rw [List.length_set]; exact hjσ)]
    · rw [if_neg h1, List.getElem?_set_ne (fun z => h1 z.symm)]
      by_cases h2 : k = i
      · subst h2; rw [if_pos rfl, List.getElem?_set_self hiσ]
      · rw [if_neg h2, List.getElem?_set_ne (fun z => h2 z.symm)]
  -- where an own list comes from
  have src : ∀ {k : Nat} {d : D} {a : Addr}, ((env.set i b).set j none)[k]? = some (some (true, d)) → ((σ.set i v).set j none)[k]? = some (some (.ref a)) → k ≠ j ∧ env[if k = i then j else k]? = some (some (true, d)) ∧ σ[if k = i then j else k]? = some (some (.ref a)) := fun {k d a} a1 a2 => by
    rw [gE] at a1
    rw [gS] at a2
    by_cases h1 : k = j
    · rw [if_pos h1] at a1; cases a1
    · rw [if_neg h1] at a1 a2
      by_cases h2 : k = i
      · rw [if_pos h2] at a1 a2
        rw [if_pos h2]
        exact ⟨h1, by rw [hb]; exact a1, by rw [hv]; exact a2⟩
      · rw [if_neg h2] at a1 a2
        rw [if_neg h2]
        exact ⟨h1, a1, a2⟩
  refine ⟨⟨h.ss.sub, by simp only [List.length_set]; exact h.ss.len, fun k c e => ?_, fun k m dk dm a hkm a1 a2 a3 a4 => ?_⟩, h.old, h.bnd, fun k d a a1 a2 => ?_, h.low⟩
  · rw [gE] at e
    rw [gS]
    by_cases h1 : k = j
    · rw [if_pos h1] at e ⊢; cases e; exact ⟨none, rfl, trivial⟩
    · rw [if_neg h1] at e ⊢
      by_cases h2 : k = i
      · rw [if_pos h2] at e ⊢
        cases e
        obtain ⟨v', q1, q2⟩ := h.ss.slot j _ hb
        rw [hv] at q1; cases q1
        exact ⟨v, rfl, q2⟩
      · rw [if_neg h2] at e ⊢
        exact h.ss.slot k c e
  · obtain ⟨k1, k2, k3⟩ := src a1 a3
    obtain ⟨m1, m2, m3⟩ := src a2 a4
    refine h.ss.apart _ _ dk dm a ?_ k2 m2 k3 m3
    by_cases c1 : k = i <;> by_cases c2 : m = i
    · exact fun _ => hkm (c1.trans c2.symm)
    · rw [if_pos c1, if_neg c2]; exact fun z => m1 z.symm
    · rw [if_neg c1, if_pos c2]; exact k1
    · rw [if_neg c1, if_neg c2]; exact hkm
  · obtain ⟨k1, k2, k3⟩ := src a1 a2
    exact h.own _ d a k2 k3
theorem putPar_inv {tg : C} {ts env env' : Env} (e : Rf.putPar tg ts env = .ok env') : (tg = .nil ∧ ts = [] ∧ env' = env) ∨ ∃ i r t ts', tg = .cons (.var i) r ∧ ts = t :: ts' ∧ i < env.length ∧ Rf.putPar r ts' (env.set i t) = .ok env' := by
  unfold Rf.putPar at e
  split at e
  · cases e; exact .inl ⟨rfl, rfl, rfl⟩
  · obtain ⟨hi, e⟩ := chk_ok e
    exact .inr ⟨_, _, _, _, rfl, rfl, of_decide_eq_true hi, e⟩
  · cases e
/-- the values laid beside go to their names -/
theorem Fr.putPar : ∀ {ts : Env} {tg : C} {env env' tmp : Env} {σ : L2.St} {us : List (Option V)} {vs : List V}, Rf.putPar tg ts env = .ok env' → σ.length = env.length → us.length = tmp.length → vs.length = ts.length →
    Fr K L F0 H0 F H (env ++ (tmp ++ ts)) (σ ++ (us ++ vs.map some)) → ∃ σ' us' tmp', (∀ Q : L2.St → Hp → Prop, Q σ' H → gsOf tg vs σ H Q) ∧ σ'.length = env'.length ∧ Fr K L F0 H0 F H (env' ++ tmp') (σ' ++ us') ∧ ts.length = cLen tg := by
  intro ts
  induction ts with
  | nil =>
    intro tg env env' tmp σ us vs e hl h2 h3 h
    rcases putPar_inv e with ⟨rfl, _, rfl⟩ | ⟨_, _, _, _, _, z, _⟩
    · cases vs with
      | nil => exact ⟨σ, _, _, fun Q q => ⟨rfl, q⟩, hl, h, rfl⟩
      | cons _ _ => simp at h3
    · cases z
  | cons t ts ih =>
    intro tg env env' tmp σ us vs e hl h2 h3 h
    rcases putPar_inv e with ⟨_, z, _⟩ | ⟨i, r, _, _, rfl, z, hi, e⟩
    · cases z
    · cases z
      cases vs with
      | nil => simp at h3
      | cons v vs =>
        have at1 : (env ++ (tmp ++ t :: ts))[env.length + tmp.length]? = some t := by
          rw [List.getElem?_append_right (by omega), List.getElem?_append_right (by omega)]
          simp
        have at2 : (σ ++ (us ++ (v :: vs).map some))[env.length + tmp.length]? = some (some v) := by
          rw [List.getElem?_append_right (by omega), List.getElem?_append_right (by omega), hl, h2]
          simp
        have q := h.move (i := i) (j := env.length + tmp.length) (by omega) (by simp; omega) at1 at2
        have f1 : ((env ++ (tmp ++ t :: ts)).set i t).set (env.length + tmp.length) none = env.set i t ++ ((tmp ++ [none]) ++ ts) := by
          rw [List.set_append_left _ _ hi, List.set_append_right _ _ (by rw [List.length_set]; omega), List.length_set, Nat.add_sub_cancel_left, List.set_append_right _ _ (Nat.le_refl _), Nat.sub_self]
          simp
        have f2 : ((σ ++ (us ++ (v :: vs).map some)).set i (some v)).set (env.length + tmp.length) none = σ.set i (some v) ++ ((us ++ [none]) ++ vs.map some) := by
          rw [List.set_append_left _ _ (by rw [hl]; exact hi), List.set_append_right _ _ (by rw [List.length_set, hl]; omega), List.length_set, hl, Nat.add_sub_cancel_left, ← h2, List.set_append_right _ _ (Nat.le_refl _), Nat.sub_self]
          simp
        rw [f1, f2] at q
        obtain ⟨σ', us', tmp', g, l, fr, lc⟩ := ih e (by rw [List.length_set, List.length_set]; exact hl) (by rw [List.length_append, List.length_append, h2]; rfl) (by simpa using h3) q
        exact ⟨σ', us', tmp', fun Q q => ⟨v, vs, rfl, g Q q⟩, l, fr, by rw [List.length_cons, lc]; rfl⟩
end
end Rf

set_option Elab.async false
set_option linter.all false
set_option maxHeartbeats 1000000
/-! Rf, part S4: new lists' expressions; several targets at once; a name set to a comprehension's list. -/
namespace Rf
open PySem PySem.Spec PyProof.Rows L2

section
variable {S : Sig} {fuel : Nat} {ca : ExA} {W : WX} {X : Cx} {L F0 H0 : Hp} {a b c e tg it cond elt : C} {ea eb ee : Expr} {es : List Expr} {pos : Pos}
/-! ### new lists -/
theorem sn_lst (h : PA X es (rdA S ca W X.K false a)) : PE X (.List es pos) (rdN S ca W X.K (.lst a)) := by
  refine (pe_lst h).imp fun σ H Q ⟨F, env, s, p⟩ => ?_
  rw [ev] at p
  refine ⟨F, env, s, p.of_bind.imp fun ds p vs H1 s1 rs => ?_⟩
  have rs : RpL X.K (Gr F H H1) vs ds := rs
  cases q : decide (ds.length ≤ lineN) with
  | false => rw [q] at p; exact p.elim
  | true =>
    rw [q] at p
    simp only [decide_eq_true_eq, lineN_eq] at q
    obtain ⟨_, e, wn⟩ : ∃ ds', PyData.list ds = .list ds' ∧ WN X.K F H Q ds' := p
    cases e
    exact ⟨by rw [rs.length]; exact q, fun l hl => wn vs H1 l s1 hl rs⟩
theorem rd_two2 {g : D → D → R D} {r : R2} {σ : L2.St} {H : Hp} {k : D → Prop} {Q : VK} {F : Hp} {env : Env} (ne : ∀ d e n, g d e ≠ .exc n) (s : Ss X.K F H env σ)
    (p : PG ca W H σ ((ev S true a env).bind fun x => (ev S true b env).bind fun y => g x y) k)
    (hr : ∀ x y d e z H', Same H H' → Same (Gr F H H') H' → RpT X.K (Gr F H H') H' x d → RpT X.K (Gr F H H') H' y e → g d e = .ok z → k z → r x y H' Q) : tOp r (rd S ca W X.K true a) (rd S ca W X.K true b) σ H Q := by
  refine ⟨F, env, s, p.of_bind.imp fun d p x H1 s1 rx => ⟨F, env, s.grow s1, p.of_bind.go s1 fun e p y H2 s2 ry => ?_⟩⟩
  have s12 := s1.trans s2
  cases q : g d e with
  | ok z =>
    rw [q] at p
    exact hr x y d e z H2 s12 (gr_sub s.sub s12) (RpT.mono rx (gr_left s2) s2) (RpT.mono ry (gr_right s.sub s1 s2) (fun _ _ z => z)) q p
  | exc n => exact (ne d e n q).elim
  | bad => rw [q] at p; exact p.elim
theorem sn_add (ha : PE X ea (rd S ca W X.K true a)) (hb : PE X eb (rd S ca W X.K true b)) : PE X (.BinOp ea (bopS .add) eb pos) (rdN S ca W X.K (.bin .add a b)) := by
  refine (pe_op op_catD ha hb).imp fun σ H Q ⟨F, env, s, p⟩ => ?_
  rw [ev] at p
  refine rd_two2 (fun _ _ _ => binD_noexc (o := .add)) s p fun x y d e z H' s1 _ rx ry g k => ?_
  obtain ⟨ds, rfl, wn⟩ := k
  have g : addD d e = .ok (.list ds) := g
  cases d <;> cases e <;> try (cases g; done)
  case str.str => exact nomatch (chk_ok g).2
  case tuple.tuple => exact nomatch (chk_ok g).2
  case list.list xs ys _ =>
    obtain ⟨h1, h2⟩ := chk_ok g
    cases h2
    simp only [decide_eq_true_eq, lineN_eq] at h1
    obtain ⟨l, vs, rfl, hl, rl⟩ := rx
    obtain ⟨m, us, rfl, hm, rm⟩ := ry
    exact ⟨l, m, vs, us, rfl, rfl, hl, hm, by rw [rl.length, rm.length]; exact h1, fun p hp => wn _ H' p s1 hp (RpL.app rl rm)⟩
theorem sn_mul (ha : PE X ea (rd S ca W X.K true a)) (hb : PE X eb (rd S ca W X.K true b)) : PE X (.BinOp ea (bopS .mul) eb pos) (rdN S ca W X.K (.bin .mul a b)) := by
  refine (pe_op op_repD ha hb).imp fun σ H Q ⟨F, env, s, p⟩ => ?_
  rw [ev] at p
  refine rd_two2 (fun _ _ _ => binD_noexc (o := .mul)) s p fun x y d e z H' s1 _ rx ry g k => ?_
  obtain ⟨ds, rfl, wn⟩ := k
  have g : mulD d e = .ok (.list ds) := g
  cases d <;> cases e <;> try (cases g; done)
  case int.int => exact nomatch (chk_ok g).2
  case list.int xs kk _ =>
    obtain ⟨h1, h2⟩ := chk_ok g
    cases h2
    simp only [Bool.and_eq_true, decide_eq_true_eq, lineN_eq] at h1
    obtain ⟨l, vs, rfl, hl, rl⟩ := rx
    cases (show y = .int kk from ry)
    exact ⟨l, kk, vs, rfl, rfl, hl, h1.1.1, h1.1.2, by rw [rl.length]; exact h1.2, fun p hp => wn _ H' p s1 hp (RpL.rep _ rl)⟩

/-! ### several values, laid beside the slots -/
def rdP (S : Sig) (ca : ExA) (W : WX) (K : PySem.W.Frag) (L F0 H0 : Hp) (c : C) (own : List Bool) : TA := fun σ H Q => ∃ F env tmp us, Fr K L F0 H0 F H (env ++ tmp) (σ ++ us) ∧ σ.length = env.length ∧ us.length = tmp.length ∧
  PG ca W H σ (evPar S c own env) fun ts => ∀ (vs : List V) H' F', vs.length = ts.length → Fr K L F0 H0 F' H' (env ++ (tmp ++ ts)) (σ ++ (us ++ vs.map some)) → Q vs H'
theorem sp_nil : PA X [] (rdP S ca W X.K L F0 H0 .nil []) := by
  refine pa_nil.imp fun σ H Q ⟨F, env, tmp, us, fr, l1, l2, p⟩ => ?_
  rw [evPar] at p
  exact p [] H F rfl (by simpa using fr)
theorem sp_cons {os : List Bool} (ha : PE X ea (rd S ca W X.K false a)) (hr : PA X es (rdP S ca W X.K L F0 H0 b os)) (hs : notStar ea = true) : PA X (ea :: es) (rdP S ca W X.K L F0 H0 (.cons a b) (false :: os)) := by
  refine (pa_cons ha hr (star_cons hs)).imp fun σ H Q ⟨F, env, tmp, us, fr, l1, l2, p⟩ => ?_
  rw [evPar] at p
  refine ⟨F, env, (fr.pre l1).ss, p.of_bind.imp fun d p v H1 s1 rv => ?_⟩
  have fr1 := (fr.growF s1).push rv
  rw [List.append_assoc, List.append_assoc] at fr1
  refine ⟨_, env, _, _, fr1, l1, by simp [l2], p.of_bind.go s1 fun ts p vs H' F' hl fr2 => ?_⟩
  exact p (v :: vs) H' F' (by simp [hl]) (by simpa using fr2)
theorem sp_consN {os : List Bool} (ha : PE X ea (rdN S ca W X.K a)) (hr : PA X es (rdP S ca W X.K L F0 H0 b os)) (hs : notStar ea = true) : PA X (ea :: es) (rdP S ca W X.K L F0 H0 (.cons a b) (true :: os)) := by
  refine (pa_cons ha hr (star_cons hs)).imp fun σ H Q ⟨F, env, tmp, us, fr, l1, l2, p⟩ => ?_
  rw [evPar] at p
  refine ⟨F, env, (fr.pre l1).ss, p.of_bind.imp fun d p => ?_⟩
  cases d with
  | list ds =>
    refine ⟨ds, rfl, fun vs H1 q s1 hq rv => ?_⟩
    have fr1 := (fr.growF s1).pushN hq rv
    rw [List.append_assoc, List.append_assoc] at fr1
    have s2 : Same H (upd H1 q (.lst vs)) := s1.trans (same_upd hq)
    have p : PG ca W H σ (evPar S b os env) (fun ts => PG ca W H σ (R.ok (some (true, PyData.list ds) :: ts)) _) := (PG.of_bind (r := evPar S b os env) p.of_bind)
    refine ⟨_, env, _, _, fr1, l1, by simp [l2], p.go s2 fun ts p vs' H' F' hl fr2 => ?_⟩
    have p : ∀ (vs : List V) H' F', vs.length = (some (true, PyData.list ds) :: ts).length → Fr X.K L F0 H0 F' H' (env ++ (tmp ++ (some (true, PyData.list ds) :: ts))) (σ ++ (us ++ vs.map some)) → Q vs H' := p
    exact p (.ref q :: vs') H' F' (by simp [hl]) (by simpa using fr2)
  | _ => exact (p.of_bind).elim
/-- from the frame: the targets take their values -/
theorem par_go {own : List Bool} {De : Ends} {σ : L2.St} {H : Hp} {Q : List V → Hp → Prop} (h : rdS S fuel ca W X.K L F0 H0 (.par tg own e) De σ H)
    (hq : ∀ vs H', vs.length = cLen tg → gsOf tg vs σ H' De.nx → (∀ p o, H' p = none → gsOf tg vs σ (upd H' p o) De.nx) → Q vs H') : rdP S ca W X.K L F0 H0 e own σ H Q := by
  obtain ⟨F, env, fr, p⟩ := h
  rw [ex] at p
  refine ⟨F, env, [], [], by simpa using fr, fr.ss.len, rfl, (toS_pg fr p).imp fun ts p vs H' F' hl fr2 => ?_⟩
  cases q : putPar tg ts env with
  | ok env' =>
    rw [q] at p
    obtain ⟨σ', us', tmp', g, l, fr3, lc⟩ := Fr.putPar (tmp := []) (us := []) q fr.ss.len rfl hl fr2
    refine hq vs H' (by rw [hl, lc]) (g _ (p _ _ _ (fr3.pre l))) fun a o ha => ?_
    obtain ⟨σ2, us2, tmp2, g2, l2, fr4, _⟩ := Fr.putPar (tmp := []) (us := []) q fr.ss.len rfl hl (fr2.grow (same_upd (o := o) ha))
    exact g2 _ (p _ _ _ (fr4.pre l2))
  | exc n => rw [q] at p; exact (putPar_noexc q).elim
  | bad => rw [q] at p; exact p.elim
where
  putPar_noexc {n : Str} : ∀ {ts : Env} {tg : C} {env : Env}, putPar tg ts env ≠ .exc n := by
    intro ts tg env z
    induction ts generalizing tg env with
    | nil =>
      unfold putPar at z
      split at z <;> first
        | cases z; done
        | (rename_i q; cases q; done)
        | (rename_i q _; cases q; done)
    | cons t ts ih =>
      match tg, z with
      | .cons (.var i) r, z =>
        have z : R.chk (decide (i < env.length)) (putPar r ts (env.set i t)) = .exc n := z
        exact chk_noexc ih z
      | .nil, z => exact nomatch z
theorem ss_par2 {own : List Bool} {i j : Nat} {x y : Str} {px py pt : Pos} {kt k2 pt2} (hc : X.calm = true) (hN : X.N.Nodup) (hi : X.N[i]? = some x) (hj : X.N[j]? = some y) (hij : i ≠ j)
    (hx : X.env.scope.names.lookup x = some .local) (hy : X.env.scope.names.lookup y = some .local) (ha : PA X [ea, eb] (rdP S ca W X.K L F0 H0 e own))
    (hw : swappedStores [.Tuple [.Name x px, .Name y py] kt pt] (.Tuple [ea, eb] k2 pt2) X.env = pure (some [x, y])) :
    PS X (.Assign [.Tuple [.Name x px, .Name y py] kt pt] (.Tuple [ea, eb] k2 pt2) pos) (rdS S fuel ca W X.K L F0 H0 (.par (.cons (.var i) (.cons (.var j) .nil)) own e)) :=
  (ps_par hc hN hi hj hij hx hy ha hw rfl).imp fun De σ H h => par_go h fun vs H' _ g _ => by
    obtain ⟨v, r, rfl, w, r', rfl, rfl, q⟩ := g
    exact ⟨v, w, rfl, q⟩
theorem ss_par3 {own : List Bool} {i j l : Nat} {x y z : Str} {ec : Expr} {px py pz pt : Pos} {kt k2 pt2} (hc : X.calm = true) (hN : X.N.Nodup) (hi : X.N[i]? = some x) (hj : X.N[j]? = some y) (hl : X.N[l]? = some z) (hij : i ≠ j) (hil : i ≠ l) (hjl : j ≠ l)
    (hx : X.env.scope.names.lookup x = some .local) (hy : X.env.scope.names.lookup y = some .local) (hz : X.env.scope.names.lookup z = some .local) (ha : PA X [ea, eb, ec] (rdP S ca W X.K L F0 H0 e own))
    (hw : swappedStores [.Tuple [.Name x px, .Name y py, .Name z pz] kt pt] (.Tuple [ea, eb, ec] k2 pt2) X.env = pure (some [x, y, z])) :
    PS X (.Assign [.Tuple [.Name x px, .Name y py, .Name z pz] kt pt] (.Tuple [ea, eb, ec] k2 pt2) pos) (rdS S fuel ca W X.K L F0 H0 (.par (.cons (.var i) (.cons (.var j) (.cons (.var l) .nil))) own e)) :=
  (ps_par3 hc hN hi hj hl hij hil hjl hx hy hz ha hw rfl).imp fun De σ H h => par_go h fun vs H' _ g _ => by
    obtain ⟨v, r, rfl, w, r', rfl, u, r2, rfl, rfl, q⟩ := g
    exact ⟨v, w, u, rfl, q⟩
theorem ss_parN {own : List Bool} {ts : List Expr} {kt k2 : Nat} {pt pt2 : Pos} (hc : X.calm = true) (hg : PGs X ts (gsOf tg)) (hn : ts.length = cLen tg) (hst : ts.all notStar = true) (hz : cLen tg ≤ 1000) (ha : PA X es (rdP S ca W X.K L F0 H0 e own))
    (hw : swappedStores [.Tuple ts kt pt] (.Tuple es k2 pt2) X.env = pure none) :
    PS X (.Assign [.Tuple ts kt pt] (.Tuple es k2 pt2) pos) (rdS S fuel ca W X.K L F0 H0 (.par tg own e)) := by
  have st : ∀ {ts : List Expr}, ts.all notStar = true → (assignEach ts X.env).length = ts.length ∧ (assignEach ts X.env).findIdx? (·.1) = none := fun {ts} => by
    induction ts with
    | nil => exact fun _ => ⟨rfl, rfl⟩
    | cons t ts ih =>
      intro h
      rw [List.all_cons, Bool.and_eq_true] at h
      obtain ⟨i1, i2⟩ := ih h.2
      have e : assignEach (t :: ts) X.env = (false, assign t X.env) :: assignEach ts X.env := by
        cases t <;> first
          | rfl
          | exact nomatch h.1
      rw [e]
      exact ⟨by simp [i1], by rw [List.findIdx?_cons]; simp [i2]⟩
  refine (ps_asg (pe_tup ha) (pg_tup (n := cLen tg) hc hg (by rw [(st hst).1]; exact hn) (st hst).2) rfl hw rfl).imp fun De σ H h => ?_
  refine par_go h fun vs H' hl _ g => ⟨?_, fun l hl' => ⟨l, vs, rfl, .inl (.inl upd_same), hl, g l _ hl'⟩⟩
  rw [hl]
  exact Nat.le_trans hz (by decide)

/-! ### name = [.. for ..] where the stores are exchanged -/
theorem ss_setLc {i : Nat} {y : Str} {py : Pos} {eelt etg eit : Expr} {ifs : List Expr} {scope : Scope} {sown : List (Str × Nat)} {spos : Pos} (hc : X.calm = true) (hN : X.N.Nodup) (hy : X.N[i]? = some y) (hyl : X.env.scope.names.lookup y = some .local)
    (hsw : swapsWith (.ListComp eelt [⟨etg, eit, ifs, 0⟩] scope pos) (some (.Name y py)) spos.line X.env = pure true) (hi : PI X etg eit (rdI S ca W X.K it)) (ok : BlkOk X.N X.env.scope scope sown) (hw : tgVars tg = sown.map (·.2))
    (hg : ∀ (s : Shared) (H : Hp) (C : Addr) (cl : List (Str × Addr)) (fp : List Addr), L2.PG (X.blk s H scope (compEnvC scope cl C X.env) fp) etg (gOf X.K tg))
    (ht : ∀ (s : Shared) (H : Hp) (C : Addr) (cl : List (Str × Addr)) (fp : List Addr), PTs (X.blk s H scope (compEnvC scope cl C X.env) fp) ifs (rdC S ca W0 X.K cond))
    (he : ∀ (s : Shared) (H : Hp) (C : Addr) (cl : List (Str × Addr)) (fp : List Addr), PE (X.blk s H scope (compEnvC scope cl C X.env) fp) eelt (rd S ca W0 X.K false elt)) (hs : ∀ x, foldedSetIterable eit X.env x = pure x) (own : Bool) :
    PS X (.Assign [.Name y py] (.ListComp eelt [⟨etg, eit, ifs, 0⟩] scope pos) spos) (rdS S fuel ca W X.K L F0 H0 (.asg i own (.lc tg it cond elt))) :=
  (ps_setLc hc hN hy hyl hsw hi ok hg ht he hs).imp fun De σ H h => by
    refine rd_lcN (W := W) hw ?_
    cases own with
    | true => exact rd_asgN h
    | false => exact rd_n (t := false) (fun t env d e => lc_isL e) (fun env => rfl) (rd_asg h)
end
end Rf

set_option Elab.async false
set_option linter.all false
set_option maxHeartbeats 2000000
/-! Rf, part V: try: .. except X as e: flags of isinstance, the place of the first True is returned. -/
namespace Rf
open PySem PySem.Spec PyProof.Rows L2

/-! ### the text of such a clause -/
def isEOk (n : Str) : List Str → List Expr → Bool
  | [], [] => true
  | f :: fs, .Call (.Name i _) [.Name m _, .Name y _] [] _ :: es => decide (i = "isinstance") && decide (m = n) && decide (y = f) && isEOk n fs es
  | _, _ => false
def idxOk (o : Expr → Bool) : Stmt → Bool
  | .Return (some (.Call (.Attribute r m apos) [.Constant (.bool b) _ _] [] cpos)) _ => decide (m = "index") && b && (apos.endLine == cpos.line) && o r
  | _ => false
def addOk (n fl : Str) (g : List Str) : Expr → Bool
  | .BinOp (.Name x _) .Add (.List es _) _ => decide (x = fl) && isEOk n g es
  | _ => false
def asgOk (fl : Str) (ok : Expr → Bool) : Stmt → Bool
  | .Assign [.Name x _] e _ => decide (x = fl) && ok e
  | _ => false
def restOk (n fl : Str) : List (List Str) → List Stmt → Bool
  | [g], [st] => idxOk (addOk n fl g) st
  | g :: g2 :: gs, st :: ss => asgOk fl (addOk n fl g) st && restOk n fl (g2 :: gs) ss
  | _, _ => false
def lstOk (n : Str) (g : List Str) : Expr → Bool
  | .List es _ => isEOk n g es
  | _ => false
def suiteOk (n fl : Str) : List (List Str) → List Stmt → Bool
  | [g], [st] => idxOk (lstOk n g) st
  | g :: g2 :: gs, st :: ss => asgOk fl (lstOk n g) st && restOk n fl (g2 :: gs) ss
  | _, _ => false

section
variable {Y : Cx} {a D : Addr} {ei fi : Nat} {n fl : Str} {sub : Str → Bool}
/-- what the suite's context knows -/
structure Hd (Y : Cx) (a D : Addr) (ei fi : Nat) (n fl : Str) (sub : Str → Bool) (fs : List Str) : Prop where
  is : CallR Y (.builtin "isinstance") (rIsE Y.K D a)
  gi : Gl Y "isinstance"
  mi : Y.mg "isinstance" = none
  ne : Y.N[ei]? = some n
  ve : Vis Y.env.scope n ∧ (n == ("__debug__" : Str)) = false ∧ (n == ("__classdict__" : Str)) = false
  fs : ∀ f ∈ fs, Gl Y f ∧ (f == ("__debug__" : Str)) = false ∧ ∃ C, Y.mg f = some (.ref C) ∧ PySem.W.kitOne Y.K (.ref D) (.ref C) = some (sub f)
  nd : Y.N.Nodup
  nf : Y.N[fi]? = some fl
  lf : Y.env.scope.names.lookup fl = some .local
  vf : (fl == ("__debug__" : Str)) = false ∧ (fl == ("__classdict__" : Str)) = false
  ef : ei ≠ fi
def tFs (sub : Str → Bool) (ei : Nat) (a : Addr) (g : List Str) : TA := fun σ H Q => σ[ei]? = some (some (.ref a)) ∧ Q (g.map fun f => V.bl (sub f)) H
theorem h_one {f : Str} {p p1 p2 pos : Pos} {fs : List Str} (h : Hd Y a D ei fi n fl sub fs) (hf : f ∈ fs) : PE Y (.Call (.Name "isinstance" p) [.Name n p1, .Name f p2] [] pos) (fun σ H Q => σ[ei]? = some (some (.ref a)) ∧ Q (.bl (sub f)) H) := by
  obtain ⟨g1, g2, C, g3, g4⟩ := h.fs f hf
  refine L2.PE.imp (t := tCB (rIsE Y.K D a) (tCons (tVar ei) (tCons (tC (.ref C)) tNil))) (pe_callB h.is h.gi h.mi (by decide +kernel) (pa_cons (pe_var h.ne h.ve.1 h.ve.2.1 h.ve.2.2) (pa_cons (pe_glob g1 g3 rfl g2) pa_nil rfl) rfl) (by decide) (by decide) rfl rfl) fun σ H Q ⟨h1, h2⟩ => ?_
  exact ⟨.ref a, h1, .ref C, .ref C, sub f, rfl, fun u r => r, g4, h2⟩
theorem h_list {fs : List Str} (h : Hd Y a D ei fi n fl sub fs) : ∀ {g : List Str} {es : List Expr}, isEOk n g es = true → (∀ f ∈ g, f ∈ fs) → PA Y es (tFs sub ei a g)
  | [], [], _, _ => pa_nil.imp fun σ H Q ⟨_, q⟩ => q
  | f :: g, .Call (.Name i p) [.Name m p1, .Name y p2] [] pos :: es, o, hs => by
    have o : (decide (i = "isinstance") && decide (m = n) && decide (y = f) && isEOk n g es) = true := o
    simp only [Bool.and_eq_true, decide_eq_true_eq] at o
    obtain ⟨⟨⟨e1, e2⟩, e3⟩, o⟩ := o
    rw [e1, e2, e3]
    exact (pa_cons (h_one h (hs _ (List.mem_cons_self ..))) (h_list h o fun f hf => hs f (List.mem_cons_of_mem _ hf)) rfl).imp fun σ H Q ⟨h1, h2⟩ => ⟨h1, h1, h2⟩
/-- a list of these flags, new -/
def tFl (sub : Str → Bool) (ei : Nat) (a : Addr) (g : List Str) : TE := fun σ H Q => σ[ei]? = some (some (.ref a)) ∧ ∀ p, H p = none → Q (.ref p) (upd H p (.lst (g.map fun f => V.bl (sub f))))
theorem h_lst {fs : List Str} {g : List Str} {e : Expr} (h : Hd Y a D ei fi n fl sub fs) (o : lstOk n g e = true) (hs : ∀ f ∈ g, f ∈ fs) (hz : g.length ≤ 1000) : PE Y e (tFl sub ei a g) := by
  unfold lstOk at o
  split at o
  · exact (pe_lst (h_list h o hs)).imp fun σ H Q ⟨h1, h2⟩ => ⟨h1, by rw [List.length_map]; exact Nat.le_trans hz (by decide), h2⟩
  · cases o
/-- fl + a list of flags -/
def tAd (sub : Str → Bool) (ei fi : Nat) (a : Addr) (acc : List Bool) (g : List Str) : TE := fun σ H Q => σ[ei]? = some (some (.ref a)) ∧ (∃ p, σ[fi]? = some (some (.ref p)) ∧ H p = some (.lst (acc.map V.bl))) ∧ ∀ p H', Same H H' → H' p = none → Q (.ref p) (upd H' p (.lst ((acc ++ g.map sub).map V.bl)))
theorem h_add {fs : List Str} {g : List Str} {e : Expr} {acc : List Bool} (h : Hd Y a D ei fi n fl sub fs) (o : addOk n fl g e = true) (hs : ∀ f ∈ g, f ∈ fs) (hz : acc.length + g.length ≤ 1000) : PE Y e (tAd sub ei fi a acc g) := by
  unfold addOk at o
  split at o
  · rename_i x px es p0 pos
    simp only [Bool.and_eq_true, decide_eq_true_eq] at o
    obtain ⟨rfl, o⟩ := o
    refine (pe_op op_catD (pe_var h.nf (.inl h.lf) h.vf.1 h.vf.2) (pe_lst (h_list h o hs))).imp fun σ H Q ⟨h1, ⟨p, h2, h3⟩, h4⟩ => ?_
    refine ⟨.ref p, h2, h1, by rw [List.length_map]; exact Nat.le_trans (by omega : g.length ≤ 1000) (by decide), fun q hq => ?_⟩
    refine ⟨p, q, _, _, rfl, rfl, .of ((same_upd hq) _ _ h3), .of upd_same, by rw [List.length_map, List.length_map]; exact Nat.le_trans hz (by decide), fun r hr => ?_⟩
    have e : acc.map V.bl ++ g.map (fun f => V.bl (sub f)) = (acc ++ g.map sub).map V.bl := by rw [List.map_append, List.map_map]; rfl
    rw [e]
    exact h4 r _ (same_upd hq) hr
  · cases o
theorem first_at : ∀ {bs : List Bool} {d : PyData}, firstTrue bs = .ok d → ∃ j : Nat, d = .int j ∧ bs[j]? = some true ∧ ∀ m, m < j → bs[m]? = some false
  | [], _, e => nomatch e
  | true :: _, _, e => by cases e; exact ⟨0, rfl, rfl, fun m hm => absurd hm (by omega)⟩
  | false :: r, d, e => by
    obtain ⟨x, e1, e2⟩ := bind_ok (show (firstTrue r).bind _ = .ok d from e)
    obtain ⟨j, rfl, h1, h2⟩ := first_at e1
    cases e2
    refine ⟨j + 1, rfl, h1, fun m hm => ?_⟩
    cases m with
    | zero => rfl
    | succ m => exact h2 m (by omega)
/-- .. .index(True) returned -/
def tIdx (K : PySem.W.Frag) (De : Ends) (σ : L2.St) (x : V) (H1 : Hp) : Prop := tyV K "list" x H1 ∧ tCons (tC (.bl true)) tNil σ H1 fun xs H2 => rIndex K x xs H2 De.rt
theorem idx_post {K : PySem.W.Frag} {De : Ends} {σ : L2.St} {l : Addr} {H1 : Hp} {bs : List Bool} {d : PyData} (h1 : H1 l = some (.lst (bs.map V.bl))) (h2 : firstTrue bs = .ok d) (h3 : ∀ j : Nat, d = .int j → De.rt (.int j) H1) : tIdx K De σ (.ref l) H1 := by
  obtain ⟨j, rfl, f1, f2⟩ := first_at h2
  refine ⟨.inl ⟨rfl, _, .inl (.inl h1)⟩, ?_⟩
  refine ⟨l, bs.map V.bl, .bl true, j, .bl true, rfl, rfl, .of h1, rfl, ?_, ?_, rfl, fun m z hm hz => ?_, h3 j rfl⟩
  · rw [List.all_map]; exact List.all_eq_true.mpr fun _ _ => rfl
  · rw [List.getElem?_map, f1]; rfl
  · rw [List.getElem?_map, f2 m hm] at hz
    cases hz
    rfl
theorem h_idx {o : Expr → Bool} {st : Stmt} {te : TE} (ok : idxOk o st = true) (he : ∀ e, o e = true → PE Y e te) (hb : ∀ e, o e = true → attributeBase e "index" Y.env (eval e Y.env) = eval e Y.env) :
    PS Y st (fun De σ H => te σ H fun x H1 => tIdx Y.K De σ x H1) := by
  unfold idxOk at ok
  split at ok
  · rename_i r m apos b k p1 cpos pos
    simp only [Bool.and_eq_true, decide_eq_true_eq] at ok
    obtain ⟨⟨⟨rfl, rfl⟩, hl⟩, hr⟩ := ok
    exact ps_ret (pe_bm PySem.F.plainAttrs_list PySem.F.slot_list_index (by first | exact PySem.F.type_list_index | kernel_rfl) mt_index (he r hr) (pa_cons pe_bl pa_nil rfl) (hb r hr) rfl hl rfl rfl)
  · cases ok
/-- the clause's end: the place is returned -/
def Fin (De : Ends) (H : Hp) (bs : List Bool) : Prop := ∃ d, firstTrue bs = .ok d ∧ ∀ (j : Nat) H', d = .int j → Same H H' → De.rt (.int j) H'
theorem Fin.go {De : Ends} {H H' : Hp} {bs : List Bool} (h : Fin De H bs) (s : Same H H') : Fin De H' bs := let ⟨d, h1, h2⟩ := h; ⟨d, h1, fun j H2 e s2 => h2 j H2 e (s.trans s2)⟩
def tRest (sub : Str → Bool) (ei fi : Nat) (a : Addr) (acc : List Bool) (gs : List (List Str)) : TS := fun De σ H => σ[ei]? = some (some (.ref a)) ∧ fi < σ.length ∧ (∃ p, σ[fi]? = some (some (.ref p)) ∧ H p = some (.lst (acc.map V.bl))) ∧ Fin De H (acc ++ gs.flatten.map sub)
theorem h_asg {ok : Expr → Bool} {st : Stmt} {te : TE} {fs : List Str} (h : Hd Y a D ei fi n fl sub fs) (o : asgOk fl ok st = true) (he : ∀ e, ok e = true → PE Y e te) (hs : ∀ e t l, ok e = true → swapsWith e t l Y.env = pure false) : PS Y st (tAsg te (gName fi)) := by
  unfold asgOk at o
  split at o
  · obtain ⟨o1, o2⟩ := (Bool.and_eq_true _ _).mp o
    have o1 := of_decide_eq_true o1
    subst o1
    exact ps_set h.nd h.nf (.inl h.lf) (he _ o2) (hs _ _ _ o2) (.inr h.lf)
  · cases o
theorem add_sw {g : List Str} {env : PySem.Env} (e : Expr) (t : Option Expr) (l : Nat) (o : addOk n fl g e = true) : swapsWith e t l env = pure false ∧ attributeBase e "index" env (eval e env) = eval e env := by
  unfold addOk at o
  split at o
  · exact ⟨rfl, rfl⟩
  · cases o
theorem lst_sw {g : List Str} {env : PySem.Env} (e : Expr) (t : Option Expr) (l : Nat) (o : lstOk n g e = true) : swapsWith e t l env = pure false ∧ attributeBase e "index" env (eval e env) = eval e env := by
  unfold lstOk at o
  split at o
  · exact ⟨rfl, rfl⟩
  · cases o
theorem h_rest {fs : List Str} (h : Hd Y a D ei fi n fl sub fs) : ∀ (gs : List (List Str)) {ss : List Stmt} {acc : List Bool}, restOk n fl gs ss = true → (∀ f ∈ gs.flatten, f ∈ fs) → acc.length + gs.flatten.length ≤ 1000 → PSs Y ss (tRest sub ei fi a acc gs) := by
  intro gs
  induction gs with
  | nil => intro ss acc o; exact absurd (show false = true from o) (by decide)
  | cons g gs ih =>
    intro ss acc o hs hz
    have hg : ∀ f ∈ g, f ∈ fs := fun f hf => hs f (by rw [List.flatten_cons]; exact List.mem_append_left _ hf)
    rw [List.flatten_cons, List.length_append] at hz
    have hz1 : acc.length + g.length ≤ 1000 := by omega
    cases gs with
    | nil =>
      match ss, o with
      | [st], o =>
        refine (pss_one (h_idx (show idxOk (addOk n fl g) st = true from o) (fun e o => h_add (acc := acc) h o hg hz1) fun e o => (add_sw e none 0 o).2)).imp fun De σ H ⟨h1, h2, h3, d, h4, h5⟩ => ?_
        refine ⟨h1, h3, fun p H' s hp => idx_post upd_same (d := d) ?_ fun j e => h5 j _ e (s.trans (same_upd hp))⟩
        rw [← h4]
        simp
      | [], o => exact absurd (show false = true from o) (by decide)
      | _ :: _ :: _, o => exact absurd (show false = true from o) (by decide)
    | cons g2 gs2 =>
      match ss, o with
      | [], o => exact absurd (show false = true from o) (by decide)
      | st :: ss2, o =>
        obtain ⟨o1, o2⟩ := (Bool.and_eq_true _ _).mp (show (asgOk fl (addOk n fl g) st && restOk n fl (g2 :: gs2) ss2) = true from o)
        refine (pss_cons (h_asg h o1 (fun e o => h_add (acc := acc) h o hg hz1) fun e t l o => (add_sw e t l o).1) (ih (acc := acc ++ g.map sub) o2 (fun f hf => hs f (by rw [List.flatten_cons]; exact List.mem_append_right _ hf)) (by rw [List.length_append, List.length_map]; omega))).imp fun De σ H ⟨h1, hlt, h2, h3⟩ => ?_
        refine ⟨h1, h2, fun q H' s hq => ⟨?_, by rw [List.length_set]; exact hlt, ⟨q, List.getElem?_set_self hlt, upd_same⟩, ?_⟩⟩
        · rw [List.getElem?_set_ne h.ef.symm]; exact h1
        · have e : acc ++ g.map sub ++ (g2 :: gs2).flatten.map sub = acc ++ (g :: g2 :: gs2).flatten.map sub := by simp
          rw [e]
          exact h3.go (s.trans (same_upd hq))
def tSuite (sub : Str → Bool) (ei fi : Nat) (a : Addr) (gs : List (List Str)) : TS := fun De σ H => σ[ei]? = some (some (.ref a)) ∧ fi < σ.length ∧ Fin De H (gs.flatten.map sub)
theorem h_suite {fs : List Str} (h : Hd Y a D ei fi n fl sub fs) {gs : List (List Str)} {ss : List Stmt} (o : suiteOk n fl gs ss = true) (hs : ∀ f ∈ gs.flatten, f ∈ fs) (hz : gs.flatten.length ≤ 1000) : PSs Y ss (tSuite sub ei fi a gs) := by
  match gs, ss, o with
  | [], _, o => exact absurd (show false = true from o) (by decide)
  | [g], [], o => exact absurd (show false = true from o) (by decide)
  | [g], _ :: _ :: _, o => exact absurd (show false = true from o) (by decide)
  | [g], [st], o =>
    rw [List.flatten_cons, List.flatten_nil, List.append_nil] at hs hz
    refine (pss_one (h_idx (show idxOk (lstOk n g) st = true from o) (fun e o => h_lst h o hs hz) fun e o => (lst_sw e none 0 o).2)).imp fun De σ H ⟨h1, h2, d, h4, h5⟩ => ?_
    refine ⟨h1, fun p hp => idx_post (bs := g.map sub) (by rw [upd_same, List.map_map]; rfl) (d := d) ?_ fun j e => h5 j _ e (same_upd hp)⟩
    rw [← h4]
    simp
  | g :: g2 :: gs, [], o => exact absurd (show false = true from o) (by decide)
  | g :: g2 :: gs, st :: ss', o =>
    obtain ⟨o1, o2⟩ := (Bool.and_eq_true _ _).mp (show (asgOk fl (lstOk n g) st && restOk n fl (g2 :: gs) ss') = true from o)
    rw [List.flatten_cons] at hs hz
    rw [List.length_append] at hz
    refine (pss_cons (h_asg h o1 (fun e o => h_lst h o (fun f hf => hs f (List.mem_append_left _ hf)) (by omega)) fun e t l o => (lst_sw e t l o).1) (h_rest h (g2 :: gs) (acc := g.map sub) o2 (fun f hf => hs f (List.mem_append_right _ hf)) (by rw [List.length_map]; omega))).imp fun De σ H ⟨h1, hlt, h3⟩ => ?_
    refine ⟨h1, fun q hq => ⟨?_, by rw [List.length_set]; exact hlt, ⟨q, List.getElem?_set_self hlt, ?_⟩, ?_⟩⟩
    · rw [List.getElem?_set_ne h.ef.symm]; exact h1
    · rw [upd_same, List.map_map]; rfl
    · have e : g.map sub ++ (g2 :: gs).flatten.map sub = (g :: g2 :: gs).flatten.map sub := by simp
      rw [e]
      exact h3.go (same_upd hq)
end
end Rf

set_option Elab.async false
set_option linter.all false
set_option maxHeartbeats 1000000
/-! Rf, part K: the checker: is the core term c the text's expression e? -/
namespace Rf
open PySem PySem.Spec PyProof.Rows L2

/-- what is known of a def's text: its slots, the defs it may call (with how many arguments), constants, built-in names, exception classes -/
structure Gi where
  N : List Str
  defs : List (Str × Nat)
  globs : List Str
  free : List Str
  excs : List Str
def isG (sc : Scope) (x : Str) : Bool := decide (sc.names.lookup x = some .globalImplicit) && !(x == "__debug__")
def isV (sc : Scope) (x : Str) : Bool := (match sc.names.lookup x with | some .local => true | some .cell => true | some .free => true | _ => false) && !(x == "__debug__") && !(x == "__classdict__")
def isL (sc : Scope) (x : Str) : Bool := match sc.names.lookup x with | some .local => true | some .cell => true | _ => false
def isLoc (sc : Scope) (x : Str) : Bool := match sc.names.lookup x with | some .local => true | _ => false
def cstOk : D → Const → Bool
  | .int i, .int j => decide (i = j)
  | .bool i, .bool j => decide (i = j)
  | .str i, .str j => decide (i = j)
  | .none, .none => true
  | _, _ => false
def notComp : Expr → Bool | .ListComp _ _ _ _ => false | .SetComp _ _ _ _ => false | .DictComp _ _ _ _ _ => false | _ => true
def notSet : Expr → Bool | .Set _ _ _ => false | _ => true
def notTup : Expr → Bool | .Tuple _ _ _ => false | .List _ _ => false | _ => true
def plainI : Expr → Bool | .Slice _ _ _ _ => false | .Constant _ _ _ => true | .Name _ _ => true | .BinOp _ _ _ _ => true | .Call _ _ _ _ => true | .Subscript _ _ _ => true | .UnaryOp _ _ _ => true | _ => false
def tyNm : BI → Option (Str × String)
  | .isInt => some ("int", "int") | .isBool => some ("bool", "bool") | .isTuple => some ("tuple", "tuple") | .isStr => some ("str", "str") | .isList => some ("list", "list")
  | _ => none
def tgsOk (N : List Str) (fn : Str → Bool) (sc : Scope) : C → List Expr → Bool
  | .nil, [] => true
  | .cons (.var i) r, .Name x _ :: es => decide (N[i]? = some x) && isL sc x && (fn x || isLoc sc x) && tgsOk N fn sc r es
  | _, _ => false
def tgOk (N : List Str) (fn : Str → Bool) (sc : Scope) : C → Expr → Bool
  | .var i, .Name x _ => decide (N[i]? = some x) && isL sc x && (fn x || isLoc sc x)
  | .tup ts, .Tuple es _ _ => tgsOk N fn sc ts es
  | _, _ => false
def ownOf (N : List Str) (tg : C) : List (Str × Nat) := (tgVars tg).map fun i => (N[i]?.getD "", i)
def fnOf (scope : Scope) : Str → Bool := fun x => scope.names.lookup x == some .cell
abbrev EB := Expr → Bool
abbrev LB := List Expr → Bool
def qVar (G : Gi) (i : Nat) (sc : Scope) : EB := fun e => match e with | .Name x _ => decide (G.N[i]? = some x) && isV sc x | _ => false
def qCst (d : D) : EB := fun e => match e with | .Constant k _ _ => cstOk d k | _ => false
def qGlob (G : Gi) (x : Str) (sc : Scope) : EB := fun e => match e with | .Name y _ => decide (y = x) && isG sc y && G.globs.contains y | _ => false
def qBin (o : Bop) (a b : EB) : EB := fun e => match e with | .BinOp ea op eb _ => decide (op = bopS o) && a ea && b eb | _ => false
def qCmp (o : Cop) (a b : EB) : EB := fun e => match e with | .Compare ea [op] [eb] _ => decide (op = copS o) && !behindInMarks (copS o) eb && a ea && b eb | _ => false
def qChain (o1 o2 : Cop) (a b c : EB) : EB := fun e => match e with | .Compare ea [p1, p2] [eb, ec] _ => decide (p1 = copS o1) && decide (p2 = copS o2) && !lastMarks [copS o1, copS o2] [eb, ec] && a ea && b eb && c ec | _ => false
def qAnd (l : LB) : EB := fun e => match e with | .BoolOp .And vs _ => l vs | _ => false
def qOr (l : LB) : EB := fun e => match e with | .BoolOp .Or vs _ => l vs | _ => false
def qNot (a : EB) : EB := fun e => match e with | .UnaryOp .Not ea _ => a ea | _ => false
def qIf (c a b : EB) : EB := fun e => match e with | .IfExp ec ea eb _ => c ec && a ea && b eb | _ => false
def qTup (l : LB) : EB := fun e => match e with | .Tuple vs _ _ => l vs | _ => false
def qLst (l : LB) : EB := fun e => match e with | .List vs _ => l vs | _ => false
def qIdx (a b : EB) : EB := fun e => match e with | .Subscript ea eb _ => plainI eb && a ea && b eb | _ => false
def qSl (a : EB) (lo hi : Option Expr → Bool) : EB := fun e => match e with | .Subscript ea (.Slice l h none _) _ => a ea && lo l && hi h | _ => false
def qRev (a : EB) : EB := fun e => match e with | .Subscript ea (.Slice none none (some (.UnaryOp .USub (.Constant (.int j) _ _) _)) _) _ => decide (j = 1) && a ea | _ => false
def qCall (G : Gi) (f : Str) (n : Nat) (sc : Scope) (l : LB) : EB := fun e => match e with | .Call (.Name y _) vs [] _ => decide (y = f) && isG sc y && decide (G.defs.lookup y = some n) && vs.all notStar && l vs | _ => false
def qBi0 (G : Gi) (b : BI) (sc : Scope) (l : LB) : EB := fun e => match e with
    | .Call (.Name y _) vs [] _ => (match tyNm b with
      | some (ty, _) => decide (y = "isinstance") && isG sc y && G.free.contains y && (match vs with
        | [ea, .Name z _] => decide (z = ty) && isG sc z && G.free.contains z && notStar ea && l [ea]
        | _ => false)
      | none => decide (y = biNm b) && (biR b || decide (b = .sorted)) && isG sc y && G.free.contains y && vs.all notStar && !vs.isEmpty && l vs)
    | _ => false
def qLs (G : Gi) (sc : Scope) (l : LB) : EB := fun e => match e with
    | .Call (.Name x _) [.Call (.Name y _) [ea] [] _] [] _ => decide (x = "len") && decide (y = "set") && isG sc x && G.free.contains x && isG sc y && G.free.contains y && notStar ea && l [ea]
    | _ => false
def qBi (G : Gi) (b : BI) (sc : Scope) (l : LB) : EB := fun e => match decide (b = .lenset) with | true => qLs G sc l e | false => qBi0 G b sc l e
def qCalls (G : Gi) (fs : List Str) (n : Nat) (sc : Scope) (k : EB) (l : LB) : EB := fun e => match e with
    | .Call (.Subscript (.List ns _) ek _) vs [] _ => nsOk ns fs && fs.all (fun f => isG sc f && decide (G.defs.lookup f = some n)) && decide (fs.length ≤ 1000) && plainI ek && k ek && !vs.isEmpty && vs.all notStar && l vs
    | _ => false
def qLc (G : Gi) (tg : C) (sc : Scope) (it : Expr → EB) (cond : Scope → LB) (elt : Scope → EB) : EB := fun e => match e with
    | .ListComp eelt [⟨etg, eit, ifs, as⟩] scope _ => decide (as = 0) && notSet eit && blkC G.N sc scope (ownOf G.N tg) && tgOk G.N (fnOf scope) (relS scope sc) tg etg && it etg eit && cond (relS scope sc) ifs && elt (relS scope sc) eelt
    | _ => false
def qCons (h : EB) (t : LB) : LB := fun vs => match vs with | e :: es => notStar e && h e && t es | [] => false
def qConsT (h : EB) (t : LB) : LB := fun vs => match vs with | e :: es => h e && t es | [] => false
def qOne (h : EB) : LB := fun vs => match vs with | [e] => h e | _ => false
def qSome (h : EB) : Option Expr → Bool := fun o => match o with | some e => h e | none => false
def qFn1 (G : Gi) (x : Str) (sc : Scope) (a : EB) : EB := fun e => match e with | .Call (.Name y _) [ea] [] _ => decide (y = x) && isG sc y && G.free.contains y && notStar ea && a ea | _ => false
def qFn2 (G : Gi) (x : Str) (sc : Scope) (a b : EB) : EB := fun e => match e with | .Call (.Name y _) [ea, eb] [] _ => decide (y = x) && isG sc y && G.free.contains y && notStar ea && notStar eb && a ea && b eb | _ => false
def isTup : EB := fun e => match e with | .Tuple _ _ _ => true | _ => false
mutual
def okE (G : Gi) : C → Scope → EB
  | .var i, sc => qVar G i sc
  | .cst d, _ => qCst d
  | .glob x, sc => qGlob G x sc
  | .bin o a b, sc => qBin o (okE G a sc) (okE G b sc)
  | .cmp o a b, sc => qCmp o (okE G a sc) (okE G b sc)
  | .chain o1 o2 a b c, sc => qChain o1 o2 (okE G a sc) (okE G b sc) (okE G c sc)
  | .band es, sc => qAnd (okL G es sc)
  | .bor es, sc => qOr (okL G es sc)
  | .bnot a, sc => qNot (okE G a sc)
  | .ife c a b, sc => qIf (okT G c sc) (okE G a sc) (okE G b sc)
  | .tup es, sc => qTup (okL G es sc)
  | .lst es, sc => qLst (okL G es sc)
  | .idx a b, sc => qIdx (okE G a sc) (okE G b sc)
  | .sl a lo hi, sc => qSl (okE G a sc) (okO G lo sc) (okO G hi sc)
  | .rev a, sc => qRev (okE G a sc)
  | .call f es, sc => qCall G f (cLen es) sc (okL G es sc)
  | .calls fs k es, sc => qCalls G fs (cLen es) sc (okE G k sc) (okL G es sc)
  | .bi b es, sc => qBi G b sc (okL G es sc)
  | .lc tg it cond elt, sc => qLc G tg sc (okI G it sc) (fun s => okC G cond s) (fun s => okE G elt s)
  | _, _ => fun _ => false
def okL (G : Gi) : C → Scope → LB
  | .nil, _ => fun vs => vs.isEmpty
  | .cons h t, sc => qCons (okE G h sc) (okL G t sc)
  | _, _ => fun _ => false
def okT (G : Gi) : C → Scope → EB
  | .cmp o a b, sc => qCmp o (okE G a sc) (okE G b sc)
  | .chain o1 o2 a b c, sc => qChain o1 o2 (okE G a sc) (okE G b sc) (okE G c sc)
  | .band es, sc => qAnd (okTL G es sc)
  | .bor es, sc => qOr (okTL G es sc)
  | .bnot a, sc => qNot (okT G a sc)
  | .calls fs k es, sc => fun e => plainT e && qCalls G fs (cLen es) sc (okE G k sc) (okL G es sc) e
  | .call f es, sc => fun e => plainT e && qCall G f (cLen es) sc (okL G es sc) e
  | .bi b es, sc => fun e => plainT e && qBi G b sc (okL G es sc) e
  | .var i, sc => fun e => plainT e && qVar G i sc e
  | .idx a b, sc => fun e => plainT e && qIdx (okE G a sc) (okE G b sc) e
  | _, _ => fun _ => false
def okTL (G : Gi) : C → Scope → LB
  | .nil, _ => fun vs => vs.isEmpty
  | .cons h t, sc => qConsT (okT G h sc) (okTL G t sc)
  | _, _ => fun _ => false
def okO (G : Gi) : C → Scope → Option Expr → Bool
  | .nil, _ => fun o => o.isNone
  | .cons a .nil, sc => qSome (okE G a sc)
  | _, _ => fun _ => false
def okC (G : Gi) : C → Scope → LB
  | .nil, _ => fun vs => vs.isEmpty
  | .cons a .nil, sc => qOne (okT G a sc)
  | _, _ => fun _ => false
def okI (G : Gi) : C → Scope → Expr → EB
  | .itm a, sc => fun _ => okE G a sc
  | .enum a, sc => fun tg e => isTup tg && qFn1 G "enumerate" sc (okE G a sc) e
  | .zip a b, sc => fun tg e => isTup tg && qFn2 G "zip" sc (okE G a sc) (okE G b sc) e
  | .rng (.cons a .nil), sc => fun _ => qFn1 G "range" sc (okE G a sc)
  | .rng (.cons a (.cons b .nil)), sc => fun _ => qFn2 G "range" sc (okE G a sc) (okE G b sc)
  | _, _ => fun _ _ => false
end
example : okE ⟨[], [], [], [], []⟩ .nil default (.Name "" ⟨0,0,0,0⟩) = false := rfl
end Rf

set_option Elab.async false
set_option linter.all false
set_option maxHeartbeats 2000000
/-! Rf, part L: the checker is sound (expressions). -/
namespace Rf
open PySem PySem.Spec PyProof.Rows L2

/-- the context that the checker speaks of -/
structure Cok (G : Gi) (S : Sig) (ca : ExA) (fn : Str → Bool) (sc : Scope) (W : WX) (X : Cx) : Prop where
  N : X.N = G.N
  nd : X.N.Nodup
  hsc : X.env.scope = sc
  kind : sc.kind = .function
  fn : X.fn = fn
  calm : X.calm = true
  units : X.A.units + 65 < cLine
  tk : Takes X W
  free : ∀ x, G.free.contains x = true → X.mg x = none
  glob : ∀ x, G.globs.contains x = true → ∃ v u d, X.mg x = some u ∧ RelV v u ∧ S.gl x = .ok d ∧ Rp X.K (fun _ => none) v d
  defs : ∀ f n, G.defs.lookup f = some n → ∃ k fa fd ps, FnOk X.prog X.w X.K X.mg X.base (L2.CX X.prog X.w) k fa fd ps (spD X.K S ca f n) ∧ Room k X.A ∧ X.mg f = some (.ref fa) ∧ PySem.W.keepIn X.K (.ref fa) = true ∧ Binds X.K fd ps []
section
variable {G : Gi} {S : Sig} {ca : ExA} {fn : Str → Bool} {sc : Scope} {W : WX} {X : Cx}
theorem Cok.blk (h : Cok G S ca fn sc W X) {s : Shared} {H : Hp} {scope : Scope} {C : Addr} {cl : List (Str × Addr)} {fp : List Addr} (hk : scope.kind = .function) : Cok G S ca (fnOf scope) (relS scope sc) W0 (X.blk s H scope (compEnvC scope cl C X.env) fp) := by
  refine ⟨h.N, h.nd, by rw [← h.hsc]; rfl, hk, rfl, h.calm, h.units, takes0, h.free, h.glob, h.defs⟩
theorem Cok.gl (h : Cok G S ca fn sc W X) {x : Str} (e : isG sc x = true) : Gl X x ∧ (x == ("__debug__" : Str)) = false := by
  unfold isG at e
  simp only [Bool.and_eq_true, decide_eq_true_eq, Bool.not_eq_true'] at e
  exact ⟨by show X.env.scope.names.lookup x = _; rw [h.hsc]; exact e.1, e.2⟩
theorem Cok.vis (h : Cok G S ca fn sc W X) {x : Str} (e : isV sc x = true) : Vis X.env.scope x ∧ (x == ("__debug__" : Str)) = false ∧ (x == ("__classdict__" : Str)) = false := by
  unfold isV at e
  simp only [Bool.and_eq_true, Bool.not_eq_true'] at e
  refine ⟨?_, e.1.2, e.2⟩
  have e := e.1.1
  unfold Vis
  rw [h.hsc]
  split at e
  · rename_i q; exact .inl q
  · rename_i q; exact .inr (.inl q)
  · rename_i q; exact .inr (.inr q)
  · cases e
theorem Cok.loc (h : Cok G S ca fn sc W X) {x : Str} (e : isL sc x = true) : L2.Loc X.env.scope x := by
  unfold isL at e
  unfold L2.Loc
  rw [h.hsc]
  split at e
  · rename_i q; exact .inl q
  · rename_i q; exact .inr q
  · cases e
theorem isLoc_eq {x : Str} (e : isLoc sc x = true) : sc.names.lookup x = some .local := by
  unfold isLoc at e
  split at e
  · assumption
  · cases e
theorem Cok.hf (h : Cok G S ca fn sc W X) {x : Str} (e : (fn x || isLoc sc x) = true) : X.fn x = true ∨ X.env.scope.names.lookup x = some .local := by
  rw [h.fn, h.hsc]
  rw [Bool.or_eq_true] at e
  exact e.imp id isLoc_eq
theorem Cok.at (h : Cok G S ca fn sc W X) {i : Nat} {x : Str} (e : decide (G.N[i]? = some x) = true) : X.N[i]? = some x := by rw [h.N]; exact of_decide_eq_true e
theorem tgs_ok (h : Cok G S ca fn sc W X) : ∀ {ts : C} {es : List Expr}, tgsOk G.N fn sc ts es = true → PGs X es (gsOf ts) ∧ es.length = cLen ts ∧ es.all notStar = true
  | .nil, [], _ => ⟨pgs_nil, rfl, rfl⟩
  | .cons (.var i) r, .Name x p :: es, e => by
    have e : (decide (G.N[i]? = some x) && isL sc x && (fn x || isLoc sc x) && tgsOk G.N fn sc r es) = true := e
    rw [Bool.and_eq_true, Bool.and_eq_true, Bool.and_eq_true] at e
    obtain ⟨i1, i2, i3⟩ := tgs_ok h e.2
    exact ⟨pgs_cons (pg_name h.nd (h.at e.1.1.1) (h.loc e.1.1.2) (h.hf e.1.2)) i1, by rw [List.length_cons, i2]; rfl, by rw [List.all_cons, i3]; rfl⟩
theorem each_len {X : Cx} : ∀ {ts : List Expr}, ts.all notStar = true → (assignEach ts X.env).length = ts.length ∧ (assignEach ts X.env).findIdx? (·.1) = none := fun {ts} => by
  induction ts with
  | nil => exact fun _ => ⟨rfl, rfl⟩
  | cons t ts ih =>
    intro h
    rw [List.all_cons, Bool.and_eq_true] at h
    obtain ⟨i1, i2⟩ := ih h.2
    have e : assignEach (t :: ts) X.env = (false, assign t X.env) :: assignEach ts X.env := by
      cases t <;> first
        | rfl
        | (cases h.1; done)
    rw [e]
    exact ⟨by simp [i1], by rw [List.findIdx?_cons]; simp [i2]⟩
theorem tg_ok (h : Cok G S ca fn sc W X) {tg : C} {e : Expr} (o : tgOk G.N fn sc tg e = true) : L2.PG X e (gOf X.K tg) := by
  unfold tgOk at o
  split at o
  · rw [Bool.and_eq_true, Bool.and_eq_true] at o
    exact pg_name h.nd (h.at o.1.1) (h.loc o.1.2) (h.hf o.2)
  · obtain ⟨i1, i2, i3⟩ := tgs_ok h o
    exact pg_tup h.calm i1 (by rw [(each_len i3).1, i2]) (each_len i3).2
  · cases o
theorem plainI_ok {e : Expr} (h : plainI e = true) : PlainIx e := by
  cases e <;> first
    | (cases h; done)
    | exact fun _ _ => rfl
theorem notSet_ok {e : Expr} (h : notSet e = true) (env : PySem.Env) (x : Value) : foldedSetIterable e env x = pure x := by
  cases e <;> first
    | (cases h; done)
    | rfl
theorem plainT_ok {e : Expr} (h : plainT e = true) (env : PySem.Env) : ∀ whole, isTrue e env whole = (do let v ← whole; standAt e.pos; holding [v] (truthy v)) := by
  cases e <;> first
    | (cases h; done)
    | exact fun _ => rfl
theorem own_vars {N : List Str} {tg : C} : tgVars tg = (ownOf N tg).map (·.2) := by
  unfold ownOf
  rw [List.map_map]
  exact (List.map_id _).symm
theorem blk_kind {N : List Str} {scope : Scope} {own : List (Str × Nat)} (h : blkC N sc scope own = true) : scope.kind = .function := (blkOk_by h).kind
theorem tyNm_ok {b : BI} {ty : Str} {T : String} (h : tyNm b = some (ty, T)) : isTy b = some T ∧ bootBuiltins ty = some (.type T) ∧ ty ≠ "__name__" := by
  cases b <;> cases h <;> exact ⟨rfl, by decide +kernel, by decide⟩
theorem se_cst (h : X.calm = true) {d : D} {k : Const} {t : Bool} {j : Nat} {pos : Pos} (o : cstOk d k = true) : PE X (.Constant k j pos) (rd S ca W X.K t (.cst d)) := by
  unfold cstOk at o
  split at o
  · rw [of_decide_eq_true o]; exact se_int
  · rw [of_decide_eq_true o]; exact se_bool
  · rw [of_decide_eq_true o]; exact se_str
  · exact se_none
  · cases o
theorem se_call0 {f : Str} {k : Nat} {fa : Addr} {fd : FuncData} {ps : List Str} {p pos : Pos} {t : Bool} (F : FnOk X.prog X.w X.K X.mg X.base (L2.CX X.prog X.w) k fa fd ps (spD X.K S ca f 0)) (hr : Room k X.A) (hg : Gl X f) (hm : X.mg f = some (.ref fa)) (hk : PySem.W.keepIn X.K (.ref fa) = true)
    (hb : Binds X.K fd ps []) (tk : Takes X W) (hd : (f == ("__debug__" : Str)) = false) : PE X (.Call (.Name f p) [] [] pos) (rd S ca W X.K t (.call f .nil)) := by
  refine ⟨fun pins s σ H Q I h => ?_⟩
  obtain ⟨F1, env, ss, p⟩ := rdA_eq.mp (rd_call (n := 0) h fun env ds e => evs_len e)
  rw [evs] at p
  have q := p [] H same_refl .nil
  refine wpAny_Call_Name_kw (ld_glob I hg hm ?_ hd)
  exact PySem.W.callWith_K0 I.kIn hk (run_fnS (us := []) (vs := []) (E := WE W) F hr hb (passAt tk σ) I .nil q)
end
end Rf

set_option Elab.async false
set_option linter.all false
set_option maxHeartbeats 4000000
/-! Rf, part L2: the checker is sound: the one theorem on expressions. -/
namespace Rf
open PySem PySem.Spec PyProof.Rows L2
theorem and2 {a b : Bool} (h : (a && b) = true) : a = true ∧ b = true := by rwa [Bool.and_eq_true] at h
theorem nt {a : Bool} (h : (!a) = true) : a = false := by rwa [Bool.not_eq_true'] at h
section
variable {G : Gi} {S : Sig} {ca : ExA} {sc : Scope} {fn : Str → Bool} {W : WX} {X : Cx} {e : Expr} {t : Bool}
theorem q_var {i : Nat} (K : Cok G S ca fn sc W X) (o : qVar G i sc e = true) : PE X e (rd S ca W X.K t (.var i)) := by
  unfold qVar at o
  split at o
  · obtain ⟨o1, o2⟩ := and2 o
    obtain ⟨v1, v2, v3⟩ := K.vis o2
    exact se_var (K.at o1) v1 v2 v3
  · cases o
theorem q_cst {d : D} (K : Cok G S ca fn sc W X) (o : qCst d e = true) : PE X e (rd S ca W X.K t (.cst d)) := by
  unfold qCst at o
  split at o
  · exact se_cst K.calm o
  · cases o
theorem q_glob {x : Str} (K : Cok G S ca fn sc W X) (o : qGlob G x sc e = true) : PE X e (rd S ca W X.K t (.glob x)) := by
  unfold qGlob at o
  split at o
  · obtain ⟨o, o3⟩ := and2 o
    obtain ⟨o1, o2⟩ := and2 o
    have o1 := of_decide_eq_true o1
    subst o1
    obtain ⟨g1, g2⟩ := K.gl o2
    obtain ⟨v, u, d, h1, h2, h3, h4⟩ := K.glob _ o3
    exact se_glob g1 h1 h2 g2 h3 h4
  · cases o
variable {a b c : C} {f g h : EB}
theorem q_bin {op : Bop} (o : qBin op f g e = true) (ha : ∀ e, f e = true → PE X e (rd S ca W X.K true a)) (hb : ∀ e, g e = true → PE X e (rd S ca W X.K true b)) : PE X e (rd S ca W X.K t (.bin op a b)) := by
  unfold qBin at o
  split at o
  · obtain ⟨o, o3⟩ := and2 o
    obtain ⟨o1, o2⟩ := and2 o
    rw [of_decide_eq_true o1]
    exact se_bin (ha _ o2) (hb _ o3)
  · cases o
theorem q_cmp {op : Cop} (K : Cok G S ca fn sc W X) (o : qCmp op f g e = true) (ha : ∀ e, f e = true → PE X e (rd S ca W X.K true a)) (hb : ∀ e, g e = true → PE X e (rd S ca W X.K true b)) : PE X e (rd S ca W X.K t (.cmp op a b)) ∧ PT X e (rdT S ca W X.K (.cmp op a b)) := by
  unfold qCmp at o
  split at o
  · obtain ⟨o, o4⟩ := and2 o
    obtain ⟨o, o3⟩ := and2 o
    obtain ⟨o1, o2⟩ := and2 o
    rw [of_decide_eq_true o1]
    exact ⟨se_cmp K.units (ha _ o3) (hb _ o4) (nt o2), st_cmp K.units (ha _ o3) (hb _ o4) (nt o2)⟩
  · cases o
theorem q_chain {p1 p2 : Cop} (K : Cok G S ca fn sc W X) (o : qChain p1 p2 f g h e = true) (ha : ∀ e, f e = true → PE X e (rd S ca W X.K true a)) (hb : ∀ e, g e = true → PE X e (rd S ca W X.K true b)) (hc : ∀ e, h e = true → PE X e (rd S ca W X.K true c)) : PE X e (rd S ca W X.K t (.chain p1 p2 a b c)) ∧ PT X e (rdT S ca W X.K (.chain p1 p2 a b c)) := by
  unfold qChain at o
  split at o
  · obtain ⟨o, q6⟩ := and2 o
    obtain ⟨o, q5⟩ := and2 o
    obtain ⟨o, q4⟩ := and2 o
    obtain ⟨o, q3⟩ := and2 o
    obtain ⟨q1, q2⟩ := and2 o
    rw [of_decide_eq_true q1, of_decide_eq_true q2]
    exact ⟨se_chain K.units (ha _ q4) (hb _ q5) (hc _ q6) (nt q3), st_chain K.units (ha _ q4) (hb _ q5) (hc _ q6) (nt q3)⟩
  · cases o
theorem q_idx (o : qIdx f g e = true) (ha : ∀ e, f e = true → PE X e (rd S ca W X.K true a)) (hb : ∀ e, g e = true → PE X e (rd S ca W X.K true b)) : PE X e (rd S ca W X.K t (.idx a b)) := by
  unfold qIdx at o
  split at o
  · obtain ⟨o, o3⟩ := and2 o
    obtain ⟨o1, o2⟩ := and2 o
    exact se_idx (ha _ o2) (hb _ o3) (plainI_ok o1)
  · cases o
theorem q_call {x : Str} {es : C} {l : LB} (K : Cok G S ca fn sc W X) (o : qCall G x (cLen es) sc l e = true)
    (ha : ∀ vs, l vs = true → PA X vs (rdA S ca W X.K false es)) (h0 : l [] = true → es = .nil) : PE X e (rd S ca W X.K t (.call x es)) := by
  unfold qCall at o
  split at o
  · rename_i y p vs pos
    obtain ⟨o, o5⟩ := and2 o
    obtain ⟨o, o4⟩ := and2 o
    obtain ⟨o, o3⟩ := and2 o
    obtain ⟨o1, o2⟩ := and2 o
    have o1 := of_decide_eq_true o1
    have o3 := of_decide_eq_true o3
    subst o1
    obtain ⟨g1, g2⟩ := K.gl o2
    obtain ⟨k, fa, fd, ps, f1, f2, f3, f4, f5⟩ := K.defs _ _ o3
    cases vs with
    | nil =>
      have e := h0 o5
      subst e
      exact se_call0 f1 f2 g1 f3 f4 f5 K.tk g2
    | cons ea es' => exact se_call f1 f2 g1 f3 f4 f5 K.tk (ha _ o5) rfl g2 o4
  · cases o
theorem q_bi0 {bi : BI} {es : C} {l : LB} (K : Cok G S ca fn sc W X) (o : qBi0 G bi sc l e = true)
    (ha : ∀ vs, l vs = true → PA X vs (rdA S ca W X.K true es)) (h1 : ∀ ea, l [ea] = true → ∃ a, es = .cons a .nil ∧ PE X ea (rd S ca W X.K true a)) : PE X e (rd S ca W X.K t (.bi bi es)) := by
  unfold qBi0 at o
  split at o
  · rename_i y p vs pos
    split at o
    · rename_i ty T hty
      obtain ⟨o, o4⟩ := and2 o
      obtain ⟨o, o3⟩ := and2 o
      obtain ⟨o1, o2⟩ := and2 o
      have o1 := of_decide_eq_true o1
      split at o4
      · rename_i ea z pz
        obtain ⟨o4, p5⟩ := and2 o4
        obtain ⟨o4, p4⟩ := and2 o4
        obtain ⟨o4, p3⟩ := and2 o4
        obtain ⟨p1, p2⟩ := and2 o4
        have p1 := of_decide_eq_true p1
        subst p1
        obtain ⟨g1, g2⟩ := K.gl o2
        obtain ⟨g3, g4⟩ := K.gl p2
        obtain ⟨i1, i2, i3⟩ := tyNm_ok hty
        obtain ⟨a, rfl, ha'⟩ := h1 _ p5
        exact se_is i1 o1 g1 (K.free _ o3) g3 (K.free _ p3) i2 i3 g4 ha' p4
      · cases o4
    · obtain ⟨o, o7⟩ := and2 o
      obtain ⟨o, o6⟩ := and2 o
      obtain ⟨o, o5⟩ := and2 o
      obtain ⟨o, o4⟩ := and2 o
      obtain ⟨o, o3⟩ := and2 o
      obtain ⟨o1, o2⟩ := and2 o
      have o1 := of_decide_eq_true o1
      obtain ⟨g1, g2⟩ := K.gl o3
      cases vs with
      | nil => cases o6
      | cons ea es' =>
        rw [Bool.or_eq_true] at o2
        rcases o2 with o2 | o2
        · exact se_bi o2 o1.symm K.calm g1 (K.free _ o4) (ha _ o7) o5
        · have o2 := of_decide_eq_true o2
          subst o2
          exact se_sorted o1 K.units g1 (K.free _ o4) (ha _ o7) o5
  · cases o
theorem q_bi {bi : BI} {es : C} {l : LB} (K : Cok G S ca fn sc W X) (o : qBi G bi sc l e = true)
    (ha : ∀ vs, l vs = true → PA X vs (rdA S ca W X.K true es)) (h1 : ∀ ea, l [ea] = true → ∃ a, es = .cons a .nil ∧ PE X ea (rd S ca W X.K true a)) : PE X e (rd S ca W X.K t (.bi bi es)) := by
  unfold qBi at o
  split at o
  · rename_i hb
    have hb := of_decide_eq_true hb
    subst hb
    unfold qLs at o
    split at o
    · obtain ⟨o, o8⟩ := and2 o
      obtain ⟨o, o7⟩ := and2 o
      obtain ⟨o, o6⟩ := and2 o
      obtain ⟨o, o5⟩ := and2 o
      obtain ⟨o, o4⟩ := and2 o
      obtain ⟨o, o3⟩ := and2 o
      obtain ⟨o1, o2⟩ := and2 o
      obtain ⟨a, rfl, ha'⟩ := h1 _ o8
      exact se_lenset (of_decide_eq_true o1) (of_decide_eq_true o2) K.calm K.units (K.gl o3).1 (K.free _ o4) (K.gl o5).1 (K.free _ o6) ha' o7
    · cases o
  · exact q_bi0 K o ha h1
theorem q_calls {fs : List Str} {es : C} {l : LB} (K : Cok G S ca fn sc W X) (o : qCalls G fs (cLen es) sc f l e = true)
    (hk : ∀ e, f e = true → PE X e (rd S ca W X.K true a)) (ha : ∀ vs, l vs = true → PA X vs (rdA S ca W X.K false es)) : PE X e (rd S ca W X.K t (.calls fs a es)) := by
  unfold qCalls at o
  split at o
  · rename_i ns p0 ek p1 vs pos
    obtain ⟨o, o8⟩ := and2 o
    obtain ⟨o, o7⟩ := and2 o
    obtain ⟨o, o6⟩ := and2 o
    obtain ⟨o, o5⟩ := and2 o
    obtain ⟨o, o4⟩ := and2 o
    obtain ⟨o, o3⟩ := and2 o
    obtain ⟨o1, o2⟩ := and2 o
    cases vs with
    | nil => cases o6
    | cons ea es' =>
      refine se_calls o1 (fun x hx => ?_) (of_decide_eq_true o3) (hk _ o5) (plainI_ok o4) K.tk (ha _ o8) rfl o7
      obtain ⟨q1, q2⟩ := and2 (List.all_eq_true.mp o2 x hx)
      obtain ⟨k, fa, fd, ps, f1, f2, f3, f4, f5⟩ := K.defs _ _ (of_decide_eq_true q2)
      exact ⟨K.gl q1, fa, f3, f4, k, fd, ps, f1, f2, f5⟩
  · cases o
/-- a comprehension's parts -/
theorem q_lc {tg it cond elt : C} {fi : Expr → EB} {fc : Scope → LB} {fe : Scope → EB} (K : Cok G S ca fn sc W X) (o : qLc G tg sc fi fc fe e = true) (hi : ∀ tg e, fi tg e = true → PI X tg e (rdI S ca W X.K it))
    (hc : ∀ {sc fn W X es}, fc sc es = true → Cok G S ca fn sc W X → PTs X es (rdC S ca W X.K cond)) (he : ∀ {sc fn W X e}, fe sc e = true → Cok G S ca fn sc W X → PE X e (rd S ca W X.K false elt)) :
    ∃ eelt etg eit ifs scope pos, e = .ListComp eelt [⟨etg, eit, ifs, 0⟩] scope pos ∧ PI X etg eit (rdI S ca W X.K it) ∧ BlkOk X.N X.env.scope scope (ownOf G.N tg) ∧
      (∀ (s : Shared) (H : Hp) (C : Addr) (cl : List (Str × Addr)) (fp : List Addr), L2.PG (X.blk s H scope (compEnvC scope cl C X.env) fp) etg (gOf X.K tg)) ∧
      (∀ (s : Shared) (H : Hp) (C : Addr) (cl : List (Str × Addr)) (fp : List Addr), PTs (X.blk s H scope (compEnvC scope cl C X.env) fp) ifs (rdC S ca W0 X.K cond)) ∧
      (∀ (s : Shared) (H : Hp) (C : Addr) (cl : List (Str × Addr)) (fp : List Addr), PE (X.blk s H scope (compEnvC scope cl C X.env) fp) eelt (rd S ca W0 X.K false elt)) ∧ (∀ x, foldedSetIterable eit X.env x = pure x) := by
  unfold qLc at o
  split at o
  · rename_i eelt etg eit ifs as scope pos
    obtain ⟨o, o7⟩ := and2 o
    obtain ⟨o, o6⟩ := and2 o
    obtain ⟨o, o5⟩ := and2 o
    obtain ⟨o, o4⟩ := and2 o
    obtain ⟨o, o3⟩ := and2 o
    obtain ⟨o1, o2⟩ := and2 o
    have o1 := of_decide_eq_true o1
    subst o1
    have bk : BlkOk X.N X.env.scope scope (ownOf G.N tg) := by rw [K.N, K.hsc]; exact blkOk_by o3
    exact ⟨eelt, etg, eit, ifs, scope, pos, rfl, hi _ _ o5, bk, fun s H C cl fp => tg_ok (K.blk (blk_kind o3)) o4, fun s H C cl fp => hc o6 (K.blk (blk_kind o3)), fun s H C cl fp => he o7 (K.blk (blk_kind o3)), notSet_ok o2 _⟩
  · cases o
theorem q_fn1 {x : Str} (K : Cok G S ca fn sc W X) (o : qFn1 G x sc f e = true) : ∃ y p ea pos, e = .Call (.Name y p) [ea] [] pos ∧ y = x ∧ Gl X y ∧ X.mg y = none ∧ notStar ea = true ∧ f ea = true := by
  unfold qFn1 at o
  split at o
  · obtain ⟨o, o5⟩ := and2 o
    obtain ⟨o, o4⟩ := and2 o
    obtain ⟨o, o3⟩ := and2 o
    obtain ⟨o1, o2⟩ := and2 o
    exact ⟨_, _, _, _, rfl, of_decide_eq_true o1, (K.gl o2).1, K.free _ o3, o4, o5⟩
  · cases o
theorem q_fn2 {x : Str} (K : Cok G S ca fn sc W X) (o : qFn2 G x sc f g e = true) : ∃ y p ea eb pos, e = .Call (.Name y p) [ea, eb] [] pos ∧ y = x ∧ Gl X y ∧ X.mg y = none ∧ notStar ea = true ∧ notStar eb = true ∧ f ea = true ∧ g eb = true := by
  unfold qFn2 at o
  split at o
  · obtain ⟨o, o7⟩ := and2 o
    obtain ⟨o, o6⟩ := and2 o
    obtain ⟨o, o5⟩ := and2 o
    obtain ⟨o, o4⟩ := and2 o
    obtain ⟨o, o3⟩ := and2 o
    obtain ⟨o1, o2⟩ := and2 o
    exact ⟨_, _, _, _, _, rfl, of_decide_eq_true o1, (K.gl o2).1, K.free _ o3, o4, o5, o6, o7⟩
  · cases o
end
section
variable {G : Gi} {S : Sig} {ca : ExA}
theorem sNil {c : C} {sc : Scope} (o : okL G c sc [] = true) : c = .nil := by
  cases c with
  | nil => rfl
  | _ => exact absurd (show false = true from o) (by decide)
mutual
theorem sE (c : C) {sc : Scope} {fn : Str → Bool} {W : WX} {X : Cx} {e : Expr} (o : okE G c sc e = true) (K : Cok G S ca fn sc W X) (t : Bool) : PE X e (rd S ca W X.K t c) := by
  cases c with
  | var i => exact q_var K o
  | cst d => exact q_cst K o
  | glob x => exact q_glob K o
  | bin op a b => exact q_bin (show qBin op (okE G a sc) (okE G b sc) e = true from o) (fun e o => sE a o K true) (fun e o => sE b o K true)
  | cmp op a b => exact (q_cmp (t := t) K (show qCmp op (okE G a sc) (okE G b sc) e = true from o) (fun e o => sE a o K true) (fun e o => sE b o K true)).1
  | chain p1 p2 a b c => exact (q_chain (t := t) K (show qChain p1 p2 (okE G a sc) (okE G b sc) (okE G c sc) e = true from o) (fun e o => sE a o K true) (fun e o => sE b o K true) (fun e o => sE c o K true)).1
  | band es =>
    have o : qAnd (okL G es sc) e = true := o
    unfold qAnd at o
    split at o
    · exact se_band (sAnd es o K)
    · cases o
  | bor es =>
    have o : qOr (okL G es sc) e = true := o
    unfold qOr at o
    split at o
    · exact se_bor (sOr es o K)
    · cases o
  | bnot a =>
    have o : qNot (okE G a sc) e = true := o
    unfold qNot at o
    split at o
    · exact se_not (sE a o K true)
    · cases o
  | ife c a b =>
    have o : qIf (okT G c sc) (okE G a sc) (okE G b sc) e = true := o
    unfold qIf at o
    split at o
    · obtain ⟨o, o3⟩ := and2 o
      obtain ⟨o1, o2⟩ := and2 o
      exact se_ife (sT c o1 K) (sE a o2 K false) (sE b o3 K false)
    · cases o
  | tup es =>
    have o : qTup (okL G es sc) e = true := o
    unfold qTup at o
    split at o
    · exact se_tup (sL es o K false)
    · cases o
  | lst es =>
    have o : qLst (okL G es sc) e = true := o
    unfold qLst at o
    split at o
    · exact se_lst (sL es o K false)
    · cases o
  | idx a b => exact q_idx (show qIdx (okE G a sc) (okE G b sc) e = true from o) (fun e o => sE a o K true) (fun e o => sE b o K true)
  | sl a lo hi =>
    have o : qSl (okE G a sc) (okO G lo sc) (okO G hi sc) e = true := o
    unfold qSl at o
    split at o
    · obtain ⟨o, o3⟩ := and2 o
      obtain ⟨o1, o2⟩ := and2 o
      exact se_sl (sE a o1 K true) (sO lo o2 K) (sO hi o3 K)
    · cases o
  | rev a =>
    have o : qRev (okE G a sc) e = true := o
    unfold qRev at o
    split at o
    · obtain ⟨o1, o2⟩ := and2 o
      rw [of_decide_eq_true o1]
      exact se_rev (sE a o2 K true)
    · cases o
  | call f es => exact q_call K (show qCall G f (cLen es) sc (okL G es sc) e = true from o) (fun vs h => sL es h K false) (fun h => sNil h)
  | calls fs k es => exact q_calls K (show qCalls G fs (cLen es) sc (okE G k sc) (okL G es sc) e = true from o) (fun e o => sE k o K true) (fun vs h => sL es h K false)
  | bi b es => exact q_bi K (show qBi G b sc (okL G es sc) e = true from o) (fun vs h => sL es h K true) (fun ea h => sOne es h K)
  | lc tg it cond elt =>
    obtain ⟨eelt, etg, eit, ifs, scope, pos, rfl, h1, h2, h3, h4, h5, h6⟩ := q_lc (it := it) (cond := cond) (elt := elt) K (show qLc G tg sc (okI G it sc) (fun s => okC G cond s) (fun s => okE G elt s) e = true from o) (fun tg e o => sI it o K) (fun o K => sC cond o K) (fun o K => sE elt o K false)
    exact se_lc (sn_lc K.calm K.nd h1 h2 own_vars h3 h4 h5 h6)
  | _ => exact absurd (show false = true from o) (by decide)
theorem sOne (c : C) {sc : Scope} {fn : Str → Bool} {W : WX} {X : Cx} {e : Expr} (o : okL G c sc [e] = true) (K : Cok G S ca fn sc W X) : ∃ a, c = .cons a .nil ∧ PE X e (rd S ca W X.K true a) := by
  cases c with
  | cons a r =>
    have o : (notStar e && okE G a sc e && okL G r sc []) = true := o
    obtain ⟨o, o3⟩ := and2 o
    obtain ⟨o1, o2⟩ := and2 o
    exact ⟨a, by rw [sNil o3], sE a o2 K true⟩
  | nil => exact absurd (show false = true from o) (by decide)
  | _ => exact absurd (show false = true from o) (by decide)
theorem sL (c : C) {sc : Scope} {fn : Str → Bool} {W : WX} {X : Cx} {es : List Expr} (o : okL G c sc es = true) (K : Cok G S ca fn sc W X) (t : Bool) : PA X es (rdA S ca W X.K t c) := by
  cases c with
  | nil =>
    cases es with
    | nil => exact sa_nil
    | cons _ _ => exact absurd (show false = true from o) (by decide)
  | cons a r =>
    cases es with
    | nil => exact absurd (show false = true from o) (by decide)
    | cons e es =>
      have o : (notStar e && okE G a sc e && okL G r sc es) = true := o
      obtain ⟨o, o3⟩ := and2 o
      obtain ⟨o1, o2⟩ := and2 o
      exact sa_cons (sE a o2 K t) (sL r o3 K t) o1
  | _ => exact absurd (show false = true from o) (by decide)
theorem sAnd (c : C) {sc : Scope} {fn : Str → Bool} {W : WX} {X : Cx} {es : List Expr} {pos : Pos} (o : okL G c sc es = true) (K : Cok G S ca fn sc W X) : PE X (.BoolOp .And es pos) (rdAnd S ca W X.K c) := by
  cases c with
  | nil => exact ⟨fun pins s σ H Q I h => by obtain ⟨F, env, ss, p⟩ := h; exact (show False from p).elim⟩
  | cons a r =>
    cases es with
    | nil => exact absurd (show false = true from o) (by decide)
    | cons e es =>
      have o : (notStar e && okE G a sc e && okL G r sc es) = true := o
      obtain ⟨o, o3⟩ := and2 o
      obtain ⟨o1, o2⟩ := and2 o
      cases es with
      | nil =>
        have z := sNil o3
        subst z
        exact and_one (sE a o2 K false)
      | cons e2 es2 =>
        cases r with
        | cons r1 r2 => exact and_cons (sE a o2 K true) (sAnd (.cons r1 r2) o3 K)
        | nil => exact absurd (show false = true from o3) (by decide)
        | _ => exact absurd (show false = true from o3) (by decide)
  | _ => exact absurd (show false = true from o) (by decide)
theorem sOr (c : C) {sc : Scope} {fn : Str → Bool} {W : WX} {X : Cx} {es : List Expr} {pos : Pos} (o : okL G c sc es = true) (K : Cok G S ca fn sc W X) : PE X (.BoolOp .Or es pos) (rdOr S ca W X.K c) := by
  cases c with
  | nil => exact ⟨fun pins s σ H Q I h => by obtain ⟨F, env, ss, p⟩ := h; exact (show False from p).elim⟩
  | cons a r =>
    cases es with
    | nil => exact absurd (show false = true from o) (by decide)
    | cons e es =>
      have o : (notStar e && okE G a sc e && okL G r sc es) = true := o
      obtain ⟨o, o3⟩ := and2 o
      obtain ⟨o1, o2⟩ := and2 o
      cases es with
      | nil =>
        have z := sNil o3
        subst z
        exact or_one (sE a o2 K false)
      | cons e2 es2 =>
        cases r with
        | cons r1 r2 => exact or_cons (sE a o2 K true) (sOr (.cons r1 r2) o3 K)
        | nil => exact absurd (show false = true from o3) (by decide)
        | _ => exact absurd (show false = true from o3) (by decide)
  | _ => exact absurd (show false = true from o) (by decide)
theorem sT (c : C) {sc : Scope} {fn : Str → Bool} {W : WX} {X : Cx} {e : Expr} (o : okT G c sc e = true) (K : Cok G S ca fn sc W X) : PT X e (rdT S ca W X.K c) := by
  cases c with
  | cmp op a b => exact (q_cmp (t := true) K (show qCmp op (okE G a sc) (okE G b sc) e = true from o) (fun e o => sE a o K true) (fun e o => sE b o K true)).2
  | chain p1 p2 a b c => exact (q_chain (t := true) K (show qChain p1 p2 (okE G a sc) (okE G b sc) (okE G c sc) e = true from o) (fun e o => sE a o K true) (fun e o => sE b o K true) (fun e o => sE c o K true)).2
  | band es =>
    have o : qAnd (okTL G es sc) e = true := o
    unfold qAnd at o
    split at o
    · exact st_band (sTAnd es o K)
    · cases o
  | bor es =>
    have o : qOr (okTL G es sc) e = true := o
    unfold qOr at o
    split at o
    · exact st_bor (sTOr es o K)
    · cases o
  | bnot a =>
    have o : qNot (okT G a sc) e = true := o
    unfold qNot at o
    split at o
    · exact st_not (sT a o K)
    · cases o
  | call f es =>
    obtain ⟨o1, o2⟩ := and2 (show (plainT e && qCall G f (cLen es) sc (okL G es sc) e) = true from o)
    exact st_val (q_call K o2 (fun vs h => sL es h K false) (fun h => sNil h)) (plainT_ok o1 _)
  | calls fs k es =>
    obtain ⟨o1, o2⟩ := and2 (show (plainT e && qCalls G fs (cLen es) sc (okE G k sc) (okL G es sc) e) = true from o)
    exact st_val (q_calls K o2 (fun e o => sE k o K true) (fun vs h => sL es h K false)) (plainT_ok o1 _)
  | bi b es =>
    obtain ⟨o1, o2⟩ := and2 (show (plainT e && qBi G b sc (okL G es sc) e) = true from o)
    exact st_val (q_bi K o2 (fun vs h => sL es h K true) (fun ea h => sOne es h K)) (plainT_ok o1 _)
  | var i =>
    obtain ⟨o1, o2⟩ := and2 (show (plainT e && qVar G i sc e) = true from o)
    exact st_val (q_var K o2) (plainT_ok o1 _)
  | idx a b =>
    obtain ⟨o1, o2⟩ := and2 (show (plainT e && qIdx (okE G a sc) (okE G b sc) e) = true from o)
    exact st_val (q_idx o2 (fun e o => sE a o K true) (fun e o => sE b o K true)) (plainT_ok o1 _)
  | _ => exact absurd (show false = true from o) (by decide)
theorem sTAnd (c : C) {sc : Scope} {fn : Str → Bool} {W : WX} {X : Cx} {es : List Expr} {pos : Pos} (o : okTL G c sc es = true) (K : Cok G S ca fn sc W X) : PW X (.BoolOp .And es pos) (rdTAnd S ca W X.K c) := by
  cases c with
  | nil => exact ⟨fun wh pins s σ H Q I h => by obtain ⟨F, env, ss, p⟩ := h; exact (show False from p).elim⟩
  | cons a r =>
    cases es with
    | nil => exact absurd (show false = true from o) (by decide)
    | cons e es =>
      obtain ⟨o2, o3⟩ := and2 (show (okT G a sc e && okTL G r sc es) = true from o)
      cases es with
      | nil =>
        cases r with
        | nil => exact tand_one (sT a o2 K)
        | _ => exact absurd (show false = true from o3) (by decide)
      | cons e2 es2 =>
        cases r with
        | cons r1 r2 => exact tand_cons (sT a o2 K) (sTAnd (.cons r1 r2) o3 K)
        | nil => exact absurd (show false = true from o3) (by decide)
        | _ => exact absurd (show false = true from o3) (by decide)
  | _ => exact absurd (show false = true from o) (by decide)
theorem sTOr (c : C) {sc : Scope} {fn : Str → Bool} {W : WX} {X : Cx} {es : List Expr} {pos : Pos} (o : okTL G c sc es = true) (K : Cok G S ca fn sc W X) : PW X (.BoolOp .Or es pos) (rdTOr S ca W X.K c) := by
  cases c with
  | nil => exact ⟨fun wh pins s σ H Q I h => by obtain ⟨F, env, ss, p⟩ := h; exact (show False from p).elim⟩
  | cons a r =>
    cases es with
    | nil => exact absurd (show false = true from o) (by decide)
    | cons e es =>
      obtain ⟨o2, o3⟩ := and2 (show (okT G a sc e && okTL G r sc es) = true from o)
      cases es with
      | nil =>
        cases r with
        | nil => exact tor_one (sT a o2 K)
        | _ => exact absurd (show false = true from o3) (by decide)
      | cons e2 es2 =>
        cases r with
        | cons r1 r2 => exact tor_cons (sT a o2 K) (sTOr (.cons r1 r2) o3 K)
        | nil => exact absurd (show false = true from o3) (by decide)
        | _ => exact absurd (show false = true from o3) (by decide)
  | _ => exact absurd (show false = true from o) (by decide)
theorem sO (c : C) {sc : Scope} {fn : Str → Bool} {W : WX} {X : Cx} {e : Option Expr} (o : okO G c sc e = true) (K : Cok G S ca fn sc W X) : PO X e (rdO S ca W X.K c) := by
  cases c with
  | nil =>
    cases e with
    | none => exact so_none
    | some _ => exact absurd (show false = true from o) (by decide)
  | cons a r =>
    cases r with
    | nil =>
      cases e with
      | none => exact absurd (show false = true from o) (by decide)
      | some e => exact so_some (sE a o K true)
    | _ => exact absurd (show false = true from o) (by decide)
  | _ => exact absurd (show false = true from o) (by decide)
theorem sC (c : C) {sc : Scope} {fn : Str → Bool} {W : WX} {X : Cx} {es : List Expr} (o : okC G c sc es = true) (K : Cok G S ca fn sc W X) : PTs X es (rdC S ca W X.K c) := by
  cases c with
  | nil =>
    cases es with
    | nil => exact sc_nil
    | cons _ _ => exact absurd (show false = true from o) (by decide)
  | cons a r =>
    cases r with
    | nil =>
      have o : qOne (okT G a sc) es = true := o
      unfold qOne at o
      split at o
      · exact sc_one (sT a o K)
      · cases o
    | _ => exact absurd (show false = true from o) (by decide)
  | _ => exact absurd (show false = true from o) (by decide)
theorem sI (c : C) {sc : Scope} {fn : Str → Bool} {W : WX} {X : Cx} {tg e : Expr} (o : okI G c sc tg e = true) (K : Cok G S ca fn sc W X) : PI X tg e (rdI S ca W X.K c) := by
  cases c with
  | itm a => exact si_itm (sE a o K false)
  | enum a =>
    obtain ⟨o1, o2⟩ := and2 (show (isTup tg && qFn1 G "enumerate" sc (okE G a sc) e) = true from o)
    obtain ⟨y, p, ea, pos, rfl, h1, h2, h3, h4, h5⟩ := q_fn1 K o2
    unfold isTup at o1
    split at o1
    · exact si_enum h1 h2 h3 (sE a h5 K false) h4
    · cases o1
  | zip a b =>
    obtain ⟨o1, o2⟩ := and2 (show (isTup tg && qFn2 G "zip" sc (okE G a sc) (okE G b sc) e) = true from o)
    obtain ⟨y, p, ea, eb, pos, rfl, h1, h2, h3, h4, h5, h6, h7⟩ := q_fn2 K o2
    unfold isTup at o1
    split at o1
    · exact si_zip h1 h2 h3 (sE a h6 K false) (sE b h7 K false) h4 h5
    · cases o1
  | rng es =>
    cases es with
    | cons a r =>
      cases r with
      | nil =>
        obtain ⟨y, p, ea, pos, rfl, h1, h2, h3, h4, h5⟩ := q_fn1 K (show qFn1 G "range" sc (okE G a sc) e = true from o)
        exact si_rng1 h1 h2 h3 (sE a h5 K true) h4
      | cons b r2 =>
        cases r2 with
        | nil =>
          obtain ⟨y, p, ea, eb, pos, rfl, h1, h2, h3, h4, h5, h6, h7⟩ := q_fn2 K (show qFn2 G "range" sc (okE G a sc) (okE G b sc) e = true from o)
          exact si_rng2 h1 h2 h3 (sE a h6 K true) (sE b h7 K true) h4 h5
        | _ => exact absurd (show false = true from o) (by decide)
      | _ => exact absurd (show false = true from o) (by decide)
    | _ => exact absurd (show false = true from o) (by decide)
  | _ => exact absurd (show false = true from o) (by decide)
end
end
end Rf

set_option Elab.async false
set_option linter.all false
set_option maxHeartbeats 4000000
/-! Rf, part M: the checker of statements, and that it is sound. -/
namespace Rf
open PySem PySem.Spec PyProof.Rows L2

abbrev SB := Stmt → Bool
abbrev SsB := List Stmt → Bool
def okN (G : Gi) (c : C) (sc : Scope) : EB := match c with
  | .lst es => qLst (okL G es sc)
  | .lc tg it cond elt => okE G (.lc tg it cond elt) sc
  | .bin .add a b => qBin .add (okE G a sc) (okE G b sc)
  | .bin .mul a b => qBin .mul (okE G a sc) (okE G b sc)
  | _ => fun _ => false
/-- a name's place -/
def nmOk (G : Gi) (sc : Scope) (fn : Str → Bool) (i : Nat) (x : Str) : Bool := decide (G.N[i]? = some x) && isL sc x && (fn x || isLoc sc x)
def isLC : EB := fun e => match e with | .ListComp _ _ _ _ => true | _ => false
def qAsg (G : Gi) (fn : Str → Bool) (i : Nat) (own : Bool) (e : C) (sc : Scope) : SB := fun s => match s with
  | .Assign [.Name x _] ee _ => nmOk G sc fn i x && (notComp ee || isLC ee) && (if own then okN G e sc ee else okE G e sc ee)
  | _ => false
def qUnp (G : Gi) (fn : Str → Bool) (tg : C) (a : EB) (sc : Scope) : SB := fun s => match s with
  | .Assign [.Tuple ts k p] ee _ => tgOk G.N fn sc tg (.Tuple ts k p) && notTup ee && a ee
  | _ => false
def okP (G : Gi) : C → List Bool → Scope → LB
  | .nil, [], _ => fun vs => vs.isEmpty
  | .cons h t, o :: os, sc => qCons (match o with | true => okN G h sc | false => okE G h sc) (okP G t os sc)
  | _, _, _ => fun _ => false
/-- which stores are exchanged -/
def swN (sc : Scope) (l : Nat) : List Expr → Option (List Str)
  | [] => some []
  | .Name x p :: es => if isLoc sc x && p.line == l then (swN sc l es).map (x :: ·) else none
  | _ :: _ => none
def headLine (ts : List Expr) : Nat := (ts.head?.map (·.pos.line)).getD 0
def fNm (sc : Scope) (l : Nat) : Expr → Option Str
  | .Name id pos => if isLoc sc id && pos.line == l then some id else none
  | _ => none
/-- no stores are exchanged -/
def parN (sc : Scope) (ts vs : List Expr) : Bool := vs.all (foldedForSure 8) || decide ((ts.filterMap (fNm sc (headLine ts))).length ≠ ts.length) || decide (3 < ts.length)
/-- the stores are exchanged -/
def parS (sc : Scope) (ts vs : List Expr) : Bool := !vs.all (constantsAlone 8) && !vs.all (foldedForSure 8) && (match ts with
    | [.Name x px, .Name y py] => isLoc sc x && isLoc sc y && (px.line == py.line) && !(x == y) && decide (vs.length = 2)
    | [.Name x px, .Name y py, .Name z pz] => isLoc sc x && isLoc sc y && isLoc sc z && (px.line == py.line) && (px.line == pz.line) && !(x == y) && !(x == z) && !(y == z) && decide (vs.length = 3)
    | _ => false)
def qPar (G : Gi) (fn : Str → Bool) (tg : C) (own : List Bool) (es : C) (sc : Scope) : SB := fun s => match s with
  | .Assign [.Tuple ts _ _] (.Tuple vs _ _) _ => tgsOk G.N fn sc tg ts && vs.all notStar && decide (cLen tg ≤ 1000) && okP G es own sc vs && (parN sc ts vs || parS sc ts vs)
  | _ => false
def qExp (a : EB) : SB := fun s => match s with | .Expr ee _ => notComp ee && a ee | _ => false
def qMeth (G : Gi) (nm : Str) (i : Nat) (sc : Scope) (a : EB) : SB := fun s => match s with
  | .Expr (.Call (.Attribute (.Name x _) m apos) [ee] [] cpos) _ => decide (m = nm) && decide (G.N[i]? = some x) && isV sc x && (apos.endLine == cpos.line) && notStar ee && a ee
  | _ => false
def qRet (a : EB) : SB := fun s => match s with | .Return (some ee) _ => a ee | _ => false
def qRaise (G : Gi) (x : Str) (sc : Scope) : SB := fun s => match s with
  | .Raise (some (.Call (.Name y _) [.Constant (.str _) _ _] [] _)) none _ => decide (y = x) && isG sc y && G.excs.contains y
  | _ => false
def qTry (G : Gi) (x : Str) (ei fi : Nat) (gs : List (List Str)) (sc : Scope) (b : SsB) : SB := fun s => match s with
  | .Try body [.ExceptHandler (some (.Name y _)) (some n) (b0 :: suite) _] [] [] _ => decide (y = x) && isG sc y && G.excs.contains y && decide (G.N[ei]? = some n) && isLoc sc n && isV sc n && decide (G.N[fi]? = some (G.N[fi]?.getD "")) && isLoc sc (G.N[fi]?.getD "") && isV sc (G.N[fi]?.getD "") && !decide (ei = fi) &&
      isG sc "isinstance" && G.free.contains "isinstance" && gs.flatten.all (fun f => isG sc f && G.excs.contains f) && decide (gs.flatten.length ≤ 1000) && suiteOk n (G.N[fi]?.getD "") gs (b0 :: suite) && b body
  | _ => false
def qIff (c : EB) (a b : SsB) : SB := fun s => match s with | .If ec as bs _ => c ec && a as && b bs | _ => false
def qFor (G : Gi) (fn : Str → Bool) (tg : C) (it : Expr → EB) (b : SsB) (sc : Scope) : SB := fun s => match s with
  | .For etg eit body [] _ => tgOk G.N fn sc tg etg && notSet eit && it etg eit && b body
  | _ => false
def qWhile (c : EB) (b : SsB) : SB := fun s => match s with | .While ec body [] _ => c ec && b body | _ => false
def qSeq (a : SB) (b : SsB) : SsB := fun s => match s with | st :: rest => a st && b rest | [] => false
mutual
def okS (G : Gi) (fn : Str → Bool) (sc : Scope) : C → SB
  | .asg i own e => qAsg G fn i own e sc
  | .unp tg e => qUnp G fn tg (okE G e sc) sc
  | .par tg own es => qPar G fn tg own es sc
  | .iff c a b => qIff (okT G c sc) (okSs G fn sc a) (okSs G fn sc b)
  | .for_ tg it body => qFor G fn tg (okI G it sc) (okSs G fn sc body) sc
  | .while_ c body => qWhile (okT G c sc) (okSs G fn sc body)
  | .ret e => qRet (okE G e sc)
  | .app i e => qMeth G "append" i sc (okE G e sc)
  | .ext i e => qMeth G "extend" i sc (okE G e sc)
  | .exp e => qExp (okE G e sc)
  | .raise x => qRaise G x sc
  | .tryx x ei fi gs body => qTry G x ei fi gs sc (okSs G fn sc body)
  | _ => fun _ => false
def okSs (G : Gi) (fn : Str → Bool) (sc : Scope) : C → SsB
  | .skip => fun ss => ss.isEmpty
  | .seq a b => qSeq (okS G fn sc a) (okSs G fn sc b)
  | .fz _ r => okSs G fn sc r
  | _ => fun _ => false
end

/-- what is known of an exception class -/
def ExcOk (X : Cx) (ca : ExA) (x : Str) : Prop := ∃ (C : Addr) (B newId initId : String) (bmB : List Value), ExcBaseFacts B newId initId bmB ∧ PySem.W.excIn X.K C bmB newId = true ∧ X.mg x = some (.ref C) ∧ PySem.W.keepIn X.K (.ref C) = true ∧ Raises X (.ref C) ∧ ca x = some C
structure Sok (G : Gi) (S : Sig) (ca : ExA) (fn : Str → Bool) (sc : Scope) (W : WX) (X : Cx) : Prop extends Cok G S ca fn sc W X where
  po : PassesOwn (model X.prog X.w) X.A X.env X.xe
  exc : ∀ x, G.excs.contains x = true → ExcOk X ca x
  stk : X.stack = X.env :: X.outer
  frm : X.env.frame = some X.env.locals
  caE : ∀ n D, ca n = some D → G.excs.contains n = true
  exm : ∀ n x, G.excs.contains n = true → G.excs.contains x = true → ∃ D C, ca n = some D ∧ X.mg x = some (.ref C) ∧ PySem.W.exmOne X.K (.ref D) (.ref C) = some (S.sub n x) ∧ PySem.W.kitOne X.K (.ref D) (.ref C) = some (S.sub n x) ∧ ExcC X.K D
theorem Sok.tr {G : Gi} {S : Sig} {ca : ExA} {fn : Str → Bool} {sc : Scope} {W W' : WX} {X : Cx} (K : Sok G S ca fn sc W X) {pn : List (Addr × Obj)} {xe : Value → Shared → Prop} (tk : Takes (X.tr pn xe) W') (po : PassesOwn (model X.prog X.w) X.A X.env xe) : Sok G S ca fn sc W' (X.tr pn xe) :=
  { N := K.N, nd := K.nd, hsc := K.hsc, kind := K.kind, fn := K.fn, calm := K.calm, units := K.units, tk := tk, free := K.free, glob := K.glob, defs := K.defs, po := po, exc := K.exc, stk := K.stk, frm := K.frm, caE := K.caE, exm := K.exm }
section
variable {G : Gi} {S : Sig} {ca : ExA} {sc : Scope} {fn : Str → Bool} {W : WX} {X : Cx} {fuel : Nat} {L F0 H0 : Hp}
theorem sN {c : C} {e : Expr} (o : okN G c sc e = true) (K : Cok G S ca fn sc W X) : PE X e (rdN S ca W X.K c) := by
  unfold okN at o
  split at o
  · rename_i es
    unfold qLst at o
    split at o
    · exact sn_lst (sL es o K false)
    · cases o
  · rename_i tg it cond elt
    obtain ⟨eelt, etg, eit, ifs, scope, pos, rfl, h1, h2, h3, h4, h5, h6⟩ := q_lc (it := it) (cond := cond) (elt := elt) K (show qLc G tg sc (okI G it sc) (fun s => okC G cond s) (fun s => okE G elt s) e = true from o) (fun tg e o => sI it o K) (fun o K => sC cond o K) (fun o K => sE elt o K false)
    exact sn_lc K.calm K.nd h1 h2 own_vars h3 h4 h5 h6
  · rename_i a b
    unfold qBin at o
    split at o
    · obtain ⟨o, o3⟩ := and2 o
      obtain ⟨o1, o2⟩ := and2 o
      rw [of_decide_eq_true o1]
      exact sn_add (sE a o2 K true) (sE b o3 K true)
    · cases o
  · rename_i a b
    unfold qBin at o
    split at o
    · obtain ⟨o, o3⟩ := and2 o
      obtain ⟨o1, o2⟩ := and2 o
      rw [of_decide_eq_true o1]
      exact sn_mul (sE a o2 K true) (sE b o3 K true)
    · cases o
  · cases o
theorem sw_none {e : Expr} (h : notComp e = true) (t : Option Expr) (l : Nat) (env : PySem.Env) : swapsWith e t l env = pure false := by
  cases e <;> first
    | (cases h; done)
    | rfl
theorem sw_lc {elt : Expr} {gs : List Comprehension} {scope : Scope} {pos py : Pos} {y : Str} {l : Nat} {env : PySem.Env} (hk : env.scope.kind = .function) :
    swapsWith (.ListComp elt gs scope pos) (some (.Name y py)) l env = pure true ∧ env.scope.names.lookup y = some .local ∨ swapsWith (.ListComp elt gs scope pos) (some (.Name y py)) l env = pure false := by
  have hb : env.blockKind = .function := by unfold Env.blockKind; rw [hk]; rfl
  by_cases hy : env.scope.names.lookup y = some .local
  · by_cases hl : (py.line == pos.line) = true
    · cases ha : (scope.names.any fun (n, k) => n == y && (k == .local || k == .cell)) with
      | false => exact .inl ⟨sw_true hk hy hl ha, hy⟩
      | true =>
        refine .inr ?_
        unfold swapsWith
        simp only [hb, ha]
        simp
    · refine .inr ?_
      unfold swapsWith
      simp only [Expr.pos]
      rw [Bool.not_eq_true] at hl
      simp [hl]
  · refine .inr ?_
    unfold swapsWith
    have : (env.kindOf y == some .local) = false := by
      show (env.scope.names.lookup y == some .local) = false
      exact beq_eq_false_iff_ne.mpr hy
    simp [this]
theorem q_asg {i : Nat} {own : Bool} {e : C} {st : Stmt} (o : qAsg G fn i own e sc st = true) (K : Sok G S ca fn sc W X) : PS X st (rdS S fuel ca W X.K L F0 H0 (.asg i own e)) := by
  unfold qAsg at o
  split at o
  · rename_i x px ee pos
    obtain ⟨o, o3⟩ := and2 o
    obtain ⟨o1, o2⟩ := and2 o
    unfold nmOk at o1
    obtain ⟨o1, n3⟩ := and2 o1
    obtain ⟨n1, n2⟩ := and2 o1
    have hs : X.env.scope.kind = .function := by rw [K.hsc]; exact K.kind
    have lc : ∀ {tg it cond elt}, e = .lc tg it cond elt → isLC ee = true → okE G (.lc tg it cond elt) sc ee = true → PS X (.Assign [.Name x px] ee pos) (rdS S fuel ca W X.K L F0 H0 (.asg i own e)) := fun {tg it cond elt} he hl o' => by
      subst he
      obtain ⟨eelt, etg, eit, ifs, scope, p2, rfl, h1, h2, h3, h4, h5, h6⟩ := q_lc (it := it) (cond := cond) (elt := elt) K.toCok (show qLc G tg sc (okI G it sc) (fun s => okC G cond s) (fun s => okE G elt s) ee = true from o') (fun tg e o => sI it o K.toCok) (fun o K => sC cond o K) (fun o K => sE elt o K false)
      rcases sw_lc (elt := eelt) (gs := [⟨etg, eit, ifs, 0⟩]) (scope := scope) (pos := p2) (py := px) (y := x) (l := pos.line) hs with ⟨w, l⟩ | w
      · exact ss_setLc K.calm K.nd (K.at n1) l w h1 h2 own_vars h3 h4 h5 h6 own
      · have n := sn_lc (W := W) K.calm K.nd h1 h2 own_vars h3 h4 h5 h6 (pos := p2)
        cases own with
        | true => exact ss_asgN K.nd (K.at n1) (K.loc n2) n w (K.hf n3)
        | false => exact ss_asg K.nd (K.at n1) (K.loc n2) (se_lc n) w (K.hf n3)
    rw [Bool.or_eq_true] at o2
    cases own with
    | true =>
      rcases o2 with o2 | o2
      · exact ss_asgN K.nd (K.at n1) (K.loc n2) (sN o3 K.toCok) (sw_none o2 _ _ _) (K.hf n3)
      · have o3 : okN G e sc ee = true := o3
        cases ee with
        | ListComp eelt gs scope p2 =>
          cases e with
          | lc tg it cond elt => exact lc rfl o2 o3
          | bin b _ _ => cases b <;> exact absurd (show false = true from o3) (by decide)
          | _ => exact absurd (show false = true from o3) (by decide)
        | _ => cases o2
    | false =>
      rcases o2 with o2 | o2
      · exact ss_asg K.nd (K.at n1) (K.loc n2) (sE e o3 K.toCok false) (sw_none o2 _ _ _) (K.hf n3)
      · have o3 : okE G e sc ee = true := o3
        cases ee with
        | ListComp eelt gs scope p2 =>
          cases e with
          | lc tg it cond elt => exact lc rfl o2 o3
          | bi b _ => cases b <;> exact absurd (show false = true from o3) (by decide)
          | _ => exact absurd (show false = true from o3) (by decide)
        | _ => cases o2
  · cases o
theorem sP : ∀ (c : C) (own : List Bool) {es : List Expr}, okP G c own sc es = true → Cok G S ca fn sc W X → PA X es (rdP S ca W X.K L F0 H0 c own)
  | .nil, [], es, o, K => by
    cases es with
    | nil => exact sp_nil
    | cons _ _ => exact absurd (show false = true from o) (by decide)
  | .cons h t, ow :: os, es, o, K => by
    cases es with
    | nil => exact absurd (show false = true from o) (by decide)
    | cons e es =>
      have o : (notStar e && (match ow with | true => okN G h sc | false => okE G h sc) e && okP G t os sc es) = true := o
      obtain ⟨o, o3⟩ := and2 o
      obtain ⟨o1, o2⟩ := and2 o
      cases ow with
      | true => exact sp_consN (sN o2 K) (sP t os o3 K) o1
      | false => exact sp_cons (sE h o2 K false) (sP t os o3 K) o1
theorem not_star_any {vs : List Expr} (h : vs.all notStar = true) : (vs.any fun | .Starred .. => true | _ => false) = false := by
  induction vs with
  | nil => rfl
  | cons v vs ih =>
    rw [List.all_cons, Bool.and_eq_true] at h
    rw [List.any_cons, ih h.2]
    cases v <;> first
      | rfl
      | (cases h.1; done)
theorem kindOf_l {env : PySem.Env} {x : Str} (h : env.scope.names.lookup x = some .local) : (env.kindOf x == some NameKind.local) = true := by
  show (env.scope.names.lookup x == some .local) = true
  rw [h]; rfl
theorem swS2 {env : PySem.Env} {x y : Str} {px py pt pt2 : Pos} {kt k2 : Nat} {vs : List Expr} (hk : env.scope.kind = .function) (hx : env.scope.names.lookup x = some .local) (hy : env.scope.names.lookup y = some .local) (hl : (px.line == py.line) = true) (hn : (x == y) = false) (hv : vs.length = 2)
    (h1 : vs.all notStar = true) (h2 : vs.all (constantsAlone 8) = false) (h3 : vs.all (foldedForSure 8) = false) :
    swappedStores [.Tuple [.Name x px, .Name y py] kt pt] (.Tuple vs k2 pt2) env = pure (some [x, y]) := by
  have hb : env.blockKind = .function := by unfold Env.blockKind; rw [hk]; rfl
  have hl2 : (py.line == px.line) = true := by rw [beq_iff_eq] at hl ⊢; exact hl.symm
  have hn2 : (y == x) = false := by rw [beq_eq_false_iff_ne] at hn ⊢; exact fun z => hn z.symm
  unfold swappedStores
  simp only [hb, hv, not_star_any h1, h2, h3, List.head?_cons, Option.map_some, Option.getD_some, Expr.pos, List.filterMap_cons, List.filterMap_nil, kindOf_l hx, kindOf_l hy, hl2, List.length_cons, List.length_nil]
  simp [List.eraseDups_cons, hn2]
  exact fun v hv hs => by have := List.all_eq_true.mp h1 v hv; cases v <;> first | (cases hs; done) | (cases this; done)
theorem swS3 {env : PySem.Env} {x y z : Str} {px py pz pt pt2 : Pos} {kt k2 : Nat} {vs : List Expr} (hk : env.scope.kind = .function) (hx : env.scope.names.lookup x = some .local) (hy : env.scope.names.lookup y = some .local) (hz : env.scope.names.lookup z = some .local)
    (hl : (px.line == py.line) = true) (hm : (px.line == pz.line) = true) (hn : (x == y) = false) (ho : (x == z) = false) (hp : (y == z) = false) (hv : vs.length = 3)
    (h1 : vs.all notStar = true) (h2 : vs.all (constantsAlone 8) = false) (h3 : vs.all (foldedForSure 8) = false) :
    swappedStores [.Tuple [.Name x px, .Name y py, .Name z pz] kt pt] (.Tuple vs k2 pt2) env = pure (some [x, y, z]) := by
  have hb : env.blockKind = .function := by unfold Env.blockKind; rw [hk]; rfl
  have hl2 : (py.line == px.line) = true := by rw [beq_iff_eq] at hl ⊢; exact hl.symm
  have hm2 : (pz.line == px.line) = true := by rw [beq_iff_eq] at hm ⊢; exact hm.symm
  have hn2 : (y == x) = false := by rw [beq_eq_false_iff_ne] at hn ⊢; exact fun z => hn z.symm
  have ho2 : (z == x) = false := by rw [beq_eq_false_iff_ne] at ho ⊢; exact fun z => ho z.symm
  have hp2 : (z == y) = false := by rw [beq_eq_false_iff_ne] at hp ⊢; exact fun z => hp z.symm
  unfold swappedStores
  simp only [hb, hv, not_star_any h1, h2, h3, List.head?_cons, Option.map_some, Option.getD_some, Expr.pos, List.filterMap_cons, List.filterMap_nil, kindOf_l hx, kindOf_l hy, kindOf_l hz, hl2, hm2, List.length_cons, List.length_nil]
  simp [List.eraseDups_cons, hn2, ho2, hp2]
  exact fun v hv hs => by have := List.all_eq_true.mp h1 v hv; cases v <;> first | (cases hs; done) | (cases this; done)
theorem swS0 {env : PySem.Env} {pt pt2 : Pos} {kt k2 : Nat} {ts vs : List Expr} (h : 3 < ts.length) : swappedStores [.Tuple ts kt pt] (.Tuple vs k2 pt2) env = pure none := by
  unfold swappedStores
  have e : (!(ts.length == 2 || ts.length == 3)) = true := by
    have : ts.length ≠ 2 := by omega
    have : ts.length ≠ 3 := by omega
    simp [*]
  simp [e]
theorem kind_isLoc {env : PySem.Env} {id : Str} : (env.kindOf id == some NameKind.local) = isLoc env.scope id := by
  show (env.scope.names.lookup id == some .local) = _
  unfold isLoc
  split
  · rename_i q; rw [q]; rfl
  · rename_i q
    exact beq_eq_false_iff_ne.mpr q
theorem swS00 {env : PySem.Env} {pt pt2 : Pos} {kt k2 : Nat} {ts vs : List Expr} (h : parN env.scope ts vs = true) : swappedStores [.Tuple ts kt pt] (.Tuple vs k2 pt2) env = pure none := by
  unfold parN at h
  rw [Bool.or_eq_true, Bool.or_eq_true] at h
  rcases h with (h | h) | h
  · unfold swappedStores
    simp only [h]
    split
    · rfl
    · split
      · rfl
      · split
        · rfl
        · rfl
  · have h := of_decide_eq_true h
    have e : ∀ x : Expr, (match x with | .Name id pos => if env.kindOf id == some NameKind.local && pos.line == headLine ts then some id else none | _ => none) = fNm env.scope (headLine ts) x := fun x => by
      unfold fNm
      split
      · rw [kind_isLoc]
      · rfl
    have e2 : (ts.filterMap fun x => match x with | .Name id pos => if env.kindOf id == some NameKind.local && pos.line == headLine ts then some id else none | _ => none) = ts.filterMap (fNm env.scope (headLine ts)) := by
      congr 1
      funext x
      exact e x
    have e3 : ((ts.filterMap (fNm env.scope (headLine ts))).length != ts.length) = true := by simpa using h
    unfold swappedStores
    dsimp only
    split
    · rfl
    · split
      · rfl
      · refine if_pos ?_
        show ((ts.filterMap fun x => match x with | .Name id pos => if env.kindOf id == some NameKind.local && pos.line == headLine ts then some id else none | _ => none).length != ts.length || _) = true
        rw [e2, e3, Bool.true_or]
  · exact swS0 (of_decide_eq_true h)
theorem q_par {tg : C} {own : List Bool} {es : C} {st : Stmt} (o : qPar G fn tg own es sc st = true) (K : Sok G S ca fn sc W X) : PS X st (rdS S fuel ca W X.K L F0 H0 (.par tg own es)) := by
  unfold qPar at o
  split at o
  · rename_i ts kt pt vs k2 pt2 pos
    replace o := and2 o; obtain ⟨o, oo⟩ := o
    replace o := and2 o; obtain ⟨o, o4⟩ := o
    replace o := and2 o; obtain ⟨o, o3⟩ := o
    replace o := and2 o; obtain ⟨o1, o2⟩ := o
    have ha := sP (L := L) (F0 := F0) (H0 := H0) es own o4 K.toCok
    have hk : X.env.scope.kind = .function := by rw [K.hsc]; exact K.kind
    rw [Bool.or_eq_true] at oo
    rcases oo with oo | oo
    · obtain ⟨i1, i2, i3⟩ := tgs_ok K.toCok o1
      exact ss_parN K.calm i1 i2 i3 (of_decide_eq_true o3) ha (swS00 (by rw [K.hsc]; exact oo))
    unfold parS at oo
    replace oo := and2 oo; obtain ⟨oo, o7⟩ := oo
    replace oo := and2 oo; obtain ⟨o5, o6⟩ := oo
    have o5 := nt o5
    have o6 := nt o6
    split at o7
    · rename_i x px y py
      replace o7 := and2 o7; obtain ⟨o7, r5⟩ := o7
      replace o7 := and2 o7; obtain ⟨o7, r4⟩ := o7
      replace o7 := and2 o7; obtain ⟨o7, r3⟩ := o7
      replace o7 := and2 o7; obtain ⟨r1, r2⟩ := o7
      have r4 := nt r4
      have r5 := of_decide_eq_true r5
      have lx : X.env.scope.names.lookup x = some .local := by rw [K.hsc]; exact isLoc_eq r1
      have ly : X.env.scope.names.lookup y = some .local := by rw [K.hsc]; exact isLoc_eq r2
      have w := swS2 (kt := kt) (pt := pt) (k2 := k2) (pt2 := pt2) hk lx ly r3 r4 r5 o2 o5 o6
      match vs, r5, ha, w with
      | [va, vb], _, ha, w =>
        cases tg with
        | cons t1 r =>
          cases t1 with
          | var i =>
            have o1 : (decide (G.N[i]? = some x) && isL sc x && (fn x || isLoc sc x) && tgsOk G.N fn sc r [.Name y py]) = true := o1
            obtain ⟨o1, s1⟩ := and2 o1
            cases r with
            | cons t2 r2 =>
              cases t2 with
              | var j =>
                have s1 : (decide (G.N[j]? = some y) && isL sc y && (fn y || isLoc sc y) && tgsOk G.N fn sc r2 []) = true := s1
                obtain ⟨s1, s2⟩ := and2 s1
                have hi := K.at (and2 (and2 (and2 o1).1).1).1
                have hj := K.at (and2 (and2 s1).1).1
                cases r2 with
                | nil =>
                  refine ss_par2 K.calm K.nd hi hj (fun z => ?_) lx ly ha w
                  subst z
                  rw [hi] at hj
                  cases hj
                  simp at r4
                | cons _ _ => exact absurd (tgs_ok K.toCok s2).2.1 (by simp [cLen])
                | _ => exact absurd (show false = true from s2) (by decide)
              | _ => exact absurd (show false = true from s1) (by decide)
            | _ => exact absurd (show false = true from s1) (by decide)
          | _ => exact absurd (show false = true from o1) (by decide)
        | _ => exact absurd (show false = true from o1) (by decide)
    · rename_i x px y py z pz
      replace o7 := and2 o7; obtain ⟨o7, q9⟩ := o7
      replace o7 := and2 o7; obtain ⟨o7, q8⟩ := o7
      replace o7 := and2 o7; obtain ⟨o7, q7⟩ := o7
      replace o7 := and2 o7; obtain ⟨o7, q6⟩ := o7
      replace o7 := and2 o7; obtain ⟨o7, q5⟩ := o7
      replace o7 := and2 o7; obtain ⟨o7, q4⟩ := o7
      replace o7 := and2 o7; obtain ⟨o7, q3⟩ := o7
      replace o7 := and2 o7; obtain ⟨q1, q2⟩ := o7
      have q6 := nt q6
      have q7 := nt q7
      have q8 := nt q8
      have q9 := of_decide_eq_true q9
      have lx : X.env.scope.names.lookup x = some .local := by rw [K.hsc]; exact isLoc_eq q1
      have ly : X.env.scope.names.lookup y = some .local := by rw [K.hsc]; exact isLoc_eq q2
      have lz : X.env.scope.names.lookup z = some .local := by rw [K.hsc]; exact isLoc_eq q3
      have w := swS3 (kt := kt) (pt := pt) (k2 := k2) (pt2 := pt2) hk lx ly lz q4 q5 q6 q7 q8 q9 o2 o5 o6
      match vs, q9, ha, w with
      | [va, vb, vc], _, ha, w =>
        cases tg with
        | cons t1 r =>
          cases t1 with
          | var i =>
            have o1 : (decide (G.N[i]? = some x) && isL sc x && (fn x || isLoc sc x) && tgsOk G.N fn sc r [.Name y py, .Name z pz]) = true := o1
            obtain ⟨o1, s1⟩ := and2 o1
            cases r with
            | cons t2 r2 =>
              cases t2 with
              | var j =>
                have s1 : (decide (G.N[j]? = some y) && isL sc y && (fn y || isLoc sc y) && tgsOk G.N fn sc r2 [.Name z pz]) = true := s1
                obtain ⟨s1, s2⟩ := and2 s1
                cases r2 with
                | cons t3 r3 =>
                  cases t3 with
                  | var l =>
                    have s2 : (decide (G.N[l]? = some z) && isL sc z && (fn z || isLoc sc z) && tgsOk G.N fn sc r3 []) = true := s2
                    obtain ⟨s2, s3⟩ := and2 s2
                    have hi := K.at (and2 (and2 (and2 o1).1).1).1
                    have hj := K.at (and2 (and2 (and2 s1).1).1).1
                    have hl := K.at (and2 (and2 s2).1).1
                    cases r3 with
                    | nil =>
                      refine ss_par3 K.calm K.nd hi hj hl (fun z => ?_) (fun z => ?_) (fun z => ?_) lx ly lz ha w
                      · subst z
                        rw [hi] at hj
                        cases hj
                        simp at q6
                      · subst z
                        rw [hi] at hl
                        cases hl
                        simp at q7
                      · subst z
                        rw [hj] at hl
                        cases hl
                        simp at q8
                    | cons _ _ => exact absurd (tgs_ok K.toCok s3).2.1 (by simp [cLen])
                    | _ => exact absurd (show false = true from s3) (by decide)
                  | _ => exact absurd (show false = true from s2) (by decide)
                | _ => exact absurd (show false = true from s2) (by decide)
              | _ => exact absurd (show false = true from s1) (by decide)
            | _ => exact absurd (show false = true from s1) (by decide)
          | _ => exact absurd (show false = true from o1) (by decide)
        | _ => exact absurd (show false = true from o1) (by decide)
    · cases o7
  · cases o
theorem firstTrue_noexc {n : Str} : ∀ {bs : List Bool}, firstTrue bs ≠ .exc n
  | [] => fun z => nomatch z
  | true :: _ => fun z => nomatch z
  | false :: r => bind_noexc (firstTrue_noexc (bs := r)) fun d z => by cases d <;> cases z
mutual
theorem sS (c : C) {W : WX} {X : Cx} {st : Stmt} (o : okS G fn sc c st = true) (K : Sok G S ca fn sc W X) (L : Hp) : PS X st (rdS S fuel ca W X.K L F0 H0 c) := by
  cases c with
  | asg i own e => exact q_asg (show qAsg G fn i own e sc st = true from o) K
  | unp tg e =>
    have o : qUnp G fn tg (okE G e sc) sc st = true := o
    unfold qUnp at o
    split at o
    · replace o := and2 o; obtain ⟨o, o3⟩ := o
      replace o := and2 o; obtain ⟨o1, o2⟩ := o
      refine ss_unp (sE e o3 K.toCok false) (tg_ok K.toCok o1) ?_ ?_ rfl
      · rename_i ts k p ee pos
        cases ee <;> rfl
      · rename_i ts k p ee pos
        cases ee <;> first
          | (cases o2; done)
          | rfl
    · cases o
  | par tg own es => exact q_par (show qPar G fn tg own es sc st = true from o) K
  | iff c a b =>
    have o : qIff (okT G c sc) (okSs G fn sc a) (okSs G fn sc b) st = true := o
    unfold qIff at o
    split at o
    · obtain ⟨o, o3⟩ := and2 o
      obtain ⟨o1, o2⟩ := and2 o
      exact ss_if (sT c o1 K.toCok) (sSs a o2 K L) (sSs b o3 K L)
    · cases o
  | for_ tg it body =>
    have o : qFor G fn tg (okI G it sc) (okSs G fn sc body) sc st = true := o
    unfold qFor at o
    split at o
    · obtain ⟨o, o4⟩ := and2 o
      obtain ⟨o, o3⟩ := and2 o
      obtain ⟨o1, o2⟩ := and2 o
      exact ss_for K.po K.calm (sI it o3 K.toCok) (tg_ok K.toCok o1) (fun L => sSs body o4 K L) (notSet_ok o2 _)
    · cases o
  | while_ c body =>
    have o : qWhile (okT G c sc) (okSs G fn sc body) st = true := o
    unfold qWhile at o
    split at o
    · obtain ⟨o1, o2⟩ := and2 o
      exact ss_while K.po (sT c o1 K.toCok) (fun L => sSs body o2 K L)
    · cases o
  | ret e =>
    have o : qRet (okE G e sc) st = true := o
    unfold qRet at o
    split at o
    · exact ss_ret (sE e o K.toCok false)
    · cases o
  | app i e =>
    have o : qMeth G "append" i sc (okE G e sc) st = true := o
    unfold qMeth at o
    split at o
    · obtain ⟨o, o6⟩ := and2 o
      obtain ⟨o, o5⟩ := and2 o
      obtain ⟨o, o4⟩ := and2 o
      obtain ⟨o, o3⟩ := and2 o
      obtain ⟨o1, o2⟩ := and2 o
      have o1 := of_decide_eq_true o1
      subst o1
      obtain ⟨v1, v2, v3⟩ := K.vis o3
      exact ss_app (p2 := ⟨0, 0, 0, 0⟩) (pe_var (K.at o2) v1 v2 v3) (sE e o6 K.toCok false) o5 o4
    · cases o
  | ext i e =>
    have o : qMeth G "extend" i sc (okE G e sc) st = true := o
    unfold qMeth at o
    split at o
    · obtain ⟨o, o6⟩ := and2 o
      obtain ⟨o, o5⟩ := and2 o
      obtain ⟨o, o4⟩ := and2 o
      obtain ⟨o, o3⟩ := and2 o
      obtain ⟨o1, o2⟩ := and2 o
      have o1 := of_decide_eq_true o1
      subst o1
      obtain ⟨v1, v2, v3⟩ := K.vis o3
      exact ss_ext (p2 := ⟨0, 0, 0, 0⟩) (pe_var (K.at o2) v1 v2 v3) (sE e o6 K.toCok false) o5 o4
    · cases o
  | exp e =>
    have o : qExp (okE G e sc) st = true := o
    unfold qExp at o
    split at o
    · obtain ⟨o1, o2⟩ := and2 o
      exact ss_exp (sE e o2 K.toCok false) (sw_none o1 _ _ _)
    · cases o
  | raise x =>
    have o : qRaise G x sc st = true := o
    unfold qRaise at o
    split at o
    · obtain ⟨o, o3⟩ := and2 o
      obtain ⟨o1, o2⟩ := and2 o
      have o1 := of_decide_eq_true o1
      subst o1
      obtain ⟨C, B, newId, initId, bmB, FB, q, gC, kC, r, hca⟩ := K.exc _ o3
      exact ss_raise FB q gC kC r (K.gl o2).1 (K.gl o2).2 K.calm K.tk hca
    · cases o
  | tryx x ei fi gs body =>
    have o : qTry G x ei fi gs sc (okSs G fn sc body) st = true := o
    unfold qTry at o
    split at o
    · rename_i bodyS y py n b0 suite p1 pos _
      replace o := and2 o; obtain ⟨o, o16⟩ := o
      replace o := and2 o; obtain ⟨o, o15⟩ := o
      replace o := and2 o; obtain ⟨o, o14⟩ := o
      replace o := and2 o; obtain ⟨o, o13⟩ := o
      replace o := and2 o; obtain ⟨o, o12⟩ := o
      replace o := and2 o; obtain ⟨o, o11⟩ := o
      replace o := and2 o; obtain ⟨o, o10⟩ := o
      replace o := and2 o; obtain ⟨o, o9⟩ := o
      replace o := and2 o; obtain ⟨o, o8⟩ := o
      replace o := and2 o; obtain ⟨o, o7⟩ := o
      replace o := and2 o; obtain ⟨o, o6⟩ := o
      replace o := and2 o; obtain ⟨o, o5⟩ := o
      replace o := and2 o; obtain ⟨o, o4⟩ := o
      replace o := and2 o; obtain ⟨o, o3⟩ := o
      replace o := and2 o; obtain ⟨o1, o2⟩ := o
      have o1 := of_decide_eq_true o1
      subst o1
      obtain ⟨C0, B0, nw0, in0, bm0, _, _, g0, _, _, hca0⟩ := K.exc _ o3
      have hln : X.env.kindOf n = some .local := by show X.env.scope.names.lookup n = _; rw [K.hsc]; exact isLoc_eq o5
      refine (ps_try_as (i := ei) (c := .ref C0) (Wout := W) (tb := fun W' => rdS S fuel ca W' X.K L F0 H0 body) (ts := fun a cls d De σ H => ∃ D n', cls = .ref D ∧ d = none ∧ ca n' = some D ∧ tSuite (S.sub n') ei fi a gs De σ H) K.stk K.frm K.nd (K.at o4) hln ⟨(K.gl o2).1, (K.gl o2).2, .inl g0⟩ K.tk
        (fun W' pn xe tk' po' => sSs body o16 (K.tr tk' po') L) (fun a oe cls d pn hz hv => ⟨fun pins s σ H De I hh => ?_⟩)).imp fun De σ H h => ?_
      · obtain ⟨D, n', rfl, rfl, hca, ht⟩ := hh
        have hd : Hd (X.suite a ((a, oe) :: pn)) a D ei fi n (G.N[fi]?.getD "") (S.sub n') gs.flatten := by
          obtain ⟨D0, _, e0, _, _, _, ec⟩ := K.exm n' y (K.caE _ _ hca) o3
          rw [hca] at e0
          cases e0
          have v1 := K.vis o6
          have v2 := K.vis o9
          exact { is := call_isE ec hz hv, gi := (K.gl o11).1, mi := K.free _ o12, ne := K.at o4, ve := v1, nd := K.nd, nf := K.at o7, lf := by show X.env.scope.names.lookup _ = _; rw [K.hsc]; exact isLoc_eq o8, vf := v2.2, ef := of_decide_eq_false (nt o10)
                  fs := fun f hf => by
                    obtain ⟨q1, q2⟩ := and2 (List.all_eq_true.mp o13 f hf)
                    obtain ⟨D1, C1, e1, e2, e3, e4, _⟩ := K.exm n' f (K.caE _ _ hca) q2
                    rw [hca] at e1
                    cases e1
                    exact ⟨(K.gl q1).1, (K.gl q1).2, C1, e2, e4⟩ }
        exact (h_suite hd o15 (fun f hf => hf) (of_decide_eq_true o14)).run pins s σ H De I ht
      · obtain ⟨F, env, fr, p⟩ := h
        rw [ex] at p
        refine ⟨F, env, fr, ?_⟩
        cases q : ex S fuel body env with
        | exc n' env' =>
          rw [q] at p
          have p : SPost ca W X.K L F0 H0 (match S.sub n' y with | true => chkS (decide (ei < env'.length) && decide (fi < env'.length)) ((firstTrue (gs.flatten.map (S.sub n'))).toS env' .rt) | false => .bad) De := p
          intro σ' F' H' C fr' hca
          obtain ⟨D0, C1, e0, e1, e2, _, _⟩ := K.exm n' y (K.caE _ _ hca) o3
          rw [hca] at e0
          cases e0
          rw [g0] at e1
          cases e1
          cases hb : S.sub n' y with
          | false => rw [hb] at p; exact p.elim
          | true =>
            rw [hb] at p e2
            have p : SPost ca W X.K L F0 H0 (chkS (decide (ei < env'.length) && decide (fi < env'.length)) ((firstTrue (gs.flatten.map (S.sub n'))).toS env' .rt)) De := p
            cases hc2 : (decide (ei < env'.length) && decide (fi < env'.length)) with
            | false => rw [hc2] at p; exact p.elim
            | true =>
              rw [hc2] at p
              simp only [Bool.and_eq_true, decide_eq_true_eq] at hc2
              have p : SPost ca W X.K L F0 H0 ((firstTrue (gs.flatten.map (S.sub n'))).toS env' .rt) De := p
              refine ⟨true, e2, fun _ a ha => ⟨C, n', rfl, rfl, hca, List.getElem?_set_self (by rw [fr'.ss.len]; exact hc2.1), by rw [List.length_set, fr'.ss.len]; exact hc2.2, ?_⟩, fun z => nomatch z⟩
              cases hft : firstTrue (gs.flatten.map (S.sub n')) with
              | ok d =>
                rw [hft] at p
                exact ⟨d, hft, fun j H2 e s2 => p (.int j) H2 (fr'.old.trans s2) (by rw [e]; exact .int _)⟩
              | exc m => exact (firstTrue_noexc hft).elim
              | bad => rw [hft] at p; exact p.elim
        | nx env' => rw [q] at p; exact p
        | rt d => rw [q] at p; exact p
        | bk env' => rw [q] at p; exact p
        | ct env' => rw [q] at p; exact p
        | bad => rw [q] at p; exact p
    · cases o
  | _ => exact absurd (show false = true from o) (by decide)
theorem sSs (c : C) {W : WX} {X : Cx} {sts : List Stmt} (o : okSs G fn sc c sts = true) (K : Sok G S ca fn sc W X) (L : Hp) : PSs X sts (rdS S fuel ca W X.K L F0 H0 c) := by
  cases c with
  | skip =>
    cases sts with
    | nil => exact ss_skip
    | cons _ _ => exact absurd (show false = true from o) (by decide)
  | seq a b =>
    cases sts with
    | nil => exact absurd (show false = true from o) (by decide)
    | cons st rest =>
      obtain ⟨o1, o2⟩ := and2 (show (okS G fn sc a st && okSs G fn sc b rest) = true from o)
      exact ss_seq (sS a o1 K L) (sSs b o2 K L)
  | fz i r => exact ss_fz (sSs r (show okSs G fn sc r sts = true from o) K L)
  | _ => exact absurd (show false = true from o) (by decide)
end
end
end Rf

set_option Elab.async false
set_option linter.all false
set_option maxHeartbeats 4000000
/-! Rf, part O: the text's defs by a table: each keeps its promise at every level. -/
namespace Rf
open PySem PySem.Spec PyProof.Rows L2

structure DT where
  name : Str
  st : Stmt
  N : List Str
  ps : List Str
  body : C
def tabD (T : List DT) : Str → Option Def := fun f => (T.find? fun d => d.name == f).map fun d => ⟨d.N.length, d.ps.length, d.body⟩
def arT (T : List DT) : List (Str × Nat) := T.map fun d => (d.name, d.ps.length)
def scB (N P : List Str) (sc : Scope) : Bool :=
  decide (sc.kind = .function) && !sc.isCoroutine && !sc.isGenerator && decide N.Nodup && decide (N.take P.length = P) && P.all (fun x => isL sc x) && sc.names.all (fun y => !decide (y.2 = .free))
theorem scB_ok {N P : List Str} {sc : Scope} (h : scB N P sc = true) : FnScope N P sc := by
  unfold scB at h
  simp only [Bool.and_eq_true, Bool.not_eq_true', decide_eq_true_eq, List.all_eq_true, decide_eq_false_iff_not] at h
  obtain ⟨⟨⟨⟨⟨⟨h1, h2⟩, h3⟩, h4⟩, h5⟩, h6⟩, h7⟩ := h
  refine ⟨h1, h2, h3, h4, h5, fun x hx => ?_, h7⟩
  have e := h6 x hx
  unfold isL at e
  split at e
  · rename_i q; exact .inl q
  · rename_i q; exact .inr q
  · cases e
def okD (ar : List (Str × Nat)) (globs free excs : List Str) (d : DT) : Bool := scB d.N d.ps (defScope d.st) && okSs ⟨d.N, ar, globs, free, excs⟩ (fun _ => true) (defScope d.st) d.body (defBody d.st)
def BindP (d : DT) : Prop := ∀ (kV doc pm : Value) (an : Option Addr) (cdv ct : Value) (us : List Value), us.length = d.ps.length → bindArgs (PySem.W.fnOf d.name d.name (defArgs d.st) (defBody d.st) (defScope d.st) .none kV doc pm an cdv ct) ⟨us, []⟩ = pure (d.ps.zip us)
/-- an exception class behind the top -/
def ExcK (K : PySem.W.Frag) (mg : Str → Option Value) (ca : ExA) (x : Str) : Prop := ∃ (C : Addr) (B newId initId : String) (bmB : List Value), ExcBaseFacts B newId initId bmB ∧ PySem.W.excIn K C bmB newId = true ∧ mg x = some (.ref C) ∧ PySem.W.keepIn K (.ref C) = true ∧
  (∀ (M : Model) (h : Heap), K.In h → PySem.W.Looks M h (isSubtype (.ref C) (.type "BaseException")) true ∧ PySem.W.Looks M h (typeOf (.ref C)) (.type "type")) ∧ ca x = some C
def ExmK (K : PySem.W.Frag) (mg : Str → Option Value) (ca : ExA) (sub : Str → Str → Bool) (excs : List Str) : Prop := ∀ n x, excs.contains n = true → excs.contains x = true → ∃ D C, ca n = some D ∧ mg x = some (.ref C) ∧ PySem.W.exmOne K (.ref D) (.ref C) = some (sub n x) ∧ PySem.W.kitOne K (.ref D) (.ref C) = some (sub n x) ∧ ExcC K D
theorem tab_look {T : List DT} {f : Str} {m : Nat} (h : (arT T).lookup f = some m) : ∃ d ∈ T, d.name = f ∧ d.ps.length = m ∧ tabD T f = some ⟨d.N.length, d.ps.length, d.body⟩ := by
  unfold arT at h
  unfold tabD
  induction T with
  | nil => cases h
  | cons d T ih =>
    rw [List.map_cons, List.lookup_cons] at h
    rw [List.find?_cons]
    cases q : (f == d.name) with
    | true =>
      rw [q] at h
      cases h
      have e : f = d.name := by simpa using q
      subst e
      simp only [beq_self_eq_true]
      exact ⟨d, List.mem_cons_self .., rfl, rfl, rfl⟩
    | false =>
      rw [q] at h
      have q2 : (d.name == f) = false := by rw [beq_eq_false_iff_ne] at q ⊢; exact fun z => q z.symm
      rw [q2]
      obtain ⟨e, h1, h2⟩ := ih h
      exact ⟨e, List.mem_cons_of_mem _ h1, h2⟩
theorem start_ss {K : PySem.W.Frag} {F H : Hp} {n : Nat} {N : List Str} {vs : List V} {ds : List D} (s : Same F H) (r : RpL K F vs ds) (hn : N.length = n) (hl : vs.length ≤ N.length) : Ss K F H (startE n ds) (L2.start N vs) := by
  have hle : ds.length ≤ n := by rw [← r.length, ← hn]; exact hl
  refine ⟨s, ?_, fun i b e => ?_, fun i j di dj a hij e1 e2 _ _ => ?_⟩
  · unfold startE L2.start
    simp [r.length, hn]
  · unfold startE at e
    unfold L2.start
    by_cases hi : i < ds.length
    · have hi' : i < vs.length := by rw [r.length]; exact hi
      rw [List.getElem?_append_left (by simpa using hi), List.getElem?_map, List.getElem?_eq_getElem hi] at e
      cases e
      rw [List.getElem?_append_left (by simpa using hi'), List.getElem?_map]
      obtain ⟨v, h1, h2⟩ := r.get (List.getElem?_eq_getElem hi)
      rw [h1]
      exact ⟨some v, rfl, h2⟩
    · have hi' : ¬ i < vs.length := by rw [r.length]; exact hi
      rw [List.getElem?_append_right (by simpa using hi), List.getElem?_replicate] at e
      split at e
      · cases e
        rename_i h
        rw [List.getElem?_append_right (by simpa using hi'), List.getElem?_replicate]
        rw [if_pos (by simp only [List.length_map] at h ⊢; rw [r.length, hn]; exact h)]
        exact ⟨none, rfl, trivial⟩
      · cases e
  · unfold startE at e1
    by_cases hi : i < ds.length
    · rw [List.getElem?_append_left (by simpa using hi), List.getElem?_map, List.getElem?_eq_getElem hi] at e1
      cases e1
    · rw [List.getElem?_append_right (by simpa using hi), List.getElem?_replicate] at e1
      split at e1 <;> cases e1
theorem start_fr {K : PySem.W.Frag} {F H : Hp} {n : Nat} {N : List Str} {vs : List V} {ds : List D} (s : Same F H) (r : RpL K F vs ds) (hn : N.length = n) (hl : vs.length ≤ N.length) : Fr K F F H F H (startE n ds) (L2.start N vs) := by
  refine ⟨start_ss s r hn hl, same_refl, ?_, fun i d a e1 e2 => ?_, same_refl⟩
  · exact gr_F s
  · unfold startE at e1
    by_cases hi : i < ds.length
    · rw [List.getElem?_append_left (by simpa using hi), List.getElem?_map, List.getElem?_eq_getElem hi] at e1
      cases e1
    · rw [List.getElem?_append_right (by simpa using hi), List.getElem?_replicate] at e1
      split at e1 <;> cases e1

section
variable {P : Program} {w : World} {K : PySem.W.Frag} {mg : Str → Option Value} {base : Heap} {T : List DT} {globs free excs : List Str} {gl : Str → R D} {sub : Str → Str → Bool} {ca : ExA} {fuel : Nat}
/-- a def's body runs as ex says -/
theorem run_def {k : Nat} {d : DT} {fa : Addr} {fd : FuncData} {S : Sig} (F : FunD K d.name d.name (defArgs d.st) (defBody d.st) (defScope d.st) [] [] fa fd) (ok : okD (arT T) globs free excs d = true)
    (hfree : ∀ x, free.contains x = true → mg x = none) (hgl : ∀ x, globs.contains x = true → ∃ v u e, mg x = some u ∧ RelV v u ∧ S.gl x = .ok e ∧ Rp K (fun _ => none) v e)
    (hx : ∀ x, excs.contains x = true → ExcK K mg ca x) (hcaE : ∀ n D, ca n = some D → excs.contains n = true) (hxm : ExmK K mg ca S.sub excs)
    (ih : ∀ f m, (arT T).lookup f = some m → ∃ fa fd ps, FnOk P w K mg base (L2.CX P w) k fa fd ps (spD K S ca f m) ∧ mg f = some (.ref fa) ∧ PySem.W.keepIn K (.ref fa) = true ∧ Binds K fd ps [])
    {S' : Sig} (hS : ∀ ds, S'.cl d.name ds = R.chk (decide (ds.length = d.ps.length)) (ex S fuel d.body (startE d.N.length ds)).fin) :
    FnOk P w K mg base (L2.CX P w) (k + 1) fa fd d.ps (spD K S' ca d.name d.ps.length) := by
  obtain ⟨o1, o2⟩ := and2 ok
  have sc := scB_ok o1
  refine FunD.ok F sc (fun vs H Q E h => h.1) fun cdv A outer s H vs Q E hr ⟨hl, F0, ds, sub, rv, p⟩ => ?_
  refine ⟨rdS S fuel ca (fun cls d _ H => E cls d H) K F0 F0 H d.body, ?_, F0, _, start_fr sub rv rfl ?_, ?_⟩
  · have sok : Sok ⟨d.N, arT T, globs, free, excs⟩ S ca (fun _ => true) (defScope d.st) (fun cls d _ H => E cls d H) (cxOf (L2.CX P w) P w K mg base d.N d.name (defScope d.st) fa cdv A outer s H E) :=
      { N := rfl, nd := sc.nd, hsc := rfl, kind := sc.kind, fn := rfl, calm := rfl, units := by have := hr.un; show (A.deeper _).units + 65 < _; omega, tk := takes_of rfl rfl rfl rfl, free := hfree, glob := hgl,
        defs := fun f m h => let ⟨fa, fd, ps, h1, h2, h3, h4⟩ := ih f m h; ⟨k, fa, fd, ps, h1, hr, h2, h3, h4⟩
        po := passes_of rfl
        exc := fun x h => hx x h
        stk := rfl
        frm := rfl
        caE := hcaE
        exm := hxm }
    exact sSs d.body o2 sok F0
  · have h1 := congrArg List.length sc.pre
    rw [List.length_take] at h1
    omega
  · have rl : ds.length = d.ps.length := by rw [← rv.length]; exact hl
    rw [hS, decide_eq_true rl] at p
    have p : PG ca (fun cls d _ H' => E cls d H') H [] (ex S fuel d.body (startE d.N.length ds)).fin (fun d => ∀ v H', Same H H' → Rp K (Gr F0 H H') v d → Q v H') := p
    cases q : ex S fuel d.body (startE d.N.length ds) with
    | nx env => rw [q] at p; exact fun σ F H' fr => p .non H' fr.old .non
    | rt d => rw [q] at p; exact p
    | bk env => rw [q] at p; exact p.elim
    | ct env => rw [q] at p; exact p.elim
    | exc n env => rw [q] at p; exact fun σ F H' C fr e => p H' C fr.old e
    | bad => rw [q] at p; exact p.elim
theorem all_ok (hT : T.all (okD (arT T) globs free excs) = true) (hb : ∀ d ∈ T, BindP d) (hF : ∀ d ∈ T, ∃ fa fd, FunD K d.name d.name (defArgs d.st) (defBody d.st) (defScope d.st) [] [] fa fd ∧ mg d.name = some (.ref fa))
    (hfree : ∀ x, free.contains x = true → mg x = none) (hgl : ∀ x, globs.contains x = true → ∃ v u e, mg x = some u ∧ RelV v u ∧ gl x = .ok e ∧ Rp K (fun _ => none) v e)
    (hx : ∀ x, excs.contains x = true → ExcK K mg ca x) (hcaE : ∀ n D, ca n = some D → excs.contains n = true) (hxm : ExmK K mg ca sub excs) : ∀ (n : Nat) (f : Str) (m : Nat), (arT T).lookup f = some m →
      ∃ fa fd ps, FnOk P w K mg base (L2.CX P w) n fa fd ps (spD K ⟨callD (tabD T) gl sub fuel n, gl, sub⟩ ca f m) ∧ mg f = some (.ref fa) ∧ PySem.W.keepIn K (.ref fa) = true ∧ Binds K fd ps [] := by
  intro n
  induction n with
  | zero =>
    intro f m h
    obtain ⟨d, hd, rfl, rfl, e⟩ := tab_look h
    obtain ⟨fa, fd, FD, hm⟩ := hF d hd
    refine ⟨fa, fd, d.ps, ⟨fun vs H Q E h => h.1, fun A outer s H args us vs Q E hr he hbd hv hs => ?_⟩, hm, FD.kp, FD.bindsN (hb d hd)⟩
    obtain ⟨_, F0, ds, _, _, p⟩ := hs
    exact (show False from p).elim
  | succ n ih =>
    intro f m h
    obtain ⟨d, hd, rfl, rfl, e⟩ := tab_look h
    obtain ⟨fa, fd, FD, hm⟩ := hF d hd
    refine ⟨fa, fd, d.ps, run_def (S := ⟨callD (tabD T) gl sub fuel n, gl, sub⟩) (fuel := fuel) FD (List.all_eq_true.mp hT d hd) hfree hgl hx hcaE hxm ih fun ds => ?_, hm, FD.kp, FD.bindsN (hb d hd)⟩
    show callD (tabD T) gl sub fuel (n + 1) d.name ds = _
    rw [callD, e]
end
end Rf

set_option Elab.async false
set_option linter.all false
set_option maxHeartbeats 4000000
/-! Rf, part P: from the head's facts to the law's def. -/
namespace Rf
open PySem PySem.Spec PyProof.Rows L2

structure Txt where
  T : List DT
  gl : List (Str × PyData)
  free : List Str
  excs : List Str
  supers : List (Str × List Str)
def Txt.globs (X : Txt) : List Str := X.gl.map (·.1)
def Txt.glf (X : Txt) : Str → R D := fun x => match X.gl.lookup x with | some d => .ok d | none => .bad
def Txt.sub (X : Txt) : Str → Str → Bool := fun n x => ((X.supers.lookup n).getD []).contains x
def glFa : Str × PyData → He.Fa
  | (x, .int i) => .int x i
  | (x, .str z) => .str x z
  | (x, _) => .glo x
def Txt.fa (X : Txt) : List He.Fa := X.T.map (fun d => .glo d.name) ++ (X.free.map .free ++ (X.gl.map glFa ++ (X.excs.map .glo ++ X.excs.map .exc)))
def Txt.fn (X : Txt) : List He.DefD := X.T.map fun d => ⟨(d.name, none), d.name, d.name, defArgs d.st, defBody d.st, defScope d.st, [], []⟩
/-- ExcC as a look at K -/
def excCB (K : PySem.W.Frag) (D : Addr) : Bool :=
  decide (PySem.W.findIn K (.ref D) "__getattribute__" = some (some (.builtin "BaseException.__getattribute__"))) && decide (PySem.W.findIn K (.ref D) "__getattr__" = some none) && decide (PySem.W.subIn K (.ref D) (.type "BaseException") = some true) && PySem.W.hasDictIn K D &&
  decide (PySem.W.findIn K (.ref D) "__class__" = some (some (.builtin "object.__class__"))) && decide (PySem.W.specialIn K (.builtin "object.__class__") "__get__" = some (some (.builtin "getset_descriptor.__get__"))) && decide (PySem.W.takesIn K (.builtin "object.__class__") = some true) && decide (PySem.W.mroIn K D (.type "object") = some true)
theorem excCB_ok {K : PySem.W.Frag} {D : Addr} (h : excCB K D = true) : ExcC K D := by
  unfold excCB at h
  simp only [Bool.and_eq_true, decide_eq_true_eq] at h
  obtain ⟨⟨⟨⟨⟨⟨⟨h1, h2⟩, h3⟩, h4⟩, h5⟩, h6⟩, h7⟩, h8⟩ := h
  exact ⟨h1, h2, h3, h4, h5, h6, h7, h8⟩
def exOne (K : PySem.W.Frag) (sub : Str → Str → Bool) (n x : Str) : Bool :=
  decide (PySem.W.exmOne K (.ref (He.ga K n)) (.ref (He.ga K x)) = some (sub n x)) && decide (PySem.W.kitOne K (.ref (He.ga K n)) (.ref (He.ga K x)) = some (sub n x))
def Txt.more (X : Txt) (K : PySem.W.Frag) : Bool := X.excs.all fun n => excCB K (He.ga K n) && X.excs.all fun x => exOne K X.sub n x
def Txt.ca (X : Txt) (K : PySem.W.Frag) : ExA := fun n => if X.excs.contains n then some (He.ga K n) else none
def Txt.ok (X : Txt) : Bool := X.T.all (okD (arT X.T) X.globs X.free X.excs)
/-- a constant that stands in a namespace as its value -/
def flatG : PyData → Bool | .int _ => true | .str _ => true | _ => false

section
variable {P : Program} {w : World} {K : PySem.W.Frag} {mg : Str → Option Value} {base h : Heap} {X : Txt} {fuel : Nat}
theorem hyps (KX : K.In h) (G : h.Ns mainGlobals mg) (c : He.SaysX X.fa X.fn [] [] X.more w h K) (hfl : X.gl.all (fun p => flatG p.2) = true) :
    (∀ d ∈ X.T, ∃ fa fd, FunD K d.name d.name (defArgs d.st) (defBody d.st) (defScope d.st) [] [] fa fd ∧ mg d.name = some (.ref fa)) ∧ (∀ x, X.free.contains x = true → mg x = none) ∧
    (∀ x, X.globs.contains x = true → ∃ v u e, mg x = some u ∧ RelV v u ∧ X.glf x = .ok e ∧ Rp K (fun _ => none) v e) ∧ (∀ x, X.excs.contains x = true → ExcK K mg (X.ca K) x) ∧
    (∀ n D, X.ca K n = some D → X.excs.contains n = true) ∧ ExmK K mg (X.ca K) X.sub X.excs := by
  have cd := c.t.d
  have inL : ∀ {x : He.Fa}, x ∈ X.fa → x.ok K = true := fun hx => He.SaysD.facts cd hx
  have hexc : ∀ x, X.excs.contains x = true → (He.Fa.glo x).ok K = true ∧ (He.Fa.exc x).ok K = true := fun x hx => by
    have hx : x ∈ X.excs := by simpa using hx
    exact ⟨inL (by unfold Txt.fa; simp only [List.mem_append, List.mem_map]; exact .inr (.inr (.inr (.inl ⟨x, hx, rfl⟩)))), inL (by unfold Txt.fa; simp only [List.mem_append, List.mem_map]; exact .inr (.inr (.inr (.inr ⟨x, hx, rfl⟩))))⟩
  have hca : ∀ x, X.excs.contains x = true → X.ca K x = some (He.ga K x) := fun x hx => by unfold Txt.ca; rw [if_pos hx]
  refine ⟨fun d hd => ?_, fun x hx => ?_, fun x hx => ?_, fun x hx => ?_, fun n D e => ?_, fun n x hn hx => ?_⟩
  · obtain ⟨fd, F⟩ := He.SaysD.defs cd (d := ⟨(d.name, none), d.name, d.name, defArgs d.st, defBody d.st, defScope d.st, [], []⟩) (List.mem_map.mpr ⟨d, hd, rfl⟩)
    have g := He.glo_ok KX G (x := d.name) (inL (by unfold Txt.fa; simp only [List.mem_append, List.mem_map]; exact .inl ⟨d, hd, rfl⟩))
    exact ⟨_, fd, F, g⟩
  · have hx : x ∈ X.free := by simpa using hx
    exact He.free_ok KX G (inL (by unfold Txt.fa; simp only [List.mem_append, List.mem_map]; exact .inr (.inl ⟨x, hx, rfl⟩)))
  · have hx : x ∈ X.gl.map (·.1) := by simpa [Txt.globs] using hx
    have key : ∃ d, X.gl.lookup x = some d ∧ (x, d) ∈ X.gl := by
      generalize X.gl = l at hx
      induction l with
      | nil => cases hx
      | cons p l ih =>
        rw [List.lookup_cons]
        cases q : (x == p.1) with
        | true =>
          have e : x = p.1 := by simpa using q
          exact ⟨p.2, rfl, by rw [e]; exact List.mem_cons_self ..⟩
        | false =>
          have ne : x ≠ p.1 := by simpa using q
          rw [List.map_cons, List.mem_cons] at hx
          obtain ⟨d, h1, h2⟩ := ih (hx.resolve_left ne)
          exact ⟨d, h1, List.mem_cons_of_mem _ h2⟩
    obtain ⟨d, h1, h2⟩ := key
    have e : X.glf x = .ok d := by unfold Txt.glf; rw [h1]
    have fl := List.all_eq_true.mp hfl _ h2
    have fo := inL (x := glFa (x, d)) (by unfold Txt.fa; simp only [List.mem_append, List.mem_map]; exact .inr (.inr (.inl ⟨(x, d), h2, rfl⟩)))
    cases d with
    | int i =>
      obtain ⟨t, g⟩ := He.int_ok KX G fo
      exact ⟨.int i, _, _, g, ⟨t, rfl⟩, e, .int i⟩
    | str z =>
      obtain ⟨t, g⟩ := He.str_ok KX G fo
      exact ⟨.str z, _, _, g, ⟨t, rfl⟩, e, .str z⟩
    | _ => cases fl
  · obtain ⟨f1, f2⟩ := hexc x hx
    obtain ⟨e1, e2, e3, e4⟩ := He.exc_ok f2
    exact ⟨He.ga K x, _, _, _, _, PySem.F.excBase_ValueError, e1, He.glo_ok KX G f1, e2, fun M h k => ⟨PySem.W.looks_subIn k e3, PySem.W.looks_typeIn k e4⟩, hca x hx⟩
  · unfold Txt.ca at e
    split at e
    · assumption
    · cases e
  · have hn' : n ∈ X.excs := by simpa using hn
    have hx' : x ∈ X.excs := by simpa using hx
    obtain ⟨q1, q2⟩ := and2 (List.all_eq_true.mp c.more n hn')
    obtain ⟨q3, q4⟩ := and2 (List.all_eq_true.mp q2 x hx')
    exact ⟨He.ga K n, He.ga K x, hca n hn, He.glo_ok KX G (hexc x hx).1, of_decide_eq_true q3, of_decide_eq_true q4, excCB_ok q1⟩
/-- a promise that lets no exception out -/
theorem FnOk.still {k : Nat} {f : Addr} {fd : FuncData} {ps : List Str} {sp : Sp} (F : FnOk P w K mg base (L2.CX P w) k f fd ps sp) (hs : ∀ vs H Q E, sp vs H Q E → sp vs H Q (fun _ _ _ => False)) : FnOk P w K mg base L2.CX0 k f fd ps sp :=
  ⟨F.len, fun A outer s H args us vs Q E hr he hb hv h => codeAny_mono (F.run A outer s H args us vs Q (fun _ _ _ => False) hr he hb hv (hs _ _ _ _ h)) fun r s' q => by
    cases r with
    | ok fl => cases fl <;> exact q
    | error e =>
      obtain ⟨_, _, _, _, _, _, _, _, _, _, _, _, z⟩ := (show L2.CX P w outer H s (fun _ _ _ => False) e s' from q)
      exact z.elim⟩
def spLaw (K : PySem.W.Frag) : Sp := fun vs H Q _ => ∃ (a : Addr) (ns : List Int), vs = [.ref a] ∧ ns.length ≤ 63 ∧ SqL K H a (ns.map V.int) ∧ ∀ H', Q (.bl true) H'
theorem ints_rp {H : Hp} : ∀ ns : List Int, RpL K H (ns.map V.int) (ns.map PyData.int)
  | [] => .nil
  | n :: ns => .cons (.int n) (ints_rp ns)
theorem law_fn {lw x : Str} (KX : K.In h) (G : h.Ns mainGlobals mg) (c : He.SaysX X.fa X.fn [] [] X.more w h K) (ok : X.ok = true) (hb : ∀ d ∈ X.T, BindP d) (hfl : X.gl.all (fun p => flatG p.2) = true) {d : DT} (hd : d ∈ X.T) (hdn : d.name = lw) (hdp : d.ps = [x]) (ht : tabD X.T d.name = some ⟨d.N.length, d.ps.length, d.body⟩) {n : Nat} {f : Addr} (hmg : mg lw = some (.ref f))
    (hm : ∀ ns : List Int, ns.length ≤ 63 → callD (tabD X.T) X.glf X.sub fuel (n + 1) lw [.list (ns.map .int)] = .ok (.bool true)) :
    ∃ fd : FuncData, (∀ (s : Shared) (v : Value), BindsTo s fd ⟨[v], []⟩ [(x, v)]) ∧ ∀ base : Heap, FnOk P w K mg base L2.CX0 (n + 1) f fd [x] (spLaw K) := by
  subst hdn
  obtain ⟨hF, hfree, hgl, hx, hcaE, hxm⟩ := hyps KX G c hfl
  obtain ⟨fa, fd, F, g⟩ := hF d hd
  have ef : f = fa := by
    rw [hmg] at g
    exact Value.ref.inj (Option.some.inj g)
  subst ef
  have bd := FunD.bindsA (ps := d.ps) F (hb d hd)
  refine ⟨fd, fun s v => ?_, fun base => ?_⟩
  · have := bd s [v] (by rw [hdp]; rfl)
    rw [hdp] at this
    exact this
  · have ih := all_ok (P := P) (w := w) (base := base) (fuel := fuel) (sub := X.sub) (T := X.T) (globs := X.globs) (free := X.free) (excs := X.excs) ok hb hF hfree hgl hx hcaE hxm n
    have R1 := run_def (P := P) (w := w) (base := base) (fuel := fuel) (T := X.T) (S := ⟨callD (tabD X.T) X.glf X.sub fuel n, X.glf, X.sub⟩) (S' := ⟨callD (tabD X.T) X.glf X.sub fuel (n + 1), X.glf, X.sub⟩) F (List.all_eq_true.mp ok d hd) hfree hgl hx hcaE hxm ih fun ds => by
      show callD (tabD X.T) X.glf X.sub fuel (n + 1) d.name ds = _
      rw [callD, ht]
    rw [hdp] at R1
    refine FnOk.still (R1.imp fun vs H Q E hsp => ?_) fun vs H Q E h => h
    obtain ⟨a, ns, rfl, hz, hS, hQ⟩ := hsp
    refine ⟨rfl, H, [.list (ns.map .int)], same_refl, .cons (.lst hS (ints_rp ns)) .nil, ?_⟩
    show PG _ _ _ _ (callD (tabD X.T) X.glf X.sub fuel (n + 1) d.name [.list (ns.map .int)]) _
    rw [hm ns hz]
    intro v H' _ r
    cases r
    exact hQ H'
end
end Rf

set_option Elab.async false
set_option linter.all false
set_option maxRecDepth 100000
set_option maxHeartbeats 4000000
namespace K01
open Rf PySem
def top (i : Nat) : Stmt := PySem.Challenge.pw_tablebreaks_k01_seasons.main.body.getD i (.Pass ⟨0, 0, 0, 0⟩)
def b_is_int : C := (.seq (.ret (.band (.cons (.bi .isInt (.cons (.var 0) .nil)) (.cons (.bnot (.bi .isBool (.cons (.var 0) .nil))) (.cons (.chain .le .le (.var 1) (.var 0) (.var 2)) .nil))))) .skip)
def b_is_score : C := (.seq (.ret (.band (.cons (.bi .isTuple (.cons (.var 0) .nil)) (.cons (.cmp .eq (.bi .len (.cons (.var 0) .nil)) (.cst (.int 2))) (.cons (.bi .all (.cons (.lc (.var 1) (.itm (.var 0)) .nil (.call "is_int" (.cons (.var 1) (.cons (.cst (.int 0)) (.cons (.glob "MAX_GOALS") .nil))))) .nil)) .nil))))) .skip)
def b_is_rising : C := (.seq (.ret (.bi .all (.cons (.lc (.tup (.cons (.var 1) (.cons (.var 2) .nil))) (.zip (.var 0) (.sl (.var 0) (.cons (.cst (.int 1)) .nil) .nil)) .nil (.cmp .lt (.var 1) (.var 2))) .nil))) .skip)
def b_is_season : C := (.seq (.iff (.bor (.cons (.bnot (.bi .isTuple (.cons (.var 0) .nil))) (.cons (.cmp .ne (.bi .len (.cons (.var 0) .nil)) (.cst (.int 3))) .nil))) (.seq (.ret (.cst (.bool false))) .skip) .skip) (.seq (.unp (.tup (.cons (.var 1) (.cons (.var 2) (.cons (.var 3) .nil)))) (.var 0)) (.seq (.iff (.bor (.cons (.bnot (.call "is_int" (.cons (.var 1) (.cons (.cst (.int 2)) (.cons (.glob "MAX_SIDES") .nil))))) (.cons (.bnot (.call "is_int" (.cons (.var 2) (.cons (.cst (.int 1)) (.cons (.cst (.int 2)) .nil))))) (.cons (.band (.cons (.cmp .eq (.var 2) (.cst (.int 2))) (.cons (.cmp .gt (.var 1) (.glob "MAX_TWICE")) .nil))) .nil)))) (.seq (.ret (.cst (.bool false))) .skip) .skip) (.seq (.iff (.bor (.cons (.bnot (.bi .isTuple (.cons (.var 3) .nil))) (.cons (.bnot (.chain .le .le (.cst (.int 1)) (.bi .len (.cons (.var 3) .nil)) (.glob "MAX_SCORES"))) .nil))) (.seq (.ret (.cst (.bool false))) .skip) .skip) (.seq (.ret (.band (.cons (.bi .all (.cons (.lc (.var 4) (.itm (.var 3)) .nil (.call "is_score" (.cons (.var 4) .nil))) .nil)) (.cons (.call "is_rising" (.cons (.var 3) .nil)) .nil)))) .skip)))))
def b_check_season : C := (.seq (.iff (.bnot (.call "is_season" (.cons (.var 0) .nil))) (.seq (.raise "InvalidSeason") .skip) .skip) .skip)
def b_find_sides : C := (.seq (.ret (.sl (.glob "LETTERS") .nil (.cons (.idx (.var 0) (.cst (.int 0))) .nil))) .skip)
def b_find_matches : C := (.seq (.asg 1 true (.lst .nil)) (.seq (.for_ (.tup (.cons (.var 2) (.cons (.var 3) .nil))) (.enum (.call "find_sides" (.cons (.var 0) .nil))) (.seq (.ext 1 (.lc (.var 4) (.itm (.sl (.call "find_sides" (.cons (.var 0) .nil)) (.cons (.bin .add (.var 2) (.cst (.int 1))) .nil) .nil)) .nil (.tup (.cons (.var 3) (.cons (.var 4) .nil))))) .skip)) (.seq (.iff (.cmp .eq (.idx (.var 0) (.cst (.int 1))) (.cst (.int 1))) (.fz 1 (.seq (.ret (.var 1)) .skip)) .skip) (.fz 1 (.seq (.ret (.bin .add (.var 1) (.lc (.tup (.cons (.var 3) (.cons (.var 4) .nil))) (.itm (.var 1)) .nil (.tup (.cons (.var 4) (.cons (.var 3) .nil)))))) .skip)))))
def b_matches : C := (.seq (.exp (.call "check_season" (.cons (.var 0) .nil))) (.seq (.ret (.call "find_matches" (.cons (.var 0) .nil))) .skip))
def b_count_results : C := (.seq (.exp (.call "check_season" (.cons (.var 0) .nil))) (.seq (.asg 1 false (.cst (.int 1))) (.seq (.for_ (.var 2) (.itm (.call "find_matches" (.cons (.var 0) .nil))) (.seq (.asg 1 false (.bin .mul (.var 1) (.bi .len (.cons (.idx (.var 0) (.cst (.int 2))) .nil)))) .skip)) (.seq (.ret (.var 1)) .skip))))
def b_has_results : C := (.seq (.iff (.bor (.cons (.bnot (.bi .isTuple (.cons (.var 1) .nil))) (.cons (.cmp .ne (.bi .len (.cons (.var 1) .nil)) (.bi .len (.cons (.call "find_matches" (.cons (.var 0) .nil)) .nil))) .nil))) (.seq (.ret (.cst (.bool false))) .skip) .skip) (.seq (.ret (.bi .all (.cons (.lc (.var 2) (.itm (.var 1)) .nil (.band (.cons (.call "is_score" (.cons (.var 2) .nil)) (.cons (.cmp .isin (.var 2) (.idx (.var 0) (.cst (.int 2)))) .nil)))) .nil))) .skip))
def b_is_results : C := (.seq (.exp (.call "check_season" (.cons (.var 0) .nil))) (.seq (.ret (.call "has_results" (.cons (.var 0) (.cons (.var 1) .nil)))) .skip))
def b_find_all : C := (.seq (.asg 1 false (.lst (.cons (.tup .nil) .nil))) (.seq (.for_ (.var 2) (.itm (.call "find_matches" (.cons (.var 0) .nil))) (.seq (.asg 3 true (.lst .nil)) (.seq (.for_ (.var 4) (.itm (.var 1)) (.seq (.ext 3 (.lc (.var 5) (.itm (.idx (.var 0) (.cst (.int 2)))) .nil (.bin .add (.var 4) (.tup (.cons (.var 5) .nil))))) .skip)) (.fz 3 (.seq (.asg 1 false (.var 3)) .skip))))) (.seq (.ret (.var 1)) .skip)))
def b_all_results : C := (.seq (.exp (.call "check_season" (.cons (.var 0) .nil))) (.seq (.ret (.call "find_all" (.cons (.var 0) .nil))) .skip))
def b__law_drawn : C := (.seq (.asg 3 false (.bin .mul (.cst (.int 7)) (.var 1))) (.seq (.iff (.cmp .ne (.var 0) (.lst .nil)) (.seq (.asg 3 false (.idx (.var 0) (.bin .mod (.bi .int (.cons (.var 1) .nil)) (.bi .len (.cons (.var 0) .nil))))) (.seq (.asg 4 false (.bin .fdiv (.var 1) (.bi .len (.cons (.var 0) .nil)))) (.seq (.iff (.band (.cons (.cmp .ge (.var 3) (.bin .pow (.cst (.int 10)) (.cst (.int 18)))) (.cons (.cmp .lt (.var 4) (.cst (.int 60))) .nil))) (.seq (.asg 5 false (.bin .fdiv (.var 3) (.bin .pow (.cst (.int 10)) (.cst (.int 18))))) (.seq (.while_ (.band (.cons (.cmp .gt (.var 5) (.cst (.int 0))) (.cons (.cmp .gt (.var 4) (.cst (.int 0))) .nil))) (.seq (.asg 5 false (.bin .fdiv (.var 5) (.cst (.int 1000000)))) (.seq (.asg 4 false (.bin .sub (.var 4) (.cst (.int 1)))) .skip))) (.seq (.iff (.cmp .gt (.var 5) (.cst (.int 0))) (.seq (.ret (.bin .mod (.bi .int (.cons (.bin .mod (.bi .int (.cons (.var 5) .nil)) (.cst (.int 1000000))) .nil)) (.var 2))) .skip) .skip) .skip))) .skip) (.seq (.asg 3 false (.bin .add (.var 3) (.bin .mul (.cst (.int 6553)) (.bin .fdiv (.var 1) (.bi .len (.cons (.var 0) .nil)))))) .skip)))) .skip) (.seq (.asg 3 false (.bin .mod (.bi .int (.cons (.bin .add (.bin .mul (.bin .mod (.bi .int (.cons (.var 3) .nil)) (.cst (.int 2147483563))) (.cst (.int 69069))) (.bin .mul (.cst (.int 104723)) (.bin .add (.var 1) (.cst (.int 1))))) .nil)) (.cst (.int 2147483563)))) (.seq (.asg 3 false (.bin .mod (.bi .int (.cons (.bin .add (.bin .mul (.var 3) (.var 3)) (.bin .fdiv (.var 3) (.cst (.int 3)))) .nil)) (.cst (.int 2147483399)))) (.seq (.ret (.bin .mod (.bi .int (.cons (.bin .fdiv (.bin .mod (.bi .int (.cons (.bin .add (.bin .mul (.var 3) (.var 3)) (.bin .fdiv (.var 3) (.cst (.int 7)))) .nil)) (.cst (.int 2147483647))) (.cst (.int 11))) .nil)) (.var 2))) .skip)))))
def b__law_season : C := (.seq (.asg 3 false (.lst (.cons (.tup (.cons (.cst (.int 3)) (.cons (.cst (.int 1)) (.cons (.cst (.int 3)) (.cons (.cst (.int 27)) .nil))))) (.cons (.tup (.cons (.cst (.int 3)) (.cons (.cst (.int 1)) (.cons (.cst (.int 2)) (.cons (.cst (.int 8)) .nil))))) (.cons (.tup (.cons (.cst (.int 2)) (.cons (.cst (.int 2)) (.cons (.cst (.int 3)) (.cons (.cst (.int 9)) .nil))))) (.cons (.tup (.cons (.cst (.int 3)) (.cons (.cst (.int 1)) (.cons (.cst (.int 3)) (.cons (.cst (.int 27)) .nil))))) (.cons (.tup (.cons (.cst (.int 4)) (.cons (.cst (.int 1)) (.cons (.cst (.int 2)) (.cons (.cst (.int 64)) .nil))))) .nil))))))) (.seq (.asg 3 false (.bin .add (.var 3) (.lst (.cons (.tup (.cons (.cst (.int 3)) (.cons (.cst (.int 2)) (.cons (.cst (.int 2)) (.cons (.cst (.int 64)) .nil))))) .nil)))) (.seq (.unp (.tup (.cons (.var 6) (.cons (.var 7) (.cons (.var 8) (.cons (.var 9) .nil))))) (.idx (.var 3) (.call "_law_drawn" (.cons (.var 0) (.cons (.var 1) (.cons (.cst (.int 6)) .nil)))))) (.seq (.iff (.cmp .gt (.var 9) (.var 2)) (.seq (.par (.cons (.var 6) (.cons (.var 7) (.cons (.var 8) .nil))) [false, false, false] (.cons (.cst (.int 3)) (.cons (.cst (.int 1)) (.cons (.cst (.int 2)) .nil)))) .skip) .skip) (.seq (.asg 4 true (.lst .nil)) (.seq (.for_ (.var 5) (.rng (.cons (.var 8) .nil)) (.seq (.app 4 (.tup (.cons (.call "_law_drawn" (.cons (.var 0) (.cons (.bin .add (.bin .add (.var 1) (.cst (.int 1))) (.bin .mul (.cst (.int 2)) (.var 5))) (.cons (.cst (.int 4)) .nil)))) (.cons (.call "_law_drawn" (.cons (.var 0) (.cons (.bin .add (.bin .add (.var 1) (.cst (.int 2))) (.bin .mul (.cst (.int 2)) (.var 5))) (.cons (.cst (.int 3)) .nil)))) .nil)))) .skip)) (.seq (.iff (.cmp .lt (.bi .lenset (.cons (.var 4) .nil)) (.var 8)) (.seq (.asg 4 false (.sl (.lst (.cons (.tup (.cons (.cst (.int 0)) (.cons (.cst (.int 0)) .nil))) (.cons (.tup (.cons (.cst (.int 0)) (.cons (.cst (.int 1)) .nil))) (.cons (.tup (.cons (.cst (.int 1)) (.cons (.cst (.int 0)) .nil))) .nil)))) .nil (.cons (.var 8) .nil))) .skip) .skip) (.seq (.ret (.tup (.cons (.var 6) (.cons (.var 7) (.cons (.bi .tuple (.cons (.bi .sorted (.cons (.var 4) .nil)) .nil)) .nil))))) .skip))))))))
def b__law_matches : C := (.seq (.par (.cons (.var 2) (.cons (.var 3) .nil)) [false, false] (.cons (.sl (.cst (.str "abcd")) .nil (.cons (.idx (.var 0) (.cst (.int 0))) .nil)) (.cons (.lst .nil) .nil))) (.seq (.for_ (.var 1) (.itm (.var 2)) (.seq (.asg 3 false (.bin .add (.var 3) (.lc (.var 4) (.itm (.var 2)) (.cons (.cmp .lt (.var 1) (.var 4)) .nil) (.tup (.cons (.var 1) (.cons (.var 4) .nil)))))) .skip)) (.seq (.ret (.bin .add (.var 3) (.lc (.tup (.cons (.var 1) (.cons (.var 4) .nil))) (.itm (.var 3)) (.cons (.cmp .eq (.idx (.var 0) (.cst (.int 1))) (.cst (.int 2))) .nil) (.tup (.cons (.var 4) (.cons (.var 1) .nil)))))) .skip)))
def b__law_all : C := (.seq (.asg 1 false (.lst (.cons (.tup .nil) .nil))) (.seq (.for_ (.var 2) (.itm (.call "_law_matches" (.cons (.var 0) .nil))) (.seq (.asg 3 false (.lst .nil)) (.seq (.for_ (.var 4) (.itm (.var 1)) (.seq (.asg 3 false (.bin .add (.var 3) (.lc (.var 5) (.itm (.idx (.var 0) (.cst (.int 2)))) .nil (.bin .add (.var 4) (.tup (.cons (.var 5) .nil)))))) .skip)) (.seq (.asg 1 false (.var 3)) .skip)))) (.seq (.ret (.var 1)) .skip)))
def b__law_results : C := (.seq (.asg 3 false (.idx (.var 2) (.cst (.int 2)))) (.seq (.ret (.bi .tuple (.cons (.lc (.var 4) (.rng (.cons (.bi .len (.cons (.call "_law_matches" (.cons (.var 2) .nil)) .nil)) .nil)) .nil (.idx (.var 3) (.call "_law_drawn" (.cons (.var 0) (.cons (.bin .add (.var 1) (.var 4)) (.cons (.bi .len (.cons (.var 3) .nil)) .nil)))))) .nil))) .skip))
def b__law_badseason : C := (.seq (.asg 2 false (.tup (.cons (.tup (.cons (.cst (.int 0)) (.cons (.cst (.int 0)) .nil))) (.cons (.tup (.cons (.cst (.int 1)) (.cons (.cst (.int 0)) .nil))) .nil)))) (.seq (.asg 3 false (.lst (.cons (.cst .none) (.cons (.tup .nil) (.cons (.tup (.cons (.cst (.int 3)) (.cons (.cst (.int 1)) .nil))) (.cons (.tup (.cons (.cst (.int 1)) (.cons (.cst (.int 1)) (.cons (.var 2) .nil)))) (.cons (.tup (.cons (.cst (.int 5)) (.cons (.cst (.int 1)) (.cons (.var 2) .nil)))) (.cons (.tup (.cons (.cst (.int 4)) (.cons (.cst (.int 2)) (.cons (.var 2) .nil)))) (.cons (.tup (.cons (.cst (.int 3)) (.cons (.cst (.int 0)) (.cons (.var 2) .nil)))) (.cons (.tup (.cons (.cst (.int 3)) (.cons (.cst (.int 3)) (.cons (.var 2) .nil)))) .nil)))))))))) (.seq (.asg 3 false (.bin .add (.var 3) (.lst (.cons (.tup (.cons (.cst (.int 3)) (.cons (.cst (.int 1)) (.cons (.tup .nil) .nil)))) .nil)))) (.seq (.asg 3 false (.bin .add (.var 3) (.lst (.cons (.tup (.cons (.cst (.int 3)) (.cons (.cst (.int 1)) (.cons (.rev (.var 2)) .nil)))) (.cons (.tup (.cons (.cst (.int 3)) (.cons (.cst (.int 1)) (.cons (.lst (.cons (.tup (.cons (.cst (.int 0)) (.cons (.cst (.int 0)) .nil))) .nil)) .nil)))) (.cons (.tup (.cons (.cst (.int 3)) (.cons (.cst (.int 1)) (.cons (.tup (.cons (.tup (.cons (.cst (.int 0)) (.cons (.cst (.int 4)) .nil))) .nil)) .nil)))) (.cons (.tup (.cons (.cst (.int 3)) (.cons (.cst (.int 1)) (.cons (.tup (.cons (.tup (.cons (.cst (.int 0)) .nil)) .nil)) .nil)))) .nil))))))) (.seq (.asg 3 false (.bin .add (.var 3) (.lst (.cons (.tup (.cons (.cst (.bool true)) (.cons (.cst (.int 1)) (.cons (.var 2) .nil)))) .nil)))) (.seq (.asg 3 false (.bin .add (.var 3) (.lst (.cons (.tup (.cons (.cst (.int 3)) (.cons (.cst (.int 1)) (.cons (.tup (.cons (.tup (.cons (.cst (.int 0)) (.cons (.cst (.int 0)) .nil))) (.cons (.tup (.cons (.cst (.int 0)) (.cons (.cst (.int 0)) .nil))) .nil))) .nil)))) (.cons (.lst (.cons (.cst (.int 3)) (.cons (.cst (.int 1)) (.cons (.var 2) .nil)))) .nil))))) (.seq (.asg 3 false (.bin .add (.var 3) (.lst (.cons (.tup (.cons (.cst (.int 3)) (.cons (.cst (.int 1)) (.cons (.tup (.cons (.tup (.cons (.cst (.int 0)) (.cons (.cst (.int 0)) .nil))) (.cons (.tup (.cons (.cst (.int 0)) (.cons (.cst (.int 1)) .nil))) (.cons (.tup (.cons (.cst (.int 0)) (.cons (.cst (.int 2)) .nil))) (.cons (.tup (.cons (.cst (.int 1)) (.cons (.cst (.int 0)) .nil))) (.cons (.tup (.cons (.cst (.int 2)) (.cons (.cst (.int 0)) .nil))) .nil)))))) .nil)))) .nil)))) (.seq (.ret (.idx (.var 3) (.call "_law_drawn" (.cons (.var 0) (.cons (.var 1) (.cons (.cst (.int 17)) .nil)))))) .skip))))))))
def b__law_error : C := (.seq (.tryx "TableError" 3 0 [["InvalidSeason"]] (.seq (.iff (.cmp .lt (.var 0) (.cst (.int 3))) (.seq (.exp (.calls ["matches", "count_results", "all_results"] (.var 0) (.cons (.var 1) .nil))) .skip) (.seq (.exp (.call "is_results" (.cons (.var 1) (.cons (.var 2) .nil)))) .skip)) .skip)) (.seq (.ret (.cst .none)) .skip))
def b__law_shapes : C := (.seq (.asg 0 false (.lst (.cons (.tup (.cons (.cst (.int 2)) (.cons (.cst (.int 2)) (.cons (.tup (.cons (.tup (.cons (.cst (.int 3)) (.cons (.cst (.int 3)) .nil))) .nil)) .nil)))) (.cons (.tup (.cons (.cst (.int 4)) (.cons (.cst (.int 1)) (.cons (.tup (.cons (.tup (.cons (.cst (.int 0)) (.cons (.cst (.int 0)) .nil))) (.cons (.tup (.cons (.cst (.int 0)) (.cons (.cst (.int 3)) .nil))) (.cons (.tup (.cons (.cst (.int 2)) (.cons (.cst (.int 2)) .nil))) (.cons (.tup (.cons (.cst (.int 3)) (.cons (.cst (.int 0)) .nil))) .nil))))) .nil)))) (.cons (.tup (.cons (.cst (.int 3)) (.cons (.cst (.int 2)) (.cons (.tup (.cons (.tup (.cons (.cst (.int 0)) (.cons (.cst (.int 0)) .nil))) .nil)) .nil)))) .nil))))) (.seq (.asg 0 false (.bin .add (.var 0) (.lst (.cons (.tup (.cons (.cst (.int 2)) (.cons (.cst (.int 1)) (.cons (.tup (.cons (.tup (.cons (.cst (.int 0)) (.cons (.cst (.int 0)) .nil))) (.cons (.tup (.cons (.cst (.int 3)) (.cons (.cst (.int 1)) .nil))) .nil))) .nil)))) .nil)))) (.seq (.asg 1 false (.lst (.cons (.tup (.cons (.cst (.int 2)) (.cons (.cst (.int 1)) .nil))) (.cons (.tup (.cons (.cst (.int 6)) (.cons (.cst (.int 4096)) .nil))) (.cons (.tup (.cons (.cst (.int 6)) (.cons (.cst (.int 1)) .nil))) (.cons (.tup (.cons (.cst (.int 1)) (.cons (.cst (.int 2)) .nil))) .nil)))))) (.seq (.iff (.cmp .ne (.lc (.var 2) (.itm (.var 0)) .nil (.call "is_season" (.cons (.var 2) .nil))) (.bin .mul (.lst (.cons (.cst (.bool true)) .nil)) (.cst (.int 4)))) (.seq (.ret (.cst (.bool false))) .skip) .skip) (.seq (.ret (.cmp .eq (.lc (.var 2) (.itm (.var 0)) .nil (.tup (.cons (.bi .len (.cons (.call "matches" (.cons (.var 2) .nil)) .nil)) (.cons (.call "count_results" (.cons (.var 2) .nil)) .nil)))) (.var 1))) .skip)))))
def b_law : C := (.seq (.asg 1 false (.call "_law_season" (.cons (.var 0) (.cons (.cst (.int 10)) (.cons (.cst (.int 64)) .nil))))) (.seq (.asg 2 false (.call "_law_all" (.cons (.var 1) .nil))) (.seq (.iff (.bor (.cons (.bnot (.call "_law_shapes" .nil)) (.cons (.cmp .isnot (.call "is_season" (.cons (.var 1) .nil)) (.cst (.bool true))) .nil))) (.seq (.ret (.cst (.bool false))) .skip) .skip) (.seq (.iff (.cmp .ne (.call "matches" (.cons (.var 1) .nil)) (.call "_law_matches" (.cons (.var 1) .nil))) (.seq (.ret (.cst (.bool false))) .skip) .skip) (.seq (.iff (.bor (.cons (.cmp .ne (.call "count_results" (.cons (.var 1) .nil)) (.bi .len (.cons (.var 2) .nil))) (.cons (.cmp .ne (.call "all_results" (.cons (.var 1) .nil)) (.var 2)) .nil))) (.seq (.ret (.cst (.bool false))) .skip) .skip) (.seq (.par (.cons (.var 4) (.cons (.var 5) .nil)) [false, false] (.cons (.call "_law_results" (.cons (.var 0) (.cons (.cst (.int 30)) (.cons (.var 1) .nil)))) (.cons (.call "_law_badseason" (.cons (.var 0) (.cons (.cst (.int 1)) .nil))) .nil))) (.seq (.asg 3 true (.lst (.cons (.cst .none) (.cons (.tup .nil) (.cons (.sl (.var 4) (.cons (.cst (.int 1)) .nil) .nil) (.cons (.bin .add (.var 4) (.sl (.var 4) .nil (.cons (.cst (.int 1)) .nil))) (.cons (.bi .list (.cons (.var 4) .nil)) .nil))))))) (.seq (.asg 3 true (.bin .add (.var 3) (.lst (.cons (.bin .add (.tup (.cons (.tup (.cons (.cst (.int 4)) (.cons (.cst (.int 0)) .nil))) .nil)) (.sl (.var 4) (.cons (.cst (.int 1)) .nil) .nil)) (.cons (.bin .add (.tup (.cons (.cst .none) .nil)) (.sl (.var 4) (.cons (.cst (.int 1)) .nil) .nil)) .nil))))) (.seq (.asg 3 true (.bin .add (.var 3) (.lst (.cons (.bin .add (.tup (.cons (.tup (.cons (.cst (.bool true)) (.cons (.cst (.int 0)) .nil))) .nil)) (.sl (.var 4) (.cons (.cst (.int 1)) .nil) .nil)) (.cons (.bin .add (.tup (.cons (.bi .list (.cons (.idx (.var 4) (.cst (.int 0))) .nil)) .nil)) (.sl (.var 4) (.cons (.cst (.int 1)) .nil) .nil)) (.cons (.cst (.str "ab")) .nil)))))) (.seq (.asg 3 true (.bin .add (.var 3) (.lst (.cons (.bin .add (.tup (.cons (.tup (.cons (.cst (.int 0)) .nil)) .nil)) (.sl (.var 4) (.cons (.cst (.int 1)) .nil) .nil)) .nil)))) (.seq (.iff (.cmp .notin (.tup (.cons (.cst (.int 3)) (.cons (.cst (.int 3)) .nil))) (.idx (.var 1) (.cst (.int 2)))) (.seq (.app 3 (.bin .add (.tup (.cons (.tup (.cons (.cst (.int 3)) (.cons (.cst (.int 3)) .nil))) .nil)) (.sl (.var 4) (.cons (.cst (.int 1)) .nil) .nil))) .skip) .skip) (.seq (.iff (.cmp .isnot (.call "is_results" (.cons (.var 1) (.cons (.var 4) .nil))) (.cst (.bool true))) (.seq (.ret (.cst (.bool false))) .skip) .skip) (.fz 3 (.seq (.iff (.cmp .ne (.lc (.var 6) (.itm (.var 3)) (.cons (.cmp .isnot (.call "is_results" (.cons (.var 1) (.cons (.var 6) .nil))) (.cst (.bool false))) .nil) (.var 6)) (.lst .nil)) (.seq (.ret (.cst (.bool false))) .skip) .skip) (.seq (.iff (.bnot (.cmp .is (.call "is_season" (.cons (.var 5) .nil)) (.cst (.bool false)))) (.seq (.ret (.cst (.bool false))) .skip) .skip) (.seq (.ret (.cmp .eq (.lc (.var 7) (.rng (.cons (.cst (.int 4)) .nil)) .nil (.call "_law_error" (.cons (.var 7) (.cons (.var 5) (.cons (.var 4) .nil))))) (.bin .mul (.lst (.cons (.cst (.int 0)) .nil)) (.cst (.int 4))))) .skip))))))))))))))))
def d_is_int : DT := ⟨"is_int", top 9, ["value", "least", "most"], ["value", "least", "most"], b_is_int⟩
def d_is_score : DT := ⟨"is_score", top 10, ["value", "goals"], ["value"], b_is_score⟩
def d_is_rising : DT := ⟨"is_rising", top 11, ["values", "one", "other"], ["values"], b_is_rising⟩
def d_is_season : DT := ⟨"is_season", top 12, ["candidate", "many", "legs", "scores", "score"], ["candidate"], b_is_season⟩
def d_check_season : DT := ⟨"check_season", top 13, ["value"], ["value"], b_check_season⟩
def d_find_sides : DT := ⟨"find_sides", top 14, ["season"], ["season"], b_find_sides⟩
def d_find_matches : DT := ⟨"find_matches", top 15, ["season", "found", "number", "one", "other"], ["season"], b_find_matches⟩
def d_matches : DT := ⟨"matches", top 16, ["season"], ["season"], b_matches⟩
def d_count_results : DT := ⟨"count_results", top 17, ["season", "found", "match"], ["season"], b_count_results⟩
def d_has_results : DT := ⟨"has_results", top 18, ["season", "value", "score"], ["season", "value"], b_has_results⟩
def d_is_results : DT := ⟨"is_results", top 19, ["season", "candidate"], ["season", "candidate"], b_is_results⟩
def d_find_all : DT := ⟨"find_all", top 20, ["season", "found", "match", "later", "some", "score"], ["season"], b_find_all⟩
def d_all_results : DT := ⟨"all_results", top 21, ["season"], ["season"], b_all_results⟩
def d__law_drawn : DT := ⟨"_law_drawn", top 23, ["_law_script", "_law_k", "_law_many", "_law_cell", "_law_turn", "_law_rest"], ["_law_script", "_law_k", "_law_many"], b__law_drawn⟩
def d__law_season : DT := ⟨"_law_season", top 24, ["_law_script", "_law_at", "_law_most", "_law_known", "_law_scores", "_law_k", "_law_many", "_law_legs", "_law_count", "_law_size"], ["_law_script", "_law_at", "_law_most"], b__law_season⟩
def d__law_matches : DT := ⟨"_law_matches", top 25, ["_law_season_here", "_law_one", "_law_sides", "_law_found", "_law_other"], ["_law_season_here"], b__law_matches⟩
def d__law_all : DT := ⟨"_law_all", top 26, ["_law_season_here", "_law_found", "_law_match", "_law_later", "_law_some", "_law_score"], ["_law_season_here"], b__law_all⟩
def d__law_results : DT := ⟨"_law_results", top 27, ["_law_script", "_law_at", "_law_season_here", "_law_scores", "_law_k"], ["_law_script", "_law_at", "_law_season_here"], b__law_results⟩
def d__law_badseason : DT := ⟨"_law_badseason", top 28, ["_law_script", "_law_at", "_law_one", "_law_bad"], ["_law_script", "_law_at"], b__law_badseason⟩
def d__law_error : DT := ⟨"_law_error", top 29, ["_law_way", "_law_one", "_law_two", "e"], ["_law_way", "_law_one", "_law_two"], b__law_error⟩
def d__law_shapes : DT := ⟨"_law_shapes", top 30, ["_law_good", "_law_sizes", "_law_one"], [], b__law_shapes⟩
def d_law : DT := ⟨"law", top 31, ["_law_script", "_law_season_here", "_law_every", "_law_bad", "_law_results_here", "_law_odd", "_law_one", "_law_way"], ["_law_script"], b_law⟩
def T : List DT := [d_is_int, d_is_score, d_is_rising, d_is_season, d_check_season, d_find_sides, d_find_matches, d_matches, d_count_results, d_has_results, d_is_results, d_find_all, d_all_results, d__law_drawn, d__law_season, d__law_matches, d__law_all, d__law_results, d__law_badseason, d__law_error, d__law_shapes, d_law]
def globs : List Str := ["LETTERS", "MAX_GOALS", "MAX_SCORES", "MAX_SIDES", "MAX_TWICE"]
def gl : List (Str × PyData) := [("LETTERS", .str "abcd"), ("MAX_GOALS", .int 3), ("MAX_SCORES", .int 4), ("MAX_SIDES", .int 4), ("MAX_TWICE", .int 3)]
def free : List Str := ["all", "bool", "enumerate", "int", "isinstance", "len", "list", "range", "set", "sorted", "tuple", "zip"]
def excs : List Str := ["TableError", "InvalidSeason"]
def supers : List (Str × List Str) := [("TableError", ["TableError"]), ("InvalidSeason", ["InvalidSeason", "TableError"])]
theorem binds : ∀ d ∈ T, BindP d := by
  intro d hd
  simp only [T, List.mem_cons, List.not_mem_nil, or_false] at hd
  rcases hd with rfl | rfl | rfl | rfl | rfl | rfl | rfl | rfl | rfl | rfl | rfl | rfl | rfl | rfl | rfl | rfl | rfl | rfl | rfl | rfl | rfl | rfl
  · exact fun _ _ _ _ _ _ us hl => match us, hl with | [_, _, _], _ => rfl
  · exact fun _ _ _ _ _ _ us hl => match us, hl with | [_], _ => rfl
  · exact fun _ _ _ _ _ _ us hl => match us, hl with | [_], _ => rfl
  · exact fun _ _ _ _ _ _ us hl => match us, hl with | [_], _ => rfl
  · exact fun _ _ _ _ _ _ us hl => match us, hl with | [_], _ => rfl
  · exact fun _ _ _ _ _ _ us hl => match us, hl with | [_], _ => rfl
  · exact fun _ _ _ _ _ _ us hl => match us, hl with | [_], _ => rfl
  · exact fun _ _ _ _ _ _ us hl => match us, hl with | [_], _ => rfl
  · exact fun _ _ _ _ _ _ us hl => match us, hl with | [_], _ => rfl
  · exact fun _ _ _ _ _ _ us hl => match us, hl with | [_, _], _ => rfl
  · exact fun _ _ _ _ _ _ us hl => match us, hl with | [_, _], _ => rfl
  · exact fun _ _ _ _ _ _ us hl => match us, hl with | [_], _ => rfl
  · exact fun _ _ _ _ _ _ us hl => match us, hl with | [_], _ => rfl
  · exact fun _ _ _ _ _ _ us hl => match us, hl with | [_, _, _], _ => rfl
  · exact fun _ _ _ _ _ _ us hl => match us, hl with | [_, _, _], _ => rfl
  · exact fun _ _ _ _ _ _ us hl => match us, hl with | [_], _ => rfl
  · exact fun _ _ _ _ _ _ us hl => match us, hl with | [_], _ => rfl
  · exact fun _ _ _ _ _ _ us hl => match us, hl with | [_, _, _], _ => rfl
  · exact fun _ _ _ _ _ _ us hl => match us, hl with | [_, _], _ => rfl
  · exact fun _ _ _ _ _ _ us hl => match us, hl with | [_, _, _], _ => rfl
  · exact fun _ _ _ _ _ _ us hl => match us, hl with | [], _ => rfl
  · exact fun _ _ _ _ _ _ us hl => match us, hl with | [_], _ => rfl
end K01
namespace K01
open Rf
theorem ok_is_int : okD (arT T) globs free excs d_is_int = true := by decide +kernel
theorem ok_is_score : okD (arT T) globs free excs d_is_score = true := by decide +kernel
theorem ok_is_rising : okD (arT T) globs free excs d_is_rising = true := by decide +kernel
theorem ok_is_season : okD (arT T) globs free excs d_is_season = true := by decide +kernel
theorem ok_check_season : okD (arT T) globs free excs d_check_season = true := by decide +kernel
theorem ok_find_sides : okD (arT T) globs free excs d_find_sides = true := by decide +kernel
theorem ok_find_matches : okD (arT T) globs free excs d_find_matches = true := by decide +kernel
theorem ok_matches : okD (arT T) globs free excs d_matches = true := by decide +kernel
theorem ok_count_results : okD (arT T) globs free excs d_count_results = true := by decide +kernel
theorem ok_has_results : okD (arT T) globs free excs d_has_results = true := by decide +kernel
theorem ok_is_results : okD (arT T) globs free excs d_is_results = true := by decide +kernel
theorem ok_find_all : okD (arT T) globs free excs d_find_all = true := by decide +kernel
theorem ok_all_results : okD (arT T) globs free excs d_all_results = true := by decide +kernel
theorem ok__law_drawn : okD (arT T) globs free excs d__law_drawn = true := by decide +kernel
theorem ok__law_season : okD (arT T) globs free excs d__law_season = true := by decide +kernel
theorem ok__law_matches : okD (arT T) globs free excs d__law_matches = true := by decide +kernel
theorem ok__law_all : okD (arT T) globs free excs d__law_all = true := by decide +kernel
theorem ok__law_results : okD (arT T) globs free excs d__law_results = true := by decide +kernel
theorem ok__law_badseason : okD (arT T) globs free excs d__law_badseason = true := by decide +kernel
theorem ok__law_error : okD (arT T) globs free excs d__law_error = true := by decide +kernel
theorem ok__law_shapes : okD (arT T) globs free excs d__law_shapes = true := by decide +kernel
theorem ok_law : okD (arT T) globs free excs d_law = true := by decide +kernel
end K01

set_option Elab.async false
set_option linter.all false
set_option maxRecDepth 100000
set_option maxHeartbeats 4000000
namespace K01
open Rf PySem
/-- the drawn number's end -/
def drTail : C := (.seq (.asg 3 false (.bin .mod (.bi .int (.cons (.bin .add (.bin .mul (.bin .mod (.bi .int (.cons (.var 3) .nil)) (.cst (.int 2147483563))) (.cst (.int 69069))) (.bin .mul (.cst (.int 104723)) (.bin .add (.var 1) (.cst (.int 1))))) .nil)) (.cst (.int 2147483563)))) (.seq (.asg 3 false (.bin .mod (.bi .int (.cons (.bin .add (.bin .mul (.var 3) (.var 3)) (.bin .fdiv (.var 3) (.cst (.int 3)))) .nil)) (.cst (.int 2147483399)))) (.seq (.ret (.bin .mod (.bi .int (.cons (.bin .fdiv (.bin .mod (.bi .int (.cons (.bin .add (.bin .mul (.var 3) (.var 3)) (.bin .fdiv (.var 3) (.cst (.int 7)))) .nil)) (.cst (.int 2147483647))) (.cst (.int 11))) .nil)) (.var 2))) .skip)))
theorem drTail_ok (S : Sig) (fuel : Nat) (a b c : Option (Bool × PyData)) (k many cell : Int) (hm : 0 < many) :
    ∃ r : Int, ex S fuel drTail [a, some (false, .int k), some (false, .int many), some (false, .int cell), b, c] = .rt (.int r) ∧ 0 ≤ r ∧ r < many := by
  have m1 : ∀ x y : Int, mulOk (x % 2147483563) y = true := fun x y => by
    unfold mulOk
    have h1 := Int.emod_nonneg x (by decide : (2147483563 : Int) ≠ 0)
    have h2 := Int.emod_lt_of_pos x (by decide : (0 : Int) < 2147483563)
    have : (decide (-(2 ^ 64) < x % 2147483563) && decide (x % 2147483563 < 2 ^ 64)) = true := by simp only [Bool.and_eq_true, decide_eq_true_eq]; omega
    rw [this, Bool.true_or]
  have m2 : ∀ x y : Int, mulOk (x % 2147483399) y = true := fun x y => by
    unfold mulOk
    have h1 := Int.emod_nonneg x (by decide : (2147483399 : Int) ≠ 0)
    have h2 := Int.emod_lt_of_pos x (by decide : (0 : Int) < 2147483399)
    have : (decide (-(2 ^ 64) < x % 2147483399) && decide (x % 2147483399 < 2 ^ 64)) = true := by simp only [Bool.and_eq_true, decide_eq_true_eq]; omega
    rw [this, Bool.true_or]
  have m3 : ∀ y : Int, mulOk 104723 y = true := fun y => rfl
  have hm' : decide (0 < many) = true := decide_eq_true hm
  let c1 : Int := (cell % 2147483563 * 69069 + 104723 * (k + 1)) % 2147483563
  let c2 : Int := (c1 * c1 + c1 / 3) % 2147483399
  refine ⟨((c2 * c2 + c2 / 7) % 2147483647 / 11) % many, ?_, Int.emod_nonneg _ (by omega), Int.emod_lt_of_pos _ hm⟩
  simp [ex, ev, evs, evC, evAnd, evOr, evO, its, evPar, drTail, m1, m2, m3, hm]
  rfl
theorem atI_ok {α : Type} (xs : List α) (i : Int) (h0 : 0 ≤ i) (h1 : i < xs.length) : ∃ x, L2.atI xs i = some x ∧ x ∈ xs := by
  have hl : i.toNat < xs.length := by omega
  refine ⟨xs[i.toNat], ?_, List.getElem_mem hl⟩
  unfold L2.atI L2.ixN
  rw [if_pos h0, if_pos h1]
  exact List.getElem?_eq_getElem hl
def drWc : C := (.band (.cons (.cmp .gt (.var 5) (.cst (.int 0))) (.cons (.cmp .gt (.var 4) (.cst (.int 0))) .nil)))
def drWb : C := (.seq (.asg 5 false (.bin .fdiv (.var 5) (.cst (.int 1000000)))) (.seq (.asg 4 false (.bin .sub (.var 4) (.cst (.int 1)))) .skip))
theorem drLoop (S : Sig) (fl : Nat) (a b c d : Option (Bool × PyData)) : ∀ (fuel t : Nat) (rest : Int), t < fuel → ∃ t' r' : Int, whileGo (fun env => (ev S true drWc env).bind toBool) (ex S fl drWb) fuel [a, b, c, d, some (false, .int t), some (false, .int rest)] = .nx [a, b, c, d, some (false, .int t'), some (false, .int r')] := by
  intro fuel
  induction fuel with
  | zero => intro t rest h; omega
  | succ fuel ih =>
    intro t rest h
    rw [whileGo]
    by_cases h1 : 0 < rest
    · cases t with
      | zero => exact ⟨0, rest, by simp [ex, ev, evs, evC, evAnd, evOr, evO, its, evPar, drWc, h1]⟩
      | succ t =>
        obtain ⟨t', r', e⟩ := ih t (rest / 1000000) (by omega)
        refine ⟨t', r', ?_⟩
        rw [← e]
        have h2 : (0 : Int) < ((t + 1 : Nat) : Int) := by omega
        have h3 : ((t + 1 : Nat) : Int) - 1 = (t : Int) := by omega
        simp [ex, ev, evs, evC, evAnd, evOr, evO, its, evPar, drWc, drWb, h1]
    · exact ⟨t, rest, by simp [ex, ev, evs, evC, evAnd, evOr, evO, its, evPar, drWc, h1]⟩
def drA : C := (.seq (.asg 3 false (.idx (.var 0) (.bin .mod (.bi .int (.cons (.var 1) .nil)) (.bi .len (.cons (.var 0) .nil))))) (.seq (.asg 4 false (.bin .fdiv (.var 1) (.bi .len (.cons (.var 0) .nil)))) (.seq (.iff (.band (.cons (.cmp .ge (.var 3) (.bin .pow (.cst (.int 10)) (.cst (.int 18)))) (.cons (.cmp .lt (.var 4) (.cst (.int 60))) .nil))) (.seq (.asg 5 false (.bin .fdiv (.var 3) (.bin .pow (.cst (.int 10)) (.cst (.int 18))))) (.seq (.while_ drWc drWb) (.seq (.iff (.cmp .gt (.var 5) (.cst (.int 0))) (.seq (.ret (.bin .mod (.bi .int (.cons (.bin .mod (.bi .int (.cons (.var 5) .nil)) (.cst (.int 1000000))) .nil)) (.var 2))) .skip) .skip) .skip))) .skip) (.seq (.asg 3 false (.bin .add (.var 3) (.bin .mul (.cst (.int 6553)) (.bin .fdiv (.var 1) (.bi .len (.cons (.var 0) .nil)))))) .skip))))
theorem drawn_term : b__law_drawn = .seq (.asg 3 false (.bin .mul (.cst (.int 7)) (.var 1))) (.seq (.iff (.cmp .ne (.var 0) (.lst .nil)) drA .skip) drTail) := rfl
theorem shaped_ints (ns : List Int) : SeqAt.shaped (.list (ns.map PyData.int)) = true := by
  unfold SeqAt.shaped
  have h1 : ∀ ns : List Int, PyData.canLayAll0 (ns.map PyData.int) = true := fun ns => by
    induction ns with
    | nil => rfl
    | cons n ns ih => simp [PyData.canLayAll0, PyData.canLay0, ih]
  have h2 := PySem.W.depth_ints ns
  simp [PyData.canLay0, h1, PyData.depth, h2]
theorem drA_ok (S : Sig) (n0 : Int) (ns0 : List Int) (k many : Int) (x y z : Option (Bool × PyData)) (hk : 0 ≤ k) (hl : (n0 :: ns0).length ≤ 63) (hm : 0 < many) :
    (∃ cell : Int, ∃ y' z', ex S 100 drA [some (false, .list ((n0 :: ns0).map .int)), some (false, .int k), some (false, .int many), x, y, z] = .nx [some (false, .list ((n0 :: ns0).map .int)), some (false, .int k), some (false, .int many), some (false, .int cell), y', z']) ∨
    ∃ r : Int, ex S 100 drA [some (false, .list ((n0 :: ns0).map .int)), some (false, .int k), some (false, .int many), x, y, z] = .rt (.int r) ∧ 0 ≤ r ∧ r < many := by
  generalize hns : n0 :: ns0 = ns at hl ⊢
  have hpos : 0 < ns.length := by rw [← hns]; simp
  have hL : (0 : Int) < (ns.length : Int) := by omega
  have hL2 : (ns.length : Int) < 2 ^ 200 := by omega
  have hmod0 := Int.emod_nonneg k (by omega : (ns.length : Int) ≠ 0)
  have hmod1 := Int.emod_lt_of_pos k hL
  obtain ⟨c, hc, hcm⟩ := atI_ok (ns.map PyData.int) (k % (ns.length : Int)) hmod0 (by simpa using hmod1)
  obtain ⟨cell, _, rfl⟩ := List.mem_map.mp hcm
  have hidx : ixD (.list (ns.map .int)) (.int (k % (ns.length : Int))) = .ok (.int cell) := by
    unfold ixD
    simp only [hc]
  have hq : 0 ≤ k / (ns.length : Int) := Int.ediv_nonneg hk (by omega)
  obtain ⟨t, ht⟩ : ∃ t : Nat, k / (ns.length : Int) = t := ⟨(k / (ns.length : Int)).toNat, by omega⟩
  have e1 : binD .mod (.int k) (.int (ns.length : Int)) = .ok (.int (k % (ns.length : Int))) := binD_modI hL
  have e2 : binD .fdiv (.int k) (.int (ns.length : Int)) = .ok (.int (t : Int)) := by rw [binD_fdivI hL hL2, ht]
  have e3 : mulOk 6553 (t : Int) = true := rfl
  by_cases h1 : (1000000000000000000 : Int) ≤ cell
  · by_cases h2 : (t : Int) < 60
    · obtain ⟨t', r', hw⟩ := drLoop S 100 (some (false, .list (ns.map .int))) (some (false, .int k)) (some (false, .int many)) (some (false, .int cell)) 100 t (cell / 1000000000000000000) (by omega)
      by_cases h3 : 0 < r'
      · refine .inr ⟨(r' % 1000000) % many, ?_, Int.emod_nonneg _ (by omega), Int.emod_lt_of_pos _ hm⟩
        simp [ex, ev, evs, evC, evAnd, evOr, evO, its, evPar, drA, hidx, e1, e2, e3, hm, h1, h2, hw, h3]
      · refine .inl ⟨cell + 6553 * t, some (false, .int t'), some (false, .int r'), ?_⟩
        simp [ex, ev, evs, evC, evAnd, evOr, evO, its, evPar, drA, hidx, e1, e2, e3, hm, h1, h2, hw, h3]
    · refine .inl ⟨cell + 6553 * t, some (false, .int t), z, ?_⟩
      simp [ex, ev, evs, evC, evAnd, evOr, evO, its, evPar, drA, hidx, e1, e2, e3, hm, h1, h2]
  · refine .inl ⟨cell + 6553 * t, some (false, .int t), z, ?_⟩
    simp [ex, ev, evs, evC, evAnd, evOr, evO, its, evPar, drA, hidx, e1, e2, e3, hm, h1]
/-- the drawn number -/
theorem ex_drawn (S : Sig) (ns : List Int) (k many : Int) (hl : ns.length ≤ 63) (hk : 0 ≤ k) (hm : 0 < many) :
    ∃ r : Int, ex S 100 b__law_drawn (startE 6 [.list (ns.map .int), .int k, .int many]) = .rt (.int r) ∧ 0 ≤ r ∧ r < many := by
  have e0 : mulOk 7 k = true := rfl
  have hs1 : shp (.list (ns.map PyData.int)) = true := shaped_ints ns
  have hs2 : shp (.list []) = true := rfl
  cases ns with
  | nil =>
    obtain ⟨r, h1, h2⟩ := drTail_ok S 100 (some (false, .list [])) none none k many (7 * k) hm
    refine ⟨r, ?_, h2⟩
    rw [← h1, drawn_term]
    simp [ex, ev, evs, startE, e0, hs2, PyData.eqv, PyData.eqvAll]
  | cons n0 ns0 =>
    have hne : PyData.eqv (.list ((n0 :: ns0).map .int)) (.list []) = false := by simp [PyData.eqv, PyData.eqvAll]
    rcases drA_ok S n0 ns0 k many (some (false, .int (7 * k))) none none hk hl hm with ⟨cell, y', z', e⟩ | ⟨r, e, h2⟩
    · obtain ⟨r, h1, h2⟩ := drTail_ok S 100 (some (false, .list ((n0 :: ns0).map .int))) y' z' k many cell hm
      refine ⟨r, ?_, h2⟩
      rw [← h1, drawn_term]
      simp only [List.map_cons] at e hs1 hne
      simp [ex, ev, evs, startE, e0, hs1, hs2, hne, e]
    · refine ⟨r, ?_, h2⟩
      rw [drawn_term]
      simp only [List.map_cons] at e hs1 hne
      simp [ex, ev, evs, startE, e0, hs1, hs2, hne, e]
end K01

set_option Elab.async false
set_option linter.all false
set_option maxRecDepth 100000
set_option maxHeartbeats 4000000
namespace K01
open Rf PySem
abbrev P2 (a : Int × Int) : PyData := .tuple [.int a.1, .int a.2]
def lex (a b : Int × Int) : Bool := decide (a.1 < b.1 ∨ (a.1 = b.1 ∧ a.2 ≤ b.2))
theorem lex_total : PySem.W.TotalLe lex := ⟨fun a b c h1 h2 => by unfold lex at *; simp only [decide_eq_true_eq] at *; omega, fun a b => by unfold lex; simp only [decide_eq_true_eq]; omega⟩
theorem lex_le (a b : Int × Int) : PySem.W.dataLe false id (P2 a) (P2 b) = lex a b := by
  have h := congrFun (congrFun (PySem.W.dataLe_ii (fun a : Int × Int => a.1) (fun a => a.2)) a) b
  exact h
theorem isort_map {α β : Type} {le : β → β → Bool} {le' : α → α → Bool} (f : α → β) (h : ∀ a b, le (f a) (f b) = le' a b) : ∀ l : List α, isort le (l.map f) = (isort le' l).map f
  | [] => rfl
  | x :: xs => by
    have hi : ∀ (x : α) (l : List α), ins le (f x) (l.map f) = (ins le' x l).map f := fun x l => by
      induction l with
      | nil => rfl
      | cons y ys ih =>
        simp only [List.map_cons, ins, h]
        cases le' x y with
        | true => rfl
        | false => simp only [List.map_cons, ih]
    show ins le (f x) (isort le (xs.map f)) = (ins le' x (isort le' xs)).map f
    rw [isort_map f h xs, hi]
theorem sortD_pairs (ss : List (Int × Int)) (hl : ss.length ≤ 1000) : sortD false (ss.map P2) = .ok (.list ((isort lex ss).map P2)) := by
  unfold sortD
  have h1 : decide ((ss.map P2).length ≤ lineN) = true := decide_eq_true (by rw [List.length_map]; exact Nat.le_trans hl (by decide))
  have h2 : alikeAllB (ss.map P2) = true := by
    unfold alikeAllB
    simp [List.all_map, PySem.W.alike, PySem.W.alikeAll]
  have h3 : sortableB (ss.map P2) = true := by
    unfold sortableB
    simp [List.all_map]
  have h4 : depthB (ss.map P2) = true := by
    unfold depthB
    simp [List.all_map, PyData.depth, PyData.depthAll]
  rw [h1, h2, h3, h4, isort_map P2 lex_le]
  rfl
/-- ascending, none twice -/
def Rise (ss : List (Int × Int)) : Prop := ss.Pairwise fun a b => a.1 < b.1 ∨ (a.1 = b.1 ∧ a.2 < b.2)
theorem distinct_len {α : Type} [DecidableEq α] : ∀ l : List α, (distinct l).length ≤ l.length
  | [] => Nat.le_refl _
  | x :: xs => by
    unfold distinct
    have := distinct_len xs
    split
    · simp; omega
    · simp; omega
theorem nodup_of_len {α : Type} [DecidableEq α] : ∀ l : List α, l.length ≤ (distinct l).length → l.Nodup
  | [], _ => .nil
  | x :: xs, h => by
    unfold distinct at h
    have := distinct_len xs
    split at h
    · simp at h; omega
    · rename_i q
      have q := of_decide_eq_false q
      exact List.nodup_cons.mpr ⟨q, nodup_of_len xs (by simp at h; omega)⟩
theorem lenset_pairs (ss : List (Int × Int)) (hl : ss.length < 64) : lenSetD (.list (ss.map P2)) = R.ok (PyData.int ((distinct (ss.map fun a => [a.1, a.2])).length : Nat)) := by
  have h1 : keysD (ss.map P2) = .ok (ss.map fun a => [a.1, a.2]) := by
    induction ss with
    | nil => rfl
    | cons a ss ih =>
      have ih := ih (by simp at hl; omega)
      simp [keysD, tupInts, intsOf, ih]
  show R.chk (decide ((ss.map P2).length < 64)) ((keysD (ss.map P2)).bind fun ks => R.ok (PyData.int ((distinct ks).length : Nat))) = _
  rw [decide_eq_true (by rw [List.length_map]; exact hl), h1]
  rfl
theorem rise_sort (ss : List (Int × Int)) (h : ss.length ≤ (distinct (ss.map fun a => [a.1, a.2])).length) : Rise (isort lex ss) := by
  have nd : ss.Nodup := by
    have := nodup_of_len (ss.map fun a => [a.1, a.2]) (by rw [List.length_map]; exact h)
    exact List.Pairwise.of_map (fun a : Int × Int => [a.1, a.2]) (fun a b h z => h (by rw [z])) this
  have nd2 : (isort lex ss).Nodup := (isort_perm.nodup_iff).mpr nd
  have pw : (isort lex ss).Pairwise (fun a b => lex a b = true) := isort_pair lex_total
  unfold Rise
  refine List.Pairwise.imp (fun {a b} h => ?_) (List.Pairwise.and pw nd2)
  obtain ⟨h1, h2⟩ := h
  unfold lex at h1
  have h1 := of_decide_eq_true h1
  rcases h1 with h1 | ⟨h1, h3⟩
  · exact .inl h1
  · refine .inr ⟨h1, ?_⟩
    have : a.2 ≠ b.2 := fun z => h2 (Prod.ext h1 z)
    omega

abbrev season (m l : Int) (ss : List (Int × Int)) : PyData := .tuple [.int m, .int l, .tuple (ss.map P2)]
def InR (ss : List (Int × Int)) : Prop := ∀ a ∈ ss, (0 ≤ a.1 ∧ a.1 ≤ 3) ∧ (0 ≤ a.2 ∧ a.2 ≤ 3)
def seaTail : C := (.seq (.iff (.cmp .lt (.bi .lenset (.cons (.var 4) .nil)) (.var 8)) (.seq (.asg 4 false (.sl (.lst (.cons (.tup (.cons (.cst (.int 0)) (.cons (.cst (.int 0)) .nil))) (.cons (.tup (.cons (.cst (.int 0)) (.cons (.cst (.int 1)) .nil))) (.cons (.tup (.cons (.cst (.int 1)) (.cons (.cst (.int 0)) .nil))) .nil)))) .nil (.cons (.var 8) .nil))) .skip) .skip) (.seq (.ret (.tup (.cons (.var 6) (.cons (.var 7) (.cons (.bi .tuple (.cons (.bi .sorted (.cons (.var 4) .nil)) .nil)) .nil))))) .skip))
theorem seaTail_ok (S : Sig) (o : Bool) (e0 e1 e2 e3 e5 e9 : Option (Bool × PyData)) (m l : Int) (ss : List (Int × Int)) (hl : ss.length = 2 ∨ ss.length = 3) (hr : InR ss) :
    ∃ ss', ex S 100 seaTail [e0, e1, e2, e3, some (o, .list (ss.map P2)), e5, some (false, .int m), some (false, .int l), some (false, .int ss.length), e9] = .rt (season m l ss') ∧ ss'.length = ss.length ∧ InR ss' ∧ Rise ss' := by
  have hz : ss.length < 64 := by omega
  have hle : ∀ n : Nat, n ≤ 1000 → decide (n ≤ lineN) = true := fun n h => decide_eq_true (Nat.le_trans h (by decide))
  have h3 : R.chk (decide (3 ≤ lineN)) (R.ok (PyData.tuple [])) = R.ok (PyData.tuple []) := rfl
  by_cases h : ss.length ≤ (distinct (ss.map fun a => [a.1, a.2])).length
  · refine ⟨isort lex ss, ?_, isort_perm.length_eq, fun a ha => hr a (isort_perm.mem_iff.mp ha), rise_sort ss h⟩
    have hn : ¬ ((distinct (ss.map fun a => [a.1, a.2])).length < ss.length) := by omega
    have e1' := lenset_pairs ss hz
    have e2' := sortD_pairs ss (by omega)
    simp [ex, ev, evs, seaTail, e1', e2', hn, hle]
  · have hd : (distinct (ss.map fun a => [a.1, a.2])).length < ss.length := by omega
    have e1' := lenset_pairs ss hz
    rcases hl with hl | hl
    · refine ⟨[(0, 0), (0, 1)], ?_, hl.symm, by intro a ha; simp at ha; rcases ha with rfl | rfl <;> decide, by unfold Rise; simp⟩
      rw [hl] at hd ⊢
      have hd' : (((distinct (ss.map fun a => [a.1, a.2])).length : Nat) : Int) < 2 := by omega
      have e3' : sortD false [P2 (0, 0), P2 (0, 1)] = .ok (.list [P2 (0, 0), P2 (0, 1)]) := by kernel_rfl
      simp only [P2] at e3'
      simp [ex, ev, evs, evO, optInt, slD, cutL, HT.sIx, seaTail, e1', hd', hle, e3']
    · refine ⟨[(0, 0), (0, 1), (1, 0)], ?_, hl.symm, by intro a ha; simp at ha; rcases ha with rfl | rfl | rfl <;> decide, by unfold Rise; simp⟩
      rw [hl] at hd ⊢
      have hd' : (((distinct (ss.map fun a => [a.1, a.2])).length : Nat) : Int) < 3 := by omega
      have e3' : sortD false [P2 (0, 0), P2 (0, 1), P2 (1, 0)] = .ok (.list [P2 (0, 0), P2 (0, 1), P2 (1, 0)]) := by kernel_rfl
      simp only [P2] at e3'
      simp [ex, ev, evs, evO, optInt, slD, cutL, HT.sIx, seaTail, e1', hd', hle, e3']

/-- the drawn numbers, as the other defs see them -/
def Draws (S : Sig) (sc : PyData) : Prop := ∀ k many : Int, 0 ≤ k → 0 < many → ∃ r : Int, S.cl "_law_drawn" [sc, .int k, .int many] = .ok (.int r) ∧ 0 ≤ r ∧ r < many
def KC (m l c : Int) : Prop := (m = 3 ∧ l = 1 ∧ c = 3) ∨ (m = 3 ∧ l = 1 ∧ c = 2) ∨ (m = 2 ∧ l = 2 ∧ c = 3) ∨ (m = 4 ∧ l = 1 ∧ c = 2) ∨ (m = 3 ∧ l = 2 ∧ c = 2)
def kinds (m l : Int) : Prop := (m = 3 ∧ l = 1) ∨ (m = 2 ∧ l = 2) ∨ (m = 4 ∧ l = 1) ∨ (m = 3 ∧ l = 2)
def seaLoop : C := (.for_ (.var 5) (.rng (.cons (.var 8) .nil)) (.seq (.app 4 (.tup (.cons (.call "_law_drawn" (.cons (.var 0) (.cons (.bin .add (.bin .add (.var 1) (.cst (.int 1))) (.bin .mul (.cst (.int 2)) (.var 5))) (.cons (.cst (.int 4)) .nil)))) (.cons (.call "_law_drawn" (.cons (.var 0) (.cons (.bin .add (.bin .add (.var 1) (.cst (.int 2))) (.bin .mul (.cst (.int 2)) (.var 5))) (.cons (.cst (.int 3)) .nil)))) .nil)))) .skip))
theorem season_term : b__law_season = .seq (.asg 3 false (.lst (.cons (.tup (.cons (.cst (.int 3)) (.cons (.cst (.int 1)) (.cons (.cst (.int 3)) (.cons (.cst (.int 27)) .nil))))) (.cons (.tup (.cons (.cst (.int 3)) (.cons (.cst (.int 1)) (.cons (.cst (.int 2)) (.cons (.cst (.int 8)) .nil))))) (.cons (.tup (.cons (.cst (.int 2)) (.cons (.cst (.int 2)) (.cons (.cst (.int 3)) (.cons (.cst (.int 9)) .nil))))) (.cons (.tup (.cons (.cst (.int 3)) (.cons (.cst (.int 1)) (.cons (.cst (.int 3)) (.cons (.cst (.int 27)) .nil))))) (.cons (.tup (.cons (.cst (.int 4)) (.cons (.cst (.int 1)) (.cons (.cst (.int 2)) (.cons (.cst (.int 64)) .nil))))) .nil))))))) (.seq (.asg 3 false (.bin .add (.var 3) (.lst (.cons (.tup (.cons (.cst (.int 3)) (.cons (.cst (.int 2)) (.cons (.cst (.int 2)) (.cons (.cst (.int 64)) .nil))))) .nil)))) (.seq (.unp (.tup (.cons (.var 6) (.cons (.var 7) (.cons (.var 8) (.cons (.var 9) .nil))))) (.idx (.var 3) (.call "_law_drawn" (.cons (.var 0) (.cons (.var 1) (.cons (.cst (.int 6)) .nil)))))) (.seq (.iff (.cmp .gt (.var 9) (.var 2)) (.seq (.par (.cons (.var 6) (.cons (.var 7) (.cons (.var 8) .nil))) [false, false, false] (.cons (.cst (.int 3)) (.cons (.cst (.int 1)) (.cons (.cst (.int 2)) .nil)))) .skip) .skip) (.seq (.asg 4 true (.lst .nil)) (.seq seaLoop seaTail))))) := rfl
theorem seaLoop_ok (S : Sig) (sc : PyData) (hd : Draws S sc) (e2 e3 e6 e7 e9 : Option (Bool × PyData)) (e5 : Option (Bool × PyData)) (c : Int) (hc : c = 2 ∨ c = 3) :
    ∃ ss : List (Int × Int), ∃ e5', ex S 100 seaLoop [some (false, sc), some (false, .int 10), e2, e3, some (true, .list []), e5, e6, e7, some (false, .int c), e9] = .nx [some (false, sc), some (false, .int 10), e2, e3, some (true, .list (ss.map P2)), e5', e6, e7, some (false, .int c), e9] ∧ (ss.length : Int) = c ∧ InR ss := by
  obtain ⟨a1, h1, p1⟩ := hd 11 4 (by decide) (by decide)
  obtain ⟨b1, g1, q1⟩ := hd 12 3 (by decide) (by decide)
  obtain ⟨a2, h2, p2⟩ := hd 13 4 (by decide) (by decide)
  obtain ⟨b2, g2, q2⟩ := hd 14 3 (by decide) (by decide)
  obtain ⟨a3, h3, p3⟩ := hd 15 4 (by decide) (by decide)
  obtain ⟨b3, g3, q3⟩ := hd 16 3 (by decide) (by decide)
  have m2 : ∀ k : Int, mulOk 2 k = true := fun _ => rfl
  have hle : ∀ n : Nat, n ≤ 1000 → decide (n ≤ lineN) = true := fun n h => decide_eq_true (Nat.le_trans h (by decide))
  have r2 : rngD [.int 2] = .ok [.int 0, .int 1] := by kernel_rfl
  have r3 : rngD [.int 3] = .ok [.int 0, .int 1, .int 2] := by kernel_rfl
  rcases hc with rfl | rfl
  · refine ⟨[(a1, b1), (a2, b2)], some (false, .int 1), ?_, rfl, ?_⟩
    · simp [ex, ev, evs, its, seaLoop, r2, forGo, bindT, R.chk, m2, h1, g1, h2, g2, hle, ownL, appO]
    · intro a ha
      simp only [List.mem_cons, List.not_mem_nil, or_false] at ha
      rcases ha with rfl | rfl <;> (simp only; omega)
  · refine ⟨[(a1, b1), (a2, b2), (a3, b3)], some (false, .int 2), ?_, rfl, ?_⟩
    · simp [ex, ev, evs, its, seaLoop, r3, forGo, bindT, R.chk, m2, h1, g1, h2, g2, h3, g3, hle, ownL, appO]
    · intro a ha
      simp only [List.mem_cons, List.not_mem_nil, or_false] at ha
      rcases ha with rfl | rfl | rfl <;> (simp only; omega)
def knownL : List PyData := [.tuple [.int 3, .int 1, .int 3, .int 27], .tuple [.int 3, .int 1, .int 2, .int 8], .tuple [.int 2, .int 2, .int 3, .int 9], .tuple [.int 3, .int 1, .int 3, .int 27], .tuple [.int 4, .int 1, .int 2, .int 64], .tuple [.int 3, .int 2, .int 2, .int 64]]
theorem ex_season (S : Sig) (sc : PyData) (hd : Draws S sc) : ∃ m l ss, ex S 100 b__law_season (startE 10 [sc, .int 10, .int 64]) = .rt (season m l ss) ∧ KC m l ss.length ∧ InR ss ∧ Rise ss := by
  obtain ⟨r, h1, h2, h3⟩ := hd 10 6 (by decide) (by decide)
  have hle : ∀ n : Nat, n ≤ 1000 → decide (n ≤ lineN) = true := fun n h => decide_eq_true (Nat.le_trans h (by decide))
  have go : ∀ (m l c z : Int) (e3 : Option (Bool × PyData)), KC m l c → ∃ ss, ((ex S 100 seaLoop [some (false, sc), some (false, .int 10), some (false, .int 64), e3, some (true, .list []), none, some (false, .int m), some (false, .int l), some (false, .int c), some (false, .int z)]).then (ex S 100 seaTail)) = .rt (season m l ss) ∧ KC m l ss.length ∧ InR ss ∧ Rise ss := fun m l c z e3 hk => by
    have hc : c = 2 ∨ c = 3 := by unfold KC at hk; omega
    obtain ⟨ss, e5', e, hl, hr⟩ := seaLoop_ok S sc hd (some (false, .int 64)) e3 (some (false, .int m)) (some (false, .int l)) (some (false, .int z)) none c hc
    rw [e]
    obtain ⟨ss', g1, g2, g3, g4⟩ := seaTail_ok S true (some (false, sc)) (some (false, .int 10)) (some (false, .int 64)) e3 e5' (some (false, .int z)) m l ss (by omega) hr
    rw [hl] at g1
    exact ⟨ss', g1, by rw [g2, hl]; exact hk, g3, g4⟩
  have fin : ∀ (m l c z : Int) (e3 : Option (Bool × PyData)), KC m l c → ex S 100 b__law_season (startE 10 [sc, .int 10, .int 64]) = ((ex S 100 seaLoop [some (false, sc), some (false, .int 10), some (false, .int 64), e3, some (true, .list []), none, some (false, .int m), some (false, .int l), some (false, .int c), some (false, .int z)]).then (ex S 100 seaTail)) → ∃ m l ss, ex S 100 b__law_season (startE 10 [sc, .int 10, .int 64]) = .rt (season m l ss) ∧ KC m l ss.length ∧ InR ss ∧ Rise ss := fun m l c z e3 hk e => by
    obtain ⟨ss, g, rest⟩ := go m l c z e3 hk
    exact ⟨m, l, ss, e.trans g, rest⟩
  have hr : r = 0 ∨ r = 1 ∨ r = 2 ∨ r = 3 ∨ r = 4 ∨ r = 5 := by omega
  rcases hr with rfl | rfl | rfl | rfl | rfl | rfl
  · refine fin 3 1 3 27 (some (false, .list knownL)) (by unfold KC; omega) ?_
    rw [season_term]
    simp [ex, ev, evs, startE, hle, h1, ixD, L2.atI, L2.ixN, bindT, bindTs, R.chk, knownL]
  · refine fin 3 1 2 8 (some (false, .list knownL)) (by unfold KC; omega) ?_
    rw [season_term]
    simp [ex, ev, evs, startE, hle, h1, ixD, L2.atI, L2.ixN, bindT, bindTs, R.chk, knownL]
  · refine fin 2 2 3 9 (some (false, .list knownL)) (by unfold KC; omega) ?_
    rw [season_term]
    simp [ex, ev, evs, startE, hle, h1, ixD, L2.atI, L2.ixN, bindT, bindTs, R.chk, knownL]
  · refine fin 3 1 3 27 (some (false, .list knownL)) (by unfold KC; omega) ?_
    rw [season_term]
    simp [ex, ev, evs, startE, hle, h1, ixD, L2.atI, L2.ixN, bindT, bindTs, R.chk, knownL]
  · refine fin 4 1 2 64 (some (false, .list knownL)) (by unfold KC; omega) ?_
    rw [season_term]
    simp [ex, ev, evs, startE, hle, h1, ixD, L2.atI, L2.ixN, bindT, bindTs, R.chk, knownL]
  · refine fin 3 2 2 64 (some (false, .list knownL)) (by unfold KC; omega) ?_
    rw [season_term]
    simp [ex, ev, evs, startE, hle, h1, ixD, L2.atI, L2.ixN, bindT, bindTs, R.chk, knownL]
end K01

set_option Elab.async false
set_option linter.all false
set_option maxRecDepth 100000
set_option maxHeartbeats 4000000
namespace K01
open Rf PySem
def X : Txt := ⟨T, gl, free, excs, supers⟩
abbrev cd (n : Nat) (f : Str) (ds : List PyData) : R PyData := callD (tabD X.T) X.glf X.sub 100 n f ds
def getL : R PyData → List PyData | .ok (.list ds) => ds | _ => []
theorem k_shapes : cd 19 "_law_shapes" [] = .ok (.bool true) := by kernel_rfl
theorem cd_succ {n : Nat} {f : Str} {ds : List PyData} {df : Def} (h : tabD X.T f = some df) (ha : ds.length = df.arity) : cd (n + 1) f ds = (ex ⟨callD (tabD X.T) X.glf X.sub 100 n, X.glf, X.sub⟩ 100 df.body (startE df.names ds)).fin := by
  show callD (tabD X.T) X.glf X.sub 100 (n + 1) f ds = _
  rw [callD, h]
  show R.chk (decide (ds.length = df.arity)) _ = _
  rw [decide_eq_true ha]
  rfl
theorem ex_is_int (S : Sig) (i a b : Int) : ex S 100 b_is_int (startE 3 [.int i, .int a, .int b]) = .rt (.bool (decide (a ≤ i) && decide (i ≤ b))) := by
  by_cases h : a ≤ i
  · simp [ex, ev, evs, evAnd, startE, b_is_int, isIntD, isBoolD, h]
  · simp [ex, ev, evs, evAnd, startE, b_is_int, isIntD, isBoolD, h]
def IntOk (S : Sig) : Prop := ∀ i a b : Int, S.cl "is_int" [.int i, .int a, .int b] = .ok (.bool (decide (a ≤ i) && decide (i ≤ b)))
theorem eqv_int (i j : Int) : PyData.eqv (.int i) (.int j) = decide (i = j) := by
  simp only [PyData.eqv]
  by_cases h : i = j <;> simp [h]
theorem ex_is_score (S : Sig) (hI : IntOk S) (hG : S.gl "MAX_GOALS" = .ok (.int 3)) (p : Int × Int) : ex S 100 b_is_score (startE 2 [P2 p]) = .rt (.bool (decide (0 ≤ p.1) && decide (p.1 ≤ 3) && (decide (0 ≤ p.2) && decide (p.2 ≤ 3)))) := by
  have e : ∀ i j : Int, shp (.int i) = true := fun _ _ => rfl
  simp [ex, ev, evs, evC, evAnd, its, startE, b_is_score, isTupleD, eqD, shp, SeqAt.shaped, PyData.canLay0, PyData.depth, eqv_int, lcGo, bindT, tgVars, wipeE, hI _ _ _, hG, boolsOf, R.chk, R.nox]
theorem ex_is_rising2 (S : Sig) (p q : Int × Int) (h : Rise [p, q]) : ex S 100 b_is_rising (startE 3 [.tuple [P2 p, P2 q]]) = .rt (.bool true) := by
  have h1 : p.1 < q.1 ∨ (p.1 = q.1 ∧ p.2 < q.2) := by simpa [Rise] using h
  have d1 : PySem.W.dataLt (P2 p) (P2 q) = true := by rw [PySem.W.dataLt_ii]; exact decide_eq_true h1
  simp [ex, ev, evs, evC, evO, optInt, its, startE, b_is_rising, slD, cutL, HT.sIx, zips, lcGo, bindT, bindTs, tgVars, wipeE, boolsOf, R.chk, R.nox, PySem.W.alike, PySem.W.alikeAll, PyData.depth, PyData.depthAll, d1]
theorem ex_is_rising3 (S : Sig) (p q r : Int × Int) (h : Rise [p, q, r]) : ex S 100 b_is_rising (startE 3 [.tuple [P2 p, P2 q, P2 r]]) = .rt (.bool true) := by
  have h0 : ((p.1 < q.1 ∨ (p.1 = q.1 ∧ p.2 < q.2)) ∧ (p.1 < r.1 ∨ (p.1 = r.1 ∧ p.2 < r.2))) ∧ (q.1 < r.1 ∨ (q.1 = r.1 ∧ q.2 < r.2)) := by simpa [Rise] using h
  have d1 : PySem.W.dataLt (P2 p) (P2 q) = true := by rw [PySem.W.dataLt_ii]; exact decide_eq_true h0.1.1
  have d2 : PySem.W.dataLt (P2 q) (P2 r) = true := by rw [PySem.W.dataLt_ii]; exact decide_eq_true h0.2
  simp [ex, ev, evs, evC, evO, optInt, its, startE, b_is_rising, slD, cutL, HT.sIx, zips, lcGo, bindT, bindTs, tgVars, wipeE, boolsOf, R.chk, R.nox, PySem.W.alike, PySem.W.alikeAll, PyData.depth, PyData.depthAll, d1, d2]
theorem ex_is_season (S : Sig) (m l : Int) (ss : List (Int × Int)) (hk : kinds m l) (hl : ss.length = 2 ∨ ss.length = 3) (hI : IntOk S) (hsc : ∀ p ∈ ss, S.cl "is_score" [P2 p] = .ok (.bool true)) (hri : S.cl "is_rising" [.tuple (ss.map P2)] = .ok (.bool true))
    (g1 : S.gl "MAX_SIDES" = .ok (.int 4)) (g2 : S.gl "MAX_TWICE" = .ok (.int 3)) (g3 : S.gl "MAX_SCORES" = .ok (.int 4)) : ex S 100 b_is_season (startE 5 [season m l ss]) = .rt (.bool true) := by
  match ss, hl with
  | [p, q], _ =>
    have a1 := hsc p (by simp)
    have a2 := hsc q (by simp)
    simp only [List.map_cons, List.map_nil] at hri
    rcases hk with ⟨rfl, rfl⟩ | ⟨rfl, rfl⟩ | ⟨rfl, rfl⟩ | ⟨rfl, rfl⟩ <;>
      simp [ex, ev, evs, evC, evAnd, evOr, its, startE, b_is_season, isTupleD, eqD, shp, SeqAt.shaped, PyData.canLay0, PyData.depth, eqv_int, lcGo, bindT, bindTs, tgVars, wipeE, hI _ _ _, g1, g2, g3, boolsOf, R.chk, R.nox, a1, a2, hri]
  | [p, q, r], _ =>
    have a1 := hsc p (by simp)
    have a2 := hsc q (by simp)
    have a3 := hsc r (by simp)
    simp only [List.map_cons, List.map_nil] at hri
    rcases hk with ⟨rfl, rfl⟩ | ⟨rfl, rfl⟩ | ⟨rfl, rfl⟩ | ⟨rfl, rfl⟩ <;>
      simp [ex, ev, evs, evC, evAnd, evOr, its, startE, b_is_season, isTupleD, eqD, shp, SeqAt.shaped, PyData.canLay0, PyData.depth, eqv_int, lcGo, bindT, bindTs, tgVars, wipeE, hI _ _ _, g1, g2, g3, boolsOf, R.chk, R.nox, a1, a2, a3, hri]
end K01

set_option Elab.async false
set_option linter.all false
set_option maxRecDepth 100000
set_option maxHeartbeats 4000000
namespace K01
open Rf PySem
/-! what depends on the sides and the legs alone, or on the number of the scores -/
def ML31 : List PyData := getL (cd 2 "find_matches" [.tuple [.int 3, .int 1, .none]])
theorem fm31 (n : Nat) (x : PyData) : cd (n + 2) "find_matches" [.tuple [.int 3, .int 1, x]] = .ok (.list ML31) := by kernel_rfl
theorem lm31 (n : Nat) (x : PyData) : cd (n + 1) "_law_matches" [.tuple [.int 3, .int 1, x]] = .ok (.list ML31) := by kernel_rfl
def AL31_2 (s0 s1 : PyData) : List PyData := getL (cd 4 "_law_all" [.tuple [.int 3, .int 1, .tuple [s0, s1]]])
theorem la31_2 (n : Nat) (s0 s1 : PyData) : cd (n + 2) "_law_all" [.tuple [.int 3, .int 1, .tuple [s0, s1]]] = .ok (.list (AL31_2 s0 s1)) := by kernel_rfl
theorem fa31_2 (n : Nat) (s0 s1 : PyData) : cd (n + 3) "find_all" [.tuple [.int 3, .int 1, .tuple [s0, s1]]] = .ok (.list (AL31_2 s0 s1)) := by kernel_rfl
theorem al31_2 (s0 s1 : PyData) : (AL31_2 s0 s1).length = 8 := by kernel_rfl
theorem as31_2 (a0 b0 a1 b1 : Int) : shp (.list (AL31_2 (P2 (a0, b0)) (P2 (a1, b1)))) = true := by kernel_rfl
theorem ak31_2 (a0 b0 a1 b1 : Int) : PySem.W.alike (.list (AL31_2 (P2 (a0, b0)) (P2 (a1, b1)))) (.list (AL31_2 (P2 (a0, b0)) (P2 (a1, b1)))) = true := by kernel_rfl
def AL31_3 (s0 s1 s2 : PyData) : List PyData := getL (cd 4 "_law_all" [.tuple [.int 3, .int 1, .tuple [s0, s1, s2]]])
theorem la31_3 (n : Nat) (s0 s1 s2 : PyData) : cd (n + 2) "_law_all" [.tuple [.int 3, .int 1, .tuple [s0, s1, s2]]] = .ok (.list (AL31_3 s0 s1 s2)) := by kernel_rfl
theorem fa31_3 (n : Nat) (s0 s1 s2 : PyData) : cd (n + 3) "find_all" [.tuple [.int 3, .int 1, .tuple [s0, s1, s2]]] = .ok (.list (AL31_3 s0 s1 s2)) := by kernel_rfl
theorem al31_3 (s0 s1 s2 : PyData) : (AL31_3 s0 s1 s2).length = 27 := by kernel_rfl
theorem as31_3 (a0 b0 a1 b1 a2 b2 : Int) : shp (.list (AL31_3 (P2 (a0, b0)) (P2 (a1, b1)) (P2 (a2, b2)))) = true := by kernel_rfl
theorem ak31_3 (a0 b0 a1 b1 a2 b2 : Int) : PySem.W.alike (.list (AL31_3 (P2 (a0, b0)) (P2 (a1, b1)) (P2 (a2, b2)))) (.list (AL31_3 (P2 (a0, b0)) (P2 (a1, b1)) (P2 (a2, b2)))) = true := by kernel_rfl
def ML22 : List PyData := getL (cd 2 "find_matches" [.tuple [.int 2, .int 2, .none]])
theorem fm22 (n : Nat) (x : PyData) : cd (n + 2) "find_matches" [.tuple [.int 2, .int 2, x]] = .ok (.list ML22) := by kernel_rfl
theorem lm22 (n : Nat) (x : PyData) : cd (n + 1) "_law_matches" [.tuple [.int 2, .int 2, x]] = .ok (.list ML22) := by kernel_rfl
def AL22_3 (s0 s1 s2 : PyData) : List PyData := getL (cd 4 "_law_all" [.tuple [.int 2, .int 2, .tuple [s0, s1, s2]]])
theorem la22_3 (n : Nat) (s0 s1 s2 : PyData) : cd (n + 2) "_law_all" [.tuple [.int 2, .int 2, .tuple [s0, s1, s2]]] = .ok (.list (AL22_3 s0 s1 s2)) := by kernel_rfl
theorem fa22_3 (n : Nat) (s0 s1 s2 : PyData) : cd (n + 3) "find_all" [.tuple [.int 2, .int 2, .tuple [s0, s1, s2]]] = .ok (.list (AL22_3 s0 s1 s2)) := by kernel_rfl
theorem al22_3 (s0 s1 s2 : PyData) : (AL22_3 s0 s1 s2).length = 9 := by kernel_rfl
theorem as22_3 (a0 b0 a1 b1 a2 b2 : Int) : shp (.list (AL22_3 (P2 (a0, b0)) (P2 (a1, b1)) (P2 (a2, b2)))) = true := by kernel_rfl
theorem ak22_3 (a0 b0 a1 b1 a2 b2 : Int) : PySem.W.alike (.list (AL22_3 (P2 (a0, b0)) (P2 (a1, b1)) (P2 (a2, b2)))) (.list (AL22_3 (P2 (a0, b0)) (P2 (a1, b1)) (P2 (a2, b2)))) = true := by kernel_rfl
def ML41 : List PyData := getL (cd 2 "find_matches" [.tuple [.int 4, .int 1, .none]])
theorem fm41 (n : Nat) (x : PyData) : cd (n + 2) "find_matches" [.tuple [.int 4, .int 1, x]] = .ok (.list ML41) := by kernel_rfl
theorem lm41 (n : Nat) (x : PyData) : cd (n + 1) "_law_matches" [.tuple [.int 4, .int 1, x]] = .ok (.list ML41) := by kernel_rfl
def AL41_2 (s0 s1 : PyData) : List PyData := getL (cd 4 "_law_all" [.tuple [.int 4, .int 1, .tuple [s0, s1]]])
theorem la41_2 (n : Nat) (s0 s1 : PyData) : cd (n + 2) "_law_all" [.tuple [.int 4, .int 1, .tuple [s0, s1]]] = .ok (.list (AL41_2 s0 s1)) := by kernel_rfl
theorem fa41_2 (n : Nat) (s0 s1 : PyData) : cd (n + 3) "find_all" [.tuple [.int 4, .int 1, .tuple [s0, s1]]] = .ok (.list (AL41_2 s0 s1)) := by kernel_rfl
theorem al41_2 (s0 s1 : PyData) : (AL41_2 s0 s1).length = 64 := by kernel_rfl
theorem as41_2 (a0 b0 a1 b1 : Int) : shp (.list (AL41_2 (P2 (a0, b0)) (P2 (a1, b1)))) = true := by kernel_rfl
theorem ak41_2 (a0 b0 a1 b1 : Int) : PySem.W.alike (.list (AL41_2 (P2 (a0, b0)) (P2 (a1, b1)))) (.list (AL41_2 (P2 (a0, b0)) (P2 (a1, b1)))) = true := by kernel_rfl
def ML32 : List PyData := getL (cd 2 "find_matches" [.tuple [.int 3, .int 2, .none]])
theorem fm32 (n : Nat) (x : PyData) : cd (n + 2) "find_matches" [.tuple [.int 3, .int 2, x]] = .ok (.list ML32) := by kernel_rfl
theorem lm32 (n : Nat) (x : PyData) : cd (n + 1) "_law_matches" [.tuple [.int 3, .int 2, x]] = .ok (.list ML32) := by kernel_rfl
def AL32_2 (s0 s1 : PyData) : List PyData := getL (cd 4 "_law_all" [.tuple [.int 3, .int 2, .tuple [s0, s1]]])
theorem la32_2 (n : Nat) (s0 s1 : PyData) : cd (n + 2) "_law_all" [.tuple [.int 3, .int 2, .tuple [s0, s1]]] = .ok (.list (AL32_2 s0 s1)) := by kernel_rfl
theorem fa32_2 (n : Nat) (s0 s1 : PyData) : cd (n + 3) "find_all" [.tuple [.int 3, .int 2, .tuple [s0, s1]]] = .ok (.list (AL32_2 s0 s1)) := by kernel_rfl
theorem al32_2 (s0 s1 : PyData) : (AL32_2 s0 s1).length = 64 := by kernel_rfl
theorem as32_2 (a0 b0 a1 b1 : Int) : shp (.list (AL32_2 (P2 (a0, b0)) (P2 (a1, b1)))) = true := by kernel_rfl
theorem ak32_2 (a0 b0 a1 b1 : Int) : PySem.W.alike (.list (AL32_2 (P2 (a0, b0)) (P2 (a1, b1)))) (.list (AL32_2 (P2 (a0, b0)) (P2 (a1, b1)))) = true := by kernel_rfl
end K01

set_option Elab.async false
set_option linter.all false
set_option maxRecDepth 100000
set_option maxHeartbeats 4000000
namespace K01
open Rf PySem
/-! the results, drawn and asked -/
theorem lcGo_from {ss : List (Int × Int)} {f : PyData → R (Option PyData)} : ∀ {xs : List PyData}, (∀ x ∈ xs, ∃ p ∈ ss, f x = .ok (some (P2 p))) → ∃ rs : List (Int × Int), lcGo f xs = .ok (rs.map P2) ∧ rs.length = xs.length ∧ ∀ r ∈ rs, r ∈ ss
  | [], _ => ⟨[], rfl, rfl, fun _ h => absurd h (by simp)⟩
  | x :: xs, h => by
    obtain ⟨p, hp, e⟩ := h x (List.mem_cons_self ..)
    obtain ⟨rs, e2, l2, h2⟩ := lcGo_from (f := f) (xs := xs) fun y hy => h y (List.mem_cons_of_mem _ hy)
    refine ⟨p :: rs, ?_, by simp [l2], fun r hr => ?_⟩
    · rw [lcGo, e, R.bind_ok, e2]; rfl
    · rcases List.mem_cons.mp hr with rfl | hr
      · exact hp
      · exact h2 r hr
theorem range_mem {n : Nat} {x : PyData} (h : x ∈ rangeD 0 n) : ∃ k : Nat, x = .int k := by
  unfold rangeD at h
  obtain ⟨k, _, rfl⟩ := List.mem_map.mp h
  exact ⟨k, by simp⟩
def lcR : C := .lc (.var 4) (.rng (.cons (.bi .len (.cons (.call "_law_matches" (.cons (.var 2) .nil)) .nil)) .nil)) .nil (.idx (.var 3) (.call "_law_drawn" (.cons (.var 0) (.cons (.bin .add (.var 1) (.var 4)) (.cons (.bi .len (.cons (.var 3) .nil)) .nil)))))
theorem lcR_term : b__law_results = .seq (.asg 3 false (.idx (.var 2) (.cst (.int 2)))) (.seq (.ret (.bi .tuple (.cons lcR .nil))) .skip) := rfl
def rsF (S : Sig) (sc : PyData) (m l : Int) (ss : List (Int × Int)) (x : PyData) : R (Option PyData) := ((bindT (.var 4) x (wipeE [some (false, sc), some (false, .int 30), some (false, season m l ss), some (false, .tuple (ss.map P2)), none] (tgVars (.var 4)))).bind fun env' => (evC S .nil env').bind fun k => match k with | true => (ev S false (.idx (.var 3) (.call "_law_drawn" (.cons (.var 0) (.cons (.bin .add (.var 1) (.var 4)) (.cons (.bi .len (.cons (.var 3) .nil)) .nil))))) env').bind fun d => .ok (some d) | false => .ok none).nox
theorem ex_results (S : Sig) (sc : PyData) (hd : Draws S sc) (m l : Int) (ss : List (Int × Int)) (ML : List PyData) (hM : S.cl "_law_matches" [season m l ss] = .ok (.list ML)) (hs : 0 < ss.length) (hr : rngD [.int (ML.length : Int)] = .ok (rangeD 0 ML.length)) :
    ∃ rs : List (Int × Int), ex S 100 b__law_results (startE 5 [sc, .int 30, season m l ss]) = .rt (.tuple (rs.map P2)) ∧ rs.length = ML.length ∧ ∀ r ∈ rs, r ∈ ss := by
  have key : ∀ x ∈ rangeD 0 ML.length, ∃ p ∈ ss, rsF S sc m l ss x = .ok (some (P2 p)) := fun x hx => by
    obtain ⟨k, rfl⟩ := range_mem hx
    obtain ⟨r, h1, h2, h3⟩ := hd (30 + k) ss.length (by omega) (by omega)
    obtain ⟨d, e, hm⟩ := atI_ok (ss.map P2) r h2 (by simpa using h3)
    obtain ⟨p, hp, rfl⟩ := List.mem_map.mp hm
    refine ⟨p, hp, ?_⟩
    have e3 : ixD (.tuple (ss.map P2)) (.int r) = .ok (P2 p) := by unfold ixD; simp only [e]
    simp [rsF, ev, evs, evC, bindT, tgVars, wipeE, R.chk, h1, e3, R.nox]
  obtain ⟨rs, e, hl, h⟩ := lcGo_from key
  refine ⟨rs, ?_, by rw [hl]; unfold rangeD; simp, h⟩
  have e4 : ixD (.tuple [.int m, .int l, .tuple (ss.map P2)]) (.int 2) = .ok (.tuple (ss.map P2)) := rfl
  have e5 : ∀ n : Nat, n ≤ 1000 → decide (n ≤ lineN) = true := fun n h => decide_eq_true (Nat.le_trans h (by decide))
  have e6 : ev S true lcR [some (false, sc), some (false, .int 30), some (false, season m l ss), some (false, .tuple (ss.map P2)), none] = .ok (.list (rs.map P2)) := by
    unfold lcR
    rw [ev]
    have e7 : its S (.rng (.cons (.bi .len (.cons (.call "_law_matches" (.cons (.var 2) .nil)) .nil)) .nil)) [some (false, sc), some (false, .int 30), some (false, season m l ss), some (false, .tuple (ss.map P2)), none] = .ok (rangeD 0 ML.length) := by
      have e8 : evs S true (.cons (.bi .len (.cons (.call "_law_matches" (.cons (.var 2) .nil)) .nil)) .nil) [some (false, sc), some (false, .int 30), some (false, season m l ss), some (false, .tuple (ss.map P2)), none] = .ok [.int (ML.length : Int)] := by simp [ev, evs, hM]
      rw [its, e8, R.bind_ok, hr]
    rw [e7, R.bind_ok]
    show (lcGo (rsF S sc m l ss) (rangeD 0 ML.length)).bind _ = _
    rw [e]
    rfl
  rw [lcR_term]
  simp [ex, ev, evs, startE, e4, e6]
/-- one thing asked: is it a score of these -/
def Elem (S : Sig) (ss : List (Int × Int)) (x : PyData) (b : Bool) : Prop := S.cl "is_score" [x] = .ok (.bool false) ∧ b = false ∨ S.cl "is_score" [x] = .ok (.bool true) ∧ inD x (.tuple (ss.map P2)) = .ok b
theorem lcGo_bools {S : Sig} {ss : List (Int × Int)} {f : PyData → R (Option PyData)} (hf : ∀ x b, Elem S ss x b → f x = .ok (some (.bool b))) : ∀ {xs : List PyData}, (∀ x ∈ xs, ∃ b, Elem S ss x b) → ∃ bs : List Bool, lcGo f xs = .ok (bs.map PyData.bool) ∧ (∀ b, (∀ x ∈ xs, Elem S ss x b) → ∀ c ∈ bs, c = b) ∧ (∀ x r, xs = x :: r → ∀ b, Elem S ss x b → ∃ r', bs = b :: r')
  | [], _ => ⟨[], rfl, fun _ _ _ h => absurd h (by simp), fun _ _ h => nomatch h⟩
  | x :: xs, h => by
    obtain ⟨b, hb⟩ := h x (List.mem_cons_self ..)
    obtain ⟨bs, e, h1, _⟩ := lcGo_bools hf (xs := xs) fun y hy => h y (List.mem_cons_of_mem _ hy)
    have uniq : ∀ b', Elem S ss x b' → b' = b := fun b' hb' => by
      have q := (hf x b' hb').symm.trans (hf x b hb)
      cases q
      rfl
    refine ⟨b :: bs, ?_, fun b' hb' c hc => ?_, fun y r e2 b' hb' => ?_⟩
    · rw [lcGo, hf x b hb, R.bind_ok, e]; rfl
    · rcases List.mem_cons.mp hc with rfl | hc
      · exact (uniq b' (hb' x (List.mem_cons_self ..))).symm
      · exact h1 b' (fun z hz => hb' z (List.mem_cons_of_mem _ hz)) c hc
    · cases e2
      exact ⟨bs, by rw [uniq b' hb']⟩
theorem boolsOf_map (bs : List Bool) : boolsOf (bs.map PyData.bool) = .ok bs := by
  induction bs with
  | nil => rfl
  | cons b bs ih => simp [boolsOf, ih]
def hrF (S : Sig) (se : PyData) (vs : List PyData) (x : PyData) : R (Option PyData) :=
  ((bindT (.var 2) x (wipeE [some (false, se), some (false, .tuple vs), none] (tgVars (.var 2)))).bind fun env' => (evC S .nil env').bind fun k => match k with | true => (ev S false (.band (.cons (.call "is_score" (.cons (.var 2) .nil)) (.cons (.cmp .isin (.var 2) (.idx (.var 0) (.cst (.int 2)))) .nil))) env').bind fun d => .ok (some d) | false => .ok none).nox
theorem hrF_ok {S : Sig} {m l : Int} {ss : List (Int × Int)} {vs : List PyData} (x : PyData) (b : Bool) (h : Elem S ss x b) : hrF S (season m l ss) vs x = .ok (some (.bool b)) := by
  have e4 : ixD (.tuple [.int m, .int l, .tuple (ss.map P2)]) (.int 2) = .ok (.tuple (ss.map P2)) := rfl
  unfold hrF
  rcases h with ⟨h, rfl⟩ | ⟨h, h2⟩
  · simp [ev, evs, evC, evAnd, bindT, tgVars, wipeE, R.chk, R.nox, h]
  · simp [ev, evs, evC, evAnd, bindT, tgVars, wipeE, R.chk, R.nox, h, e4, h2]
def lcH : C := .lc (.var 2) (.itm (.var 1)) .nil (.band (.cons (.call "is_score" (.cons (.var 2) .nil)) (.cons (.cmp .isin (.var 2) (.idx (.var 0) (.cst (.int 2)))) .nil)))
theorem ex_has (S : Sig) (m l : Int) (ss : List (Int × Int)) (ML vs : List PyData) (hM : S.cl "find_matches" [season m l ss] = .ok (.list ML)) :
    (vs.length ≠ ML.length → ex S 100 b_has_results (startE 3 [season m l ss, .tuple vs]) = .rt (.bool false)) ∧
    (vs.length = ML.length → (∀ x ∈ vs, Elem S ss x true) → ex S 100 b_has_results (startE 3 [season m l ss, .tuple vs]) = .rt (.bool true)) ∧
    (vs.length = ML.length → ∀ x r, vs = x :: r → Elem S ss x false → (∀ y ∈ r, ∃ b, Elem S ss y b) → ex S 100 b_has_results (startE 3 [season m l ss, .tuple vs]) = .rt (.bool false)) := by
  have e1 : ∀ a b : Int, eqD (.int a) (.int b) = .ok (decide (a = b)) := fun a b => by
    rw [← eqv_int]; rfl
  have term : b_has_results = .seq (.iff (.bor (.cons (.bnot (.bi .isTuple (.cons (.var 1) .nil))) (.cons (.cmp .ne (.bi .len (.cons (.var 1) .nil)) (.bi .len (.cons (.call "find_matches" (.cons (.var 0) .nil)) .nil))) .nil))) (.seq (.ret (.cst (.bool false))) .skip) .skip) (.seq (.ret (.bi .all (.cons lcH .nil))) .skip) := rfl
  have run : vs.length = ML.length → ∀ bs : List Bool, lcGo (hrF S (season m l ss) vs) vs = .ok (bs.map PyData.bool) → ex S 100 b_has_results (startE 3 [season m l ss, .tuple vs]) = .rt (.bool (bs.all id)) := fun hl bs e => by
    have hl' : ((vs.length : Int) = (ML.length : Int)) := by omega
    have e6 : ev S true lcH [some (false, season m l ss), some (false, .tuple vs), none] = .ok (.list (bs.map PyData.bool)) := by
      unfold lcH
      rw [ev]
      have e7 : its S (.itm (.var 1)) [some (false, season m l ss), some (false, .tuple vs), none] = .ok vs := by simp [its, ev]
      rw [e7, R.bind_ok]
      show (lcGo (hrF S (season m l ss) vs) vs).bind _ = _
      rw [e]
      rfl
    rw [term]
    simp [ex, ev, evs, evOr, startE, isTupleD, hM, e1, hl, e6, boolsOf_map]
  refine ⟨fun h => ?_, fun hl h => ?_, fun hl x r e h hr => ?_⟩
  · have h' : ¬ ((vs.length : Int) = (ML.length : Int)) := by omega
    rw [term]
    simp [ex, ev, evs, evOr, startE, isTupleD, hM, e1, h, h']
  · obtain ⟨bs, e, h1, _⟩ := lcGo_bools (S := S) (ss := ss) (f := hrF S (season m l ss) vs) (fun x b h => hrF_ok x b h) (xs := vs) fun x hx => ⟨true, h x hx⟩
    rw [run hl bs e]
    have : bs.all id = true := List.all_eq_true.mpr fun c hc => h1 true h c hc
    rw [this]
  · obtain ⟨bs, e2, _, h1⟩ := lcGo_bools (S := S) (ss := ss) (f := hrF S (season m l ss) vs) (fun x b h => hrF_ok x b h) (xs := vs) fun y hy => by
      rw [e] at hy
      rcases List.mem_cons.mp hy with rfl | hy
      · exact ⟨false, h⟩
      · exact hr y hy
    rw [run hl bs e2]
    obtain ⟨r', rfl⟩ := h1 x r e false h
    rfl
theorem ex_hasNo (S : Sig) (se v : PyData) (h : isTupleD v = false) : ex S 100 b_has_results (startE 3 [se, v]) = .rt (.bool false) := by
  simp [ex, ev, evs, evOr, startE, b_has_results, h]
end K01

set_option Elab.async false
set_option linter.all false
set_option maxRecDepth 100000
set_option maxHeartbeats 8000000
namespace K01
open Rf PySem
/-! the law's body, over what the other defs give -/
theorem ex_law (S : Sig) (sc se x0 odd : PyData) (a0 b0 m l : Int) (sl L ML AL : List PyData) (b : Bool) (hx : x0 = .tuple [.int a0, .int b0]) (hse : se = .tuple [.int m, .int l, .tuple sl]) (hL : L.length ≤ 100)
    (h1 : S.cl "_law_season" [sc, .int 10, .int 64] = .ok se) (h2 : S.cl "_law_all" [se] = .ok (.list AL)) (h3 : S.cl "_law_shapes" [] = .ok (.bool true)) (h4 : S.cl "is_season" [se] = .ok (.bool true))
    (h5 : S.cl "matches" [se] = .ok (.list ML)) (h6 : S.cl "_law_matches" [se] = .ok (.list ML)) (h7 : S.cl "count_results" [se] = .ok (.int AL.length)) (h8 : S.cl "all_results" [se] = .ok (.list AL))
    (eM : eqD (.list ML) (.list ML) = .ok true) (eA : eqD (.list AL) (.list AL) = .ok true)
    (h9 : S.cl "_law_results" [sc, .int 30, se] = .ok (.tuple (x0 :: L))) (h10 : S.cl "_law_badseason" [sc, .int 1] = .ok odd) (h11 : S.cl "is_results" [se, .tuple (x0 :: L)] = .ok (.bool true))
    (b1 : S.cl "is_results" [se, .none] = .ok (.bool false)) (b2 : S.cl "is_results" [se, .tuple []] = .ok (.bool false)) (b3 : S.cl "is_results" [se, .tuple L] = .ok (.bool false)) (b4 : S.cl "is_results" [se, .tuple (x0 :: (L ++ [x0]))] = .ok (.bool false)) (b5 : S.cl "is_results" [se, .list (x0 :: L)] = .ok (.bool false))
    (b6 : S.cl "is_results" [se, .tuple (.tuple [.int 4, .int 0] :: L)] = .ok (.bool false)) (b7 : S.cl "is_results" [se, .tuple (.none :: L)] = .ok (.bool false)) (b8 : S.cl "is_results" [se, .tuple (.tuple [.bool true, .int 0] :: L)] = .ok (.bool false))
    (b9 : S.cl "is_results" [se, .tuple (.list [.int a0, .int b0] :: L)] = .ok (.bool false)) (b10 : S.cl "is_results" [se, .str "ab"] = .ok (.bool false)) (b11 : S.cl "is_results" [se, .tuple (.tuple [.int 0] :: L)] = .ok (.bool false))
    (hin : inD (.tuple [.int 3, .int 3]) (.tuple sl) = .ok b) (b12 : b = false → S.cl "is_results" [se, .tuple (.tuple [.int 3, .int 3] :: L)] = .ok (.bool false)) (h14 : S.cl "is_season" [odd] = .ok (.bool false))
    (e0 : S.cl "_law_error" [.int 0, odd, .tuple (x0 :: L)] = .ok (.int 0)) (e1 : S.cl "_law_error" [.int 1, odd, .tuple (x0 :: L)] = .ok (.int 0)) (e2 : S.cl "_law_error" [.int 2, odd, .tuple (x0 :: L)] = .ok (.int 0)) (e3 : S.cl "_law_error" [.int 3, odd, .tuple (x0 :: L)] = .ok (.int 0)) :
    ex S 100 b_law (startE 8 [sc]) = .rt (.bool true) := by
  have s1 : slD (.tuple (x0 :: L)) (some 1) none = .ok (.tuple L) := by
    simp [slD, cutL, HT.sIx]
  have s2 : slD (.tuple (x0 :: L)) none (some 1) = .ok (.tuple [x0]) := by
    simp [slD, cutL, HT.sIx]
  have i0 : ixD (.tuple (x0 :: L)) (.int 0) = .ok x0 := by
    have q : L2.atI (x0 :: L) 0 = some x0 := by
      unfold L2.atI L2.ixN
      rw [if_pos (by decide), if_pos (by rw [List.length_cons]; omega)]
      rfl
    unfold ixD
    simp only [q]
  have i2 : ixD se (.int 2) = .ok (.tuple sl) := by rw [hse]; rfl
  have l1 : L.length + 1 ≤ 1000000 := by omega
  have l2 : L.length + 1 + 1 ≤ 1000000 := by omega
  have r4 : rngD [.int 4] = .ok [.int 0, .int 1, .int 2, .int 3] := by kernel_rfl
  have m4 : binD .mul (.list [.int 0]) (.int 4) = .ok (.list [.int 0, .int 0, .int 0, .int 0]) := by kernel_rfl
  have q4 : eqD (.list [.int 0, .int 0, .int 0, .int 0]) (.list [.int 0, .int 0, .int 0, .int 0]) = .ok true := by kernel_rfl
  have q0 : eqD (.list []) (.list []) = .ok true := by kernel_rfl
  have qA : eqD (.int AL.length) (.int AL.length) = .ok true := by
    have : eqD (.int AL.length) (.int AL.length) = .ok (PyData.eqv (.int AL.length) (.int AL.length)) := rfl
    rw [this, eqv_int]; simp
  have lx : biD .list [x0] = .ok (.list [.int a0, .int b0]) := by rw [hx]; rfl
  have hA : ∀ x : PyData, binD .add (.tuple [x]) (.tuple L) = .ok (.tuple (x :: L)) := fun x => binD_addT (line_ok (by simp; omega))
  cases b with
  | true =>
    simp [ex, ev, evs, evC, evAnd, evOr, evO, optInt, its, evPar, putPar, startE, b_law, freeze, lcGo, bindT, tgVars, wipeE, R.chk, R.nox, h1, h2, h3, h4, h5, h6, h7, h8, eM, eA, h9, h10, h11, b1, b2, b3, b4, b5, b6, b7, b8, b9, b10, b11, hin, h14, e0, e1, e2, e3, s1, s2, i0, i2, l1, l2, r4, m4, q4, q0, qA, lx, hA]
  | false =>
    simp [ex, ev, evs, evC, evAnd, evOr, evO, optInt, its, evPar, putPar, startE, b_law, freeze, ownL, appO, lcGo, bindT, tgVars, wipeE, R.chk, R.nox, h1, h2, h3, h4, h5, h6, h7, h8, eM, eA, h9, h10, h11, b1, b2, b3, b4, b5, b6, b7, b8, b9, b10, b11, hin, b12, h14, e0, e1, e2, e3, s1, s2, i0, i2, l1, l2, r4, m4, q4, q0, qA, lx, hA]
end K01

set_option Elab.async false
set_option linter.all false
set_option maxRecDepth 100000
set_option maxHeartbeats 8000000
namespace K01
open Rf PySem
/-! what is no season -/
structure Odd (o : PyData) : Prop where
  no : cd 19 "is_season" [o] = .ok (.bool false)
  e0 : ∀ x : PyData, cd 19 "_law_error" [.int 0, o, x] = .ok (.int 0)
  e1 : ∀ x : PyData, cd 19 "_law_error" [.int 1, o, x] = .ok (.int 0)
  e2 : ∀ x : PyData, cd 19 "_law_error" [.int 2, o, x] = .ok (.int 0)
  e3 : ∀ x : PyData, cd 19 "_law_error" [.int 3, o, x] = .ok (.int 0)
theorem odd0 : Odd .none := ⟨by kernel_rfl, fun x => by kernel_rfl, fun x => by kernel_rfl, fun x => by kernel_rfl, fun x => by kernel_rfl⟩
theorem odd1 : Odd (.tuple []) := ⟨by kernel_rfl, fun x => by kernel_rfl, fun x => by kernel_rfl, fun x => by kernel_rfl, fun x => by kernel_rfl⟩
theorem odd2 : Odd (.tuple [(.int 3), (.int 1)]) := ⟨by kernel_rfl, fun x => by kernel_rfl, fun x => by kernel_rfl, fun x => by kernel_rfl, fun x => by kernel_rfl⟩
theorem odd3 : Odd (.tuple [(.int 1), (.int 1), (.tuple [(.tuple [(.int 0), (.int 0)]), (.tuple [(.int 1), (.int 0)])])]) := ⟨by kernel_rfl, fun x => by kernel_rfl, fun x => by kernel_rfl, fun x => by kernel_rfl, fun x => by kernel_rfl⟩
theorem odd4 : Odd (.tuple [(.int 5), (.int 1), (.tuple [(.tuple [(.int 0), (.int 0)]), (.tuple [(.int 1), (.int 0)])])]) := ⟨by kernel_rfl, fun x => by kernel_rfl, fun x => by kernel_rfl, fun x => by kernel_rfl, fun x => by kernel_rfl⟩
theorem odd5 : Odd (.tuple [(.int 4), (.int 2), (.tuple [(.tuple [(.int 0), (.int 0)]), (.tuple [(.int 1), (.int 0)])])]) := ⟨by kernel_rfl, fun x => by kernel_rfl, fun x => by kernel_rfl, fun x => by kernel_rfl, fun x => by kernel_rfl⟩
theorem odd6 : Odd (.tuple [(.int 3), (.int 0), (.tuple [(.tuple [(.int 0), (.int 0)]), (.tuple [(.int 1), (.int 0)])])]) := ⟨by kernel_rfl, fun x => by kernel_rfl, fun x => by kernel_rfl, fun x => by kernel_rfl, fun x => by kernel_rfl⟩
theorem odd7 : Odd (.tuple [(.int 3), (.int 3), (.tuple [(.tuple [(.int 0), (.int 0)]), (.tuple [(.int 1), (.int 0)])])]) := ⟨by kernel_rfl, fun x => by kernel_rfl, fun x => by kernel_rfl, fun x => by kernel_rfl, fun x => by kernel_rfl⟩
theorem odd8 : Odd (.tuple [(.int 3), (.int 1), (.tuple [])]) := ⟨by kernel_rfl, fun x => by kernel_rfl, fun x => by kernel_rfl, fun x => by kernel_rfl, fun x => by kernel_rfl⟩
theorem odd9 : Odd (.tuple [(.int 3), (.int 1), (.tuple [(.tuple [(.int 1), (.int 0)]), (.tuple [(.int 0), (.int 0)])])]) := ⟨by kernel_rfl, fun x => by kernel_rfl, fun x => by kernel_rfl, fun x => by kernel_rfl, fun x => by kernel_rfl⟩
theorem odd10 : Odd (.tuple [(.int 3), (.int 1), (.list [(.tuple [(.int 0), (.int 0)])])]) := ⟨by kernel_rfl, fun x => by kernel_rfl, fun x => by kernel_rfl, fun x => by kernel_rfl, fun x => by kernel_rfl⟩
theorem odd11 : Odd (.tuple [(.int 3), (.int 1), (.tuple [(.tuple [(.int 0), (.int 4)])])]) := ⟨by kernel_rfl, fun x => by kernel_rfl, fun x => by kernel_rfl, fun x => by kernel_rfl, fun x => by kernel_rfl⟩
theorem odd12 : Odd (.tuple [(.int 3), (.int 1), (.tuple [(.tuple [(.int 0)])])]) := ⟨by kernel_rfl, fun x => by kernel_rfl, fun x => by kernel_rfl, fun x => by kernel_rfl, fun x => by kernel_rfl⟩
theorem odd13 : Odd (.tuple [(.bool true), (.int 1), (.tuple [(.tuple [(.int 0), (.int 0)]), (.tuple [(.int 1), (.int 0)])])]) := ⟨by kernel_rfl, fun x => by kernel_rfl, fun x => by kernel_rfl, fun x => by kernel_rfl, fun x => by kernel_rfl⟩
theorem odd14 : Odd (.tuple [(.int 3), (.int 1), (.tuple [(.tuple [(.int 0), (.int 0)]), (.tuple [(.int 0), (.int 0)])])]) := ⟨by kernel_rfl, fun x => by kernel_rfl, fun x => by kernel_rfl, fun x => by kernel_rfl, fun x => by kernel_rfl⟩
theorem odd15 : Odd (.list [(.int 3), (.int 1), (.tuple [(.tuple [(.int 0), (.int 0)]), (.tuple [(.int 1), (.int 0)])])]) := ⟨by kernel_rfl, fun x => by kernel_rfl, fun x => by kernel_rfl, fun x => by kernel_rfl, fun x => by kernel_rfl⟩
theorem odd16 : Odd (.tuple [(.int 3), (.int 1), (.tuple [(.tuple [(.int 0), (.int 0)]), (.tuple [(.int 0), (.int 1)]), (.tuple [(.int 0), (.int 2)]), (.tuple [(.int 1), (.int 0)]), (.tuple [(.int 2), (.int 0)])])]) := ⟨by kernel_rfl, fun x => by kernel_rfl, fun x => by kernel_rfl, fun x => by kernel_rfl, fun x => by kernel_rfl⟩
theorem ex_bad (S : Sig) (sc : PyData) (hd : Draws S sc) : ∃ o, ex S 100 b__law_badseason (startE 4 [sc, .int 1]) = .rt o ∧ Odd o := by
  obtain ⟨r, h1, h2, h3⟩ := hd 1 17 (by decide) (by decide)
  have hr : r = 0 ∨ r = 1 ∨ r = 2 ∨ r = 3 ∨ r = 4 ∨ r = 5 ∨ r = 6 ∨ r = 7 ∨ r = 8 ∨ r = 9 ∨ r = 10 ∨ r = 11 ∨ r = 12 ∨ r = 13 ∨ r = 14 ∨ r = 15 ∨ r = 16 := by omega
  rcases hr with rfl | rfl | rfl | rfl | rfl | rfl | rfl | rfl | rfl | rfl | rfl | rfl | rfl | rfl | rfl | rfl | rfl
  · refine ⟨_, ?_, odd0⟩
    simp [ex, ev, evs, startE, b__law_badseason, h1, ixD, L2.atI, L2.ixN, revD, R.chk]
  · refine ⟨_, ?_, odd1⟩
    simp [ex, ev, evs, startE, b__law_badseason, h1, ixD, L2.atI, L2.ixN, revD, R.chk]
  · refine ⟨_, ?_, odd2⟩
    simp [ex, ev, evs, startE, b__law_badseason, h1, ixD, L2.atI, L2.ixN, revD, R.chk]
  · refine ⟨_, ?_, odd3⟩
    simp [ex, ev, evs, startE, b__law_badseason, h1, ixD, L2.atI, L2.ixN, revD, R.chk]
  · refine ⟨_, ?_, odd4⟩
    simp [ex, ev, evs, startE, b__law_badseason, h1, ixD, L2.atI, L2.ixN, revD, R.chk]
  · refine ⟨_, ?_, odd5⟩
    simp [ex, ev, evs, startE, b__law_badseason, h1, ixD, L2.atI, L2.ixN, revD, R.chk]
  · refine ⟨_, ?_, odd6⟩
    simp [ex, ev, evs, startE, b__law_badseason, h1, ixD, L2.atI, L2.ixN, revD, R.chk]
  · refine ⟨_, ?_, odd7⟩
    simp [ex, ev, evs, startE, b__law_badseason, h1, ixD, L2.atI, L2.ixN, revD, R.chk]
  · refine ⟨_, ?_, odd8⟩
    simp [ex, ev, evs, startE, b__law_badseason, h1, ixD, L2.atI, L2.ixN, revD, R.chk]
  · refine ⟨_, ?_, odd9⟩
    simp [ex, ev, evs, startE, b__law_badseason, h1, ixD, L2.atI, L2.ixN, revD, R.chk]
  · refine ⟨_, ?_, odd10⟩
    simp [ex, ev, evs, startE, b__law_badseason, h1, ixD, L2.atI, L2.ixN, revD, R.chk]
  · refine ⟨_, ?_, odd11⟩
    simp [ex, ev, evs, startE, b__law_badseason, h1, ixD, L2.atI, L2.ixN, revD, R.chk]
  · refine ⟨_, ?_, odd12⟩
    simp [ex, ev, evs, startE, b__law_badseason, h1, ixD, L2.atI, L2.ixN, revD, R.chk]
  · refine ⟨_, ?_, odd13⟩
    simp [ex, ev, evs, startE, b__law_badseason, h1, ixD, L2.atI, L2.ixN, revD, R.chk]
  · refine ⟨_, ?_, odd14⟩
    simp [ex, ev, evs, startE, b__law_badseason, h1, ixD, L2.atI, L2.ixN, revD, R.chk]
  · refine ⟨_, ?_, odd15⟩
    simp [ex, ev, evs, startE, b__law_badseason, h1, ixD, L2.atI, L2.ixN, revD, R.chk]
  · refine ⟨_, ?_, odd16⟩
    simp [ex, ev, evs, startE, b__law_badseason, h1, ixD, L2.atI, L2.ixN, revD, R.chk]
end K01

set_option Elab.async false
set_option linter.all false
set_option maxRecDepth 100000
set_option maxHeartbeats 8000000
namespace K01
open Rf PySem
/-! joined -/
abbrev Sg (n : Nat) : Sig := ⟨callD (tabD X.T) X.glf X.sub 100 n, X.glf, X.sub⟩
theorem draws (n : Nat) (ns : List Int) (hl : ns.length ≤ 63) : Draws (Sg (n + 1)) (.list (ns.map .int)) := fun k many hk hm => by
  obtain ⟨r, e, h⟩ := ex_drawn (Sg n) ns k many hl hk hm
  refine ⟨r, ?_, h⟩
  have q : cd (n + 1) "_law_drawn" [.list (ns.map .int), .int k, .int many] = .ok (.int r) := by
    rw [cd_succ (df := ⟨6, 3, b__law_drawn⟩) (by kernel_rfl) rfl]
    show (ex (Sg n) 100 b__law_drawn (startE 6 _)).fin = _
    rw [e]
    rfl
  exact q
theorem intOk (n : Nat) : IntOk (Sg (n + 1)) := fun i a b => by
  have q : cd (n + 1) "is_int" [.int i, .int a, .int b] = .ok (.bool (decide (a ≤ i) && decide (i ≤ b))) := by
    rw [cd_succ (df := ⟨3, 3, b_is_int⟩) (by kernel_rfl) rfl]
    show (ex (Sg n) 100 b_is_int (startE 3 _)).fin = _
    rw [ex_is_int]
    rfl
  exact q
theorem cd_score (n : Nat) (p : Int × Int) (h : (0 ≤ p.1 ∧ p.1 ≤ 3) ∧ (0 ≤ p.2 ∧ p.2 ≤ 3)) : cd (n + 2) "is_score" [P2 p] = .ok (.bool true) := by
  rw [cd_succ (df := ⟨2, 1, b_is_score⟩) (by kernel_rfl) rfl]
  show (ex (Sg (n + 1)) 100 b_is_score (startE 2 _)).fin = _
  rw [ex_is_score _ (intOk n) (by kernel_rfl)]
  simp [h]
theorem cd_rising (n : Nat) (ss : List (Int × Int)) (hl : ss.length = 2 ∨ ss.length = 3) (h : Rise ss) : cd (n + 1) "is_rising" [.tuple (ss.map P2)] = .ok (.bool true) := by
  rw [cd_succ (df := ⟨3, 1, b_is_rising⟩) (by kernel_rfl) rfl]
  show (ex (Sg n) 100 b_is_rising (startE 3 _)).fin = _
  match ss, hl with
  | [p, q], _ => rw [show [p, q].map P2 = [P2 p, P2 q] from rfl, ex_is_rising2 _ p q h]; rfl
  | [p, q, r], _ => rw [show [p, q, r].map P2 = [P2 p, P2 q, P2 r] from rfl, ex_is_rising3 _ p q r h]; rfl
/-- a drawn season -/
structure Sea (m l : Int) (ss : List (Int × Int)) : Prop where
  k : KC m l ss.length
  r : InR ss
  u : Rise ss
theorem Sea.len {m l : Int} {ss : List (Int × Int)} (h : Sea m l ss) : ss.length = 2 ∨ ss.length = 3 := by have := h.k; unfold KC at this; omega
theorem cd_season (n : Nat) {m l : Int} {ss : List (Int × Int)} (h : Sea m l ss) : cd (n + 3) "is_season" [season m l ss] = .ok (.bool true) := by
  rw [cd_succ (df := ⟨5, 1, b_is_season⟩) (by kernel_rfl) rfl]
  show (ex (Sg (n + 2)) 100 b_is_season (startE 5 _)).fin = _
  rw [ex_is_season (Sg (n + 2)) m l ss (by have := h.k; unfold KC at this; unfold kinds; omega) h.len (intOk (n + 1)) (fun p hp => cd_score n p (h.r p hp)) (cd_rising (n + 1) ss h.len h.u) (by kernel_rfl) (by kernel_rfl) (by kernel_rfl)]
  rfl
theorem cd_check (n : Nat) {m l : Int} {ss : List (Int × Int)} (h : Sea m l ss) : cd (n + 4) "check_season" [season m l ss] = .ok .none := by
  rw [cd_succ (df := ⟨1, 1, b_check_season⟩) (by kernel_rfl) rfl]
  show (ex (Sg (n + 3)) 100 b_check_season (startE 1 _)).fin = _
  have e : (Sg (n + 3)).cl "is_season" [season m l ss] = .ok (.bool true) := cd_season n h
  generalize Sg (n + 3) = S at e ⊢
  simp [ex, ev, evs, startE, b_check_season, e]
/-- what a season's matches and all its results are -/
structure Mat (m l : Int) (ss : List (Int × Int)) (ML AL : List PyData) : Prop where
  fm : ∀ n, cd (n + 2) "find_matches" [season m l ss] = .ok (.list ML)
  lm : ∀ n, cd (n + 1) "_law_matches" [season m l ss] = .ok (.list ML)
  la : ∀ n, cd (n + 2) "_law_all" [season m l ss] = .ok (.list AL)
  fa : ∀ n, cd (n + 3) "find_all" [season m l ss] = .ok (.list AL)
  al : (AL.length : Int) = (ss.length : Int) ^ ML.length
  eM : eqD (.list ML) (.list ML) = .ok true
  eA : eqD (.list AL) (.list AL) = .ok true
  rg : rngD [.int (ML.length : Int)] = .ok (rangeD 0 ML.length)
  pos : 0 < ML.length ∧ ML.length ≤ 6
theorem eqA {AL : List PyData} (h : shp (.list AL) = true) (h2 : PySem.W.alike (.list AL) (.list AL) = true) : eqD (.list AL) (.list AL) = .ok true := by
  unfold eqD
  rw [h, PySem.W.eqv_refl_alike _ h2]
  rfl
theorem mat {m l : Int} {ss : List (Int × Int)} (h : Sea m l ss) : ∃ ML AL, Mat m l ss ML AL := by
  have hk := h.k
  unfold KC at hk
  rcases hk with ⟨rfl, rfl, hc⟩ | ⟨rfl, rfl, hc⟩ | ⟨rfl, rfl, hc⟩ | ⟨rfl, rfl, hc⟩ | ⟨rfl, rfl, hc⟩
  · match ss, (by omega : ss.length = 3) with
    | [(a0, b0), (a1, b1), (a2, b2)], _ => exact ⟨ML31, _, fun n => fm31 n _, fun n => lm31 n _, fun n => la31_3 n _ _ _, fun n => fa31_3 n _ _ _, by rw [al31_3]; kernel_rfl, by kernel_rfl, eqA (as31_3 a0 b0 a1 b1 a2 b2) (ak31_3 a0 b0 a1 b1 a2 b2), by kernel_rfl, by decide +kernel⟩
  · match ss, (by omega : ss.length = 2) with
    | [(a0, b0), (a1, b1)], _ => exact ⟨ML31, _, fun n => fm31 n _, fun n => lm31 n _, fun n => la31_2 n _ _, fun n => fa31_2 n _ _, by rw [al31_2]; kernel_rfl, by kernel_rfl, eqA (as31_2 a0 b0 a1 b1) (ak31_2 a0 b0 a1 b1), by kernel_rfl, by decide +kernel⟩
  · match ss, (by omega : ss.length = 3) with
    | [(a0, b0), (a1, b1), (a2, b2)], _ => exact ⟨ML22, _, fun n => fm22 n _, fun n => lm22 n _, fun n => la22_3 n _ _ _, fun n => fa22_3 n _ _ _, by rw [al22_3]; kernel_rfl, by kernel_rfl, eqA (as22_3 a0 b0 a1 b1 a2 b2) (ak22_3 a0 b0 a1 b1 a2 b2), by kernel_rfl, by decide +kernel⟩
  · match ss, (by omega : ss.length = 2) with
    | [(a0, b0), (a1, b1)], _ => exact ⟨ML41, _, fun n => fm41 n _, fun n => lm41 n _, fun n => la41_2 n _ _, fun n => fa41_2 n _ _, by rw [al41_2]; kernel_rfl, by kernel_rfl, eqA (as41_2 a0 b0 a1 b1) (ak41_2 a0 b0 a1 b1), by kernel_rfl, by decide +kernel⟩
  · match ss, (by omega : ss.length = 2) with
    | [(a0, b0), (a1, b1)], _ => exact ⟨ML32, _, fun n => fm32 n _, fun n => lm32 n _, fun n => la32_2 n _ _, fun n => fa32_2 n _ _, by rw [al32_2]; kernel_rfl, by kernel_rfl, eqA (as32_2 a0 b0 a1 b1) (ak32_2 a0 b0 a1 b1), by kernel_rfl, by decide +kernel⟩
section
variable {m l : Int} {ss : List (Int × Int)} {ML AL : List PyData}
theorem cd_matches (n : Nat) (h : Sea m l ss) (M : Mat m l ss ML AL) : cd (n + 5) "matches" [season m l ss] = .ok (.list ML) := by
  rw [cd_succ (df := ⟨1, 1, b_matches⟩) (by kernel_rfl) rfl]
  show (ex (Sg (n + 4)) 100 b_matches (startE 1 _)).fin = _
  have e : (Sg (n + 4)).cl "check_season" [season m l ss] = .ok .none := cd_check n h
  have e2 : (Sg (n + 4)).cl "find_matches" [season m l ss] = .ok (.list ML) := M.fm (n + 2)
  generalize Sg (n + 4) = S at e e2 ⊢
  simp [ex, ev, evs, startE, b_matches, e, e2]
theorem cd_allr (n : Nat) (h : Sea m l ss) (M : Mat m l ss ML AL) : cd (n + 5) "all_results" [season m l ss] = .ok (.list AL) := by
  rw [cd_succ (df := ⟨1, 1, b_all_results⟩) (by kernel_rfl) rfl]
  show (ex (Sg (n + 4)) 100 b_all_results (startE 1 _)).fin = _
  have e : (Sg (n + 4)).cl "check_season" [season m l ss] = .ok .none := cd_check n h
  have e2 : (Sg (n + 4)).cl "find_all" [season m l ss] = .ok (.list AL) := M.fa (n + 1)
  generalize Sg (n + 4) = S at e e2 ⊢
  simp [ex, ev, evs, startE, b_all_results, e, e2]
def cntB : C := (.seq (.asg 1 false (.bin .mul (.var 1) (.bi .len (.cons (.idx (.var 0) (.cst (.int 2))) .nil)))) .skip)
theorem cnt_term : b_count_results = .seq (.exp (.call "check_season" (.cons (.var 0) .nil))) (.seq (.asg 1 false (.cst (.int 1))) (.seq (.for_ (.var 2) (.itm (.call "find_matches" (.cons (.var 0) .nil))) cntB) (.seq (.ret (.var 1)) .skip))) := rfl
theorem cnt_loop (S : Sig) (c : Int) (hc : c = 2 ∨ c = 3) (se : PyData) (sl : List PyData) (hs : ixD se (.int 2) = .ok (.tuple sl)) (hl : (sl.length : Int) = c) : ∀ (xs : List PyData) (v : Int) (y : Option (Bool × PyData)), ∃ y', forGo (fun x env => (bindT (.var 2) x env).toS env (ex S 100 cntB)) xs [some (false, se), some (false, .int v), y] = .nx [some (false, se), some (false, .int (v * c ^ xs.length)), y']
  | [], v, y => ⟨y, by simp [forGo]⟩
  | x :: xs, v, y => by
    obtain ⟨y', e⟩ := cnt_loop S c hc se sl hs hl xs (v * c) (some (false, x))
    have hm : mulOk v c = true := by unfold mulOk; rcases hc with rfl | rfl <;> simp
    refine ⟨y', ?_⟩
    have e2 : v * c ^ (x :: xs).length = v * c * c ^ xs.length := by
      rw [List.length_cons, Int.pow_succ, Int.mul_comm (c ^ xs.length) c, Int.mul_assoc]
    rw [e2, ← e, forGo]
    simp [cntB, ex, ev, evs, bindT, R.chk, hs, hl, hm]
theorem cd_count (n : Nat) (h : Sea m l ss) (M : Mat m l ss ML AL) : cd (n + 5) "count_results" [season m l ss] = .ok (.int AL.length) := by
  rw [cd_succ (df := ⟨3, 1, b_count_results⟩) (by kernel_rfl) rfl]
  show (ex (Sg (n + 4)) 100 b_count_results (startE 3 _)).fin = _
  have e : (Sg (n + 4)).cl "check_season" [season m l ss] = .ok .none := cd_check n h
  have e2 : (Sg (n + 4)).cl "find_matches" [season m l ss] = .ok (.list ML) := M.fm (n + 2)
  obtain ⟨y', g⟩ := cnt_loop (Sg (n + 4)) ss.length (by have := h.len; omega) (season m l ss) (ss.map P2) rfl (by rw [List.length_map]) ML 1 none
  rw [Int.one_mul, ← M.al] at g
  rw [cnt_term]
  have g2 : ex (Sg (n + 4)) 100 (.for_ (.var 2) (.itm (.call "find_matches" (.cons (.var 0) .nil))) cntB) [some (false, season m l ss), some (false, .int 1), none] = .nx [some (false, season m l ss), some (false, .int AL.length), y'] := by
    rw [ex]
    have e3 : its (Sg (n + 4)) (.itm (.call "find_matches" (.cons (.var 0) .nil))) [some (false, season m l ss), some (false, .int 1), none] = .ok ML := by
      generalize Sg (n + 4) = S at e2 ⊢
      simp [its, ev, evs, e2]
    rw [e3, R.toS_ok]
    exact g
  generalize hF : (C.for_ (.var 2) (.itm (.call "find_matches" (.cons (.var 0) .nil))) cntB) = F at g2 ⊢
  generalize Sg (n + 4) = S at e g2 ⊢
  simp [ex, ev, evs, startE, e, g2]
end
end K01

set_option Elab.async false
set_option linter.all false
set_option maxRecDepth 100000
set_option maxHeartbeats 8000000
namespace K01
open Rf PySem
theorem shp_pairs (ss : List (Int × Int)) : shp (.tuple (ss.map P2)) = true := by
  have h1 : PyData.canLayAll0 (ss.map P2) = true := by
    induction ss with
    | nil => rfl
    | cons p ss ih => simp [PyData.canLayAll0, PyData.canLay0, ih]
  have h2 : PyData.depthAll (ss.map P2) ≤ 1 := by
    induction ss with
    | nil => simp [PyData.depthAll]
    | cons p ss ih =>
      have ih := ih (by simpa [PyData.canLayAll0, PyData.canLay0] using h1)
      simp [PyData.depthAll, PyData.depth]
      omega
  unfold shp SeqAt.shaped
  simp [PyData.canLay0, h1, PyData.depth]
  omega
theorem eqv_pair (p q : Int × Int) : PyData.eqv (P2 p) (P2 q) = (decide (p.1 = q.1) && decide (p.2 = q.2)) := by
  simp [PyData.eqv, PyData.eqvAll]
  by_cases h : p.1 = q.1 <;> by_cases h2 : p.2 = q.2 <;> simp [h, h2]
theorem inD_pairs (ss : List (Int × Int)) (p : Int × Int) : inD (P2 p) (.tuple (ss.map P2)) = .ok ((ss.map P2).any fun z => PyData.eqv z (P2 p)) := by
  have h : shp (P2 p) = true := rfl
  show R.chk (shp (P2 p) && shp (.tuple (ss.map P2))) _ = _
  rw [h, shp_pairs]
  rfl
theorem inD_mem (ss : List (Int × Int)) (r : Int × Int) (h : r ∈ ss) : inD (P2 r) (.tuple (ss.map P2)) = .ok true := by
  rw [inD_pairs]
  congr 1
  rw [List.any_map, List.any_eq_true]
  exact ⟨r, h, by show PyData.eqv (P2 r) (P2 r) = true; rw [eqv_pair]; simp⟩
section
variable {m l : Int} {ss : List (Int × Int)} {ML AL : List PyData}
theorem el_good (n : Nat) (h : Sea m l ss) (r : Int × Int) (hr : r ∈ ss) : Elem (Sg (n + 2)) ss (P2 r) true := .inr ⟨cd_score n r (h.r r hr), inD_mem ss r hr⟩
theorem el_no (n : Nat) (x : PyData) (e : cd (n + 2) "is_score" [x] = .ok (.bool false)) : Elem (Sg (n + 2)) ss x false := .inl ⟨e, rfl⟩
theorem cd_isres (n : Nat) (h : Sea m l ss) (v : PyData) (b : Bool) (e : ex (Sg (n + 3)) 100 b_has_results (startE 3 [season m l ss, v]) = .rt (.bool b)) : cd (n + 5) "is_results" [season m l ss, v] = .ok (.bool b) := by
  have e2 : cd (n + 4) "has_results" [season m l ss, v] = .ok (.bool b) := by
    rw [cd_succ (df := ⟨3, 2, b_has_results⟩) (by kernel_rfl) rfl]
    show (ex (Sg (n + 3)) 100 b_has_results (startE 3 _)).fin = _
    rw [e]
    rfl
  rw [cd_succ (df := ⟨2, 2, b_is_results⟩) (by kernel_rfl) rfl]
  show (ex (Sg (n + 4)) 100 b_is_results (startE 2 _)).fin = _
  have e1 : (Sg (n + 4)).cl "check_season" [season m l ss] = .ok .none := cd_check n h
  have e3 : (Sg (n + 4)).cl "has_results" [season m l ss, v] = .ok (.bool b) := e2
  generalize Sg (n + 4) = S at e1 e3 ⊢
  simp [ex, ev, evs, startE, b_is_results, e1, e3]
theorem res_no (n : Nat) (h : Sea m l ss) (v : PyData) (hv : isTupleD v = false) : cd (n + 5) "is_results" [season m l ss, v] = .ok (.bool false) := cd_isres n h v false (ex_hasNo _ _ _ hv)
theorem res_len (n : Nat) (h : Sea m l ss) (M : Mat m l ss ML AL) (vs : List PyData) (hv : vs.length ≠ ML.length) : cd (n + 5) "is_results" [season m l ss, .tuple vs] = .ok (.bool false) := cd_isres n h _ false ((ex_has (Sg (n + 3)) m l ss ML vs (M.fm (n + 1))).1 hv)
theorem res_yes (n : Nat) (h : Sea m l ss) (M : Mat m l ss ML AL) (rs : List (Int × Int)) (hl : rs.length = ML.length) (hr : ∀ r ∈ rs, r ∈ ss) : cd (n + 5) "is_results" [season m l ss, .tuple (rs.map P2)] = .ok (.bool true) :=
  cd_isres n h _ true ((ex_has (Sg (n + 3)) m l ss ML _ (M.fm (n + 1))).2.1 (by rw [List.length_map]; exact hl) fun x hx => by
    obtain ⟨r, h1, rfl⟩ := List.mem_map.mp hx
    exact el_good (n + 1) h r (hr r h1))
theorem res_head (n : Nat) (h : Sea m l ss) (M : Mat m l ss ML AL) (x : PyData) (rs : List (Int × Int)) (hl : rs.length + 1 = ML.length) (hr : ∀ r ∈ rs, r ∈ ss) (hx : Elem (Sg (n + 3)) ss x false) : cd (n + 5) "is_results" [season m l ss, .tuple (x :: rs.map P2)] = .ok (.bool false) :=
  cd_isres n h _ false ((ex_has (Sg (n + 3)) m l ss ML _ (M.fm (n + 1))).2.2 (by rw [List.length_cons, List.length_map]; exact hl) x _ rfl hx fun y hy => by
    obtain ⟨r, h1, rfl⟩ := List.mem_map.mp hy
    exact ⟨true, el_good (n + 1) h r (hr r h1)⟩)
end
/-- the law, at every script -/
theorem law_true (ns : List Int) (hl : ns.length ≤ 63) : callD (tabD X.T) X.glf X.sub 100 20 "law" [.list (ns.map .int)] = .ok (.bool true) := by
  obtain ⟨m, l, ss, e1, hk, hr, hu⟩ := ex_season (Sg 18) (.list (ns.map .int)) (draws 17 ns hl)
  have h : Sea m l ss := ⟨hk, hr, hu⟩
  obtain ⟨ML, AL, M⟩ := mat h
  have hlen := h.len
  obtain ⟨rs, e2, hrl, hrs⟩ := ex_results (Sg 18) (.list (ns.map .int)) (draws 17 ns hl) m l ss ML (M.lm 17) (by omega) M.rg
  obtain ⟨o, e3, ho⟩ := ex_bad (Sg 18) (.list (ns.map .int)) (draws 17 ns hl)
  have hpos := M.pos
  match rs, hrl, hrs, e2 with
  | [], hrl, _, _ => simp at hrl; omega
  | (a0, b0) :: rs', hrl, hrs, e2 =>
    have hrs' : ∀ r ∈ rs', r ∈ ss := fun r hr => hrs r (List.mem_cons_of_mem _ hr)
    rw [List.length_cons] at hrl
    have q := ex_law (Sg 19) (.list (ns.map .int)) (season m l ss) (P2 (a0, b0)) o a0 b0 m l (ss.map P2) (rs'.map P2) ML AL ((ss.map P2).any fun z => PyData.eqv z (P2 (3, 3))) rfl rfl (by rw [List.length_map]; omega)
      (by
        have : cd 19 "_law_season" [.list (ns.map .int), .int 10, .int 64] = .ok (season m l ss) := by
          rw [cd_succ (n := 18) (df := ⟨10, 3, b__law_season⟩) (by kernel_rfl) rfl]
          show (ex (Sg 18) 100 b__law_season (startE 10 _)).fin = _
          rw [e1]; rfl
        exact this)
      (M.la 17) k_shapes (cd_season 16 h) (cd_matches 14 h M) (M.lm 18) (cd_count 14 h M) (cd_allr 14 h M) M.eM M.eA
      (by
        have : cd 19 "_law_results" [.list (ns.map .int), .int 30, season m l ss] = .ok (.tuple (P2 (a0, b0) :: rs'.map P2)) := by
          rw [cd_succ (n := 18) (df := ⟨5, 3, b__law_results⟩) (by kernel_rfl) rfl]
          show (ex (Sg 18) 100 b__law_results (startE 5 _)).fin = _
          rw [e2]; rfl
        exact this)
      (by
        have : cd 19 "_law_badseason" [.list (ns.map .int), .int 1] = .ok o := by
          rw [cd_succ (n := 18) (df := ⟨4, 2, b__law_badseason⟩) (by kernel_rfl) rfl]
          show (ex (Sg 18) 100 b__law_badseason (startE 4 _)).fin = _
          rw [e3]; rfl
        exact this)
      (res_yes 14 h M ((a0, b0) :: rs') (by rw [List.length_cons]; exact hrl) hrs)
      (res_no 14 h _ rfl) (res_len 14 h M [] (by simp; omega)) (res_len 14 h M _ (by rw [List.length_map]; omega)) (res_len 14 h M _ (by simp; omega)) (res_no 14 h _ rfl)
      (res_head 14 h M _ rs' hrl hrs' (el_no 15 _ (by kernel_rfl))) (res_head 14 h M _ rs' hrl hrs' (el_no 15 _ (by kernel_rfl))) (res_head 14 h M _ rs' hrl hrs' (el_no 15 _ (by kernel_rfl))) (res_head 14 h M _ rs' hrl hrs' (el_no 15 _ (by kernel_rfl)))
      (res_no 14 h _ rfl) (res_head 14 h M _ rs' hrl hrs' (el_no 15 _ (by kernel_rfl)))
      (inD_pairs ss (3, 3)) (fun hb => res_head 14 h M _ rs' hrl hrs' (.inr ⟨cd_score 15 (3, 3) (by decide), (inD_pairs ss (3, 3)).trans (by rw [hb])⟩)) ho.no (ho.e0 _) (ho.e1 _) (ho.e2 _) (ho.e3 _)
    have : cd 20 "law" [.list (ns.map .int)] = .ok (.bool true) := by
      rw [cd_succ (n := 19) (df := ⟨8, 1, b_law⟩) (by kernel_rfl) rfl]
      show (ex (Sg 19) 100 b_law (startE 8 _)).fin = _
      rw [q]; rfl
    exact this
end K01

set_option Elab.async false
set_option linter.all false
set_option maxRecDepth 100000
set_option maxHeartbeats 0
namespace K01
open PySem PySem.Spec PyProof.Rows L2 Rf
theorem X_ok : X.ok = true := by decide +kernel
theorem X_flat : X.gl.all (fun p => flatG p.2) = true := by decide +kernel
abbrev R : PySem.W.OpenRow := PySem.W.OpenLaw.row PySem.Challenge.rw_tablebreaks_k01_seasons
abbrev hk : PySem.W.Hook := He.hookX 4 X.fa X.fn [] [] X.more
def ob (s : PySem.W.SharedT) : He.AlX := He.obsX 4 X.fa X.fn [] [] X.more (HandSHeadRun.getT s)
theorem ob_eq (s : PySem.W.SharedT) : ob s = hk.obs s.abs := He.obsX_eq (HandSHeadRun.getT_eq s)
def loose : List Str := ["TableError", "InvalidSeason", "LETTERS", "MAX_SIDES", "MAX_TWICE", "MAX_GOALS", "MAX_SCORES", "is_int", "is_score", "is_rising", "is_season", "check_season", "find_sides", "find_matches", "matches", "count_results", "has_results", "is_results", "find_all", "all_results", "_law_drawn", "_law_season", "_law_matches", "_law_all", "_law_results", "_law_badseason", "_law_error", "_law_shapes"]
theorem run (w : World) : HandSHeadRun.RunEq R (PySem.W.view R.prog [31]) hk ob 4000 loose w := by
  intro os
  kernel_rfl
end K01
open PySem PySem.W PySem.Calls PyProof.Rows
theorem K01.holds (hm : ∀ ns : List Int, ns.length ≤ 63 → Rf.callD (Rf.tabD K01.X.T) K01.X.glf K01.X.sub 100 20 "law" [.list (ns.map .int)] = .ok (.bool true)) : PySem.Challenge.rw_tablebreaks_k01_seasons.Holds := by
  w_on; o_law
  refine HandSHeadRun.head_any (r := OpenLaw.row PySem.Challenge.rw_tablebreaks_k01_seasons) (q := view (OpenLaw.row PySem.Challenge.rw_tablebreaks_k01_seasons).prog [31]) (H := K01.hk) (ob := K01.ob) (M := 4000) (loose := K01.loose) (d := HandSHeadRun.topDef (OpenLaw.row PySem.Challenge.rw_tablebreaks_k01_seasons).prog 31) (kwd := []) K01.ob_eq
    (by kernel_rfl) (fun s => by kernel_rfl) K01.run (by kernel_rfl) (by kernel_rfl) (by kernel_rfl) (by rfl) (by first | assumption | decide +kernel) (by decide +kernel) ⟨rfl, rfl, rfl, rfl, rfl, by decide +kernel⟩ ?hw ?hc
  case hw => w_witness2
  case hc =>
    refine L2.walk_ofE (l := PySem.Challenge.rw_tablebreaks_k01_seasons) (n := 63) (k := 20) (x := "_law_script") (CX := L2.CX0) rfl (by decide) (by kernel_rfl) ⟨rfl, by decide, by decide⟩ ?F (fun _ _ _ _ z => z)
    intro w mg fa h Y G hmg0
    obtain ⟨K, KX, c⟩ := Y
    have hmg : mg ("law" : PySem.Str) = some (.ref fa) := by
      have e : (HandSHeadRun.topDef (OpenLaw.row PySem.Challenge.rw_tablebreaks_k01_seasons).prog 31).name = ("law" : PySem.Str) := by kernel_rfl
      rw [← e]
      exact hmg0
    obtain ⟨fd, hb, hF⟩ := Rf.law_fn (P := (PySem.Challenge.rw_tablebreaks_k01_seasons).prog) (w := w) (X := K01.X) (fuel := 100) (n := 19) (d := K01.d_law) (lw := "law") (x := "_law_script") KX G c K01.X_ok K01.binds K01.X_flat (by unfold K01.X K01.T; simp) rfl rfl (by kernel_rfl) hmg hm
    exact ⟨K, fd, Rf.spLaw K, KX, hb, fun H a ns hl _ hS => ⟨a, ns, rfl, hl, hS, fun _ => rfl⟩, fun base _ _ => hF base⟩
theorem PySem.Challenge.cw_tablebreaks_k01_seasons_holds : PySem.Challenge.rw_tablebreaks_k01_seasons.Holds :=
  K01.holds K01.law_true

