import PyProof.Rows.All
import Wide.All
import OpenK.AllK
import Wide.FinOn
import HandS.Codes
import HandS.ForMost
import HandS.Exc
import HandS.More
import HandS.TupAny
import HandS.DictEq
import HandS.Deep
import HandS.RaiseMore
import HandS.SortInts
import HandS.Conv
import HandS.IsInst
import HandS.ExcInit
import HandS.Defaults
import KE.KExcSuper
import HandS.ExcField
import HandS.ExcIs
import HandS.Comp
import HandS.Property
import HandS.OwnEq
import HandS.ExcOwn
import HandS.Star
import HandS.DictSubView
import KE.KDictList
import HandS.Walk
import KE.GoesMore
import PyProof.Draws
import PyProof.EnumMake
import HandS.Zip
import KE.KDictZip
import HandS.DictComp
import HandS.Dict
import PyProof.DictUpdate
import PyProof.MeetsSeq2
import HandS.TryMany
import HandS.Style
import HandS.HeadHook1
import HandS.HeadHook2
import HandS.HeadHook3
import HandS.HeadWalk
import HandS.HeadEnd
import HandS.Head0
import HandS.Head1
import HandS.Head2
import PySem.Challenge.RW_alongfiles_k01_rules_refused
set_option Elab.async false
set_option linter.all false
set_option maxRecDepth 100000
section
set_option maxHeartbeats 4000000
/-! Z1: the data and the interpreter. -/
namespace Z
open PySem L2

/-- keys of dicts -/
inductive DK where
  | i (n : Int) | s (l : List Nat)
  deriving DecidableEq
/-- data: none, bools, ints, texts (as codes), tuples, lists and dicts that nobody changes, instances that nobody changes, a cell of the store -/
inductive D where
  | non | bl (b : Bool) | int (i : Int) | str (s : List Nat)
  | tup (l : List D) | lst (l : List D) | dic (l : List (DK × D)) | ins (c : Nat) (l : List D)
  | ref (n : Nat) | flst (l : List D) | kd (l : List (List Nat × D))
/-- a cell of the store -/
inductive MO where
  | gone | lst (l : List D) | dic (l : List (DK × D)) | ins (c : Nat) (l : List D)
abbrev Mu := List MO
abbrev Env := List (Option D)
inductive R (β : Type) where
  | ok (b : β) (m : Mu)
  | exc (c : Nat) (pl : List D) (m : Mu)
  | err
def R.bind {β γ : Type} (r : R β) (k : β → Mu → R γ) : R γ := match r with
  | .ok b m => k b m
  | .exc c pl m => .exc c pl m
  | .err => .err

def R.pure1 {β : Type} (r : R β) : R β := match r with
  | .exc _ _ _ => .err
  | r => r
inductive Bo where | add | sub | mul | fdiv | mod | pow
inductive Co where | eq | ne | lt | le | gt | ge | isin | notin
inductive B1 where | len | int | str | list | tuple | sorted | any | all | dict | listVals | sortedSet | lenSet | max1 | min1 | rev | setTup
inductive BM where | append | extend | pop0 | pop1 | get2 | split | join | index | reverse
inductive Tag where | int | bl | str | tup | lst | dic | cls (c : Nat)
/-- what a for walks -/
inductive IK where | seq | rng | zip | enum | items | vals | keys
inductive ZT where
  | nm (i : Nat) | tp (l : List ZT)
mutual
inductive ZE where
  | var (i : Nat) | int (i : Int) | str (l : List Nat) | bl (b : Bool) | non | glob (g : Nat)
  | bin (o : Bo) (m : Bool) (a b : ZE) | neg (a : ZE) | not (a : ZE) | and (a b : ZE) | or (a b : ZE)
  | cmp (o : Co) (a b : ZE) | chain (o o' : Co) (a b c : ZE) | isN (a : ZE) | notN (a : ZE) | ite (c a b : ZE)
  | call (f : Nat) (es : ZEs) | make (c : Nat) (es : ZEs) | meth (o : ZE) (m : Nat) (es : ZEs) | attr (o : ZE) (n : Nat)
  | b1 (k : B1) (m : Bool) (a : ZE) | max2 (a b : ZE) | isi (a : ZE) (ts : List Tag) | dzip (a b : ZE)
  | bm (k : BM) (o : ZE) (es : ZEs)
  | sub (a i : ZE) | slice (m : Bool) (a : ZE) (lo hi : ZEs)
  | lst (m : Bool) (es : ZEs) | tup (es : ZEs) | dic (m : Bool) (es : ZEs) | dstar (a k v : ZE) | lstS (m : Bool) (st : List Bool) (es : ZEs) | tupS (st : List Bool) (es : ZEs) | lvals (m : Bool) (a : ZE)
  | lc (m : Bool) (own : List Nat) (t : ZT) (k : IK) (it : ZEs) (ifs : ZEs) (e : ZE)
  | lc2 (m : Bool) (own : List Nat) (t : ZT) (k : IK) (it : ZEs) (own2 : List Nat) (t2 : ZT) (k2 : IK) (it2 : ZEs) (e : ZE)
  | dc (m : Bool) (own : List Nat) (t : ZT) (k : IK) (it : ZEs) (ifs : ZEs) (ke ve : ZE)
  | frz (a : ZE)
inductive ZEs where
  | nil | cons (e : ZE) (es : ZEs)
end
/-- what an except clause makes of the error's field: the field, a text and the field -/
inductive Hb where
  | id | tup (l : List Nat)
/-- except C as e: t = ..; except C: t = a constant (C: 0 is the base of all) -/
inductive ZHd where
  | as_ (c e t : Nat) (k : Hb) | only (c t : Nat) (d : Option Bool)
inductive ZG where
  | nm (i : Nat) | attr (o : ZE) (n : Nat) | sub (o i : ZE)
mutual
inductive ZS where
  | asg (g : ZG) (e : ZE) | asg2 (g : List ZG) (e : ZE) | ex (e : ZE) | ret (e : ZE) | ite (c : ZE) (a b : ZSs)
  | for_ (t : ZT) (k : IK) (it : ZEs) (b : ZSs) | while_ (c : ZE) (b : ZSs) | raise | asgT (t : ZT) (e : ZE) | rz (c : Nat) (e : ZE) | try_ (ne : Nat) (b : ZSs) (hs : List ZHd)
  | frz (i : Nat) | pass
inductive ZSs where
  | nil | cons (s : ZS) (r : ZSs)
end

/-! ### cells -/
def mkL (m : Bool) (ds : List D) (μ : Mu) : R D := if m then .ok (.ref μ.length) (μ ++ [.lst ds]) else .ok (.lst ds) μ
def mkD (m : Bool) (l : List (DK × D)) (μ : Mu) : R D := if m then .ok (.ref μ.length) (μ ++ [.dic l]) else .ok (.dic l) μ
/-- what a value holds, cells looked up -/
def look (μ : Mu) : D → D
  | .ref n => match μ[n]? with
    | some (.lst l) => .lst l
    | some (.dic l) => .dic l
    | some (.ins c l) => .ins c l
    | _ => .ref n
  | d => d
def lim : Nat := 1000000
def keyOf? : D → Option DK
  | .int i => some (.i i)
  | .str s => some (.s s)
  | _ => none
def ofKey : DK → D
  | .i i => .int i
  | .s s => .str s
def dget {β : Type} (l : List (DK × β)) (k : DK) : Option β := (l.find? fun q => decide (q.1 = k)).map (·.2)
def dput {β : Type} (l : List (DK × β)) (k : DK) (v : β) : List (DK × β) :=
  if (l.any fun q => decide (q.1 = k)) = true then l.map (fun q => if q.1 = k then (q.1, v) else q) else l ++ [(k, v)]
def ddrop {β : Type} (l : List (DK × β)) (k : DK) : List (DK × β) := l.filter fun q => decide (q.1 ≠ k)

/-! ### equality as Python's, of data without instances and dicts -/
def optAll {α β : Type} (f : α → Option β) : List α → Option (List β)
  | [] => some []
  | d :: l => match f d with
    | some x => (match optAll f l with
      | some y => some (x :: y)
      | none => none)
    | none => none
def toPy (μ : Mu) : Nat → D → Option PyData
  | _, .non => some .none
  | _, .bl b => some (.bool b)
  | _, .int i => some (.int i)
  | _, .str s => some (.str ⟨s.toArray⟩)
  | n + 1, .tup l => (optAll (toPy μ n) l).map .tuple
  | n + 1, .lst l => (optAll (toPy μ n) l).map .list
  | n + 1, .ref a => match μ[a]? with
    | some (.lst l) => (optAll (toPy μ n) l).map .list
    | _ => none
  | _, _ => none
def deq (μ : Mu) (a b : D) : Option Bool := match toPy μ 8 a, toPy μ 8 b with
  | some x, some y => if SeqAt.shaped x && SeqAt.shaped y then some (PyData.eqv x y) else none
  | _, _ => none
/-- x in a list -/
def din (μ : Mu) (x : D) (l : List D) : Option Bool := match toPy μ 8 x, optAll (toPy μ 8) l with
  | some a, some ys => if SeqAt.shaped a && SeqAt.shaped (.list ys) then some (ys.any fun y => PyData.eqv y a) else none
  | _, _ => none

/-- every pair of l is in r -/
def dicEq (μ : Mu) (r : List (DK × D)) : List (DK × D) → Option Bool
  | [] => some true
  | q :: l => match dget r q.1 with
    | none => some false
    | some y => match deq μ q.2 y, dicEq μ r l with
      | some e, some b => some (e && b)
      | _, _ => none

/-! ### operators by values -/
def opB (o : Bo) (m : Bool) (x y : D) (μ : Mu) : R D := match o, x, y with
  | .add, .int i, .int j => .ok (.int (i + j)) μ
  | .sub, .int i, .int j => .ok (.int (i - j)) μ
  | .mul, .int i, .int j => if -(2 ^ 64) < j ∧ j < 2 ^ 64 then .ok (.int (i * j)) μ else .err
  | .fdiv, .int i, .int j => if 0 < j ∧ j < 1073741824 then .ok (.int (i / j)) μ else .err
  | .mod, .int i, .int j => if 0 < j then .ok (.int (i % j)) μ else .err
  | .pow, .int i, .int j => if 0 ≤ j ∧ j ≤ 1000000 ∧ i.natAbs < 2 ^ 64 then .ok (.int (i ^ j.toNat)) μ else .err
  | .add, .str s, .str t => if s.length + t.length ≤ lim then .ok (.str (s ++ t)) μ else .err
  | .add, x, y => match look μ x, look μ y with
    | .lst l, .lst r => if l.length + r.length ≤ lim then mkL m (l ++ r) μ else .err
    | .tup l, .tup r => if l.length + r.length ≤ lim then .ok (.tup (l ++ r)) μ else .err
    | _, _ => .err
  | .mul, x, .int k => match look μ x with
    | .lst l => if 0 ≤ k ∧ k ≤ 1000 ∧ l.length * k.toNat ≤ lim then mkL m (List.replicate k.toNat l).flatten μ else .err
    | _ => .err
  | _, _, _ => .err
def opC (o : Co) (x y : D) (μ : Mu) : R D := match o with
  | .eq => match x, y with
    | .str s, .str t => .ok (.bl (decide (s = t))) μ
    | .int i, .int j => .ok (.bl (decide (i = j))) μ
    | _, _ => match deq μ x y with
      | some b => .ok (.bl b) μ
      | none => match look μ x, look μ y with
        | .dic l, .dic r => if l.length = r.length then (match dicEq μ r l with
          | some b => .ok (.bl b) μ
          | none => .err) else .ok (.bl false) μ
        | _, _ => .err
  | .ne => match x, y with
    | .str s, .str t => .ok (.bl (!decide (s = t))) μ
    | .int i, .int j => .ok (.bl (!decide (i = j))) μ
    | _, _ => match deq μ x y with
      | some b => .ok (.bl (!b)) μ
      | none => .err
  | .lt => match x, y with
    | .int i, .int j => .ok (.bl (decide (i < j))) μ
    | _, _ => .err
  | .le => match x, y with
    | .int i, .int j => .ok (.bl (decide (i ≤ j))) μ
    | _, _ => .err
  | .gt => match x, y with
    | .int i, .int j => .ok (.bl (decide (j < i))) μ
    | _, _ => .err
  | .ge => match x, y with
    | .int i, .int j => .ok (.bl (decide (j ≤ i))) μ
    | _, _ => .err
  | .isin => opIn false x y μ
  | .notin => opIn true x y μ
where
  opIn (neg : Bool) (x y : D) (μ : Mu) : R D := match look μ y with
    | .lst l => match din μ x l with
      | some b => .ok (.bl (if neg then !b else b)) μ
      | none => .err
    | .tup l => match din μ x l with
      | some b => .ok (.bl (if neg then !b else b)) μ
      | none => .err
    | .dic l => match keyOf? x with
      | some k => .ok (.bl (if neg then !(dget l k).isSome else (dget l k).isSome)) μ
      | none => .err
    | .kd l => match x with
      | .str z => .ok (.bl (if neg then !(l.lookup z).isSome else (l.lookup z).isSome)) μ
      | _ => .err
    | .str t => match x with
      | .str [c] => .ok (.bl (if neg then !decide (c ∈ t) else decide (c ∈ t))) μ
      | _ => .err
    | _ => .err
/-- o[i] -/
def opI (x i : D) (μ : Mu) : R D := match look μ x, i with
  | .lst l, .int k => match atI l k with
    | some d => .ok d μ
    | none => .err
  | .tup l, .int k => match atI l k with
    | some d => .ok d μ
    | none => .err
  | .str s, .int k => match atI s k with
    | some c => if s.length ≤ lim then .ok (.str [c]) μ else .err
    | none => .err
  | .kd l, .str z => match l.lookup z with
    | some d => .ok d μ
    | none => .err
  | .dic l, k => match keyOf? k with
    | some k => match dget l k with
      | some d => .ok d μ
      | none => .err
    | none => .err
  | _, _ => .err
def cut {α : Type} (xs : List α) (lo hi : Option Int) : List α := (xs.drop (HT.sIx xs.length 0 lo)).take (HT.sIx xs.length xs.length hi - HT.sIx xs.length 0 lo)
def opSl (m : Bool) (x : D) (lo hi : Option Int) (μ : Mu) : R D := match look μ x with
  | .lst l => mkL m (cut l lo hi) μ
  | .tup l => .ok (.tup (cut l lo hi)) μ
  | .str s => if s.length ≤ lim then .ok (.str (cut s lo hi)) μ else .err
  | _ => .err
def ins1 {α : Type} (le : α → α → Bool) (x : α) : List α → List α
  | [] => [x]
  | y :: l => if le x y then x :: y :: l else y :: ins1 le x l
def isort {α : Type} (le : α → α → Bool) : List α → List α
  | [] => []
  | x :: l => ins1 le x (isort le l)
def int1? : D → Option Int
  | .int i => some i
  | _ => none
def str1? : D → Option (List Nat)
  | .str i => some i
  | _ => none
def bl1? : D → Option Bool
  | .bl i => some i
  | _ => none
def intsOf (l : List D) : Option (List Int) := optAll int1? l
def strsOf (l : List D) : Option (List (List Nat)) := optAll str1? l
def blsOf (l : List D) : Option (List Bool) := optAll bl1? l
def maxI : Int → List Int → Int
  | m, [] => m
  | m, j :: r => maxI (if j > m then j else m) r
def op1 (k : B1) (m : Bool) (x : D) (μ : Mu) : R D := match k with
  | .len => match look μ x with
    | .lst l => .ok (.int l.length) μ
    | .tup l => .ok (.int l.length) μ
    | .dic l => .ok (.int l.length) μ
    | .str s => if s.length ≤ lim then .ok (.int s.length) μ else .err
    | _ => .err
  | .int => match x with
    | .int i => .ok (.int i) μ
    | .bl b => .ok (.int (if b then 1 else 0)) μ
    | .str s => match PySem.intText? ⟨s.toArray⟩ with
      | some n => if s.length ≤ 640 then .ok (.int n) μ else .err
      | none => .err
    | _ => .err
  | .str => match x with
    | .int i => if i.natAbs.log2 < 1920 then .ok (.str (Str.ofString (toString i)).cps.toList) μ else .err
    | .str s => .ok (.str s) μ
    | _ => .err
  | .list => match look μ x with
    | .lst l => mkL m l μ
    | .tup l => mkL m l μ
    | .dic l => mkL m (l.map fun q => ofKey q.1) μ
    | .flst l => mkL m l μ
    | _ => .err
  | .tuple => match look μ x with
    | .lst l => .ok (.tup l) μ
    | .tup l => .ok (.tup l) μ
    | _ => .err
  | .dict => match look μ x with
    | .dic l => mkD m l μ
    | _ => .err
  | .any => match look μ x with
    | .lst l => match blsOf l with
      | some bs => .ok (.bl (bs.any id)) μ
      | none => .err
    | _ => .err
  | .all => match look μ x with
    | .lst l => match blsOf l with
      | some bs => .ok (.bl (bs.all id)) μ
      | none => .err
    | _ => .err
  | .sorted => match look μ x with
    | .lst l => match intsOf l with
      | some ns => mkL m ((isort (fun a b => decide (a ≤ b)) ns).map .int) μ
      | none => .err
    | _ => .err
  | .max1 => match look μ x with
    | .lst l => match intsOf l with
      | some (i :: ns) => .ok (.int (maxI i ns)) μ
      | _ => .err
    | _ => .err
  | _ => .err

/-! ### the evaluator -/
structure ClsI where
  fields : List Nat
  meths : List (Nat × Nat)
  props : List (Nat × Nat)
  ini : Nat
  frz : Bool
  eqm : Option Nat
  lenm : Option Nat
structure Ev where
  cls : List ClsI
  globs : List D
  wf : Nat
  call : Nat → List D → Mu → R D
def freeze (x : D) (μ : Mu) : R D := match x with
  | .ref n => match μ[n]? with
    | some (.lst l) => .ok (.lst l) (μ.set n .gone)
    | some (.dic l) => .ok (.dic l) (μ.set n .gone)
    | some (.ins c l) => .ok (.ins c l) (μ.set n .gone)
    | _ => .err
  | _ => .err
mutual
def bindT : ZT → D → Env → Option Env
  | .nm i, d, ρ => some (ρ.set i (some d))
  | .tp l, .tup ds, ρ => if l.length = ds.length then bindTs l ds ρ else none
  | _, _, _ => none
def bindTs : List ZT → List D → Env → Option Env
  | t :: l, d :: ds, ρ => match bindT t d ρ with
    | some ρ' => bindTs l ds ρ'
    | none => none
  | [], [], ρ => some ρ
  | _, _, _ => none
end
def wipeE (ρ : Env) : List Nat → Env
  | [] => ρ
  | v :: vs => (wipeE ρ vs).set v none
/-- what a for goes through -/
def seqOf (x : D) (_μ : Mu) : Option (List D) := match x with
  | .lst l => some l
  | .tup l => some l
  | .str s => some (s.map fun c => .str [c])
  | .flst l => some l
  | .kd l => some (l.map fun q => .str q.1)
  | .dic l => some (l.map fun q => ofKey q.1)
  | _ => none
def enumFrom (k : Nat) : List D → List D
  | [] => []
  | d :: l => .tup [.int k, d] :: enumFrom (k + 1) l
def zipD : List D → List D → List D
  | a :: l, b :: r => .tup [a, b] :: zipD l r
  | _, _ => []
def itemsOf (k : IK) (xs : List D) (μ : Mu) : Option (List D) := match k, xs with
  | .seq, [x] => seqOf x μ
  | .rng, [.int n] => if -1000000 ≤ n ∧ n ≤ 1000000 then some ((List.range n.toNat).map fun i => .int (i : Nat)) else none
  | .rng, [.int a, .int b] => if (-1000000 ≤ a ∧ a ≤ 1000000) ∧ -1000000 ≤ b ∧ b ≤ 1000000 then some ((List.range (b - a).toNat).map fun i => .int (a + (i : Nat))) else none
  | .enum, [x] => match x with
    | .lst l => some (enumFrom 0 l)
    | .tup l => some (enumFrom 0 l)
    | _ => none
  | .zip, [x, y] => match x, y with
    | .lst l, .lst r => some (zipD l r)
    | .tup l, .tup r => some (zipD l r)
    | .kd l, .tup r => some (zipD (l.map fun q => .str q.1) r)
    | _, _ => none
  | .items, [x] => match x with
    | .dic l => some (l.map fun q => .tup [ofKey q.1, q.2])
    | _ => none
  | .vals, [x] => match x with
    | .dic l => some (l.map (·.2))
    | _ => none
  | _, _ => none
/-- the loop of a comprehension: f tells of an item what it gives, if anything -/
def lcLoop (f : D → Mu → R (Option D)) : List D → List D → Mu → R (List D)
  | [], acc, μ => .ok acc μ
  | d :: ds, acc, μ => (f d μ).bind fun r μ1 => match r with
    | some x => if acc.length < lim then lcLoop f ds (acc ++ [x]) μ1 else .err
    | none => lcLoop f ds acc μ1
def lcLoop2 (f : D → Mu → R (List D)) : List D → List D → Mu → R (List D)
  | [], acc, μ => .ok acc μ
  | d :: ds, acc, μ => (f d μ).bind fun r μ1 => if acc.length + r.length < lim then lcLoop2 f ds (acc ++ r) μ1 else .err
def dcLoop (f : D → Mu → R (Option (DK × D))) : List D → List (DK × D) → Mu → R (List (DK × D))
  | [], acc, μ => .ok acc μ
  | d :: ds, acc, μ => (f d μ).bind fun r μ1 => match r with
    | some (k, v) => if acc.length < lim then dcLoop f ds (dput acc k v) μ1 else .err
    | none => dcLoop f ds acc μ1
def tagOk (t : Tag) : D → Bool
  | .int _ => (match t with | .int => true | _ => false)
  | .bl _ => (match t with | .bl => true | .int => true | _ => false)
  | .str _ => (match t with | .str => true | _ => false)
  | .tup _ => (match t with | .tup => true | _ => false)
  | .lst _ => (match t with | .lst => true | _ => false)
  | .dic _ => (match t with | .dic => true | _ => false)
  | .ins c _ => (match t with | .cls c' => decide (c = c') | _ => false)
  | _ => false
def partOf : List D → Option (Option Int)
  | [] => some none
  | [.int i] => some (some i)
  | _ => none
def isiOk (k : Nat) : D → Bool
  | .non => true | .bl _ => true | .int _ => true | .str _ => true | .tup _ => true | .lst _ => true | .dic _ => true
  | .ins c _ => decide (c < k)
  | _ => false
def dpairs : List D → List D → List (DK × D) → Option (List (DK × D))
  | a :: l, b :: r, acc => match keyOf? a with
    | some k => dpairs l r (dput acc k b)
    | none => none
  | [], [], acc => some acc
  | [], _ :: _, acc => some acc
  | _ :: _, [], acc => some acc
def dshow : List D → List (DK × D) → Option (List (DK × D))
  | a :: b :: l, acc => match keyOf? a with
    | some k => dshow l (dput acc k b)
    | none => none
  | [], acc => some acc
  | _, _ => none
def dzips (l : List (List Nat × D)) (r : List D) : List (DK × D) := ((l.map fun q => DK.s q.1).zip r).foldl (fun a q => dput a q.1 q.2) []
inductive BT where | l | d | s
def bmTy (k : BM) (x : D) : Option BT := match k, x with
  | .append, .lst _ => some .l
  | .extend, .lst _ => some .l
  | .pop0, .lst _ => some .l
  | .pop1, .lst _ => some .l
  | .pop1, .dic _ => some .d
  | .get2, .dic _ => some .d
  | .split, .str _ => some .s
  | .join, .str _ => some .s
  | _, _ => none
def opBM (k : BM) (t : BT) (x : D) (as : List D) (μ : Mu) : R D := match k, x, as with
  | .append, .ref n, [d] => match μ[n]? with
    | some (.lst l) => if l.length < lim then .ok .non (μ.set n (.lst (l ++ [d]))) else .err
    | _ => .err
  | .extend, .ref n, [.lst r] => match μ[n]? with
    | some (.lst l) => if l.length + r.length < lim then .ok .non (μ.set n (.lst (l ++ r))) else .err
    | _ => .err
  | .pop0, .ref n, [] => match μ[n]? with
    | some (.lst l) => match l.getLast? with
      | some d => .ok d (μ.set n (.lst l.dropLast))
      | none => .err
    | _ => .err
  | .pop1, .ref n, [a] => match t, μ[n]? with
    | .l, some (.lst l) => match a with
      | .int i => if 0 ≤ i ∧ i < 1000000 then (match l[i.toNat]? with
        | some d => .ok d (μ.set n (.lst (l.eraseIdx i.toNat)))
        | none => .err) else .err
      | _ => .err
    | .d, some (.dic l) => match keyOf? a with
      | some k => match dget l k with
        | some d => .ok d (μ.set n (.dic (ddrop l k)))
        | none => .err
      | none => .err
    | _, _ => .err
  | .get2, x, [a, b] => match look μ x with
    | .dic l => match keyOf? a with
      | some k => match dget l k with
        | some d => .ok d μ
        | none => .ok b μ
      | none => .err
    | _ => .err
  | .split, .str s, [.str t] => if (t.length = 1 ∧ t.all (· < 256) = true) ∧ s.length + 2 ≤ lim then .ok (.lst ((TL.spl t 0 [] s).map .str)) μ else .err
  | .join, .str s, [x] => match look μ x with
    | .lst l => match strsOf l with
      | some ys => if (ys.map List.length).sum + ys.length * s.length ≤ lim then .ok (.str (TL.joinL s ys)) μ else .err
      | none => .err
    | _ => .err
  | _, _, _ => .err
def setG (x i v : D) (μ : Mu) : R Unit := match x with
  | .ref n => match μ[n]? with
    | some (.lst l) => match i with
      | .int k => match ixN l.length k with
        | some j => .ok () (μ.set n (.lst (l.set j v)))
        | none => .err
      | _ => .err
    | some (.dic l) => match keyOf? i with
      | some k => if l.length < lim then .ok () (μ.set n (.dic (dput l k v))) else .err
      | none => .err
    | _ => .err
  | _ => .err
def setA (V : Ev) (x : D) (a : Nat) (v : D) (μ : Mu) : R Unit := match x with
  | .ref n => match μ[n]? with
    | some (.ins c l) => match V.cls[c]? with
      | some ci => match ci.fields.idxOf? a with
        | some j => if j < l.length then .ok () (μ.set n (.ins c (l.set j v))) else if j = l.length then .ok () (μ.set n (.ins c (l ++ [v]))) else .err
        | none => .err
      | none => .err
    | _ => .err
  | _ => .err
def getA (V : Ev) (x : D) (a : Nat) (μ : Mu) : R D := match look μ x with
  | .ins c l => match V.cls[c]? with
    | some ci => match ci.fields.idxOf? a with
      | some j => match l[j]? with
        | some d => .ok d μ
        | none => .err
      | none => match ci.props.lookup a with
        | some f => (V.call f [x] μ).pure1
        | none => .err
    | none => .err
  | _ => .err
def methOf (V : Ev) (m : Nat) : D → Option Nat
  | .ins c _ => match V.cls[c]? with
    | some ci => ci.meths.lookup m
    | none => none
  | _ => none
def mkI (V : Ev) (c : Nat) (as : List D) (μ : Mu) : R D := match V.cls[c]? with
  | some ci => (V.call ci.ini (.ref μ.length :: as) (μ ++ [.ins c []])).bind fun d μ1 => match d with
    | .non => if ci.frz then freeze (.ref μ.length) μ1 else .ok (.ref μ.length) μ1
    | _ => .err
  | none => .err
/-- what an own == of class c is asked of: another of the class, a list -/
def eqR (c : Nat) : D → Bool
  | .ins c' _ => decide (c' = c)
  | .lst _ => true
  | _ => false
def opCI (V : Ev) (o : Co) (x y : D) (μ : Mu) : R D := match look μ x with
  | .ins c _ => match V.cls[c]? with
    | some ci => match ci.eqm, o with
      | some f, .eq => if eqR c (look μ y) = true then ((V.call f [x, y] μ).pure1.bind fun d μ1 => match d with
          | .bl b => .ok (.bl b) μ1
          | _ => .err) else .err
      | _, _ => .err
    | none => .err
  | _ => opC o x y μ
def op1I (V : Ev) (k : B1) (m : Bool) (x : D) (μ : Mu) : R D := match look μ x with
  | .ins c _ => match k, V.cls[c]? with
    | .len, some ci => match ci.lenm with
      | some f => (V.call f [x] μ).pure1.bind fun d μ1 => match d with
        | .int n => if 0 ≤ n ∧ n ≤ 1000000 then .ok (.int n) μ1 else .err
        | _ => .err
      | none => .err
    | _, _ => .err
  | _ => op1 k m x μ
def dstR (x y z : D) (μ : Mu) : R D := match x, keyOf? y with
    | .dic l, some k => if l.length < lim then .ok (.dic (dput l k z)) μ else .err
    | _, _ => .err
/-- what a starred value hands on: a frozen list or tuple, a frozen dict's keys -/
def spread1 : D → Option (List D)
  | .lst l => some l
  | .tup l => some l
  | .dic l => some (l.map fun q => ofKey q.1)
  | _ => none
def spread : List Bool → List D → Option (List D)
  | [], [] => some []
  | false :: st, d :: ds => match spread st ds with
    | some l => some (d :: l)
    | none => none
  | true :: st, d :: ds => match spread1 d, spread st ds with
    | some l, some r => some (l ++ r)
    | _, _ => none
  | _, _ => none
mutual
def evalE (V : Ev) : ZE → Env → Mu → R D
  | .var i, ρ, μ => match ρ[i]? with
    | some (some d) => .ok d μ
    | _ => .err
  | .int i, _, μ => .ok (.int i) μ
  | .str l, _, μ => .ok (.str l) μ
  | .bl b, _, μ => .ok (.bl b) μ
  | .non, _, μ => .ok .non μ
  | .glob g, _, μ => match V.globs[g]? with
    | some d => .ok d μ
    | none => .err
  | .bin o m a b, ρ, μ => (evalE V a ρ μ).bind fun x μ1 => (evalE V b ρ μ1).bind fun y μ2 => opB o m x y μ2
  | .neg a, ρ, μ => (evalE V a ρ μ).bind fun x μ1 => match x with
    | .int i => .ok (.int (-i)) μ1
    | _ => .err
  | .not a, ρ, μ => (evalE V a ρ μ).bind fun x μ1 => match x with
    | .bl b => .ok (.bl (!b)) μ1
    | _ => .err
  | .and a b, ρ, μ => (evalE V a ρ μ).bind fun x μ1 => match x with
    | .bl true => (evalE V b ρ μ1).bind fun y μ2 => match y with
      | .bl c => .ok (.bl c) μ2
      | _ => .err
    | .bl false => .ok (.bl false) μ1
    | _ => .err
  | .or a b, ρ, μ => (evalE V a ρ μ).bind fun x μ1 => match x with
    | .bl true => .ok (.bl true) μ1
    | .bl false => (evalE V b ρ μ1).bind fun y μ2 => match y with
      | .bl c => .ok (.bl c) μ2
      | _ => .err
    | _ => .err
  | .cmp o a b, ρ, μ => (evalE V a ρ μ).bind fun x μ1 => (evalE V b ρ μ1).bind fun y μ2 => opCI V o x y μ2
  | .chain o o' a b c, ρ, μ => (evalE V a ρ μ).bind fun x μ1 => (evalE V b ρ μ1).bind fun y μ2 => (opC o x y μ2).bind fun r μ3 => match r with
    | .bl true => (evalE V c ρ μ3).bind fun z μ4 => opC o' y z μ4
    | .bl false => .ok (.bl false) μ3
    | _ => .err
  | .isN a, ρ, μ => (evalE V a ρ μ).bind fun x μ1 => .ok (.bl (match x with | .non => true | _ => false)) μ1
  | .notN a, ρ, μ => (evalE V a ρ μ).bind fun x μ1 => .ok (.bl (match x with | .non => false | _ => true)) μ1
  | .ite c a b, ρ, μ => (evalE V c ρ μ).bind fun x μ1 => match x with
    | .bl true => evalE V a ρ μ1
    | .bl false => evalE V b ρ μ1
    | _ => .err
  | .call f es, ρ, μ => (evalEs V es ρ μ).bind fun ds μ1 => V.call f ds μ1
  | .make c es, ρ, μ => (evalEs V es ρ μ).bind fun ds μ1 => mkI V c ds μ1
  | .meth o m es, ρ, μ => (evalE V o ρ μ).bind fun x μ1 => match methOf V m (look μ1 x) with
    | some f => (evalEs V es ρ μ1).bind fun ds μ2 => V.call f (x :: ds) μ2
    | none => .err
  | .attr o a, ρ, μ => (evalE V o ρ μ).bind fun x μ1 => getA V x a μ1
  | .b1 k m a, ρ, μ => (evalE V a ρ μ).bind fun x μ1 => op1I V k m x μ1
  | .max2 a b, ρ, μ => (evalE V a ρ μ).bind fun x μ1 => (evalE V b ρ μ1).bind fun y μ2 => match x, y with
    | .int i, .int j => .ok (.int (if j > i then j else i)) μ2
    | _, _ => .err
  | .isi a ts, ρ, μ => (evalE V a ρ μ).bind fun x μ1 => if isiOk V.cls.length (look μ1 x) = true then .ok (.bl (ts.any fun t => tagOk t (look μ1 x))) μ1 else .err
  | .dzip a b, ρ, μ => (evalE V a ρ μ).bind fun x μ1 => (evalE V b ρ μ1).bind fun y μ2 => match x, y with
    | .kd l, .tup r => .ok (.dic (dzips l r)) μ2
    | _, _ => .err
  | .bm k o es, ρ, μ => (evalE V o ρ μ).bind fun x μ1 => match bmTy k (look μ1 x) with
    | some t => (evalEs V es ρ μ1).bind fun ds μ2 => opBM k t x ds μ2
    | none => .err
  | .sub a i, ρ, μ => (evalE V a ρ μ).bind fun x μ1 => (evalE V i ρ μ1).bind fun y μ2 => opI x y μ2
  | .slice m a lo hi, ρ, μ => (evalE V a ρ μ).bind fun x μ1 => (evalEs V lo ρ μ1).bind fun ls μ2 => match partOf ls with
    | some l => (evalEs V hi ρ μ2).bind fun hs μ3 => (match partOf hs with
      | some h => opSl m x l h μ3
      | none => .err)
    | none => .err
  | .lst m es, ρ, μ => (evalEs V es ρ μ).bind fun ds μ1 => mkL m ds μ1
  | .tup es, ρ, μ => (evalEs V es ρ μ).bind fun ds μ1 => .ok (.tup ds) μ1
  | .dic m es, ρ, μ => (evalEs V es ρ μ).pure1.bind fun ds μ1 => match dshow ds [] with
    | some l => mkD m l μ1
    | none => .err
  | .dstar a k v, ρ, μ => (evalE V a ρ μ).pure1.bind fun x μ1 => (evalE V k ρ μ1).pure1.bind fun y μ2 => (evalE V v ρ μ2).pure1.bind fun z μ3 => dstR x y z μ3
  | .lstS m st es, ρ, μ => (evalEs V es ρ μ).pure1.bind fun ds μ1 => match spread st ds with
    | some l => if l.length ≤ lim then mkL m l μ1 else .err
    | none => .err
  | .tupS st es, ρ, μ => (evalEs V es ρ μ).pure1.bind fun ds μ1 => match spread st ds with
    | some l => if l.length ≤ lim then .ok (.tup l) μ1 else .err
    | none => .err
  | .lvals m a, ρ, μ => (evalE V a ρ μ).bind fun x μ1 => match look μ1 x with
    | .dic l => mkL m (l.map (·.2)) μ1
    | _ => .err
  | .lc m own t k it ifs e, ρ, μ => (evalEs V it ρ μ).bind fun xs μ1 => match itemsOf k xs μ1 with
    | some ds => (lcLoop (fun d μ2 => match bindT t d (wipeE ρ own) with
        | some ρ1 => (evalEs V ifs ρ1 μ2).bind fun bs μ3 => (match bs with
          | [] => (evalE V e ρ1 μ3).bind fun y μ4 => .ok (some y) μ4
          | [.bl true] => (evalE V e ρ1 μ3).bind fun y μ4 => .ok (some y) μ4
          | [.bl false] => .ok none μ3
          | _ => .err)
        | none => .err) ds [] μ1).pure1.bind fun l μ5 => mkL m l μ5
    | none => .err
  | .lc2 m own t k it own2 t2 k2 it2 e, ρ, μ => (evalEs V it ρ μ).bind fun xs μ1 => match itemsOf k xs μ1 with
    | some ds => (lcLoop2 (fun d μ2 => match bindT t d (wipeE ρ own) with
        | some ρ1 => (evalEs V it2 ρ1 μ2).bind fun xs2 μ3 => (match itemsOf k2 xs2 μ3 with
          | some ds2 => lcLoop (fun d2 μ4 => match bindT t2 d2 (wipeE ρ1 own2) with
            | some ρ2 => (evalE V e ρ2 μ4).bind fun y μ5 => .ok (some y) μ5
            | none => .err) ds2 [] μ3
          | none => .err)
        | none => .err) ds [] μ1).pure1.bind fun l μ5 => mkL m l μ5
    | none => .err
  | .dc m own t k it ifs ke ve, ρ, μ => (evalEs V it ρ μ).bind fun xs μ1 => match itemsOf k xs μ1 with
    | some ds => (dcLoop (fun d μ2 => match bindT t d (wipeE ρ own) with
        | some ρ1 => (evalEs V ifs ρ1 μ2).bind fun bs μ3 =>
          let go : R (Option (DK × D)) := (evalE V ke ρ1 μ3).bind fun y μ4 => (evalE V ve ρ1 μ4).bind fun z μ5 => match keyOf? y with
            | some k => .ok (some (k, z)) μ5
            | none => .err
          (match bs with
          | [] => go
          | [.bl true] => go
          | [.bl false] => .ok none μ3
          | _ => .err)
        | none => .err) ds [] μ1).pure1.bind fun l μ5 => mkD m l μ5
    | none => .err
  | .frz a, ρ, μ => (evalE V a ρ μ).bind fun x μ1 => freeze x μ1
def evalEs (V : Ev) : ZEs → Env → Mu → R (List D)
  | .nil, _, μ => .ok [] μ
  | .cons e es, ρ, μ => (evalE V e ρ μ).bind fun x μ1 => (evalEs V es ρ μ1).bind fun xs μ2 => .ok (x :: xs) μ2
end
inductive Fl where
  | nx (ρ : Env) | rt (d : D)
def forLoop (f : D → Env → Mu → R Fl) : List D → Env → Mu → R Fl
  | [], ρ, μ => .ok (.nx ρ) μ
  | d :: ds, ρ, μ => (f d ρ μ).bind fun r μ1 => match r with
    | .nx ρ1 => forLoop f ds ρ1 μ1
    | .rt x => .ok (.rt x) μ1
def whileLoop (c : Env → Mu → R D) (f : Env → Mu → R Fl) : Nat → Env → Mu → R Fl
  | 0, _, _ => .err
  | n + 1, ρ, μ => (c ρ μ).bind fun b μ1 => match b with
    | .bl true => (f ρ μ1).bind fun r μ2 => (match r with
      | .nx ρ1 => whileLoop c f n ρ1 μ2
      | .rt x => .ok (.rt x) μ2)
    | .bl false => .ok (.nx ρ) μ1
    | _ => .err
def asgG (V : Ev) : ZG → D → Env → Mu → R Env
  | .nm i, d, ρ, μ => .ok (ρ.set i (some d)) μ
  | .attr o a, d, ρ, μ => (evalE V o ρ μ).bind fun x μ1 => (setA V x a d μ1).bind fun _ μ2 => .ok ρ μ2
  | .sub o i, d, ρ, μ => (evalE V o ρ μ).bind fun x μ1 => (evalE V i ρ μ1).bind fun y μ2 => (setG x y d μ2).bind fun _ μ3 => .ok ρ μ3
def asgGs (V : Ev) : List ZG → List D → Env → Mu → R Env
  | g :: gs, d :: ds, ρ, μ => (asgG V g d ρ μ).bind fun ρ1 μ1 => asgGs V gs ds ρ1 μ1
  | [], [], ρ, μ => .ok ρ μ
  | _, _, _, _ => .err
def hbZ : Hb → D → D
  | .id, d => d
  | .tup l, d => .tup [.str l, d]
def obD : Option Bool → D
  | some b => .bl b
  | none => .non
def ZHd.cls : ZHd → Nat
  | .as_ c _ _ _ => c
  | .only c _ _ => c
def hdlZ : List ZHd → Nat → List D → Env → Mu → R Fl
  | [], c, pl, _, μ => .exc c pl μ
  | h :: hs, c, pl, ρ, μ => if h.cls = 0 ∨ h.cls = c then (match h with
      | .as_ _ e t k => (match pl with
        | [d] => if e < ρ.length then .ok (.nx ((ρ.set t (some (hbZ k d))).set e none)) μ else .err
        | _ => .err)
      | .only _ t d => .ok (.nx (ρ.set t (some (obD d)))) μ)
    else hdlZ hs c pl ρ μ
mutual
def evalS (V : Ev) : ZS → Env → Mu → R Fl
  | .asg g e, ρ, μ => (evalE V e ρ μ).bind fun d μ1 => (asgG V g d ρ μ1).bind fun ρ1 μ2 => .ok (.nx ρ1) μ2
  | .asg2 gs e, ρ, μ => (evalE V e ρ μ).bind fun d μ1 => match d with
    | .tup ds => if ds.length = gs.length then (asgGs V gs ds ρ μ1).bind fun ρ1 μ2 => .ok (.nx ρ1) μ2 else .err
    | _ => .err
  | .ex e, ρ, μ => (evalE V e ρ μ).bind fun _ μ1 => .ok (.nx ρ) μ1
  | .ret e, ρ, μ => (evalE V e ρ μ).bind fun d μ1 => .ok (.rt d) μ1
  | .ite c a b, ρ, μ => (evalE V c ρ μ).bind fun x μ1 => match x with
    | .bl true => evalSs V a ρ μ1
    | .bl false => evalSs V b ρ μ1
    | _ => .err
  | .for_ t k it b, ρ, μ => (evalEs V it ρ μ).bind fun xs μ1 => match itemsOf k xs μ1 with
    | some ds => forLoop (fun d ρ1 μ2 => match bindT t d ρ1 with
      | some ρ2 => evalSs V b ρ2 μ2
      | none => .err) ds ρ μ1
    | none => .err
  | .while_ c b, ρ, μ => whileLoop (evalE V c) (evalSs V b) V.wf ρ μ
  | .raise, _, _ => .err
  | .asgT t e, ρ, μ => (evalE V e ρ μ).bind fun d μ1 => match bindT t d ρ with
    | some ρ1 => .ok (.nx ρ1) μ1
    | none => .err
  | .rz c e, ρ, μ => (evalE V e ρ μ).bind fun d μ1 => .exc c [d] μ1
  | .try_ ne b hs, ρ, μ => match evalSs V b ρ μ with
    | .exc c pl μ1 => if 0 < c ∧ c < ne then hdlZ hs c pl ρ μ1 else .err
    | r => r
  | .frz i, ρ, μ => match ρ[i]? with
    | some (some d) => (freeze d μ).bind fun x μ1 => .ok (.nx (ρ.set i (some x))) μ1
    | _ => .err
  | .pass, ρ, μ => .ok (.nx ρ) μ
def evalSs (V : Ev) : ZSs → Env → Mu → R Fl
  | .nil, ρ, μ => .ok (.nx ρ) μ
  | .cons s r, ρ, μ => (evalS V s ρ μ).bind fun f μ1 => match f with
    | .nx ρ1 => evalSs V r ρ1 μ1
    | .rt d => .ok (.rt d) μ1
end
structure FnI where
  body : ZSs
  np : Nat
  ns : Nat
structure Tb where
  cls : List ClsI
  globs : List D
  wf : Nat
  fns : List FnI
def callN (T : Tb) : Nat → Nat → List D → Mu → R D
  | 0, _, _, _ => .err
  | n + 1, f, ds, μ => match T.fns[f]? with
    | some fi => if ds.length = fi.np then
        (evalSs ⟨T.cls, T.globs, T.wf, callN T n⟩ fi.body (ds.map some ++ List.replicate (fi.ns - fi.np) none) μ).bind fun r μ1 => match r with
        | .nx _ => .ok .non μ1
        | .rt d => .ok d μ1
      else .err
    | none => .err
end Z

end
section
set_option maxHeartbeats 4000000
set_option autoImplicit false
/-! Z2: what data stands for: Rep, the store, what a step keeps. -/
namespace Z
open PySem PySem.Spec PyProof.Rows L2

def toStr (l : List Nat) : Str := ⟨l.toArray⟩
theorem toStr_inj {a b : List Nat} (h : toStr a = toStr b) : a = b := by
  unfold toStr at h
  have h1 := congrArg (fun z : Str => z.cps.toList) h
  simpa using h1
def keyK : DK → Key
  | .i n => .inl n
  | .s l => .inr (toStr l)
theorem keyK_inj {a b : DK} (h : keyK a = keyK b) : a = b := by
  cases a with
  | i n => cases b with
    | i m => rw [Sum.inl.inj h]
    | s l => cases h
  | s l => cases b with
    | i m => cases h
    | s l' => rw [toStr_inj (Sum.inr.inj h)]
/-- the text's side: where things stand -/
structure Tx where
  P : Program
  w : World
  K : PySem.W.Frag
  mg : Str → Option Value
  base : Heap
  T : Tb
  cA : Nat → Addr
  fA : Nat → Addr
  eA : Nat → Addr
  eF : Nat → List Str
  at_ : Nat → Str
def MO.live : MO → Bool
  | .gone => false
  | _ => true
/-- the cells' addresses, the addresses that others hold and change -/
structure Al where
  c : List Addr
  r : List Addr
abbrev Al.push (α : Al) (p : Addr) : Al := ⟨α.c ++ [p], α.r⟩
def LiveC (α : Al) (μ : Mu) (p : Addr) : Prop := ∃ (n : Nat) (o : MO), α.c[n]? = some p ∧ μ[n]? = some o ∧ o.live = true
def Live (α : Al) (μ : Mu) (p : Addr) : Prop := LiveC α μ p ∨ p ∈ α.r
def KL (K : PySem.W.Frag) (a : Addr) (xs : List V) : Prop :=
  ∃ (o : Obj) (its : Array Value) (n : Nat), K.lookup a = some o ∧ o.cls = .type "list" ∧ o.dict = none ∧ o.data = .seq its n ∧ its.size ≤ sizeLine ∧ Vals xs its.toList
def KT (K : PySem.W.Frag) (a : Addr) (xs : List V) : Prop :=
  ∃ (o : Obj) (its : Array Value) (n : Nat), K.lookup a = some o ∧ o.cls = .type "tuple" ∧ o.data = .seq its n ∧ its.size ≤ sizeLine ∧ Vals xs its.toList
def NL (α : Al) (μ : Mu) (H : Hp) (p : Addr) (u : HO) : Prop := Rd H p u ∧ ¬ Live α μ p
def fieldsOf (G : Tx) (c : Nat) : List Str := match G.T.cls[c]? with
  | some ci => ci.fields.map G.at_
  | none => []
/-- a constant of the text -/
inductive RepC (G : Tx) : V → D → Prop
  | non : RepC G .non .non
  | bl (b : Bool) : RepC G (.bl b) (.bl b)
  | int (i : Int) : RepC G (.int i) (.int i)
  | str (s : List Nat) : RepC G (.str (toStr s)) (.str s)
  | tups {p : Addr} (l : List (List Nat)) (h : KT G.K p (l.map fun z => V.str (toStr z))) : RepC G (.ref p) (.tup (l.map .str))
/-- a written dict's keys, in order; what is no key is not there -/
def KKeys (K : PySem.W.Frag) (p : Addr) (l : List (List Nat × D)) : Prop :=
  (∃ (o : Obj) (es : Array DictEntry) (n : Nat), K.lookup p = some o ∧ o.data = .dict es n ∧ o.cls = .type "dict" ∧ o.dict = none ∧ es.toList.map (fun e => absV e.key) = l.map fun q => some (.str (toStr q.1))) ∧
    ∀ z, l.lookup z = none → PySem.W.nsIn K p (toStr z) = some none
mutual
inductive Rep (G : Tx) (α : Al) (μ : Mu) (H : Hp) : V → D → Prop
  | non : Rep G α μ H .non .non
  | bl (b : Bool) : Rep G α μ H (.bl b) (.bl b)
  | int (i : Int) : Rep G α μ H (.int i) (.int i)
  | str (s : List Nat) : Rep G α μ H (.str (toStr s)) (.str s)
  | tup {p : Addr} {xs : List V} {ds : List D} (h : NL α μ H p (.tup xs) ∨ KT G.K p xs) (r : RepL G α μ H xs ds) : Rep G α μ H (.ref p) (.tup ds)
  | lst {p : Addr} {xs : List V} {ds : List D} (h : H p = some (.lst xs)) (hl : ¬ Live α μ p) (r : RepL G α μ H xs ds) : Rep G α μ H (.ref p) (.lst ds)
  | flst {p : Addr} {xs : List V} {ds : List D} (h : NL α μ H p (.lst xs) ∨ KL G.K p xs) (r : RepL G α μ H xs ds) : Rep G α μ H (.ref p) (.flst ds)
  | kd {p : Addr} {l : List (List Nat × D)} (h : ∃ es n, KDict G.K G.w p es n) (hk : KKeys G.K p l) (r : ∀ z d, l.lookup z = some d → ∃ u v, PySem.W.nsIn G.K p (toStr z) = some (some u) ∧ RelV v u ∧ RepC G v d) : Rep G α μ H (.ref p) (.kd l)
  | dic {p : Addr} {kvs : List (Key × V)} {l : List (DK × D)} (h : NL α μ H p (.dK kvs)) (r : RepK G α μ H kvs l) : Rep G α μ H (.ref p) (.dic l)
  | ins {p dx : Addr} {c : Nat} {fs : List (Str × V)} {ds : List D} (h : H p = some (.ins (G.cA c) dx fs)) (hl : ¬ Live α μ p) (hn : fs.map (·.1) = (fieldsOf G c).take ds.length) (r : RepL G α μ H (fs.map (·.2)) ds) : Rep G α μ H (.ref p) (.ins c ds)
  | ref {p : Addr} {n : Nat} (h : α.c[n]? = some p) : Rep G α μ H (.ref p) (.ref n)
inductive RepL (G : Tx) (α : Al) (μ : Mu) (H : Hp) : List V → List D → Prop
  | nil : RepL G α μ H [] []
  | cons {v : V} {d : D} {vs : List V} {ds : List D} (h : Rep G α μ H v d) (t : RepL G α μ H vs ds) : RepL G α μ H (v :: vs) (d :: ds)
inductive RepK (G : Tx) (α : Al) (μ : Mu) (H : Hp) : List (Key × V) → List (DK × D) → Prop
  | nil : RepK G α μ H [] []
  | cons {k : DK} {v : V} {d : D} {vs : List (Key × V)} {ds : List (DK × D)} (h : Rep G α μ H v d) (t : RepK G α μ H vs ds) : RepK G α μ H ((keyK k, v) :: vs) ((k, d) :: ds)
end
/-- a dict that is locked from now on -/
def Lk (o : HO) (x : Option HO) : Prop := ∃ (kvs : List (Key × V)) (od : Obj), o = .dK kvs ∧ x = some (.frz od (.dK kvs))
/-- what a step keeps -/
structure Ext0 (α : Al) (μ : Mu) (H : Hp) (α' : Al) (μ' : Mu) (H' : Hp) : Prop where
  pre : ∃ β, α'.c = α.c ++ β
  keep : ∀ p o, H p = some o → ¬ Live α μ p → H' p = some o ∨ Lk o (H' p)
  live : ∀ p, Live α' μ' p → Live α μ p ∨ H p = none
structure Ext (α : Al) (μ : Mu) (H : Hp) (α' : Al) (μ' : Mu) (H' : Hp) : Prop extends Ext0 α μ H α' μ' H' where
  res : α'.r = α.r
  kr : ∀ p, p ∈ α.r → H' p = H p
theorem Ext0.refl {α : Al} {μ : Mu} {H : Hp} : Ext0 α μ H α μ H := ⟨⟨[], by simp⟩, fun _ _ h _ => .inl h, fun _ h => .inl h⟩
theorem Ext.refl {α : Al} {μ : Mu} {H : Hp} : Ext α μ H α μ H := ⟨Ext0.refl, rfl, fun _ _ => rfl⟩
theorem Ext0.trans {α α1 α2 : Al} {μ μ1 μ2 : Mu} {H H1 H2 : Hp} (a : Ext0 α μ H α1 μ1 H1) (b : Ext0 α1 μ1 H1 α2 μ2 H2) : Ext0 α μ H α2 μ2 H2 := by
  have key : ∀ p, Live α1 μ1 p ∨ H1 p = none → Live α μ p ∨ H p = none := fun p h => by
    rcases h with h | h
    · exact a.live p h
    · by_cases hp : Live α μ p
      · exact .inl hp
      · refine .inr ?_
        cases e : H p with
        | none => rfl
        | some o =>
          rcases a.keep p o e hp with q | ⟨kvs, od, _, q⟩
          · rw [q] at h
            cases h
          · rw [q] at h
            cases h
  have dead : ∀ p o, H p = some o → ¬ Live α μ p → ¬ Live α1 μ1 p := fun p o e h q => by
    rcases a.live p q with q | q
    · exact h q
    · rw [q] at e
      cases e
  refine ⟨?_, fun p o e h => ?_, fun p h => key p (b.live p h)⟩
  · obtain ⟨β, e⟩ := a.pre
    obtain ⟨γ, e2⟩ := b.pre
    exact ⟨β ++ γ, by rw [e2, e, List.append_assoc]⟩
  · rcases a.keep p o e h with q | ⟨kvs, od, e1, q⟩
    · exact b.keep p o q (dead p o e h)
    · rcases b.keep p _ q (dead p o e h) with q2 | ⟨_, _, e2, _⟩
      · exact .inr ⟨kvs, od, e1, q2⟩
      · cases e2
theorem Ext.trans {α α1 α2 : Al} {μ μ1 μ2 : Mu} {H H1 H2 : Hp} (a : Ext α μ H α1 μ1 H1) (b : Ext α1 μ1 H1 α2 μ2 H2) : Ext α μ H α2 μ2 H2 :=
  ⟨a.toExt0.trans b.toExt0, b.res.trans a.res, fun p hp => (b.kr p (by rw [a.res]; exact hp)).trans (a.kr p hp)⟩
theorem Ext0.rd {α α' : Al} {μ μ' : Mu} {H H' : Hp} {p : Addr} {u : HO} (e : Ext0 α μ H α' μ' H') (h : NL α μ H p u) : NL α' μ' H' p u := by
  obtain ⟨h1, h2⟩ := h
  have hn : H p ≠ none := by
    rcases h1 with h1 | ⟨o, h1⟩ <;> (rw [h1]; exact fun z => by cases z)
  refine ⟨?_, fun q => ?_⟩
  · rcases h1 with h1 | ⟨o, h1⟩
    · rcases e.keep _ _ h1 h2 with q | ⟨kvs, od, e1, q⟩
      · exact .inl q
      · exact .inr ⟨od, by rw [e1]; exact q⟩
    · rcases e.keep _ _ h1 h2 with q | ⟨_, _, e1, _⟩
      · exact .inr ⟨o, q⟩
      · cases e1
  · rcases e.live p q with q | q
    · exact h2 q
    · exact hn q
theorem Ext0.at_ {α α' : Al} {μ μ' : Mu} {H H' : Hp} {n : Nat} {p : Addr} (e : Ext0 α μ H α' μ' H') (h : α.c[n]? = some p) : α'.c[n]? = some p := by
  obtain ⟨β, q⟩ := e.pre
  rw [q]
  rw [List.getElem?_append_left (List.getElem?_eq_some_iff.mp h).1]
  exact h
mutual
theorem Rep.ext0 {G : Tx} {α α' : Al} {μ μ' : Mu} {H H' : Hp} (e : Ext0 α μ H α' μ' H') : ∀ {v : V} {d : D}, Rep G α μ H v d → Rep G α' μ' H' v d
  | _, _, .non => .non
  | _, _, .bl b => .bl b
  | _, _, .int i => .int i
  | _, _, .str s => .str s
  | _, _, .tup h r => .tup (h.elim (fun h => .inl (e.rd h)) .inr) (RepL.ext0 e r)
  | _, _, .lst h hl r => .lst ((e.keep _ _ h hl).resolve_right fun ⟨_, _, e1, _⟩ => by cases e1) (fun q => (e.live _ q).elim hl fun z => by rw [z] at h; cases h) (RepL.ext0 e r)
  | _, _, .flst h r => .flst (h.elim (fun h => .inl (e.rd h)) .inr) (RepL.ext0 e r)
  | _, _, .kd h hk r => .kd h hk r
  | _, _, .dic h r => .dic (e.rd h) (RepK.ext0 e r)
  | _, _, .ins h hl hn r => .ins ((e.keep _ _ h hl).resolve_right fun ⟨_, _, e1, _⟩ => by cases e1) (fun q => (e.live _ q).elim hl fun z => by rw [z] at h; cases h) hn (RepL.ext0 e r)
  | _, _, .ref h => .ref (e.at_ h)
theorem RepL.ext0 {G : Tx} {α α' : Al} {μ μ' : Mu} {H H' : Hp} (e : Ext0 α μ H α' μ' H') : ∀ {v : List V} {d : List D}, RepL G α μ H v d → RepL G α' μ' H' v d
  | _, _, .nil => .nil
  | _, _, .cons h t => .cons (Rep.ext0 e h) (RepL.ext0 e t)
theorem RepK.ext0 {G : Tx} {α α' : Al} {μ μ' : Mu} {H H' : Hp} (e : Ext0 α μ H α' μ' H') : ∀ {v : List (Key × V)} {d : List (DK × D)}, RepK G α μ H v d → RepK G α' μ' H' v d
  | _, _, .nil => .nil
  | _, _, .cons h t => .cons (Rep.ext0 e h) (RepK.ext0 e t)
end
theorem Rep.ext {G : Tx} {α α' : Al} {μ μ' : Mu} {H H' : Hp} (e : Ext α μ H α' μ' H') {v : V} {d : D} (r : Rep G α μ H v d) : Rep G α' μ' H' v d := Rep.ext0 e.toExt0 r
theorem RepL.ext {G : Tx} {α α' : Al} {μ μ' : Mu} {H H' : Hp} (e : Ext α μ H α' μ' H') {v : List V} {d : List D} (r : RepL G α μ H v d) : RepL G α' μ' H' v d := RepL.ext0 e.toExt0 r
theorem RepK.ext {G : Tx} {α α' : Al} {μ μ' : Mu} {H H' : Hp} (e : Ext α μ H α' μ' H') {v : List (Key × V)} {d : List (DK × D)} (r : RepK G α μ H v d) : RepK G α' μ' H' v d := RepK.ext0 e.toExt0 r
/-- the cell at p -/
def CellOk (G : Tx) (α : Al) (μ : Mu) (H : Hp) (p : Addr) : MO → Prop
  | .gone => True
  | .lst ds => ∃ xs, H p = some (.lst xs) ∧ RepL G α μ H xs ds
  | .dic l => ∃ kvs, H p = some (.dK kvs) ∧ RepK G α μ H kvs l
  | .ins c ds => ∃ dx fs, H p = some (.ins (G.cA c) dx fs) ∧ fs.map (·.1) = (fieldsOf G c).take ds.length ∧ RepL G α μ H (fs.map (·.2)) ds
structure StOk (G : Tx) (α : Al) (μ : Mu) (H : Hp) : Prop where
  len : α.c.length = μ.length
  cell : ∀ (n : Nat) (p : Addr) (o : MO), μ[n]? = some o → α.c[n]? = some p → CellOk G α μ H p o
  inj : ∀ (n m : Nat) (p : Addr) (o q : MO), μ[n]? = some o → μ[m]? = some q → o.live = true → q.live = true → α.c[n]? = some p → α.c[m]? = some p → n = m
  rs : ∀ p, p ∈ α.r → H p ≠ none ∧ ¬ LiveC α μ p
theorem CellOk.ext0 {G : Tx} {α α' : Al} {μ μ' : Mu} {H H' : Hp} {p : Addr} {o : MO} (e : Ext0 α μ H α' μ' H') (hp : H p = H' p) (c : CellOk G α μ H p o) : CellOk G α' μ' H' p o := by
  cases o with
  | gone => trivial
  | lst ds => obtain ⟨xs, h, r⟩ := c; exact ⟨xs, by rw [← hp]; exact h, r.ext0 e⟩
  | dic l => obtain ⟨xs, h, r⟩ := c; exact ⟨xs, by rw [← hp]; exact h, r.ext0 e⟩
  | ins c' ds => obtain ⟨dx, fs, h, hn, r⟩ := c; exact ⟨dx, fs, by rw [← hp]; exact h, hn, r.ext0 e⟩
theorem CellOk.ext {G : Tx} {α α' : Al} {μ μ' : Mu} {H H' : Hp} {p : Addr} {o : MO} (e : Ext α μ H α' μ' H') (hp : H p = H' p) (c : CellOk G α μ H p o) : CellOk G α' μ' H' p o := c.ext0 e.toExt0 hp
theorem StOk.there {G : Tx} {α : Al} {μ : Mu} {H : Hp} (s : StOk G α μ H) {n : Nat} {o : MO} (h : μ[n]? = some o) : ∃ p, α.c[n]? = some p := by
  have h1 := (List.getElem?_eq_some_iff.mp h).1
  exact ⟨α.c[n]'(by rw [s.len]; exact h1), List.getElem?_eq_getElem (by rw [s.len]; exact h1)⟩
theorem StOk.tracked {G : Tx} {α : Al} {μ : Mu} {H : Hp} (s : StOk G α μ H) {p : Addr} (h : Live α μ p) : H p ≠ none := by
  rcases h with ⟨n, o, h1, h2, h3⟩ | h
  · have c := s.cell n p o h2 h1
    cases o with
    | gone => cases h3
    | lst ds => obtain ⟨xs, h, r⟩ := c; rw [h]; exact fun z => by cases z
    | dic ds => obtain ⟨xs, h, r⟩ := c; rw [h]; exact fun z => by cases z
    | ins c' ds => obtain ⟨dx, xs, h, r⟩ := c; rw [h]; exact fun z => by cases z
  · exact (s.rs p h).1
/-- a new object that nobody changes -/
theorem ext_new {G : Tx} {α : Al} {μ : Mu} {H : Hp} {p : Addr} {o : HO} (s : StOk G α μ H) (hp : H p = none) : Ext α μ H α μ (upd H p o) :=
  ⟨⟨⟨[], by simp⟩, fun q u e _ => .inl (by rw [upd_ne (ne_of_none e hp)]; exact e), fun _ h => .inl h⟩, rfl, fun q hq => upd_ne fun z => (s.rs q hq).1 (by rw [z]; exact hp)⟩
theorem StOk.new {G : Tx} {α : Al} {μ : Mu} {H : Hp} {p : Addr} {o : HO} (s : StOk G α μ H) (hp : H p = none) : StOk G α μ (upd H p o) := by
  refine ⟨s.len, fun n q c h1 h2 => ?_, s.inj, fun q hq => ⟨?_, (s.rs q hq).2⟩⟩
  · have c0 := s.cell n q c h1 h2
    by_cases hq : q = p
    · cases c with
      | gone => trivial
      | lst ds => obtain ⟨xs, h, r⟩ := c0; rw [hq, hp] at h; cases h
      | dic ds => obtain ⟨xs, h, r⟩ := c0; rw [hq, hp] at h; cases h
      | ins c' ds => obtain ⟨dx, xs, h, r⟩ := c0; rw [hq, hp] at h; cases h
    · exact c0.ext (ext_new s hp) (by rw [upd_ne hq])
  · rw [upd_ne fun z => (s.rs q hq).1 (by rw [z]; exact hp)]
    exact (s.rs q hq).1
theorem StOk.notLive {G : Tx} {α : Al} {μ : Mu} {H : Hp} (s : StOk G α μ H) {p : Addr} (hp : H p = none) : ¬ Live α μ p := fun h => s.tracked h hp
/-- a new cell -/
theorem liveC_push {α : Al} {μ : Mu} {p q : Addr} {o : MO} (hl : α.c.length = μ.length) (h : LiveC (α.push p) (μ ++ [o]) q) : LiveC α μ q ∨ q = p := by
  obtain ⟨n, c, h1, h2, h3⟩ := h
  by_cases hn : n < α.c.length
  · rw [List.getElem?_append_left hn] at h1
    rw [List.getElem?_append_left (by omega)] at h2
    exact .inl ⟨n, c, h1, h2, h3⟩
  · rw [List.getElem?_append_right (by omega)] at h1
    cases e : n - α.c.length with
    | zero => rw [e] at h1; exact .inr (by simpa using h1.symm)
    | succ k => rw [e] at h1; simp at h1
theorem ext_cell {G : Tx} {α : Al} {μ : Mu} {H : Hp} {p : Addr} {o : HO} {c : MO} (s : StOk G α μ H) (hp : H p = none) : Ext α μ H (α.push p) (μ ++ [c]) (upd H p o) :=
  ⟨⟨⟨[p], rfl⟩, fun q u e _ => .inl (by rw [upd_ne (ne_of_none e hp)]; exact e), fun q h => by
    rcases h with h | h
    · exact (liveC_push s.len h).elim (fun z => .inl (.inl z)) fun e => .inr (by rw [e]; exact hp)
    · exact .inl (.inr h)⟩, rfl, fun q hq => upd_ne fun z => (s.rs q hq).1 (by rw [z]; exact hp)⟩
theorem StOk.push {G : Tx} {α : Al} {μ : Mu} {H : Hp} {p : Addr} {o : HO} {c : MO} (s : StOk G α μ H) (hp : H p = none) (hc : CellOk G (α.push p) (μ ++ [c]) (upd H p o) p c) : StOk G (α.push p) (μ ++ [c]) (upd H p o) := by
  have ex := ext_cell (o := o) (c := c) s hp
  have dead : ∀ (n : Nat) (d : MO), n < α.c.length → μ[n]? = some d → α.c[n]? = some p → d.live = true → False := fun n d hn h1 h2 h3 => s.notLive hp (.inl ⟨n, d, h2, h1, h3⟩)
  refine ⟨by rw [List.length_append, List.length_append, s.len]; rfl, fun n q d h1 h2 => ?_, fun n m q d d' h1 h2 l1 l2 h3 h4 => ?_, fun q hq => ⟨?_, fun h => ?_⟩⟩
  · by_cases hn : n < α.c.length
    · rw [List.getElem?_append_left hn] at h2
      rw [List.getElem?_append_left (by rw [← s.len]; exact hn)] at h1
      have c0 := s.cell n q d h1 h2
      by_cases hq : q = p
      · subst hq
        cases d with
        | gone => trivial
        | lst ds => exact (dead n _ hn h1 h2 rfl).elim
        | dic ds => exact (dead n _ hn h1 h2 rfl).elim
        | ins c' ds => exact (dead n _ hn h1 h2 rfl).elim
      · exact c0.ext ex (by rw [upd_ne hq])
    · rw [List.getElem?_append_right (by omega)] at h2
      rw [List.getElem?_append_right (by rw [← s.len]; omega)] at h1
      have e0 : n - α.c.length = 0 := by
        cases e : n - α.c.length with
        | zero => rfl
        | succ k => rw [e] at h2; simp at h2
      rw [e0] at h2
      rw [← s.len, e0] at h1
      have : q = p := by simpa using h2.symm
      subst this
      have : d = c := by simpa using h1.symm
      subst this
      exact hc
  · have last : ∀ k, ¬ k < α.c.length → (α.push p).c[k]? = some q → k = α.c.length ∧ q = p := fun k hk e => by
      rw [List.getElem?_append_right (by omega)] at e
      cases e' : k - α.c.length with
      | zero => rw [e'] at e; exact ⟨by omega, by simpa using e.symm⟩
      | succ j => rw [e'] at e; simp at e
    by_cases hn : n < α.c.length
    · have h3' := h3
      rw [List.getElem?_append_left hn] at h3'
      have h1' := h1
      rw [List.getElem?_append_left (by rw [← s.len]; exact hn)] at h1'
      by_cases hm : m < α.c.length
      · rw [List.getElem?_append_left hm] at h4
        rw [List.getElem?_append_left (by rw [← s.len]; exact hm)] at h2
        exact s.inj n m q d d' h1' h2 l1 l2 h3' h4
      · obtain ⟨_, e⟩ := last m hm h4
        subst e
        exact (dead n d hn h1' h3' l1).elim
    · obtain ⟨en, e⟩ := last n hn h3
      by_cases hm : m < α.c.length
      · rw [List.getElem?_append_left hm] at h4
        rw [List.getElem?_append_left (by rw [← s.len]; exact hm)] at h2
        subst e
        exact (dead m d' hm h2 h4 l2).elim
      · obtain ⟨em, _⟩ := last m hm h4
        omega
  · rw [ex.kr q hq]
    exact (s.rs q hq).1
  · rcases liveC_push s.len h with z | z
    · exact (s.rs q hq).2 z
    · exact (s.rs q hq).1 (by rw [z]; exact hp)
/-- a cell is changed -/
theorem liveC_set {α : Al} {μ : Mu} {n : Nat} {o c : MO} {q : Addr} (h0 : μ[n]? = some o) (ho : o.live = true) (h : LiveC α (μ.set n c) q) : LiveC α μ q := by
  obtain ⟨m, d, h1, h2, h3⟩ := h
  by_cases e : n = m
  · subst e
    exact ⟨n, o, h1, h0, ho⟩
  · rw [List.getElem?_set_ne e] at h2
    exact ⟨m, d, h1, h2, h3⟩
theorem ext_set {G : Tx} {α : Al} {μ : Mu} {H : Hp} {n : Nat} {p : Addr} {u : HO} {o c : MO} (s : StOk G α μ H) (h0 : μ[n]? = some o) (ho : o.live = true) (hp : α.c[n]? = some p) : Ext α μ H α (μ.set n c) (upd H p u) :=
  ⟨⟨⟨[], by simp⟩, fun q v e hl => .inl (by rw [upd_ne (fun z => hl (.inl ⟨n, o, by rw [z]; exact hp, h0, ho⟩))]; exact e), fun q h => h.elim (fun h => .inl (.inl (liveC_set h0 ho h))) fun h => .inl (.inr h)⟩, rfl,
    fun q hq => upd_ne fun z => (s.rs q hq).2 ⟨n, o, by rw [z]; exact hp, h0, ho⟩⟩
theorem StOk.set {G : Tx} {α : Al} {μ : Mu} {H : Hp} {n : Nat} {p : Addr} {u : HO} {o c : MO} (s : StOk G α μ H) (h0 : μ[n]? = some o) (ho : o.live = true) (hp : α.c[n]? = some p)
    (hc : CellOk G α (μ.set n c) (upd H p u) p c) : StOk G α (μ.set n c) (upd H p u) := by
  have ex := ext_set (u := u) (c := c) s h0 ho hp
  have hn := (List.getElem?_eq_some_iff.mp h0).1
  refine ⟨by rw [List.length_set]; exact s.len, fun m q d h1 h2 => ?_, fun m k q d d' h1 h2 l1 l2 h3 h4 => ?_, fun q hq => ⟨by rw [ex.kr q hq]; exact (s.rs q hq).1, fun h => (s.rs q hq).2 (liveC_set h0 ho h)⟩⟩
  · by_cases e : n = m
    · subst e
      rw [List.getElem?_set_self hn] at h1
      rw [hp] at h2
      cases h1
      cases h2
      exact hc
    · rw [List.getElem?_set_ne e] at h1
      have c0 := s.cell m q d h1 h2
      cases hd : d.live with
      | false => cases d with
        | gone => trivial
        | _ => cases hd
      | true =>
        have hq : q ≠ p := fun z => e (s.inj n m p o d h0 h1 ho hd hp (by rw [← z]; exact h2))
        exact c0.ext ex (by rw [upd_ne hq])
  · have back : ∀ (j : Nat) (d : MO), (μ.set n c)[j]? = some d → d.live = true → ∃ d0, μ[j]? = some d0 ∧ d0.live = true := fun j d h hl => by
      by_cases e : n = j
      · subst e
        exact ⟨o, h0, ho⟩
      · rw [List.getElem?_set_ne e] at h
        exact ⟨d, h, hl⟩
    obtain ⟨d0, b1, b2⟩ := back m d h1 l1
    obtain ⟨d1, b3, b4⟩ := back k d' h2 l2
    exact s.inj m k q d0 d1 b1 b3 b2 b4 h3 h4
/-- a cell is given up: the heap stays -/
theorem ext_gone {α : Al} {μ : Mu} {H : Hp} {n : Nat} {o : MO} (h0 : μ[n]? = some o) (ho : o.live = true) : Ext α μ H α (μ.set n .gone) H :=
  ⟨⟨⟨[], by simp⟩, fun _ _ e _ => .inl e, fun q h => h.elim (fun h => .inl (.inl (liveC_set h0 ho h))) fun h => .inl (.inr h)⟩, rfl, fun _ _ => rfl⟩
theorem gone_dead {G : Tx} {α : Al} {μ : Mu} {H : Hp} {n : Nat} {p : Addr} {o : MO} (s : StOk G α μ H) (h0 : μ[n]? = some o) (ho : o.live = true) (hp : α.c[n]? = some p) : ¬ Live α (μ.set n .gone) p := by
  rintro (⟨m, d, h1, h2, h3⟩ | h)
  · by_cases e : n = m
    · subst e
      rw [List.getElem?_set_self (List.getElem?_eq_some_iff.mp h0).1] at h2
      cases h2
      cases h3
    · rw [List.getElem?_set_ne e] at h2
      exact e (s.inj n m p o d h0 h2 ho h3 hp h1)
  · exact (s.rs p h).2 ⟨n, o, hp, h0, ho⟩
theorem StOk.gone {G : Tx} {α : Al} {μ : Mu} {H : Hp} {n : Nat} {o : MO} (s : StOk G α μ H) (h0 : μ[n]? = some o) (ho : o.live = true) : StOk G α (μ.set n .gone) H := by
  have ex := ext_gone (α := α) (H := H) h0 ho
  have hn := (List.getElem?_eq_some_iff.mp h0).1
  refine ⟨by rw [List.length_set]; exact s.len, fun m q d h1 h2 => ?_, fun m k q d d' h1 h2 l1 l2 h3 h4 => ?_, fun q hq => ⟨(s.rs q hq).1, fun h => (s.rs q hq).2 (liveC_set h0 ho h)⟩⟩
  · by_cases e : n = m
    · subst e
      rw [List.getElem?_set_self hn] at h1
      cases h1
      trivial
    · rw [List.getElem?_set_ne e] at h1
      exact (s.cell m q d h1 h2).ext ex rfl
  · have back : ∀ (j : Nat) (d : MO), (μ.set n .gone)[j]? = some d → d.live = true → μ[j]? = some d := fun j d h hl => by
      by_cases e : n = j
      · subst e
        rw [List.getElem?_set_self hn] at h
        cases h
        cases hl
      · rwa [List.getElem?_set_ne e] at h
    exact s.inj m k q d d' (back m d h1 l1) (back k d' h2 l2) l1 l2 h3 h4
/-! ### addresses that a loop holds: nobody else changes them -/
theorem ext0_hold {G : Tx} {α : Al} {μ : Mu} {H : Hp} {p : Addr} {o : HO} (hp : H p = none) : Ext0 α μ H ⟨α.c, p :: α.r⟩ μ (upd H p o) :=
  ⟨⟨[], by simp⟩, fun q u e _ => .inl (by rw [upd_ne (ne_of_none e hp)]; exact e), fun q h => by
    rcases h with h | h
    · exact .inl (.inl h)
    · rcases List.mem_cons.mp h with z | z
      · exact .inr (by rw [z]; exact hp)
      · exact .inl (.inr z)⟩
theorem StOk.hold {G : Tx} {α : Al} {μ : Mu} {H : Hp} {p : Addr} {o : HO} (s : StOk G α μ H) (hp : H p = none) : StOk G ⟨α.c, p :: α.r⟩ μ (upd H p o) := by
  have ex := ext0_hold (G := G) (α := α) (μ := μ) (o := o) hp
  refine ⟨s.len, fun n q c h1 h2 => ?_, s.inj, fun q hq => ⟨?_, fun h => ?_⟩⟩
  · have c0 := s.cell n q c h1 h2
    by_cases hq : q = p
    · cases c with
      | gone => trivial
      | lst ds => obtain ⟨xs, h, r⟩ := c0; rw [hq, hp] at h; cases h
      | dic ds => obtain ⟨xs, h, r⟩ := c0; rw [hq, hp] at h; cases h
      | ins c' ds => obtain ⟨dx, xs, h, r⟩ := c0; rw [hq, hp] at h; cases h
    · exact c0.ext0 ex (by rw [upd_ne hq])
  · rcases List.mem_cons.mp hq with z | z
    · rw [z, upd_same]; exact fun z => by cases z
    · rw [upd_ne fun z' => (s.rs q z).1 (by rw [z']; exact hp)]
      exact (s.rs q z).1
  · rcases List.mem_cons.mp hq with z | z
    · exact s.notLive hp (.inl (by rw [← z]; exact h))
    · exact (s.rs q z).2 h
/-- it is changed by its holder -/
theorem ext0_held {α : Al} {μ : Mu} {H : Hp} {p : Addr} {o : HO} (hp : p ∈ α.r) : Ext0 α μ H α μ (upd H p o) :=
  ⟨⟨[], by simp⟩, fun q u e hl => .inl (by rw [upd_ne fun z => hl (.inr (by rw [z]; exact hp))]; exact e), fun q h => .inl h⟩
theorem StOk.held {G : Tx} {α : Al} {μ : Mu} {H : Hp} {p : Addr} {o : HO} (s : StOk G α μ H) (hp : p ∈ α.r) : StOk G α μ (upd H p o) := by
  have ex := ext0_held (μ := μ) (H := H) (o := o) hp
  refine ⟨s.len, fun n q c h1 h2 => ?_, s.inj, fun q hq => ⟨?_, (s.rs q hq).2⟩⟩
  · have c0 := s.cell n q c h1 h2
    by_cases hq : q = p
    · cases c with
      | gone => trivial
      | _ => exact ((s.rs p hp).2 ⟨n, _, by rw [← hq]; exact h2, h1, rfl⟩).elim
    · exact c0.ext0 ex (by rw [upd_ne hq])
  · by_cases z : q = p
    · rw [z, upd_same]; exact fun z => by cases z
    · rw [upd_ne z]; exact (s.rs q hq).1
/-- the holder lets go -/
theorem ext0_free {c : List Addr} {r : List Addr} {μ : Mu} {H : Hp} {p : Addr} : Ext0 ⟨c, p :: r⟩ μ H ⟨c, r⟩ μ H :=
  ⟨⟨[], by simp⟩, fun _ _ e _ => .inl e, fun q h => .inl (h.elim .inl fun z => .inr (List.mem_cons_of_mem _ z))⟩
theorem StOk.free {G : Tx} {c : List Addr} {r : List Addr} {μ : Mu} {H : Hp} {p : Addr} (s : StOk G ⟨c, p :: r⟩ μ H) : StOk G ⟨c, r⟩ μ H :=
  ⟨s.len, fun n q d h1 h2 => (s.cell n q d h1 h2).ext0 ext0_free rfl, s.inj, fun q hq => s.rs q (List.mem_cons_of_mem _ hq)⟩
/-- a dict that nobody changes is locked -/
theorem ext_lock {α : Al} {μ : Mu} {H : Hp} {p : Addr} {kvs : List (Key × V)} {od : Obj} (h : H p = some (.dK kvs)) (hr : p ∉ α.r) : Ext α μ H α μ (upd H p (.frz od (.dK kvs))) :=
  ⟨⟨⟨[], by simp⟩, fun q u e _ => by
    by_cases z : q = p
    · subst z
      rw [h] at e
      cases e
      exact .inr ⟨kvs, od, rfl, upd_same⟩
    · exact .inl (by rw [upd_ne z]; exact e), fun _ h => .inl h⟩, rfl, fun q hq => upd_ne fun z => hr (by rw [← z]; exact hq)⟩
theorem StOk.lock {G : Tx} {α : Al} {μ : Mu} {H : Hp} {p : Addr} {kvs : List (Key × V)} {od : Obj} (s : StOk G α μ H) (h : H p = some (.dK kvs)) (hl : ¬ Live α μ p) : StOk G α μ (upd H p (.frz od (.dK kvs))) := by
  have ex := ext_lock (μ := μ) (od := od) h fun q => hl (.inr q)
  refine ⟨s.len, fun n q c h1 h2 => ?_, s.inj, fun q hq => ⟨?_, (s.rs q hq).2⟩⟩
  · have c0 := s.cell n q c h1 h2
    by_cases hq : q = p
    · cases c with
      | gone => trivial
      | _ => exact (hl (.inl ⟨n, _, by rw [← hq]; exact h2, h1, rfl⟩)).elim
    · exact c0.ext ex (by rw [upd_ne hq])
  · rw [ex.kr q hq]
    exact (s.rs q hq).1
end Z

end
section
set_option maxHeartbeats 4000000
set_option autoImplicit false
/-! Z3: what an end of the interpreter asks (Fin), semantic readings, the operators by values. -/
namespace Z
open PySem PySem.Spec PyProof.Rows L2

abbrev Rel (β γ : Type) := Al → Mu → Hp → γ → β → Prop
/-- the exceptions' side: what an exception of class c with fields pl is, at od its dict -/
abbrev XW := Nat → List D → Al → Mu → Hp → Prop
/-- the continuation Q (a value) or W (an exception) takes the end r, from the store and heap at hand -/
def FinG {β γ : Type} (G : Tx) (rel : Rel β γ) (W : XW) (α : Al) (μ : Mu) (H : Hp) (r : R β) (Q : γ → Hp → Prop) : Prop := match r with
  | .ok d μ' => ∀ α' H' v, Ext α μ H α' μ' H' → StOk G α' μ' H' → rel α' μ' H' v d → Q v H'
  | .exc c pl μ' => ∀ α' H', Ext α μ H α' μ' H' → StOk G α' μ' H' → W c pl α' μ' H'
  | .err => False
section
variable {G : Tx} {W : XW} {α : Al} {μ : Mu} {H : Hp}
theorem FinG.at_ {β γ : Type} {rel : Rel β γ} {α' : Al} {μ' : Mu} {H' : Hp} {r : R β} {Q : γ → Hp → Prop} (h : FinG G rel W α μ H r Q) (e : Ext α μ H α' μ' H') : FinG G rel W α' μ' H' r Q := by
  cases r with
  | ok d m => exact fun a2 H2 v e2 s2 rv => h a2 H2 v (e.trans e2) s2 rv
  | exc c pl m => exact fun a2 H2 e2 s2 => h a2 H2 (e.trans e2) s2
  | err => exact h
theorem FinG.bind {β γ β' γ' : Type} {rel : Rel β γ} {rel' : Rel β' γ'} {r : R β} {k : β → Mu → R β'} {Q : γ' → Hp → Prop} (h : FinG G rel' W α μ H (r.bind k) Q) {Q1 : γ → Hp → Prop}
    (hk : ∀ b μ' α' H' v, r = .ok b μ' → Ext α μ H α' μ' H' → StOk G α' μ' H' → rel α' μ' H' v b → FinG G rel' W α' μ' H' (k b μ') Q → Q1 v H') : FinG G rel W α μ H r Q1 := by
  cases r with
  | ok d m => exact fun a2 H2 v e2 s2 rv => hk d m a2 H2 v rfl e2 s2 rv (FinG.at_ (show FinG G rel' W α μ H (k d m) Q from h) e2)
  | exc c pl m => exact h
  | err => exact h
theorem FinG.mono {β γ : Type} {rel : Rel β γ} {r : R β} {Q Q' : γ → Hp → Prop} (h : FinG G rel W α μ H r Q) (hq : ∀ v H', Q v H' → Q' v H') : FinG G rel W α μ H r Q' := by
  cases r with
  | ok d m => exact fun a2 H2 v e2 s2 rv => hq _ _ (h a2 H2 v e2 s2 rv)
  | exc c pl m => exact h
  | err => exact h
/-- an end that is there already -/
theorem FinG.now {β γ : Type} {rel : Rel β γ} {d : β} {Q : γ → Hp → Prop} {v : γ} (h : FinG G rel W α μ H (.ok d μ) Q) (s : StOk G α μ H) (r : rel α μ H v d) : Q v H := h α H v Ext.refl s r
end
abbrev RepR (G : Tx) : Rel D V := fun α μ H v d => Rep G α μ H v d
abbrev RepLR (G : Tx) : Rel (List D) (List V) := fun α μ H v d => RepL G α μ H v d
abbrev Fin1 (G : Tx) := FinG G (RepR G)
abbrev FinL (G : Tx) := FinG G (RepLR G)

/-! ### semantic readings -/
def WE (X : Cx) (e : Expr) : TE := fun σ H Q => ∀ pins s, Inv X pins σ H s → wpAny (model X.prog X.w) X.A (eval e X.env) (EP X pins σ Q) X.xe s
def WT (X : Cx) (e : Expr) : TT := fun σ H Q => ∀ pins s, Inv X pins σ H s → wpAny (model X.prog X.w) X.A (isTrue e X.env (eval e X.env)) (TP X pins σ Q) X.xe s
def WA (X : Cx) (es : List Expr) : TA := fun σ H Q => ∀ pos pins s, Inv X pins σ H s → wpAny (model X.prog X.w) X.A (spliced (backTo pos (starEach es X.env))) (AP X pins σ Q) X.xe s
section
variable {X : Cx} {e a b : Expr} {es : List Expr} {σ : L2.St} {H : Hp} {Q : VK} {pos : Pos}
theorem pe_we : PE X e (WE X e) := ⟨fun pins s _ _ _ I h => h pins s I⟩
theorem pt_wt : PT X e (WT X e) := ⟨fun pins s _ _ _ I h => h pins s I⟩
theorem pa_wa : PA X es (WA X es) := ⟨fun pos pins s _ _ _ I h => h pos pins s I⟩
theorem WE.of {t : TE} (h : PE X e t) (ht : t σ H Q) : WE X e σ H Q := fun pins s I => h.run pins s σ H Q I ht
theorem WT.of {t : TT} {Q : Bool → Hp → Prop} (h : PT X e t) (ht : t σ H Q) : WT X e σ H Q := fun pins s I => h.run pins s σ H Q I ht
theorem WA.of {t : TA} {Q : List V → Hp → Prop} (h : PA X es t) (ht : t σ H Q) : WA X es σ H Q := fun pos pins s I => h.run pos pins s σ H Q I ht
theorem WE.mono {Q' : VK} (h : WE X e σ H Q) (hq : ∀ v H', Q v H' → Q' v H') : WE X e σ H Q' := fun pins s I =>
  thn (h pins s I) fun _ _ ⟨v, H', I', r, q⟩ => ⟨v, H', I', r, hq v H' q⟩
/-- an operation on values -/
def SO (X : Cx) (f : Value → Value → Sem Value) (x y : V) (H : Hp) (Q : VK) : Prop :=
  ∀ pins s σ v u, Inv X pins σ H s → RelV x v → RelV y u → wpAny (model X.prog X.w) X.A (f v u) (EP X pins σ Q) X.xe s
def SU (X : Cx) (f : Value → Sem Value) (x : V) (H : Hp) (Q : VK) : Prop :=
  ∀ pins s σ v, Inv X pins σ H s → RelV x v → wpAny (model X.prog X.w) X.A (f v) (EP X pins σ Q) X.xe s
def SC (X : Cx) (f : Value) (xs : List V) (H : Hp) (Q : VK) : Prop :=
  ∀ pins s σ us, Inv X pins σ H s → Vals xs us → wpAny (model X.prog X.w) X.A (call f us) (EP X pins σ Q) X.xe s
theorem SO.of {f : Value → Value → Sem Value} {r : R2} {x y : V} (h : OpR X f r) (hr : r x y H Q) : SO X f x y H Q := fun pins s σ v u I rx ry => h pins s σ H x y v u Q I rx ry hr
theorem SC.of {f : Value} {r : List V → Hp → VK → Prop} {xs : List V} (h : CallR X f r) (hr : r xs H Q) : SC X f xs H Q := fun pins s σ us I rx => h pins s σ H xs us Q I rx hr
theorem we_bin {o : Operator} (h : WE X a σ H fun x H1 => WE X b σ H1 fun y H2 => SO X (binaryOp o) x y H2 Q) : WE X (.BinOp a o b pos) σ H Q :=
  WE.of (pe_op (r := fun x y H Q => SO X (binaryOp o) x y H Q) (fun pins s σ H x y v u Q I rx ry h => h pins s σ v u I rx ry) pe_we pe_we) h
end
/-! ### the context of a body -/
/-- what is known of a body's names: slots, scope; the text's names -/
structure Nm where
  fn : List (Option Str)
  cl : List Str
  gl : List Str
  at_ : List Str
  er : List Str
  ef : List Str
structure Ag where
  N : List Str
  sc : Scope
  nm : Nm
structure CtxOk (G : Tx) (n : Nat) (A : Ag) (X : Cx) : Prop where
  prog : X.prog = G.P
  w : X.w = G.w
  K : X.K = G.K
  mg : X.mg = G.mg
  base : X.base = G.base
  N : X.N = A.N
  nd : A.N.Nodup
  sco : ∀ x k, A.sc.names.lookup x = some k → X.env.scope.names.lookup x = some k ∨ (k = .free ∧ X.env.scope.names.lookup x = some .cell)
  fnc : ∀ x, A.sc.names.lookup x = some .cell → X.fn x = true
  calm : X.calm = true
  room : Room n X.A
section
variable {G : Tx} {n : Nat} {A : Ag} {X : Cx} {α : Al} {μ : Mu} {H : Hp}
theorem CtxOk.lst (c : CtxOk G n A X) {p : Addr} {xs : List V} (h : NL α μ H p (.lst xs) ∨ KL G.K p xs) : SqL X.K H p xs := by
  rcases h with h | ⟨o, its, m, h1, h2⟩
  · exact .inl h.1
  · exact .inr ⟨o, its, m, by rw [c.K]; exact h1, h2⟩
theorem CtxOk.tup (c : CtxOk G n A X) {p : Addr} {xs : List V} (h : NL α μ H p (.tup xs) ∨ KT G.K p xs) : SqT X.K H p xs := by
  rcases h with h | ⟨o, its, m, h1, h2⟩
  · exact .inl h.1
  · exact .inr ⟨o, its, m, by rw [c.K]; exact h1, h2⟩
/-- a value that holds a list, a cell or not -/
theorem look_lst (s : StOk G α μ H) {v : V} {d : D} {l : List D} (r : Rep G α μ H v d) (e : look μ d = .lst l) : ∃ p xs, v = .ref p ∧ H p = some (.lst xs) ∧ RepL G α μ H xs l := by
  cases r with
  | ref hp =>
    rename_i p k
    unfold look at e
    cases q : μ[k]? with
    | none => simp only [q] at e; cases e
    | some o =>
      simp only [q] at e
      cases o with
      | lst ds =>
        cases e
        obtain ⟨xs, h1, h2⟩ := s.cell k p _ q hp
        exact ⟨p, xs, rfl, h1, h2⟩
      | _ => cases e
  | lst h hl t => cases e; exact ⟨_, _, rfl, h, t⟩
  | _ => cases e
theorem look_tup (c : CtxOk G n A X) (s : StOk G α μ H) {v : V} {d : D} {l : List D} (r : Rep G α μ H v d) (e : look μ d = .tup l) : ∃ p xs, v = .ref p ∧ SqT X.K H p xs ∧ RepL G α μ H xs l := by
  cases r with
  | ref hp =>
    rename_i p k
    unfold look at e
    cases q : μ[k]? with
    | none => simp only [q] at e; cases e
    | some o =>
      simp only [q] at e
      cases o <;> cases e
  | tup h t => cases e; exact ⟨_, _, rfl, c.tup h, t⟩
  | _ => cases e
theorem look_dic (s : StOk G α μ H) {v : V} {d : D} {l : List (DK × D)} (r : Rep G α μ H v d) (e : look μ d = .dic l) : ∃ p kvs, v = .ref p ∧ Rd H p (.dK kvs) ∧ RepK G α μ H kvs l := by
  cases r with
  | ref hp =>
    rename_i p k
    unfold look at e
    cases q : μ[k]? with
    | none => simp only [q] at e; cases e
    | some o =>
      simp only [q] at e
      cases o with
      | dic ds =>
        cases e
        obtain ⟨xs, h1, h2⟩ := s.cell k p _ q hp
        exact ⟨p, xs, rfl, .inl h1, h2⟩
      | _ => cases e
  | dic h t => cases e; exact ⟨_, _, rfl, h.1, t⟩
  | _ => cases e
theorem look_ins (s : StOk G α μ H) {v : V} {d : D} {c : Nat} {l : List D} (r : Rep G α μ H v d) (e : look μ d = .ins c l) :
    ∃ p dx fs, v = .ref p ∧ H p = some (.ins (G.cA c) dx fs) ∧ fs.map (·.1) = (fieldsOf G c).take l.length ∧ RepL G α μ H (fs.map (·.2)) l := by
  cases r with
  | ref hp =>
    rename_i p k
    unfold look at e
    cases q : μ[k]? with
    | none => simp only [q] at e; cases e
    | some o =>
      simp only [q] at e
      cases o with
      | ins c' ds =>
        cases e
        obtain ⟨dx, fs, h1, h2, h3⟩ := s.cell k p _ q hp
        exact ⟨p, dx, fs, rfl, h1, h2, h3⟩
      | _ => cases e
  | ins h hl hn t => cases e; exact ⟨_, _, _, rfl, h, hn, t⟩
  | _ => cases e
theorem look_str {v : V} {d : D} {l : List Nat} (r : Rep G α μ H v d) (e : look μ d = .str l) : v = .str (toStr l) ∧ d = .str l := by
  cases r with
  | ref hp =>
    rename_i p k
    unfold look at e
    cases q : μ[k]? with
    | none => simp only [q] at e; cases e
    | some o =>
      simp only [q] at e
      cases o <;> cases e
  | str s => cases e; exact ⟨rfl, rfl⟩
  | _ => cases e
/-! ### new objects -/
theorem new_lst {W : XW} (s : StOk G α μ H) {xs : List V} {ds : List D} {m : Bool} {Q : VK} (r : RepL G α μ H xs ds) (h : Fin1 G W α μ H (mkL m ds μ) Q) : ∀ p, H p = none → Q (.ref p) (upd H p (.lst xs)) := by
  intro p hp
  cases m with
  | false =>
    have ex := ext_new (o := .lst xs) s hp
    exact h α _ (.ref p) ex (s.new hp) (.lst upd_same (s.notLive hp) (r.ext ex))
  | true =>
    have ex := ext_cell (o := .lst xs) (c := .lst ds) s hp
    exact h (α.push p) _ (.ref p) ex (s.push hp ⟨xs, upd_same, r.ext ex⟩) (.ref (by rw [← s.len]; simp))
theorem new_tup {W : XW} (s : StOk G α μ H) {xs : List V} {ds : List D} {Q : VK} (r : RepL G α μ H xs ds) (h : Fin1 G W α μ H (.ok (.tup ds) μ) Q) : ∀ p, H p = none → Q (.ref p) (upd H p (.tup xs)) := by
  intro p hp
  have ex := ext_new (o := .tup xs) s hp
  exact h α _ (.ref p) ex (s.new hp) (.tup (.inl ⟨.inl upd_same, s.notLive hp⟩) (r.ext ex))
theorem new_dic {W : XW} (s : StOk G α μ H) {xs : List (Key × V)} {ds : List (DK × D)} {m : Bool} {Q : VK} (r : RepK G α μ H xs ds) (h : Fin1 G W α μ H (mkD m ds μ) Q) : ∀ p, H p = none → Q (.ref p) (upd H p (.dK xs)) := by
  intro p hp
  cases m with
  | false =>
    have ex := ext_new (o := .dK xs) s hp
    exact h α _ (.ref p) ex (s.new hp) (.dic ⟨.inl upd_same, s.notLive hp⟩ (r.ext ex))
  | true =>
    have ex := ext_cell (o := .dK xs) (c := .dic ds) s hp
    exact h (α.push p) _ (.ref p) ex (s.push hp ⟨xs, upd_same, r.ext ex⟩) (.ref (by rw [← s.len]; simp))
end
theorem lim_le {k : Nat} (h : k ≤ lim) : k ≤ sizeLine := by rw [sizeLine_eq]; unfold lim at h; omega
theorem RepL.len {G : Tx} {α : Al} {μ : Mu} {H : Hp} : ∀ {xs : List V} {ds : List D}, RepL G α μ H xs ds → xs.length = ds.length
  | _, _, .nil => rfl
  | _, _, .cons _ t => by rw [List.length_cons, List.length_cons, t.len]
theorem RepL.app {G : Tx} {α : Al} {μ : Mu} {H : Hp} {ys : List V} {es : List D} (q : RepL G α μ H ys es) : ∀ {xs : List V} {ds : List D}, RepL G α μ H xs ds → RepL G α μ H (xs ++ ys) (ds ++ es)
  | _, _, .nil => q
  | _, _, .cons h t => .cons h (RepL.app q t)
theorem RepL.get {G : Tx} {α : Al} {μ : Mu} {H : Hp} : ∀ {xs : List V} {ds : List D}, RepL G α μ H xs ds → ∀ {i : Nat} {d : D}, ds[i]? = some d → ∃ v, xs[i]? = some v ∧ Rep G α μ H v d
  | _, _, .cons h t, 0, d, e => by
    have e' : some _ = some d := e
    cases e'
    exact ⟨_, rfl, h⟩
  | _, _, .cons h t, i + 1, d, e => t.get (i := i) (by simpa using e)
theorem RepL.take {G : Tx} {α : Al} {μ : Mu} {H : Hp} : ∀ {xs : List V} {ds : List D} (k : Nat), RepL G α μ H xs ds → RepL G α μ H (xs.take k) (ds.take k)
  | _, _, 0, _ => .nil
  | _, _, k + 1, .nil => .nil
  | _, _, k + 1, .cons h t => .cons h (t.take k)
theorem RepL.drop {G : Tx} {α : Al} {μ : Mu} {H : Hp} : ∀ {xs : List V} {ds : List D} (k : Nat), RepL G α μ H xs ds → RepL G α μ H (xs.drop k) (ds.drop k)
  | _, _, 0, r => r
  | _, _, k + 1, .nil => .nil
  | _, _, k + 1, .cons h t => t.drop k
theorem RepL.set {G : Tx} {α : Al} {μ : Mu} {H : Hp} {v : V} {d : D} (h0 : Rep G α μ H v d) : ∀ {xs : List V} {ds : List D} (k : Nat), RepL G α μ H xs ds → RepL G α μ H (xs.set k v) (ds.set k d)
  | _, _, _, .nil => .nil
  | _, _, 0, .cons h t => .cons h0 t
  | _, _, k + 1, .cons h t => .cons h (t.set h0 k)
theorem RepK.len {G : Tx} {α : Al} {μ : Mu} {H : Hp} : ∀ {xs : List (Key × V)} {ds : List (DK × D)}, RepK G α μ H xs ds → xs.length = ds.length
  | _, _, .nil => rfl
  | _, _, .cons _ t => by rw [List.length_cons, List.length_cons, t.len]
theorem RepK.val {G : Tx} {α : Al} {μ : Mu} {H : Hp} (k : DK) : ∀ {xs : List (Key × V)} {ds : List (DK × D)}, RepK G α μ H xs ds → (∀ d, dget ds k = some d → ∃ v, valV xs (keyK k) = some v ∧ Rep G α μ H v d) ∧ (dget ds k = none → valV xs (keyK k) = none)
  | _, _, .nil => ⟨fun d h => (by cases h), fun _ => rfl⟩
  | _, _, @RepK.cons _ _ _ _ k' v d vs ds h t => by
    by_cases e : k' = k
    · subst e
      have e1 : dget ((k', d) :: ds) k' = some d := by simp [dget]
      have e2 : valV ((keyK k', v) :: vs) (keyK k') = some v := valV_pos rfl
      refine ⟨fun d' q => ?_, fun q => ?_⟩
      · rw [e1] at q
        cases q
        exact ⟨v, e2, h⟩
      · rw [e1] at q
        cases q
    · have e1 : dget ((k', d) :: ds) k = dget ds k := by simp [dget, e]
      have e2 : valV ((keyK k', v) :: vs) (keyK k) = valV vs (keyK k) := valV_neg fun z => e (keyK_inj z)
      rw [e1, e2]
      exact t.val k
theorem key_of {d : D} {k : DK} {G : Tx} {α : Al} {μ : Mu} {H : Hp} {v : V} (r : Rep G α μ H v d) (e : keyOf? d = some k) : v = kV (keyK k) := by
  cases r with
  | int i => cases e; rfl
  | str s => cases e; rfl
  | _ => cases e
end Z

end
section
set_option maxHeartbeats 4000000
set_option autoImplicit false
/-! Z4: the operators by values. -/
namespace Z
open PySem PySem.Spec PyProof.Rows L2
def bo : Bo → Operator
  | .add => .Add | .sub => .Sub | .mul => .Mult | .fdiv => .FloorDiv | .mod => .Mod | .pow => .Pow
def co : Co → CmpOp
  | .eq => .Eq | .ne => .NotEq | .lt => .Lt | .le => .LtE | .gt => .Gt | .ge => .GtE | .isin => .In | .notin => .NotIn
section
variable {G : Tx} {n : Nat} {A : Ag} {X : Cx} {α : Al} {μ : Mu} {H : Hp} {W : XW}
theorem toStr_app (s t : List Nat) : toStr s ++ toStr t = toStr (s ++ t) := by
  show (⟨s.toArray ++ t.toArray⟩ : Str) = ⟨(s ++ t).toArray⟩
  simp
theorem toStr_len (s : List Nat) : (toStr s).length = s.length := by
  show s.toArray.size = s.length
  simp
theorem look_tup_eq {d : D} {l : List D} (e : look μ d = .tup l) : d = .tup l := by
  cases d with
  | ref k =>
    unfold look at e
    cases q : μ[k]? with
    | none => simp only [q] at e; cases e
    | some o => simp only [q] at e; cases o <;> cases e
  | _ => exact e
theorem opAddSeq_ok (s : StOk G α μ H) (c : CtxOk G n A X) {m : Bool} {x y : D} {vx vy : V} (rx : Rep G α μ H vx x) (ry : Rep G α μ H vy y) {Q : VK}
    (h : Fin1 G W α μ H (match look μ x, look μ y with
      | .lst l, .lst r => if l.length + r.length ≤ lim then mkL m (l ++ r) μ else .err
      | .tup l, .tup r => if l.length + r.length ≤ lim then .ok (.tup (l ++ r)) μ else .err
      | _, _ => .err) Q) : SO X (binaryOp .Add) vx vy H Q := by
  cases ex : look μ x with
  | lst l =>
    rw [ex] at h
    cases ey : look μ y with
    | lst r =>
      rw [ey] at h
      obtain ⟨p, xs, rfl, hp, t1⟩ := look_lst s rx ex
      obtain ⟨q, ys, rfl, hq, t2⟩ := look_lst s ry ey
      dsimp only at h
      split at h
      · rename_i hl
        refine SO.of op_cat ⟨p, q, xs, ys, rfl, rfl, hp, hq, lim_le (by rw [t1.len, t2.len]; exact hl), ?_⟩
        exact new_lst s (RepL.app t2 t1) h
      · exact h.elim
    | _ => rw [ey] at h; exact (show False from h).elim
  | tup l =>
    rw [ex] at h
    cases ey : look μ y with
    | tup r =>
      rw [ey] at h
      obtain ⟨p, xs, rfl, hp, t1⟩ := look_tup c s rx ex
      obtain ⟨q, ys, rfl, hq, t2⟩ := look_tup c s ry ey
      dsimp only at h
      split at h
      · rename_i hl
        have ex' := look_tup_eq ex
        have ey' := look_tup_eq ey
        refine SO.of op_catA ⟨p, q, xs, ys, rfl, rfl, hp, hq, lim_le (by rw [t1.len, t2.len]; exact hl), fun e => ?_, fun _ e => ?_, fun _ _ => new_tup s (RepL.app t2 t1) h⟩
        · subst e
          cases t1
          rw [List.nil_append] at h
          exact h.now s (by rw [← ey']; exact ry)
        · subst e
          cases t2
          rw [List.append_nil] at h
          exact h.now s (by rw [← ex']; exact rx)
      · exact h.elim
    | _ => rw [ey] at h; exact (show False from h).elim
  | _ => rw [ex] at h; exact (show False from h).elim
theorem opMulSeq_ok (s : StOk G α μ H) {m : Bool} {x : D} {k : Int} {vx : V} (rx : Rep G α μ H vx x) {Q : VK}
    (h : Fin1 G W α μ H (match look μ x with
      | .lst l => if 0 ≤ k ∧ k ≤ 1000 ∧ l.length * k.toNat ≤ lim then mkL m (List.replicate k.toNat l).flatten μ else .err
      | _ => .err) Q) : SO X (binaryOp .Mult) vx (.int k) H Q := by
  cases ex : look μ x with
  | lst l =>
    rw [ex] at h
    dsimp only at h
    obtain ⟨p, xs, rfl, hp, t1⟩ := look_lst s rx ex
    split at h
    · rename_i hl
      obtain ⟨h0, h1, h2⟩ := hl
      refine SO.of op_rep ⟨p, k, xs, rfl, rfl, hp, by omega, by omega, lim_le (by rw [t1.len]; exact h2), ?_⟩
      have t2 : ∀ j : Nat, RepL G α μ H (List.replicate j xs).flatten (List.replicate j l).flatten := fun j => by
        induction j with
        | zero => exact .nil
        | succ j ih =>
          rw [List.replicate_succ, List.replicate_succ, List.flatten_cons, List.flatten_cons]
          exact RepL.app ih t1
      exact new_lst s (t2 _) h
    · exact h.elim
  | _ => rw [ex] at h; exact (show False from h).elim
theorem opB_ok (s : StOk G α μ H) (c : CtxOk G n A X) {o : Bo} {m : Bool} {x y : D} {vx vy : V} (rx : Rep G α μ H vx x) (ry : Rep G α μ H vy y) {Q : VK} (h : Fin1 G W α μ H (opB o m x y μ) Q) : SO X (binaryOp (bo o)) vx vy H Q := by
  unfold opB at h
  split at h
  · cases rx; cases ry
    exact SO.of op_add ⟨_, _, rfl, rfl, h.now s (.int _)⟩
  · cases rx; cases ry
    exact SO.of op_sub ⟨_, _, rfl, rfl, h.now s (.int _)⟩
  · cases rx; cases ry
    split at h
    · rename_i hc
      exact SO.of op_mul ⟨_, _, rfl, rfl, .inr hc, h.now s (.int _)⟩
    · exact h.elim
  · cases rx; cases ry
    split at h
    · rename_i hc
      exact SO.of op_fdiv ⟨_, _, rfl, rfl, hc, h.now s (.int _)⟩
    · exact h.elim
  · cases rx; cases ry
    split at h
    · rename_i hc
      exact SO.of op_mod ⟨_, _, rfl, rfl, hc, h.now s (.int _)⟩
    · exact h.elim
  · cases rx; cases ry
    split at h
    · rename_i hc
      exact SO.of op_pow ⟨_, _, rfl, rfl, hc, h.now s (.int _)⟩
    · exact h.elim
  · cases rx; cases ry
    split at h
    · rename_i hc
      refine SO.of op_add_str ⟨_, _, rfl, rfl, lim_le (by rw [toStr_len, toStr_len]; exact hc), ?_⟩
      rw [toStr_app]
      exact h.now s (.str _)
    · exact h.elim
  · exact opAddSeq_ok s c rx ry h
  · cases ry
    exact opMulSeq_ok s rx h
  · exact h.elim
/-! ### equality -/
theorem strOf (s : List Nat) : (⟨s.toArray⟩ : Str) = toStr s := rfl
theorem dp_all {k : Nat} (ih : ∀ {v : V} {d : D} {y : PyData}, Rep G α μ H v d → toPy μ k d = some y → Dp X.K H v y) : ∀ {xs : List V} {l : List D} {ys : List PyData}, RepL G α μ H xs l → optAll (toPy μ k) l = some ys → DpAll X.K H xs ys
  | _, _, _, .nil, e => by cases e; exact .nil
  | _, _, _, @RepL.cons _ _ _ _ v d vs ds h t, e => by
    unfold optAll at e
    cases e1 : toPy μ k d with
    | none => rw [e1] at e; cases e
    | some x =>
      rw [e1] at e
      cases e2 : optAll (toPy μ k) ds with
      | none => rw [e2] at e; cases e
      | some y => rw [e2] at e; cases e; exact .cons (ih h e1) (dp_all ih t e2)
theorem toPy_dp (c : CtxOk G n A X) (s : StOk G α μ H) : ∀ (k : Nat) {v : V} {d : D} {y : PyData}, Rep G α μ H v d → toPy μ k d = some y → Dp X.K H v y := by
  intro k
  induction k with
  | zero =>
    intro v d y r e
    cases r with
    | non => simp only [toPy] at e; cases e; exact .non
    | bl b => simp only [toPy] at e; cases e; exact .bl b
    | int i => simp only [toPy] at e; cases e; exact .int i
    | str z => simp only [toPy] at e; cases e; exact .str _
    | _ => simp only [toPy] at e; cases e
  | succ k ih =>
    intro v d y r e
    cases r with
    | non => simp only [toPy] at e; cases e; exact .non
    | bl b => simp only [toPy] at e; cases e; exact .bl b
    | int i => simp only [toPy] at e; cases e; exact .int i
    | str z => simp only [toPy] at e; cases e; exact .str _
    | tup h t =>
      simp only [toPy] at e
      obtain ⟨ys, e1, rfl⟩ := Option.map_eq_some_iff.mp e
      exact .tup (c.tup h) (dp_all ih t e1)
    | lst h hl t =>
      simp only [toPy] at e
      obtain ⟨ys, e1, rfl⟩ := Option.map_eq_some_iff.mp e
      exact .lst (SqL.of h) (dp_all ih t e1)
    | ref h =>
      rename_i p j
      simp only [toPy] at e
      cases q : μ[j]? with
      | none => rw [q] at e; cases e
      | some o =>
        rw [q] at e
        cases o with
        | lst l =>
          dsimp only at e
          obtain ⟨ys, e1, rfl⟩ := Option.map_eq_some_iff.mp e
          obtain ⟨xs, h1, h2⟩ := s.cell j p _ q h
          exact .lst (SqL.of h1) (dp_all ih h2 e1)
        | _ => cases e
    | _ => simp only [toPy] at e; cases e
theorem room_u (c : CtxOk G n A X) (k : Nat) (hk : k ≤ 100) : X.A.units + k < cLine := by
  have h2 := c.room.un
  omega
theorem deq_ok (s : StOk G α μ H) (c : CtxOk G n A X) {x y : D} {vx vy : V} (rx : Rep G α μ H vx x) (ry : Rep G α μ H vy y) {b : Bool} (h : deq μ x y = some b) {Q : VK} :
    (Q (.bl b) H → SO X (compareOp .Eq) vx vy H Q) ∧ (Q (.bl (!b)) H → SO X (compareOp .NotEq) vx vy H Q) := by
  unfold deq at h
  split at h
  · rename_i a e e1 e2
    split at h
    · rename_i hs
      obtain ⟨h1, h2⟩ := Bool.and_eq_true_iff.mp hs
      cases h
      exact ⟨fun q => SO.of (op_eqD (room_u c 64 (by omega))) ⟨a, e, toPy_dp c s 8 rx e1, toPy_dp c s 8 ry e2, h1, h2, q⟩, fun q => SO.of (op_neD (room_u c 64 (by omega))) ⟨a, e, toPy_dp c s 8 rx e1, toPy_dp c s 8 ry e2, h1, h2, q⟩⟩
    · cases h
  · cases h
theorem din_py {x : D} {l : List D} {b : Bool} (h : din μ x l = some b) : ∃ a ys, toPy μ 8 x = some a ∧ optAll (toPy μ 8) l = some ys ∧ SeqAt.shaped a = true ∧ SeqAt.shaped (.list ys) = true ∧ b = ys.any fun y => PyData.eqv y a := by
  unfold din at h
  split at h
  · rename_i a ys e1 e2
    split at h
    · rename_i hs
      obtain ⟨h1, h2⟩ := Bool.and_eq_true_iff.mp hs
      cases h
      exact ⟨a, ys, e1, e2, h1, h2, rfl⟩
    · cases h
  · cases h
theorem in_lst (s : StOk G α μ H) (c : CtxOk G n A X) {x : D} {l : List D} {vx : V} {p : Addr} {xs : List V} (rx : Rep G α μ H vx x) (hp : SqL X.K H p xs) (t : RepL G α μ H xs l) {b : Bool} (h : din μ x l = some b) {Q : VK} :
    (Q (.bl b) H → SO X (compareOp .In) vx (.ref p) H Q) ∧ (Q (.bl (!b)) H → SO X (compareOp .NotIn) vx (.ref p) H Q) := by
  obtain ⟨a, ys, e1, e2, h1, h2, rfl⟩ := din_py h
  have d1 := toPy_dp c s 8 rx e1
  have d2 : Dp X.K H (.ref p) (.list ys) := .lst hp (dp_all (toPy_dp c s 8) t e2)
  exact ⟨fun q => SO.of (op_inD (room_u c 65 (by omega))) ⟨a, ys, d1, d2, h1, h2, q⟩, fun q => SO.of (op_notInD (room_u c 65 (by omega))) ⟨a, ys, d1, d2, h1, h2, q⟩⟩
theorem in_tup (s : StOk G α μ H) (c : CtxOk G n A X) {x : D} {l : List D} {vx : V} {p : Addr} {xs : List V} (rx : Rep G α μ H vx x) (hp : SqT X.K H p xs) (t : RepL G α μ H xs l) {b : Bool} (h : din μ x l = some b) {Q : VK} :
    (Q (.bl b) H → SO X (compareOp .In) vx (.ref p) H Q) ∧ (Q (.bl (!b)) H → SO X (compareOp .NotIn) vx (.ref p) H Q) := by
  obtain ⟨a, ys, e1, e2, h1, h2, rfl⟩ := din_py h
  have d1 := toPy_dp c s 8 rx e1
  have d2 : Dp X.K H (.ref p) (.tuple ys) := .tup hp (dp_all (toPy_dp c s 8) t e2)
  refine ⟨fun q pins s' σ v u I rx' ry' => ?_, fun q pins s' σ v u I rx' ry' => ?_⟩
  · obtain ⟨as, r1⟩ := Dp.reads I a vx v d1 rx'
    obtain ⟨bs, r2⟩ := Dp.reads I (.tuple ys) (.ref p) u d2 ry'
    exact SeqAt.in_tuple_reads r2 r1 (SeqAt.canLay_of_shaped h2) (SeqAt.canLay_of_shaped h1) (room_in_shaped h1 (room_u c 65 (by omega))) ⟨.bl _, H, I, rfl, q⟩
  · obtain ⟨as, r1⟩ := Dp.reads I a vx v d1 rx'
    obtain ⟨bs, r2⟩ := Dp.reads I (.tuple ys) (.ref p) u d2 ry'
    exact SeqAt.notIn_tuple_reads r2 r1 (SeqAt.canLay_of_shaped h2) (SeqAt.canLay_of_shaped h1) (room_in_shaped h1 (room_u c 65 (by omega))) ⟨.bl _, H, I, rfl, q⟩
theorem dget_rel {l : List (DK × D)} {kvs : List (Key × V)} (t : RepK G α μ H kvs l) (k : DK) : (valV kvs (keyK k)).isSome = (dget l k).isSome := by
  have h := t.val k
  cases e : dget l k with
  | none => rw [h.2 e]; rfl
  | some d => obtain ⟨v, e2, _⟩ := h.1 d e; rw [e2]; rfl
theorem in_dic (c : CtxOk G n A X) {x : D} {k : DK} {l : List (DK × D)} {vx : V} {p : Addr} {kvs : List (Key × V)} (rx : Rep G α μ H vx x) (ek : keyOf? x = some k) (hp : Rd H p (.dK kvs)) (t : RepK G α μ H kvs l) {Q : VK} :
    (Q (.bl (dget l k).isSome) H → SO X (compareOp .In) vx (.ref p) H Q) ∧ (Q (.bl (!(dget l k).isSome)) H → SO X (compareOp .NotIn) vx (.ref p) H Q) := by
  have hv := key_of rx ek
  have g : DGet H p vx (valV kvs (keyK k)) := .inl ⟨kvs, keyK k, hp, hv, rfl⟩
  have e := dget_rel t k
  refine ⟨fun q pins s' σ v u I rx' ry' => ?_, fun q pins s' σ v u I rx' ry' => ?_⟩
  · cases ry'
    exact d_in (room_u c 1 (by omega)) I g rx' fun s2 I2 => ⟨.bl _, H, I2, rfl, by rw [e]; exact q⟩
  · cases ry'
    exact d_notIn (room_u c 1 (by omega)) I g rx' fun s2 I2 => ⟨.bl _, H, I2, rfl, by rw [e]; exact q⟩
theorem look_kd {v : V} {d : D} {l : List (List Nat × D)} (r : Rep G α μ H v d) (e : look μ d = .kd l) : ∃ p, v = .ref p ∧ (∃ es n, KDict G.K G.w p es n) ∧ KKeys G.K p l ∧ ∀ z d, l.lookup z = some d → ∃ u v, PySem.W.nsIn G.K p (toStr z) = some (some u) ∧ RelV v u ∧ RepC G v d := by
  cases r with
  | ref hp =>
    rename_i p k
    unfold look at e
    cases q : μ[k]? with
    | none => simp only [q] at e; cases e
    | some o =>
      simp only [q] at e
      cases o <;> cases e
  | kd h hk r => cases e; exact ⟨_, rfl, h, hk, r⟩
  | _ => cases e
theorem in_kd (c : CtxOk G n A X) {z : List Nat} {l : List (List Nat × D)} {p : Addr} (h : ∃ es n, KDict G.K G.w p es n) (hk : KKeys G.K p l) (r : ∀ z d, l.lookup z = some d → ∃ u v, PySem.W.nsIn G.K p (toStr z) = some (some u) ∧ RelV v u ∧ RepC G v d) {Q : VK} :
    (Q (.bl (l.lookup z).isSome) H → SO X (compareOp .In) (.str (toStr z)) (.ref p) H Q) ∧ (Q (.bl (!(l.lookup z).isSome)) H → SO X (compareOp .NotIn) (.str (toStr z)) (.ref p) H Q) := by
  obtain ⟨es, m, hd⟩ := h
  have hd' : KDict X.K X.w p es m := by rw [c.K, c.w]; exact hd
  have e : ∃ r : Option Value, PySem.W.nsIn X.K p (toStr z) = some r ∧ r.isSome = (l.lookup z).isSome := by
    rw [c.K]
    cases q : l.lookup z with
    | none => exact ⟨none, hk.2 z q, rfl⟩
    | some d => obtain ⟨u, v, e1, _⟩ := r z d q; exact ⟨some u, e1, rfl⟩
  obtain ⟨r', e1, e2⟩ := e
  exact ⟨fun q => SO.of (op_in_kd hd') ⟨toStr z, r', rfl, rfl, e1, by rw [e2]; exact q⟩, fun q => SO.of (op_notIn_kd hd') ⟨toStr z, r', rfl, rfl, e1, by rw [e2]; exact q⟩⟩
theorem opIn_ok (s : StOk G α μ H) (c : CtxOk G n A X) {neg : Bool} {x y : D} {vx vy : V} (rx : Rep G α μ H vx x) (ry : Rep G α μ H vy y) {Q : VK} (h : Fin1 G W α μ H (opC.opIn neg x y μ) Q) :
    SO X (compareOp (if neg then .NotIn else .In)) vx vy H Q := by
  unfold opC.opIn at h
  split at h
  · rename_i l e
    obtain ⟨p, xs, rfl, hp, t⟩ := look_lst s ry e
    split at h
    · rename_i b eb
      have q := h.now s (.bl _)
      have k := in_lst s c rx (SqL.of hp) t eb (Q := Q)
      cases neg with
      | false => exact k.1 q
      | true => exact k.2 q
    · exact h.elim
  · rename_i l e
    obtain ⟨p, xs, rfl, hp, t⟩ := look_tup c s ry e
    split at h
    · rename_i b eb
      have q := h.now s (.bl _)
      have k := in_tup s c rx hp t eb (Q := Q)
      cases neg with
      | false => exact k.1 q
      | true => exact k.2 q
    · exact h.elim
  · rename_i l e
    obtain ⟨p, kvs, rfl, hp, t⟩ := look_dic s ry e
    split at h
    · rename_i k ek
      have q := h.now s (.bl _)
      have kk := in_dic c rx ek hp t (Q := Q)
      cases neg with
      | false => exact kk.1 q
      | true => exact kk.2 q
    · exact h.elim
  · rename_i l e
    obtain ⟨p, rfl, h1, h2, h3⟩ := look_kd ry e
    split at h
    · rename_i z
      cases rx
      have q := h.now s (.bl _)
      have kk := in_kd c h1 h2 h3 (z := z) (H := H) (Q := Q)
      cases neg with
      | false => exact kk.1 q
      | true => exact kk.2 q
    · exact h.elim
  · rename_i t e
    obtain ⟨rfl, rfl⟩ := look_str ry e
    split at h
    · rename_i ch
      cases rx
      have q := h.now s (.bl _)
      have e1 : decide (ch ∈ (toStr t).cps.toList) = decide (ch ∈ t) := by unfold toStr; simp
      cases neg with
      | false => exact SO.of op_in_sign ⟨ch, toStr t, rfl, rfl, by rw [e1]; exact q⟩
      | true => exact SO.of op_notIn_sign ⟨ch, toStr t, rfl, rfl, by rw [e1]; exact q⟩
    · exact h.elim
  · exact h.elim
theorem dec_toStr (a b : List Nat) : decide (V.str (toStr a) = V.str (toStr b)) = decide (a = b) := by
  by_cases e : a = b
  · subst e; simp
  · rw [decide_eq_false e, decide_eq_false]
    intro q
    exact e (toStr_inj (V.str.inj q))
theorem dec_vint (a b : Int) : decide (V.int a = V.int b) = decide (a = b) := by
  by_cases e : a = b
  · subst e; simp
  · rw [decide_eq_false e, decide_eq_false]
    intro q
    exact e (V.int.inj q)
theorem keq_hits (s : StOk G α μ H) (c : CtxOk G n A X) {pins : List (Addr × Obj)} {σ : L2.St} {sh : Shared} (I : Inv X pins σ H sh) {kb : List (Key × V)} {r : List (DK × D)} (tb : RepK G α μ H kb r) {vb : List (Key × Value)} (rb : KV kb vb) :
    ∀ {l : List (DK × D)} {ka : List (Key × V)} {va : List (Key × Value)} {b : Bool}, RepK G α μ H ka l → KV ka va → dicEq μ r l = some b → PySem.W.KeqHitsP X.prog X.w X.A.in1 sh vb va b
  | _, _, _, _, .nil, ra, e => by
    cases ra
    cases e
    exact .nil
  | _, _, _, b, @RepK.cons _ _ _ _ k v d ka l h t, ra, e => by
    cases ra with
    | cons q ra =>
      rename_i y ys
      obtain ⟨yk, yv⟩ := y
      obtain ⟨q1, q2⟩ := q
      have q1' : keyK k = yk := q1
      subst q1'
      have hv := tb.val k
      have rv := rb.val (keyK k)
      unfold dicEq at e
      dsimp only at e
      cases ed : dget r k with
      | none =>
        rw [ed] at e
        cases e
        rw [hv.2 ed] at rv
        exact .miss (rv.none_of)
      | some y =>
        rw [ed] at e
        dsimp only at e
        cases e1 : deq μ d y with
        | none => rw [e1] at e; cases e
        | some eb =>
          cases e2 : dicEq μ r l with
          | none => rw [e1, e2] at e; cases e
          | some b' =>
            rw [e1, e2] at e
            cases e
            obtain ⟨w, ew, rw'⟩ := hv.1 y ed
            rw [ew] at rv
            obtain ⟨u, eu, ru⟩ := rv.some_of
            refine .hit eu ?_ (keq_hits s c I tb rb t ra e2)
            unfold deq at e1
            split at e1
            · rename_i a2 e3 h1 h2
              split at e1
              · rename_i hs
                obtain ⟨k1, k2⟩ := Bool.and_eq_true_iff.mp hs
                cases e1
                obtain ⟨as, r1⟩ := Dp.reads I a2 v yv (toPy_dp c s 8 h h1) q2
                obtain ⟨bs, r2⟩ := Dp.reads I e3 w u (toPy_dp c s 8 rw' h2) ru
                have hu := room_u c 65 (by omega)
                have hd : X.A.in1.units = X.A.units + 1 := rfl
                refine SeqAt.EqAt.eqP (SeqAt.eqAt_reads _ _ _ _ _ _ _ _ r1 r2 (SeqAt.canLay_of_shaped k1) (SeqAt.canLay_of_shaped k2) ?_)
                exact SeqAt.room_of_shaped k1 (by rw [hd]; omega)
              · cases e1
            · cases e1
theorem dicEq_ok (s : StOk G α μ H) (c : CtxOk G n A X) {x y : D} {vx vy : V} (rx : Rep G α μ H vx x) (ry : Rep G α μ H vy y) {Q : VK} {l r : List (DK × D)} (ex : look μ x = .dic l) (ey : look μ y = .dic r)
    (h : Fin1 G W α μ H (if l.length = r.length then (match dicEq μ r l with
          | some b => .ok (.bl b) μ
          | none => .err) else .ok (.bl false) μ) Q) : SO X (compareOp .Eq) vx vy H Q := by
  obtain ⟨p, ka, rfl, hp, ta⟩ := look_dic s rx ex
  obtain ⟨q, kb, rfl, hq, tb⟩ := look_dic s ry ey
  intro pins sh σ u v I r1 r2
  cases r1
  cases r2
  obtain ⟨_, sa, va, kva, da⟩ := dk_rd I.hok hp
  obtain ⟨_, sb, vb, kvb, db⟩ := dk_rd I.hok hq
  have hla : va.length = l.length := by rw [← ta.len]; exact (Paired.length kva).symm
  have hlb : vb.length = r.length := by rw [← tb.len]; exact (Paired.length kvb).symm
  have hu := room_u c 1 (by omega)
  by_cases hl : l.length = r.length
  · rw [if_pos hl] at h
    cases eb : dicEq μ r l with
    | none => rw [eb] at h; exact (show False from h).elim
    | some b =>
      rw [eb] at h
      refine PySem.W.rcP_dicts (knd := mixKind X.prog X.w) (r := b) sa sb da db (by omega) (fun _ => keq_hits s c I tb kvb ta kva eb) _ _ ⟨.bl b, H, I, ?_, h.now s (.bl b)⟩
      show Value.bool _ = Value.bool b
      rw [hla, hlb, hl]
      simp
  · rw [if_neg hl] at h
    refine PySem.W.rcP_dicts (knd := mixKind X.prog X.w) (r := false) sa sb da db (by omega) (fun z => absurd z (by omega)) _ _ ⟨.bl false, H, I, ?_, h.now s (.bl false)⟩
    show Value.bool _ = Value.bool false
    simp
theorem opC_ok (s : StOk G α μ H) (c : CtxOk G n A X) {o : Co} {x y : D} {vx vy : V} (rx : Rep G α μ H vx x) (ry : Rep G α μ H vy y) {Q : VK} (h : Fin1 G W α μ H (opC o x y μ) Q) : SO X (compareOp (co o)) vx vy H Q := by
  unfold opC at h
  cases o with
  | eq =>
    dsimp only at h
    split at h
    · cases rx; cases ry
      refine SO.of op_eq ⟨rfl, ?_⟩
      rw [dec_toStr]
      exact h.now s (.bl _)
    · cases rx; cases ry
      refine SO.of op_eq ⟨rfl, ?_⟩
      rw [dec_vint]
      exact h.now s (.bl _)
    · split at h
      · rename_i b eb
        exact (deq_ok s c rx ry eb).1 (h.now s (.bl _))
      · split at h
        · rename_i l r ex ey
          exact dicEq_ok s c rx ry ex ey h
        · exact h.elim
  | ne =>
    dsimp only at h
    split at h
    · cases rx; cases ry
      refine SO.of op_ne ⟨rfl, ?_⟩
      rw [dec_toStr]
      exact h.now s (.bl _)
    · cases rx; cases ry
      refine SO.of op_ne ⟨rfl, ?_⟩
      rw [dec_vint]
      exact h.now s (.bl _)
    · split at h
      · rename_i b eb
        exact (deq_ok s c rx ry eb).2 (h.now s (.bl _))
      · exact h.elim
  | lt =>
    dsimp only at h
    split at h
    · cases rx; cases ry
      exact SO.of op_lt ⟨_, _, rfl, rfl, h.now s (.bl _)⟩
    · exact h.elim
  | le =>
    dsimp only at h
    split at h
    · cases rx; cases ry
      exact SO.of op_le ⟨_, _, rfl, rfl, h.now s (.bl _)⟩
    · exact h.elim
  | gt =>
    dsimp only at h
    split at h
    · cases rx; cases ry
      exact SO.of op_gt ⟨_, _, rfl, rfl, h.now s (.bl _)⟩
    · exact h.elim
  | ge =>
    dsimp only at h
    split at h
    · cases rx; cases ry
      exact SO.of op_ge ⟨_, _, rfl, rfl, h.now s (.bl _)⟩
    · exact h.elim
  | isin => exact opIn_ok s c (neg := false) rx ry h
  | notin => exact opIn_ok s c (neg := true) rx ry h
/-! ### subscripts -/
def SI (X : Cx) (x y : V) (H : Hp) (Q : VK) : Prop := ∀ value slice pins s σ v u, Inv X pins σ H s → RelV x v → RelV y u → subscripted slice false v u = operate [v, u] (getItem v u) →
  wpAny (model X.prog X.w) X.A (subscriptTail value slice v u) (EP X pins σ Q) X.xe s
theorem SI.of {r : R2} (h : IxR X r) {x y : V} {Q : VK} (hr : r x y H Q) : SI X x y H Q := fun value slice pins s σ v u I rx ry hs => h value slice pins s σ H x y v u Q I rx ry hr hs
theorem atI_rep {xs : List V} {l : List D} (t : RepL G α μ H xs l) {k : Int} {d : D} (e : atI l k = some d) : ∃ v, atI xs k = some v ∧ Rep G α μ H v d := by
  unfold atI at e ⊢
  rw [t.len]
  cases q : ixN l.length k with
  | none => rw [q] at e; cases e
  | some j =>
    rw [q] at e
    exact t.get (show l[j]? = some d from e)
theorem RepC.rep {v : V} {d : D} (h : RepC G v d) : Rep G α μ H v d := by
  cases h with
  | non => exact .non
  | bl b => exact .bl b
  | int i => exact .int i
  | str z => exact .str z
  | tups l h =>
    refine .tup (.inr h) ?_
    clear h
    induction l with
    | nil => exact .nil
    | cons z l ih => exact .cons (.str z) ih
theorem opI_ok (s : StOk G α μ H) (c : CtxOk G n A X) {x y : D} {vx vy : V} (rx : Rep G α μ H vx x) (ry : Rep G α μ H vy y) {Q : VK} (h : Fin1 G W α μ H (opI x y μ) Q) : SI X vx vy H Q := by
  unfold opI at h
  split at h
  · rename_i l k e
    obtain ⟨p, xs, rfl, hp, t⟩ := look_lst s rx e
    cases ry
    split at h
    · rename_i d ed
      obtain ⟨v, ev, rv⟩ := atI_rep t ed
      exact SI.of ix_list ⟨p, xs, _, v, rfl, rfl, SqL.of hp, ev, h.now s rv⟩
    · exact h.elim
  · rename_i l k e
    obtain ⟨p, xs, rfl, hp, t⟩ := look_tup c s rx e
    cases ry
    split at h
    · rename_i d ed
      obtain ⟨v, ev, rv⟩ := atI_rep t ed
      exact SI.of ix_tup ⟨p, xs, _, v, rfl, rfl, hp, ev, h.now s rv⟩
    · exact h.elim
  · rename_i z k e
    obtain ⟨rfl, rfl⟩ := look_str rx e
    cases ry
    split at h
    · rename_i ch ec
      split at h
      · rename_i hl
        refine SI.of ix_str ⟨toStr z, _, ch, rfl, rfl, lim_le (by rw [toStr_len]; exact hl), ?_, h.now s (.str [ch])⟩
        rw [show (toStr z).cps.toList = z from by unfold toStr; simp]
        exact ec
      · exact h.elim
    · exact h.elim
  · rename_i l z e
    obtain ⟨p, rfl, ⟨es, m, hd⟩, h2, h3⟩ := look_kd rx e
    cases ry
    split at h
    · rename_i d ed
      obtain ⟨u, v, e1, r1, c1⟩ := h3 _ d ed
      refine SI.of ix_kdict ⟨p, toStr z, v, rfl, rfl, ⟨es, m, u, ?_, ?_, ?_, r1⟩, h.now s c1.rep⟩
      · rw [c.K]; exact hd.at_
      · rw [c.w]; exact hd.lit
      · rw [c.K]; exact e1
    · exact h.elim
  · rename_i l k hk e
    obtain ⟨p, kvs, rfl, hp, t⟩ := look_dic s rx e
    split at h
    · rename_i k' ek
      split at h
      · rename_i d ed
        obtain ⟨v, ev, rv⟩ := (t.val k').1 d ed
        have hv := key_of ry ek
        have g : DGet H p vy (some v) := .inl ⟨kvs, keyK k', hp, hv, ev.symm⟩
        intro value slice pins s' σ vv uu I rx' ry' hs
        cases rx'
        exact tail_any (dict_typeIs I g) PySem.F.slot_dict_getitem.lookup (d_getItem (room_u c 1 (by omega)) I g ry' fun w' s2 I2 r2 => ⟨v, H, I2, r2, h.now s rv⟩) hs
      · exact h.elim
    · exact h.elim
  · exact h.elim
/-! ### slices -/
theorem opSl_ok (s : StOk G α μ H) (c : CtxOk G n A X) {m : Bool} {x : D} {vx : V} {lo hi : Option Int} (rx : Rep G α μ H vx x) {Q : VK} (h : Fin1 G W α μ H (opSl m x lo hi μ) Q) :
    ∀ (pins : List (Addr × Obj)) (s : Shared) (σ : L2.St) (v vl vu : Value) (sl : Addr), Inv X pins σ H s → RelV vx v → s.heap.IsSliceOf sl vl vu .none → IsPart vl lo → IsPart vu hi →
      ∃ T id, typeLookup (.type T) "__getitem__" = pure (some (.builtin id)) ∧ s.TypeIs v T ∧ wpAny (model X.prog X.w) X.A (getItem v (.ref sl)) (EP X pins σ Q) X.xe s := by
  intro pins s' σ v vl vu sl I rx' hs pl pu
  have cutR : ∀ {xs : List V} {l : List D}, RepL G α μ H xs l → RepL G α μ H (cutV xs lo hi) (cut l lo hi) := fun {xs l} t => by
    unfold cutV cut
    rw [t.len]
    exact (t.drop _).take _
  unfold opSl at h
  split at h
  · rename_i l e
    obtain ⟨p, xs, rfl, hp, t⟩ := look_lst s rx e
    exact sl_list pins s' σ H _ v vl vu lo hi sl Q I rx' hs pl pu ⟨p, xs, rfl, SqL.of hp, new_lst s (cutR t) h⟩
  · rename_i l e
    obtain ⟨p, xs, rfl, hp, t⟩ := look_tup c s rx e
    have e' := look_tup_eq e
    refine sl_tupA pins s' σ H _ v vl vu lo hi sl Q I rx' hs pl pu ⟨p, xs, rfl, hp, fun q => ?_, fun _ => new_tup s (cutR t) h⟩
    have e2 : cut l lo hi = l := by
      unfold cut
      rw [t.len] at q
      rw [q.1, q.2, List.drop_zero, Nat.sub_zero, List.take_length]
    rw [e2, ← e'] at h
    exact h.now s rx
  · rename_i z e
    obtain ⟨rfl, rfl⟩ := look_str rx e
    split at h
    · rename_i hl
      refine sl_str pins s' σ H _ v vl vu lo hi sl Q I rx' hs pl pu ⟨toStr z, rfl, lim_le (by rw [toStr_len]; exact hl), ?_⟩
      have e2 : cutS (toStr z) lo hi = toStr (cut z lo hi) := by
        unfold cutS cut
        rw [toStr_len, show (toStr z).cps.toList = z from by unfold toStr; simp]
        rfl
      rw [e2]
      exact h.now s (.str _)
    · exact h.elim
  · exact h.elim
end
end Z

end
section
set_option maxHeartbeats 4000000
set_option autoImplicit false
/-! Z5: built-in functions and methods by values. -/
namespace Z
open PySem PySem.Spec PyProof.Rows L2
def b1v : B1 → Value
  | .len => .builtin "len" | .int => .type "int" | .str => .type "str" | .list => .type "list" | .tuple => .type "tuple" | .dict => .type "dict"
  | .any => .builtin "any" | .all => .builtin "all" | .sorted => .builtin "sorted" | .max1 => .builtin "max" | _ => .none
theorem optAll_cons {α β : Type} {f : α → Option β} {d : α} {ds : List α} {l : List β} (h : optAll f (d :: ds) = some l) : ∃ x y, f d = some x ∧ optAll f ds = some y ∧ l = x :: y := by
  unfold optAll at h
  cases e1 : f d with
  | none => rw [e1] at h; cases h
  | some x =>
    rw [e1] at h
    dsimp only at h
    cases e2 : optAll f ds with
    | none => rw [e2] at h; cases h
    | some y => rw [e2] at h; cases h; exact ⟨x, y, rfl, rfl, rfl⟩
theorem ins1_perm {α : Type} (le : α → α → Bool) (x : α) : ∀ l : List α, (ins1 le x l).Perm (x :: l)
  | [] => .refl _
  | y :: l => by
    unfold ins1
    split
    · exact .refl _
    · exact (List.Perm.cons y (ins1_perm le x l)).trans (.swap x y l)
theorem isort_perm {α : Type} (le : α → α → Bool) : ∀ l : List α, (isort le l).Perm l
  | [] => .refl _
  | x :: l => (ins1_perm le x _).trans (.cons x (isort_perm le l))
theorem ins1_sorted (x : Int) : ∀ l : List Int, l.Pairwise (· ≤ ·) → (ins1 (fun a b => decide (a ≤ b)) x l).Pairwise (· ≤ ·)
  | [], _ => by simp [ins1]
  | y :: l, h => by
    unfold ins1
    have h1 := List.pairwise_cons.mp h
    split
    · rename_i e
      have e' : x ≤ y := of_decide_eq_true e
      exact List.pairwise_cons.mpr ⟨fun z hz => by
        rcases List.mem_cons.mp hz with rfl | hz
        · exact e'
        · exact Int.le_trans e' (h1.1 z hz), h⟩
    · rename_i e
      have e' : ¬ x ≤ y := fun z => e (decide_eq_true z)
      refine List.pairwise_cons.mpr ⟨fun z hz => ?_, ins1_sorted x l h1.2⟩
      have hz' := (ins1_perm _ x l).mem_iff.mp hz
      rcases List.mem_cons.mp hz' with rfl | hz'
      · omega
      · exact h1.1 z hz'
theorem isort_sorted : ∀ l : List Int, (isort (fun a b => decide (a ≤ b)) l).Pairwise (· ≤ ·)
  | [] => .nil
  | x :: l => ins1_sorted x _ (isort_sorted l)
theorem sorted_same {a b : List Int} (hp : a.Perm b) (ha : a.Pairwise (· ≤ ·)) (hb : b.Pairwise (· ≤ ·)) : a = b :=
  hp.eq_of_pairwise (fun x y _ _ h1 h2 => Int.le_antisymm h1 h2) ha hb
theorem maxI_mem : ∀ (ns : List Int) (m : Int), maxI m ns ∈ m :: ns
  | [], m => List.mem_cons_self ..
  | j :: r, m => by
    have h := maxI_mem r (if j > m then j else m)
    show maxI (if j > m then j else m) r ∈ _
    rcases List.mem_cons.mp h with h | h
    · rw [h]
      split
      · exact List.mem_cons_of_mem _ (List.mem_cons_self ..)
      · exact List.mem_cons_self ..
    · exact List.mem_cons_of_mem _ (List.mem_cons_of_mem _ h)
theorem maxI_ge : ∀ (ns : List Int) (m : Int), ∀ j ∈ m :: ns, j ≤ maxI m ns
  | [], m, j, h => by
    rw [List.mem_singleton.mp h]
    exact Int.le_refl _
  | i :: r, m, j, h => by
    have ih := maxI_ge r (if i > m then i else m)
    show j ≤ maxI (if i > m then i else m) r
    rcases List.mem_cons.mp h with rfl | h
    · refine Int.le_trans ?_ (ih _ (List.mem_cons_self ..))
      split <;> omega
    · rcases List.mem_cons.mp h with rfl | h
      · refine Int.le_trans ?_ (ih _ (List.mem_cons_self ..))
        split <;> omega
      · exact ih _ (List.mem_cons_of_mem _ h)
section
variable {G : Tx} {n : Nat} {A : Ag} {X : Cx} {α : Al} {μ : Mu} {H : Hp} {W : XW}
theorem repInts : ∀ {l : List D} {ns : List Int} {xs : List V}, RepL G α μ H xs l → intsOf l = some ns → xs = ns.map V.int
  | _, _, _, .nil, e => by cases e; rfl
  | _, _, _, @RepL.cons _ _ _ _ v d vs ds h t, e => by
    obtain ⟨x, y, e1, e2, rfl⟩ := optAll_cons e
    cases d with
    | int i =>
      cases e1
      cases h
      rw [repInts t e2]
      rfl
    | _ => cases e1
theorem repBls : ∀ {l : List D} {ns : List Bool} {xs : List V}, RepL G α μ H xs l → blsOf l = some ns → xs = ns.map V.bl
  | _, _, _, .nil, e => by cases e; rfl
  | _, _, _, @RepL.cons _ _ _ _ v d vs ds h t, e => by
    obtain ⟨x, y, e1, e2, rfl⟩ := optAll_cons e
    cases d with
    | bl i =>
      cases e1
      cases h
      rw [repBls t e2]
      rfl
    | _ => cases e1
theorem repStrs : ∀ {l : List D} {ns : List (List Nat)} {xs : List V}, RepL G α μ H xs l → strsOf l = some ns → xs = (ns.map toStr).map V.str
  | _, _, _, .nil, e => by cases e; rfl
  | _, _, _, @RepL.cons _ _ _ _ v d vs ds h t, e => by
    obtain ⟨x, y, e1, e2, rfl⟩ := optAll_cons e
    cases d with
    | str i =>
      cases e1
      cases h
      rw [repStrs t e2]
      rfl
    | _ => cases e1
theorem repOfInts : ∀ ns : List Int, RepL G α μ H (ns.map V.int) (ns.map D.int)
  | [] => .nil
  | i :: l => .cons (.int i) (repOfInts l)
theorem repKeys : ∀ {l : List (DK × D)} {kvs : List (Key × V)}, RepK G α μ H kvs l → RepL G α μ H (kvs.map fun kv => kV kv.1) (l.map fun q => ofKey q.1)
  | _, _, .nil => .nil
  | _, _, @RepK.cons _ _ _ _ k v d vs ds h t => by
    refine .cons ?_ (repKeys t)
    cases k with
    | i j => exact .int j
    | s z => exact .str z
/-- list(d), a dict that may be locked -/
theorem call_list_rd (hc : X.calm = true) {p : Addr} {kvs : List (Key × V)} {Q : VK} (hk : Rd H p (.dK kvs)) (q : ∀ q, H q = none → Q (.ref q) (upd H q (.lst (kvs.map fun kv => kV kv.1)))) : SC X (.type "list") [.ref p] H Q := by
  intro pins s σ us I r
  obtain ⟨u, eu, rx⟩ := vals1 r
  subst eu
  obtain rfl : u = Value.ref p := rx
  obtain ⟨z, lo, vs, rk, hd⟩ := dk_rd I.hok hk
  obtain ⟨ep, hat⟩ := hd.dictAt
  have hl : kvs.length = vs.length := Paired.length rk
  refine PySem.W.kdl_call (PySem.W.kdl_dict (knd := mixKind X.prog X.w) (kvs := vs) (ep := ep) lo) (I.ok.hd hc) hat (by rw [← hl]; exact z) fun h' tk acc' c' hkeep hS hacc => ?_
  have hlen : (kvs.map fun kv => kV kv.1).length = acc'.toList.length := by
    have h1 := hacc.1
    rw [List.length_map, hl]
    simpa using h1.symm
  have hvals : Vals (kvs.map fun kv => kV kv.1) acc'.toList := by
    refine vals_of_at hlen fun j x w h1 h2 => ?_
    obtain ⟨k, y, hky, hi⟩ := hacc.2 j w (by rw [← Array.getElem?_toList]; exact h2)
    have e1 : (kvs.map (·.1))[j]? = some k := by
      rw [KV.keys rk, List.getElem?_map, hky]
      rfl
    have e3 : (kvs.map fun kv => kV kv.1) = (kvs.map (·.1)).map kV := by
      rw [List.map_map]
      rfl
    rw [e3, List.getElem?_map, e1] at h1
    cases h1
    exact relV_key (show keyIs k w = true from hi)
  refine ⟨.ref s.heap.objs.size, upd H s.heap.objs.size (.lst (kvs.map fun kv => kV kv.1)), I.laid hkeep (Nat.le_refl _) ⟨by rw [List.length_map]; exact z, acc'.toList, c', hvals, by simpa using hS⟩, rfl, q _ (I.hok.fresh (Nat.le_refl _))⟩
theorem op1_ok (s : StOk G α μ H) (c : CtxOk G n A X) {k : B1} {m : Bool} {x : D} {vx : V} (rx : Rep G α μ H vx x) {Q : VK} (h : Fin1 G W α μ H (op1 k m x μ) Q) : SC X (b1v k) [vx] H Q := by
  unfold op1 at h
  cases k with
  | len =>
    dsimp only at h
    split at h
    · rename_i l e
      obtain ⟨p, xs, rfl, hp, t⟩ := look_lst s rx e
      exact SC.of call_len_seq ⟨p, xs, rfl, .inl (SqL.of hp), by rw [t.len]; exact h.now s (.int _)⟩
    · rename_i l e
      obtain ⟨p, xs, rfl, hp, t⟩ := look_tup c s rx e
      exact SC.of call_len_seq ⟨p, xs, rfl, .inr hp, by rw [t.len]; exact h.now s (.int _)⟩
    · rename_i l e
      obtain ⟨p, kvs, rfl, hp, t⟩ := look_dic s rx e
      intro pins s' σ us I r
      obtain ⟨u, rfl, ru⟩ := vals1 r
      cases ru
      exact d_len I hp fun tk s2 I2 => ⟨.int _, H, I2, ⟨tk, rfl⟩, by rw [t.len]; exact h.now s (.int _)⟩
    · rename_i z e
      obtain ⟨rfl, rfl⟩ := look_str rx e
      split at h
      · rename_i hl
        exact SC.of call_len_str ⟨toStr z, rfl, lim_le (by rw [toStr_len]; exact hl), by rw [toStr_len]; exact h.now s (.int _)⟩
      · exact h.elim
    · exact h.elim
  | int =>
    dsimp only at h
    split at h
    · cases rx
      exact SC.of call_int1 (.inl ⟨_, rfl, h.now s (.int _)⟩)
    · cases rx
      exact SC.of call_int1 (.inr ⟨_, rfl, h.now s (.int _)⟩)
    · cases rx
      split at h
      · rename_i i ei
        split at h
        · rename_i hl
          exact SC.of call_int_str ⟨toStr _, i, rfl, ei, by rw [toStr_len]; exact hl, h.now s (.int _)⟩
        · exact h.elim
      · exact h.elim
    · exact h.elim
  | str =>
    dsimp only at h
    split at h
    · cases rx
      split at h
      · rename_i i hl
        refine SC.of call_str_int ⟨i, rfl, hl, ?_⟩
        have e : toStr (Str.ofString (toString i)).cps.toList = Str.ofString (toString i) := by unfold toStr; simp
        have q := h.now s (.str _)
        rw [e] at q
        exact q
      · exact h.elim
    · cases rx
      exact SC.of SkE.call_str_str ⟨_, rfl, h.now s (.str _)⟩
    · exact h.elim
  | list =>
    dsimp only at h
    split at h
    · rename_i l e
      obtain ⟨p, xs, rfl, hp, t⟩ := look_lst s rx e
      exact SC.of call_list_of ⟨p, xs, rfl, .inl (SqL.of hp), new_lst s t h⟩
    · rename_i l e
      obtain ⟨p, xs, rfl, hp, t⟩ := look_tup c s rx e
      exact SC.of call_list_of ⟨p, xs, rfl, .inr hp, new_lst s t h⟩
    · rename_i l e
      obtain ⟨p, kvs, rfl, hp, t⟩ := look_dic s rx e
      exact call_list_rd c.calm hp (new_lst s (repKeys t) h)
    · rename_i l e
      have e' : x = .flst l := by
        cases x with
        | ref j =>
          unfold look at e
          cases q : μ[j]? with
          | none => simp only [q] at e; cases e
          | some o => simp only [q] at e; cases o <;> cases e
        | _ => exact e
      subst e'
      cases rx with
      | flst hp t => exact SC.of call_list_of ⟨_, _, rfl, .inl (c.lst hp), new_lst s t h⟩
    · exact h.elim
  | tuple =>
    dsimp only at h
    split at h
    · rename_i l e
      obtain ⟨p, xs, rfl, hp, t⟩ := look_lst s rx e
      exact SC.of call_tuple_of ⟨p, xs, rfl, .inl ⟨SqL.of hp, new_tup s t h⟩⟩
    · rename_i l e
      obtain ⟨p, xs, rfl, hp, t⟩ := look_tup c s rx e
      have e' := look_tup_eq e
      subst e'
      exact SC.of call_tuple_of ⟨p, xs, rfl, .inr ⟨hp, h.now s rx⟩⟩
    · exact h.elim
  | dict =>
    dsimp only at h
    split at h
    · rename_i l e
      obtain ⟨p, kvs, rfl, hp, t⟩ := look_dic s rx e
      intro pins s' σ us I r
      obtain ⟨u, rfl, ru⟩ := vals1 r
      cases ru
      exact d_copyOf I hp fun q s2 hq I2 => ⟨.ref q, _, I2, rfl, new_dic s t h q hq⟩
    · exact h.elim
  | any =>
    dsimp only at h
    split at h
    · rename_i l e
      obtain ⟨p, xs, rfl, hp, t⟩ := look_lst s rx e
      split at h
      · rename_i bs eb
        exact SC.of (cr_any c.calm) ⟨p, bs, rfl, by rw [← repBls t eb]; exact SqL.of hp, h.now s (.bl _)⟩
      · exact h.elim
    · exact h.elim
  | all =>
    dsimp only at h
    split at h
    · rename_i l e
      obtain ⟨p, xs, rfl, hp, t⟩ := look_lst s rx e
      split at h
      · rename_i bs eb
        exact SC.of (cr_all c.calm) ⟨p, bs, rfl, by rw [← repBls t eb]; exact SqL.of hp, h.now s (.bl _)⟩
      · exact h.elim
    · exact h.elim
  | sorted =>
    dsimp only at h
    split at h
    · rename_i l e
      obtain ⟨p, xs, rfl, hp, t⟩ := look_lst s rx e
      split at h
      · rename_i ns eb
        refine SC.of cr_sortedI ⟨p, ns, rfl, by rw [← repInts t eb]; exact SqL.of hp, fun ns' q hpm hs hq => ?_⟩
        rw [sorted_same (hpm.trans (isort_perm _ ns).symm) hs (isort_sorted ns)]
        exact new_lst s (repOfInts _) h q hq
      · exact h.elim
    · exact h.elim
  | max1 =>
    dsimp only at h
    split at h
    · rename_i l e
      obtain ⟨p, xs, rfl, hp, t⟩ := look_lst s rx e
      split at h
      · rename_i i ns eb
        exact SC.of (cr_max c.calm) ⟨p, i :: ns, rfl, by rw [← repInts t eb]; exact SqL.of hp, by simp, fun m hm hge => by
          have e : m = maxI i ns := Int.le_antisymm (maxI_ge ns i m hm) (hge _ (maxI_mem ns i))
          rw [e]
          exact h.now s (.int _)⟩
      · exact h.elim
    · exact h.elim
  | _ => exact h.elim
/-! ### isinstance -/
def tagV (G : Tx) : Tag → Value
  | .int => .type "int" | .bl => .type "bool" | .str => .type "str" | .tup => .type "tuple" | .lst => .type "list" | .dic => .type "dict" | .cls c => .ref (G.cA c)
/-- what the text says of its classes, for isinstance -/
structure IsC (G : Tx) (nc : Nat) : Prop where
  own : ∀ c, c < nc → Cls G.K (G.cA c) ∧ PySem.W.findIn G.K (.ref (G.cA c)) "__class__" = some (some (.builtin "object.__class__")) ∧
    PySem.W.specialIn G.K (.builtin "object.__class__") "__get__" = some (some (.builtin "getset_descriptor.__get__")) ∧ PySem.W.takesIn G.K (.builtin "object.__class__") = some true ∧ PySem.W.mroIn G.K (G.cA c) (.type "object") = some true
  kit : ∀ c d, c < nc → d < nc → PySem.W.kitOne G.K (.ref (G.cA c)) (.ref (G.cA d)) = some (decide (c = d))
  kitB : ∀ c t, c < nc → t ∈ ["int", "bool", "str", "tuple", "list", "dict"] → PySem.W.kitOne G.K (.ref (G.cA c)) (.type t) = some false
  kitC : ∀ c t, c < nc → t ∈ ["NoneType", "int", "bool", "str", "tuple", "list", "dict"] → PySem.W.kitOne G.K (.type t) (.ref (G.cA c)) = some false
end
end Z

end
section
set_option maxHeartbeats 4000000
set_option autoImplicit false
/-! Z6: methods of built-in types and stores, by values. -/
namespace Z
open PySem PySem.Spec PyProof.Rows L2
def SM (X : Cx) (id : String) (x : V) (xs : List V) (H : Hp) (Q : VK) : Prop :=
  ∀ pins s σ v us, Inv X pins σ H s → RelV x v → Vals xs us → wpAny (model X.prog X.w) X.A (call (.builtin id) (v :: us)) (EP X pins σ Q) X.xe s
theorem SM.of {X : Cx} {id : String} {r : V → List V → Hp → VK → Prop} {x : V} {xs : List V} {H : Hp} {Q : VK} (h : ∀ (pins : List (Addr × Obj)) (s : Shared) (σ : L2.St) (H : Hp) (x : V) (xs : List V) (v : Value) (us : List Value) (Q : VK), Inv X pins σ H s → RelV x v → Vals xs us → r x xs H Q →
    wpAny (model X.prog X.w) X.A (call (.builtin id) (v :: us)) (EP X pins σ Q) X.xe s) (hr : r x xs H Q) : SM X id x xs H Q := fun pins s σ v us I rx rs => h pins s σ H x xs v us Q I rx rs hr
/-- a built-in type's method, found at the receiver's value -/
structure BMf (T : String) (name : Str) (id : String) : Prop where
  pa : PlainAttrs T
  slot : Slot T name id
  ty : typeOf (.builtin id) = pure (.type "method_descriptor")
def Ty1 (X : Cx) (x : V) (H : Hp) (T : String) : Prop := ∀ pins s σ v, Inv X pins σ H s → RelV x v → s.TypeIs v T ∧ ∀ a, v = .ref a → ∃ ob, s.heap.get? a = some ob ∧ ob.dict = none
def bmN : BM → Str
  | .append => "append" | .extend => "extend" | .pop0 => "pop" | .pop1 => "pop" | .get2 => "get" | .split => "split" | .join => "join" | .index => "index" | .reverse => "reverse"
def bmI : BM → BT → String
  | .append, _ => "list.append" | .extend, _ => "list.extend" | .pop0, _ => "list.pop" | .pop1, .d => "dict.pop" | .pop1, _ => "list.pop" | .get2, _ => "dict.get" | .split, _ => "str.split" | .join, _ => "str.join" | .index, _ => "list.index" | .reverse, _ => "list.reverse"
def btT : BT → String
  | .l => "list" | .d => "dict" | .s => "str"
theorem bm_f {k : BM} {t : BT} {d : D} (h : bmTy k d = some t) : BMf (btT t) (bmN k) (bmI k t) := by
  unfold bmTy at h
  split at h <;> cases h
  · exact ⟨PySem.F.plainAttrs_list, PySem.F.slot_list_append, PySem.F.type_list_append⟩
  · exact ⟨PySem.F.plainAttrs_list, PySem.F.slot_list_extend, PySem.F.type_list_extend⟩
  · exact ⟨PySem.F.plainAttrs_list, PySem.F.slot_list_pop, PySem.F.type_list_pop⟩
  · exact ⟨PySem.F.plainAttrs_list, PySem.F.slot_list_pop, PySem.F.type_list_pop⟩
  · exact ⟨PySem.F.plainAttrs_dict, PySem.F.slot_dict_pop, PySem.F.type_dict_pop⟩
  · exact ⟨PySem.F.plainAttrs_dict, PySem.F.slot_dict_get, PySem.F.type_dict_get⟩
  · exact ⟨PySem.F.plainAttrs_str, PySem.F.slot_str_split, PySem.F.type_str_split⟩
  · exact ⟨PySem.F.plainAttrs_str, PySem.F.slot_str_join, PySem.F.type_str_join⟩
section
variable {G : Tx} {n : Nat} {A : Ag} {X : Cx} {α : Al} {μ : Mu} {H : Hp} {W : XW}
theorem bm_ty (s : StOk G α μ H) {k : BM} {t : BT} {x : D} {vx : V} (rx : Rep G α μ H vx x) (h : bmTy k (look μ x) = some t) : Ty1 X vx H (btT t) := by
  have lst : ∀ l, look μ x = .lst l → Ty1 X vx H "list" := fun l e => by
    obtain ⟨p, xs, rfl, hp, _⟩ := look_lst s rx e
    intro pins s' σ v I r
    exact tyV_is I r (.inl ⟨rfl, xs, SqL.of hp⟩)
  have dic : ∀ l, look μ x = .dic l → Ty1 X vx H "dict" := fun l e => by
    obtain ⟨p, kvs, rfl, hp, _⟩ := look_dic s rx e
    intro pins s' σ v I r
    cases r
    obtain ⟨_, _, vs, _, dd⟩ := dk_rd I.hok hp
    refine ⟨dd.typeIs, fun a q => ?_⟩
    cases q
    obtain ⟨ob, es, ep, h1, h2, _⟩ := dd
    exact ⟨ob, h1, h2.2.1⟩
  have str : ∀ z, look μ x = .str z → Ty1 X vx H "str" := fun z e => by
    obtain ⟨rfl, _⟩ := look_str rx e
    intro pins s' σ v I r
    exact tyV_is (T := "str") I r rfl
  unfold bmTy at h
  split at h <;> cases h <;> rename_i e
  · exact lst _ e
  · exact lst _ e
  · exact lst _ e
  · exact lst _ e
  · exact dic _ e
  · exact dic _ e
  · exact str _ e
  · exact str _ e
theorem ref_lst (s : StOk G α μ H) {k : Nat} {v : V} (r : Rep G α μ H v (.ref k)) {l : List D} (e : μ[k]? = some (.lst l)) : ∃ p xs, v = .ref p ∧ α.c[k]? = some p ∧ H p = some (.lst xs) ∧ RepL G α μ H xs l := by
  cases r with
  | ref hp =>
    obtain ⟨xs, h1, h2⟩ := s.cell k _ _ e hp
    exact ⟨_, xs, rfl, hp, h1, h2⟩
theorem ref_dic (s : StOk G α μ H) {k : Nat} {v : V} (r : Rep G α μ H v (.ref k)) {l : List (DK × D)} (e : μ[k]? = some (.dic l)) : ∃ p xs, v = .ref p ∧ α.c[k]? = some p ∧ H p = some (.dK xs) ∧ RepK G α μ H xs l := by
  cases r with
  | ref hp =>
    obtain ⟨xs, h1, h2⟩ := s.cell k _ _ e hp
    exact ⟨_, xs, rfl, hp, h1, h2⟩
theorem set_lst {k : Nat} {p : Addr} {xs : List V} {l : List D} {o : MO} (s : StOk G α μ H) (h0 : μ[k]? = some o) (ho : o.live = true) (hp : α.c[k]? = some p) (t : RepL G α μ H xs l) :
    Ext α μ H α (μ.set k (.lst l)) (upd H p (.lst xs)) ∧ StOk G α (μ.set k (.lst l)) (upd H p (.lst xs)) := by
  have ex := ext_set (u := .lst xs) (c := .lst l) s h0 ho hp
  exact ⟨ex, s.set h0 ho hp ⟨xs, upd_same, t.ext ex⟩⟩
theorem set_dic {k : Nat} {p : Addr} {xs : List (Key × V)} {l : List (DK × D)} {o : MO} (s : StOk G α μ H) (h0 : μ[k]? = some o) (ho : o.live = true) (hp : α.c[k]? = some p) (t : RepK G α μ H xs l) :
    Ext α μ H α (μ.set k (.dic l)) (upd H p (.dK xs)) ∧ StOk G α (μ.set k (.dic l)) (upd H p (.dK xs)) := by
  have ex := ext_set (u := .dK xs) (c := .dic l) s h0 ho hp
  exact ⟨ex, s.set h0 ho hp ⟨xs, upd_same, t.ext ex⟩⟩
theorem RepL.dropLast {xs : List V} {l : List D} (t : RepL G α μ H xs l) : RepL G α μ H xs.dropLast l.dropLast := by
  rw [List.dropLast_eq_take, List.dropLast_eq_take, t.len]
  exact t.take _
theorem RepL.eraseIdx : ∀ {xs : List V} {l : List D} (k : Nat), RepL G α μ H xs l → RepL G α μ H (xs.eraseIdx k) (l.eraseIdx k)
  | _, _, _, .nil => .nil
  | _, _, 0, .cons h t => t
  | _, _, k + 1, .cons h t => .cons h (RepL.eraseIdx k t)
theorem RepK.drop (k : DK) : ∀ {xs : List (Key × V)} {l : List (DK × D)}, RepK G α μ H xs l → RepK G α μ H (dropK xs (keyK k)) (ddrop l k)
  | _, _, .nil => .nil
  | _, _, @RepK.cons _ _ _ _ k' v d vs ds h t => by
    unfold dropK ddrop
    by_cases e : k' = k
    · subst e
      rw [List.filter_cons_of_neg (by simp), List.filter_cons_of_neg (by simp)]
      exact RepK.drop k' t
    · have e' : ¬ keyK k' = keyK k := fun z => e (keyK_inj z)
      rw [List.filter_cons_of_pos (by simpa using e'), List.filter_cons_of_pos (by simpa using e)]
      exact .cons h (RepK.drop k t)
theorem RepK.any (k : DK) : ∀ {xs : List (Key × V)} {l : List (DK × D)}, RepK G α μ H xs l → (xs.any fun q => decide (q.1 = keyK k)) = (l.any fun q => decide (q.1 = k))
  | _, _, .nil => rfl
  | _, _, @RepK.cons _ _ _ _ k' v d vs ds h t => by
    rw [List.any_cons, List.any_cons, RepK.any k t]
    by_cases e : k' = k
    · subst e; simp
    · have e' : ¬ keyK k' = keyK k := fun z => e (keyK_inj z)
      simp [e, e']
theorem RepK.app {ys : List (Key × V)} {es : List (DK × D)} (q : RepK G α μ H ys es) : ∀ {xs : List (Key × V)} {ds : List (DK × D)}, RepK G α μ H xs ds → RepK G α μ H (xs ++ ys) (ds ++ es)
  | _, _, .nil => q
  | _, _, .cons h t => .cons h (RepK.app q t)
theorem RepK.upd1 {k : DK} {w : V} {d : D} (h0 : Rep G α μ H w d) : ∀ {xs : List (Key × V)} {l : List (DK × D)}, RepK G α μ H xs l →
    RepK G α μ H (xs.map fun kv => if kv.1 = keyK k then (kv.1, w) else kv) (l.map fun q => if q.1 = k then (q.1, d) else q)
  | _, _, .nil => .nil
  | _, _, @RepK.cons _ _ _ _ k' v d' vs ds h t => by
    rw [List.map_cons, List.map_cons]
    by_cases e : k' = k
    · subst e
      rw [if_pos rfl, if_pos rfl]
      exact .cons h0 (RepK.upd1 h0 t)
    · have e' : ¬ keyK k' = keyK k := fun z => e (keyK_inj z)
      rw [if_neg e, if_neg e']
      exact .cons h (RepK.upd1 h0 t)
theorem RepK.put {k : DK} {w : V} {d : D} (h0 : Rep G α μ H w d) {xs : List (Key × V)} {l : List (DK × D)} (t : RepK G α μ H xs l) : RepK G α μ H (putK xs (keyK k) w) (dput l k d) := by
  unfold putK dput
  rw [t.any k]
  split
  · exact RepK.upd1 h0 t
  · exact RepK.app (.cons h0 .nil) t
theorem opBM_ok (s : StOk G α μ H) (c : CtxOk G n A X) {k : BM} {t : BT} {x : D} {as : List D} {vx : V} {vs : List V} (rx : Rep G α μ H vx x) (ra : RepL G α μ H vs as) (hty : ∃ d, bmTy k d = some t) {Q : VK} (h : Fin1 G W α μ H (opBM k t x as μ) Q) : SM X (bmI k t) vx vs H Q := by
  unfold opBM at h
  split at h
  · -- append
    cases ra with
    | cons rd r0 =>
      cases r0
      split at h
      · rename_i l e
        obtain ⟨p, xs, rfl, hp, hh, tt⟩ := ref_lst s rx e
        split at h
        · rename_i hl
          obtain ⟨ex, st⟩ := set_lst (xs := xs ++ [_]) s e rfl hp (RepL.app (.cons rd .nil) tt)
          refine SM.of mt_append ⟨p, xs, _, rfl, rfl, hh, ?_, h α _ .non ex st .non⟩
          have := tt.len
          have := lim_le (k := xs.length + 1) (by unfold lim at hl ⊢; omega)
          omega
        · exact h.elim
      · exact h.elim
  · -- extend
    cases ra with
    | cons rd r0 =>
      cases r0
      split at h
      · rename_i l e
        obtain ⟨p, xs, rfl, hp, hh, tt⟩ := ref_lst s rx e
        cases rd with
        | lst h1 h2 h3 =>
          split at h
          · rename_i hl
            obtain ⟨ex, st⟩ := set_lst s e rfl hp (RepL.app h3 tt)
            refine SM.of mt_extend ⟨p, _, xs, _, rfl, rfl, hh, h1, lim_le ?_, h α _ .non ex st .non⟩
            have := tt.len
            have := h3.len
            omega
          · exact h.elim
      · exact h.elim
  · -- pop()
    cases ra
    split at h
    · rename_i l e
      obtain ⟨p, xs, rfl, hp, hh, tt⟩ := ref_lst s rx e
      split at h
      · rename_i d ed
        obtain ⟨ex, st⟩ := set_lst s e rfl hp tt.dropLast
        rw [List.getLast?_eq_getElem?] at ed
        obtain ⟨v, ev, rv⟩ := tt.get ed
        refine SM.of mt_pop ⟨p, xs, v, rfl, rfl, hh, by rw [tt.len]; exact ev, h α _ v ex st (rv.ext ex)⟩
      · exact h.elim
    · exact h.elim
  · -- pop(a)
    cases ra with
    | cons rd r0 =>
      cases r0
      split at h
      · rename_i l e
        obtain ⟨p, xs, rfl, hp, hh, tt⟩ := ref_lst s rx e
        split at h
        · rename_i i
          cases rd
          split at h
          · rename_i hi
            split at h
            · rename_i d ed
              obtain ⟨ex, st⟩ := set_lst s e rfl hp (tt.eraseIdx i.toNat)
              obtain ⟨v, ev, rv⟩ := tt.get ed
              have hlt := (List.getElem?_eq_some_iff.mp ev).1
              refine SM.of mt_popAt ⟨p, xs, i, i.toNat, v, rfl, rfl, hh, by omega, by omega, ?_, ev, h α _ v ex st (rv.ext ex)⟩
              unfold seqIndex?
              have h1 := hi.1
              have e1 : ¬ i < 0 := Int.not_lt.mpr h1
              have e2 : i < (xs.length : Int) := by omega
              simp only [if_neg e1]
              rw [if_pos (by simp [h1, e2])]
            · exact h.elim
          · exact h.elim
        · exact h.elim
      · rename_i l e
        obtain ⟨p, xs, rfl, hp, hh, tt⟩ := ref_dic s rx e
        split at h
        · rename_i k' ek
          split at h
          · rename_i d ed
            obtain ⟨ex, st⟩ := set_dic s e rfl hp (tt.drop k')
            obtain ⟨v, ev, rv⟩ := (tt.val k').1 d ed
            have hv := key_of rd ek
            intro pins s' σ vv us I rx' rs'
            cases rx'
            cases rs' with
            | cons q1 q2 =>
              cases q2
              subst hv
              exact d_pop I hh q1 ev (.inl rfl) fun w' s3 I3 rw' => ⟨v, _, I3, rw', h α _ v ex st (rv.ext ex)⟩
          · exact h.elim
        · exact h.elim
      · exact h.elim
  · -- get(a, b)
    cases ra with
    | cons rd r0 =>
      cases r0 with
      | cons rb r1 =>
        cases r1
        split at h
        · rename_i l e
          obtain ⟨p, kvs, rfl, hp, tt⟩ := look_dic s rx e
          split at h
          · rename_i k' ek
            have hv := key_of rd ek
            have g : DGet H p _ (valV kvs (keyK k')) := .inl ⟨kvs, keyK k', hp, hv, rfl⟩
            intro pins s' σ vv us I rx' rs'
            cases rx'
            cases rs' with
            | cons q1 q2 =>
              cases q2 with
              | cons q3 q4 =>
                cases q4
                refine d_get2 (room_u c 1 (by omega)) I g q1 q3 fun w' s3 I3 rw' => ⟨_, H, I3, rw', ?_⟩
                split at h
                · rename_i d ed
                  obtain ⟨v, ev, rv⟩ := (tt.val k').1 d ed
                  rw [ev]
                  exact h.now s rv
                · rename_i ed
                  rw [(tt.val k').2 ed]
                  exact h.now s rb
          · exact h.elim
        · exact h.elim
  · -- split
    cases rx
    cases ra with
    | cons rd r0 =>
      cases r0
      cases rd
      split at h
      · rename_i hl
        obtain ⟨⟨h1, h3⟩, h2⟩ := hl
        refine SM.of mt_split ⟨toStr _, toStr _, rfl, rfl, by rw [toStr_len, h1]; rfl, lim_le (by rw [toStr_len]; exact h2), ?_⟩
        intro q hq
        have t2 : ∀ zs : List (List Nat), RepL G α μ H ((zs.map SX.S).map V.str) (zs.map .str) := fun zs => by
          induction zs with
          | nil => exact .nil
          | cons z zs ih => exact .cons (.str z) ih
        rw [show Txt.split (toStr _) (toStr _) = _ from SX.split_S (fun e => by rw [e] at h1; cases h1) h3]
        exact new_lst (m := false) s (t2 _) h q hq
      · exact h.elim
  · -- join
    cases rx
    cases ra with
    | cons rd r0 =>
      cases r0
      split at h
      · rename_i l e
        obtain ⟨p, xs, rfl, hp, tt⟩ := look_lst s rd e
        split at h
        · rename_i ys ey
          split at h
          · rename_i hl
            have ex := repStrs tt ey
            refine SM.of mt_join ⟨toStr _, p, ys.map toStr, rfl, rfl, .inl (by rw [← ex]; exact SqL.of hp), ?_, ?_⟩
            · have e1 : (ys.map toStr).map (fun z : Str => z.length) = ys.map List.length := by
                rw [List.map_map]
                exact List.map_congr_left fun z _ => toStr_len z
              rw [e1, List.length_map, toStr_len]
              unfold lim at hl
              omega
            · have q := h.now s (.str _)
              rw [show Txt.join (toStr _) (ys.map toStr) = _ from SX.join_S _ ys]
              exact q
          · exact h.elim
        · exact h.elim
      · exact h.elim
  · exact h.elim
/-! ### stores -/
def SS (X : Cx) (o i v : V) (H : Hp) (Q : Hp → Prop) : Prop := ∀ pins s σ ov iv u, Inv X pins σ H s → RelV o ov → RelV i iv → RelV v u → wpAny (model X.prog X.w) X.A (setItem ov iv u) (fun _ s' => ∃ H', Inv X pins σ H' s' ∧ Q H') X.xe s
abbrev FinU (G : Tx) := FinG (β := Unit) (γ := Unit) G fun _ _ _ _ _ => True
theorem setG_ok (s : StOk G α μ H) (c : CtxOk G n A X) {x i d : D} {vx vi vd : V} (rx : Rep G α μ H vx x) (ri : Rep G α μ H vi i) (rd : Rep G α μ H vd d) {Q : Hp → Prop} (h : FinU G W α μ H (setG x i d μ) fun _ H' => Q H') : SS X vx vi vd H Q := by
  unfold setG at h
  split at h
  · split at h
    · rename_i l e
      obtain ⟨p, xs, rfl, hp, hh, tt⟩ := ref_lst s rx e
      split at h
      · rename_i k
        cases ri
        split at h
        · rename_i j ej
          obtain ⟨ex, st⟩ := set_lst s e rfl hp (tt.set rd j)
          intro pins s' σ ov iv u I r1 r2 r3
          exact set_list pins s' σ H _ _ _ ov iv u Q I r1 r2 r3 ⟨p, xs, k, j, rfl, rfl, hh, by rw [tt.len]; exact ej, h α _ () ex st trivial⟩
        · exact h.elim
      · exact h.elim
    · rename_i l e
      obtain ⟨p, xs, rfl, hp, hh, tt⟩ := ref_dic s rx e
      split at h
      · rename_i k' ek
        split at h
        · rename_i hl
          obtain ⟨ex, st⟩ := set_dic s e rfl hp (tt.put (k := k') rd)
          have hv := key_of ri ek
          intro pins s' σ ov iv u I r1 r2 r3
          cases r1
          have g : DPut H p vi vd (upd H p (.dK (putK xs (keyK k') vd))) := by
            rw [hv]
            refine DPut.k hh ?_
            have := tt.len
            have := lim_le (k := xs.length + 1) (by unfold lim at hl ⊢; omega)
            omega
          exact d_setItem (room_u c 1 (by omega)) I g r2 r3 fun s2 I2 => ⟨_, I2, h α _ () ex st trivial⟩
        · exact h.elim
      · exact h.elim
    · exact h.elim
  · exact h.elim
end
end Z

end
section
set_option maxHeartbeats 4000000
set_option autoImplicit false
/-! ZX0: the __init__ of an own error class: super().__init__(text), then one field. -/
namespace Z
open PySem PySem.Spec PyProof.Rows L2
/-- what such an __init__ promises: the field stands -/
def spI (C : Addr) (fld : Str) : Sp := fun vs H Q E => ∃ (a : Addr) (y : V), vs = [.ref a, y] ∧ H a = some (exo a C none) ∧
  ∀ dx, H dx = none → dx ≠ a → Q .non (upd (upd H dx (exd dx [(fld, y)])) a (exo a C (some dx)))
structure ExC (P : Program) (K : PySem.W.Frag) (mg : Str → Option Value) (C : Addr) (fld : Str) : Prop where
  T : OexC K C
  hop : PySem.W.nsIn K cStatics "thirdparty.any" = some none
  hsup : PySem.W.ks_superIn K C C "__init__" = some (some (.builtin "ValueError.__init__"))
  hms : PySem.W.mroIn K C (.ref C) = some true
  hVE : PySem.W.subIn K (.ref C) (.type "ValueError") = some true
  hmg : mg "super" = none
  hno : PySem.W.findIn K (.ref C) fld = some none
  htop : (P.main.scope.names.lookup ("super" : Str)).isSome = false
theorem boot_super : bootBuiltins "super" = some (.type "super") := by kernel_rfl
section
variable {prog : Program} {w : World} {A : Around} {E : Value → Shared → Prop} {hp : Heap} {g : Array GenState} {d : Drawn} {t : Nat} {os : OsState}
/-- the bound __init__ is called -/
theorem mw_call {K : PySem.W.Frag} {C u e t0 : Addr} {rest : List Value} {Q : Value → Shared → Prop} (T : OexC K C) (X : K.In hp) (he : hp.get? e = some (HandSPX.excO C t0)) (hu : hp.get? u = some (PySem.W.kxs_mw "ValueError.__init__" e)) (hz : rest.length ≤ sizeLine)
    (h : ∀ h' t', (∀ b o, b ≠ e → hp.get? b = some o → h'.get? b = some o) → h'.get? e = some (HandSPX.excO C t') → Q .none ⟨h', g, d, t, os⟩) :
    wpAny (model prog w) A (call (.ref u) rest) Q E ⟨hp, g, d, t, os⟩ := by
  obtain ⟨nm, q, N, bs, bm, sn, sub, ab, col, dd, k0, k1, k2, k3, k5, hC, hbm⟩ := T.cls
  refine wpAny_call (codeAny_of_tree ?_)
  show wpAny _ A.in1 (callAny (.ref u) ⟨rest, []⟩) _ _ _
  simp only [callAny]
  refine wpAny_bind (wpAny_load hu ?_)
  simp only [PySem.W.kxs_mw, show (Value.type "method-wrapper" == Value.type "method" || Value.type "method-wrapper" == Value.type "builtin_function_or_method" || Value.type "method-wrapper" == Value.type "method-wrapper") = true by decide, if_true]
  refine PySem.W.KFB.if_so (by decide) ?_
  refine wpAny_bind (PySem.W.check_bound_init F.excBase_ValueError.toExcCallFacts (X _ _ hC) he rfl ?_)
  refine wpAny_bind (wpAny_pure (wpAny_pure ?_))
  refine ⟨plainId_quiet F.excBase_ValueError.init.plain _, codeAny_builtin F.excBase_ValueError.initEntry ?_⟩
  exact PySem.W.exc_init_tree (cls := .ref C) (t0 := t0) (dv := none) (c2 := .none) (c3 := .none) (b4 := .bool false) he hz fun h' k1 k2 k3 => h h' _ k1 k2
end
section
variable {P : Program} {w : World} {K : PySem.W.Frag} {mg : Str → Option Value} {base : Heap} {CX : CXT} {k : Nat} {f C cc cda : Addr} {fld x1 x2 name qual file txt : Str} {fd : FuncData} {scope : Scope} {params : Arguments} {dV kV doc pm ct oc ccl cl : Value} {an od cdd cld : Option Addr} {osl ccs csl : Array (Option Value)}
  {ar : Arg} {p0 p1 p2 p3 p4 p5 p6 p7 p8 p9 : Pos} {jj : Nat} {vs : Array Value} {tf : Tok}
theorem super_form {env : PySem.Env} (h2 : (p2.endLine == p4.line) = true) :
    eval (.Call (.Attribute (.Call (.Name "super" p0) [] [] p1) "__init__" p2) [.Constant (.str txt) jj p3] [] p4) env = (do
      let ov ← attributeBase (.Call (.Name "super" p0) [] [] p1) "__init__" env (eval (.Call (.Name "super" p0) [] [] p1) env)
      standAt p2.atName
      let (f, first) ← holding [ov] (getMethod ov "__init__" (do return (← importBound (.Call (.Name "super" p0) [] [] p1) env).getD true))
      callWith p4 f first (backTo p4 (starEach [.Constant (.str txt) jj p3] env)) []) := by
  have hf : methodCallForm (1 + ([] : List Keyword).length) (backTo p4 (starEach [.Constant (.str txt) jj p3] env)) (backToKw p4 (keywordEach [] env)) = true := by rfl
  have hp : methodCallPos true (.Call (.Name "super" p0) [] [] p1) env p2 p4 = pure p4 := by unfold methodCallPos; simp [h2]
  rw [arm_eval_Call]
  unfold methodCall
  rw [show ([Expr.Constant (.str txt) jj p3] : List Expr).length = 1 from rfl, hf, hp]
  rfl
theorem exi_ok (F : ExC P K mg C fld)
    (lk : K.lookup f = some ⟨oc, od, .func (PySem.W.ksFn name qual params [.Expr (.Call (.Attribute (.Call (.Name "super" p0) [] [] p1) "__init__" p2) [.Constant (.str txt) jj p3] [] p4) p5, .Assign [.Attribute (.Name x1 p6) fld p7] (.Name x2 p8) p9] scope dV kV doc pm an (.ref cda) ct cc), osl⟩)
    (hcd : PySem.W.codeIn K (.ref cda) qual = true) (hp : (params.posonlyargs ++ params.args).head? = some ar) (har : ar.arg = x1)
    (hcode : K.lookup cda = some ⟨ccl, cdd, .fields vs, ccs⟩) (hvs : vs[2]? = some (.str file tf)) (hfile : ((P.main.file : Str) == file) = true) (hcell : K.lookup cc = some ⟨cl, cld, .cell (some (.ref C)), csl⟩)
    (h1 : scope.names.lookup x1 = some .local) (h2x : scope.names.lookup x2 = some .local) (hne : x1 ≠ x2) (hd1 : (x1 == ("__debug__" : Str)) = false) (hd2 : (x2 == ("__debug__" : Str)) = false)
    (hks : scope.names.lookup ("super" : Str) = some .globalImplicit) (hkc : scope.names.lookup ("__class__" : Str) = some .free) (hk : scope.kind = .function) (hco : scope.isCoroutine = false) (hgen : scope.isGenerator = false)
    (hnc : ∀ x ∈ scope.names, x.2 ≠ .cell) (hpos : (p2.endLine == p4.line) = true) :
    FnOk P w K mg base CX k f (PySem.W.ksFn name qual params [.Expr (.Call (.Attribute (.Call (.Name "super" p0) [] [] p1) "__init__" p2) [.Constant (.str txt) jj p3] [] p4) p5, .Assign [.Attribute (.Name x1 p6) fld p7] (.Name x2 p8) p9] scope dV kV doc pm an (.ref cda) ct cc) [x1, x2] (spI C fld) := by
  refine ⟨fun vs H Q E ⟨a, y, e, _⟩ => by rw [e]; rfl, fun A outer s H args us vs Q E hr e0 hb r hsp => ?_⟩
  obtain ⟨a, y, rfl, ea, q⟩ := hsp
  cases r with
  | @cons _ u1 _ us1 ra r =>
  cases r with
  | @cons _ u _ us2 ry r =>
  cases r
  obtain rfl : u1 = Value.ref a := ra
  have KX : K.In s.heap := e0.mod.kin.keeps fun b o e => (e0.bs b o e).1
  have lim : s.heap.NoLimit := e0.mod.nolimit.keeps fun b o e => (e0.bs b o e).1
  refine ks_codeAny_call_defAt hr.depth (KX _ _ lk) rfl lim (PySem.W.codeRec_of KX hcd) rfl hb hnc (fun z hz => ?_) (fun h₁ hns hk₁ => ?_) hco hgen hk
  · rcases List.mem_cons.mp hz with rfl | hz
    · exact h1
    · rcases List.mem_cons.mp hz with rfl | hz
      · exact h2x
      · cases hz
  have X1 : K.In h₁ := KX.keeps hk₁
  have k1 : ∀ {z : Str}, z = x1 → (fun x => List.lookup x (List.reverse ([x1, x2].zip [Value.ref a, u]))) z = some (Value.ref a) := by
    intro z hz
    subst hz
    show List.lookup z [(x2, u), (z, Value.ref a)] = _
    have : (z == x2) = false := by simpa using hne
    simp [List.lookup, this]
  have k2 : (fun x => List.lookup x (List.reverse ([x1, x2].zip [Value.ref a, u]))) x2 = some u := by
    show List.lookup x2 [(x2, u), (x1, Value.ref a)] = _
    simp [List.lookup]
  obtain ⟨t0, ho⟩ := exo_at e0.hok ea
  have ho1 := hk₁ _ _ ho
  have hms := F.hms
  have hT := F.T
  obtain ⟨nm, q', N, bs, bm, sn, sub, ab, col, dd, kk0, kk1, kk2, kk3, kk5, hC, hbm⟩ := F.T.cls
  have hcl : PySem.W.clsIn K C = some { name := nm, bases := bs, mro := .ref C :: bm, ns := N, qualname := q', hasDict := true, slotNames := sn, subclasses := sub, abstract := ab, collection := col, hasDel := false } := by unfold PySem.W.clsIn; rw [hC] <;> rfl
  obtain ⟨mb, hb1, hb2⟩ := e0.mod.blt
  have kb : ∀ b o, base.get? b = some o → h₁.get? b = some o := fun b o e => hk₁ b o (e0.bs b o e).1
  obtain ⟨hp0, g, d, tk, os⟩ := s
  show PySem.wpAt (model P w) (A.deeper (PySem.W.ksEnv qual scope hp0.objs.size f (.ref cda) cc)) (.func _ (PySem.W.ksEnv qual scope hp0.objs.size f (.ref cda) cc)) (execs _ (PySem.W.ksEnv qual scope hp0.objs.size f (.ref cda) cc)) _ _ ⟨h₁, g, d, tk + 2, os⟩
  have hi : interactive (PySem.W.ksEnv qual scope hp0.objs.size f (.ref cda) cc) = false := by
    unfold interactive
    rw [show (PySem.W.ksEnv qual scope hp0.objs.size f (.ref cda) cc).scope.kind = .function from hk]
    rfl
  refine ks_wpAt_execs_cons (ks_wpAt_Expr_any (ks_wpAt_MethodCall (ks_wpAt_super_base hks hkc (by decide) rfl (X1 _ _ lk) rfl hp rfl (X1 _ _ hcode) rfl hvs hfile F.htop ?_) (super_form hpos)) hi)
  refine PySem.W.ks_loadName_global hk hks (Calls.loadGlobal_builtin (mg := mg) (mb := mb) (e0.mod.glob.keeps kb) F.hmg (hb1.keeps kb) ((hb2 _ (by decide)).trans boot_super) ⟨rfl, ?_⟩)
  refine wpAny_loadName_free hk hkc rfl ⟨_, X1 _ _ hcell, rfl⟩ ?_
  refine wpAny_loadName_local hk (by rw [har]; exact h1) hns (by rw [har]; exact k1 rfl) ?_
  refine ks_wpAny_isType_cls (X1 _ _ hC) rfl ⟨rfl, ?_⟩
  refine ks_wpAny_call_super (X1 _ _ hC) rfl ho1 rfl (fun c e => by cases e) (PySem.W.looks_mroIn X1 hms) (fun h2 e2 k2' => ?_)
  have X2 : K.In h2 := X1.keeps k2'
  have ho2 := k2' _ _ ho1
  have I2 : PySem.W.InstAt h2 a (HandSPX.excO C t0) C none := ⟨ho2, rfl, rfl, trivial⟩
  have haC : a ≠ C := PySem.W.ks_ne X2 I2 hcl
  have hal : PySem.W.alongIn K "__init__" (((Value.ref C :: bm).dropWhile (· != .ref C)).drop 1) = some (some (.builtin "ValueError.__init__")) := by
    have z := F.hsup
    unfold PySem.W.ks_superIn at z
    rw [hcl] at z
    exact z
  refine PySem.W.kxs_getMethod PySem.W.kxs_ValueError e2 (PySem.W.looks_opaque X2 F.hop) (l₀ := .ref C :: bm) (fun A Q E s k q => wpAny_bind ((PySem.W.looks_clsIn X2 hcl) A _ E s k (wpAny_pure q))) rfl X2 hal
    (I2.type.andThen (PySem.W.looks_subIn X2 F.hVE)) haC (by decide) ?_
  have hu : (h2.push (PySem.W.kxs_mw "ValueError.__init__" a)).get? h2.objs.size = some (PySem.W.kxs_mw "ValueError.__init__" a) := Heap.get?_push_at rfl rfl
  have k3 : ∀ b o, h2.get? b = some o → (h2.push (PySem.W.kxs_mw "ValueError.__init__" a)).get? b = some o := fun b o e => Heap.get?_push_of_some _ e
  show wpAny _ _ (callWith p4 (.ref h2.objs.size) [] (backTo p4 (starEach [.Constant (.str txt) jj p3] (PySem.W.ksEnv qual scope hp0.objs.size f (.ref cda) cc))) []) _ _ _
  refine PySem.W.kxs_callWith (i := "ValueError.__init__") (x := a) rfl (Calls.evalArgs_plain ?_)
  refine Calls.spliced_cons ?_
  refine Calls.Constant_str (k := jj) (pos := p3) (Calls.spliced_nil ⟨hu, ?_⟩)
  refine mw_call F.T (X2.keeps k3) (k3 _ _ ho2) hu (by rw [sizeLine_eq]; exact (by decide : 1 ≤ 16777216)) fun h4 t' k4 ho4 => ?_
  have kall : ∀ b o, b ≠ a → hp0.get? b = some o → h4.get? b = some o := fun b o hne' e => k4 b o hne' (k3 _ _ (k2' _ _ (hk₁ _ _ e)))
  have X4 : K.In h4 := e0.mod.kin.keeps fun b o e => kall b o (fun z => by
    have e1 := (e0.bs b o e).2
    rw [z, ea] at e1
    cases e1) (e0.bs b o e).1
  have aL : hp0.objs.size ≠ a := Nat.ne_of_gt (Heap.lt_size ho)
  have hns4 : h4.Ns hp0.objs.size (fun x => List.lookup x (List.reverse ([x1, x2].zip [Value.ref a, u]))) := by
    obtain ⟨oL, es, ep, hL, r⟩ := hns
    exact ⟨oL, es, ep, k4 _ _ aL (k3 _ _ (k2' _ _ hL)), r⟩
  refine ks_wpAt_execs_cons (ks_wpAt_Assign_Attr (wpAt_of_wpAny (wpAny_Name (wpAny_loadName_local hk h2x hns4 k2 ?_) hd2)))
  refine wpAny_Name (wpAny_loadName_local hk h1 hns4 (k1 rfl) ?_) hd1
  refine PySem.W.set_plain X4 (ox := HandSPX.excO C t') (od := none) ⟨ho4, rfl, rfl, trivial⟩ F.T.sa ?_
  refine HandSPX.exc_osa X4 ho4 hcl (show HandSPX.refsVE (.ref C :: bm) = true from hbm) rfl F.hno (fun h' tk' dx k dn dne hx hn => ?_)
  refine wpAt_of_wpAny (wpAny_execs_nil ?_)
  have keep : ∀ b o, b ≠ a → hp0.get? b = some o → h'.get? b = some o := fun b o z e => k b o z (kall b o z e)
  have up : ∀ {b : Addr} {o : Obj}, hp0.get? b = some o → b ≠ dx := fun {b o} e z => by
    by_cases hb : b = a
    · exact dne (z ▸ hb)
    · have := Heap.lt_size (kall b o hb e)
      exact absurd dn (by rw [← z]; exact Nat.not_le.mpr this)
  have hnd : H dx = none := by
    obtain ⟨oL, es, ep, hL, _⟩ := hns4
    exact e0.hok.fresh (Nat.le_trans (Nat.le_of_lt (Heap.lt_size hL)) dn)
  have na : ∀ {b : Addr}, H b = none → b ≠ a := fun {b} n z => by
    rw [z, ea] at n
    cases n
  refine ⟨.non, upd (upd H dx (exd dx [(fld, y)])) a (exo a C (some dx)), rfl, e0.bare, {
    keep := fun b o z n _ _ => keep b o (na n) z
    slot := fun b o z n _ _ => ⟨o.slots, keep b o (na n) z⟩
    free := fun b o z n _ => by rw [upd_ne (na n), upd_ne (up z)]; exact n
    there := fun b o z _ => by
      by_cases hb : b = a
      · exact ⟨_, by rw [hb]; exact hx⟩
      · exact ⟨o, keep b o hb z⟩
    tups := fun b xs z => by rw [upd_ne (at_ne ea z exo_tup), upd_ne (ne_of_none z hnd)]; exact z
    frzs := fun b o v z => by rw [upd_ne (at_ne ea z exo_frz), upd_ne (ne_of_none z hnd)]; exact z
    tbls := fun b ps z => ⟨#[], by rw [upd_ne (at_ne ea z exo_tbl), upd_ne (ne_of_none z hnd), z]; simp⟩ }, fun b o z => ?_, rfl, q dx hnd dne⟩
  by_cases hb : b = a
  · subst hb
    rw [upd_same] at z
    cases z
    exact exo_ok hx
  · rw [upd_ne hb] at z
    by_cases hd : b = dx
    · subst hd
      rw [upd_same] at z
      cases z
      exact exd_ok hn (relO_put (fs := []) ry fun g => True.intro)
    · rw [upd_ne hd] at z
      exact (e0.hok b o z).stay (fun c v hc zz => keep c v (by
          rcases hc with hc | hc
          · rw [hc]
            exact hb
          · exact at_ne ea hc exo_own) zz)
        (fun c hc => by rw [upd_ne (at_ne ea hc exo_own), upd_ne (ne_of_none hc hnd)]; exact hc) (fun c xs hc => by rw [upd_ne (at_ne ea hc exo_tup), upd_ne (ne_of_none hc hnd)]; exact hc)
end
end Z

end
section
set_option maxHeartbeats 4000000
set_option autoImplicit false
/-! Z7: the context of a body, forms of the text, rules for expressions by their semantic readings. -/
namespace Z
open PySem PySem.Spec PyProof.Rows L2

/-! ### forms -/
def nS : Expr → Bool
  | .Starred _ _ => false
  | _ => true
def pB : Expr → Bool
  | .Call (.Name _ _) [] [] _ => false
  | _ => true
def nSl : Expr → Bool
  | .Slice _ _ _ _ => false
  | _ => true
def nSet : Expr → Bool
  | .Set _ _ _ => false
  | _ => true
def gT : Expr → Bool
  | .UnaryOp .Not _ _ => false
  | .BoolOp _ _ _ => false
  | .IfExp _ _ _ _ => false
  | .Compare _ _ _ _ => false
  | _ => true
def nC : Expr → Bool
  | .ListComp _ _ _ _ => false
  | .SetComp _ _ _ _ => false
  | .DictComp _ _ _ _ _ => false
  | _ => true
theorem starE {e : Expr} {es : List Expr} {env : PySem.Env} (h : nS e = true) : starEach (e :: es) env = (false, eval e env) :: starEach es env := by
  cases e <;> first | rfl | cases h
theorem starAny {es : List Expr} {env : PySem.Env} {pos : Pos} : es.all nS = true → (backTo pos (starEach es env)).any (·.1) = false := by
  induction es with
  | nil => intro _; rfl
  | cons e es ih =>
    intro h
    rw [List.all_cons, Bool.and_eq_true] at h
    rw [starE h.1]
    show (false || (backTo pos (starEach es env)).any (·.1)) = false
    rw [ih h.2]
    rfl
theorem starFew {es : List Expr} {env : PySem.Env} {pos : Pos} : es.all nS = true → (backTo pos (starEach es env)).all (fun x => !x.1) = true := by
  induction es with
  | nil => intro _; rfl
  | cons e es ih =>
    intro h
    rw [List.all_cons, Bool.and_eq_true] at h
    rw [starE h.1]
    show (!false && (backTo pos (starEach es env)).all (fun x => !x.1)) = true
    rw [ih h.2]
    rfl
theorem few30 {es : List Expr} {env : PySem.Env} {pos : Pos} (h : es.all nS = true) (hl : es.length < 29) :
    ((backTo pos (starEach es env)).all (fun x => !x.1) && (backToKw pos (keywordEach [] env)).all (fun x => x.1.isSome) && decide (es.length + ([] : List Keyword).length + (if ([] : List Keyword).isEmpty then 0 else 1) < 30)) = true := by
  rw [starFew h]
  show (true && true && decide (es.length + 0 + 0 < 30)) = true
  rw [decide_eq_true (by omega)]
  rfl
theorem baseP {o : Expr} {f : Str} {env : PySem.Env} {t : Sem Value} (h : pB o = true) : attributeBase o f env t = t := by
  unfold attributeBase
  split
  · exact absurd h (by simp [pB])
  · rfl
theorem isTG {e : Expr} {env : PySem.Env} {t : Sem Value} (h : gT e = true) : isTrue e env t = (do let v ← t; standAt e.pos; holding [v] (truthy v)) := by
  cases e with
  | UnaryOp o x p => cases o <;> first | rfl | cases h
  | _ => first | rfl | cases h
theorem plainIx {e : Expr} (h : nSl e = true) : PlainIx e := by
  intro o i
  cases e <;> first | rfl | cases h
theorem noMark {e : Expr} {op : CmpOp} (h : nSet e = true) : behindInMarks op e = false := by
  cases e <;> first | rfl | cases h
theorem swN {e : Expr} {t : Option Expr} {k : Nat} {env : PySem.Env} (h : nC e = true) : swapsWith e t k env = pure false := by
  cases e <;> first | rfl | cases h
theorem foldN {e : Expr} {env : PySem.Env} {v : Value} (h : nSet e = true) : foldedSetIterable e env v = pure v := by
  cases e <;> first | rfl | cases h

/-! ### environments -/
def EnvOk (G : Tx) (α : Al) (μ : Mu) (H : Hp) (ρ : Env) (σ : L2.St) : Prop := σ.length = ρ.length ∧ ∀ (i : Nat) (d : D), ρ[i]? = some (some d) → ∃ v, σ[i]? = some (some v) ∧ Rep G α μ H v d
section
variable {G : Tx} {α α' : Al} {μ μ' : Mu} {H H' : Hp} {ρ : Env} {σ : L2.St}
theorem EnvOk.ext (o : EnvOk G α μ H ρ σ) (e : Ext α μ H α' μ' H') : EnvOk G α' μ' H' ρ σ := ⟨o.1, fun i d h => by
  obtain ⟨v, h1, h2⟩ := o.2 i d h
  exact ⟨v, h1, h2.ext e⟩⟩
theorem EnvOk.set (o : EnvOk G α μ H ρ σ) {v : V} {d : D} (i : Nat) (r : Rep G α μ H v d) : EnvOk G α μ H (ρ.set i (some d)) (σ.set i (some v)) := by
  refine ⟨by rw [List.length_set, List.length_set]; exact o.1, fun j d' h => ?_⟩
  by_cases e : i = j
  · subst e
    by_cases hl : i < ρ.length
    · rw [List.getElem?_set_self hl] at h
      cases h
      exact ⟨v, by rw [List.getElem?_set_self (by rw [o.1]; exact hl)], r⟩
    · rw [List.getElem?_eq_none (by rw [List.length_set]; omega)] at h
      cases h
  · rw [List.getElem?_set_ne e] at h
    obtain ⟨w, h1, h2⟩ := o.2 j d' h
    exact ⟨w, by rw [List.getElem?_set_ne e]; exact h1, h2⟩
theorem EnvOk.forget (o : EnvOk G α μ H ρ σ) (i : Nat) : EnvOk G α μ H (ρ.set i none) (σ.set i none) := by
  refine ⟨by rw [List.length_set, List.length_set]; exact o.1, fun j d' h => ?_⟩
  by_cases e : i = j
  · subst e
    by_cases hl : i < ρ.length
    · rw [List.getElem?_set_self hl] at h
      cases h
    · rw [List.getElem?_eq_none (by rw [List.length_set]; omega)] at h
      cases h
  · rw [List.getElem?_set_ne e] at h
    obtain ⟨w, h1, h2⟩ := o.2 j d' h
    exact ⟨w, by rw [List.getElem?_set_ne e]; exact h1, h2⟩
theorem EnvOk.wipe (o : EnvOk G α μ H ρ σ) : ∀ vs : List Nat, EnvOk G α μ H (wipeE ρ vs) (L2.wipe σ vs)
  | [] => o
  | v :: vs => (EnvOk.wipe o vs).forget v
end

/-! ### promises -/
/-- an exception: its class, its fields, its dict -/
def ExcAt (G : Tx) (c : Nat) (pl : List D) (α : Al) (μ : Mu) (H : Hp) (d : Option Addr) : Prop := match pl with
  | [] => d = none
  | _ => ∃ a fs, d = some a ∧ H a = some (.xd fs) ∧ fs.map (·.1) = G.eF c ∧ RepL G α μ H (fs.map (·.2)) pl
def Wof (G : Tx) (E : XK) : XW := fun c pl α μ H => ∀ d, ExcAt G c pl α μ H d → E (.ref (G.eA c)) d H
def evOf (T : Tb) (n : Nat) : Ev := ⟨T.cls, T.globs, T.wf, callN T n⟩
def npOf (T : Tb) (f : Nat) : Nat := match T.fns[f]? with
  | some fi => fi.np
  | none => 0
def spZ (G : Tx) (n f : Nat) : Sp := fun vs H Q E => vs.length = npOf G.T f ∧ ∃ α μ ds, StOk G α μ H ∧ RepL G α μ H vs ds ∧ FinG G (RepR G) (Wof G E) α μ H (callN G.T n f ds μ) Q
def bltN : List Str := ["bool", "len", "int", "str", "list", "tuple", "dict", "any", "all", "sorted", "max", "isinstance", "zip", "enumerate", "range"]
/-- what is known of a def at depth n -/
structure FnF (G : Tx) (n f : Nat) : Prop where
  kp : PySem.W.keepIn G.K (.ref (G.fA f)) = true
  ok : ∃ fd ps, ps.length = npOf G.T f ∧ Binds G.K fd ps [] ∧ FnOk G.P G.w G.K G.mg G.base (L2.CX G.P G.w) (2 * n + 2) (G.fA f) fd ps (spZ G n f)
/-- what is known of a class -/
structure ClF (G : Tx) (c : Nat) (ci : ClsI) : Prop where
  cls : Cls G.K (G.cA c)
  make : Mk G.K (G.cA c) (G.fA ci.ini)
  na : ∀ a ∈ ci.fields, NoAttr G.K (G.cA c) (G.at_ a)
  nd : (ci.fields.map G.at_).Nodup
  few : ci.fields.length < 999
  me : ∀ m f, ci.meths.lookup m = some f → Meth G.K (G.cA c) (G.at_ m) (G.fA f) ∧ G.at_ m ∉ ci.fields.map G.at_
  eq : ∀ f, ci.eqm = some f → PySem.W.findIn G.K (.ref (G.cA c)) "__eq__" = some (some (.ref (G.fA f))) ∧ PySem.W.isFn G.K (.ref (G.fA f)) = true
  len : ∀ f, ci.lenm = some f → PySem.W.findIn G.K (.ref (G.cA c)) "__len__" = some (some (.ref (G.fA f))) ∧ PySem.W.isFn G.K (.ref (G.fA f)) = true
  pr : ∀ a f, ci.props.lookup a = some f → a ∉ ci.fields → ∃ p, PropOf G.K (G.cA c) (G.at_ a) p (G.fA f)
/-- what is known of an own error class with one field -/
structure ErF (G : Tx) (c : Nat) : Prop where
  ex : ∃ (fld : Str) (f : Addr) (fd : FuncData) (ps : List Str), G.eF c = [fld] ∧ Z.ExC G.P G.K G.mg (G.eA c) fld ∧ PySem.W.findIn G.K (.ref (G.eA c)) "__init__" = some (some (.ref f)) ∧ PySem.W.typeIn G.K (.ref f) = some (.type "function") ∧
    Binds G.K fd ps [] ∧ FnOk G.P G.w G.K G.mg G.base (L2.CX G.P G.w) 1 f fd ps (spI (G.eA c) fld) ∧ XfC G.K (G.eA c) ∧ L2.ExcC G.K (G.eA c) ∧ (∀ v, G.eA 0 = v → PySem.W.kitOne G.K (.ref (G.eA c)) (.ref v) = some true)
structure TxSt (G : Tx) (M : Nm) : Prop where
  glob : ∀ (g : Nat) (d : D) (x : Str), G.T.globs[g]? = some d → M.gl[g]? = some x → ∃ v u, G.mg x = some u ∧ RelV v u ∧ ∀ α μ H, Rep G α μ H v d
  fnm : ∀ (f : Nat) (x : Str), M.fn[f]? = some (some x) → G.mg x = some (.ref (G.fA f))
  fnn : ∀ (f : Nat) (x : Str), M.fn[f]? = some (some x) → PySem.W.keepIn G.K (.ref (G.fA f)) = true
  clm : ∀ (c : Nat) (x : Str), M.cl[c]? = some x → G.mg x = some (.ref (G.cA c))
  cls : ∀ (c : Nat) (ci : ClsI), G.T.cls[c]? = some ci → ClF G c ci
  atn : ∀ (a : Nat) (x : Str), M.at_[a]? = some x → G.at_ a = x
  blt : ∀ x ∈ bltN, G.mg x = none
  ncl : M.cl.length = G.T.cls.length
  isc : IsC G G.T.cls.length
  erm : ∀ (c : Nat) (x : Str), M.er[c]? = some x → G.mg x = some (.ref (G.eA c))
  eff : ∀ (c : Nat) (x : Str), 0 < c → M.ef[c]? = some x → G.eF c = [x]
  erf : ∀ c, 0 < c → c < M.er.length → ErF G c
  exm : ∀ c c', 0 < c → c < M.er.length → c' < M.er.length → PySem.W.exmOne G.K (.ref (G.eA c)) (.ref (G.eA c')) = some (decide (c' = 0 ∨ c' = c))
structure TxOk (G : Tx) (M : Nm) (n : Nat) : Prop extends TxSt G M where
  fnk : ∀ f, f < G.T.fns.length → FnF G n f
/-- what X makes of exceptions -/
structure XOk (G : Tx) (X : Cx) (Wx : WX) : Prop where
  tk : Takes X Wx
  po : PassesOwn (model X.prog X.w) X.A X.env X.xe
abbrev WW (G : Tx) (Wx : WX) (σ : L2.St) : XW := Wof G (L2.WE Wx σ)
end Z

end
section
set_option maxHeartbeats 4000000
set_option autoImplicit false
/-! Z8: the check that a ZAST stands for a written expression. -/
namespace Z
open PySem PySem.Spec PyProof.Rows L2
def visB (sc : Scope) (x : Str) : Bool := (match sc.names.lookup x with
  | some .local => true
  | some .cell => true
  | some .free => true
  | _ => false) && !(x == ("__debug__" : Str)) && !(x == ("__classdict__" : Str))
def locB (sc : Scope) (x : Str) : Bool := match sc.names.lookup x with
  | some .local => true
  | some .cell => true
  | _ => false
def glB (sc : Scope) (x : Str) : Bool := decide (sc.names.lookup x = some .globalImplicit) && !(x == ("__debug__" : Str)) && decide (x ≠ "__name__")
def strB (x : Str) (l : List Nat) : Bool := decide (x.cps.toList = l)
def nthIs (l : List Str) (i : Nat) (x : Str) : Bool := decide (l[i]? = some x)
def b1n : B1 → Str
  | .len => "len" | .int => "int" | .str => "str" | .list => "list" | .tuple => "tuple" | .dict => "dict"
  | .any => "any" | .all => "all" | .sorted => "sorted" | .max1 => "max" | _ => ""
def tagB (A : Ag) : Tag → Expr → Bool
  | .int, .Name x _ => decide (x = "int") && glB A.sc x
  | .bl, .Name x _ => decide (x = "bool") && glB A.sc x
  | .str, .Name x _ => decide (x = "str") && glB A.sc x
  | .tup, .Name x _ => decide (x = "tuple") && glB A.sc x
  | .lst, .Name x _ => decide (x = "list") && glB A.sc x
  | .dic, .Name x _ => decide (x = "dict") && glB A.sc x
  | .cls c, .Name x _ => nthIs A.nm.cl c x && glB A.sc x
  | _, _ => false
def tagsB (A : Ag) : List Tag → List Expr → Bool
  | t :: ts, e :: es => tagB A t e && tagsB A ts es
  | [], [] => true
  | _, _ => false
def isiB (A : Ag) (ts : List Tag) : Expr → Bool
  | .Tuple cs _ _ => tagsB A ts cs && decide (ts.length ≤ lim)
  | c => match ts with
    | [t] => tagB A t c
    | _ => false
mutual
def agTg (A : Ag) (own : List Nat) : ZT → Expr → Bool
  | .nm i, .Name x _ => nthIs A.N i x && locB A.sc x && own.contains i
  | .tp l, .Tuple es _ _ => agTgs A own l es
  | _, _ => false
def agTgs (A : Ag) (own : List Nat) : List ZT → List Expr → Bool
  | t :: l, e :: es => agTg A own t e && nS e && agTgs A own l es
  | [], [] => true
  | _, _ => false
end
def isTup : Expr → Bool
  | .Tuple _ _ _ => true
  | _ => false
/-- the expressions that a for's iterable is made of -/
def itArgs (A : Ag) (tg : Expr) : IK → Expr → Option (List Expr)
  | .seq, e => if nSet e then some [e] else none
  | .rng, .Call (.Name x _) es [] _ => if decide (x = "range") && glB A.sc x && es.all nS && (decide (es.length = 1) || decide (es.length = 2)) then some es else none
  | .enum, .Call (.Name x _) [e] [] _ => if decide (x = "enumerate") && glB A.sc x && nS e && isTup tg then some [e] else none
  | .zip, .Call (.Name x _) [e, e2] [] _ => if decide (x = "zip") && glB A.sc x && nS e && nS e2 && isTup tg then some [e, e2] else none
  | .items, .Call (.Attribute e x apos) [] [] cpos => if decide (x = "items") && pB e && (apos.endLine == cpos.line) && isTup tg then some [e] else none
  | .vals, .Call (.Attribute e x apos) [] [] cpos => if decide (x = "values") && pB e && (apos.endLine == cpos.line) then some [e] else none
  | _, _ => none
/-- which things of a display are starred -/
def dispB : List Bool → List Expr → Bool
  | [], [] => true
  | true :: st, .Starred _ _ :: es => dispB st es
  | false :: st, e :: es => nS e && dispB st es
  | _, _ => false
def unS : Expr → Expr
  | .Starred e _ => e
  | e => e
mutual
def agE (M : Nm) : ZE → List Str → Scope → Expr → Bool
  | .var i, N, sc, .Name x _ => nthIs N i x && visB sc x
  | .int i, _, _, .Constant (.int j) _ _ => decide (i = j)
  | .str l, _, _, .Constant (.str x) _ _ => strB x l
  | .bl b, _, _, .Constant (.bool c) _ _ => decide (b = c)
  | .non, _, _, .Constant .none _ _ => true
  | .glob g, _, sc, .Name x _ => nthIs M.gl g x && glB sc x
  | .bin o _ a b, N, sc, .BinOp l op r _ => decide (op = bo o) && agE M a N sc l && agE M b N sc r
  | .neg a, N, sc, .UnaryOp .USub x _ => agE M a N sc x
  | .not a, N, sc, .UnaryOp .Not x _ => agE M a N sc x
  | .and a b, N, sc, .BoolOp .And (x :: y :: r) pos => agE M a N sc x && (match r with
    | [] => agE M b N sc y
    | _ => agE M b N sc (.BoolOp .And (y :: r) pos))
  | .or a b, N, sc, .BoolOp .Or (x :: y :: r) pos => agE M a N sc x && (match r with
    | [] => agE M b N sc y
    | _ => agE M b N sc (.BoolOp .Or (y :: r) pos))
  | .cmp o a b, N, sc, .Compare l [op] [r] _ => decide (op = co o) && nSet r && agE M a N sc l && agE M b N sc r
  | .chain o o' a b c, N, sc, .Compare l [op, op'] [m, r] _ => decide (op = co o) && decide (op' = co o') && nSet m && nSet r && agE M a N sc l && agE M b N sc m && agE M c N sc r
  | .isN a, N, sc, .Compare l [.Is] [.Constant .none _ _] _ => agE M a N sc l
  | .notN a, N, sc, .Compare l [.IsNot] [.Constant .none _ _] _ => agE M a N sc l
  | .ite c a b, N, sc, .IfExp t x y _ => agE M c N sc t && agE M a N sc x && agE M b N sc y
  | .call f es, N, sc, .Call (.Name x _) as [] _ => decide (M.fn[f]? = some (some x)) && glB sc x && as.all nS && agEs M es N sc as
  | .make c es, N, sc, .Call (.Name x _) as [] _ => nthIs M.cl c x && glB sc x && as.all nS && agEs M es N sc as
  | .meth o m es, N, sc, .Call (.Attribute b x apos) as [] pos => nthIs M.at_ m x && pB b && (apos.endLine == pos.line) && as.all nS && decide (as.length < 29) && agE M o N sc b && agEs M es N sc as
  | .attr o n, N, sc, .Attribute b x _ => nthIs M.at_ n x && pB b && agE M o N sc b
  | .b1 k _ a, N, sc, .Call (.Name x _) [e] [] _ => decide (x = b1n k) && decide (x ≠ "") && glB sc x && nS e && agE M a N sc e
  | .max2 a b, N, sc, .Call (.Name x _) [e, e2] [] _ => decide (x = "max") && glB sc x && nS e && nS e2 && agE M a N sc e && agE M b N sc e2
  | .isi a ts, N, sc, .Call (.Name x _) [e, c] [] _ => decide (x = "isinstance") && glB sc x && nS e && agE M a N sc e && nS c && isiB ⟨N, sc, M⟩ ts c
  | .bm k o es, N, sc, .Call (.Attribute b x apos) as [] pos => decide (x = bmN k) && pB b && (apos.endLine == pos.line) && as.all nS && decide (as.length < 29) && agE M o N sc b && agEs M es N sc as
  | .sub a i, N, sc, .Subscript e b _ => nSl b && agE M a N sc e && agE M i N sc b
  | .slice _ a lo hi, N, sc, .Subscript e (.Slice l h none _) _ => agE M a N sc e && agEs M lo N sc l.toList && agEs M hi N sc h.toList
  | .lst _ es, N, sc, .List as _ => as.all nS && decide (as.length ≤ lim) && agEs M es N sc as
  | .tup es, N, sc, .Tuple as _ _ => as.all nS && decide (as.length ≤ lim) && agEs M es N sc as
  | .lstS _ st es, N, sc, .List as _ => dispB st as && agXs M es N sc as
  | .tupS st es, N, sc, .Tuple as _ _ => dispB st as && agXs M es N sc as
  | .lvals _ a, N, sc, .Call (.Name x _) [.Call (.Attribute e y apos) [] [] cpos] [] _ => decide (x = "list") && decide (y = "values") && glB sc x && pB e && (apos.endLine == cpos.line) && agE M a N sc e
  | .lc _ own t k it ifs e, N, sc, .ListComp x [⟨tg, iter, ts, 0⟩] scope _ => nSet iter && blkC N sc scope (own.filterMap fun i => N[i]?.map fun y => (y, i)) && decide (own.all fun i => decide (i < N.length)) && agTg ⟨N, scope, M⟩ own t tg &&
      (match itArgs ⟨N, sc, M⟩ tg k iter with
      | some as => agEs M it N sc as
      | none => false) && decide (ts.length ≤ 1) && agEs M ifs N scope ts && agE M e N scope x
  | .lc2 _ own t k it own2 t2 k2 it2 e, N, sc, .ListComp x [⟨tg, iter, [], 0⟩, ⟨tg2, iter2, [], 0⟩] scope _ => nSet iter && nSet iter2 && blkC N sc scope (own.filterMap fun i => N[i]?.map fun y => (y, i)) && decide (own.all fun i => decide (i < N.length)) && (own2.all fun i => own.contains i) && agTg ⟨N, scope, M⟩ own t tg && agTg ⟨N, scope, M⟩ own2 t2 tg2 &&
      (match itArgs ⟨N, sc, M⟩ tg k iter with
      | some as => agEs M it N sc as
      | none => false) &&
      (match itArgs ⟨N, scope, M⟩ tg2 k2 iter2 with
      | some as => agEs M it2 N scope as
      | none => false) && agE M e N scope x
  | .dc _ own t k it ifs ke ve, N, sc, .DictComp kx vx [⟨tg, iter, ts, 0⟩] scope _ => nSet iter && blkC N sc scope (own.filterMap fun i => N[i]?.map fun y => (y, i)) && decide (own.all fun i => decide (i < N.length)) && agTg ⟨N, scope, M⟩ own t tg &&
      (match itArgs ⟨N, sc, M⟩ tg k iter with
      | some as => agEs M it N sc as
      | none => false) && decide (ts.length ≤ 1) && agEs M ifs N scope ts && agE M ke N scope kx && agE M ve N scope vx
  | .dstar a k v, N, sc, .Dict [none, some ke] [ae, ve] _ => agE M a N sc ae && agE M k N sc ke && agE M v N sc ve
  | .dic _ es, N, sc, .Dict keys values _ => keys.all (·.isSome) && decide (keys.length = values.length) && decide (keys.length ≤ 15) && agPs M es N sc keys values
  | .dzip a b, N, sc, .Call (.Name x _) [.Call (.Name y _) [e, e2] [] _] [] _ => decide (x = "dict") && decide (y = "zip") && glB sc x && glB sc y && nS e && nS e2 && agE M a N sc e && agE M b N sc e2
  | .frz a, N, sc, e => gT e && agE M a N sc e
  | _, _, _, _ => false
def agEs (M : Nm) : ZEs → List Str → Scope → List Expr → Bool
  | .nil, _, _, [] => true
  | .cons z zs, N, sc, e :: es => agE M z N sc e && agEs M zs N sc es
  | _, _, _, _ => false
/-- as agEs, starred things by what is starred -/
def agXs (M : Nm) : ZEs → List Str → Scope → List Expr → Bool
  | .nil, _, _, [] => true
  | .cons z zs, N, sc, .Starred e _ :: es => agE M z N sc e && agXs M zs N sc es
  | .cons z zs, N, sc, e :: es => agE M z N sc e && agXs M zs N sc es
  | _, _, _, _ => false
def agPs (M : Nm) : ZEs → List Str → Scope → List (Option Expr) → List Expr → Bool
  | .nil, _, _, [], [] => true
  | .cons k (.cons v r), N, sc, some ke :: ks, ve :: vs => agE M k N sc ke && agE M v N sc ve && agPs M r N sc ks vs
  | _, _, _, _, _ => false
end
end Z

end
section
set_option maxHeartbeats 4000000
set_option autoImplicit false
/-! Z9: expressions, one by one: what the interpreter says holds. -/
namespace Z
open PySem PySem.Spec PyProof.Rows L2
structure Here (G : Tx) (n : Nat) (A : Ag) (X : Cx) (Wx : WX) : Prop where
  c : CtxOk G (2 * n + 3) A X
  t : TxOk G A.nm n
  x : XOk G X Wx
def SndE (G : Tx) (M : Nm) (n : Nat) (z : ZE) : Prop := ∀ (N : List Str) (sc : Scope) (X : Cx) (Wx : WX) (e : Expr) (α : Al) (μ : Mu) (ρ : Env) (σ : L2.St) (H : Hp) (Q : VK),
  Here G n ⟨N, sc, M⟩ X Wx → agE M z N sc e = true → StOk G α μ H → EnvOk G α μ H ρ σ → Fin1 G (WW G Wx σ) α μ H (evalE (evOf G.T n) z ρ μ) Q → WE X e σ H Q
def SndEs (G : Tx) (M : Nm) (n : Nat) (z : ZEs) : Prop := ∀ (N : List Str) (sc : Scope) (X : Cx) (Wx : WX) (es : List Expr) (α : Al) (μ : Mu) (ρ : Env) (σ : L2.St) (H : Hp) (Q : List V → Hp → Prop),
  Here G n ⟨N, sc, M⟩ X Wx → agEs M z N sc es = true → es.all nS = true → StOk G α μ H → EnvOk G α μ H ρ σ → FinL G (WW G Wx σ) α μ H (evalEs (evOf G.T n) z ρ μ) Q → WA X es σ H Q
/-- a test's wish, of a value -/
def tstQ (Q : Bool → Hp → Prop) : VK := fun v H => ∃ b, v = .bl b ∧ Q b H
def SndT (G : Tx) (M : Nm) (n : Nat) (z : ZE) : Prop := ∀ (N : List Str) (sc : Scope) (X : Cx) (Wx : WX) (e : Expr) (α : Al) (μ : Mu) (ρ : Env) (σ : L2.St) (H : Hp) (Q : Bool → Hp → Prop),
  Here G n ⟨N, sc, M⟩ X Wx → agE M z N sc e = true → StOk G α μ H → EnvOk G α μ H ρ σ → Fin1 G (WW G Wx σ) α μ H (evalE (evOf G.T n) z ρ μ) (tstQ Q) → WT X e σ H Q
theorem band {a b : Bool} (h : (a && b) = true) : a = true ∧ b = true := Bool.and_eq_true_iff.mp h
theorem bnot {a : Bool} (h : (!a) = true) : a = false := by cases a <;> first | rfl | cases h
section
variable {G : Tx} {M : Nm} {n : Nat}
theorem vis_of {N : List Str} {sc : Scope} {X : Cx} {Wx : WX} {x : Str} (hr : Here G n ⟨N, sc, M⟩ X Wx) (h : visB sc x = true) : Vis X.env.scope x ∧ (x == ("__debug__" : Str)) = false ∧ (x == ("__classdict__" : Str)) = false := by
  obtain ⟨h12, h3⟩ := band h
  obtain ⟨h1, h2⟩ := band h12
  refine ⟨?_, bnot h2, bnot h3⟩
  have key : ∀ k, sc.names.lookup x = some k → k = .local ∨ k = .cell ∨ k = .free → Vis X.env.scope x := fun k e hk => by
    rcases hr.c.sco x k e with q | ⟨q1, q2⟩
    · rcases hk with rfl | rfl | rfl
      · exact .inl q
      · exact .inr (.inl q)
      · exact .inr (.inr q)
    · exact .inr (.inl q2)
  split at h1
  · rename_i e; exact key _ e (.inl rfl)
  · rename_i e; exact key _ e (.inr (.inl rfl))
  · rename_i e; exact key _ e (.inr (.inr rfl))
  · cases h1
theorem gl_of {N : List Str} {sc : Scope} {X : Cx} {Wx : WX} {x : Str} (hr : Here G n ⟨N, sc, M⟩ X Wx) (h : glB sc x = true) : Gl X x ∧ (x == ("__debug__" : Str)) = false ∧ x ≠ "__name__" := by
  obtain ⟨h12, h3⟩ := band h
  obtain ⟨h1, h2⟩ := band h12
  have e := of_decide_eq_true h1
  refine ⟨?_, bnot h2, of_decide_eq_true h3⟩
  rcases hr.c.sco x _ e with q | ⟨q1, q2⟩
  · exact q
  · cases q1
theorem snd_var {i : Nat} : SndE G M n (.var i) := by
  intro N sc X Wx e α μ ρ σ H Q hr h st en f
  cases e with
  | Name x pos =>
    obtain ⟨h1, h2⟩ := band (show (nthIs N i x && visB sc x) = true from h)
    obtain ⟨v1, v2, v3⟩ := vis_of hr h2
    have f' : Fin1 G (WW G Wx σ) α μ H (match ρ[i]? with
      | some (some d) => .ok d μ
      | _ => .err) Q := f
    split at f'
    · rename_i d ed
      obtain ⟨v, e1, r⟩ := en.2 i d ed
      refine WE.of (pe_var (i := i) (by rw [hr.c.N]; exact of_decide_eq_true h1) v1 v2 v3) ⟨v, e1, f'.now st r⟩
    · exact f'.elim
  | _ => cases h
theorem snd_int {i : Int} : SndE G M n (.int i) := by
  intro N sc X Wx e α μ ρ σ H Q hr h st en f
  cases e with
  | Constant c j pos =>
    cases c with
    | int k =>
      have e : i = k := of_decide_eq_true h
      subst e
      exact WE.of pe_int (FinG.now f st (.int i))
    | _ => cases h
  | _ => cases h
theorem snd_str {l : List Nat} : SndE G M n (.str l) := by
  intro N sc X Wx e α μ ρ σ H Q hr h st en f
  cases e with
  | Constant c j pos =>
    cases c with
    | str x =>
      have e : x.cps.toList = l := of_decide_eq_true h
      have e2 : x = toStr l := by rw [← e]; unfold toStr; simp
      subst e2
      exact WE.of pe_str (FinG.now f st (.str l))
    | _ => cases h
  | _ => cases h
theorem snd_bl {b : Bool} : SndE G M n (.bl b) := by
  intro N sc X Wx e α μ ρ σ H Q hr h st en f
  cases e with
  | Constant c j pos =>
    cases c with
    | bool k =>
      have e : b = k := of_decide_eq_true h
      subst e
      exact WE.of pe_bl (FinG.now f st (.bl b))
    | _ => cases h
  | _ => cases h
theorem snd_non : SndE G M n .non := by
  intro N sc X Wx e α μ ρ σ H Q hr h st en f
  cases e with
  | Constant c j pos =>
    cases c with
    | none => exact WE.of pe_non (FinG.now f st .non)
    | _ => cases h
  | _ => cases h
theorem snd_glob {g : Nat} : SndE G M n (.glob g) := by
  intro N sc X Wx e α μ ρ σ H Q hr h st en f
  cases e with
  | Name x pos =>
    obtain ⟨h1, h2⟩ := band (show (nthIs M.gl g x && glB sc x) = true from h)
    obtain ⟨v1, v2, v3⟩ := gl_of hr h2
    have f' : Fin1 G (WW G Wx σ) α μ H (match G.T.globs[g]? with
      | some d => .ok d μ
      | none => .err) Q := f
    split at f'
    · rename_i d ed
      obtain ⟨v, u, e1, r, rp⟩ := hr.t.glob g d x ed (of_decide_eq_true h1)
      exact WE.of (pe_glob v1 (by rw [hr.c.mg]; exact e1) r v2) (f'.now st (rp α μ H))
    · exact f'.elim
  | _ => cases h
theorem snd_bin {o : Bo} {m : Bool} {a b : ZE} (ha : SndE G M n a) (hb : SndE G M n b) : SndE G M n (.bin o m a b) := by
  intro N sc X Wx e α μ ρ σ H Q hr h st en f
  cases e with
  | BinOp l op r pos =>
    obtain ⟨h12, h3⟩ := band (show (decide (op = bo o) && agE M a N sc l && agE M b N sc r) = true from h)
    obtain ⟨h1, h2⟩ := band h12
    obtain rfl := of_decide_eq_true h1
    refine we_bin (ha N sc X Wx l α μ ρ σ H _ hr h2 st en (FinG.bind f fun d μ1 α1 H1 v e1 ex1 s1 r1 f1 => ?_))
    refine hb N sc X Wx r α1 μ1 ρ σ H1 _ hr h3 s1 (en.ext ex1) (FinG.bind f1 fun d2 μ2 α2 H2 v2 e2 ex2 s2 r2 f2 => ?_)
    exact opB_ok s2 hr.c (r1.ext ex2) r2 f2
  | _ => cases h
theorem snd_neg {a : ZE} (ha : SndE G M n a) : SndE G M n (.neg a) := by
  intro N sc X Wx e α μ ρ σ H Q hr h st en f
  cases e with
  | UnaryOp op x pos =>
    cases op with
    | USub =>
      refine WE.of (pe_un un_neg pe_we) (ha N sc X Wx x α μ ρ σ H _ hr h st en (FinG.bind f fun d μ1 α1 H1 v e1 ex1 s1 r1 f1 => ?_))
      cases d with
      | int i => cases r1; exact ⟨i, rfl, FinG.now f1 s1 (.int _)⟩
      | _ => exact (show False from f1).elim
    | _ => cases h
  | _ => cases h
theorem snd_not {a : ZE} (ha : SndE G M n a) : SndE G M n (.not a) := by
  intro N sc X Wx e α μ ρ σ H Q hr h st en f
  cases e with
  | UnaryOp op x pos =>
    cases op with
    | Not =>
      refine WE.of (pe_not pe_we) (ha N sc X Wx x α μ ρ σ H _ hr h st en (FinG.bind f fun d μ1 α1 H1 v e1 ex1 s1 r1 f1 => ?_))
      cases d with
      | bl i => cases r1; exact ⟨i, rfl, FinG.now f1 s1 (.bl _)⟩
      | _ => exact (show False from f1).elim
    | _ => cases h
  | _ => cases h
theorem snd_and {a b : ZE} (ha : SndE G M n a) (hb : SndE G M n b) : SndE G M n (.and a b) := by
  intro N sc X Wx e α μ ρ σ H Q hr h st en f
  cases e with
  | BoolOp op vs pos =>
    cases op with
    | Or => cases h
    | And =>
      cases vs with
      | nil => cases h
      | cons x vs =>
        cases vs with
        | nil => cases h
        | cons y r =>
          have h1 : agE M a N sc x = true := by
            cases r with
            | nil => exact (band (show (agE M a N sc x && agE M b N sc y) = true from h)).1
            | cons z r => exact (band (show (agE M a N sc x && agE M b N sc (.BoolOp .And (y :: z :: r) pos)) = true from h)).1
          have go : ∀ Y : Expr, PE X (.BoolOp .And (y :: r) pos) (WE X Y) → agE M b N sc Y = true → WE X (.BoolOp .And (x :: y :: r) pos) σ H Q := fun Y hY h2 => by
            refine WE.of (pe_and pe_we hY) (ha N sc X Wx x α μ ρ σ H _ hr h1 st en (FinG.bind f fun d μ1 α1 H1 v e1 ex1 s1 r1 f1 => ?_))
            cases d with
            | bl i =>
              cases r1
              refine ⟨i, rfl, ?_⟩
              cases i with
              | true =>
                refine hb N sc X Wx Y α1 μ1 ρ σ H1 _ hr h2 s1 (en.ext ex1) (FinG.bind f1 fun d2 μ2 α2 H2 v2 e2 ex2 s2 r2 f2 => ?_)
                cases d2 with
                | bl j => exact FinG.now f2 s2 r2
                | _ => exact (show False from f2).elim
              | false => exact FinG.now f1 s1 (.bl _)
            | _ => exact (show False from f1).elim
          cases r with
          | nil => exact go y (pe_one pe_we) (band (show (agE M a N sc x && agE M b N sc y) = true from h)).2
          | cons z r => exact go _ pe_we (band (show (agE M a N sc x && agE M b N sc (.BoolOp .And (y :: z :: r) pos)) = true from h)).2
  | _ => cases h
theorem snd_or {a b : ZE} (ha : SndE G M n a) (hb : SndE G M n b) : SndE G M n (.or a b) := by
  intro N sc X Wx e α μ ρ σ H Q hr h st en f
  cases e with
  | BoolOp op vs pos =>
    cases op with
    | And => cases h
    | Or =>
      cases vs with
      | nil => cases h
      | cons x vs =>
        cases vs with
        | nil => cases h
        | cons y r =>
          have h1 : agE M a N sc x = true := by
            cases r with
            | nil => exact (band (show (agE M a N sc x && agE M b N sc y) = true from h)).1
            | cons z r => exact (band (show (agE M a N sc x && agE M b N sc (.BoolOp .Or (y :: z :: r) pos)) = true from h)).1
          have go : ∀ Y : Expr, PE X (.BoolOp .Or (y :: r) pos) (WE X Y) → agE M b N sc Y = true → WE X (.BoolOp .Or (x :: y :: r) pos) σ H Q := fun Y hY h2 => by
            refine WE.of (pe_or pe_we hY) (ha N sc X Wx x α μ ρ σ H _ hr h1 st en (FinG.bind f fun d μ1 α1 H1 v e1 ex1 s1 r1 f1 => ?_))
            cases d with
            | bl i =>
              cases r1
              refine ⟨i, rfl, ?_⟩
              cases i with
              | false =>
                refine hb N sc X Wx Y α1 μ1 ρ σ H1 _ hr h2 s1 (en.ext ex1) (FinG.bind f1 fun d2 μ2 α2 H2 v2 e2 ex2 s2 r2 f2 => ?_)
                cases d2 with
                | bl j => exact FinG.now f2 s2 r2
                | _ => exact (show False from f2).elim
              | true => exact FinG.now f1 s1 (.bl _)
            | _ => exact (show False from f1).elim
          cases r with
          | nil => exact go y (pe_one pe_we) (band (show (agE M a N sc x && agE M b N sc y) = true from h)).2
          | cons z r => exact go _ pe_we (band (show (agE M a N sc x && agE M b N sc (.BoolOp .Or (y :: z :: r) pos)) = true from h)).2
  | _ => cases h
end
end Z

end
section
set_option maxHeartbeats 4000000
set_option autoImplicit false
/-! Z10: expressions, one by one, 2. -/
namespace Z
open PySem PySem.Spec PyProof.Rows L2
section
variable {G : Tx} {M : Nm} {n : Nat}
theorem snd_isN {a : ZE} (ha : SndE G M n a) : SndE G M n (.isN a) := by
  intro N sc X Wx e α μ ρ σ H Q hr h st en f
  cases e with
  | Compare l ops rs pos =>
    match ops, rs, h with
    | [.Is], [.Constant .none j p], h =>
      refine WE.of (pe_cmp (pc_isN pe_we) rfl) (ha N sc X Wx l α μ ρ σ H _ hr h st en (FinG.bind f fun d μ1 α1 H1 v e1 ex1 s1 r1 f1 => ?_))
      have q := FinG.now f1 s1 (.bl _)
      cases r1 <;> exact q
  | _ => cases h
theorem snd_notN {a : ZE} (ha : SndE G M n a) : SndE G M n (.notN a) := by
  intro N sc X Wx e α μ ρ σ H Q hr h st en f
  cases e with
  | Compare l ops rs pos =>
    match ops, rs, h with
    | [.IsNot], [.Constant .none j p], h =>
      refine WE.of (pe_cmp (pc_notN pe_we) rfl) (ha N sc X Wx l α μ ρ σ H _ hr h st en (FinG.bind f fun d μ1 α1 H1 v e1 ex1 s1 r1 f1 => ?_))
      have q := FinG.now f1 s1 (.bl _)
      cases r1 <;> exact q
  | _ => cases h

/-! ### calls -/
theorem callN_ok {β : Type} {rel : Rel D β} {W : XW} {α : Al} {μ0 μ : Mu} {H : Hp} {T : Tb} {k f : Nat} {ds : List D} {Q : β → Hp → Prop} (h : FinG G rel W α μ0 H (callN T k f ds μ) Q) : f < T.fns.length ∧ ds.length = npOf T f := by
  cases k with
  | zero => exact (show False from h).elim
  | succ k =>
    have h' : FinG G rel W α μ0 H (match T.fns[f]? with
      | some fi => if ds.length = fi.np then
          (evalSs ⟨T.cls, T.globs, T.wf, callN T k⟩ fi.body (ds.map some ++ List.replicate (fi.ns - fi.np) none) μ).bind fun r μ1 => match r with
          | .nx _ => .ok .non μ1
          | .rt d => .ok d μ1
        else .err
      | none => .err) Q := h
    unfold npOf
    cases e : T.fns[f]? with
    | none => rw [e] at h'; exact (show False from h').elim
    | some fi =>
      rw [e] at h'
      refine ⟨(List.getElem?_eq_some_iff.mp e).1, ?_⟩
      by_cases hl : ds.length = fi.np
      · exact hl
      · dsimp only at h'
        rw [if_neg hl] at h'
        exact (show False from h').elim
theorem run_of {N : List Str} {sc : Scope} {X : Cx} {Wx : WX} {f : Nat} {α : Al} {μ : Mu} {H : Hp} {σ : L2.St} {ds : List D} {vs : List V} {Q : VK} (hr : Here G n ⟨N, sc, M⟩ X Wx) (st : StOk G α μ H) (rp : RepL G α μ H vs ds)
    (h : Fin1 G (WW G Wx σ) α μ H (callN G.T n f ds μ) Q) {pins : List (Addr × Obj)} {s : Shared} {us : List Value} (I : Inv X pins σ H s) (r : Vals vs us) : wpAny (model X.prog X.w) X.A (call (.ref (G.fA f)) us) (EP X pins σ Q) X.xe s := by
  obtain ⟨h1, h2⟩ := callN_ok h
  obtain ⟨fd, ps, e1, e2, F⟩ := (hr.t.fnk f h1).ok
  have F' : FnOk X.prog X.w X.K X.mg X.base (L2.CX X.prog X.w) (2 * n + 2) (G.fA f) fd ps (spZ G n f) := by rw [hr.c.prog, hr.c.w, hr.c.K, hr.c.mg, hr.c.base]; exact F
  exact run_fnS (E := L2.WE Wx) F' (hr.c.room.mono (by omega)) (by rw [hr.c.K]; exact e2) (passAt hr.x.tk σ) I r ⟨by rw [rp.len]; exact h2, α, μ, ds, st, rp, h⟩
theorem es_nil {zs : ZEs} {N : List Str} {sc : Scope} (h : agEs M zs N sc [] = true) : zs = .nil := by
  cases zs with
  | nil => rfl
  | cons z zs => cases h
theorem args_call {β : Type} {rel : Rel β V} {N : List Str} {sc : Scope} {X : Cx} {Wx : WX} {α : Al} {μ : Mu} {ρ : Env} {H : Hp} {σ : L2.St} {zs : ZEs} {as : List Expr} {k : List D → Mu → R β} {Q : VK} {u : Value} {first : List Value} {pos : Pos}
    (hs : SndEs G M n zs) (hr : Here G n ⟨N, sc, M⟩ X Wx) (h4 : agEs M zs N sc as = true) (h3 : as.all nS = true) (st : StOk G α μ H) (en : EnvOk G α μ H ρ σ)
    (fi : FinG G rel (WW G Wx σ) α μ H ((evalEs (evOf G.T n) zs ρ μ).bind k) Q) (hk : PySem.W.keepIn X.K u = true)
    (hc : ∀ ds μ1 α1 H1 vs, Ext α μ H α1 μ1 H1 → StOk G α1 μ1 H1 → RepL G α1 μ1 H1 vs ds → FinG G rel (WW G Wx σ) α1 μ1 H1 (k ds μ1) Q → ∀ pins s us, Inv X pins σ H1 s → Vals vs us → wpAny (model X.prog X.w) X.A (call u (first ++ us)) (EP X pins σ Q) X.xe s) :
    ∀ pins s, Inv X pins σ H s → wpAny (model X.prog X.w) X.A (callWith pos u first (backTo pos (starEach as X.env)) (backToKw pos (keywordEach [] X.env))) (EP X pins σ Q) X.xe s := by
  intro pins s I
  cases as with
  | nil =>
    obtain rfl := es_nil h4
    have f1 : FinG G rel (WW G Wx σ) α μ H (k [] μ) Q := fi
    exact PySem.W.callWith_K0 I.kIn hk (hc [] μ α H [] Ext.refl st .nil f1 pins s [] I .nil)
  | cons a as =>
    have h3' := band (show (nS a && as.all nS) = true from h3)
    have wa : WA X (a :: as) σ H (fun vs H1 => ∀ pins s us, Inv X pins σ H1 s → Vals vs us → wpAny (model X.prog X.w) X.A (call u (first ++ us)) (EP X pins σ Q) X.xe s) :=
      hs N sc X Wx (a :: as) α μ ρ σ H _ hr h4 h3 st en (FinG.bind fi fun ds μ1 α1 H1 vs e1 ex1 s1 r1 f1 => hc ds μ1 α1 H1 vs ex1 s1 r1 f1)
    exact PySem.W.callWith_K (h₀ := X.base) I.ok.mod.kin hk (thn (wa pos pins s I) fun us s1 ⟨vs, H1, I1, r, q⟩ => ⟨I1.kIn, q pins s1 us I1 r⟩) (starE h3'.1) (starAny h3'.2)
theorem snd_call {f : Nat} {zs : ZEs} (hs : SndEs G M n zs) : SndE G M n (.call f zs) := by
  intro N sc X Wx e α μ ρ σ H Q hr h st en fi
  cases e with
  | Call fn as kws pos =>
    match fn, kws, h with
    | .Name x p, [], h =>
      obtain ⟨h123, h4⟩ := band (show (decide (M.fn[f]? = some (some x)) && glB sc x && as.all nS && agEs M zs N sc as) = true from h)
      obtain ⟨h12, h3⟩ := band h123
      obtain ⟨h1, h2⟩ := band h12
      obtain ⟨v1, v2, v3⟩ := gl_of hr h2
      have hm : X.mg x = some (.ref (G.fA f)) := by rw [hr.c.mg]; exact hr.t.fnm f x (of_decide_eq_true h1)
      intro pins s I
      refine wpAny_Call_Name_kw (ld_glob I v1 hm ?_ v2)
      refine args_call (first := []) (k := fun ds μ1 => callN G.T n f ds μ1) hs hr h4 h3 st en fi ?_ (fun ds μ1 α1 H1 vs ex1 s1 r1 f1 pins s us I r => run_of hr s1 r1 f1 I r) pins s I
      rw [hr.c.K]
      exact hr.t.fnn f x (of_decide_eq_true h1)
  | _ => cases h

/-! ### instances -/
theorem lookup_at {names : List Str} (nd : names.Nodup) : ∀ {fs : List (Str × V)} {k j : Nat} {f : Str} {v : V}, fs.map (·.1) = names.take k → names[j]? = some f → (fs.map (·.2))[j]? = some v → fs.lookup f = some v := by
  induction names with
  | nil => intro fs k j f v _ h; simp at h
  | cons x names ih =>
    intro fs k j f v hm hj hv
    cases fs with
    | nil => simp at hv
    | cons q fs =>
      obtain ⟨y, w⟩ := q
      cases k with
      | zero => simp at hm
      | succ k =>
        rw [List.take_succ_cons, List.map_cons] at hm
        obtain ⟨e1, e2⟩ := List.cons.inj hm
        have e1' : y = x := e1
        subst e1'
        have nd' := List.nodup_cons.mp nd
        cases j with
        | zero =>
          have ej : some y = some f := by simpa using hj
          have ev : some w = some v := by simpa using hv
          cases ej
          cases ev
          simp
        | succ j =>
          have hj' : names[j]? = some f := by simpa using hj
          have hne : ¬ f = y := fun z => nd'.1 (by rw [← z]; exact List.mem_of_getElem? hj')
          rw [List.lookup_cons, beq_false_of_ne hne]
          exact ih nd'.2 (k := k) (j := j) e2 hj' (by simpa using hv)
theorem fields_of {c : Nat} {ci : ClsI} (e : G.T.cls[c]? = some ci) : fieldsOf G c = ci.fields.map G.at_ := by
  unfold fieldsOf
  rw [e]
theorem no_field {names : List Str} : ∀ {fs : List (Str × V)} {k : Nat} {f : Str}, fs.map (·.1) = names.take k → f ∉ names → fs.lookup f = none := by
  intro fs k f hm hn
  cases e : fs.lookup f with
  | none => rfl
  | some v =>
    have h1 := PySem.mem_of_lookup e
    have h2 : f ∈ fs.map (·.1) := List.mem_map.mpr ⟨_, h1, rfl⟩
    rw [hm] at h2
    exact (hn (List.mem_of_mem_take h2)).elim
/-- an attribute's value -/
def SA (X : Cx) (x : V) (f : Str) (H : Hp) (Q : VK) : Prop := ∀ pins s σ v b, Inv X pins σ H s → RelV x v → wpAny (model X.prog X.w) X.A (getAttr v f b) (EP X pins σ Q) X.xe s
theorem pure1_fin {β γ : Type} {rel : Rel β γ} {W W' : XW} {α : Al} {μ : Mu} {H : Hp} {r : R β} {Q : γ → Hp → Prop} (h : FinG G rel W α μ H r.pure1 Q) : FinG G rel W' α μ H r Q := by
  cases r with
  | ok d m => exact h
  | exc c pl m => exact (show False from h).elim
  | err => exact h
theorem xF {X : Cx} : Passes (L2.CX X.prog X.w) X.nox (fun _ _ _ => False) := passes_call (W := fun _ _ _ _ => False) (fun u s' h => by
  obtain ⟨a, B, sI, pins, σ, H, cls, d, e, I, nb, up, sky, na, os, ag, w⟩ := h
  exact w) (fun _ _ _ _ h => h)
theorem getA_ok {N : List Str} {sc : Scope} {X : Cx} {Wx : WX} {α : Al} {μ : Mu} {H : Hp} {W : XW} {a : Nat} {x : D} {vx : V} {Q : VK} {nm : Str} (hr : Here G n ⟨N, sc, M⟩ X Wx) (st : StOk G α μ H) (rx : Rep G α μ H vx x) (hn : M.at_[a]? = some nm)
    (h : Fin1 G W α μ H (getA (evOf G.T n) x a μ) Q) : SA X vx nm H Q := by
  have en := hr.t.atn a nm hn
  subst en
  unfold getA at h
  cases e : look μ x with
  | ins c l =>
    rw [e] at h
    dsimp only at h
    obtain ⟨p, dx, fs, rfl, hp, hm, rl⟩ := look_ins st rx e
    have h0 : Fin1 G W α μ H (match G.T.cls[c]? with
      | some ci => match ci.fields.idxOf? a with
        | some j => match l[j]? with
          | some d => .ok d μ
          | none => .err
        | none => match ci.props.lookup a with
          | some f => (callN G.T n f [x] μ).pure1
          | none => .err
      | none => .err) Q := h
    cases ec : G.T.cls[c]? with
    | none => rw [ec] at h0; exact (show False from h0).elim
    | some ci =>
      rw [ec] at h0
      dsimp only at h0
      have F := hr.t.cls c ci ec
      rw [fields_of ec] at hm
      intro pins s σ v b I rv
      cases rv
      cases ej : ci.fields.idxOf? a with
      | some j =>
        rw [ej] at h0
        dsimp only at h0
        cases ed : l[j]? with
        | none => rw [ed] at h0; exact (show False from h0).elim
        | some d =>
          rw [ed] at h0
          obtain ⟨v, ev, rv⟩ := rl.get ed
          have hj : ci.fields[j]? = some a := by
            have := List.findIdx?_eq_some_iff_getElem.mp ej
            obtain ⟨hlt, h1, _⟩ := this
            rw [List.getElem?_eq_getElem hlt]
            simpa using h1
          have hl : fs.lookup (G.at_ a) = some v := lookup_at F.nd hm (j := j) (by rw [List.getElem?_map, hj]; rfl) ev
          have hin : a ∈ ci.fields := List.mem_of_getElem? hj
          exact getattr_ok I hp (by rw [hr.c.K]; exact F.cls) (by rw [hr.c.K]; exact F.na a hin) hl fun u' s2 I2 ru => ⟨v, H, I2, ru, FinG.now h0 st rv⟩
      | none =>
        rw [ej] at h0
        dsimp only at h0
        cases ef : ci.props.lookup a with
        | none => rw [ef] at h0; exact (show False from h0).elim
        | some f =>
          rw [ef] at h0
          have hno : a ∉ ci.fields := by
            have := List.findIdx?_eq_none_iff.mp ej
            intro hin
            have := this a hin
            simp at this
          obtain ⟨pp, hp2⟩ := F.pr a f ef hno
          have h1 : Fin1 G (Wof G fun _ _ _ => False) α μ H (callN G.T n f [x] μ) Q := pure1_fin h0
          obtain ⟨k1, k2⟩ := callN_ok h1
          obtain ⟨fd, ps, e1, e2, FF⟩ := (hr.t.fnk f k1).ok
          have F' : FnOk X.prog X.w X.K X.mg X.base (L2.CX X.prog X.w) (2 * n + 2) (G.fA f) fd ps (spZ G n f) := by rw [hr.c.prog, hr.c.w, hr.c.K, hr.c.mg, hr.c.base]; exact FF
          exact getprop_ok (dvs := []) I hp (by rw [hr.c.K]; exact F.cls) (by rw [hr.c.K]; exact hp2) F' hr.c.room (by rw [hr.c.K]; exact e2) .nil xF ⟨k2, α, μ, [x], st, .cons rx .nil, h1⟩
  | _ => rw [e] at h; exact (show False from h).elim
theorem snd_attr {o : ZE} {a : Nat} (ho : SndE G M n o) : SndE G M n (.attr o a) := by
  intro N sc X Wx e α μ ρ σ H Q hr h st en fi
  cases e with
  | Attribute b x pos =>
    obtain ⟨h12, h3⟩ := band (show (nthIs M.at_ a x && pB b && agE M o N sc b) = true from h)
    obtain ⟨h1, h2⟩ := band h12
    intro pins s I
    refine attr_of (baseP h2) (thn (ho N sc X Wx b α μ ρ σ H _ hr h3 st en (FinG.bind fi fun d μ1 α1 H1 v e1 ex1 s1 r1 f1 => getA_ok hr s1 r1 (of_decide_eq_true h1) f1) pins s I) fun u s1 ⟨x, H1, I1, rx, q⟩ => ?_)
    exact q pins s1 σ u _ I1 rx
  | _ => cases h
end
end Z

end
section
set_option maxHeartbeats 4000000
set_option autoImplicit false
/-! Z11: expressions, one by one, 3: instances made, methods, built-in calls, items, displays. -/
namespace Z
open PySem PySem.Spec PyProof.Rows L2
section
variable {G : Tx} {M : Nm} {n : Nat}
theorem freeze_ok {α : Al} {μ : Mu} {H : Hp} {W : XW} {x : D} {vx : V} {Q : VK} (st : StOk G α μ H) (rx : Rep G α μ H vx x) (h : Fin1 G W α μ H (freeze x μ) Q) : Q vx H := by
  unfold freeze at h
  split at h
  · rename_i k
    cases rx with
    | ref hp =>
      split at h
      · rename_i l e
        obtain ⟨xs, h1, h2⟩ := st.cell k _ _ e hp
        have ex := ext_gone (α := α) (H := H) e rfl
        exact h α H _ ex (st.gone e rfl) (.lst h1 (gone_dead st e rfl hp) (h2.ext ex))
      · rename_i l e
        obtain ⟨xs, h1, h2⟩ := st.cell k _ _ e hp
        have ex := ext_gone (α := α) (H := H) e rfl
        exact h α H _ ex (st.gone e rfl) (.dic ⟨.inl h1, gone_dead st e rfl hp⟩ (h2.ext ex))
      · rename_i c l e
        obtain ⟨dx, fs, h1, h2, h3⟩ := st.cell k _ _ e hp
        have ex := ext_gone (α := α) (H := H) e rfl
        exact h α H _ ex (st.gone e rfl) (.ins h1 (gone_dead st e rfl hp) h2 (h3.ext ex))
      · exact (show False from h).elim
  · exact (show False from h).elim
theorem snd_frz {a : ZE} (ha : SndE G M n a) : SndE G M n (.frz a) := by
  intro N sc X Wx e α μ ρ σ H Q hr h st en f
  obtain ⟨_, h2⟩ := band (show (gT e && agE M a N sc e) = true from by cases e <;> exact h)
  exact ha N sc X Wx e α μ ρ σ H _ hr h2 st en (FinG.bind f fun d μ1 α1 H1 v e1 ex1 s1 r1 f1 => freeze_ok s1 r1 f1)
/-- a class is called: the new instance, its __init__ -/
theorem make_of {X : Cx} {C f : Addr} {k : Nat} {fd : FuncData} {ps : List Str} {sp : Sp} {EX : XK} {σ : L2.St} {H : Hp} {Q : VK} {vs : List V} {us : List Value} {pins : List (Addr × Obj)} {s : Shared} (mk : Mk X.K C f)
    (F : FnOk X.prog X.w X.K X.mg X.base (L2.CX X.prog X.w) k f fd ps sp) (rm : Room (k + 1) X.A) (bi : Binds X.K fd ps []) (px : PassesAt (L2.CX X.prog X.w) X σ EX) (I : Inv X pins σ H s) (rv : Vals vs us)
    (wish : ∀ x dx, H x = none → H dx = none → dx ≠ x → sp (.ref x :: vs) (upd (upd H dx (.own x)) x (.ins C dx [])) (fun v H2 => v = .non ∧ Q (.ref x) H2) EX) :
    wpAny (model X.prog X.w) X.A (call (.ref C) us) (EP X pins σ Q) X.xe s := by
  have w := wish (s.heap.objs.size + 1) s.heap.objs.size (I.hok.fresh (Nat.le_succ _)) (I.hok.fresh (Nat.le_refl _)) (Nat.ne_of_lt (Nat.lt_succ_self _))
  have J := Inv.made (C := C) I
  have rr : Vals (V.ref (s.heap.objs.size + 1) :: vs) (Value.ref (s.heap.objs.size + 1) :: us) := .cons rfl rv
  have bs := bi _ (Value.ref (s.heap.objs.size + 1) :: us) J.kIn (by rw [List.append_nil, ← rr.length]; exact F.len _ _ _ _ w)
  rw [List.append_nil] at bs
  have run := F.run _ X.stack _ _ ⟨Value.ref (s.heap.objs.size + 1) :: us, []⟩ _ _ _ EX (rm.make C us []) (J.env0.make C us []) bs rr w
  refine wpAny_call (make_map (f := f) I.kIn mk.makes mk.init (beq_iff_eq.mp mk.fn) (codeAny_mono run fun r s' back => ?_))
  match r, back with
  | .error er, back => exact px pins _ _ er s' J back
  | .ok (.ret u), back =>
    obtain ⟨v, H', J', rv', ev, q⟩ := J.after back
    subst ev
    exact ⟨rv', .ref (s.heap.objs.size + 1), H', J', rfl, q⟩
theorem mkI_ok {N : List Str} {sc : Scope} {X : Cx} {Wx : WX} {c : Nat} {α : Al} {μ : Mu} {H : Hp} {σ : L2.St} {ds : List D} {vs : List V} {Q : VK} (hr : Here G n ⟨N, sc, M⟩ X Wx) (st : StOk G α μ H) (rp : RepL G α μ H vs ds)
    (h : Fin1 G (WW G Wx σ) α μ H (mkI (evOf G.T n) c ds μ) Q) {pins : List (Addr × Obj)} {s : Shared} {us : List Value} (I : Inv X pins σ H s) (r : Vals vs us) : wpAny (model X.prog X.w) X.A (call (.ref (G.cA c)) us) (EP X pins σ Q) X.xe s := by
  unfold mkI at h
  have h0 : Fin1 G (WW G Wx σ) α μ H (match G.T.cls[c]? with
    | some ci => (callN G.T n ci.ini (.ref μ.length :: ds) (μ ++ [.ins c []])).bind fun d μ1 => match d with
      | .non => if ci.frz then freeze (.ref μ.length) μ1 else .ok (.ref μ.length) μ1
      | _ => .err
    | none => .err) Q := h
  cases ec : G.T.cls[c]? with
  | none => rw [ec] at h0; exact (show False from h0).elim
  | some ci =>
    rw [ec] at h0
    dsimp only at h0
    have F := hr.t.cls c ci ec
    have hu : FinG G (fun _ _ _ (_ : Unit) (_ : D) => True) (WW G Wx σ) α μ H (callN G.T n ci.ini (.ref μ.length :: ds) (μ ++ [.ins c []])) (fun _ _ => True) := FinG.bind h0 fun _ _ _ _ _ _ _ _ _ _ => trivial
    have hk := callN_ok hu
    obtain ⟨fd, ps, e1, e2, FF⟩ := (hr.t.fnk ci.ini hk.1).ok
    have F' : FnOk X.prog X.w X.K X.mg X.base (L2.CX X.prog X.w) (2 * n + 2) (G.fA ci.ini) fd ps (spZ G n ci.ini) := by rw [hr.c.prog, hr.c.w, hr.c.K, hr.c.mg, hr.c.base]; exact FF
    refine make_of (by rw [hr.c.K]; exact F.make) F' hr.c.room (by rw [hr.c.K]; exact e2) (passAt hr.x.tk σ) I r fun x dx hx hdx hne => ?_
    have s1 := st.new (o := .own x) hdx
    have x1 := ext_new (o := .own x) st hdx
    have hx' : upd H dx (.own x) x = none := by rw [upd_ne (Ne.symm hne)]; exact hx
    have x2 := ext_cell (o := .ins (G.cA c) dx []) (c := .ins c []) s1 hx'
    have s2 := s1.push (o := .ins (G.cA c) dx []) (c := .ins c []) hx' ⟨dx, [], upd_same, by simp, .nil⟩
    have x3 := x1.trans x2
    have h1 := FinG.at_ h0 x3
    have rx : Rep G (α.push x) (μ ++ [.ins c []]) (upd (upd H dx (.own x)) x (.ins (G.cA c) dx [])) (.ref x) (.ref μ.length) := .ref (by rw [← st.len]; simp)
    refine ⟨?_, α.push x, μ ++ [.ins c []], .ref μ.length :: ds, s2, .cons rx (rp.ext x3), FinG.bind h1 fun d μ1 α1 H1 v e ex s3 r3 f3 => ?_⟩
    · rw [List.length_cons, rp.len]
      exact hk.2
    · cases d with
      | non =>
        cases r3
        refine ⟨rfl, ?_⟩
        have f3' : Fin1 G (WW G Wx σ) α1 μ1 H1 (if ci.frz = true then freeze (.ref μ.length) μ1 else .ok (.ref μ.length) μ1) Q := f3
        cases hf : ci.frz with
        | true =>
          rw [hf, if_pos rfl] at f3'
          exact freeze_ok s3 (rx.ext ex) f3'
        | false =>
          rw [hf, if_neg (by decide)] at f3'
          exact FinG.now f3' s3 (rx.ext ex)
      | _ => exact (show False from f3).elim
theorem snd_make {c : Nat} {zs : ZEs} (hs : SndEs G M n zs) : SndE G M n (.make c zs) := by
  intro N sc X Wx e α μ ρ σ H Q hr h st en fi
  cases e with
  | Call fn as kws pos =>
    match fn, kws, h with
    | .Name x p, [], h =>
      obtain ⟨h123, h4⟩ := band (show (nthIs M.cl c x && glB sc x && as.all nS && agEs M zs N sc as) = true from h)
      obtain ⟨h12, h3⟩ := band h123
      obtain ⟨h1, h2⟩ := band h12
      obtain ⟨v1, v2, v3⟩ := gl_of hr h2
      have hx := of_decide_eq_true h1
      have hm : X.mg x = some (.ref (G.cA c)) := by rw [hr.c.mg]; exact hr.t.clm c x hx
      have hc : c < G.T.cls.length := by rw [← hr.t.ncl]; exact (List.getElem?_eq_some_iff.mp hx).1
      intro pins s I
      refine wpAny_Call_Name_kw (ld_glob I v1 hm ?_ v2)
      refine args_call (first := []) (k := fun ds μ1 => mkI (evOf G.T n) c ds μ1) hs hr h4 h3 st en fi ?_ (fun ds μ1 α1 H1 vs ex1 s1 r1 f1 pins s us I r => mkI_ok hr s1 r1 f1 I r) pins s I
      rw [hr.c.K]
      exact (hr.t.cls c _ (List.getElem?_eq_getElem hc)).make.kp
  | _ => cases h
theorem meth_form {X : Cx} {o : Expr} {m : Str} {apos pos : Pos} {as : List Expr} (h1 : pB o = true) (h2 : (apos.endLine == pos.line) = true) (h3 : as.all nS = true) (h4 : as.length < 29) :
    eval (.Call (.Attribute o m apos) as [] pos) X.env = (do
      let ov ← eval o X.env
      standAt apos.atName
      let (f, first) ← holding [ov] (getMethod ov m (do return (← importBound o X.env).getD true))
      callWith pos f first (backTo pos (starEach as X.env)) (backToKw pos (keywordEach [] X.env))) := by
  have hf : methodCallForm (as.length + ([] : List Keyword).length) (backTo pos (starEach as X.env)) (backToKw pos (keywordEach [] X.env)) = true := few30 h3 h4
  have hp : methodCallPos true o X.env apos pos = pure pos := by unfold methodCallPos; simp [h2]
  rw [arm_eval_Call, baseP h1]
  unfold methodCall
  rw [hf, hp]
  rfl
theorem snd_meth {o : ZE} {m : Nat} {zs : ZEs} (ho : SndE G M n o) (hs : SndEs G M n zs) : SndE G M n (.meth o m zs) := by
  intro N sc X Wx e α μ ρ σ H Q hr h st en fi
  cases e with
  | Call fn as kws pos =>
    match fn, kws, h with
    | .Attribute b x apos, [], h =>
      have h' : (nthIs M.at_ m x && pB b && (apos.endLine == pos.line) && as.all nS && decide (as.length < 29) && agE M o N sc b && agEs M zs N sc as) = true := h
      simp only [Bool.and_eq_true] at h'
      obtain ⟨⟨⟨⟨⟨⟨h1, h2⟩, h3⟩, h4⟩, h5⟩, h6⟩, h7⟩ := h'
      have hat := hr.t.atn m x (of_decide_eq_true h1)
      subst hat
      intro pins s I
      have wo : WE X b σ H (fun v H1 => ∀ pins s u, Inv X pins σ H1 s → RelV v u → wpAny (model X.prog X.w) X.A (getMethod u (G.at_ m) (do return (← importBound b X.env).getD true)) (fun fx s₂ => wpAny (model X.prog X.w) X.A (callWith pos fx.1 fx.2 (backTo pos (starEach as X.env)) (backToKw pos (keywordEach [] X.env))) (EP X pins σ Q) X.xe s₂) X.xe s) := by
        refine ho N sc X Wx b α μ ρ σ H _ hr h6 st en (FinG.bind fi fun d μ1 α1 H1 v e1 ex1 s1 r1 f1 => ?_)
        intro pins s u I ru
        cases hk : methOf (evOf G.T n) m (look μ1 d) with
        | none => rw [hk] at f1; exact (show False from f1).elim
        | some ff =>
          rw [hk] at f1
          dsimp only at f1
          unfold methOf at hk
          split at hk
          · rename_i c l el
            have hk' : (match G.T.cls[c]? with
              | some ci => ci.meths.lookup m
              | none => none) = some ff := hk
            cases ec : G.T.cls[c]? with
            | none => rw [ec] at hk'; cases hk'
            | some ci =>
              rw [ec] at hk'
              have F := hr.t.cls c ci ec
              obtain ⟨M1, M2⟩ := F.me m ff hk'
              obtain ⟨p, dx, fs, rfl, hp, hm, rl⟩ := look_ins s1 r1 el
              rw [fields_of ec] at hm
              cases ru
              refine getmeth_ok I hp (by rw [hr.c.K]; exact F.cls) (by rw [hr.c.K]; exact M1) (no_field hm M2) ?_
              refine args_call (first := [.ref p]) (k := fun ds μ2 => callN G.T n ff (d :: ds) μ2) hs hr h7 h4 s1 (en.ext ex1) f1 (by rw [hr.c.K]; exact M1.kp) (fun ds μ2 α2 H2 vs ex2 s2 r2 f2 pins s us I r => ?_) pins s I
              exact run_of (ds := d :: ds) (vs := .ref p :: vs) hr s2 (.cons (r1.ext ex2) r2) f2 I (.cons rfl r)
          · cases hk
      exact PySem.W.methodCall_KW (thn (wo pins s I) fun u s1 ⟨v, H1, I1, rv, q⟩ => q pins s1 u I1 rv) (meth_form h2 h3 h4 (of_decide_eq_true h5))
  | _ => cases h
end
end Z

end
section
set_option maxHeartbeats 4000000
set_option autoImplicit false
/-! Z12: own ==, own len; comparisons, built-in calls, items, displays. -/
namespace Z
open PySem PySem.Spec PyProof.Rows L2
section
variable {G : Tx} {M : Nm} {n : Nat}
/-- a call that lets no exception out, at any depth -/
theorem run_pure {N : List Str} {sc : Scope} {X : Cx} {Wx : WX} {f : Nat} {α : Al} {μ : Mu} {H : Hp} {σ : L2.St} {W : XW} {ds : List D} {vs : List V} {Q : VK} (hr : Here G n ⟨N, sc, M⟩ X Wx) (st : StOk G α μ H) (rp : RepL G α μ H vs ds)
    (h : Fin1 G W α μ H (callN G.T n f ds μ).pure1 Q) {pins : List (Addr × Obj)} {s : Shared} {us : List Value} (I : Inv X pins σ H s) (r : Vals vs us) {A : Around} (rm : Room (2 * n + 2) A) (e0 : Env0 X.prog X.w X.K X.mg X.base A X.stack s H) {E' : Value → Shared → Prop} :
    wpAny (model X.prog X.w) A (call (.ref (G.fA f)) us) (EP X pins σ Q) E' s := by
  have h1 : Fin1 G (Wof G fun _ _ _ => False) α μ H (callN G.T n f ds μ) Q := pure1_fin h
  obtain ⟨k1, k2⟩ := callN_ok h1
  obtain ⟨fd, ps, e1, e2, F⟩ := (hr.t.fnk f k1).ok
  have F' : FnOk X.prog X.w X.K X.mg X.base (L2.CX X.prog X.w) (2 * n + 2) (G.fA f) fd ps (spZ G n f) := by rw [hr.c.prog, hr.c.w, hr.c.K, hr.c.mg, hr.c.base]; exact F
  have w : spZ G n f vs H Q (fun _ _ _ => False) := ⟨by rw [rp.len]; exact k2, α, μ, ds, st, rp, h1⟩
  have bs := e2 s us (by rw [← hr.c.K]; exact I.kIn) (by rw [List.append_nil, ← r.length]; exact F'.len _ _ _ _ w)
  rw [List.append_nil] at bs
  have run := F'.run A X.stack s H ⟨us, []⟩ us vs Q _ rm e0 bs r w
  refine wpAny_call (codeAny_mono run fun r' s' back => ?_)
  match r', back with
  | .error er, back => exact (xF pins σ H s er s' (I.wish _) back).elim
  | .ok (.ret u), back => exact I.after back
theorem opCI_ok {N : List Str} {sc : Scope} {X : Cx} {Wx : WX} {α : Al} {μ : Mu} {H : Hp} {W : XW} (hr : Here G n ⟨N, sc, M⟩ X Wx) (st : StOk G α μ H) {o : Co} {x y : D} {vx vy : V} (rx : Rep G α μ H vx x) (ry : Rep G α μ H vy y) {Q : VK}
    (h : Fin1 G W α μ H (opCI (evOf G.T n) o x y μ) Q) : SO X (compareOp (co o)) vx vy H Q := by
  unfold opCI at h
  split at h
  · rename_i c l e
    split at h
    · rename_i ci ec
      split at h
      · rename_i f ef
        split at h
        · rename_i hc
          obtain ⟨p, dx, fs, rfl, hp, hm, rl⟩ := look_ins st rx e
          obtain ⟨E1, E2⟩ := (hr.t.cls _ ci ec).eq f ef
          intro pins s σ u v I r1 r2
          cases r1
          obtain ⟨mA, J, _⟩ := ins_get I.hok hp
          obtain ⟨od, J, _⟩ := J.look
          obtain ⟨m, hF⟩ := I.fr
          obtain ⟨tb, T1, T2⟩ : ∃ tb, PySem.W.Looks (model X.prog X.w) s.heap (typeOf v) tb ∧ PySem.W.notFirst X.K (G.cA c) tb = true := by
            cases e' : look μ y with
            | ins c' l' =>
              rw [e'] at hc
              have hc' : c' = c := of_decide_eq_true hc
              subst hc'
              obtain ⟨q, dy, gs, rfl, hq, hm', rl'⟩ := look_ins st ry e'
              cases r2
              obtain ⟨mB, J', _⟩ := ins_get I.hok hq
              obtain ⟨od', J', _⟩ := J'.look
              exact ⟨_, J'.type, by simp [PySem.W.notFirst]⟩
            | lst l' =>
              obtain ⟨q, xs, rfl, hq, _⟩ := look_lst st ry e'
              obtain rfl : v = Value.ref q := r2
              obtain ⟨its, _, pl, _⟩ := I.list (SqL.of hq)
              obtain ⟨o, ho, hc2, _⟩ := pl.isList
              exact ⟨.type "list", fun A Q E s k q => wpAny_typeOf_ref (k _ _ ho) (by rw [hc2]; exact q), by
                show (_ || PySem.W.subIn X.K (.type "list") (.ref (G.cA c)) == some false) = true
                have : PySem.W.subIn X.K (.type "list") (.ref (G.cA c)) = some false := by kernel_rfl
                rw [this]
                simp⟩
            | _ => rw [e'] at hc; cases hc
          refine PySem.W.cmp_K (op := .Eq) (tb := tb) hr.c.room.units0 hF I.ok.mod.kin J T1 T2 (by rw [hr.c.K]; exact E1) (by rw [hr.c.K]; exact E2) ?_
          have h1 : Fin1 G W α μ H (callN G.T n f [x, y] μ).pure1 (fun v H' => ∃ b, v = .bl b ∧ Q v H') := FinG.bind (rel := RepR G) h fun d μ1 α1 H1 v1 e1 ex1 s1 rr f1 => by
            cases d with
            | bl b => cases rr; exact ⟨b, rfl, FinG.now f1 s1 (.bl b)⟩
            | _ => exact (show False from f1).elim
          refine thn (run_pure hr st (.cons rx (.cons ry .nil)) h1 I (.cons rfl (.cons r2 .nil)) (hr.c.room.mono (by omega)) I.env0) fun w s1 ⟨v1, H1, I1, rr, b, eb, q1⟩ => ?_
          subst eb
          cases rr
          exact ⟨.bl b, H1, I1, rfl, q1⟩
        · exact (show False from h).elim
      · exact (show False from h).elim
    · exact (show False from h).elim
  · exact opC_ok st hr.c rx ry h
theorem op1I_ok {N : List Str} {sc : Scope} {X : Cx} {Wx : WX} {α : Al} {μ : Mu} {H : Hp} {W : XW} (hr : Here G n ⟨N, sc, M⟩ X Wx) (st : StOk G α μ H) {k : B1} {m : Bool} {x : D} {vx : V} (rx : Rep G α μ H vx x) {Q : VK}
    (h : Fin1 G W α μ H (op1I (evOf G.T n) k m x μ) Q) : SC X (b1v k) [vx] H Q := by
  unfold op1I at h
  split at h
  · rename_i c l e
    split at h
    · rename_i ci ec
      split at h
      · rename_i f ef
        obtain ⟨p, dx, fs, rfl, hp, hm, rl⟩ := look_ins st rx e
        obtain ⟨E1, E2⟩ := (hr.t.cls _ ci ec).len f ef
        intro pins s σ us I r
        obtain ⟨u, rfl, r1⟩ := vals1 r
        cases r1
        obtain ⟨mA, J, _⟩ := ins_get I.hok hp
        obtain ⟨od, J, _⟩ := J.look
        obtain ⟨m, hF⟩ := I.fr
        have h1 : Fin1 G W α μ H (callN G.T n f [x] μ).pure1 (fun v H' => ∃ i : Int, v = .int i ∧ (0 ≤ i ∧ i ≤ 1000000) ∧ Q v H') := FinG.bind h fun d μ1 α1 H1 v1 e1 ex1 s1 rr f1 => by
          cases d with
          | int b =>
            cases rr
            have f1' : Fin1 G W α1 μ1 H1 (if 0 ≤ b ∧ b ≤ 1000000 then .ok (.int b) μ1 else .err) Q := f1
            split at f1'
            · rename_i hb; exact ⟨b, rfl, hb, FinG.now f1' s1 (.int b)⟩
            · exact (show False from f1').elim
          | _ => exact (show False from f1).elim
        refine PySem.W.len_K hF I.ok.mod.kin J (by rw [hr.c.K]; exact E1) (by rw [hr.c.K]; exact E2) ?_
        refine thn (run_pure hr st (.cons rx .nil) h1 I (.cons rfl .nil) ((hr.c.room.in1 (k := 2 * n + 2)).mono (by omega)) I.env0.in1) fun w s1 ⟨v1, H1, I1, rr, b, eb, hb, q1⟩ => ?_
        subst eb
        obtain ⟨t, rfl⟩ := rr
        exact ⟨⟨hb.1, by omega⟩, .int b, H1, I1.tok _, ⟨_, rfl⟩, q1⟩
      · exact (show False from h).elim
    · exact (show False from h).elim
  · exact op1_ok st hr.c rx h
theorem snd_cmp {o : Co} {a b : ZE} (ha : SndE G M n a) (hb : SndE G M n b) : SndE G M n (.cmp o a b) := by
  intro N sc X Wx e α μ ρ σ H Q hr h st en f
  cases e with
  | Compare l ops rs pos =>
    match ops, rs, h with
    | [op], [r], h =>
      have h' : (decide (op = co o) && nSet r && agE M a N sc l && agE M b N sc r) = true := h
      simp only [Bool.and_eq_true] at h'
      obtain ⟨⟨⟨h1, h2⟩, h3⟩, h4⟩ := h'
      obtain rfl := of_decide_eq_true h1
      refine WE.of (pe_cmpR (r := fun x y H Q => SO X (compareOp (co o)) x y H Q) (fun pins s σ H x y v u Q I rx ry h => h pins s σ v u I rx ry) pe_we pe_we (noMark h2)) ?_
      refine ha N sc X Wx l α μ ρ σ H _ hr h3 st en (FinG.bind f fun d μ1 α1 H1 v e1 ex1 s1 r1 f1 => ?_)
      refine hb N sc X Wx r α1 μ1 ρ σ H1 _ hr h4 s1 (en.ext ex1) (FinG.bind f1 fun d2 μ2 α2 H2 v2 e2 ex2 s2 r2 f2 => ?_)
      exact opCI_ok hr s2 (r1.ext ex2) r2 f2
  | _ => cases h
theorem snd_chain {o o' : Co} {a b c : ZE} (ha : SndE G M n a) (hb : SndE G M n b) (hc : SndE G M n c) : SndE G M n (.chain o o' a b c) := by
  intro N sc X Wx e α μ ρ σ H Q hr h st en f
  cases e with
  | Compare l ops rs pos =>
    match ops, rs, h with
    | [op, op'], [m, r], h =>
      have h' : (decide (op = co o) && decide (op' = co o') && nSet m && nSet r && agE M a N sc l && agE M b N sc m && agE M c N sc r) = true := h
      simp only [Bool.and_eq_true] at h'
      obtain ⟨⟨⟨⟨⟨⟨h1, h2⟩, h3⟩, h4⟩, h5⟩, h6⟩, h7⟩ := h'
      obtain rfl := of_decide_eq_true h1
      obtain rfl := of_decide_eq_true h2
      refine WE.of (pe_chain (r := fun x y H Q => SO X (compareOp (co o)) x y H Q) (r' := fun x y H Q => SO X (compareOp (co o')) x y H Q) (fun pins s σ H x y v u Q I rx ry h => h pins s σ v u I rx ry) (fun pins s σ H x y v u Q I rx ry h => h pins s σ v u I rx ry) pe_we pe_we pe_we
        (by show behindInMarks (co o') r = false; exact noMark h4)) ?_
      refine ha N sc X Wx l α μ ρ σ H _ hr h5 st en (FinG.bind f fun d μ1 α1 H1 v e1 ex1 s1 r1 f1 => ?_)
      refine hb N sc X Wx m α1 μ1 ρ σ H1 _ hr h6 s1 (en.ext ex1) (FinG.bind f1 fun d2 μ2 α2 H2 v2 e2 ex2 s2 r2 f2 => ?_)
      refine opC_ok s2 hr.c (r1.ext ex2) r2 (FinG.bind f2 fun d3 μ3 α3 H3 v3 e3 ex3 s3 r3 f3 => ?_)
      cases d3 with
      | bl k =>
        cases r3
        refine ⟨k, rfl, ?_⟩
        cases k with
        | true =>
          refine hc N sc X Wx r α3 μ3 ρ σ H3 _ hr h7 s3 ((en.ext ex1).ext (ex2.trans ex3)) (FinG.bind f3 fun d4 μ4 α4 H4 v4 e4 ex4 s4 r4 f4 => ?_)
          exact opC_ok s4 hr.c (r2.ext (ex3.trans ex4)) r4 f4
        | false => exact FinG.now f3 s3 (.bl _)
      | _ => exact (show False from f3).elim
  | _ => cases h
theorem b1_boot {k : B1} (h : b1n k ≠ "") : bootBuiltins (b1n k) = some (b1v k) := by
  cases k <;> first | exact absurd rfl h | kernel_rfl
theorem b1_in {k : B1} (h : b1n k ≠ "") : b1n k ∈ bltN := by
  cases k <;> first | exact absurd rfl h | decide
/-- a built-in function or type is called with one thing -/
theorem we_call1 {X : Cx} {x : Str} {p pos : Pos} {e : Expr} {σ : L2.St} {H : Hp} {Q : VK} {u : Value} (hk : (∃ id, u = .builtin id) ∨ ∃ T, u = .type T) (hg : Gl X x) (hm : X.mg x = none) (hv : bootBuiltins x = some u) (hn : x ≠ "__name__") (hdb : (x == ("__debug__" : Str)) = false)
    {es : List Expr} (he : nS e = true) (hes : es.all nS = true) (h : WA X (e :: es) σ H fun vs H1 => SC X u vs H1 Q) : WE X (.Call (.Name x p) (e :: es) [] pos) σ H Q := by
  rcases hk with ⟨id, rfl⟩ | ⟨T, rfl⟩
  · exact WE.of (pe_callB (r := fun xs H Q => SC X (.builtin id) xs H Q) (fun pins s σ H xs us Q I r h => h pins s σ us I r) hg hm hv pa_wa hn hdb (starE he) (starAny hes)) h
  · exact WE.of (pe_callTy (r := fun xs H Q => SC X (.type T) xs H Q) (fun pins s σ H xs us Q I r h => h pins s σ us I r) hg hm hv pa_wa hn hdb (starE he) (starAny hes)) h
theorem wa_one {X : Cx} {e : Expr} {σ : L2.St} {H : Hp} {Q : List V → Hp → Prop} (he : nS e = true) (h : WE X e σ H fun v H1 => Q [v] H1) : WA X [e] σ H Q := WA.of (pa_cons pe_we pa_nil (starE he)) h
theorem wa_two {X : Cx} {e e2 : Expr} {σ : L2.St} {H : Hp} {Q : List V → Hp → Prop} (he : nS e = true) (he2 : nS e2 = true) (h : WE X e σ H fun v H1 => WE X e2 σ H1 fun v2 H2 => Q [v, v2] H2) : WA X [e, e2] σ H Q :=
  WA.of (pa_cons pe_we (pa_cons pe_we pa_nil (starE he2)) (starE he)) h
theorem b1_kind {k : B1} (h : b1n k ≠ "") : (∃ id, b1v k = .builtin id) ∨ ∃ T, b1v k = .type T := by
  cases k <;> first | exact absurd rfl h | exact .inl ⟨_, rfl⟩ | exact .inr ⟨_, rfl⟩
theorem snd_b1 {k : B1} {m : Bool} {a : ZE} (ha : SndE G M n a) : SndE G M n (.b1 k m a) := by
  intro N sc X Wx e α μ ρ σ H Q hr h st en f
  cases e with
  | Call fn as kws pos =>
    match fn, as, kws, h with
    | .Name x p, [e], [], h =>
      have h' : (decide (x = b1n k) && decide (x ≠ "") && glB sc x && nS e && agE M a N sc e) = true := h
      simp only [Bool.and_eq_true] at h'
      obtain ⟨⟨⟨⟨h1, h2⟩, h3⟩, h4⟩, h5⟩ := h'
      obtain rfl := of_decide_eq_true h1
      have h2' := of_decide_eq_true h2
      obtain ⟨v1, v2, v3⟩ := gl_of hr h3
      refine we_call1 (b1_kind h2') v1 (by rw [hr.c.mg]; exact hr.t.blt _ (b1_in h2')) (b1_boot h2') v3 v2 h4 rfl (wa_one h4 ?_)
      exact ha N sc X Wx e α μ ρ σ H _ hr h5 st en (FinG.bind f fun d μ1 α1 H1 v e1 ex1 s1 r1 f1 => op1I_ok hr s1 r1 f1)
  | _ => cases h
theorem snd_max2 {a b : ZE} (ha : SndE G M n a) (hb : SndE G M n b) : SndE G M n (.max2 a b) := by
  intro N sc X Wx e α μ ρ σ H Q hr h st en f
  cases e with
  | Call fn as kws pos =>
    match fn, as, kws, h with
    | .Name x p, [e, e2], [], h =>
      have h' : (decide (x = "max") && glB sc x && nS e && nS e2 && agE M a N sc e && agE M b N sc e2) = true := h
      simp only [Bool.and_eq_true] at h'
      obtain ⟨⟨⟨⟨⟨h1, h3⟩, h4⟩, h4'⟩, h5⟩, h6⟩ := h'
      obtain rfl := of_decide_eq_true h1
      obtain ⟨v1, v2, v3⟩ := gl_of hr h3
      refine we_call1 (u := .builtin "max") (.inl ⟨_, rfl⟩) v1 (by rw [hr.c.mg]; exact hr.t.blt _ (by decide)) (by kernel_rfl) v3 v2 h4 (by simp [h4']) (wa_two h4 h4' ?_)
      refine ha N sc X Wx e α μ ρ σ H _ hr h5 st en (FinG.bind f fun d μ1 α1 H1 v e1 ex1 s1 r1 f1 => ?_)
      refine hb N sc X Wx e2 α1 μ1 ρ σ H1 _ hr h6 s1 (en.ext ex1) (FinG.bind f1 fun d2 μ2 α2 H2 v2 e2 ex2 s2 r2 f2 => ?_)
      split at f2
      · cases r1
        cases r2
        exact SC.of (call_max2 hr.c.calm) ⟨_, _, rfl, FinG.now f2 s2 (.int _)⟩
      · exact (show False from f2).elim
  | _ => cases h
theorem es_len {V : Ev} : ∀ {zs : ZEs} {ρ : Env} {μ μ' : Mu} {ds : List D} {N : List Str} {sc : Scope} {es : List Expr}, evalEs V zs ρ μ = .ok ds μ' → agEs M zs N sc es = true → ds.length = es.length
  | .nil, ρ, μ, μ', ds, N, sc, es, h, a => by
    cases es with
    | nil => cases h; rfl
    | cons e es => cases a
  | .cons z zs, ρ, μ, μ', ds, N, sc, es, h, a => by
    cases es with
    | nil => cases a
    | cons e es =>
      obtain ⟨a1, a2⟩ := band (show (agE M z N sc e && agEs M zs N sc es) = true from a)
      have h' : ((evalE V z ρ μ).bind fun x μ1 => (evalEs V zs ρ μ1).bind fun xs μ2 => .ok (x :: xs) μ2) = .ok ds μ' := h
      cases e1 : evalE V z ρ μ with
      | ok x μ1 =>
        rw [e1] at h'
        have h2 : ((evalEs V zs ρ μ1).bind fun xs μ2 => .ok (x :: xs) μ2) = .ok ds μ' := h'
        cases e2 : evalEs V zs ρ μ1 with
        | ok xs μ2 =>
          rw [e2] at h2
          have h3 : R.ok (x :: xs) μ2 = .ok ds μ' := h2
          cases h3
          rw [List.length_cons, List.length_cons, es_len e2 a2]
        | exc c pl m => rw [e2] at h2; cases h2
        | err => rw [e2] at h2; cases h2
      | exc c pl m => rw [e1] at h'; cases h'
      | err => rw [e1] at h'; cases h'
/-- a starred value's items -/
def SV (X : Cx) (x : V) (xs : List V) (H : Hp) : Prop := ∀ (pins : List (Addr × Obj)) (s : Shared) (σ : L2.St) (v : Value) (E : Value → Shared → Prop) (Q : List Value → Shared → Prop), Inv X pins σ H s → RelV x v →
  (∀ us s', Inv X pins σ H s' → Vals xs us → Q us s') → PySem.W.StarOf (model X.prog X.w) X.A E v Q s
theorem wa_star {X : Cx} {e : Expr} {p : Pos} {es : List Expr} {σ : L2.St} {H : Hp} {Q : List V → Hp → Prop} (h : WE X e σ H fun x H1 => ∃ xs, SV X x xs H1 ∧ WA X es σ H1 fun ys H2 => Q (xs ++ ys) H2) : WA X (.Starred e p :: es) σ H Q := by
  intro pos pins s I
  refine PySem.W.items_star (thn (h pins s I) fun v s1 ⟨y, H1, I1, ry, xs, sv, q⟩ => ?_) rfl
  refine sv pins s1 σ v _ _ I1 ry fun us s2 I2 rv => ?_
  exact thn (q pos pins s2 I2) fun ws s3 ⟨vs, H3, I3, r3, q3⟩ => ⟨xs ++ vs, H3, I3, rv.append r3, q3⟩
theorem sv_seq {X : Cx} {a : Addr} {xs : List V} {H : Hp} (h : SqT X.K H a xs ∨ SqL X.K H a xs) : SV X (.ref a) xs H := by
  intro pins s σ v E Q I r q
  obtain rfl : v = Value.ref a := r
  exact StX.star_any I h q
/-- a dict's keys, collected -/
theorem collect_dk {X : Cx} {pins : List (Addr × Obj)} {s : Shared} {σ : L2.St} {H : Hp} {p : Addr} {kvs : List (Key × V)} {E : Value → Shared → Prop} {Q : List Value → Shared → Prop} (I : Inv X pins σ H s) (hc : X.calm = true) (hk : Rd H p (.dK kvs))
    (hQ : ∀ us s', Inv X pins σ H s' → Vals (kvs.map fun kv => kV kv.1) us → Q us s') : wpAny (model X.prog X.w) X.A (collect (.ref p)) Q E s := by
  obtain ⟨z, lo, vs, rk, hd⟩ := dk_rd I.hok hk
  obtain ⟨ep, hat⟩ := hd.dictAt
  have hl : kvs.length = vs.length := Paired.length rk
  unfold collect
  refine wpAny_bind (wpAny_runValue (codeAny_builtin F.entry_proto_collect ?_))
  rw [Around.under_plainId F.plain_proto_collect _]
  show wpAny _ X.A.in1 (newList [] >>= fun l => again (.builtin "list.__iadd__" ⟨[l, .ref p], []⟩)) _ _ s
  refine wpAny_bind (wpAny_newObj_type ?_)
  refine wpAny_pure ⟨plainId_quiet F.plain_list_iadd _, codeAny_builtin F.entry_list_iadd ?_⟩
  rw [Around.under_plainId F.plain_list_iadd _]
  show wpAny _ X.A.in1 (Builtin.List.listExtendWith (.ref s.heap.objs.size) (.ref p) (.ref s.heap.objs.size)) _ _ _
  have hp := hat.lt_size
  have K := PySem.W.kdl_dict (prog := X.prog) (w := X.w) (knd := mixKind X.prog X.w) (kvs := vs) (ep := ep) lo
  have hS : (s.heap.push { cls := .type "list", data := .seq ([] : List Value).toArray }).get? s.heap.objs.size = some { cls := .type "list", data := .seq #[] 0 } := Heap.get?_push_size _ rfl
  have fin : ∀ (h' : Heap) (tk : Nat) (acc' : Array Value) (c' : Nat), (∀ b o, b ≠ s.heap.objs.size → (s.heap.push { cls := .type "list", data := .seq ([] : List Value).toArray }).get? b = some o → h'.get? b = some o) → h'.get? s.heap.objs.size = some { cls := .type "list", dict := none, data := .seq acc' c', slots := #[] } →
      ItemsOf (fun i v => ∃ k x, vs[i]? = some (k, x) ∧ (mixKind X.prog X.w).is k v = true) acc' vs.length →
      wpAny (model X.prog X.w) X.A (match Value.ref s.heap.objs.size with
      | Value.ref a => do
        match (← load a).data with
          | Data.seq xs _ => pure xs.toList
          | _ => unsupported "internal:collect"
      | _ => unsupported "internal:collect") Q E { s with heap := h', toks := tk } := by
    intro h' tk acc' c' hkeep hS' hacc
    show wpAny _ X.A (load s.heap.objs.size >>= _) _ _ _
    refine wpAny_bind (wpAny_load hS' ?_)
    refine wpAny_pure ?_
    refine hQ _ _ (I.kept (t' := tk) fun b o e => hkeep b o (Nat.ne_of_lt (Heap.lt_size e)) (Heap.get?_push_of_some _ e)) ?_
    have hlen : (kvs.map fun kv => kV kv.1).length = acc'.toList.length := by
      have h1 := hacc.1
      rw [List.length_map, hl]
      simpa using h1.symm
    refine vals_of_at hlen fun j x w h1 h2 => ?_
    obtain ⟨k, y, hky, hi⟩ := hacc.2 j w (by rw [← Array.getElem?_toList]; exact h2)
    have e1 : (kvs.map (·.1))[j]? = some k := by
      rw [KV.keys rk, List.getElem?_map, hky]
      rfl
    have e3 : (kvs.map fun kv => kV kv.1) = (kvs.map (·.1)).map kV := by
      rw [List.map_map]
      rfl
    rw [e3, List.getElem?_map, e1] at h1
    cases h1
    exact relV_key (show keyIs k w = true from hi)
  refine wpAny_mono (PySem.W.kdl_extend (s := { s with heap := s.heap.push { cls := .type "list", data := .seq ([] : List Value).toArray } }) (R := fun r s' => r = .ok (.ret (.ref s.heap.objs.size)) ∧ wpAny (model X.prog X.w) X.A (match Value.ref s.heap.objs.size with
      | Value.ref a => do
        match (← load a).data with
          | Data.seq xs _ => pure xs.toList
          | _ => unsupported "internal:collect"
      | _ => unsupported "internal:collect") Q E s') K (I.ok.hd hc) (hat.push _) _ (Nat.ne_of_gt hp) (Nat.ne_of_gt hp) (.ref s.heap.objs.size) 0 hS (fun h' tk acc' c' hkeep hS' hacc => ⟨rfl, fin h' tk acc' c' hkeep hS' hacc⟩) (by rw [← hl]; exact z)) (fun f s' h => ?_) (fun e s' h => ?_)
  · cases f with
    | done f =>
      obtain ⟨e, h⟩ := h
      cases e
      exact h
    | again c' => exact ⟨h.1, codeAny_mono h.2 fun r s'' hr => by obtain ⟨rfl, hr⟩ := hr; exact hr⟩
  · exact absurd h.1 (by simp)
theorem sv_dk {X : Cx} {p : Addr} {kvs : List (Key × V)} {H : Hp} (hc : X.calm = true) (hk : Rd H p (.dK kvs)) : SV X (.ref p) (kvs.map fun kv => kV kv.1) H := by
  intro pins s σ v E Q I r q
  obtain rfl : v = Value.ref p := r
  obtain ⟨z, lo, vs, rk, hd⟩ := dk_rd I.hok hk
  obtain ⟨ep, hat⟩ := hd.dictAt
  unfold PySem.W.StarOf notIterableAtAll
  exact wpAny_bind (wpAny_specialOf hat.dictOf.typeIs PySem.F.slot_dict_iter.lookup (wpAny_pure ⟨rfl, collect_dk I hc hk q⟩))
/-- d.values(), a view -/
theorem we_values {X : Cx} {e : Expr} {apos cpos : Pos} {σ : L2.St} {H : Hp} {Q : VK} (hb : pB e = true) (hl : (apos.endLine == cpos.line) = true)
    (h : WE X e σ H fun x H1 => ∃ d kvs, x = .ref d ∧ Rd H1 d (.dK kvs) ∧ ∀ q, H1 q = none → Q (.ref q) (upd H1 q (viewO "dict_values" q d))) : WE X (.Call (.Attribute e "values" apos) [] [] cpos) σ H Q := by
  intro pins s I
  refine wpAny_Call_method (T := "dict") (id := "dict.values") (baseP hb) rfl hl F.plainAttrs_dict F.slot_dict_values F.type_dict_values (thn (h pins s I) fun u s1 ⟨x, H1, I1, rx, d, kvs, ex, hk, q⟩ => ?_)
  subst ex
  obtain rfl : u = Value.ref d := rx
  obtain ⟨z, lo, vs, rk, hd⟩ := dk_rd I1.hok hk
  refine ⟨hd.typeIs, hd.mapOf.noDict, ?_⟩
  show wpAny _ _ (callWith cpos (.builtin "dict.values") [.ref d] [] []) _ X.xe s1
  refine method_meetsIn F.slot_dict_values F.entry_dict_values rfl (PySem.evalArgs_none ⟨rfl, hd.typeIs, F.args_dict_values_1 _, _, meets_dict_values (mixKind X.prog X.w) d lo, ⟨vs, hd⟩, ?_⟩)
  exact ⟨.ref s1.heap.objs.size, _, I1.laid (t' := s1.toks) (fun b o q => Heap.get?_push_of_some _ q) (Nat.le_refl _) (viewO_ok (Heap.get?_push_size _ rfl)), rfl, q _ (I1.hok.fresh (Nat.le_refl _))⟩
/-- list of a view -/
theorem list_view {X : Cx} (hc : X.calm = true) {H : Hp} {p q : Addr} {kvs : List (Key × V)} {Q : VK} (hv : H q = some (viewO "dict_values" q p)) (hk : Rd H p (.dK kvs)) (h : ∀ r, H r = none → Q (.ref r) (upd H r (.lst (kvs.map (·.2))))) : SC X (.type "list") [.ref q] H Q := by
  intro pins s σ us I r
  obtain ⟨u, eu, rx⟩ := vals1 r
  subst eu
  obtain rfl : u = Value.ref q := rx
  obtain ⟨z, lo, vs, rk, hd⟩ := dk_rd I.hok hk
  obtain ⟨ep, hat⟩ := hd.dictAt
  have hl : kvs.length = vs.length := Paired.length rk
  have hv' : s.heap.get? q = some (DSub.viewOb "dict_values" p) := (show ObjOk X.prog X.w H s.heap q (viewO "dict_values" q p) from I.hok q _ hv).1
  refine PySem.W.kdl_call (PySem.W.kdl_values (r := q) (d := p) (knd := mixKind X.prog X.w) (kvs := vs) (ep := ep)) (I.ok.hd hc) ⟨⟨_, hv', rfl, rfl⟩, hat⟩ (by rw [← hl]; exact z) fun h' tk acc' c' hkeep hS hacc => ?_
  have hlen : (kvs.map (·.2)).length = acc'.toList.length := by
    have h1 := hacc.1
    rw [List.length_map, hl]
    simpa using h1.symm
  have hvals : Vals (kvs.map (·.2)) acc'.toList := by
    refine vals_of_at hlen fun j x w h1 h2 => ?_
    obtain ⟨k, hky⟩ := hacc.2 j w (by rw [← Array.getElem?_toList]; exact h2)
    obtain ⟨y, e1, e2⟩ := KV.at' rk hky
    rw [List.getElem?_map, e1] at h1
    cases h1
    exact e2
  refine ⟨.ref s.heap.objs.size, upd H s.heap.objs.size (.lst (kvs.map (·.2))), I.laid hkeep (Nat.le_refl _) ⟨by rw [List.length_map]; exact z, acc'.toList, c', hvals, by simpa using hS⟩, rfl, h _ (I.hok.fresh (Nat.le_refl _))⟩
theorem repVals {α : Al} {μ : Mu} {H : Hp} : ∀ {l : List (DK × D)} {kvs : List (Key × V)}, RepK G α μ H kvs l → RepL G α μ H (kvs.map (·.2)) (l.map (·.2))
  | _, _, .nil => .nil
  | _, _, .cons h t => .cons h (repVals t)
/-- list(d.values()) -/
theorem snd_lvals {m : Bool} {a : ZE} (ha : SndE G M n a) : SndE G M n (.lvals m a) := by
  intro N sc X Wx e α μ ρ σ H Q hr h st en f
  cases e with
  | Call fn as kws pos =>
    match fn, as, kws, h with
    | .Name x p, [.Call (.Attribute e y apos) [] [] cpos], [], h =>
      have h' : (decide (x = "list") && decide (y = "values") && glB sc x && pB e && (apos.endLine == cpos.line) && agE M a N sc e) = true := h
      simp only [Bool.and_eq_true] at h'
      obtain ⟨⟨⟨⟨⟨h1, h2⟩, h3⟩, h4⟩, h5⟩, h6⟩ := h'
      obtain rfl := of_decide_eq_true h1
      obtain rfl := of_decide_eq_true h2
      obtain ⟨v1, v2, v3⟩ := gl_of hr h3
      refine we_call1 (u := .type "list") (.inr ⟨_, rfl⟩) v1 (by rw [hr.c.mg]; exact hr.t.blt _ (by decide)) (by kernel_rfl) v3 v2 rfl rfl (wa_one rfl ?_)
      refine we_values h4 h5 (ha N sc X Wx e α μ ρ σ H _ hr h6 st en (FinG.bind f fun d μ1 α1 H1 v e1 ex1 s1 r1 f1 => ?_))
      split at f1
      · rename_i l el
        obtain ⟨p, kvs, rfl, hk, rk⟩ := look_dic s1 r1 el
        refine ⟨p, kvs, rfl, hk, fun q hq => ?_⟩
        have hn : H1 p ≠ none := by
          rcases hk with hk | ⟨o, hk⟩ <;> (rw [hk]; exact fun z => by cases z)
        have hpq : p ≠ q := fun e => hn (by rw [e]; exact hq)
        have exn := ext_new (o := viewO "dict_values" q p) s1 hq
        refine list_view hr.c.calm upd_same ?_ (new_lst (s1.new hq) (repVals (rk.ext exn)) (FinG.at_ f1 exn))
        rcases hk with hk | ⟨o, hk⟩
        · exact .inl (by rw [upd_ne hpq]; exact hk)
        · exact .inr ⟨o, by rw [upd_ne hpq]; exact hk⟩
      · exact (show False from f1).elim
  | _ => cases h
/-- displays with starred things -/
def SndX (G : Tx) (M : Nm) (n : Nat) (zs : ZEs) : Prop := ∀ (sts : List Bool) (N : List Str) (sc : Scope) (X : Cx) (Wx : WX) (es : List Expr) (α : Al) (μ : Mu) (ρ : Env) (σ : L2.St) (H : Hp) (Q : List V → Hp → Prop),
  Here G n ⟨N, sc, M⟩ X Wx → dispB sts es = true → agXs M zs N sc es = true → StOk G α μ H → EnvOk G α μ H ρ σ → FinL G (WW G Wx σ) α μ H ((evalEs (evOf G.T n) zs ρ μ).pure1.bind fun ds μ1 => match spread sts ds with | some l => .ok l μ1 | none => .err) Q → WA X es σ H Q
theorem sndX_nil : SndX G M n .nil := by
  intro sts N sc X Wx es α μ ρ σ H Q hr hs h st en f
  cases es with
  | cons e es => cases h
  | nil =>
    cases sts with
    | nil => exact WA.of pa_nil (FinG.now f st .nil)
    | cons b sts => cases b <;> cases hs
theorem agX_star {z : ZE} {zs : ZEs} {N : List Str} {sc : Scope} {e : Expr} {p : Pos} {es : List Expr} (h : agXs M (.cons z zs) N sc (.Starred e p :: es) = true) : agE M z N sc e = true ∧ agXs M zs N sc es = true := band (show (agE M z N sc e && agXs M zs N sc es) = true from h)
theorem agX_cons {z : ZE} {zs : ZEs} {N : List Str} {sc : Scope} {e : Expr} {es : List Expr} (hn : nS e = true) (h : agXs M (.cons z zs) N sc (e :: es) = true) : agE M z N sc e = true ∧ agXs M zs N sc es = true := by
  cases e <;> first | exact band h | cases hn
theorem spread_true {sts : List Bool} {d : D} {ds : List D} : spread (true :: sts) (d :: ds) = (match spread1 d, spread sts ds with
  | some l, some r => some (l ++ r)
  | _, _ => none) := rfl
theorem sndX_cons {z : ZE} {zs : ZEs} (ha : SndE G M n z) (hb : SndX G M n zs) : SndX G M n (.cons z zs) := by
  intro sts N sc X Wx es α μ ρ σ H Q hr hs h st en f
  cases es with
  | nil => cases h
  | cons e es =>
    have f' : FinL G (WW G Wx σ) α μ H ((evalE (evOf G.T n) z ρ μ).bind fun x μ1 => (evalEs (evOf G.T n) zs ρ μ1).pure1.bind fun xs μ2 => match spread sts (x :: xs) with | some l => .ok l μ2 | none => .err) Q := by
      have e : evalEs (evOf G.T n) (.cons z zs) ρ μ = (evalE (evOf G.T n) z ρ μ).bind fun x μ1 => (evalEs (evOf G.T n) zs ρ μ1).bind fun xs μ2 => .ok (x :: xs) μ2 := rfl
      rw [e] at f
      cases q : evalE (evOf G.T n) z ρ μ with
      | ok x μ1 =>
        rw [q] at f
        show FinL G (WW G Wx σ) α μ H ((evalEs (evOf G.T n) zs ρ μ1).pure1.bind fun xs μ2 => match spread sts (x :: xs) with | some l => .ok l μ2 | none => .err) Q
        have f0 : FinL G (WW G Wx σ) α μ H (((evalEs (evOf G.T n) zs ρ μ1).bind fun xs μ2 => R.ok (x :: xs) μ2).pure1.bind fun ds μ1 => match spread sts ds with | some l => .ok l μ1 | none => .err) Q := f
        cases q2 : evalEs (evOf G.T n) zs ρ μ1 with
        | ok xs μ2 => rw [q2] at f0; exact f0
        | exc c pl m => rw [q2] at f0; exact f0
        | err => rw [q2] at f0; exact f0
      | exc c pl m => rw [q] at f; exact (show False from f).elim
      | err => rw [q] at f; exact (show False from f).elim
    cases sts with
    | nil => cases hs
    | cons b sts =>
      cases b with
      | false =>
        obtain ⟨k1, k2⟩ := band (show (nS e && dispB sts es) = true from by cases e <;> exact hs)
        obtain ⟨h1, h2⟩ := agX_cons k1 h
        refine WA.of (pa_cons pe_we pa_wa (starE k1)) (ha N sc X Wx e α μ ρ σ H _ hr h1 st en (FinG.bind f' fun d μ1 α1 H1 v e1 ex1 s1 r1 f1 => ?_))
        refine hb sts N sc X Wx es α1 μ1 ρ σ H1 (fun vs H2 => Q (v :: vs) H2) hr k2 h2 s1 (en.ext ex1) ?_
        cases q : evalEs (evOf G.T n) zs ρ μ1 with
        | ok xs μ2 =>
          rw [q] at f1
          have f2 : FinL G (WW G Wx σ) α1 μ1 H1 (match (match spread sts xs with | some l => some (d :: l) | none => none : Option (List D)) with | some l => R.ok l μ2 | none => .err) Q := f1
          show FinL G (WW G Wx σ) α1 μ1 H1 (match spread sts xs with | some l => R.ok l μ2 | none => .err) _
          cases q2 : spread sts xs with
          | none => rw [q2] at f2; exact f2
          | some l =>
            rw [q2] at f2
            exact fun α2 H2 vs ex2 s2 r2 => f2 α2 H2 (v :: vs) ex2 s2 (.cons (r1.ext ex2) r2)
        | exc c pl m => rw [q] at f1; exact f1
        | err => rw [q] at f1; exact f1
      | true =>
        cases e with
        | Starred e p =>
          obtain ⟨h1, h2⟩ := agX_star h
          refine wa_star (ha N sc X Wx e α μ ρ σ H _ hr h1 st en (FinG.bind f' fun d μ1 α1 H1 v e1 ex1 s1 r1 f1 => ?_))
          -- the items of d
          have go : ∀ (l : List D) (xs : List V), spread1 d = some l → SV X v xs H1 → RepL G α1 μ1 H1 xs l → ∃ xs, SV X v xs H1 ∧ WA X es σ H1 fun ys H2 => Q (xs ++ ys) H2 := by
            intro l xs el sv rl
            refine ⟨xs, sv, hb sts N sc X Wx es α1 μ1 ρ σ H1 (fun vs H2 => Q (xs ++ vs) H2) hr hs h2 s1 (en.ext ex1) ?_⟩
            cases q : evalEs (evOf G.T n) zs ρ μ1 with
            | ok ys μ2 =>
              rw [q] at f1
              have f2 : FinL G (WW G Wx σ) α1 μ1 H1 (match spread (true :: sts) (d :: ys) with | some l => R.ok l μ2 | none => .err) Q := f1
              rw [spread_true, el] at f2
              show FinL G (WW G Wx σ) α1 μ1 H1 (match spread sts ys with | some l => R.ok l μ2 | none => .err) _
              cases q2 : spread sts ys with
              | none => rw [q2] at f2; exact f2
              | some r =>
                rw [q2] at f2
                exact fun α2 H2 vs ex2 s2 r2 => f2 α2 H2 (xs ++ vs) ex2 s2 (RepL.app r2 (rl.ext ex2))
            | exc c pl m => rw [q] at f1; exact f1
            | err => rw [q] at f1; exact f1
          have no : spread1 d = none → False := by
            intro el
            cases q : evalEs (evOf G.T n) zs ρ μ1 with
            | ok ys μ2 =>
              rw [q] at f1
              have f2 : FinL G (WW G Wx σ) α1 μ1 H1 (match spread (true :: sts) (d :: ys) with | some l => R.ok l μ2 | none => .err) Q := f1
              rw [spread_true, el] at f2
              exact (show False from f2)
            | exc c pl m => rw [q] at f1; exact (show False from f1)
            | err => rw [q] at f1; exact (show False from f1)
          cases d with
          | lst l => cases r1 with | lst hp hl rl => exact go l _ rfl (sv_seq (.inr (SqL.of hp))) rl
          | tup l => cases r1 with | tup hp rl => exact go l _ rfl (sv_seq (.inl (hr.c.tup hp))) rl
          | dic l => cases r1 with | dic hp rk => exact go _ _ rfl (sv_dk hr.c.calm hp.1) (repKeys rk)
          | _ => exact (no rfl).elim
        | _ => cases hs
theorem snd_lstS {m : Bool} {sts : List Bool} {zs : ZEs} (hs : SndX G M n zs) : SndE G M n (.lstS m sts zs) := by
  intro N sc X Wx e α μ ρ σ H Q hr h st en f
  cases e with
  | List as pos =>
    obtain ⟨h1, h2⟩ := band (show (dispB sts as && agXs M zs N sc as) = true from h)
    refine WE.of (pe_lst pa_wa) (hs sts N sc X Wx as α μ ρ σ H _ hr h1 h2 st en ?_)
    have f' : FinG G (RepR G) (WW G Wx σ) α μ H (((evalEs (evOf G.T n) zs ρ μ).pure1.bind fun ds μ1 => match spread sts ds with | some l => R.ok l μ1 | none => .err).bind fun l μ1 => if l.length ≤ lim then mkL m l μ1 else .err) Q := by
      have e : ((evalEs (evOf G.T n) zs ρ μ).pure1.bind fun ds μ1 => match spread sts ds with | some l => R.ok l μ1 | none => .err).bind (fun l μ1 => if l.length ≤ lim then mkL m l μ1 else .err) = evalE (evOf G.T n) (.lstS m sts zs) ρ μ := by
        show _ = (evalEs (evOf G.T n) zs ρ μ).pure1.bind fun ds μ1 => match spread sts ds with
          | some l => if l.length ≤ lim then mkL m l μ1 else .err
          | none => .err
        cases (evalEs (evOf G.T n) zs ρ μ).pure1 with
        | ok ds μ1 =>
          show R.bind (match spread sts ds with | some l => R.ok l μ1 | none => .err) _ = match spread sts ds with | some l => if l.length ≤ lim then mkL m l μ1 else .err | none => .err
          cases spread sts ds <;> rfl
        | _ => rfl
      rw [e]
      exact f
    refine FinG.bind f' fun l μ1 α1 H1 vs e1 ex1 s1 r1 f1 => ?_
    split at f1
    · rename_i hl
      exact ⟨lim_le (by rw [r1.len]; exact hl), new_lst s1 r1 f1⟩
    · exact (show False from f1).elim
  | _ => cases h
theorem snd_tupS {sts : List Bool} {zs : ZEs} (hs : SndX G M n zs) : SndE G M n (.tupS sts zs) := by
  intro N sc X Wx e α μ ρ σ H Q hr h st en f
  cases e with
  | Tuple as k pos =>
    obtain ⟨h1, h2⟩ := band (show (dispB sts as && agXs M zs N sc as) = true from h)
    refine WE.of (pe_tup pa_wa) (hs sts N sc X Wx as α μ ρ σ H _ hr h1 h2 st en ?_)
    have f' : FinG G (RepR G) (WW G Wx σ) α μ H (((evalEs (evOf G.T n) zs ρ μ).pure1.bind fun ds μ1 => match spread sts ds with | some l => R.ok l μ1 | none => .err).bind fun l μ1 => if l.length ≤ lim then R.ok (.tup l) μ1 else .err) Q := by
      have e : ((evalEs (evOf G.T n) zs ρ μ).pure1.bind fun ds μ1 => match spread sts ds with | some l => R.ok l μ1 | none => .err).bind (fun l μ1 => if l.length ≤ lim then R.ok (D.tup l) μ1 else .err) = evalE (evOf G.T n) (.tupS sts zs) ρ μ := by
        show _ = (evalEs (evOf G.T n) zs ρ μ).pure1.bind fun ds μ1 => match spread sts ds with
          | some l => if l.length ≤ lim then R.ok (D.tup l) μ1 else .err
          | none => .err
        cases (evalEs (evOf G.T n) zs ρ μ).pure1 with
        | ok ds μ1 =>
          show R.bind (match spread sts ds with | some l => R.ok l μ1 | none => .err) _ = match spread sts ds with | some l => if l.length ≤ lim then R.ok (D.tup l) μ1 else .err | none => .err
          cases spread sts ds <;> rfl
        | _ => rfl
      rw [e]
      exact f
    refine FinG.bind f' fun l μ1 α1 H1 vs e1 ex1 s1 r1 f1 => ?_
    split at f1
    · rename_i hl
      exact ⟨lim_le (by rw [r1.len]; exact hl), new_tup s1 r1 f1⟩
    · exact (show False from f1).elim
  | _ => cases h
theorem snd_lst {m : Bool} {zs : ZEs} (hs : SndEs G M n zs) : SndE G M n (.lst m zs) := by
  intro N sc X Wx e α μ ρ σ H Q hr h st en f
  cases e with
  | List as pos =>
    have h' : (as.all nS && decide (as.length ≤ lim) && agEs M zs N sc as) = true := h
    simp only [Bool.and_eq_true] at h'
    obtain ⟨⟨h1, h2⟩, h3⟩ := h'
    refine WE.of (pe_lst pa_wa) (hs N sc X Wx as α μ ρ σ H _ hr h3 h1 st en (FinG.bind f fun ds μ1 α1 H1 vs e1 ex1 s1 r1 f1 => ?_))
    exact ⟨lim_le (by rw [r1.len, es_len e1 h3]; exact of_decide_eq_true h2), new_lst s1 r1 f1⟩
  | _ => cases h
theorem snd_tup {zs : ZEs} (hs : SndEs G M n zs) : SndE G M n (.tup zs) := by
  intro N sc X Wx e α μ ρ σ H Q hr h st en f
  cases e with
  | Tuple as k pos =>
    have h' : (as.all nS && decide (as.length ≤ lim) && agEs M zs N sc as) = true := h
    simp only [Bool.and_eq_true] at h'
    obtain ⟨⟨h1, h2⟩, h3⟩ := h'
    refine WE.of (pe_tup pa_wa) (hs N sc X Wx as α μ ρ σ H _ hr h3 h1 st en (FinG.bind f fun ds μ1 α1 H1 vs e1 ex1 s1 r1 f1 => ?_))
    exact ⟨lim_le (by rw [r1.len, es_len e1 h3]; exact of_decide_eq_true h2), new_tup s1 r1 f1⟩
  | _ => cases h
theorem snd_sub {a b : ZE} (ha : SndE G M n a) (hb : SndE G M n b) : SndE G M n (.sub a b) := by
  intro N sc X Wx e α μ ρ σ H Q hr h st en f
  cases e with
  | Subscript l r pos =>
    have h' : (nSl r && agE M a N sc l && agE M b N sc r) = true := by
      cases r <;> first | exact h | (revert h; rename_i lo hi stp p; cases stp <;> intro h <;> cases h)
    simp only [Bool.and_eq_true] at h'
    obtain ⟨⟨h1, h2⟩, h3⟩ := h'
    refine WE.of (pe_ix (r := fun x y H Q => SI X x y H Q) (fun value slice pins s σ H x y v u Q I rx ry h hs => h value slice pins s σ v u I rx ry hs) pe_we pe_we (plainIx h1)) ?_
    refine ha N sc X Wx l α μ ρ σ H _ hr h2 st en (FinG.bind f fun d μ1 α1 H1 v e1 ex1 s1 r1 f1 => ?_)
    refine hb N sc X Wx r α1 μ1 ρ σ H1 _ hr h3 s1 (en.ext ex1) (FinG.bind f1 fun d2 μ2 α2 H2 v2 e2 ex2 s2 r2 f2 => ?_)
    exact opI_ok s2 hr.c (r1.ext ex2) r2 f2
  | _ => cases h
/-- an end of a slice -/
def WO (X : Cx) (e : Option Expr) : TO := fun σ H Q => ∀ pins s, Inv X pins σ H s → wpAny (model X.prog X.w) X.A (evalPart e X.env) (fun u s' => ∃ o H', Inv X pins σ H' s' ∧ IsPart u o ∧ Q o H') X.xe s
theorem po_wo {X : Cx} {e : Option Expr} : PO X e (WO X e) := ⟨fun pins s _ _ _ I h => h pins s I⟩
/-- of a list of one -/
def SndP (G : Tx) (M : Nm) (n : Nat) : ZEs → Prop
  | .cons z .nil => SndE G M n z
  | _ => True
theorem snd_part {zs : ZEs} (hs : SndP G M n zs) {N : List Str} {sc : Scope} {X : Cx} {Wx : WX} {e : Option Expr} {α : Al} {μ : Mu} {ρ : Env} {σ : L2.St} {H : Hp} {β : Type} {rel : Rel β V} {k : List D → Mu → R β} {Q : VK} {QQ : Option Int → Hp → Prop}
    (hr : Here G n ⟨N, sc, M⟩ X Wx) (h : agEs M zs N sc e.toList = true) (st : StOk G α μ H) (en : EnvOk G α μ H ρ σ) (f : FinG G rel (WW G Wx σ) α μ H ((evalEs (evOf G.T n) zs ρ μ).bind k) Q)
    (hk : ∀ ds μ1 α1 H1, Ext α μ H α1 μ1 H1 → StOk G α1 μ1 H1 → FinG G rel (WW G Wx σ) α1 μ1 H1 (k ds μ1) Q → ∃ o, partOf ds = some o ∧ QQ o H1) : WO X e σ H QQ := by
  cases e with
  | none =>
    obtain rfl := es_nil h
    obtain ⟨o, h1, h2⟩ := hk [] μ α H Ext.refl st f
    cases h1
    intro pins s I
    exact po_none.run pins s σ H QQ I h2
  | some l =>
    match zs, hs, h, f with
    | .cons z (.cons z2 zs2), hs, h, f => exact absurd (band (show (agE M z N sc l && agEs M (.cons z2 zs2) N sc []) = true from h)).2 (by intro q; cases q)
    | .cons z .nil, hs, h, f =>
      obtain ⟨h1, _⟩ := band (show (agE M z N sc l && agEs M .nil N sc []) = true from h)
      have f' : FinG G rel (WW G Wx σ) α μ H ((evalE (evOf G.T n) z ρ μ).bind fun d μ1 => k [d] μ1) Q := by
        have e0 : (evalEs (evOf G.T n) (.cons z .nil) ρ μ).bind k = ((evalE (evOf G.T n) z ρ μ).bind fun x μ1 => (R.ok [] μ1).bind fun xs μ2 => .ok (x :: xs) μ2).bind k := rfl
        rw [e0] at f
        cases e1 : evalE (evOf G.T n) z ρ μ <;> (rw [e1] at f; exact f)
      have we : WE X l σ H fun v H1 => ∃ i, v = .int i ∧ QQ (some i) H1 := hs N sc X Wx l α μ ρ σ H _ hr h1 st en (FinG.bind f' fun d μ1 α1 H1 v e1 ex1 s1 r1 f1 => by
        obtain ⟨o, k1, k2⟩ := hk [d] μ1 α1 H1 ex1 s1 f1
        cases d <;> first | cases k1 | skip
        cases r1
        exact ⟨_, rfl, k2⟩)
      intro pins s I
      exact (po_some pe_we).run pins s σ H QQ I we
theorem snd_slice {m : Bool} {a : ZE} {lo hi : ZEs} (ha : SndE G M n a) (hlo : SndP G M n lo) (hhi : SndP G M n hi) : SndE G M n (.slice m a lo hi) := by
  intro N sc X Wx e α μ ρ σ H Q hr h st en f
  cases e with
  | Subscript l sl pos =>
    match sl, h with
    | .Slice lw up none p2, h =>
      obtain ⟨h12, h3⟩ := band (show (agE M a N sc l && agEs M lo N sc lw.toList && agEs M hi N sc up.toList) = true from h)
      obtain ⟨h1, h2⟩ := band h12
      refine WE.of (pe_slice (r := fun x l u H Q => ∀ pins s σ v vl vu sl, Inv X pins σ H s → RelV x v → s.heap.IsSliceOf sl vl vu .none → IsPart vl l → IsPart vu u →
        ∃ T id, typeLookup (.type T) "__getitem__" = pure (some (.builtin id)) ∧ s.TypeIs v T ∧ wpAny (model X.prog X.w) X.A (getItem v (.ref sl)) (EP X pins σ Q) X.xe s)
        (fun pins s σ H x v vl vu lo hi sl Q I rx hs pl pu h => h pins s σ v vl vu sl I rx hs pl pu) pe_we po_wo po_wo) ?_
      refine ha N sc X Wx l α μ ρ σ H _ hr h1 st en (FinG.bind f fun d μ1 α1 H1 v e1 ex1 s1 r1 f1 => ?_)
      refine snd_part hlo hr h2 s1 (en.ext ex1) f1 fun ls μ2 α2 H2 ex2 s2 f2 => ?_
      cases ho : partOf ls with
      | none => rw [ho] at f2; exact (show False from f2).elim
      | some o =>
        rw [ho] at f2
        refine ⟨o, rfl, snd_part hhi hr h3 s2 (en.ext (ex1.trans ex2)) f2 fun hs μ3 α3 H3 ex3 s3 f3 => ?_⟩
        cases ho2 : partOf hs with
        | none => rw [ho2] at f3; exact (show False from f3).elim
        | some o2 =>
          rw [ho2] at f3
          exact ⟨o2, rfl, opSl_ok s3 hr.c (r1.ext (ex2.trans ex3)) f3⟩
  | _ => cases h
end
end Z

end
section
set_option maxHeartbeats 4000000
set_option autoImplicit false
/-! Z13: built-in methods, isinstance, tests. -/
namespace Z
open PySem PySem.Spec PyProof.Rows L2
section
variable {G : Tx} {M : Nm} {n : Nat}
theorem snd_bm {k : BM} {o : ZE} {zs : ZEs} (ho : SndE G M n o) (hs : SndEs G M n zs) : SndE G M n (.bm k o zs) := by
  intro N sc X Wx e α μ ρ σ H Q hr h st en fi
  cases e with
  | Call fn as kws pos =>
    match fn, kws, h with
    | .Attribute b x apos, [], h =>
      have h' : (decide (x = bmN k) && pB b && (apos.endLine == pos.line) && as.all nS && decide (as.length < 29) && agE M o N sc b && agEs M zs N sc as) = true := h
      simp only [Bool.and_eq_true] at h'
      obtain ⟨⟨⟨⟨⟨⟨h1, h2⟩, h3⟩, h4⟩, h5⟩, h6⟩, h7⟩ := h'
      obtain rfl := of_decide_eq_true h1
      intro pins s I
      have wo : WE X b σ H (fun v H1 => ∃ t, BMf (btT t) (bmN k) (bmI k t) ∧ Ty1 X v H1 (btT t) ∧ WA X as σ H1 (fun vs H2 => SM X (bmI k t) v vs H2 Q) ∧ (as = [] → SM X (bmI k t) v [] H1 Q)) := by
        refine ho N sc X Wx b α μ ρ σ H _ hr h6 st en (FinG.bind fi fun d μ1 α1 H1 v e1 ex1 s1 r1 f1 => ?_)
        cases hk : bmTy k (look μ1 d) with
        | none => rw [hk] at f1; exact (show False from f1).elim
        | some t =>
          rw [hk] at f1
          refine ⟨t, bm_f hk, bm_ty s1 r1 hk, ?_, fun e0 => ?_⟩
          rotate_left
          · subst e0
            obtain rfl := es_nil h7
            exact opBM_ok (as := []) s1 hr.c r1 .nil ⟨_, hk⟩ f1
          refine hs N sc X Wx as α1 μ1 ρ σ H1 _ hr h7 h4 s1 (en.ext ex1) (FinG.bind f1 fun ds μ2 α2 H2 vs e2 ex2 s2 r2 f2 => ?_)
          exact opBM_ok s2 hr.c (r1.ext ex2) r2 ⟨_, hk⟩ f2
      refine wpAny_Call_method_late (baseP h2) (few30 h4 (of_decide_eq_true h5)) h3 rfl (thn (wo pins s I) fun v s1 ⟨x, H1, I1, r1, t, B, ty, q, q0⟩ => ?_)
      obtain ⟨h1, h2⟩ := ty pins s1 σ v I1 r1
      refine ⟨btT t, bmI k t, B.pa, B.slot, B.ty, h1, h2, ?_⟩
      cases as with
      | nil =>
        exact Calls.callWith_builtin rfl (PySem.evalArgs_none (q0 rfl pins s1 σ v [] I1 r1 .nil))
      | cons a as =>
        have h4' := band (show (nS a && as.all nS) = true from h4)
        have hA := q pos pins s1 I1
        rw [starE h4'.1] at hA ⊢
        refine Calls.callWith_builtin (by show (false || (backTo pos (starEach as X.env)).any (·.1)) = false; rw [starAny h4'.2] <;> rfl) (Calls.evalArgs_plain ?_)
        exact thn hA fun us s2 ⟨vs, H2, I2, r2, q2⟩ => q2 pins s2 σ v us I2 r1 r2
  | _ => cases h

/-! ### isinstance -/
def tyV (G : Tx) : D → Value
  | .non => .type "NoneType" | .bl _ => .type "bool" | .int _ => .type "int" | .str _ => .type "str" | .tup _ => .type "tuple" | .lst _ => .type "list" | .dic _ => .type "dict"
  | .ins c _ => .ref (G.cA c)
  | _ => .none
theorem tyx_of {N : List Str} {sc : Scope} {X : Cx} {Wx : WX} {α : Al} {μ : Mu} {H : Hp} (hr : Here G n ⟨N, sc, M⟩ X Wx) (st : StOk G α μ H) {x : D} {vx : V} (rx : Rep G α μ H vx x) (h : isiOk G.T.cls.length (look μ x) = true) : TyX X.K H vx (tyV G (look μ x)) := by
  cases e : look μ x with
  | non =>
    have : x = .non := by
      cases x with
      | ref k =>
        unfold look at e
        cases q : μ[k]? with
        | none => simp only [q] at e; cases e
        | some o => simp only [q] at e; cases o <;> cases e
      | _ => exact e
    subst this; cases rx; exact .base .non
  | bl b =>
    have : x = .bl b := by
      cases x with
      | ref k =>
        unfold look at e
        cases q : μ[k]? with
        | none => simp only [q] at e; cases e
        | some o => simp only [q] at e; cases o <;> cases e
      | _ => exact e
    subst this; cases rx; exact .base (.bl b)
  | int i =>
    have : x = .int i := by
      cases x with
      | ref k =>
        unfold look at e
        cases q : μ[k]? with
        | none => simp only [q] at e; cases e
        | some o => simp only [q] at e; cases o <;> cases e
      | _ => exact e
    subst this; cases rx; exact .base (.int i)
  | str z =>
    obtain ⟨rfl, rfl⟩ := look_str rx e
    exact .base (.str _)
  | tup l =>
    obtain ⟨p, xs, rfl, hp, t⟩ := look_tup hr.c st rx e
    rcases hp with (hp | ⟨o, hp⟩) | ⟨o, its, m, h1, h2, _⟩
    · exact .base (.tup hp)
    · exact .fTuple hp
    · exact .kTuple h1 h2
  | lst l =>
    obtain ⟨p, xs, rfl, hp, t⟩ := look_lst st rx e
    exact .base (.lst hp)
  | dic l =>
    obtain ⟨p, xs, rfl, hp, t⟩ := look_dic st rx e
    rcases hp with hp | ⟨o, hp⟩
    · exact .base (.dK hp)
    · exact .fDict hp
  | ins c l =>
    obtain ⟨p, dx, fs, rfl, hp, hm, rl⟩ := look_ins st rx e
    rw [e] at h
    obtain ⟨k1, k2, k3, k4, k5⟩ := hr.t.isc.own c (of_decide_eq_true h)
    rw [← hr.c.K] at k1 k2 k3 k4 k5
    exact .base (.ins hp k1 k2 k3 k4 k5)
  | ref k => rw [e] at h; cases h
  | flst l => rw [e] at h; cases h
  | kd l => rw [e] at h; cases h
theorem kit_of1 {N : List Str} {sc : Scope} {X : Cx} {Wx : WX} (hr : Here G n ⟨N, sc, M⟩ X Wx) {t : Tag} (ht : ∀ c, t = .cls c → c < G.T.cls.length) {d : D} (h : isiOk G.T.cls.length d = true) : PySem.W.kitOne X.K (tyV G d) (tagV G t) = some (tagOk t d) := by
  rw [hr.c.K]
  cases t with
  | cls c =>
    have hc := ht c rfl
    cases d <;> first | exact hr.t.isc.kitC c _ hc (by decide) | (cases h; done) | skip
    rename_i c' l
    have hc' : c' < G.T.cls.length := of_decide_eq_true h
    rw [show PySem.W.kitOne G.K (tyV G (.ins c' l)) (tagV G (.cls c)) = some (decide (c' = c)) from hr.t.isc.kit c' c hc' hc]
    rfl
  | _ =>
    cases d <;> first
      | (refine kit_ty (r := true) ?_; decide +kernel)
      | (refine kit_ty (r := false) ?_; decide +kernel)
      | exact hr.t.isc.kitB _ _ (of_decide_eq_true h) (by decide)
      | cases h
theorem tag_we {N : List Str} {sc : Scope} {X : Cx} {Wx : WX} (hr : Here G n ⟨N, sc, M⟩ X Wx) {t : Tag} {e : Expr} (h : tagB ⟨N, sc, M⟩ t e = true) {σ : L2.St} {H : Hp} {Q : VK} : ∃ c, ClsV c (tagV G t) ∧ nS e = true ∧ (∀ k, t = .cls k → k < G.T.cls.length) ∧ (Q c H → WE X e σ H Q) := by
  have bt : ∀ (x : Str) (T : String) (p : Pos), (decide (x = Str.ofString T) && glB sc x) = true → T ∈ ["int", "bool", "str", "tuple", "list", "dict"] → (Q (.ty T) H → WE X (.Name x p) σ H Q) := fun x T p h ht q => by
    obtain ⟨h1, h2⟩ := band h
    obtain rfl := of_decide_eq_true h1
    obtain ⟨v1, v2, v3⟩ := gl_of hr h2
    have hb : bootBuiltins (Str.ofString T) = some (.type T) ∧ Str.ofString T ∈ bltN := by
      simp only [List.mem_cons, List.mem_nil_iff, or_false] at ht
      rcases ht with rfl | rfl | rfl | rfl | rfl | rfl <;> exact ⟨by kernel_rfl, by decide⟩
    exact WE.of (pe_bltn (v := .ty T) v1 (by rw [hr.c.mg]; exact hr.t.blt _ hb.2) hb.1 rfl v3 v2) q
  cases e with
  | Name x p =>
    cases t with
    | cls c =>
      obtain ⟨h1, h2⟩ := band (show (nthIs M.cl c x && glB sc x) = true from h)
      obtain ⟨v1, v2, v3⟩ := gl_of hr h2
      have hx := of_decide_eq_true h1
      refine ⟨.ref (G.cA c), .own _, rfl, fun k e => ?_, fun q => ?_⟩
      · cases e
        rw [← hr.t.ncl]
        exact (List.getElem?_eq_some_iff.mp hx).1
      · exact WE.of (pe_glob (v := .ref (G.cA c)) (u := .ref (G.cA c)) v1 (by rw [hr.c.mg]; exact hr.t.clm c x hx) rfl v2) q
    | int => exact ⟨.ty "int", .ty _, rfl, (fun k e => nomatch e), bt x "int" p h (by decide)⟩
    | bl => exact ⟨.ty "bool", .ty _, rfl, (fun k e => nomatch e), bt x "bool" p h (by decide)⟩
    | str => exact ⟨.ty "str", .ty _, rfl, (fun k e => nomatch e), bt x "str" p h (by decide)⟩
    | tup => exact ⟨.ty "tuple", .ty _, rfl, (fun k e => nomatch e), bt x "tuple" p h (by decide)⟩
    | lst => exact ⟨.ty "list", .ty _, rfl, (fun k e => nomatch e), bt x "list" p h (by decide)⟩
    | dic => exact ⟨.ty "dict", .ty _, rfl, (fun k e => nomatch e), bt x "dict" p h (by decide)⟩
  | _ => cases t <;> cases h
theorem clsV_inj {c c' : V} {u : Value} (a : ClsV c u) (b : ClsV c' u) : c = c' := by
  cases a <;> cases b <;> rfl
theorem tags_we {N : List Str} {sc : Scope} {X : Cx} {Wx : WX} (hr : Here G n ⟨N, sc, M⟩ X Wx) : ∀ {ts : List Tag} {es : List Expr}, tagsB ⟨N, sc, M⟩ ts es = true →
    ∃ cs us, Paired ClsV cs us ∧ es.all nS = true ∧ (∀ {d : D}, isiOk G.T.cls.length d = true → PySem.W.kitAny X.K (tyV G d) us = some (ts.any fun t => tagOk t d)) ∧ cs.length = ts.length ∧ ∀ (σ : L2.St) (H : Hp) (Q : List V → Hp → Prop), Q cs H → WA X es σ H Q
  | [], [], _ => ⟨[], [], .nil, rfl, fun _ => rfl, rfl, fun σ H Q q => WA.of pa_nil q⟩
  | [], e :: es, h => by cases h
  | t :: ts, [], h => by cases h
  | t :: ts, e :: es, h => by
    obtain ⟨h1, h2⟩ := band (show (tagB ⟨N, sc, M⟩ t e && tagsB ⟨N, sc, M⟩ ts es) = true from h)
    obtain ⟨cs, us, k1, k2, k3, k4, k5⟩ := tags_we hr h2
    obtain ⟨c, g1, g2, g3, _⟩ := tag_we (σ := []) (H := fun _ => none) (Q := fun _ _ => True) hr h1
    refine ⟨c :: cs, tagV G t :: us, .cons g1 k1, by simp [g2, k2], fun {d} hd => ?_, by simp [k4], fun σ H Q q => ?_⟩
    · refine kitAny_cons (kit_of1 hr g3 hd) (fun hb => ?_) fun hb => ?_
      · rw [k3 hd, List.any_cons, hb, Bool.false_or]
      · rw [List.any_cons, hb, Bool.true_or]
    · obtain ⟨c', g1', _, _, g4⟩ := tag_we (σ := σ) (H := H) (Q := fun v H1 => v = c ∧ H1 = H) hr h1
      have ec : c' = c := clsV_inj g1' g1
      have we := g4 ⟨ec, rfl⟩
      refine WA.of (pa_cons pe_we pa_wa (starE g2)) (WE.mono we fun v H1 e => ?_)
      obtain ⟨rfl, rfl⟩ := e
      exact k5 σ H1 _ q
theorem snd_isi {a : ZE} {ts : List Tag} (ha : SndE G M n a) : SndE G M n (.isi a ts) := by
  intro N sc X Wx e α μ ρ σ H Q hr h st en f
  cases e with
  | Call fn as kws pos =>
    match fn, as, kws, h with
    | .Name x p, [e, c], [], h =>
      have key : (decide (x = "isinstance") && glB sc x && nS e && agE M a N sc e && nS c) = true ∧ ((∃ cs k q, c = .Tuple cs k q ∧ tagsB ⟨N, sc, M⟩ ts cs = true ∧ ts.length ≤ lim) ∨ ∃ t, ts = [t] ∧ tagB ⟨N, sc, M⟩ t c = true) := by
        obtain ⟨h1, h2⟩ := band (show (decide (x = "isinstance") && glB sc x && nS e && agE M a N sc e && nS c && isiB ⟨N, sc, M⟩ ts c) = true from h)
        refine ⟨h1, ?_⟩
        unfold isiB at h2
        split at h2
        · rename_i cs k q
          exact .inl ⟨cs, k, q, rfl, (band h2).1, of_decide_eq_true (band h2).2⟩
        · split at h2
          · exact .inr ⟨_, rfl, h2⟩
          · cases h2
      obtain ⟨h', alt⟩ := key
      simp only [Bool.and_eq_true] at h'
      obtain ⟨⟨⟨⟨h1, h3⟩, h4⟩, h5⟩, h6⟩ := h'
      obtain rfl := of_decide_eq_true h1
      obtain ⟨v1, v2, v3⟩ := gl_of hr h3
      refine we_call1 (u := .builtin "isinstance") (.inl ⟨_, rfl⟩) v1 (by rw [hr.c.mg]; exact hr.t.blt _ (by decide)) (by kernel_rfl) v3 v2 h4 (by simp [h6]) (wa_two h4 h6 ?_)
      refine ha N sc X Wx e α μ ρ σ H _ hr h5 st en (FinG.bind f fun d μ1 α1 H1 v e1 ex1 s1 r1 f1 => ?_)
      by_cases hd : isiOk G.T.cls.length (look μ1 d) = true
      · have f1' : Fin1 G (WW G Wx σ) α1 μ1 H1 (.ok (.bl (ts.any fun t => tagOk t (look μ1 d))) μ1) Q := by
          have f1'' : Fin1 G (WW G Wx σ) α1 μ1 H1 (if isiOk G.T.cls.length (look μ1 d) = true then .ok (.bl (ts.any fun t => tagOk t (look μ1 d))) μ1 else .err) Q := f1
          rwa [if_pos hd] at f1''
        have ty := tyx_of hr s1 r1 hd
        rcases alt with ⟨cs, k, q, rfl, ht, hlim⟩ | ⟨t, rfl, ht⟩
        · obtain ⟨vs, us, k1, k2, k3, k4, k5⟩ := tags_we hr ht
          refine WE.of (pe_tup pa_wa) (k5 σ H1 _ ⟨?_, fun p hp => ?_⟩)
          · exact lim_le (by rw [k4]; exact hlim)
          · have ex := ext_new (o := .tup vs) s1 hp
            have ty2 := tyx_of hr (s1.new (o := .tup vs) hp) (r1.ext ex) hd
            exact SC.of call_isiT ⟨v, p, vs, _, us, _, rfl, upd_same, k1, ty2, k3 hd, FinG.now (FinG.at_ f1' ex) (s1.new hp) (.bl _)⟩
        · obtain ⟨c1, g1, g2, g3, g4⟩ := tag_we (σ := σ) (H := H1) (Q := fun v2 H2 => SC X (.builtin "isinstance") [v, v2] H2 Q) hr ht
          refine g4 (SC.of call_isi ⟨v, c1, _, _, tagOk t (look μ1 d), rfl, g1, ty, kit_of1 hr g3 hd, ?_⟩)
          have q := FinG.now f1' s1 (.bl _)
          simpa using q
      · have f1'' : Fin1 G (WW G Wx σ) α1 μ1 H1 (if isiOk G.T.cls.length (look μ1 d) = true then .ok (.bl (ts.any fun t => tagOk t (look μ1 d))) μ1 else .err) Q := f1
        rw [if_neg hd] at f1''
        exact (show False from f1'').elim
  | _ => cases h
end
end Z

end
section
set_option maxHeartbeats 4000000
set_option autoImplicit false
/-! Z14: tests; argument lists. -/
namespace Z
open PySem PySem.Spec PyProof.Rows L2
section
variable {G : Tx} {M : Nm} {n : Nat}
theorem sndT_gen {z : ZE} (h : SndE G M n z) (hg : ∀ (N : List Str) (sc : Scope) (e : Expr), agE M z N sc e = true → gT e = true) : SndT G M n z := by
  intro N sc X Wx e α μ ρ σ H Q hr ha st en f
  exact WT.of (pt_val (pe_we (X := X)) (fun w => isTG (hg N sc e ha))) (h N sc X Wx e α μ ρ σ H _ hr ha st en f)
theorem sndT_not {a : ZE} (ha : SndT G M n a) : SndT G M n (.not a) := by
  intro N sc X Wx e α μ ρ σ H Q hr h st en f
  cases e with
  | UnaryOp op x pos =>
    cases op with
    | Not =>
      refine WT.of (pt_not pt_wt) (ha N sc X Wx x α μ ρ σ H _ hr h st en (FinG.bind f fun d μ1 α1 H1 v e1 ex1 s1 r1 f1 => ?_))
      cases d with
      | bl b =>
        cases r1
        obtain ⟨c, e, q⟩ := FinG.now f1 s1 (.bl _)
        cases e
        exact ⟨b, rfl, q⟩
      | _ => exact (show False from f1).elim
    | _ => cases h
  | _ => cases h
theorem wp_bool {X : Cx} {op : BoolOp} {vs : List Expr} {pos : Pos} {t : TT} (h : PT X (.BoolOp op vs pos) t) : PW X (.BoolOp op vs pos) t := ⟨fun _ pins s σ H Q I q => h.run pins s σ H Q I q⟩
theorem sndT_and {a b : ZE} (ha : SndT G M n a) (hb : SndT G M n b) : SndT G M n (.and a b) := by
  intro N sc X Wx e α μ ρ σ H Q hr h st en f
  cases e with
  | BoolOp op vs pos =>
    cases op with
    | Or => cases h
    | And =>
      cases vs with
      | nil => cases h
      | cons x vs =>
        cases vs with
        | nil => cases h
        | cons y r =>
          have h1 : agE M a N sc x = true := by
            cases r with
            | nil => exact (band (show (agE M a N sc x && agE M b N sc y) = true from h)).1
            | cons z r => exact (band (show (agE M a N sc x && agE M b N sc (.BoolOp .And (y :: z :: r) pos)) = true from h)).1
          have go : ∀ Y : Expr, PW X (.BoolOp .And (y :: r) pos) (WT X Y) → agE M b N sc Y = true → WT X (.BoolOp .And (x :: y :: r) pos) σ H Q := fun Y hY h2 => by
            refine WT.of (pw_and pt_wt hY).pt (ha N sc X Wx x α μ ρ σ H _ hr h1 st en (FinG.bind f fun d μ1 α1 H1 v e1 ex1 s1 r1 f1 => ?_))
            cases d with
            | bl i =>
              cases r1
              refine ⟨i, rfl, ?_⟩
              cases i with
              | true =>
                refine hb N sc X Wx Y α1 μ1 ρ σ H1 _ hr h2 s1 (en.ext ex1) (FinG.bind f1 fun d2 μ2 α2 H2 v2 e2 ex2 s2 r2 f2 => ?_)
                cases d2 with
                | bl j => exact FinG.now f2 s2 r2
                | _ => exact (show False from f2).elim
              | false =>
                obtain ⟨c, e, q⟩ := FinG.now f1 s1 (.bl _)
                cases e
                exact q
            | _ => exact (show False from f1).elim
          cases r with
          | nil => exact go y (pw_and1 pt_wt) (band (show (agE M a N sc x && agE M b N sc y) = true from h)).2
          | cons z r => exact go _ (wp_bool pt_wt) (band (show (agE M a N sc x && agE M b N sc (.BoolOp .And (y :: z :: r) pos)) = true from h)).2
  | _ => cases h
theorem sndT_or {a b : ZE} (ha : SndT G M n a) (hb : SndT G M n b) : SndT G M n (.or a b) := by
  intro N sc X Wx e α μ ρ σ H Q hr h st en f
  cases e with
  | BoolOp op vs pos =>
    cases op with
    | And => cases h
    | Or =>
      cases vs with
      | nil => cases h
      | cons x vs =>
        cases vs with
        | nil => cases h
        | cons y r =>
          have h1 : agE M a N sc x = true := by
            cases r with
            | nil => exact (band (show (agE M a N sc x && agE M b N sc y) = true from h)).1
            | cons z r => exact (band (show (agE M a N sc x && agE M b N sc (.BoolOp .Or (y :: z :: r) pos)) = true from h)).1
          have go : ∀ Y : Expr, PW X (.BoolOp .Or (y :: r) pos) (WT X Y) → agE M b N sc Y = true → WT X (.BoolOp .Or (x :: y :: r) pos) σ H Q := fun Y hY h2 => by
            refine WT.of (pw_or pt_wt hY).pt (ha N sc X Wx x α μ ρ σ H _ hr h1 st en (FinG.bind f fun d μ1 α1 H1 v e1 ex1 s1 r1 f1 => ?_))
            cases d with
            | bl i =>
              cases r1
              refine ⟨i, rfl, ?_⟩
              cases i with
              | false =>
                refine hb N sc X Wx Y α1 μ1 ρ σ H1 _ hr h2 s1 (en.ext ex1) (FinG.bind f1 fun d2 μ2 α2 H2 v2 e2 ex2 s2 r2 f2 => ?_)
                cases d2 with
                | bl j => exact FinG.now f2 s2 r2
                | _ => exact (show False from f2).elim
              | true =>
                obtain ⟨c, e, q⟩ := FinG.now f1 s1 (.bl _)
                cases e
                exact q
            | _ => exact (show False from f1).elim
          cases r with
          | nil => exact go y (pw_or1 pt_wt) (band (show (agE M a N sc x && agE M b N sc y) = true from h)).2
          | cons z r => exact go _ (wp_bool pt_wt) (band (show (agE M a N sc x && agE M b N sc (.BoolOp .Or (y :: z :: r) pos)) = true from h)).2
  | _ => cases h
theorem sndT_isN {a : ZE} (ha : SndE G M n a) : SndT G M n (.isN a) := by
  intro N sc X Wx e α μ ρ σ H Q hr h st en f
  cases e with
  | Compare l ops rs pos =>
    match ops, rs, h with
    | [.Is], [.Constant .none j p], h =>
      refine WT.of (pt_cmp (pc_isN pe_we) rfl) (ha N sc X Wx l α μ ρ σ H _ hr h st en (FinG.bind f fun d μ1 α1 H1 v e1 ex1 s1 r1 f1 => ?_))
      have q := FinG.now f1 s1 (.bl _)
      cases r1 <;> exact q
  | _ => cases h
theorem sndT_notN {a : ZE} (ha : SndE G M n a) : SndT G M n (.notN a) := by
  intro N sc X Wx e α μ ρ σ H Q hr h st en f
  cases e with
  | Compare l ops rs pos =>
    match ops, rs, h with
    | [.IsNot], [.Constant .none j p], h =>
      refine WT.of (pt_cmp (pc_notN pe_we) rfl) (ha N sc X Wx l α μ ρ σ H _ hr h st en (FinG.bind f fun d μ1 α1 H1 v e1 ex1 s1 r1 f1 => ?_))
      have q := FinG.now f1 s1 (.bl _)
      cases r1 <;> exact q
  | _ => cases h
theorem sndT_cmp {o : Co} {a b : ZE} (ha : SndE G M n a) (hb : SndE G M n b) : SndT G M n (.cmp o a b) := by
  intro N sc X Wx e α μ ρ σ H Q hr h st en f
  cases e with
  | Compare l ops rs pos =>
    match ops, rs, h with
    | [op], [r], h =>
      have h' : (decide (op = co o) && nSet r && agE M a N sc l && agE M b N sc r) = true := h
      simp only [Bool.and_eq_true] at h'
      obtain ⟨⟨⟨h1, h2⟩, h3⟩, h4⟩ := h'
      obtain rfl := of_decide_eq_true h1
      refine WT.of (pt_cmpR (r := fun x y H Q => SO X (compareOp (co o)) x y H Q) (fun pins s σ H x y v u Q I rx ry h => h pins s σ v u I rx ry) pe_we pe_we (noMark h2)) ?_
      refine ha N sc X Wx l α μ ρ σ H _ hr h3 st en (FinG.bind f fun d μ1 α1 H1 v e1 ex1 s1 r1 f1 => ?_)
      refine hb N sc X Wx r α1 μ1 ρ σ H1 _ hr h4 s1 (en.ext ex1) (FinG.bind f1 fun d2 μ2 α2 H2 v2 e2 ex2 s2 r2 f2 => ?_)
      exact opCI_ok hr s2 (r1.ext ex2) r2 f2
  | _ => cases h
theorem sndT_chain {o o' : Co} {a b c : ZE} (ha : SndE G M n a) (hb : SndE G M n b) (hc : SndE G M n c) : SndT G M n (.chain o o' a b c) := by
  intro N sc X Wx e α μ ρ σ H Q hr h st en f
  cases e with
  | Compare l ops rs pos =>
    match ops, rs, h with
    | [op, op'], [m, r], h =>
      have h' : (decide (op = co o) && decide (op' = co o') && nSet m && nSet r && agE M a N sc l && agE M b N sc m && agE M c N sc r) = true := h
      simp only [Bool.and_eq_true] at h'
      obtain ⟨⟨⟨⟨⟨⟨h1, h2⟩, h3⟩, h4⟩, h5⟩, h6⟩, h7⟩ := h'
      obtain rfl := of_decide_eq_true h1
      obtain rfl := of_decide_eq_true h2
      refine WT.of (pt_chain (r := fun x y H Q => SO X (compareOp (co o)) x y H Q) (r' := fun x y H Q => SO X (compareOp (co o')) x y H Q) (fun pins s σ H x y v u Q I rx ry h => h pins s σ v u I rx ry) (fun pins s σ H x y v u Q I rx ry h => h pins s σ v u I rx ry) pe_we pe_we pe_we
        (by show behindInMarks (co o') r = false; exact noMark h4)) ?_
      refine ha N sc X Wx l α μ ρ σ H _ hr h5 st en (FinG.bind f fun d μ1 α1 H1 v e1 ex1 s1 r1 f1 => ?_)
      refine hb N sc X Wx m α1 μ1 ρ σ H1 _ hr h6 s1 (en.ext ex1) (FinG.bind f1 fun d2 μ2 α2 H2 v2 e2 ex2 s2 r2 f2 => ?_)
      refine opC_ok s2 hr.c (r1.ext ex2) r2 (FinG.bind f2 fun d3 μ3 α3 H3 v3 e3 ex3 s3 r3 f3 => ?_)
      cases d3 with
      | bl k =>
        cases r3
        refine ⟨k, rfl, ?_⟩
        cases k with
        | true =>
          refine hc N sc X Wx r α3 μ3 ρ σ H3 _ hr h7 s3 ((en.ext ex1).ext (ex2.trans ex3)) (FinG.bind f3 fun d4 μ4 α4 H4 v4 e4 ex4 s4 r4 f4 => ?_)
          exact opC_ok s4 hr.c (r2.ext (ex3.trans ex4)) r4 f4
        | false => exact FinG.now f3 s3 (.bl _)
      | _ => exact (show False from f3).elim
  | _ => cases h
theorem snd_ite {c a b : ZE} (hc : SndT G M n c) (ha : SndE G M n a) (hb : SndE G M n b) : SndE G M n (.ite c a b) := by
  intro N sc X Wx e α μ ρ σ H Q hr h st en f
  cases e with
  | IfExp t x y pos =>
    have h' : (agE M c N sc t && agE M a N sc x && agE M b N sc y) = true := h
    simp only [Bool.and_eq_true] at h'
    obtain ⟨⟨h1, h2⟩, h3⟩ := h'
    refine WE.of (pe_ifExp pt_wt pe_we pe_we) (hc N sc X Wx t α μ ρ σ H _ hr h1 st en (FinG.bind f fun d μ1 α1 H1 v e1 ex1 s1 r1 f1 => ?_))
    cases d with
    | bl i =>
      cases r1
      refine ⟨i, rfl, ?_⟩
      cases i with
      | true => exact ha N sc X Wx x α1 μ1 ρ σ H1 _ hr h2 s1 (en.ext ex1) f1
      | false => exact hb N sc X Wx y α1 μ1 ρ σ H1 _ hr h3 s1 (en.ext ex1) f1
    | _ => exact (show False from f1).elim
  | _ => cases h
theorem sndT_ite {c a b : ZE} (hc : SndT G M n c) (ha : SndT G M n a) (hb : SndT G M n b) : SndT G M n (.ite c a b) := by
  intro N sc X Wx e α μ ρ σ H Q hr h st en f
  cases e with
  | IfExp t x y pos =>
    have h' : (agE M c N sc t && agE M a N sc x && agE M b N sc y) = true := h
    simp only [Bool.and_eq_true] at h'
    obtain ⟨⟨h1, h2⟩, h3⟩ := h'
    have wt : WT X t σ H (fun i H1 => if i = true then WT X x σ H1 Q else WT X y σ H1 Q) := hc N sc X Wx t α μ ρ σ H _ hr h1 st en (FinG.bind f fun d μ1 α1 H1 v e1 ex1 s1 r1 f1 => by
      cases d with
      | bl i =>
        cases r1
        refine ⟨i, rfl, ?_⟩
        cases i with
        | true => exact ha N sc X Wx x α1 μ1 ρ σ H1 _ hr h2 s1 (en.ext ex1) f1
        | false => exact hb N sc X Wx y α1 μ1 ρ σ H1 _ hr h3 s1 (en.ext ex1) f1
      | _ => exact (show False from f1).elim)
    intro pins s I
    show wpAny _ _ (do if ← isTrue t X.env (eval t X.env) then isTrue x X.env (eval x X.env) else isTrue y X.env (eval y X.env)) _ _ s
    refine wpAny_bind (thn (wt pins s I) fun i s1 ⟨H1, I1, q1⟩ => ?_)
    cases i with
    | true => exact q1 pins s1 I1
    | false => exact q1 pins s1 I1
  | _ => cases h
theorem snd_nil : SndEs G M n .nil := by
  intro N sc X Wx es α μ ρ σ H Q hr h hs st en f
  cases es with
  | nil => exact WA.of pa_nil (FinG.now f st .nil)
  | cons e es => cases h
theorem snd_cons {z : ZE} {zs : ZEs} (ha : SndE G M n z) (hb : SndEs G M n zs) : SndEs G M n (.cons z zs) := by
  intro N sc X Wx es α μ ρ σ H Q hr h hs st en f
  cases es with
  | nil => cases h
  | cons e es =>
    obtain ⟨h1, h2⟩ := band (show (agE M z N sc e && agEs M zs N sc es) = true from h)
    obtain ⟨k1, k2⟩ := band (show (nS e && es.all nS) = true from hs)
    refine WA.of (pa_cons pe_we pa_wa (starE k1)) (ha N sc X Wx e α μ ρ σ H _ hr h1 st en (FinG.bind f fun d μ1 α1 H1 v e1 ex1 s1 r1 f1 => ?_))
    refine hb N sc X Wx es α1 μ1 ρ σ H1 _ hr h2 k2 s1 (en.ext ex1) (FinG.bind f1 fun ds μ2 α2 H2 vs e2 ex2 s2 r2 f2 => ?_)
    exact FinG.now f2 s2 (.cons (r1.ext ex2) r2)
end
end Z

end
section
set_option maxHeartbeats 4000000
set_option autoImplicit false
/-! Z15: targets, what a for walks. -/
namespace Z
open PySem PySem.Spec PyProof.Rows L2
section
variable {G : Tx} {M : Nm} {n : Nat}
theorem EnvOk.ext0 {α α' : Al} {μ μ' : Mu} {H H' : Hp} {ρ : Env} {σ : L2.St} (o : EnvOk G α μ H ρ σ) (e : Ext0 α μ H α' μ' H') : EnvOk G α' μ' H' ρ σ := ⟨o.1, fun i d h => by
  obtain ⟨v, h1, h2⟩ := o.2 i d h
  exact ⟨v, h1, h2.ext0 e⟩⟩
theorem wipe_get (σ : L2.St) (i : Nat) : ∀ vs : List Nat, (L2.wipe σ vs)[i]? = if i ∈ vs then σ[i]?.map (fun _ => none) else σ[i]?
  | [] => by simp [L2.wipe]
  | v :: vs => by
    show ((L2.wipe σ vs).set v none)[i]? = _
    have ih := wipe_get σ i vs
    by_cases e : v = i
    · subst e
      rw [if_pos (List.mem_cons_self)]
      by_cases hl : v < (L2.wipe σ vs).length
      · rw [List.getElem?_set_self hl]
        rw [L2.wipe_length] at hl
        rw [List.getElem?_eq_getElem hl]
        rfl
      · rw [List.getElem?_eq_none (by rw [List.length_set]; omega)]
        rw [L2.wipe_length] at hl
        rw [List.getElem?_eq_none (by omega)]
        rfl
    · rw [List.getElem?_set_ne e, ih]
      have : (i ∈ v :: vs) ↔ i ∈ vs := by simp [Ne.symm e]
      simp only [this]
theorem wipe_wipe (σ : L2.St) (vs : List Nat) : L2.wipe (L2.wipe σ vs) vs = L2.wipe σ vs := by
  apply List.ext_getElem?
  intro i
  rw [wipe_get, wipe_get]
  by_cases h : i ∈ vs
  · rw [if_pos h, if_pos h]
    cases σ[i]? <;> rfl
  · rw [if_neg h, if_neg h]
theorem wipe_set {σ : L2.St} {i : Nat} {x : Option V} {vs : List Nat} (h : i ∈ vs) : L2.wipe (σ.set i x) vs = L2.wipe σ vs := by
  apply List.ext_getElem?
  intro j
  rw [wipe_get, wipe_get]
  by_cases e : i = j
  · subst e
    rw [if_pos h, if_pos h]
    by_cases hl : i < σ.length
    · rw [List.getElem?_set_self hl, List.getElem?_eq_getElem hl]
      rfl
    · rw [List.getElem?_eq_none (by rw [List.length_set]; omega), List.getElem?_eq_none (by omega)]
  · rw [List.getElem?_set_ne e]
/-! ### targets -/
def WG (X : Cx) (tg : Expr) : TG := fun v σ H Q => ∀ pins s u, Inv X pins σ H s → RelV v u → wpAny (model X.prog X.w) X.A (assign tg X.env u) (fun _ s' => ∃ σ' H', Inv X pins σ' H' s' ∧ Q σ' H') X.xe s
def WGs (X : Cx) (ts : List Expr) : TGs := fun vs σ H Q => ∀ pins s us, Inv X pins σ H s → Vals vs us → wpAny (model X.prog X.w) X.A (assignInOrder ((assignEach ts X.env).map (·.2)) us) (fun _ s' => ∃ σ' H', Inv X pins σ' H' s' ∧ Q σ' H') X.xe s
theorem pg_wg {X : Cx} {tg : Expr} : PG X tg (WG X tg) := ⟨fun pins s _ _ _ u _ I r h => h pins s u I r⟩
theorem pgs_wgs {X : Cx} {tg : List Expr} : PGs X tg (WGs X tg) := ⟨fun pins s _ _ _ u _ I r h => h pins s u I r⟩
theorem asgEach {e : Expr} {es : List Expr} {env : PySem.Env} (h : nS e = true) : assignEach (e :: es) env = (false, assign e env) :: assignEach es env := by
  cases e <;> first | rfl | cases h
theorem asgEach_len {env : PySem.Env} : ∀ {es : List Expr}, es.all nS = true → (assignEach es env).length = es.length ∧ (assignEach es env).findIdx? (·.1) = none
  | [], _ => ⟨rfl, rfl⟩
  | e :: es, h => by
    obtain ⟨h1, h2⟩ := band (show (nS e && es.all nS) = true from h)
    obtain ⟨k1, k2⟩ := asgEach_len (env := env) h2
    rw [asgEach h1]
    refine ⟨by rw [List.length_cons, List.length_cons, k1], ?_⟩
    rw [List.findIdx?_cons]
    simp [k2]
theorem loc_of {N : List Str} {sc : Scope} {X : Cx} {Wx : WX} {x : Str} (hr : Here G n ⟨N, sc, M⟩ X Wx) (h : locB sc x = true) : Loc X.env.scope x ∧ (X.fn x = true ∨ X.env.scope.names.lookup x = some .local) := by
  unfold locB at h
  split at h
  · rename_i e
    rcases hr.c.sco x _ e with q | ⟨q, _⟩
    · exact ⟨.inl q, .inr q⟩
    · cases q
  · rename_i e
    rcases hr.c.sco x _ e with q | ⟨q, _⟩
    · exact ⟨.inr q, .inl (hr.c.fnc x e)⟩
    · cases q
  · cases h
theorem agTgs_nS {A : Ag} {own : List Nat} : ∀ {l : List ZT} {es : List Expr}, agTgs A own l es = true → es.all nS = true ∧ es.length = l.length
  | [], [], _ => ⟨rfl, rfl⟩
  | [], e :: es, h => by unfold agTgs at h; cases h
  | t :: l, [], h => by unfold agTgs at h; cases h
  | t :: l, e :: es, h => by
    unfold agTgs at h
    simp only [Bool.and_eq_true] at h
    obtain ⟨k1, k2⟩ := agTgs_nS h.2
    exact ⟨by simp [h.1.2, k1], by simp [k2]⟩
mutual
theorem sndTg {N : List Str} {sc : Scope} {X : Cx} {Wx : WX} (hr : Here G n ⟨N, sc, M⟩ X Wx) {own : List Nat} {α : Al} {μ : Mu} {H : Hp} (st : StOk G α μ H) : ∀ (t : ZT) {tg : Expr} {ρ ρ' : Env} {σ : L2.St} {v : V} {d : D} {Q : L2.St → Hp → Prop}, agTg ⟨N, sc, M⟩ own t tg = true →
    EnvOk G α μ H ρ σ → Rep G α μ H v d → bindT t d ρ = some ρ' → (∀ σ', EnvOk G α μ H ρ' σ' → (∀ vs : List Nat, (∀ i ∈ own, i ∈ vs) → L2.wipe σ' vs = L2.wipe σ vs) → Q σ' H) → WG X tg v σ H Q
  | .nm i, tg, ρ, ρ', σ, v, d, Q, h, en, r, b, q => by
    cases tg with
    | Name x pos =>
      have h' : (nthIs N i x && locB sc x && own.contains i) = true := by unfold agTg at h; exact h
      simp only [Bool.and_eq_true] at h'
      obtain ⟨⟨h1, h2⟩, h3⟩ := h'
      obtain ⟨l1, l2⟩ := loc_of hr h2
      have e : ρ' = ρ.set i (some d) := by unfold bindT at b; exact (Option.some.inj b).symm
      subst e
      have q' := q _ (en.set i r) (fun vs hvs => wipe_set (hvs i (by simpa using h3)))
      intro pins s u I ru
      exact (pg_name (i := i) (by rw [hr.c.N]; exact hr.c.nd) (by rw [hr.c.N]; exact of_decide_eq_true h1) l1 l2).run pins s σ H v u Q I ru q'
    | _ => unfold agTg at h; cases h
  | .tp l, tg, ρ, ρ', σ, v, d, Q, h, en, r, b, q => by
    cases tg with
    | Tuple es k pos =>
      have h' : agTgs ⟨N, sc, M⟩ own l es = true := by unfold agTg at h; exact h
      obtain ⟨k1, k2⟩ := agTgs_nS h'
      obtain ⟨j1, j2⟩ := asgEach_len (env := X.env) k1
      cases d with
      | tup ds =>
        have b' : (if l.length = ds.length then bindTs l ds ρ else none) = some ρ' := by unfold bindT at b; exact b
        by_cases hl : l.length = ds.length
        · rw [if_pos hl] at b'
          cases r with
          | tup hp rl =>
            intro pins s u I ru
            refine (pg_tup hr.c.calm (pgs_wgs (X := X)) (n := es.length) j1 j2).run pins s σ H _ u Q I ru ⟨_, _, rfl, hr.c.tup hp, ?_, ?_⟩
            · rw [rl.len, k2, hl]
            · exact sndTgs hr st l h' en rl b' q
        · rw [if_neg hl] at b'
          cases b'
      | _ => unfold bindT at b; cases b
    | _ => unfold agTg at h; cases h
theorem sndTgs {N : List Str} {sc : Scope} {X : Cx} {Wx : WX} (hr : Here G n ⟨N, sc, M⟩ X Wx) {own : List Nat} {α : Al} {μ : Mu} {H : Hp} (st : StOk G α μ H) : ∀ (l : List ZT) {es : List Expr} {ρ ρ' : Env} {σ : L2.St} {vs : List V} {ds : List D} {Q : L2.St → Hp → Prop}, agTgs ⟨N, sc, M⟩ own l es = true →
    EnvOk G α μ H ρ σ → RepL G α μ H vs ds → bindTs l ds ρ = some ρ' → (∀ σ', EnvOk G α μ H ρ' σ' → (∀ vs : List Nat, (∀ i ∈ own, i ∈ vs) → L2.wipe σ' vs = L2.wipe σ vs) → Q σ' H) → WGs X es vs σ H Q
  | [], es, ρ, ρ', σ, vs, ds, Q, h, en, r, b, q => by
    cases es with
    | nil =>
      cases ds with
      | nil =>
        cases r
        have e : ρ = ρ' := by unfold bindTs at b; exact Option.some.inj b
        subst e
        intro pins s us I ru
        exact pgs_nil.run pins s σ H _ us Q I ru ⟨rfl, q σ en fun _ _ => rfl⟩
      | cons d ds => unfold bindTs at b; cases b
    | cons e es => unfold agTgs at h; cases h
  | t :: l, es, ρ, ρ', σ, vs, ds, Q, h, en, r, b, q => by
    cases es with
    | nil => unfold agTgs at h; cases h
    | cons e es =>
      cases r with
      | nil => unfold bindTs at b; cases b
      | @cons v d vs ds r1 r2 =>
        unfold agTgs at h
        simp only [Bool.and_eq_true] at h
        obtain ⟨⟨h1, h2⟩, h3⟩ := h
        unfold bindTs at b
        cases e1 : bindT t d ρ with
        | none => rw [e1] at b; cases b
        | some ρ1 =>
          rw [e1] at b
          intro pins s us I ru
          refine (pgs_cons (X := X) pg_wg pgs_wgs (by rw [asgEach h2]; rfl)).run pins s σ H _ us Q I ru ⟨v, vs, rfl, ?_⟩
          exact sndTg hr st t h1 en r1 e1 fun σ1 en1 w1 => sndTgs hr st l h3 en1 r2 b fun σ2 en2 w2 => q σ2 en2 fun vs hvs => (w2 vs hvs).trans (w1 vs hvs)
end
end
end Z

end
section
set_option maxHeartbeats 4000000
set_option autoImplicit false
/-! Ze: enumerate over a list or a tuple. -/
namespace Z
open PySem PySem.Spec PyProof.Rows L2
/-- the tuple at a, each item in a new pair -/
def IteT (K : PySem.W.Frag) (a : Addr) : It :=
  ⟨fun i H => ∃ (xs : List V) (x : V), SqT K H a xs ∧ xs[i]? = some x, fun i H v H' => ∃ T x, v = .ref T ∧ H T = none ∧ H' = upd H T (.tup [.int (i : Nat), x]) ∧ ∀ xs, SqT K H a xs → xs[i]? = some x, fun i H => ∃ xs : List V, SqT K H a xs ∧ xs.length ≤ i⟩
theorem turn_enumT {P : Program} {w : World} {K : PySem.W.Frag} {elts : List Expr} {kk : Nat} {tpos : Pos} (a e it : Addr) :
    Turn P w K (.Tuple elts kk tpos) (IteT K a) [e, it] e (fun i h => (∃ old, IsEnum h e it ((i : Nat) : Int) old) ∧ h.IsTupleIter it a i ∧ e ≠ it ∧ a ≠ it ∧ e ≠ a) where
  mem := by simp
  obj := fun i h st b hb => by
    obtain ⟨⟨old, he⟩, ⟨o, ho, hc, hd⟩, _⟩ := st
    have e' : b = e ∨ b = it := by simpa using hb
    rcases e' with z | z
    · rw [z]; exact ⟨_, he, fun v q => nomatch q⟩
    · rw [z]; exact ⟨o, ho, fun v q => by rw [hd] at q; cases q⟩
  keep := fun i h h' st k => let ⟨⟨old, he⟩, hi, hne⟩ := st; ⟨⟨old, k e (by simp) _ he⟩, hi.at fun o q => k it (by simp) o q, hne⟩
  item := by
    intro X hP hw hK hc i pins s σ H E I hf st hg
    subst hP hw hK
    obtain ⟨⟨old, he⟩, hit, hne, hai, hea⟩ := st
    obtain ⟨xs, x, hq, hx⟩ := hg
    obtain ⟨its, rv, p, hz⟩ := I.tuple hq
    obtain ⟨u, hu, ru⟩ := rv.get hx
    have hel : e < s.heap.objs.size := Heap.lt_size he
    have hil : it < s.heap.objs.size := by obtain ⟨_, q, _⟩ := hit; exact Heap.lt_size q
    have hlt : i < its.toArray.size := by
      have := (List.getElem?_eq_some_iff.mp hu).1
      simpa using this
    have pt : s.heap.IsTuple a its.toArray := p
    refine wpAny_pyNext_enum_itemD (Draws.tuple (A := X.A.in1) (show X.A.in1.handled = none from I.ok.hd hc) it a hai its.toArray) he ⟨hit, pt⟩ hlt hne (by simp [hne, hea]) fun y h' tk hy ho hst' hT hsz hk => ?_
    have ey : y = u := by
      have : its.toArray[i]? = some u := by simpa using hu
      rw [this] at hy
      exact (Option.some.inj hy).symm
    subst ey
    refine ⟨_, rfl, wpAny_letOwnedTupleGo_enum (s := { s with heap := h', toks := tk + 1 }) ho fun h'' he' sb => ?_⟩
    have hT2 : h''.get? s.heap.objs.size = some { cls := .type "tuple", data := .seq #[.int i tk, y] } := (sb.2 _ (Nat.ne_of_gt hel)).trans hT
    have new : ObjOk X.prog X.w (upd H s.heap.objs.size (.tup [.int (i : Nat), x])) h'' s.heap.objs.size (.tup [.int (i : Nat), x]) :=
      ⟨by show 2 ≤ sizeLine; decide, [.int i tk, y], .cons ⟨_, rfl⟩ (.cons ru .nil), ⟨_, hT2, rfl, _, rfl⟩⟩
    have I1 : Inv X pins σ (upd H s.heap.objs.size (.tup [.int (i : Nat), x])) { s with heap := h'', toks := tk + 1 } :=
      I.turnedNew (ch := [e, it]) (fun b ob hb q => (sb.2 b (fun z => hb (by simp [z]))).trans (hk b ob (fun z => hb (by simp [z])) (fun z => hb (by simp [z])) q)) hf (Nat.le_refl _) new
    refine ⟨.ref s.heap.objs.size, _, I1, rfl, ⟨_, x, rfl, I.hok.fresh (Nat.le_refl _), rfl, fun ys hy => ?_⟩, ⟨⟨y, ?_⟩, hst'.1.at fun o q => (sb.2 it (Ne.symm hne)).trans q, hne, hai, hea⟩, fun b hb => ?_⟩
    · rw [I.tuple_inj hy hq]
      exact hx
    · have e1 : ((i + 1 : Nat) : Int) = (i : Int) + 1 := by omega
      rw [e1]; exact he'
    · have hb' : b < s.heap.objs.size := by
        have e' : b = e ∨ b = it := by simpa using hb
        rcases e' with z | z
        · rw [z]; exact hel
        · rw [z]; exact hil
      rw [upd_ne (Nat.ne_of_lt hb')]
      exact (hf b hb).1
  done := by
    intro X hP hw hK hc i pins s σ H E I hf st hg
    subst hP hw hK
    obtain ⟨⟨old, he⟩, hit, hne, hai, hea⟩ := st
    obtain ⟨xs, hq, hx⟩ := hg
    obtain ⟨its, rv, p, hz⟩ := I.tuple hq
    obtain ⟨f0, f1, f2, f3, f4, f5⟩ := hf it (by simp)
    have hl := rv.length
    have pt : s.heap.IsTuple a its.toArray := p
    have hT : s.TypeIs (.ref e) "enumerate" := ⟨_, he, rfl⟩
    unfold pyNext
    refine wpAny_bind (wpAny_attempt (wpAny_callSpecial?_slot (name := Str.ofString "__next__") hT F.slot_enumerate_next
      (wpAny_call_entry F.slot_enumerate_next hT F.entry_enumerate_next ?_ (F.args_enumerate_next_1 _))))
    show wpAny _ _ (field (.ref e) 2 >>= _) _ _ _
    refine wpAny_bind (wpAny_field he rfl (x := .ref it) rfl ?_)
    refine wpAny_bind (wpAny_nextOf_tuple_end (show X.A.in1.handled = none from I.ok.hd hc) hit pt (by simp; omega) fun h' x he' hx' => ?_)
    obtain ⟨o, ho, hc⟩ := hx'
    refine wpAny_bind (wpAny_isInstance (T := "StopIteration") (b := true) ⟨o, ho, hc⟩ isSubtype_stop ?_)
    exact wpAny_pure ⟨rfl, I.turned (t' := s.toks) (fun b o hb q => he' b o hb q) f0 f1 f3 f4 f5⟩
  self := fun A i s Q E st h => let ⟨⟨_, he⟩, _⟩ := st; wpAny_pyIter_enum he h
set_option maxHeartbeats 1000000 in
theorem meets_enum_T (t : Addr) (items : Array Value) :
    Meets (Builtin.«enumerate.__new__» ⟨[.type "enumerate", .ref t], []⟩) (fun _ R s => s.heap.IsTuple t items ∧
      R (.ok (.ret (.ref (s.heap.push { cls := .type "tuple_iterator", data := .fields #[.ref t, .int 0 0] }).objs.size)))
        { s with heap := (s.heap.push { cls := .type "tuple_iterator", data := .fields #[.ref t, .int 0 0] }).push { cls := .type "enumerate", data := .fields #[.none, .bool false, .ref s.heap.objs.size, rawInt 0, .none, .none] } }) :=
  .of_wp fun prog w A R s h => by
    obtain ⟨hp, g, d, tk, os⟩ := s; obtain ⟨h1, h⟩ := h
    have hsub := sub_enumerate
    have q1 : ∀ {A' : Around} {E : Value → Shared → Prop} {Q : Value → Shared → Prop}, Q (.ref hp.objs.size) ⟨hp.push { cls := .type "tuple_iterator", data := .fields #[.ref t, .int 0 0] }, g, d, tk, os⟩ → wpAny (model prog w) A' (pyIter (.ref t)) Q E ⟨hp, g, d, tk, os⟩ :=
      fun q => wpAny_pyIter_tuple (s := ⟨hp, g, d, tk, os⟩) h1 q
    wp_walk using q1
    refine wpAny_stack_any fun st => wpAny_pure ?_
    split
    · rename_i c _ _ _ _ _
      cases (c == Value.type "enumerate")
      · wp_walk using q1
        exact ⟨_, rfl, h⟩
      · wp_walk using q1
        exact ⟨_, rfl, h⟩
    · wp_walk using q1
      exact ⟨_, rfl, h⟩
theorem call_enum_T {prog : Program} {w : World} {A : Around} {E : Value → Shared → Prop} {s : Shared} {t : Addr} {items : Array Value} {Q : Value → Shared → Prop} (hL : s.heap.IsTuple t items)
    (h : ∀ h', IsEnum h' (s.heap.objs.size + 1) s.heap.objs.size 0 .none → h'.IsTupleIter s.heap.objs.size t 0 → h'.objs.size = s.heap.objs.size + 2 →
      (∀ b o, s.heap.get? b = some o → h'.get? b = some o) → Q (.ref (s.heap.objs.size + 1)) { s with heap := h' }) :
    wpAny (model prog w) A (call (.type "enumerate") [.ref t]) Q E s := by
  refine callType_new F.called_enumerate (by decide) (F.typeCall_enumerate_1 _) (F.newCall_enumerate_1 _) (fun obj => F.args_object_init_2 obj _) F.entry_enumerate_new
    (meets_enum_T t items) ⟨hL, ?_⟩
  have hz : (s.heap.push { cls := .type "tuple_iterator", data := .fields #[.ref t, .int 0 0] }).objs.size = s.heap.objs.size + 1 := Heap.size_push ..
  show _ ∧ _
  rw [hz]
  have he : IsEnum ((s.heap.push { cls := .type "tuple_iterator", data := .fields #[.ref t, .int 0 0] }).push
      { cls := .type "enumerate", data := .fields #[.none, .bool false, .ref s.heap.objs.size, rawInt 0, .none, .none] }) (s.heap.objs.size + 1) s.heap.objs.size 0 .none := by
    have := Heap.get?_push_size (s.heap.push { cls := .type "tuple_iterator", data := .fields #[.ref t, .int 0 0] })
      (o := { cls := .type "enumerate", data := .fields #[.none, .bool false, .ref s.heap.objs.size, rawInt 0, .none, .none] }) rfl
    rw [hz] at this; exact this
  refine ⟨⟨_, he, rfl⟩, h _ he ⟨_, Heap.get?_push_of_some _ (Heap.get?_push_size _ rfl), rfl, rfl⟩ (by rw [Heap.size_push, hz]) fun b o x => Heap.get?_push_of_some _ (Heap.get?_push_of_some _ x)⟩
/-- enumerate of a list or a tuple -/
def iEnumB (K : PySem.W.Frag) (ta : TA) : TI := fun σ H R => ta σ H fun vs H1 => ∃ a xs, vs = [.ref a] ∧ ((SqL K H1 a xs ∧ R (Ite K a) H1) ∨ (SqT K H1 a xs ∧ R (IteT K a) H1))
theorem pi_enumB {X : Cx} {e : Expr} {ta : TA} {p pos tpos : Pos} {elts : List Expr} {kk : Nat} (hg : Gl X "enumerate") (hm : X.mg "enumerate" = none) (ha : PA X [e] ta) (hs : starEach [e] X.env = [(false, eval e X.env)] := by rfl) :
    PI X (.Tuple elts kk tpos) (.Call (.Name "enumerate" p) [e] [] pos) (iEnumB X.K ta) := by
  refine ⟨fun pins s σ H R I h => ?_⟩
  refine Call_ (ld_blt I hg hm boot_enumerate (PyProof.Rows.callWith_type1 (thn (ha.run pos pins s σ H _ I h) fun us s1 ⟨vs, H1, I1, r1, q1⟩ => ?_) hs rfl))
  obtain ⟨a, xs, ex, q⟩ := q1
  subst ex
  cases r1 with
  | cons r rr =>
    cases rr
    cases r
    have frh : ∀ b, (b = s1.heap.objs.size + 1 ∨ b = s1.heap.objs.size) → s1.heap.objs.size ≤ b := fun b e' => by
      rcases e' with z | z
      · rw [z]; exact Nat.le_add_right _ _
      · rw [z]; exact Nat.le_refl _
    rcases q with ⟨hq, q⟩ | ⟨hq, q⟩
    · obtain ⟨its, rv, p', hz⟩ := I1.list hq
      refine call_enumerate_list p'.isList fun h' he hit hsz hk => wpAny_pyIter_enum he ?_
      have I2 : Inv X pins σ H1 { s1 with heap := h' } := I1.kept (t' := s1.toks) hk
      refine ⟨s1.heap.objs.size + 1, [s1.heap.objs.size + 1, s1.heap.objs.size], _, _, H1, rfl, I2, turn_enum a (s1.heap.objs.size + 1) s1.heap.objs.size, ⟨⟨.none, he⟩, hit, Nat.succ_ne_self _⟩, fun b hb => ?_, q⟩
      have e' : b = s1.heap.objs.size + 1 ∨ b = s1.heap.objs.size := by simpa using hb
      exact I1.fpOk (frh b e') (I1.hok.fresh (frh b e'))
    · obtain ⟨its, rv, p', hz⟩ := I1.tuple hq
      have pt : s1.heap.IsTuple a its.toArray := p'
      have la : a < s1.heap.objs.size := by obtain ⟨o, ho, _⟩ := pt; exact Heap.lt_size ho
      refine call_enum_T pt fun h' he hit hsz hk => wpAny_pyIter_enum he ?_
      have I2 : Inv X pins σ H1 { s1 with heap := h' } := I1.kept (t' := s1.toks) hk
      refine ⟨s1.heap.objs.size + 1, [s1.heap.objs.size + 1, s1.heap.objs.size], _, _, H1, rfl, I2, turn_enumT a (s1.heap.objs.size + 1) s1.heap.objs.size, ⟨⟨.none, he⟩, hit, Nat.succ_ne_self _, Nat.ne_of_lt la, fun z => ?_⟩, fun b hb => ?_, q⟩
      · have z' : s1.heap.objs.size + 1 = a := z
        exact absurd la (by rw [← z']; exact Nat.not_lt.mpr (Nat.le_succ _))
      · have e' : b = s1.heap.objs.size + 1 ∨ b = s1.heap.objs.size := by simpa using hb
        exact I1.fpOk (frh b e') (I1.hok.fresh (frh b e'))
end Z

end
section
set_option maxHeartbeats 4000000
set_option autoImplicit false
/-! Zk: a walk over the keys of a written dict. -/
namespace Z
open PySem PySem.Spec PyProof.Rows L2
/-- the keys ks, in their order -/
def Itkd (ks : List V) : It := ⟨fun i _ => i < ks.length, fun i H x H' => H' = H ∧ ks[i]? = some x, fun i _ => ks.length ≤ i⟩
theorem absV_rel {u : Value} {x : Str} (h : absV u = some (.str x)) : RelV (.str x) u := by
  cases u <;> first | cases h | skip
  exact ⟨_, rfl⟩
/-- what stands of a written dict -/
structure KdAt (K : PySem.W.Frag) (d : Addr) (es : Array DictEntry) (n : Nat) (ks : List V) : Prop where
  at_ : K.lookup d = some ⟨.type "dict", none, .dict es n, #[]⟩
  low : (d == sysModules) = false
  keys : es.toList.map (fun e => absV e.key) = ks.map some
theorem KdAt.key {K : PySem.W.Frag} {d : Addr} {es : Array DictEntry} {n : Nat} {ks : List V} (k : KdAt K d es n ks) {i : Nat} {x : V} (h : ks[i]? = some x) : ∃ e, es[i]? = some e ∧ absV e.key = some x := by
  have e1 : (es.toList.map (fun e => absV e.key))[i]? = some (some x) := by rw [k.keys, List.getElem?_map, h]; rfl
  rw [List.getElem?_map] at e1
  cases e2 : es.toList[i]? with
  | none => rw [e2] at e1; cases e1
  | some e =>
    rw [e2] at e1
    have e3 : absV e.key = some x := Option.some.inj e1
    exact ⟨e, by simpa using e2, e3⟩
theorem KdAt.size {K : PySem.W.Frag} {d : Addr} {es : Array DictEntry} {n : Nat} {ks : List V} (k : KdAt K d es n ks) : es.size = ks.length := by
  have e := congrArg List.length k.keys
  rw [List.length_map, List.length_map] at e
  simpa using e
theorem turn_kd {P : Program} {w : World} {K : PySem.W.Frag} {tg : Expr} {d it : Addr} {es : Array DictEntry} {n : Nat} {ks : List V} (k : KdAt K d es n ks) (hk : ∀ x ∈ ks, ∃ z, x = .str z) : Turn P w K tg (Itkd ks) [it] it (fun i h => h.IsKeyIter it d i ks.length n) := by
  constructor
  · simp
  · intro i h st b hb
    obtain rfl : b = it := by simpa using hb
    obtain ⟨o', k1, k2, k3⟩ := st
    exact ⟨o', k1, fun v z => by rw [k3] at z; cases z⟩
  · intro i h h' st kp
    exact st.at fun o' e => kp it (by simp) o' e
  · intro X hP hw hK hc i pins s σ H E I hf st hg
    subst hP hw hK
    obtain ⟨g0, g1, g2, g3, g4, g5⟩ := hf it (by simp)
    have hx : ks[i]? = some ks[i] := List.getElem?_eq_getElem hg
    obtain ⟨e, he, ka⟩ := k.key hx
    obtain ⟨z, hz⟩ := hk _ (List.getElem_mem hg)
    rw [hz] at ka
    have rk := absV_rel ka
    refine next_key_item st (I.kIn d _ k.at_) rfl k.size he fun h' st' sb => ?_
    have J : Inv X pins σ H { s with heap := h' } := I.turned (t' := s.toks) (fun b o' hb q => (sb.2 b hb).trans q) g0 g1 g3 g4 g5
    obtain ⟨o', k1, k2, k3⟩ := id st'
    refine ⟨e.key, rfl, go_of (s := { s with heap := h' }) k1 k2 k3 (by decide) ⟨.str z, H, J, rk, ⟨rfl, by rw [hx, hz]⟩, st', fun b hb => (hf b hb).1⟩⟩
  · intro X hP hw hK hc i pins s σ H E I hf st hg
    subst hP hw hK
    obtain ⟨g0, g1, g2, g3, g4, g5⟩ := hf it (by simp)
    exact next_key_end (I.ok.hd hc) st (I.kIn d _ k.at_) rfl k.size hg fun h' eb => ⟨rfl, I.turned (t' := s.toks) (fun b o' hb q => eb b o' hb q) g0 g1 g3 g4 g5⟩
  · intro A i s Q E st h
    exact wpAny_pyIter_keyiter st h
/-- for over a written dict -/
def iKd (K : PySem.W.Frag) (td : TE) : TI := fun σ H R => td σ H fun x H1 => ∃ d es n ks, x = .ref d ∧ KdAt K d es n ks ∧ (∀ x ∈ ks, ∃ z, x = .str z) ∧ R (Itkd ks) H1
theorem pi_kd {X : Cx} {tg e : Expr} {td : TE} (he : PE X e td) : PI X tg e (iKd X.K td) := by
  refine ⟨fun pins s σ H R I h => ?_⟩
  refine thn (he.run pins s σ H _ I h) fun u s1 ⟨x, H1, I1, rx, d, es, n, ks, ex, k, hk, q⟩ => ?_
  subst ex
  cases rx
  refine iter_keys k.low (I1.kIn d _ k.at_) ⟨rfl, rfl, rfl⟩ rfl (pi_one (tk := s1.toks) I1 _ (turn_kd k hk) ⟨_, Heap.get?_push_size _ rfl, rfl, ?_⟩ q)
  rw [k.size]
  rfl
theorem walk_kd {ks : List V} : Walk (Itkd ks) ks.length (fun _ => True) (YAt ks) := ⟨fun _ _ hi _ => hi, fun _ _ => Nat.le_refl _, fun _ _ _ _ _ _ y => y⟩
end Z

end
section
set_option maxHeartbeats 4000000
set_option autoImplicit false
/-! Zz: zip of two iterators of any kind. -/
namespace Z
open PySem PySem.Spec PyProof.Rows L2
/-- an iterator by its 'next': St k while it has given k, xs what it gives, fp the objects it is made of -/
structure NxI (prog : Program) (w : World) (it : Addr) (fp : List Addr) (St : Nat → Heap → Prop) (xs : Array Value) : Prop where
  mem : it ∈ fp
  there : ∀ k h, St k h → ∀ b ∈ fp, ∃ o, h.get? b = some o
  keep : ∀ k h h', St k h → (∀ b o, b ∈ fp → h.get? b = some o → h'.get? b = some o) → St k h'
  item : ∀ (A : Around) (E : Value → Shared → Prop) (s : Shared) (k : Nat) (x : Value) (Q : Value → Shared → Prop), St k s.heap → xs[k]? = some x → (∀ h', St (k + 1) h' → Heap.SameBut it s.heap h' → Q x { s with heap := h' }) → wpAny (model prog w) A (Builtin.SmallTypes.nextOf (.ref it)) Q E s
  stop : ∀ (A : Around) (E : Value → Shared → Prop) (s : Shared) (k : Nat) (Q : Value → Shared → Prop), A.handled = none → St k s.heap → xs[k]? = none → (∀ h' e, Heap.ExtBut it s.heap h' → (∃ o, h'.get? e = some o ∧ o.cls = .type "StopIteration") → E (.ref e) { s with heap := h' }) → wpAny (model prog w) A (Builtin.SmallTypes.nextOf (.ref it)) Q E s
/-- the zip's own objects stand apart from the two iterators' -/
structure ZAp (z TI TO i1 i2 : Addr) (f1 f2 : List Addr) : Prop where
  a1 : TI ≠ z
  a2 : TO ≠ z
  a3 : TI ≠ TO
  b1 : z ∉ f1
  b2 : z ∉ f2
  c1 : TO ∉ f1
  c2 : TO ∉ f2
  d1 : TI ≠ i1
  d2 : TI ≠ i2
  e1 : i2 ∉ f1
  e2 : i1 ∉ f2
section
variable {prog : Program} {w : World} {A : Around} {E : Value → Shared → Prop} {s : Shared} {z TI TO i1 i2 : Addr} {f1 f2 : List Addr} {S1 S2 : Nat → Heap → Prop} {xs ys : Array Value} {k1 k2 : Nat}
theorem NxI.but {it b : Addr} {fp : List Addr} {St : Nat → Heap → Prop} {vs : Array Value} (N : NxI prog w it fp St vs) {k : Nat} {h h' : Heap} (st : St k h) (e : Heap.ExtBut b h h') (hb : b ∉ fp) : St k h' := N.keep k h h' st fun c o hc q => e c o (fun z => hb (by rw [← z]; exact hc)) q
theorem ne_fp {b it : Addr} {fp : List Addr} (h : b ∉ fp) (m : it ∈ fp) : b ≠ it := fun e => h (by rw [e]; exact m)
/-- the next pair, the zip's own tuple at hand -/
theorem zn_item (N1 : NxI prog w i1 f1 S1 xs) (N2 : NxI prog w i2 f2 S2 ys) (D : ZAp z TI TO i1 i2 f1 f2) {x y a b : Value} {Q : Option Value → Shared → Prop} (hz : IsZip s.heap z TI TO .none) (hI : IsPair s.heap TI (.ref i1) (.ref i2)) (hO : IsPair s.heap TO a b) (st1 : S1 k1 s.heap) (st2 : S2 k2 s.heap) (hx : xs[k1]? = some x) (hy : ys[k2]? = some y)
    (q : ∀ h', IsZip h' z TI TO (rawInt s.heap.objs.size) → IsPair h' TO x y → S1 (k1 + 1) h' → S2 (k2 + 1) h' → IsPair h' s.heap.objs.size x y → h'.objs.size = s.heap.objs.size + 1 → (∀ c o, c ≠ z → c ≠ TO → c ≠ i1 → c ≠ i2 → s.heap.get? c = some o → h'.get? c = some o) → Q (some (.ref s.heap.objs.size)) { s with heap := h' }) :
    wpAny (model prog w) A (pyNext (.ref z)) Q E s := by
  have ty : s.TypeIs (.ref z) "zip" := ⟨_, hz, rfl⟩
  have zi1 := ne_fp D.b1 N1.mem
  have zi2 := ne_fp D.b2 N2.mem
  have Oi1 := ne_fp D.c1 N1.mem
  have Oi2 := ne_fp D.c2 N2.mem
  have i21 := ne_fp D.e1 N1.mem
  have core : wpAny (model prog w) A.in1 (Builtin.«zip.__next__» ⟨[.ref z], []⟩) (fun fin s' => ∃ v, fin = .done (.ret v) ∧ Q (some v) s') (fun _ _ => False) s := by
    show wpAny _ _ (field (.ref z) 2 >>= _) _ _ _
    refine wpAny_bind (wpAny_field hz rfl (x := .bool false) rfl ?_)
    show wpAny _ _ (field (.ref z) 3 >>= _) _ _ _
    refine wpAny_bind (wpAny_field hz rfl (x := .ref TI) rfl (wpAny_bind (wpAny_seqItems hI rfl ?_)))
    show wpAny _ _ (Builtin.SmallTypes.ownedTupleIsFree (.ref z) >>= _) _ _ _
    refine wpAny_bind ?_
    unfold Builtin.SmallTypes.ownedTupleIsFree
    refine wpAny_bind (wpAny_field hz rfl (x := .none) rfl (wpAny_pure ?_))
    simp only [if_true]
    refine wpAny_bind (wpAny_rule (wpAny_bind (wpAny_field hz rfl (x := .ref TO) rfl (wpAny_bind (wpAny_setField_rec hz (by simp) fun g1 z1 t1 => ?_)))))
    replace z1 : IsZip g1 z TI TO .ellipsis := z1
    refine wpAny_bind ?_
    simp only [List.zipIdx_cons, List.zipIdx_nil, List.forIn_cons, List.forIn_nil]
    refine wpAny_bind (wpAny_bind (wpAny_onRaise ?_))
    show wpAny _ _ (Builtin.SmallTypes.nextOf (.ref i1) >>= _) _ _ _
    have u1 : S1 k1 g1 := N1.but st1 t1.extBut D.b1
    have u2 : S2 k2 g1 := N2.but st2 t1.extBut D.b2
    refine wpAny_bind (N1.item _ _ { s with heap := g1 } k1 x _ u1 hx fun g2 v1 t2 => wpAny_pure ?_)
    have o2 : IsPair g2 TO a b := t2.extBut _ _ Oi1 (t1.extBut _ _ D.a2 hO)
    refine wpAny_bind (wpAny_seqItems o2 rfl (wpAny_bind (wpAny_updateSeq_pair o2 fun g3 o3 t3 => ?_)))
    replace o3 : IsPair g3 TO x b := o3
    refine wpAny_bind (wpAny_letGo (wpAny_pure ?_))
    refine wpAny_bind (wpAny_bind (wpAny_onRaise ?_))
    show wpAny _ _ (Builtin.SmallTypes.nextOf (.ref i2) >>= _) _ _ _
    have u3 : S2 k2 g3 := N2.but (N2.but u2 t2.extBut D.e2) t3.extBut D.c2
    refine wpAny_bind (N2.item _ _ { s with heap := g3 } k2 y _ u3 hy fun g4 v2 t4 => wpAny_pure ?_)
    have o4 : IsPair g4 TO x b := t4.extBut _ _ Oi2 o3
    refine wpAny_bind (wpAny_seqItems o4 rfl (wpAny_bind (wpAny_updateSeq_pair o4 fun g5 o5 t5 => ?_)))
    replace o5 : IsPair g5 TO x y := o5
    refine wpAny_bind (wpAny_letGo (wpAny_pure (wpAny_pure ?_)))
    refine wpAny_bind (wpAny_seqItems o5 rfl (wpAny_bind (wpAny_newTuple ?_)))
    have sz : g5.objs.size = s.heap.objs.size := by rw [t5.1, t4.1, t3.1, t2.1, t1.1]
    have z5 : IsZip g5 z TI TO .ellipsis := t5.extBut _ _ D.a2.symm (t4.extBut _ _ zi2 (t3.extBut _ _ D.a2.symm (t2.extBut _ _ zi1 z1)))
    have kp : ∀ c o, c ≠ z → c ≠ TO → c ≠ i1 → c ≠ i2 → s.heap.get? c = some o → g5.get? c = some o := fun c o n1 n2 n3 n4 e => t5.extBut _ _ n2 (t4.extBut _ _ n4 (t3.extBut _ _ n2 (t2.extBut _ _ n3 (t1.extBut _ _ n1 e))))
    have w1 : S1 (k1 + 1) g5 := N1.but (N1.but (N1.but v1 t3.extBut D.c1) t4.extBut D.e1) t5.extBut D.c1
    have w2 : S2 (k2 + 1) g5 := N2.but v2 t5.extBut D.c2
    have lz : z < g5.objs.size := Heap.lt_size z5
    show wpAny _ _ (Builtin.SmallTypes.ownedTupleHandOut (.ref z) (.ref g5.objs.size) >>= _) _ _ _
    refine wpAny_bind ?_
    unfold Builtin.SmallTypes.ownedTupleHandOut
    have z6 : IsZip (g5.push { cls := .type "tuple", data := .seq #[x, y] }) z TI TO .ellipsis := Heap.get?_push_of_some _ z5
    refine wpAny_bind (wpAny_setField_rec z6 (by simp) fun g7 z7 t7 => ?_)
    replace z7 : IsZip g7 z TI TO (rawInt g5.objs.size) := z7
    refine wpAny_setField_rec z7 (by simp) fun g8 z8 t8 => ?_
    replace z8 : IsZip g8 z TI TO (rawInt g5.objs.size) := z8
    have up : ∀ c o, c ≠ z → g5.get? c = some o → g8.get? c = some o := fun c o n e => t8.extBut _ _ n (t7.extBut _ _ n (Heap.get?_push_of_some _ e))
    have p8 : IsPair g8 g5.objs.size x y := t8.extBut _ _ (Nat.ne_of_gt lz) (t7.extBut _ _ (Nat.ne_of_gt lz) (Heap.get?_push_size _ rfl))
    have s8 : g8.objs.size = g5.objs.size + 1 := by rw [t8.1, t7.1, Heap.size_push]
    rw [sz] at z8 p8 s8
    refine wpAny_pure ⟨_, rfl, ?_⟩
    show Q (some (.ref g5.objs.size)) _
    rw [sz]
    exact q g8 z8 (up _ _ D.a2 o5) (N1.keep _ _ _ w1 fun c o hc e => up c o (fun n => D.b1 (by rw [← n]; exact hc)) e) (N2.keep _ _ _ w2 fun c o hc e => up c o (fun n => D.b2 (by rw [← n]; exact hc)) e) p8 s8 fun c o n1 n2 n3 n4 e => up c o n1 (kp c o n1 n2 n3 n4 e)
  unfold pyNext
  refine wpAny_bind (wpAny_attempt (wpAny_callSpecial?_slot (name := Str.ofString "__next__") ty F.slot_zip_next (wpAny_call_entry F.slot_zip_next ty F.entry_zip_next (wpAny_mono core (fun fin s' h => ?_) fun _ _ h => h.elim) (F.args_zip_next_1 _))))
  obtain ⟨v, rfl, hq⟩ := h
  exact ⟨v, rfl, wpAny_pure hq⟩
/-- the end, the zip's own tuple at hand -/
theorem zn_end (N1 : NxI prog w i1 f1 S1 xs) (N2 : NxI prog w i2 f2 S2 ys) (hh : A.handled = none) (D : ZAp z TI TO i1 i2 f1 f2) {a b : Value} {Q : Option Value → Shared → Prop} (hz : IsZip s.heap z TI TO .none) (hI : IsPair s.heap TI (.ref i1) (.ref i2)) (hO : IsPair s.heap TO a b) (st1 : S1 k1 s.heap) (st2 : S2 k2 s.heap) (he : xs[k1]? = none ∨ ys[k2]? = none)
    (q : ∀ h', (∀ c o, c ≠ z → c ≠ TO → c ≠ i1 → c ≠ i2 → s.heap.get? c = some o → h'.get? c = some o) → Q none { s with heap := h' }) : wpAny (model prog w) A (pyNext (.ref z)) Q E s := by
  have ty : s.TypeIs (.ref z) "zip" := ⟨_, hz, rfl⟩
  have zi1 := ne_fp D.b1 N1.mem
  have zi2 := ne_fp D.b2 N2.mem
  have Oi1 := ne_fp D.c1 N1.mem
  have core : wpAny (model prog w) A.in1 (Builtin.«zip.__next__» ⟨[.ref z], []⟩) (fun _ _ => False) (fun e s' => ∃ h' c, e = .ref c ∧ s' = { s with heap := h' } ∧ (∀ c o, c ≠ z → c ≠ TO → c ≠ i1 → c ≠ i2 → s.heap.get? c = some o → h'.get? c = some o) ∧ ∃ o, h'.get? c = some o ∧ o.cls = .type "StopIteration") s := by
    show wpAny _ _ (field (.ref z) 2 >>= _) _ _ _
    refine wpAny_bind (wpAny_field hz rfl (x := .bool false) rfl ?_)
    show wpAny _ _ (field (.ref z) 3 >>= _) _ _ _
    refine wpAny_bind (wpAny_field hz rfl (x := .ref TI) rfl (wpAny_bind (wpAny_seqItems hI rfl ?_)))
    show wpAny _ _ (Builtin.SmallTypes.ownedTupleIsFree (.ref z) >>= _) _ _ _
    refine wpAny_bind ?_
    unfold Builtin.SmallTypes.ownedTupleIsFree
    refine wpAny_bind (wpAny_field hz rfl (x := .none) rfl (wpAny_pure ?_))
    simp only [if_true]
    refine wpAny_bind (wpAny_rule (wpAny_bind (wpAny_field hz rfl (x := .ref TO) rfl (wpAny_bind (wpAny_setField_rec hz (by simp) fun g1 z1 t1 => ?_)))))
    replace z1 : IsZip g1 z TI TO .ellipsis := z1
    refine wpAny_bind ?_
    simp only [List.zipIdx_cons, List.zipIdx_nil, List.forIn_cons, List.forIn_nil]
    refine wpAny_bind (wpAny_bind (wpAny_onRaise ?_))
    show wpAny _ _ (Builtin.SmallTypes.nextOf (.ref i1) >>= _) _ _ _
    have u1 : S1 k1 g1 := N1.but st1 t1.extBut D.b1
    have u2 : S2 k2 g1 := N2.but st2 t1.extBut D.b2
    cases hx : xs[k1]? with
    | none =>
      refine wpAny_bind (N1.stop _ _ { s with heap := g1 } k1 _ hh u1 hx fun g2 c t2 hc => ?_)
      obtain ⟨oc, ho, hcl⟩ := hc
      have z2 : IsZip g2 z TI TO .ellipsis := t2 _ _ zi1 z1
      have cz : c ≠ z := fun e => by subst e; rw [z2] at ho; cases ho; simp at hcl
      exact wpAny_setField_rec z2 (by simp) fun g3 _ t3 => ⟨g3, c, rfl, rfl, fun c o n1 _ n3 _ e => t3.extBut _ _ n1 (t2 _ _ n3 (t1.extBut _ _ n1 e)), oc, t3.extBut _ _ cz ho, hcl⟩
    | some x =>
      have hy : ys[k2]? = none := by
        rcases he with e | e
        · rw [hx] at e; cases e
        · exact e
      refine wpAny_bind (N1.item _ _ { s with heap := g1 } k1 x _ u1 hx fun g2 v1 t2 => wpAny_pure ?_)
      have o2 : IsPair g2 TO a b := t2.extBut _ _ Oi1 (t1.extBut _ _ D.a2 hO)
      refine wpAny_bind (wpAny_seqItems o2 rfl (wpAny_bind (wpAny_updateSeq_pair o2 fun g3 o3 t3 => ?_)))
      refine wpAny_bind (wpAny_letGo (wpAny_pure ?_))
      refine wpAny_bind (wpAny_bind (wpAny_onRaise ?_))
      show wpAny _ _ (Builtin.SmallTypes.nextOf (.ref i2) >>= _) _ _ _
      have u3 : S2 k2 g3 := N2.but (N2.but u2 t2.extBut D.e2) t3.extBut D.c2
      refine wpAny_bind (N2.stop _ _ { s with heap := g3 } k2 _ hh u3 hy fun g4 c t4 hc => ?_)
      obtain ⟨oc, ho, hcl⟩ := hc
      have z4 : IsZip g4 z TI TO .ellipsis := t4 _ _ zi2 (t3.extBut _ _ D.a2.symm (t2.extBut _ _ zi1 z1))
      have cz : c ≠ z := fun e => by subst e; rw [z4] at ho; cases ho; simp at hcl
      exact wpAny_setField_rec z4 (by simp) fun g5 _ t5 => ⟨g5, c, rfl, rfl, fun c o n1 n2 n3 n4 e => t5.extBut _ _ n1 (t4 _ _ n4 (t3.extBut _ _ n2 (t2.extBut _ _ n3 (t1.extBut _ _ n1 e)))), oc, t5.extBut _ _ cz ho, hcl⟩
  unfold pyNext
  refine wpAny_bind (wpAny_attempt (wpAny_callSpecial?_slot (name := Str.ofString "__next__") ty F.slot_zip_next (wpAny_call_entry F.slot_zip_next ty F.entry_zip_next (wpAny_mono core (fun _ _ h => h.elim) fun e s' h => ?_) (F.args_zip_next_1 _))))
  obtain ⟨h', c, rfl, rfl, kp, hc⟩ := h
  exact wpAny_bind (wpAny_isInstance (T := "StopIteration") (b := true) hc isSubtype_stop (wpAny_pure (q h' kp)))
/-- the next pair, the tuple given before still out -/
theorem zh_item (N1 : NxI prog w i1 f1 S1 xs) (N2 : NxI prog w i2 f2 S2 ys) (D : ZAp z TI TO i1 i2 f1 f2) {x y : Value} {T : Addr} {f : Bool} {oT : Obj} {Q : Option Value → Shared → Prop} (hz : IsZipHeld s.heap z TI TO T f) (hT : s.heap.get? T = some oT) (hI : IsPair s.heap TI (.ref i1) (.ref i2)) (st1 : S1 k1 s.heap) (st2 : S2 k2 s.heap) (hx : xs[k1]? = some x) (hy : ys[k2]? = some y)
    (q : ∀ h', IsZipHeld h' z TI TO T true → S1 (k1 + 1) h' → S2 (k2 + 1) h' → IsPair h' s.heap.objs.size x y → h'.objs.size = s.heap.objs.size + 1 → (∀ c o, c ≠ z → c ≠ i1 → c ≠ i2 → s.heap.get? c = some o → h'.get? c = some o) → Q (some (.ref s.heap.objs.size)) { s with heap := h' }) :
    wpAny (model prog w) A (pyNext (.ref z)) Q E s := by
  have ty : s.TypeIs (.ref z) "zip" := ⟨_, hz, rfl⟩
  have zi1 := ne_fp D.b1 N1.mem
  have zi2 := ne_fp D.b2 N2.mem
  have core : wpAny (model prog w) A.in1 (Builtin.«zip.__next__» ⟨[.ref z], []⟩) (fun fin s' => ∃ v, fin = .done (.ret v) ∧ Q (some v) s') (fun _ _ => False) s := by
    show wpAny _ _ (field (.ref z) 2 >>= _) _ _ _
    refine wpAny_bind (wpAny_field hz rfl (x := .bool false) rfl ?_)
    show wpAny _ _ (field (.ref z) 3 >>= _) _ _ _
    refine wpAny_bind (wpAny_field hz rfl (x := .ref TI) rfl (wpAny_bind (wpAny_seqItems hI rfl ?_)))
    show wpAny _ _ (Builtin.SmallTypes.ownedTupleIsFree (.ref z) >>= _) _ _ _
    refine wpAny_bind (wpAny_tupleHeld_zip hz hT fun g1 z1 t1 => ?_)
    simp only [Bool.false_eq_true, if_false]
    refine wpAny_bind ?_
    rw [← Array.forIn_toList]
    simp only [List.forIn_cons, List.forIn_nil]
    refine wpAny_bind (wpAny_bind (wpAny_holding ?_))
    show wpAny _ _ (Builtin.SmallTypes.nextOf (.ref i1) >>= _) _ _ _
    have u1 : S1 k1 g1 := N1.but st1 t1.extBut D.b1
    have u2 : S2 k2 g1 := N2.but st2 t1.extBut D.b2
    refine wpAny_bind (N1.item _ _ { s with heap := g1 } k1 x _ u1 hx fun g2 v1 t2 => wpAny_pure (wpAny_pure ?_))
    refine wpAny_bind (wpAny_bind (wpAny_holding ?_))
    show wpAny _ _ (Builtin.SmallTypes.nextOf (.ref i2) >>= _) _ _ _
    refine wpAny_bind (N2.item _ _ { s with heap := g2 } k2 y _ (N2.but u2 t2.extBut D.e2) hy fun g3 v2 t3 => wpAny_pure (wpAny_pure (wpAny_pure ?_)))
    show wpAny _ _ (newTuple [x, y] >>= _) _ _ _
    refine wpAny_bind (wpAny_newTuple (wpAny_pure ⟨_, rfl, ?_⟩))
    have sz : g3.objs.size = s.heap.objs.size := by rw [t3.1, t2.1, t1.1]
    have z3 : IsZipHeld g3 z TI TO T true := t3.extBut _ _ zi2 (t2.extBut _ _ zi1 z1)
    have kp : ∀ c o, c ≠ z → c ≠ i1 → c ≠ i2 → s.heap.get? c = some o → g3.get? c = some o := fun c o n1 n2 n3 e => t3.extBut _ _ n3 (t2.extBut _ _ n2 (t1.extBut _ _ n1 e))
    have w1 : S1 (k1 + 1) g3 := N1.but v1 t3.extBut D.e1
    have p4 : IsPair (g3.push { cls := .type "tuple", data := .seq #[x, y] }) g3.objs.size x y := Heap.get?_push_size _ rfl
    have s4 : (g3.push { cls := .type "tuple", data := .seq #[x, y] }).objs.size = g3.objs.size + 1 := Heap.size_push ..
    show Q (some (.ref g3.objs.size)) _
    rw [sz] at p4 s4 ⊢
    exact q _ (Heap.get?_push_of_some _ z3) (N1.keep _ _ _ w1 fun c o _ e => Heap.get?_push_of_some _ e) (N2.keep _ _ _ v2 fun c o _ e => Heap.get?_push_of_some _ e) p4 s4 fun c o n1 n2 n3 e => Heap.get?_push_of_some _ (kp c o n1 n2 n3 e)
  unfold pyNext
  refine wpAny_bind (wpAny_attempt (wpAny_callSpecial?_slot (name := Str.ofString "__next__") ty F.slot_zip_next (wpAny_call_entry F.slot_zip_next ty F.entry_zip_next (wpAny_mono core (fun fin s' h => ?_) fun _ _ h => h.elim) (F.args_zip_next_1 _))))
  obtain ⟨v, rfl, hq⟩ := h
  exact ⟨v, rfl, wpAny_pure hq⟩
theorem zh_end (N1 : NxI prog w i1 f1 S1 xs) (N2 : NxI prog w i2 f2 S2 ys) (hh : A.handled = none) (D : ZAp z TI TO i1 i2 f1 f2) {T : Addr} {f : Bool} {oT : Obj} {Q : Option Value → Shared → Prop} (hz : IsZipHeld s.heap z TI TO T f) (hT : s.heap.get? T = some oT) (hI : IsPair s.heap TI (.ref i1) (.ref i2)) (st1 : S1 k1 s.heap) (st2 : S2 k2 s.heap) (he : xs[k1]? = none ∨ ys[k2]? = none)
    (q : ∀ h', (∀ c o, c ≠ z → c ≠ i1 → c ≠ i2 → s.heap.get? c = some o → h'.get? c = some o) → Q none { s with heap := h' }) : wpAny (model prog w) A (pyNext (.ref z)) Q E s := by
  have ty : s.TypeIs (.ref z) "zip" := ⟨_, hz, rfl⟩
  have core : wpAny (model prog w) A.in1 (Builtin.«zip.__next__» ⟨[.ref z], []⟩) (fun _ _ => False) (fun e s' => ∃ h' c, e = .ref c ∧ s' = { s with heap := h' } ∧ (∀ c o, c ≠ z → c ≠ i1 → c ≠ i2 → s.heap.get? c = some o → h'.get? c = some o) ∧ ∃ o, h'.get? c = some o ∧ o.cls = .type "StopIteration") s := by
    show wpAny _ _ (field (.ref z) 2 >>= _) _ _ _
    refine wpAny_bind (wpAny_field hz rfl (x := .bool false) rfl ?_)
    show wpAny _ _ (field (.ref z) 3 >>= _) _ _ _
    refine wpAny_bind (wpAny_field hz rfl (x := .ref TI) rfl (wpAny_bind (wpAny_seqItems hI rfl ?_)))
    show wpAny _ _ (Builtin.SmallTypes.ownedTupleIsFree (.ref z) >>= _) _ _ _
    refine wpAny_bind (wpAny_tupleHeld_zip hz hT fun g1 z1 t1 => ?_)
    simp only [Bool.false_eq_true, if_false]
    refine wpAny_bind ?_
    rw [← Array.forIn_toList]
    simp only [List.forIn_cons, List.forIn_nil]
    refine wpAny_bind (wpAny_bind (wpAny_holding ?_))
    show wpAny _ _ (Builtin.SmallTypes.nextOf (.ref i1) >>= _) _ _ _
    have u1 : S1 k1 g1 := N1.but st1 t1.extBut D.b1
    have u2 : S2 k2 g1 := N2.but st2 t1.extBut D.b2
    cases hx : xs[k1]? with
    | none => exact wpAny_bind (N1.stop _ _ { s with heap := g1 } k1 _ hh u1 hx fun g2 c t2 hc => ⟨g2, c, rfl, rfl, fun c o n1 n2 _ e => t2 _ _ n2 (t1.extBut _ _ n1 e), hc⟩)
    | some x =>
      have hy : ys[k2]? = none := by
        rcases he with e | e
        · rw [hx] at e; cases e
        · exact e
      refine wpAny_bind (N1.item _ _ { s with heap := g1 } k1 x _ u1 hx fun g2 v1 t2 => wpAny_pure (wpAny_pure ?_))
      refine wpAny_bind (wpAny_bind (wpAny_holding ?_))
      show wpAny _ _ (Builtin.SmallTypes.nextOf (.ref i2) >>= _) _ _ _
      exact wpAny_bind (N2.stop _ _ { s with heap := g2 } k2 _ hh (N2.but u2 t2.extBut D.e2) hy fun g3 c t3 hc => ⟨g3, c, rfl, rfl, fun c o n1 n2 n3 e => t3 _ _ n3 (t2.extBut _ _ n2 (t1.extBut _ _ n1 e)), hc⟩)
  unfold pyNext
  refine wpAny_bind (wpAny_attempt (wpAny_callSpecial?_slot (name := Str.ofString "__next__") ty F.slot_zip_next (wpAny_call_entry F.slot_zip_next ty F.entry_zip_next (wpAny_mono core (fun _ _ h => h.elim) fun e s' h => ?_) (F.args_zip_next_1 _))))
  obtain ⟨h', c, rfl, rfl, kp, hc⟩ := h
  exact wpAny_bind (wpAny_isInstance (T := "StopIteration") (b := true) hc isSubtype_stop (wpAny_pure (q h' kp)))
end
end Z

end
section
set_option maxHeartbeats 4000000
set_option autoImplicit false
/-! Zy: the keys of a written dict and the items of a tuple, as iterators of a zip. -/
namespace Z
open PySem PySem.Spec PyProof.Rows L2
section
variable {prog : Program} {w : World} {A : Around} {E : Value → Shared → Prop} {s : Shared} {it d : Addr} {i n ep : Nat} {od : Obj} {es : Array DictEntry}
theorem nk_item {en : DictEntry} {Q : Value → Shared → Prop} (hit : s.heap.IsKeyIter it d i n ep) (ho : s.heap.get? d = some od) (hd : od.data = .dict es ep) (hn : es.size = n) (hx : es[i]? = some en)
    (q : ∀ h', h'.IsKeyIter it d (i + 1) n ep → Heap.SameBut it s.heap h' → Q en.key { s with heap := h' }) : wpAny (model prog w) A (Builtin.SmallTypes.nextOf (.ref it)) Q E s := by
  obtain ⟨oi, hoi, hci, hdi⟩ := id hit
  obtain ⟨lt, hen⟩ := Array.getElem?_eq_some_iff.mp hx
  have neg : ¬ ((i : Int) < 0) := by omega
  have nn : ¬ ((Value.ref d == Value.none) = true) := Bool.false_ne_true
  have ot : Builtin.Dict_items.ownsTuple "dict_keyiterator" = false := by decide
  unfold Builtin.SmallTypes.nextOf
  refine wpAny_bind (wpAny_callSpecial?_slot (name := Str.ofString "__next__") hit.typeIs F.slot_dict_keyiterator_next (wpAny_call_entry F.slot_dict_keyiterator_next hit.typeIs F.entry_dict_keyiterator_next ?_ (F.args_dict_keyiterator_next_1 _)))
  refine wpAny_bind (wpAny_pure (wpAny_bind (wpAny_bind ?_)))
  first
    | refine wpAny_bind (wpAny_typeNameOfWhole_keyiter hit.typeIs (wpAny_pure (wpAny_bind (wpAny_fieldsOf hoi hdi ?_))))
    | refine wpAny_bind (wpAny_typeNameOf_keyiter hit.typeIs (wpAny_pure (wpAny_bind (wpAny_fieldsOf hoi hdi ?_))))
  simp only [ot, Bool.false_eq_true, if_false]
  show wpAny _ _ (if (Value.ref d == Value.none) = true then _ else _) _ _ s
  rw [if_neg nn]
  refine wpAny_bind (wpAny_pure (wpAny_bind (wpAny_dictEntries ho hd ?_)))
  rw [if_neg (by rw [hn]; simp)]
  refine wpAny_bind (wpAny_pure (wpAny_bind (wpAny_dictEpoch ho hd ?_)))
  rw [if_neg (by simp)]
  refine wpAny_pure ?_
  simp only [neg, if_false, Int.toNat_natCast, Array.getElem?_eq_getElem lt]
  refine wpAny_bind ?_
  first
    | refine wpAny_bind (wpAny_typeNameOfWhole_keyiter hit.typeIs (wpAny_pure (wpAny_bind (wpAny_isOneOf_keyiter hit.typeIs ?_))))
    | refine wpAny_bind (wpAny_typeNameOf_keyiter hit.typeIs (wpAny_pure (wpAny_bind (wpAny_isOneOf_keyiter hit.typeIs ?_))))
  show wpAny _ _ (setField (.ref it) 1 (rawInt ((i : Int) + 1)) >>= _) _ _ s
  refine wpAny_bind (wpAny_setField hoi hdi (by simp) (wpAny_bind (wpAny_holding ?_)))
  have h2 : (s.heap.update it (Obj.mapFields (·.setIfInBounds 1 (rawInt ((i : Int) + 1))))).IsKeyIter it d (i + 1) n ep := by
    refine ⟨_, Heap.get?_update_self _ hoi (Obj.isFreed_of_fields (Obj.data_mapFields hdi _)), (Obj.cls_mapFields ..).trans hci, ?_⟩
    rw [Obj.data_mapFields hdi]
    simp [rawInt]
  refine wpAny_bind (wpAny_isOneOf_keyiter (s := { s with heap := s.heap.update it (Obj.mapFields (·.setIfInBounds 1 (rawInt ((i : Int) + 1)))) }) h2.typeIs ?_)
  show wpAny _ _ (pure es[i].key) _ _ _
  rw [hen]
  exact wpAny_pure (wpAny_pure ⟨_, rfl, wpAny_pure (q _ h2 (Heap.SameBut.update ..))⟩)
theorem nk_stop {Q : Value → Shared → Prop} (hh : A.handled = none) (hit : s.heap.IsKeyIter it d i n ep) (ho : s.heap.get? d = some od) (hd : od.data = .dict es ep) (hn : es.size = n) (hx : n ≤ i)
    (q : ∀ h' e, Heap.ExtBut it s.heap h' → (∃ o, h'.get? e = some o ∧ o.cls = .type "StopIteration") → E (.ref e) { s with heap := h' }) : wpAny (model prog w) A (Builtin.SmallTypes.nextOf (.ref it)) Q E s := by
  obtain ⟨oi, hoi, hci, hdi⟩ := id hit
  have neg : ¬ ((i : Int) < 0) := by omega
  have nn : ¬ ((Value.ref d == Value.none) = true) := Bool.false_ne_true
  have ot : Builtin.Dict_items.ownsTuple "dict_keyiterator" = false := by decide
  have ge : es.size ≤ i := by omega
  unfold Builtin.SmallTypes.nextOf
  refine wpAny_bind (wpAny_callSpecial?_slot (name := Str.ofString "__next__") hit.typeIs F.slot_dict_keyiterator_next (wpAny_call_entry F.slot_dict_keyiterator_next hit.typeIs F.entry_dict_keyiterator_next ?_ (F.args_dict_keyiterator_next_1 _)))
  refine wpAny_bind (wpAny_pure (wpAny_bind (wpAny_bind ?_)))
  first
    | refine wpAny_bind (wpAny_typeNameOfWhole_keyiter hit.typeIs (wpAny_pure (wpAny_bind (wpAny_fieldsOf hoi hdi ?_))))
    | refine wpAny_bind (wpAny_typeNameOf_keyiter hit.typeIs (wpAny_pure (wpAny_bind (wpAny_fieldsOf hoi hdi ?_))))
  simp only [ot, Bool.false_eq_true, if_false]
  show wpAny _ _ (if (Value.ref d == Value.none) = true then _ else _) _ _ s
  rw [if_neg nn]
  refine wpAny_bind (wpAny_pure (wpAny_bind (wpAny_dictEntries ho hd ?_)))
  rw [if_neg (by rw [hn]; simp)]
  refine wpAny_bind (wpAny_pure (wpAny_bind (wpAny_dictEpoch ho hd ?_)))
  rw [if_neg (by simp)]
  refine wpAny_pure ?_
  simp only [neg, if_false, Int.toNat_natCast, Array.getElem?_eq_none ge]
  refine wpAny_bind ?_
  first | refine wpAny_bind (wpAny_typeNameOfWhole_keyiter hit.typeIs (wpAny_pure ?_)) | refine wpAny_bind (wpAny_typeNameOf_keyiter hit.typeIs (wpAny_pure ?_))
  show wpAny _ _ (setField (.ref it) 0 .none >>= _) _ _ s
  refine wpAny_bind (wpAny_setField hoi hdi (by simp) ?_)
  show wpAny _ _ (newExc (.type "StopIteration") [] >>= _) _ _ _
  refine wpAny_bind ?_
  simp only [newExc, newTuple]
  refine wpAny_bind (wpAny_newObj_type (wpAny_bind (m := firstArgMember _ _) (wpAny_of_eq (a := Value.none) (by first | rfl | (simp only [firstArgMember]; rfl)) (wpAny_newObj_type ?_ (by size_fits)))) (by size_fits))
  simp only [raiseNew]
  refine wpAny_bind (wpAny_handled ?_)
  first | rw [show A.in1.handled = none from hh] | rw [hh]
  exact wpAny_bind (wpAny_pure (wpAny_throw (q _ _ (((Heap.SameBut.update ..).extBut.push _).push _) ⟨_, Heap.get?_push_size _ rfl, rfl⟩)))
end
theorem nx_key {prog : Program} {w : World} {it d : Addr} {ep : Nat} {od : Obj} {es : Array DictEntry} (hd : od.data = .dict es ep) (hne : d ≠ it) : NxI prog w it [it, d] (fun k h => h.IsKeyIter it d k es.size ep ∧ h.get? d = some od) (es.map (·.key)) := by
  refine ⟨by simp, fun k h st b hb => ?_, fun k h h' st kp => ⟨st.1.at fun o e => kp it o (by simp) e, kp d od (by simp) st.2⟩, fun A E s k x Q st hx q => ?_, fun A E s k Q hh st hx q => ?_⟩
  · have hb' : b = it ∨ b = d := by simpa using hb
    rcases hb' with rfl | rfl
    · obtain ⟨o, e, _⟩ := st.1
      exact ⟨o, e⟩
    · exact ⟨od, st.2⟩
  · rw [Array.getElem?_map] at hx
    cases e : es[k]? with
    | none => rw [e] at hx; cases hx
    | some en =>
      rw [e] at hx
      have hx' : en.key = x := Option.some.inj hx
      subst hx'
      exact nk_item st.1 st.2 hd rfl e fun h' st' sb => q h' ⟨st', (sb.2 d hne).trans st.2⟩ sb
  · rw [Array.getElem?_map] at hx
    cases e : es[k]? with
    | some en => rw [e] at hx; cases hx
    | none => exact nk_stop hh st.1 st.2 hd rfl (by simpa using e) q
theorem nx_tup {prog : Program} {w : World} {it l : Addr} {items : Array Value} (hne : l ≠ it) : NxI prog w it [it, l] (fun k h => h.IsTupleIter it l k ∧ h.IsTuple l items) items := by
  refine ⟨by simp, fun k h st b hb => ?_, fun k h h' st kp => ⟨st.1.at fun o e => kp it o (by simp) e, ?_⟩, fun A E s k x Q st hx q => ?_, fun A E s k Q hh st hx q => RZ.nextOf_tuple_end hh st.1 st.2 hx q⟩
  · have hb' : b = it ∨ b = l := by simpa using hb
    rcases hb' with rfl | rfl
    · obtain ⟨o, e, _⟩ := st.1
      exact ⟨o, e⟩
    · obtain ⟨o, e, _⟩ := st.2
      exact ⟨o, e⟩
  · obtain ⟨o, e, c, m, hdat⟩ := st.2
    exact ⟨o, kp l o (by simp) e, c, m, hdat⟩
  · refine RZ.nextOf_tuple_item st.1 st.2 hx fun h' st' sb => q h' ⟨st', ?_⟩ sb
    obtain ⟨o, e, c, m, hdat⟩ := st.2
    exact ⟨o, (sb.2 l hne).trans e, c, m, hdat⟩

/-! ### zip(d, t) is made -/
abbrev kz1 (h : Heap) (d : Addr) (m ep : Nat) : Heap := h.push { cls := .type "dict_keyiterator", data := .fields #[.ref d, .int 0 0, .int m 0, .int ep 0] }
abbrev kz2 (h : Heap) (d l : Addr) (m ep : Nat) : Heap := (kz1 h d m ep).push { cls := .type "tuple_iterator", data := .fields #[.ref l, .int 0 0] }
abbrev kz3 (h : Heap) (d l : Addr) (m ep : Nat) : Heap := (kz2 h d l m ep).push { cls := .type "tuple", data := .seq #[.ref h.objs.size, .ref (kz1 h d m ep).objs.size] }
abbrev kz4 (h : Heap) (d l : Addr) (m ep : Nat) : Heap := (kz3 h d l m ep).push { cls := .type "tuple", data := .seq #[.none, .none] }
abbrev kz5 (h : Heap) (d l : Addr) (m ep : Nat) : Heap := (kz4 h d l m ep).push { cls := .type "zip", data := .fields #[.none, .bool false, .bool false, .ref (kz2 h d l m ep).objs.size, .ref (kz3 h d l m ep).objs.size] }
theorem meets_kz (d l : Addr) (od : Obj) (es : Array DictEntry) (ep : Nat) (items : Array Value) (low : (d == sysModules) = false) (ex : od.ExactDict) (hd : od.data = .dict es ep) :
    Meets (Builtin.«zip.__new__» ⟨[.type "zip", .ref d, .ref l], []⟩) (fun _ R s => s.heap.get? d = some od ∧ s.heap.IsTuple l items ∧ R (.ok (.ret (.ref (kz4 s.heap d l es.size ep).objs.size))) { s with heap := kz5 s.heap d l es.size ep }) :=
  .of_wp fun prog w A R s h => by
    obtain ⟨hp, g, dr, tk, os⟩ := s
    obtain ⟨h1, h2, h⟩ := h
    have hsub := sub_zip
    have L1 : Heap.get? (Shared.heap ⟨hp, g, dr, tk, os⟩) d = some od := h1
    have L2 : Heap.IsTuple (Shared.heap ⟨hp.push { cls := .type "dict_keyiterator", data := .fields #[.ref d, .int 0 0, .int es.size 0, .int ep 0] }, g, dr, tk, os⟩) l items := Heap.IsTuple.push h2 _
    wp_walk using iter_keys low L1 ex hd, wpAny_pyIter_tuple L2
    exact ⟨_, rfl, h⟩
end Z

end
section
set_option maxHeartbeats 4000000
set_option autoImplicit false
/-! Zx: zip of a written dict and a tuple: in a for, in dict(..). -/
namespace Z
open PySem PySem.Spec PyProof.Rows L2
theorem call_kz {prog : Program} {w : World} {A : Around} {E : Value → Shared → Prop} {s : Shared} {d l : Addr} {od : Obj} {es : Array DictEntry} {ep : Nat} {items : Array Value} {Q : Value → Shared → Prop} (low : (d == sysModules) = false) (ex : od.ExactDict) (hd : od.data = .dict es ep) (h1 : s.heap.get? d = some od) (h2 : s.heap.IsTuple l items)
    (q : ∀ h', IsZip h' (s.heap.objs.size + 4) (s.heap.objs.size + 2) (s.heap.objs.size + 3) .none → IsPair h' (s.heap.objs.size + 2) (.ref s.heap.objs.size) (.ref (s.heap.objs.size + 1)) → IsPair h' (s.heap.objs.size + 3) .none .none → h'.IsKeyIter s.heap.objs.size d 0 es.size ep → h'.IsTupleIter (s.heap.objs.size + 1) l 0 →
      h'.objs.size = s.heap.objs.size + 5 → (∀ c o, s.heap.get? c = some o → h'.get? c = some o) → Q (.ref (s.heap.objs.size + 4)) { s with heap := h' }) : wpAny (model prog w) A (call (.type "zip") [.ref d, .ref l]) Q E s := by
  refine callType_new F.called_zip (by decide) (F.typeCall_zip_2 _ _) (F.newCall_zip_2 _ _) (fun obj => F.args_object_init_3 obj _ _) F.entry_zip_new (meets_kz d l od es ep items low ex hd) ⟨h1, h2, ?_⟩
  have n1 : (kz1 s.heap d es.size ep).objs.size = s.heap.objs.size + 1 := Heap.size_push ..
  have n2 : (kz2 s.heap d l es.size ep).objs.size = s.heap.objs.size + 2 := by rw [Heap.size_push, n1]
  have n3 : (kz3 s.heap d l es.size ep).objs.size = s.heap.objs.size + 3 := by rw [Heap.size_push, n2]
  have n4 : (kz4 s.heap d l es.size ep).objs.size = s.heap.objs.size + 4 := by rw [Heap.size_push, n3]
  have n5 : (kz5 s.heap d l es.size ep).objs.size = s.heap.objs.size + 5 := by rw [Heap.size_push, n4]
  have o5 : (kz5 s.heap d l es.size ep).get? (kz4 s.heap d l es.size ep).objs.size = some _ := Heap.get?_push_size _ rfl
  have o4 : (kz5 s.heap d l es.size ep).get? (kz3 s.heap d l es.size ep).objs.size = some _ := Heap.get?_push_of_some _ (Heap.get?_push_size _ rfl)
  have o3 : (kz5 s.heap d l es.size ep).get? (kz2 s.heap d l es.size ep).objs.size = some _ := Heap.get?_push_of_some _ (Heap.get?_push_of_some _ (Heap.get?_push_size _ rfl))
  have o2 : (kz5 s.heap d l es.size ep).get? (kz1 s.heap d es.size ep).objs.size = some _ := Heap.get?_push_of_some _ (Heap.get?_push_of_some _ (Heap.get?_push_of_some _ (Heap.get?_push_size _ rfl)))
  have o1 : (kz5 s.heap d l es.size ep).get? s.heap.objs.size = some _ := Heap.get?_push_of_some _ (Heap.get?_push_of_some _ (Heap.get?_push_of_some _ (Heap.get?_push_of_some _ (Heap.get?_push_size _ rfl))))
  have kp : ∀ c o, s.heap.get? c = some o → (kz5 s.heap d l es.size ep).get? c = some o := fun c o x => Heap.get?_push_of_some _ (Heap.get?_push_of_some _ (Heap.get?_push_of_some _ (Heap.get?_push_of_some _ (Heap.get?_push_of_some _ x))))
  show _ ∧ _
  rw [n2, n3, n4] at o5
  rw [n1, n2] at o3
  rw [n3] at o4
  rw [n1] at o2
  rw [n4]
  exact ⟨⟨_, o5, rfl⟩, q _ o5 o3 o4 ⟨_, o1, rfl, rfl⟩ ⟨_, o2, rfl, rfl⟩ n5 kp⟩
theorem zap_of {n d l : Nat} (hd : d < n) (hl : l < n) : ZAp (n + 4) (n + 2) (n + 3) n (n + 1) [n, d] [n + 1, l] where
  a1 := by show (n + 2 : Nat) ≠ n + 4; omega
  a2 := by show (n + 3 : Nat) ≠ n + 4; omega
  a3 := by show (n + 2 : Nat) ≠ n + 3; omega
  b1 := by show (n + 4 : Nat) ∉ [n, d]; simp; omega
  b2 := by show (n + 4 : Nat) ∉ [n + 1, l]; simp; omega
  c1 := by show (n + 3 : Nat) ∉ [n, d]; simp; omega
  c2 := by show (n + 3 : Nat) ∉ [n + 1, l]; simp; omega
  d1 := by show (n + 2 : Nat) ≠ n; omega
  d2 := by show (n + 2 : Nat) ≠ n + 1; omega
  e1 := by show (n + 1 : Nat) ∉ [n, d]; simp; omega
  e2 := by show n ∉ [n + 1, l]; simp; omega
/-- the keys ks of a written dict and the items at t, in new pairs -/
def Itkz (K : PySem.W.Frag) (ks : List V) (t : Addr) : It := ⟨fun i H => i < ks.length ∧ ∃ ys : List V, SqT K H t ys ∧ i < ys.length, fun i H v H' => ∃ T x y, v = .ref T ∧ H T = none ∧ H' = upd H T (.tup [x, y]) ∧ ks[i]? = some x ∧ ∀ ys, SqT K H t ys → ys[i]? = some y, fun i H => ∃ ys : List V, SqT K H t ys ∧ (ks.length ≤ i ∨ ys.length ≤ i)⟩
theorem keys_at {K : PySem.W.Frag} {d : Addr} {es : Array DictEntry} {n : Nat} {ks : List V} (k : KdAt K d es n ks) (hk : ∀ x ∈ ks, ∃ z, x = .str z) {i : Nat} {x : V} (h : ks[i]? = some x) : ∃ u, (es.map (·.key))[i]? = some u ∧ RelV x u := by
  obtain ⟨e, he, ka⟩ := k.key h
  obtain ⟨z, rfl⟩ := hk x (List.mem_of_getElem? h)
  exact ⟨e.key, by rw [Array.getElem?_map, he]; rfl, absV_rel ka⟩
theorem turn_kz {P : Program} {w : World} {K : PySem.W.Frag} {elts : List Expr} {kk : Nat} {tp : Pos} {d l z TI TO i1 i2 : Addr} {es : Array DictEntry} {n : Nat} {ks : List V} {items : Array Value} (k : KdAt K d es n ks) (hk : ∀ x ∈ ks, ∃ z, x = .str z) (D : ZAp z TI TO i1 i2 [i1, d] [i2, l]) (hd : d ≠ i1) (hl : l ≠ i2) :
    Turn P w K (.Tuple elts kk tp) (Itkz K ks l) [z, TI, TO, i1, i2] z (fun i h => IsZip h z TI TO .none ∧ IsPair h TI (.ref i1) (.ref i2) ∧ (∃ x y, IsPair h TO x y) ∧ h.IsKeyIter i1 d i es.size n ∧ h.IsTupleIter i2 l i) := by
  refine ⟨by simp, fun i h st c hc => ?_, fun i h h' st kp => ?_, ?_, ?_, fun A i s Q E st h => wpAny_pyIter_zip st.1 h⟩
  · obtain ⟨hz, hI, ⟨x, y, hO⟩, ⟨o1, e1, _, d1⟩, ⟨o2, e2, _, d2⟩⟩ := st
    simp only [List.mem_cons, List.mem_nil_iff, or_false] at hc
    rcases hc with rfl | rfl | rfl | rfl | rfl
    · exact ⟨_, hz, fun v q => nomatch q⟩
    · exact ⟨_, hI, fun v q => nomatch q⟩
    · exact ⟨_, hO, fun v q => nomatch q⟩
    · exact ⟨o1, e1, fun v q => by rw [d1] at q; cases q⟩
    · exact ⟨o2, e2, fun v q => by rw [d2] at q; cases q⟩
  · obtain ⟨hz, hI, ⟨x, y, hO⟩, g1, g2⟩ := st
    exact ⟨kp z (by simp) _ hz, kp TI (by simp) _ hI, ⟨x, y, kp TO (by simp) _ hO⟩, g1.at fun o q => kp i1 (by simp) o q, g2.at fun o q => kp i2 (by simp) o q⟩
  · intro X hP hw hK hc i pins s σ H E I hf st hg
    subst hP hw hK
    obtain ⟨hz, hI, ⟨x0, y0, hO⟩, g1, g2⟩ := st
    obtain ⟨hi, ys, hq, hj⟩ := hg
    obtain ⟨its, rv, p, _⟩ := I.tuple hq
    have hx : ks[i]? = some ks[i] := List.getElem?_eq_getElem hi
    have hy : ys[i]? = some ys[i] := List.getElem?_eq_getElem hj
    obtain ⟨u, hu, ru⟩ := keys_at k hk hx
    obtain ⟨u2, hu2, ru2⟩ := rv.get hy
    have lz : z < s.heap.objs.size := Heap.lt_size hz
    have N1 := nx_key (prog := X.prog) (w := X.w) (it := i1) (ep := n) (od := ⟨.type "dict", none, .dict es n, #[]⟩) (es := es) rfl hd
    have N2 := nx_tup (prog := X.prog) (w := X.w) (it := i2) (l := l) (items := its.toArray) hl
    refine zn_item N1 N2 D (k1 := i) (k2 := i) hz hI hO ⟨g1, I.kIn d _ k.at_⟩ ⟨g2, p⟩ hu (by simpa using hu2) fun h' z' O' s1 s2 hT sz hk2 => ?_
    refine ⟨_, rfl, wpAny_letOwnedTupleGo_zip (s := { s with heap := h' }) z' fun h2 z2 sb => ?_⟩
    have T2 : h2.get? s.heap.objs.size = some { cls := .type "tuple", data := .seq #[u, u2] } := (sb.2 _ (Nat.ne_of_gt lz)).trans hT
    have ok : ObjOk X.prog X.w (upd H s.heap.objs.size (.tup [ks[i], ys[i]])) h2 s.heap.objs.size (.tup [ks[i], ys[i]]) := by
      refine ⟨?_, [u, u2], .cons ru (.cons ru2 .nil), ⟨_, T2, rfl, _, rfl⟩⟩
      show 2 ≤ sizeLine
      decide
    have J : Inv X pins σ (upd H s.heap.objs.size (.tup [ks[i], ys[i]])) { s with heap := h2 } := by
      refine I.turnedNew (t' := s.toks) (ch := [z, TI, TO, i1, i2]) (fun c o hb q => ?_) hf (Nat.le_refl _) ok
      simp only [List.mem_cons, List.mem_nil_iff, or_false, not_or] at hb
      exact (sb.2 c hb.1).trans (hk2 c o hb.1 hb.2.2.1 hb.2.2.2.1 hb.2.2.2.2 q)
    refine ⟨.ref s.heap.objs.size, _, J, rfl, ⟨_, ks[i], ys[i], rfl, I.hok.fresh (Nat.le_refl _), rfl, hx, fun zs hzs => by rw [I.tuple_inj hzs hq]; exact hy⟩, ⟨z2, ?_, ⟨u, u2, ?_⟩, ?_, ?_⟩, fun c hcm => ?_⟩
    · exact (sb.2 _ D.a1).trans (hk2 _ _ D.a1 D.a3 D.d1 D.d2 hI)
    · exact (sb.2 _ D.a2).trans O'
    · exact s1.1.at fun o q => (sb.2 _ (fun e => D.b1 (by rw [← e]; simp))).trans q
    · exact s2.1.at fun o q => (sb.2 _ (fun e => D.b2 (by rw [← e]; simp))).trans q
    · have lt : c < s.heap.objs.size := by
        simp only [List.mem_cons, List.mem_nil_iff, or_false] at hcm
        rcases hcm with rfl | rfl | rfl | rfl | rfl
        · exact lz
        · exact Heap.lt_size hI
        · exact Heap.lt_size hO
        · obtain ⟨_, e1, _⟩ := g1; exact Heap.lt_size e1
        · obtain ⟨_, e2, _⟩ := g2; exact Heap.lt_size e2
      rw [upd_ne (Nat.ne_of_lt lt)]
      exact (hf c hcm).1
  · intro X hP hw hK hc i pins s σ H E I hf st hg
    subst hP hw hK
    obtain ⟨hz, hI, ⟨x0, y0, hO⟩, g1, g2⟩ := st
    obtain ⟨ys, hq, he⟩ := hg
    obtain ⟨its, rv, p, _⟩ := I.tuple hq
    have hle := rv.length
    have N1 := nx_key (prog := X.prog) (w := X.w) (it := i1) (ep := n) (od := ⟨.type "dict", none, .dict es n, #[]⟩) (es := es) rfl hd
    have N2 := nx_tup (prog := X.prog) (w := X.w) (it := i2) (l := l) (items := its.toArray) hl
    have ks_sz := k.size
    refine zn_end N1 N2 (I.ok.hd hc) D (k1 := i) (k2 := i) hz hI hO ⟨g1, I.kIn d _ k.at_⟩ ⟨g2, p⟩ ?_ fun h' hk2 => ⟨rfl, I.turnedL (t' := s.toks) (ch := [z, TI, TO, i1, i2]) (fun c o hb q => ?_) hf⟩
    · rcases he with e | e
      · exact .inl (by simp; omega)
      · exact .inr (by simp; omega)
    · simp only [List.mem_cons, List.mem_nil_iff, or_false, not_or] at hb
      exact hk2 c o hb.1 hb.2.2.1 hb.2.2.2.1 hb.2.2.2.2 q
/-- for a, b in zip(d, t) -/
def iKz (K : PySem.W.Frag) (ta : TA) : TI := fun σ H R => ta σ H fun vs H1 => ∃ d l es n ks ys, vs = [.ref d, .ref l] ∧ KdAt K d es n ks ∧ (∀ x ∈ ks, ∃ z, x = .str z) ∧ SqT K H1 l ys ∧ R (Itkz K ks l) H1
theorem pi_kz {X : Cx} {e e2 : Expr} {ta : TA} {p pos tp : Pos} {elts : List Expr} {kk : Nat} (hg : Gl X "zip") (hm : X.mg "zip" = none) (ha : PA X [e, e2] ta) (he : nS e = true) (he2 : nS e2 = true) : PI X (.Tuple elts kk tp) (.Call (.Name "zip" p) [e, e2] [] pos) (iKz X.K ta) := by
  refine ⟨fun pins s σ H R I h => ?_⟩
  refine Call_ (ld_blt I hg hm PyProof.Rows.boot_zip (PyProof.Rows.callWith_type1 (thn (ha.run pos pins s σ H _ I h) fun us s1 ⟨vs, H1, I1, r1, q1⟩ => ?_) (starE he) (starAny (es := [e2]) (by simp [he2]))))
  obtain ⟨d, l, es, n, ks, ys, ex, k, hk, hq, q⟩ := q1
  subst ex
  obtain ⟨u1, u2, rfl, ru, ru2⟩ := vals2 r1
  cases ru
  cases ru2
  obtain ⟨its, rv, pt, _⟩ := I1.tuple hq
  have kd := I1.kIn d _ k.at_
  have ld : d < s1.heap.objs.size := Heap.lt_size kd
  have ll : l < s1.heap.objs.size := by obtain ⟨o, ho, _⟩ := pt; exact Heap.lt_size ho
  refine call_kz k.low ⟨rfl, rfl, rfl⟩ rfl kd (show s1.heap.IsTuple l its.toArray from pt) fun h' hz hI hO g1 g2 sz kp => wpAny_pyIter_zip hz ?_
  have J : Inv X pins σ H1 { s1 with heap := h' } := I1.kept (t' := s1.toks) kp
  refine ⟨s1.heap.objs.size + 4, [s1.heap.objs.size + 4, s1.heap.objs.size + 2, s1.heap.objs.size + 3, s1.heap.objs.size, s1.heap.objs.size + 1], _, _, H1, rfl, J, turn_kz k hk (items := its.toArray) (zap_of ld ll) (Nat.ne_of_lt ld) (Nat.ne_of_lt (Nat.lt_succ_of_lt ll)), ⟨hz, hI, ⟨_, _, hO⟩, g1, g2⟩, fun c hcm => ?_, q⟩
  have hle : s1.heap.objs.size ≤ c := by
    simp only [List.mem_cons, List.mem_nil_iff, or_false] at hcm
    rcases hcm with rfl | rfl | rfl | rfl | rfl <;> first | exact Nat.le_refl _ | exact Nat.le_add_right _ _
  exact I1.fpOk hle (I1.hok.fresh hle)
theorem walk_kz {K : PySem.W.Frag} {t : Addr} {ks ys : List V} {n : Nat} (hn : n = min ks.length ys.length) : Walk (Itkz K ks t) n (fun H => SqT K H t ys) (YPair (fun i => ks[i]?) (fun i => ys[i]?)) := by
  subst hn
  constructor
  · intro i H hi q
    exact ⟨by omega, ys, q, by omega⟩
  · intro H q
    exact ⟨ys, q, by omega⟩
  · intro i H v H' _ q y
    obtain ⟨T, x, z, e1, e2, e3, g1, g2⟩ := y
    exact ⟨T, x, z, e1, e2, e3, g1, g2 ys q⟩
end Z

end
section
set_option maxHeartbeats 4000000
set_option autoImplicit false
/-! Z16: what a for walks. -/
namespace Z
open PySem PySem.Spec PyProof.Rows L2
def WI (X : Cx) (tg iter : Expr) : TI := fun σ H R => ∀ pins s, Inv X pins σ H s → wpAny (model X.prog X.w) X.A (eval iter X.env) (fun v s1 => wpAny (model X.prog X.w) X.A (pyIter v) (PIE X pins σ tg R) X.xe s1) X.xe s
theorem pi_wi {X : Cx} {tg iter : Expr} : PI X tg iter (WI X tg iter) := ⟨fun pins s _ _ _ I h => h pins s I⟩
/-- an iterator that gives what ds tells -/
def ItOk (G : Tx) (α : Al) (μ : Mu) (H : Hp) (J : It) (ds : List D) : Prop := ∃ (Gd : Hp → Prop) (Y : Nat → Hp → V → Hp → Prop), Walk J ds.length Gd Y ∧ (∀ α2 μ2 H2, Ext0 α μ H α2 μ2 H2 → Gd H2) ∧
  ∀ i v d α2 μ2 H2 H3, Ext0 α μ H α2 μ2 H2 → StOk G α2 μ2 H2 → ds[i]? = some d → Y i H2 v H3 → Ext α2 μ2 H2 α2 μ2 H3 ∧ StOk G α2 μ2 H3 ∧ Rep G α2 μ2 H3 v d
section
variable {G : Tx} {M : Nm} {n : Nat}
theorem itok_at {α : Al} {μ : Mu} {H : Hp} {J : It} {xs : List V} {ds : List D} {Gd : Hp → Prop} (w : Walk J xs.length Gd (YAt xs)) (rl : RepL G α μ H xs ds) (hg : ∀ α2 μ2 H2, Ext0 α μ H α2 μ2 H2 → Gd H2) : ItOk G α μ H J ds := by
  refine ⟨Gd, YAt xs, by rw [← rl.len]; exact w, hg, fun i v d α2 μ2 H2 H3 ex st hd y => ?_⟩
  obtain ⟨rfl, hx⟩ := y
  obtain ⟨v', hv, rv⟩ := rl.get hd
  rw [hx] at hv
  cases hv
  exact ⟨Ext.refl, st, rv.ext0 ex⟩
theorem enum_get : ∀ (ds : List D) (k i : Nat) (e : D), (enumFrom k ds)[i]? = some e → ∃ d, ds[i]? = some d ∧ e = .tup [.int ((k + i : Nat) : Int), d]
  | [], _, _, _, h => by simp [enumFrom] at h
  | d :: ds, k, 0, e, h => by
    have h' : some (D.tup [.int k, d]) = some e := by simpa [enumFrom] using h
    cases h'
    exact ⟨d, rfl, rfl⟩
  | d :: ds, k, i + 1, e, h => by
    have h' : (enumFrom (k + 1) ds)[i]? = some e := by simpa [enumFrom] using h
    obtain ⟨d', h1, h2⟩ := enum_get ds (k + 1) i e h'
    refine ⟨d', by simpa using h1, ?_⟩
    rw [h2]
    have : k + 1 + i = k + (i + 1) := by omega
    rw [this]
theorem enum_len : ∀ (ds : List D) (k : Nat), (enumFrom k ds).length = ds.length
  | [], _ => rfl
  | d :: ds, k => by unfold enumFrom; rw [List.length_cons, List.length_cons, enum_len ds]
theorem zip_get : ∀ (xs ys : List D) (i : Nat) (e : D), (zipD xs ys)[i]? = some e → ∃ a b, xs[i]? = some a ∧ ys[i]? = some b ∧ e = .tup [a, b]
  | [], _, _, _, h => by simp [zipD] at h
  | _ :: _, [], _, _, h => by simp [zipD] at h
  | x :: xs, y :: ys, 0, e, h => by
    have h' : some (D.tup [x, y]) = some e := by simpa [zipD] using h
    cases h'
    exact ⟨x, y, rfl, rfl, rfl⟩
  | x :: xs, y :: ys, i + 1, e, h => by
    have h' : (zipD xs ys)[i]? = some e := by simpa [zipD] using h
    obtain ⟨a, b, h1, h2, h3⟩ := zip_get xs ys i e h'
    exact ⟨a, b, by simpa using h1, by simpa using h2, h3⟩
theorem zip_len : ∀ (xs ys : List D), (zipD xs ys).length = min xs.length ys.length
  | [], _ => by simp [zipD]
  | _ :: _, [] => by simp [zipD]
  | x :: xs, y :: ys => by unfold zipD; rw [List.length_cons, zip_len xs ys, List.length_cons, List.length_cons]; omega
theorem pair_rep {α : Al} {μ : Mu} {H : Hp} {T : Addr} {x y : V} {a b : D} (st : StOk G α μ H) (hT : H T = none) (ra : Rep G α μ H x a) (rb : Rep G α μ H y b) :
    Ext α μ H α μ (upd H T (.tup [x, y])) ∧ StOk G α μ (upd H T (.tup [x, y])) ∧ Rep G α μ (upd H T (.tup [x, y])) (.ref T) (.tup [a, b]) := by
  have ex := ext_new (o := .tup [x, y]) st hT
  exact ⟨ex, st.new hT, .tup (.inl ⟨.inl upd_same, st.notLive hT⟩) (.cons (ra.ext ex) (.cons (rb.ext ex) .nil))⟩
/-- a list that stands still -/
theorem still_lst {X : Cx} {N : List Str} {sc : Scope} {Wx : WX} (hr : Here G n ⟨N, sc, M⟩ X Wx) {α : Al} {μ : Mu} {H : Hp} {v : V} {d : D} {ds : List D} (r : Rep G α μ H v d) (h : d = .lst ds ∨ d = .flst ds) :
    ∃ p xs, v = .ref p ∧ RepL G α μ H xs ds ∧ ∀ α2 μ2 H2, Ext0 α μ H α2 μ2 H2 → SqL X.K H2 p xs := by
  rcases h with rfl | rfl
  · cases r with
    | lst h1 h2 rl => exact ⟨_, _, rfl, rl, fun α2 μ2 H2 ex => SqL.of ((ex.keep _ _ h1 h2).resolve_right fun ⟨_, _, e1, _⟩ => by cases e1)⟩
  · cases r with
    | flst h1 rl =>
      refine ⟨_, _, rfl, rl, fun α2 μ2 H2 ex => ?_⟩
      rcases h1 with h1 | h1
      · exact .inl (ex.rd h1).1
      · obtain ⟨o, its, m, k1, k2⟩ := h1
        exact .inr ⟨o, its, m, by rw [hr.c.K]; exact k1, k2⟩
theorem still_tup {X : Cx} {N : List Str} {sc : Scope} {Wx : WX} (hr : Here G n ⟨N, sc, M⟩ X Wx) {α : Al} {μ : Mu} {H : Hp} {v : V} {ds : List D} (r : Rep G α μ H v (.tup ds)) :
    ∃ p xs, v = .ref p ∧ RepL G α μ H xs ds ∧ ∀ α2 μ2 H2, Ext0 α μ H α2 μ2 H2 → SqT X.K H2 p xs := by
  cases r with
  | tup h1 rl =>
    refine ⟨_, _, rfl, rl, fun α2 μ2 H2 ex => ?_⟩
    rcases h1 with h1 | h1
    · exact .inl (ex.rd h1).1
    · obtain ⟨o, its, m, k1, k2⟩ := h1
      exact .inr ⟨o, its, m, by rw [hr.c.K]; exact k1, k2⟩
/-- a dict that stands still, locked for the walk -/
theorem pe_lkd {X : Cx} {e : Expr} : PE X e (fun σ H Q => WE X e σ H fun x H1 => Q x H1 ∨ ∃ d kvs, x = .ref d ∧ H1 d = some (.dK kvs) ∧ ∀ od, Q x (upd H1 d (.frz od (.dK kvs)))) := by
  refine ⟨fun pins s σ H Q I h => thn (h pins s I) fun u s1 ⟨x, H1, I1, rx, q⟩ => ?_⟩
  rcases q with q | ⟨d, kvs, rfl, hd, q⟩
  · exact ⟨x, H1, I1, rx, q⟩
  · obtain ⟨od, J⟩ := I1.lock hd trivial
    exact ⟨.ref d, _, J, rx, q od⟩
theorem RepK.get {α : Al} {μ : Mu} {H : Hp} {kvs : List (Key × V)} {l : List (DK × D)} (r : RepK G α μ H kvs l) : ∀ {i : Nat} {k : DK} {d : D}, l[i]? = some (k, d) → ∃ v, kvs[i]? = some (keyK k, v) ∧ Rep G α μ H v d := by
  induction l generalizing kvs with
  | nil => intro i k d h; simp at h
  | cons q l ih =>
    intro i k d h
    cases r with
    | cons r0 t =>
      cases i with
      | zero => cases h; exact ⟨_, rfl, r0⟩
      | succ i => exact ih t h
theorem rep_key {α : Al} {μ : Mu} {H : Hp} (k : DK) : Rep G α μ H (kV (keyK k)) (ofKey k) := by
  cases k with
  | i n => exact .int n
  | s l => exact .str l
/-- locked: what a walk over a dict's keys, values, pairs gives -/
theorem dic_keys_ok {α : Al} {μ : Mu} {H : Hp} {p : Addr} {od : Obj} {kvs : List (Key × V)} {l : List (DK × D)} (h : NL α μ H p (.dK kvs)) (hp : H p = some (.frz od (.dK kvs))) (r : RepK G α μ H kvs l) : ItOk G α μ H (Itk p od kvs) (l.map fun q => ofKey q.1) := by
  have gd : ∀ α2 μ2 H2, Ext0 α μ H α2 μ2 H2 → H2 p = some (.frz od (.dK kvs)) := fun α2 μ2 H2 ex => (ex.keep _ _ hp h.2).resolve_right fun ⟨_, _, e1, _⟩ => by cases e1
  refine ⟨fun H => H p = some (.frz od (.dK kvs)), _, by rw [List.length_map, ← r.len]; exact walk_keys, gd, fun i v d α2 μ2 H2 H3 ex st hd y => ?_⟩
  obtain ⟨rfl, k, u, hk, rfl⟩ := y
  rw [List.getElem?_map] at hd
  cases e : l[i]? with
  | none => rw [e] at hd; cases hd
  | some q =>
    obtain ⟨k', d'⟩ := q
    rw [e] at hd
    cases hd
    obtain ⟨v', hv, rv⟩ := r.get e
    rw [hk] at hv
    cases hv
    exact ⟨Ext.refl, st, rep_key k'⟩
theorem dic_vals_ok {α : Al} {μ : Mu} {H : Hp} {p : Addr} {od : Obj} {kvs : List (Key × V)} {l : List (DK × D)} (h : NL α μ H p (.dK kvs)) (hp : H p = some (.frz od (.dK kvs))) (r : RepK G α μ H kvs l) : ItOk G α μ H (Itd p od kvs) (l.map (·.2)) := by
  have gd : ∀ α2 μ2 H2, Ext0 α μ H α2 μ2 H2 → H2 p = some (.frz od (.dK kvs)) := fun α2 μ2 H2 ex => (ex.keep _ _ hp h.2).resolve_right fun ⟨_, _, e1, _⟩ => by cases e1
  refine ⟨fun H => H p = some (.frz od (.dK kvs)), _, by rw [List.length_map, ← r.len]; exact walk_values, gd, fun i v d α2 μ2 H2 H3 ex st hd y => ?_⟩
  obtain ⟨rfl, k, hk⟩ := y
  rw [List.getElem?_map] at hd
  cases e : l[i]? with
  | none => rw [e] at hd; cases hd
  | some q =>
    obtain ⟨k', d'⟩ := q
    rw [e] at hd
    cases hd
    obtain ⟨v', hv, rv⟩ := r.get e
    rw [hk] at hv
    cases hv
    exact ⟨Ext.refl, st, rv.ext0 ex⟩
theorem dic_items_ok {α : Al} {μ : Mu} {H : Hp} {p : Addr} {od : Obj} {kvs : List (Key × V)} {l : List (DK × D)} (h : NL α μ H p (.dK kvs)) (hp : H p = some (.frz od (.dK kvs))) (r : RepK G α μ H kvs l) : ItOk G α μ H (Iti p od kvs) (l.map fun q => .tup [ofKey q.1, q.2]) := by
  have gd : ∀ α2 μ2 H2, Ext0 α μ H α2 μ2 H2 → H2 p = some (.frz od (.dK kvs)) := fun α2 μ2 H2 ex => (ex.keep _ _ hp h.2).resolve_right fun ⟨_, _, e1, _⟩ => by cases e1
  refine ⟨fun H => H p = some (.frz od (.dK kvs)), _, by rw [List.length_map, ← r.len]; exact walk_items, gd, fun i v d α2 μ2 H2 H3 ex st hd y => ?_⟩
  obtain ⟨T, x, z, rfl, hT, rfl, hx, hz⟩ := y
  rw [List.getElem?_map] at hd
  cases e : l[i]? with
  | none => rw [e] at hd; cases hd
  | some q =>
    obtain ⟨k', d'⟩ := q
    rw [e] at hd
    cases hd
    obtain ⟨v', hv, rv⟩ := r.get e
    have hx' : (kvs[i]?.map fun kv => kV kv.1) = some x := hx
    have hz' : kvs[i]?.map Prod.snd = some z := hz
    rw [hv] at hx' hz'
    cases hx'
    cases hz'
    exact pair_rep st hT (rep_key k') (rv.ext0 ex)
def PKeys (RR : It → Hp → Prop) : V → Hp → Prop := fun v H2 => ∃ d o, v = .ref d ∧ ((∃ kvs, H2 d = some (.frz o (.dK kvs)) ∧ RR (Itk d o kvs) H2) ∨ ∃ kvs, H2 d = some (.frz o (.dT kvs)) ∧ RR (Itkt d o kvs) H2)
def PVals (RR : It → Hp → Prop) : V → Hp → Prop := fun v H2 => ∃ d o kvs, v = .ref d ∧ H2 d = some (.frz o (.dK kvs)) ∧ RR (Itd d o kvs) H2
def PItems (RR : It → Hp → Prop) : V → Hp → Prop := fun v H2 => ∃ d o kvs, v = .ref d ∧ H2 d = some (.frz o (.dK kvs)) ∧ RR (Iti d o kvs) H2
/-- the dict's own place, the walk's goal behind the lock -/
theorem dic_goal {α : Al} {μ : Mu} {H : Hp} {v : V} {l : List (DK × D)} (st : StOk G α μ H) (r : Rep G α μ H v (.dic l)) {P : V → Hp → Prop} (h : ∀ p od kvs H1, v = .ref p → Ext α μ H α μ H1 → StOk G α μ H1 → NL α μ H1 p (.dK kvs) → H1 p = some (.frz od (.dK kvs)) → RepK G α μ H1 kvs l → P v H1) :
    P v H ∨ ∃ d kvs, v = .ref d ∧ H d = some (.dK kvs) ∧ ∀ od, P v (upd H d (.frz od (.dK kvs))) := by
  cases r with
  | dic h0 rk =>
    rename_i p kvs
    obtain ⟨h1, h2⟩ := h0
    rcases h1 with h1 | ⟨od, h1⟩
    · refine .inr ⟨p, kvs, rfl, h1, fun od => ?_⟩
      have ex : Ext α μ H α μ (upd H p (.frz od (.dK kvs))) := ext_lock h1 fun q => h2 (.inr q)
      exact h p od kvs _ rfl ex (st.lock h1 h2) ⟨.inr ⟨od, upd_same⟩, h2⟩ upd_same (rk.ext ex)
    · exact .inl (h p od kvs H rfl Ext.refl st ⟨.inr ⟨od, h1⟩, h2⟩ h1 rk)
/-- what the walk's rule asks -/
def ItGoal (G : Tx) (M : Nm) (n : Nat) (k : IK) (zs : ZEs) : Prop := ∀ (N : List Str) (sc : Scope) (X : Cx) (Wx : WX) (tg iter : Expr) (as : List Expr) (α : Al) (μ : Mu) (ρ : Env) (σ : L2.St) (H : Hp) (RR : It → Hp → Prop) (β γ : Type) (rel : Rel β γ) (K : List D → Mu → R β) (Q : γ → Hp → Prop),
  Here G n ⟨N, sc, M⟩ X Wx → itArgs ⟨N, sc, M⟩ tg k iter = some as → agEs M zs N sc as = true → StOk G α μ H → EnvOk G α μ H ρ σ →
  FinG G rel (WW G Wx σ) α μ H ((evalEs (evOf G.T n) zs ρ μ).bind fun xs μ1 => match itemsOf k xs μ1 with
    | some ds => K ds μ1
    | none => .err) Q →
  (∀ ds μ1 α1 H1 J, Ext α μ H α1 μ1 H1 → StOk G α1 μ1 H1 → ItOk G α1 μ1 H1 J ds → FinG G rel (WW G Wx σ) α1 μ1 H1 (K ds μ1) Q → RR J H1) → WI X tg iter σ H RR
theorem rng_ok {α : Al} {μ : Mu} {H : Hp} (lo : Int) (m : Nat) : ItOk G α μ H (Itr lo m) ((List.range m).map fun i => .int (lo + ((i : Nat) : Int))) := by
  refine ⟨fun _ => True, YFn fun i => .int (lo + i), ?_, fun _ _ _ _ => trivial, fun i v d α2 μ2 H2 H3 ex st hd y => ?_⟩
  · rw [List.length_map, List.length_range]
    exact walk_range
  · obtain ⟨rfl, rfl⟩ := y
    rw [List.getElem?_map] at hd
    cases e : (List.range m)[i]? with
    | none => rw [e] at hd; cases hd
    | some j =>
      rw [e] at hd
      obtain ⟨hlt, hj⟩ := List.getElem?_eq_some_iff.mp e
      rw [List.getElem_range] at hj
      subst hj
      cases hd
      exact ⟨Ext.refl, st, .int _⟩
theorem items_rng1 {d : D} {μ : Mu} {ds : List D} (h : itemsOf .rng [d] μ = some ds) : ∃ k : Int, d = .int k ∧ (-1000000 ≤ k ∧ k ≤ 1000000) ∧ ds = (List.range k.toNat).map fun i => .int ((0 : Int) + ((i : Nat) : Int)) := by
  cases d with
  | int k =>
    have h' : (if -1000000 ≤ k ∧ k ≤ 1000000 then some ((List.range k.toNat).map fun i => D.int ((i : Nat) : Int)) else none) = some ds := h
    split at h'
    · rename_i hk
      cases h'
      refine ⟨k, rfl, hk, List.map_congr_left fun i _ => ?_⟩
      rw [Int.zero_add]
    · cases h'
  | _ => cases h
theorem items_rng2 {d e : D} {μ : Mu} {ds : List D} (h : itemsOf .rng [d, e] μ = some ds) : ∃ a b : Int, d = .int a ∧ e = .int b ∧ ((-1000000 ≤ a ∧ a ≤ 1000000) ∧ -1000000 ≤ b ∧ b ≤ 1000000) ∧ ds = (List.range (b - a).toNat).map fun i => .int (a + ((i : Nat) : Int)) := by
  cases d with
  | int a =>
    cases e with
    | int b =>
      have h' : (if (-1000000 ≤ a ∧ a ≤ 1000000) ∧ -1000000 ≤ b ∧ b ≤ 1000000 then some ((List.range (b - a).toNat).map fun i => D.int (a + ((i : Nat) : Int))) else none) = some ds := h
      split at h'
      · rename_i hk
        cases h'
        exact ⟨a, b, rfl, rfl, hk, rfl⟩
      · cases h'
    | _ => cases h
  | _ => cases h
/-- the end of a walk's rule -/
theorem items_go {β γ : Type} {rel : Rel β γ} {W : XW} {K : List D → Mu → R β} {Q : γ → Hp → Prop} {α : Al} {μ : Mu} {H : Hp} {k : IK} {xs : List D} (f : FinG G rel W α μ H (match itemsOf k xs μ with
    | some ds => K ds μ
    | none => .err) Q) : ∃ ds, itemsOf k xs μ = some ds ∧ FinG G rel W α μ H (K ds μ) Q := by
  cases e : itemsOf k xs μ with
  | none => rw [e] at f; exact (show False from f).elim
  | some ds => rw [e] at f; exact ⟨ds, rfl, f⟩
theorem it_rng {zs : ZEs} (hs : SndEs G M n zs) : ItGoal G M n .rng zs := by
  intro N sc X Wx tg iter as α μ ρ σ H RR β γ rel K Q hr ha h st en f q
  unfold itArgs at ha
  split at ha
  case h_2 x p es pos hk =>
    split at ha
    · rename_i hc
      cases ha
      simp only [Bool.and_eq_true, Bool.or_eq_true] at hc
      obtain ⟨⟨⟨h1, h2⟩, h3⟩, h4⟩ := hc
      obtain rfl := of_decide_eq_true h1
      obtain ⟨v1, v2, v3⟩ := gl_of hr h2
      have hm : X.mg "range" = none := by rw [hr.c.mg]; exact hr.t.blt _ (by decide)
      have wa := fun QQ hQ => hs N sc X Wx as α μ ρ σ H QQ hr h h3 st en (FinG.bind f hQ)
      rcases h4 with h4 | h4
      · match as, of_decide_eq_true h4, h, h3, wa with
        | [a], _, h, h3, wa =>
          have h3' : nS a = true := (band (show (nS a && ([] : List Expr).all nS) = true from h3)).1
          have w := wa (fun vs H1 => ∃ j : Int, vs = [.int j] ∧ -(2 ^ 62) ≤ j ∧ j < 2 ^ 62 ∧ RR (Itr 0 j.toNat) H1) (fun ds μ1 α1 H1 vs e1 ex1 s1 r1 f1 => by
            have hl := es_len e1 h
            match ds, hl, r1, f1 with
            | [d], _, .cons r0 .nil, f1 =>
              obtain ⟨ds2, hd, f2⟩ := items_go f1
              obtain ⟨k, rfl, hk, rfl⟩ := items_rng1 hd
              cases r0
              exact ⟨k, rfl, by omega, by omega, q _ _ _ _ _ ex1 s1 (rng_ok 0 _) f2⟩)
          intro pins s I
          exact (pi_range1 v1 hm pa_wa (by rw [starE h3']; rfl)).run pins s σ H RR I w
      · match as, of_decide_eq_true h4, h, h3, wa with
        | [a, b], _, h, h3, wa =>
          obtain ⟨h3a, h3b⟩ := band (show (nS a && [b].all nS) = true from h3)
          have h3b' : nS b = true := (band (show (nS b && ([] : List Expr).all nS) = true from h3b)).1
          have w := wa (fun vs H1 => ∃ i j : Int, vs = [.int i, .int j] ∧ (-(2 ^ 62) ≤ i ∧ i < 2 ^ 62 ∧ -(2 ^ 62) ≤ j ∧ j < 2 ^ 62) ∧ RR (Itr i (j - i).toNat) H1) (fun ds μ1 α1 H1 vs e1 ex1 s1 r1 f1 => by
            have hl := es_len e1 h
            match ds, hl, r1, f1 with
            | [d, e], _, .cons r0 (.cons r00 .nil), f1 =>
              obtain ⟨ds2, hd, f2⟩ := items_go f1
              obtain ⟨k, m, rfl, rfl, hk, rfl⟩ := items_rng2 hd
              cases r0
              cases r00
              exact ⟨k, m, rfl, by omega, q _ _ _ _ _ ex1 s1 (rng_ok k _) f2⟩)
          intro pins s I
          exact (pi_range2 v1 hm pa_wa (by rw [starE h3a, starE h3b']; rfl) (by rw [starE h3b']; rfl)).run pins s σ H RR I w
    · cases ha
  all_goals first
    | (cases ha; done)
    | (rename_i hh; cases hh)
theorem enum_gives {α : Al} {μ : Mu} {H : Hp} {xs : List V} {l : List D} (rl : RepL G α μ H xs l) {i : Nat} {v : V} {d : D} {α2 : Al} {μ2 : Mu} {H2 H3 : Hp} (ex : Ext0 α μ H α2 μ2 H2) (st : StOk G α2 μ2 H2) (hd : (enumFrom 0 l)[i]? = some d)
    (y : YPair (fun i => some (.int (i : Nat))) (fun i => xs[i]?) i H2 v H3) : Ext α2 μ2 H2 α2 μ2 H3 ∧ StOk G α2 μ2 H3 ∧ Rep G α2 μ2 H3 v d := by
  obtain ⟨T, x, y, rfl, hT, rfl, hx, hy⟩ := y
  obtain ⟨d', hd', rfl⟩ := enum_get l 0 i d hd
  cases hx
  obtain ⟨v', hv, rv⟩ := rl.get hd'
  have hy' : xs[i]? = some y := hy
  rw [hv] at hy'
  cases hy'
  rw [Nat.zero_add]
  exact pair_rep st hT (.int _) (rv.ext0 ex)
theorem walk_enumT {K : PySem.W.Frag} {a : Addr} {xs : List V} : Walk (IteT K a) xs.length (fun H => SqT K H a xs) (YPair (fun i => some (.int (i : Nat))) (fun i => xs[i]?)) := by
  refine ⟨fun i _ hi q => ⟨xs, xs[i], q, by simp [hi]⟩, fun _ q => ⟨xs, q, Nat.le_refl _⟩, fun i H v H' _ q y => ?_⟩
  obtain ⟨T, x, h1, h2, h3, h4⟩ := y
  exact ⟨T, .int (i : Nat), x, h1, h2, h3, rfl, h4 xs q⟩
theorem it_enum {zs : ZEs} (hs : SndEs G M n zs) : ItGoal G M n .enum zs := by
  intro N sc X Wx tg iter as α μ ρ σ H RR β γ rel K Q hr ha h st en f q
  unfold itArgs at ha
  split at ha
  case h_3 x p a pos hk =>
    split at ha
    · rename_i hc
      cases ha
      simp only [Bool.and_eq_true] at hc
      obtain ⟨⟨⟨h1, h2⟩, h3⟩, h4⟩ := hc
      obtain rfl := of_decide_eq_true h1
      obtain ⟨v1, v2, v3⟩ := gl_of hr h2
      have hm : X.mg "enumerate" = none := by rw [hr.c.mg]; exact hr.t.blt _ (by decide)
      cases tg with
      | Tuple es kk tp =>
        have w := hs N sc X Wx [a] α μ ρ σ H (fun vs H1 => ∃ p xs, vs = [.ref p] ∧ ((SqL X.K H1 p xs ∧ RR (Ite X.K p) H1) ∨ (SqT X.K H1 p xs ∧ RR (IteT X.K p) H1))) hr h (by simp [h3]) st en (FinG.bind f fun ds μ1 α1 H1 vs e1 ex1 s1 r1 f1 => by
          have hl := es_len e1 h
          match ds, hl, r1, f1 with
          | [d], _, .cons r0 .nil, f1 =>
            obtain ⟨ds2, hd, f2⟩ := items_go f1
            have key : (∃ l, d = .lst l ∧ ds2 = enumFrom 0 l) ∨ ∃ l, d = .tup l ∧ ds2 = enumFrom 0 l := by
              cases d <;> first | (cases hd; done) | exact .inl ⟨_, rfl, (Option.some.inj hd).symm⟩ | exact .inr ⟨_, rfl, (Option.some.inj hd).symm⟩
            rcases key with ⟨l, rfl, rfl⟩ | ⟨l, rfl, rfl⟩
            · obtain ⟨p, xs, rfl, rl, hst⟩ := still_lst hr r0 (.inl rfl)
              refine ⟨p, xs, rfl, .inl ⟨hst _ _ _ Ext0.refl, q _ _ _ _ _ ex1 s1 ?_ f2⟩⟩
              exact ⟨fun H => SqL X.K H p xs, _, by rw [enum_len, ← rl.len]; exact walk_enum, hst, fun i v d α2 μ2 H2 H3 ex st hd y => enum_gives rl ex st hd y⟩
            · obtain ⟨p, xs, rfl, rl, hst⟩ := still_tup hr r0
              refine ⟨p, xs, rfl, .inr ⟨hst _ _ _ Ext0.refl, q _ _ _ _ _ ex1 s1 ?_ f2⟩⟩
              exact ⟨fun H => SqT X.K H p xs, _, by rw [enum_len, ← rl.len]; exact walk_enumT, hst, fun i v d α2 μ2 H2 H3 ex st hd y => enum_gives rl ex st hd y⟩)
        intro pins s I
        exact (pi_enumB v1 hm pa_wa (by rw [starE h3]; rfl)).run pins s σ H RR I w
      | _ => cases h4
    · cases ha
  all_goals first
    | (cases ha; done)
    | (rename_i hh; cases hh)
theorem zip_gives {α : Al} {μ : Mu} {H : Hp} {xs ys : List V} {l r : List D} (rl : RepL G α μ H xs l) (rr : RepL G α μ H ys r) {i : Nat} {v : V} {d : D} {α2 : Al} {μ2 : Mu} {H2 H3 : Hp} (ex : Ext0 α μ H α2 μ2 H2) (st : StOk G α2 μ2 H2) (hd : (zipD l r)[i]? = some d)
    (y : YPair (fun i => xs[i]?) (fun i => ys[i]?) i H2 v H3) : Ext α2 μ2 H2 α2 μ2 H3 ∧ StOk G α2 μ2 H3 ∧ Rep G α2 μ2 H3 v d := by
  obtain ⟨T, x, y, rfl, hT, rfl, hx, hy⟩ := y
  obtain ⟨a, b, ha, hb, rfl⟩ := zip_get l r i d hd
  obtain ⟨v1, hv1, rv1⟩ := rl.get ha
  obtain ⟨v2, hv2, rv2⟩ := rr.get hb
  have hx' : xs[i]? = some x := hx
  have hy' : ys[i]? = some y := hy
  rw [hv1] at hx'
  rw [hv2] at hy'
  cases hx'
  cases hy'
  exact pair_rep st hT (rv1.ext0 ex) (rv2.ext0 ex)
theorem walk_zT {K : PySem.W.Frag} {a b : Addr} {xs ys : List V} {n : Nat} (hn : n = min xs.length ys.length) : Walk (RZ.ItzT K a b) n (fun H => SqT K H a xs ∧ SqT K H b ys) (YPair (fun i => xs[i]?) (fun i => ys[i]?)) := by
  subst hn
  constructor
  · intro i H hi q
    have h1 : i < xs.length := by omega
    have h2 : i < ys.length := by omega
    exact ⟨xs, ys, _, _, q.1, q.2, List.getElem?_eq_getElem h1, List.getElem?_eq_getElem h2⟩
  · intro H q
    exact ⟨xs, ys, q.1, q.2, by omega⟩
  · intro i H v H' _ q y
    obtain ⟨T, x, z, e1, e2, e3, g1, g2⟩ := y
    exact ⟨T, x, z, e1, e2, e3, g1 xs q.1, g2 ys q.2⟩
/-- a written dict's keys -/
theorem still_kd {X : Cx} {N : List Str} {sc : Scope} {Wx : WX} (hr : Here G n ⟨N, sc, M⟩ X Wx) {α : Al} {μ : Mu} {H : Hp} {v : V} {l : List (List Nat × D)} (r : Rep G α μ H v (.kd l)) :
    ∃ p es k, v = .ref p ∧ KdAt X.K p es k (l.map fun q => V.str (toStr q.1)) ∧ (∀ x ∈ l.map fun q => V.str (toStr q.1), ∃ z, x = .str z) ∧ ∀ α2 μ2 H2, RepL G α2 μ2 H2 (l.map fun q => V.str (toStr q.1)) (l.map fun q => D.str q.1) := by
  cases r with
  | kd h hk hv =>
    rename_i p
    obtain ⟨es, k, kd⟩ := h
    obtain ⟨⟨o, es', k', h1, h2, h3, h4, h5⟩, h6⟩ := hk
    have e := kd.at_
    rw [h1] at e
    cases e
    cases h2
    refine ⟨p, es, k, rfl, ⟨by rw [hr.c.K]; exact h1, kd.low, by rw [h5, List.map_map]; rfl⟩, fun x hx => ?_, fun α2 μ2 H2 => ?_⟩
    · obtain ⟨q, _, rfl⟩ := List.mem_map.mp hx
      exact ⟨_, rfl⟩
    · clear h1 h3 h4 h5 h6 hv kd
      induction l with
      | nil => exact .nil
      | cons q l ih => exact .cons (.str _) ih
theorem it_zip {zs : ZEs} (hs : SndEs G M n zs) : ItGoal G M n .zip zs := by
  intro N sc X Wx tg iter as α μ ρ σ H RR β γ rel K Q hr ha h st en f q
  unfold itArgs at ha
  split at ha
  case h_4 x p a b pos hk =>
    split at ha
    · rename_i hc
      cases ha
      simp only [Bool.and_eq_true] at hc
      obtain ⟨⟨⟨⟨h1, h2⟩, h3⟩, h3'⟩, h4⟩ := hc
      obtain rfl := of_decide_eq_true h1
      obtain ⟨v1, v2, v3⟩ := gl_of hr h2
      have hm : X.mg "zip" = none := by rw [hr.c.mg]; exact hr.t.blt _ (by decide)
      cases tg with
      | Tuple es kk tp =>
        have wa := fun QQ hQ => hs N sc X Wx [a, b] α μ ρ σ H QQ hr h (by simp [h3, h3']) st en (FinG.bind f hQ)
        cases e1 : evalEs (evOf G.T n) zs ρ μ with
        | err => rw [e1] at f; exact (show False from f).elim
        | exc c pl mm =>
          have w := wa (fun vs H1 => ∃ p p' xs ys, vs = [.ref p, .ref p'] ∧ ((SqL X.K H1 p xs ∧ SqL X.K H1 p' ys ∧ RR (Itz X.K p p') H1) ∨ (SqT X.K H1 p xs ∧ SqT X.K H1 p' ys ∧ RR (RZ.ItzT X.K p p') H1))) (fun ds μ1 α1 H1 vs e2 ex1 s1 r1 f1 => by rw [e1] at e2; cases e2)
          intro pins s I
          exact (RZ.pi_zipA v1 hm pa_wa (by rw [starE h3]) (by rw [starE h3']; rfl)).run pins s σ H RR I w
        | ok ds0 μ0 =>
          have hl := es_len e1 h
          match ds0, hl, e1 with
          | [d, d'], _, e1 =>
            have key : (∃ l r, d = .lst l ∧ d' = .lst r ∧ itemsOf .zip [d, d'] μ0 = some (zipD l r)) ∨ (∃ l r, d = .tup l ∧ d' = .tup r ∧ itemsOf .zip [d, d'] μ0 = some (zipD l r)) ∨ ∃ l r, d = .kd l ∧ d' = .tup r ∧ itemsOf .zip [d, d'] μ0 = some (zipD (l.map fun q => .str q.1) r) := by
              have fx : ∃ ds2, itemsOf .zip [d, d'] μ0 = some ds2 := by
                rw [e1] at f
                cases e3 : itemsOf .zip [d, d'] μ0 with
                | some ds => exact ⟨ds, rfl⟩
                | none =>
                  have f3 : FinG G rel (WW G Wx σ) α μ H (match itemsOf .zip [d, d'] μ0 with
                    | some ds => K ds μ0
                    | none => .err) Q := f
                  rw [e3] at f3
                  exact (show False from f3).elim
              obtain ⟨ds2, hd⟩ := fx
              cases d <;> first | (cases hd; done) | (cases d' <;> first | (cases hd; done) | exact .inl ⟨_, _, rfl, rfl, rfl⟩ | exact .inr (.inl ⟨_, _, rfl, rfl, rfl⟩) | exact .inr (.inr ⟨_, _, rfl, rfl, rfl⟩))
            have fin : ∀ {ds2 : List D} {ds1 : List D} {μ1 : Mu} {α1 H1}, itemsOf .zip [d, d'] μ0 = some ds2 → evalEs (evOf G.T n) zs ρ μ = .ok ds1 μ1 → FinG G rel (WW G Wx σ) α1 μ1 H1 (match itemsOf .zip ds1 μ1 with
                | some ds => K ds μ1
                | none => .err) Q → ds1 = [d, d'] ∧ μ1 = μ0 ∧ FinG G rel (WW G Wx σ) α1 μ0 H1 (K ds2 μ0) Q := fun {ds2 ds1 μ1 α1 H1} hd e2 f2 => by
              rw [e1] at e2
              cases e2
              rw [hd] at f2
              exact ⟨rfl, rfl, f2⟩
            rcases key with ⟨l, r, rfl, rfl, hd⟩ | ⟨l, r, rfl, rfl, hd⟩ | ⟨l, r, rfl, rfl, hd⟩
            · have w := wa (fun vs H1 => ∃ p p' xs ys, vs = [.ref p, .ref p'] ∧ ((SqL X.K H1 p xs ∧ SqL X.K H1 p' ys ∧ RR (Itz X.K p p') H1) ∨ (SqT X.K H1 p xs ∧ SqT X.K H1 p' ys ∧ RR (RZ.ItzT X.K p p') H1))) (fun ds μ1 α1 H1 vs e2 ex1 s1 r1 f1 => by
                obtain ⟨rfl, rfl, f2⟩ := fin hd e2 f1
                match vs, r1 with
                | [v, v'], .cons r0 (.cons r00 .nil) =>
                  obtain ⟨p, xs, rfl, rl, hst⟩ := still_lst hr r0 (.inl rfl)
                  obtain ⟨p', ys, rfl, rr, hst'⟩ := still_lst hr r00 (.inl rfl)
                  refine ⟨p, p', xs, ys, rfl, .inl ⟨hst _ _ _ Ext0.refl, hst' _ _ _ Ext0.refl, q _ _ _ _ _ ex1 s1 ?_ f2⟩⟩
                  exact ⟨fun H => SqL X.K H p xs ∧ SqL X.K H p' ys, _, walk_zip (by rw [zip_len, rl.len, rr.len]), fun _ _ _ ex => ⟨hst _ _ _ ex, hst' _ _ _ ex⟩, fun i v d α2 μ2 H2 H3 ex st hd y => zip_gives rl rr ex st hd y⟩)
              intro pins s I
              exact (RZ.pi_zipA v1 hm pa_wa (by rw [starE h3]) (by rw [starE h3']; rfl)).run pins s σ H RR I w
            · have w := wa (fun vs H1 => ∃ p p' xs ys, vs = [.ref p, .ref p'] ∧ ((SqL X.K H1 p xs ∧ SqL X.K H1 p' ys ∧ RR (Itz X.K p p') H1) ∨ (SqT X.K H1 p xs ∧ SqT X.K H1 p' ys ∧ RR (RZ.ItzT X.K p p') H1))) (fun ds μ1 α1 H1 vs e2 ex1 s1 r1 f1 => by
                obtain ⟨rfl, rfl, f2⟩ := fin hd e2 f1
                match vs, r1 with
                | [v, v'], .cons r0 (.cons r00 .nil) =>
                  obtain ⟨p, xs, rfl, rl, hst⟩ := still_tup hr r0
                  obtain ⟨p', ys, rfl, rr, hst'⟩ := still_tup hr r00
                  refine ⟨p, p', xs, ys, rfl, .inr ⟨hst _ _ _ Ext0.refl, hst' _ _ _ Ext0.refl, q _ _ _ _ _ ex1 s1 ?_ f2⟩⟩
                  exact ⟨fun H => SqT X.K H p xs ∧ SqT X.K H p' ys, _, walk_zT (by rw [zip_len, rl.len, rr.len]), fun _ _ _ ex => ⟨hst _ _ _ ex, hst' _ _ _ ex⟩, fun i v d α2 μ2 H2 H3 ex st hd y => zip_gives rl rr ex st hd y⟩)
              intro pins s I
              exact (RZ.pi_zipA v1 hm pa_wa (by rw [starE h3]) (by rw [starE h3']; rfl)).run pins s σ H RR I w
            · have w := wa (fun vs H1 => ∃ d l es k ks ys, vs = [.ref d, .ref l] ∧ KdAt X.K d es k ks ∧ (∀ x ∈ ks, ∃ z, x = .str z) ∧ SqT X.K H1 l ys ∧ RR (Itkz X.K ks l) H1) (fun ds μ1 α1 H1 vs e2 ex1 s1 r1 f1 => by
                obtain ⟨rfl, rfl, f2⟩ := fin hd e2 f1
                match vs, r1 with
                | [v, v'], .cons r0 (.cons r00 .nil) =>
                  obtain ⟨p, es', k, rfl, ka, hk, rl⟩ := still_kd hr r0
                  obtain ⟨p', ys, rfl, rr, hst'⟩ := still_tup hr r00
                  refine ⟨p, p', es', k, _, ys, rfl, ka, hk, hst' _ _ _ Ext0.refl, q _ _ _ _ _ ex1 s1 ?_ f2⟩
                  exact ⟨fun H => SqT X.K H p' ys, _, walk_kz (by rw [zip_len, ← (rl α1 μ1 H1).len, rr.len]), fun _ _ _ ex => hst' _ _ _ ex, fun i v d α2 μ2 H2 H3 ex st hd y => zip_gives (rl α1 μ1 H1) rr ex st hd y⟩)
              intro pins s I
              exact (pi_kz v1 hm pa_wa h3 h3').run pins s σ H RR I w
      | _ => cases h4
    · cases ha
  all_goals first
    | (cases ha; done)
    | (rename_i hh; cases hh)
/-- one expression's end, of a list's -/
theorem es_one {β γ : Type} {rel : Rel β γ} {W : XW} {α : Al} {μ : Mu} {H : Hp} {Q : γ → Hp → Prop} {V : Ev} {z : ZE} {ρ : Env} {k : List D → Mu → R β} (f : FinG G rel W α μ H ((evalEs V (.cons z .nil) ρ μ).bind k) Q) : FinG G rel W α μ H ((evalE V z ρ μ).bind fun d μ1 => k [d] μ1) Q := by
  have e0 : (evalEs V (.cons z .nil) ρ μ).bind k = ((evalE V z ρ μ).bind fun x μ1 => (R.ok [] μ1).bind fun xs μ2 => .ok (x :: xs) μ2).bind k := rfl
  rw [e0] at f
  cases e1 : evalE V z ρ μ <;> (rw [e1] at f; exact f)
theorem it_seq {zs : ZEs} (hs : SndP G M n zs) : ItGoal G M n .seq zs := by
  intro N sc X Wx tg iter as α μ ρ σ H RR β γ rel K Q hr ha h st en f q
  unfold itArgs at ha
  split at ha
  case h_1 iter _ _ _ =>
    split at ha
    · rename_i hc
      cases ha
      match zs, hs, h, f with
      | .nil, hs, h, f => cases h
      | .cons z (.cons z2 zs2), hs, h, f => exact absurd (band (show (agE M z N sc iter && agEs M (.cons z2 zs2) N sc []) = true from h)).2 (by intro q; cases q)
      | .cons z .nil, hs, h, f =>
        obtain ⟨h1, _⟩ := band (show (agE M z N sc iter && agEs M .nil N sc []) = true from h)
        have f' := es_one f
        have we := fun QQ hQ => hs N sc X Wx iter α μ ρ σ H QQ hr h1 st en (FinG.bind f' hQ)
        cases e1 : evalE (evOf G.T n) z ρ μ with
        | err => rw [e1] at f'; exact (show False from f').elim
        | exc c pl m =>
          have w := we (fun x H1 => ∃ a, x = .ref a ∧ (∃ xs, SqL X.K H1 a xs) ∧ RR (Itl X.K a) H1) (fun d μ1 α1 H1 v e2 ex1 s1 r1 f1 => by rw [e1] at e2; cases e2)
          intro pins s I
          exact (pi_list pe_we).run pins s σ H RR I w
        | ok d μ1 =>
          have hdd : ∃ ds2, itemsOf .seq [d] μ1 = some ds2 := by
            rw [e1] at f'
            cases e2 : itemsOf .seq [d] μ1 with
            | none =>
              have f2 : FinG G rel (WW G Wx σ) α μ H (match itemsOf .seq [d] μ1 with
                | some ds => K ds μ1
                | none => .err) Q := f'
              rw [e2] at f2
              exact (show False from f2).elim
            | some ds => exact ⟨ds, rfl⟩
          obtain ⟨ds2, hd⟩ := hdd
          have fin : ∀ {d' μ1' α1 H1}, evalE (evOf G.T n) z ρ μ = .ok d' μ1' → FinG G rel (WW G Wx σ) α1 μ1' H1 (match itemsOf .seq [d'] μ1' with
              | some ds => K ds μ1'
              | none => .err) Q → d' = d ∧ μ1' = μ1 ∧ FinG G rel (WW G Wx σ) α1 μ1 H1 (K ds2 μ1) Q := fun {d' μ1' α1 H1} e2 f2 => by
            rw [e1] at e2
            cases e2
            rw [hd] at f2
            exact ⟨rfl, rfl, f2⟩
          have lst : ∀ l, (d = .lst l ∨ d = .flst l) → ds2 = l → WI X tg iter σ H RR := fun l hl e2 => by
            subst e2
            have w := we (fun x H1 => ∃ a, x = .ref a ∧ (∃ xs, SqL X.K H1 a xs) ∧ RR (Itl X.K a) H1) (fun d' μ1' α1 H1 v e2 ex1 s1 r1 f1 => by
              obtain ⟨rfl, rfl, f2⟩ := fin e2 f1
              obtain ⟨p, xs, rfl, rl, hst⟩ := still_lst hr r1 hl
              exact ⟨p, rfl, ⟨xs, hst _ _ _ Ext0.refl⟩, q _ _ _ _ _ ex1 s1 (itok_at walk_list rl hst) f2⟩)
            intro pins s I
            exact (pi_list pe_we).run pins s σ H RR I w
          cases d with
          | lst l => exact lst l (.inl rfl) (Option.some.inj hd).symm
          | flst l => exact lst l (.inr rfl) (Option.some.inj hd).symm
          | tup l =>
            have w := we (fun x H1 => ∃ a, x = .ref a ∧ (∃ xs, SqT X.K H1 a xs) ∧ RR (Itt X.K a) H1) (fun d' μ1' α1 H1 v e2 ex1 s1 r1 f1 => by
              obtain ⟨rfl, rfl, f2⟩ := fin e2 f1
              obtain rfl : l = ds2 := Option.some.inj hd
              obtain ⟨p, xs, rfl, rl, hst⟩ := still_tup hr r1
              exact ⟨p, rfl, ⟨xs, hst _ _ _ Ext0.refl⟩, q _ _ _ _ _ ex1 s1 (itok_at walk_tup rl hst) f2⟩)
            intro pins s I
            exact (pi_tup pe_we).run pins s σ H RR I w
          | str l =>
            have w := we (fun v H1 => ∃ x, v = .str x ∧ RR (Its x) H1) (fun d' μ1' α1 H1 v e2 ex1 s1 r1 f1 => by
              obtain ⟨rfl, rfl, f2⟩ := fin e2 f1
              obtain rfl : (l.map fun c => D.str [c]) = ds2 := Option.some.inj hd
              cases r1
              refine ⟨toStr l, rfl, q _ _ _ _ _ ex1 s1 ⟨fun _ => True, (fun i H v H' => H' = H ∧ ∃ c, (toStr l).cps[i]? = some c ∧ v = .str ⟨#[c]⟩), ?_, fun _ _ _ _ => trivial, fun i v d α2 μ2 H2 H3 ex st hd y => ?_⟩ f2⟩
              · have w := walk_str (z := toStr l)
                have e : (toStr l).cps.size = (l.map fun c => D.str [c]).length := by
                  rw [List.length_map]
                  exact toStr_len l
                rw [e] at w
                exact w
              · obtain ⟨rfl, c, hc, rfl⟩ := y
                rw [List.getElem?_map] at hd
                have hc' : l[i]? = some c := by simpa [toStr] using hc
                rw [hc'] at hd
                cases hd
                exact ⟨Ext.refl, st, .str [c]⟩)
            intro pins s I
            exact (pi_str pe_we).run pins s σ H RR I w
          | dic l =>
            have w := we (fun x H1 => PKeys RR x H1 ∨ ∃ d kvs, x = .ref d ∧ H1 d = some (.dK kvs) ∧ ∀ od, PKeys RR x (upd H1 d (.frz od (.dK kvs)))) (fun d' μ1' α1 H1 v e2 ex1 s1 r1 f1 => by
              obtain ⟨rfl, rfl, f2⟩ := fin e2 f1
              obtain rfl : (l.map fun q => ofKey q.1) = ds2 := Option.some.inj hd
              exact dic_goal (P := PKeys RR) s1 r1 fun p od kvs H2 hv ex2 s2 nl hp rk => ⟨p, od, hv, .inl ⟨kvs, hp, q _ _ _ _ _ (ex1.trans ex2) s2 (dic_keys_ok nl hp rk) (f2.at_ ex2)⟩⟩)
            intro pins s I
            exact (pi_keys pe_lkd).run pins s σ H RR I w
          | kd l =>
            have w := we (fun x H1 => ∃ d es k ks, x = .ref d ∧ KdAt X.K d es k ks ∧ (∀ x ∈ ks, ∃ z, x = .str z) ∧ RR (Itkd ks) H1) (fun d' μ1' α1 H1 v e2 ex1 s1 r1 f1 => by
              obtain ⟨rfl, rfl, f2⟩ := fin e2 f1
              obtain rfl : (l.map fun q => D.str q.1) = ds2 := Option.some.inj hd
              obtain ⟨p, es, k, rfl, ka, hk, rl⟩ := still_kd hr r1
              exact ⟨p, es, k, _, rfl, ka, hk, q _ _ _ _ _ ex1 s1 (itok_at walk_kd (rl _ _ _) fun _ _ _ _ => trivial) f2⟩)
            intro pins s I
            exact (pi_kd pe_we).run pins s σ H RR I w
          | _ => cases hd
    · cases ha
  case h_7 h5 _ _ _ _ _ => exact absurd rfl h5
  all_goals (rename_i hh; cases hh)
theorem it_vals {zs : ZEs} (hs : SndP G M n zs) : ItGoal G M n .vals zs := by
  intro N sc X Wx tg iter as α μ ρ σ H RR β γ rel K Q hr ha h st en f q
  unfold itArgs at ha
  split at ha
  case h_6 x e m apos cpos hk =>
    split at ha
    · rename_i hc
      cases ha
      simp only [Bool.and_eq_true] at hc
      obtain ⟨⟨c1, c2⟩, c3⟩ := hc
      obtain rfl := of_decide_eq_true c1
      match zs, hs, h, f with
      | .nil, hs, h, f => cases h
      | .cons z (.cons z2 zs2), hs, h, f => exact absurd (band (show (agE M z N sc e && agEs M (.cons z2 zs2) N sc []) = true from h)).2 (by intro q; cases q)
      | .cons z .nil, hs, h, f =>
        obtain ⟨h1, _⟩ := band (show (agE M z N sc e && agEs M .nil N sc []) = true from h)
        have f' := es_one f
        have w := hs N sc X Wx e α μ ρ σ H (fun x H1 => PVals RR x H1 ∨ ∃ d kvs, x = .ref d ∧ H1 d = some (.dK kvs) ∧ ∀ od, PVals RR x (upd H1 d (.frz od (.dK kvs)))) hr h1 st en (FinG.bind f' fun d μ1 α1 H1 v e2 ex1 s1 r1 f1 => by
          obtain ⟨ds2, hd, f2⟩ := items_go f1
          cases d with
          | dic l =>
            obtain rfl : (l.map (·.2)) = ds2 := Option.some.inj hd
            exact dic_goal (P := PVals RR) s1 r1 fun p od kvs H2 hv ex2 s2 nl hp rk => ⟨p, od, kvs, hv, hp, q _ _ _ _ _ (ex1.trans ex2) s2 (dic_vals_ok nl hp rk) (f2.at_ ex2)⟩
          | _ => cases hd)
        intro pins s I
        exact (pi_values pe_lkd (baseP c2) c3).run pins s σ H RR I w
    · cases ha
  all_goals first
    | (cases ha; done)
    | (rename_i hh; cases hh)
theorem it_items {zs : ZEs} (hs : SndP G M n zs) : ItGoal G M n .items zs := by
  intro N sc X Wx tg iter as α μ ρ σ H RR β γ rel K Q hr ha h st en f q
  unfold itArgs at ha
  split at ha
  case h_5 x e m apos cpos hk =>
    split at ha
    · rename_i hc
      cases ha
      simp only [Bool.and_eq_true] at hc
      obtain ⟨⟨⟨c1, c2⟩, c3⟩, c4⟩ := hc
      obtain rfl := of_decide_eq_true c1
      cases tg with
      | Tuple es kk tp =>
        match zs, hs, h, f with
        | .nil, hs, h, f => cases h
        | .cons z (.cons z2 zs2), hs, h, f => exact absurd (band (show (agE M z N sc e && agEs M (.cons z2 zs2) N sc []) = true from h)).2 (by intro q; cases q)
        | .cons z .nil, hs, h, f =>
          obtain ⟨h1, _⟩ := band (show (agE M z N sc e && agEs M .nil N sc []) = true from h)
          have f' := es_one f
          have w := hs N sc X Wx e α μ ρ σ H (fun x H1 => PItems RR x H1 ∨ ∃ d kvs, x = .ref d ∧ H1 d = some (.dK kvs) ∧ ∀ od, PItems RR x (upd H1 d (.frz od (.dK kvs)))) hr h1 st en (FinG.bind f' fun d μ1 α1 H1 v e2 ex1 s1 r1 f1 => by
            obtain ⟨ds2, hd, f2⟩ := items_go f1
            cases d with
            | dic l =>
              obtain rfl : (l.map fun q => .tup [ofKey q.1, q.2]) = ds2 := Option.some.inj hd
              exact dic_goal (P := PItems RR) s1 r1 fun p od kvs H2 hv ex2 s2 nl hp rk => ⟨p, od, kvs, hv, hp, q _ _ _ _ _ (ex1.trans ex2) s2 (dic_items_ok nl hp rk) (f2.at_ ex2)⟩
            | _ => cases hd)
          intro pins s I
          exact (pi_items pe_lkd (baseP c2) c3).run pins s σ H RR I w
      | _ => cases c4
    · cases ha
  all_goals first
    | (cases ha; done)
    | (rename_i hh; cases hh)
end
end Z

end
section
set_option maxHeartbeats 4000000
set_option autoImplicit false
/-! Zw: dict(zip(d, t)) of a written dict and a tuple. -/
namespace Z
open PySem PySem.Spec PyProof.Rows L2
theorem pa_zip {prog : Program} {w : World} {z TI TO i1 i2 : Addr} {f1 f2 : List Addr} {S1 S2 : Nat → Heap → Prop} {xs ys : Array Value} (N1 : NxI prog w i1 f1 S1 xs) (N2 : NxI prog w i2 f2 S2 ys) (D : ZAp z TI TO i1 i2 f1 f2) :
    PairArg prog w "zip" z (z :: TI :: TO :: (f1 ++ f2)) [z, TO, i1, i2] (min xs.size ys.size) (fun i k v => xs[i]? = some k ∧ ys[i]? = some v) (fun h => IsZip h z TI TO .none ∧ IsPair h TI (.ref i1) (.ref i2) ∧ (∃ a b, IsPair h TO a b) ∧ S1 0 h ∧ S2 0 h) := by
  have zi1 := ne_fp D.b1 N1.mem
  have zi2 := ne_fp D.b2 N2.mem
  constructor
  · exact fun s ok => ⟨_, ok.1, rfl⟩
  · decide
  · rintro h h' ⟨hz, hI, ⟨a, b, hO⟩, s1, s2⟩ kp
    exact ⟨kp _ _ hz, kp _ _ hI, ⟨a, b, kp _ _ hO⟩, N1.keep _ _ _ s1 fun c o _ e => kp c o e, N2.keep _ _ _ s2 fun c o _ e => kp c o e⟩
  · rintro h ⟨hz, hI, ⟨a, b, hO⟩, s1, s2⟩ c hc
    rcases List.mem_cons.mp hc with rfl | hc
    · exact ⟨_, hz⟩
    rcases List.mem_cons.mp hc with rfl | hc
    · exact ⟨_, hI⟩
    rcases List.mem_cons.mp hc with rfl | hc
    · exact ⟨_, hO⟩
    rcases List.mem_append.mp hc with hc | hc
    · exact N1.there _ _ s1 c hc
    · exact N2.there _ _ s2 c hc
  · intro b hb
    simp only [List.mem_cons, List.not_mem_nil, or_false] at hb
    rcases hb with rfl | rfl | rfl | rfl
    · simp
    · simp
    · simp [N1.mem]
    · simp [N2.mem]
  · exact fun A s Q E hA ok h => getAttrOr_miss_zip ok.1 rfl rfl rfl zip_no_keys (by decide +kernel) hA h
  · rintro A s d Q E hA ⟨hz, hI, ⟨a, b, hO⟩, s1, s2⟩ hd hdf h
    have nz : z ≠ d := fun e => hdf (by rw [← e]; simp)
    have nI : TI ≠ d := fun e => hdf (by rw [← e]; simp)
    have nO : TO ≠ d := fun e => hdf (by rw [← e]; simp)
    have nf1 : ∀ c ∈ f1, c ≠ d := fun c hc e => hdf (by rw [← e]; simp [hc])
    have nf2 : ∀ c ∈ f2, c ≠ d := fun c hc e => hdf (by rw [← e]; simp [hc])
    refine wpAny_pyIter_zip hz (h z [z, TO, i1, i2] (fun i h => IsPair h TI (.ref i1) (.ref i2) ∧ S1 i h ∧ S2 i h ∧ ((IsZip h z TI TO .none ∧ ∃ a b, IsPair h TO a b) ∨ ∃ T f oT, IsZipHeld h z TI TO T f ∧ h.get? T = some oT ∧ T ≠ z ∧ T ≠ i1 ∧ T ≠ i2 ∧ T ≠ d)) s.heap s.toks ?_
      ⟨hI, s1, s2, .inl ⟨hz, a, b, hO⟩⟩ (fun _ _ e => e) fun b hb => .inl hb)
    constructor
    · intro hm
      simp only [List.mem_cons, List.not_mem_nil, or_false] at hm
      rcases hm with e | e | e | e
      · exact nz e.symm
      · exact nO e.symm
      · exact nf1 _ N1.mem e.symm
      · exact nf2 _ N2.mem e.symm
    · rintro i g g' ⟨hI, s1, s2, hz⟩ kp
      refine ⟨kp _ _ nI hI, N1.keep _ _ _ s1 fun c o hc e => kp c o (nf1 c hc) e, N2.keep _ _ _ s2 fun c o hc e => kp c o (nf2 c hc) e, ?_⟩
      rcases hz with ⟨hz, a, b, hO⟩ | ⟨T, f, oT, hz, hT, r1, r2, r3, r4⟩
      · exact .inl ⟨kp _ _ nz hz, a, b, kp _ _ nO hO⟩
      · exact .inr ⟨T, f, oT, kp _ _ nz hz, kp _ _ r4 hT, r1, r2, r3, r4⟩
    · rintro i sh Q' E' hi ⟨hI, s1, s2, hz⟩ hds q
      have ex := Array.getElem?_eq_getElem (show i < xs.size by omega)
      have ey := Array.getElem?_eq_getElem (show i < ys.size by omega)
      have lt : ∀ {c o}, sh.heap.get? c = some o → sh.heap.objs.size ≠ c := fun e => Nat.ne_of_gt (Heap.lt_size e)
      obtain ⟨o1, e1⟩ := N1.there _ _ s1 i1 N1.mem
      obtain ⟨o2, e2⟩ := N2.there _ _ s2 i2 N2.mem
      rcases hz with ⟨hz, a, b, hO⟩ | ⟨T, f, oT, hz, hT, r1, r2, r3, r4⟩
      · refine zn_item N1 N2 D hz hI hO s1 s2 ex ey fun h' a1 a2 a3 a4 a5 a6 kp => ?_
        refine q sh.heap.objs.size _ _ h' sh.toks ⟨ex, ey⟩ (.inl ⟨_, a5, rfl, _, rfl⟩) ⟨kp _ _ D.a1 D.a3 D.d1 D.d2 hI, a3, a4, .inr ⟨sh.heap.objs.size, false, _, a1, a5, lt hz, lt e1, lt e2, Nat.ne_of_gt hds⟩⟩ fun c o hc e => ?_
        simp only [List.mem_cons, List.not_mem_nil, or_false, not_or] at hc
        exact kp c o hc.1 hc.2.1 hc.2.2.1 hc.2.2.2 e
      · refine zh_item N1 N2 D hz hT hI s1 s2 ex ey fun h' a1 a3 a4 a5 a6 kp => ?_
        refine q sh.heap.objs.size _ _ h' sh.toks ⟨ex, ey⟩ (.inl ⟨_, a5, rfl, _, rfl⟩) ⟨kp _ _ D.a1 D.d1 D.d2 hI, a3, a4, .inr ⟨T, true, oT, a1, kp _ _ r1 r2 r3 hT, r1, r2, r3, r4⟩⟩ fun c o hc e => ?_
        simp only [List.mem_cons, List.not_mem_nil, or_false, not_or] at hc
        exact kp c o hc.1 hc.2.2.1 hc.2.2.2 e
    · rintro sh Q' E' ⟨hI, s1, s2, hz⟩ q
      have he : xs[min xs.size ys.size]? = none ∨ ys[min xs.size ys.size]? = none := by
        rcases Nat.le_total xs.size ys.size with h | h
        · exact .inl (Array.getElem?_eq_none (by omega))
        · exact .inr (Array.getElem?_eq_none (by omega))
      rcases hz with ⟨hz, a, b, hO⟩ | ⟨T, f, oT, hz, hT, r1, r2, r3, r4⟩
      · refine zn_end N1 N2 hA D hz hI hO s1 s2 he fun h' kp => q h' sh.toks fun c o hc e => ?_
        simp only [List.mem_cons, List.not_mem_nil, or_false, not_or] at hc
        exact kp c o hc.1 hc.2.1 hc.2.2.1 hc.2.2.2 e
      · refine zh_end N1 N2 hA D hz hT hI s1 s2 he fun h' kp => q h' sh.toks fun c o hc e => ?_
        simp only [List.mem_cons, List.not_mem_nil, or_false, not_or] at hc
        exact kp c o hc.1 hc.2.2.1 hc.2.2.2 e
theorem RepK.merge {G : Tx} {α : Al} {μ : Mu} {H : Hp} : ∀ {l : List (DK × D)} {kvs : List (Key × V)} {acc : List (Key × V)} {a : List (DK × D)}, RepK G α μ H kvs l → RepK G α μ H acc a → RepK G α μ H (mergeK acc kvs) (l.foldl (fun a q => dput a q.1 q.2) a)
  | [], _, acc, a, .nil, ra => ra
  | (k, d) :: l, _, acc, a, .cons r t, ra => by
    have h := RepK.merge t (RepK.put (k := k) r ra)
    exact h
theorem kv_zip {ks : List Key} : ∀ {ys : List V} {its : List Value}, Vals ys its → KV (ks.zip ys) (ks.zip its) := by
  induction ks with
  | nil => intro ys its _; exact .nil
  | cons k ks ih =>
    intro ys its r
    cases r with
    | nil => exact .nil
    | cons r t => exact .cons ⟨rfl, r⟩ (ih t)
/-- dict(zip(d, t)) -/
theorem call_dz {X : Cx} {pins : List (Addr × Obj)} {σ : L2.St} {H : Hp} {s : Shared} {Q : VK} {d l : Addr} {es : Array DictEntry} {n : Nat} {zs : List (List Nat)} {ys : List V} (hc : X.calm = true) (I : Inv X pins σ H s) (k : KdAt X.K d es n (zs.map fun z => V.str (toStr z))) (hq : SqT X.K H l ys)
    (q : ∀ p, H p = none → Q (.ref p) (upd H p (.dK (mergeK [] ((zs.map fun z => keyK (.s z)).zip ys))))) :
    wpAny (model X.prog X.w) X.A (call (.type "zip") [.ref d, .ref l]) (fun zv s2 => wpAny (model X.prog X.w) X.A (call (.type "dict") [zv]) (EP X pins σ Q) X.xe s2) X.xe s := by
  obtain ⟨its, rv, pt, hz⟩ := I.tuple hq
  have kd := I.kIn d _ k.at_
  have ld : d < s.heap.objs.size := Heap.lt_size kd
  have ll : l < s.heap.objs.size := by obtain ⟨o, ho, _⟩ := pt; exact Heap.lt_size ho
  have hk : ∀ x ∈ zs.map fun z => V.str (toStr z), ∃ z, x = .str z := fun x hx => by
    obtain ⟨z, _, rfl⟩ := List.mem_map.mp hx
    exact ⟨_, rfl⟩
  refine call_kz k.low ⟨rfl, rfl, rfl⟩ rfl kd (show s.heap.IsTuple l its.toArray from pt) fun h' hz' hI hO g1 g2 sz kp => ?_
  have J : Inv X pins σ H { s with heap := h' } := I.kept (t' := s.toks) kp
  have N1 := nx_key (prog := X.prog) (w := X.w) (it := s.heap.objs.size) (ep := n) (od := ⟨.type "dict", none, .dict es n, #[]⟩) (es := es) rfl (Nat.ne_of_lt ld)
  have N2 := nx_tup (prog := X.prog) (w := X.w) (it := s.heap.objs.size + 1) (l := l) (items := its.toArray) (Nat.ne_of_lt (Nat.lt_succ_of_lt ll))
  have D := zap_of ld ll
  have ok := pa_zip N1 N2 D
  have ksz := k.size
  rw [List.length_map] at ksz
  have rlen := rv.length
  refine PySem.call_dict_pairs (knd := mixKind X.prog X.w) (kvs := (zs.map fun z => keyK (.s z)).zip its) ok (I.ok.hd hc) ⟨hz', hI, ⟨_, _, hO⟩, ⟨g1, kp _ _ kd⟩, ⟨g2, ?_⟩⟩ ⟨?_, ?_⟩ ?_ fun h2 tk hd kp2 => ?_
  · obtain ⟨o, e, c, m, hdat⟩ := pt
    exact ⟨o, kp _ _ e, c, m, hdat⟩
  · rw [List.length_zip, List.length_map]
    simp [ksz]
  · intro i key v ⟨h1, h2⟩
    rw [Array.getElem?_map] at h1
    cases e : es[i]? with
    | none => rw [e] at h1; cases h1
    | some en =>
      rw [e] at h1
      have h1' : en.key = key := Option.some.inj h1
      have hi : i < zs.length := by
        have := (Array.getElem?_eq_some_iff.mp e).1
        omega
      have hx : (zs.map fun z => V.str (toStr z))[i]? = some (.str (toStr zs[i])) := by rw [List.getElem?_map, List.getElem?_eq_getElem hi]; rfl
      obtain ⟨u, hu, ru⟩ := keys_at k hk hx
      rw [Array.getElem?_map, e] at hu
      have hu' : en.key = u := Option.some.inj hu
      have hv : its[i]? = some v := by simpa using h2
      refine ⟨keyK (.s zs[i]), ?_, ?_⟩
      · rw [List.getElem?_zip_eq_some]
        exact ⟨by rw [List.getElem?_map, List.getElem?_eq_getElem hi]; rfl, hv⟩
      · obtain ⟨t, e2⟩ := ru
        rw [← h1', hu', e2]
        exact keyIs_str (toStr zs[i]) t
  · have : its.toArray.size = its.length := by simp
    omega
  · have kv : KV ((zs.map fun z => keyK (.s z)).zip ys) ((zs.map fun z => keyK (.s z)).zip its) := kv_zip rv
    have big : (h'.objs.size == sysModules) = false := beq_eq_false_iff_ne.mpr (Nat.ne_of_gt (by have := I.big; rw [sz]; exact Nat.lt_of_lt_of_le this (Nat.le_add_right _ _)))
    have hlen : (mergeK [] ((zs.map fun z => keyK (.s z)).zip ys)).length ≤ sizeLine := by
      refine Nat.le_trans (length_mergeK _ []) ?_
      rw [List.length_nil, Nat.zero_add, List.length_zip, List.length_map]
      omega
    have fp : ∀ b ∈ [s.heap.objs.size + 4, s.heap.objs.size + 3, s.heap.objs.size, s.heap.objs.size + 1], FpOk X pins H b := fun b hb => by
      have hle : s.heap.objs.size ≤ b := by
        simp only [List.mem_cons, List.mem_nil_iff, or_false] at hb
        rcases hb with rfl | rfl | rfl | rfl <;> first | exact Nat.le_refl _ | exact Nat.le_add_right _ _
      exact I.fpOk hle (I.hok.fresh hle)
    have ok2 : ObjOk X.prog X.w (upd H h'.objs.size (.dK (mergeK [] ((zs.map fun z => keyK (.s z)).zip ys)))) h2 h'.objs.size (.dK (mergeK [] ((zs.map fun z => keyK (.s z)).zip ys))) := ⟨hlen, big, merged [] ((zs.map fun z => keyK (.s z)).zip its), KV.merge kv .nil, hd⟩
    have J2 := J.turnedNew (t' := tk) (fun b o hb e => kp2 b o hb e) fp (Nat.le_refl _) ok2
    exact ⟨.ref h'.objs.size, _, J2, rfl, q _ (J.hok.fresh (Nat.le_refl _))⟩
theorem RepK.zips {G : Tx} {α : Al} {μ : Mu} {H : Hp} {ks : List DK} : ∀ {ys : List V} {r : List D}, RepL G α μ H ys r → RepK G α μ H ((ks.map keyK).zip ys) (ks.zip r) := by
  induction ks with
  | nil => intro ys r _; exact .nil
  | cons k ks ih =>
    intro ys r rl
    cases rl with
    | nil => exact .nil
    | cons h t => exact .cons h (ih t)
theorem snd_dzip {G : Tx} {M : Nm} {n : Nat} {a b : ZE} (ha : SndE G M n a) (hb : SndE G M n b) : SndE G M n (.dzip a b) := by
  intro N sc X Wx e α μ ρ σ H Q hr h st en f
  cases e with
  | Call fn as kws pos =>
    match fn, as, kws, h with
    | .Name x p, [.Call (.Name y p') [e, e2] [] pos'], [], h =>
      have h' : (decide (x = "dict") && decide (y = "zip") && glB sc x && glB sc y && nS e && nS e2 && agE M a N sc e && agE M b N sc e2) = true := h
      simp only [Bool.and_eq_true] at h'
      obtain ⟨⟨⟨⟨⟨⟨⟨h1, h2⟩, h3⟩, h4⟩, h5⟩, h6⟩, h7⟩, h8⟩ := h'
      obtain rfl := of_decide_eq_true h1
      obtain rfl := of_decide_eq_true h2
      obtain ⟨v1, v2, v3⟩ := gl_of hr h3
      obtain ⟨w1, w2, w3⟩ := gl_of hr h4
      have hm : X.mg "dict" = none := by rw [hr.c.mg]; exact hr.t.blt _ (by decide)
      have hm2 : X.mg "zip" = none := by rw [hr.c.mg]; exact hr.t.blt _ (by decide)
      have wa : WA X [e, e2] σ H (fun vs H1 => ∃ (d l : Addr) (es : Array DictEntry) (k : Nat) (zs : List (List Nat)) (ys : List V), vs = [.ref d, .ref l] ∧ KdAt X.K d es k (zs.map fun z => V.str (toStr z)) ∧ SqT X.K H1 l ys ∧ ∀ p, H1 p = none → Q (.ref p) (upd H1 p (.dK (mergeK [] ((zs.map fun z => keyK (.s z)).zip ys))))) := by
        refine wa_two h5 h6 (ha N sc X Wx e α μ ρ σ H _ hr h7 st en (FinG.bind f fun d μ1 α1 H1 v e1 ex1 s1 r1 f1 => ?_))
        refine hb N sc X Wx e2 α1 μ1 ρ σ H1 _ hr h8 s1 (en.ext ex1) (FinG.bind f1 fun d2 μ2 α2 H2 v2 e2 ex2 s2 r2 f2 => ?_)
        split at f2
        · rename_i l r
          obtain ⟨pd, es, k, rfl, ka, _, _⟩ := still_kd hr (r1.ext ex2)
          obtain ⟨pt, ys, rfl, rl, hst⟩ := still_tup hr r2
          refine ⟨pd, pt, es, k, l.map (·.1), ys, rfl, by rw [List.map_map]; exact ka, hst _ _ _ Ext0.refl, ?_⟩
          have rk : RepK G α2 μ2 H2 (mergeK [] (((l.map (·.1)).map fun z => keyK (.s z)).zip ys)) (dzips l r) := by
            have q := RepK.merge (RepK.zips (ks := l.map fun q => DK.s q.1) rl) (RepK.nil)
            rw [List.map_map] at q ⊢
            exact q
          exact new_dic (m := false) s2 rk f2
        · exact (show False from f2).elim
      intro pins s I
      refine wpAny_Call_Name_kw (ld_blt I v1 hm (u := .type "dict") (by kernel_rfl) ?_ v3 v2)
      refine PyProof.Rows.callWith_type1 ?_ (starE rfl) rfl
      rw [starE rfl]
      show wpAny _ _ (spliced ((false, eval (.Call (.Name "zip" p') [e, e2] [] pos') X.env) :: backTo pos (starEach [] X.env))) _ _ s
      refine Calls.spliced_cons ?_
      refine wpAny_Call_Name_kw (ld_blt I w1 hm2 PyProof.Rows.boot_zip ?_ w3 w2)
      refine PyProof.Rows.callWith_type1 (thn (wa pos' pins s I) fun us s1 ⟨vs, H1, I1, r1, d, l, es, k, zs, ys, ev, ka, hq, q⟩ => ?_) (starE h5) (starAny (es := [e2]) (by simp [h6]))
      subst ev
      obtain ⟨u1, u2, rfl, ru, ru2⟩ := vals2 r1
      cases ru
      cases ru2
      refine thn (call_dz hr.c.calm I1 ka hq q) fun zv s2 h2 => ?_
      exact Calls.spliced_nil h2
  | _ => cases h
end Z

end
section
set_option maxHeartbeats 4000000
set_option autoImplicit false
/-! Z17: comprehensions. -/
namespace Z
open PySem PySem.Spec PyProof.Rows L2
section
variable {G : Tx} {M : Nm} {n : Nat}
/-- a readings of a ZAST that knows no context -/
def tEz (G : Tx) (n : Nat) (z : ZE) : TE := fun σ H Q => ∃ α μ ρ, StOk G α μ H ∧ EnvOk G α μ H ρ σ ∧ Fin1 G (Wof G fun _ _ _ => False) α μ H (evalE (evOf G.T n) z ρ μ) Q
def tTz (G : Tx) (n : Nat) (z : ZE) : TT := fun σ H Q => ∃ α μ ρ, StOk G α μ H ∧ EnvOk G α μ H ρ σ ∧ Fin1 G (Wof G fun _ _ _ => False) α μ H (evalE (evOf G.T n) z ρ μ) (tstQ Q)
def gTz (G : Tx) (own : List Nat) (t : ZT) : TG := fun v σ H Q => ∃ α μ ρ d ρ', StOk G α μ H ∧ EnvOk G α μ H ρ σ ∧ Rep G α μ H v d ∧ bindT t d ρ = some ρ' ∧
  ∀ σ', EnvOk G α μ H ρ' σ' → (∀ vs : List Nat, (∀ i ∈ own, i ∈ vs) → L2.wipe σ' vs = L2.wipe σ vs) → Q σ' H
/-- the wish of a block -/
abbrev WxF : WX := fun _ _ _ _ => False
theorem lookup_mapk {names : List (Str × NameKind)} {f : Str × NameKind → Str × NameKind} (hf : ∀ q, (f q).1 = q.1) {x : Str} {k : NameKind} : names.lookup x = some k → (names.map f).lookup x = some (f (x, k)).2 := by
  induction names with
  | nil => intro h; cases h
  | cons q r ih =>
    intro h
    obtain ⟨y, k0⟩ := q
    rw [List.map_cons]
    have e : f (y, k0) = (y, (f (y, k0)).2) := Prod.ext (hf _) rfl
    rw [e, List.lookup_cons]
    rw [List.lookup_cons] at h
    cases hx : x == y with
    | true =>
      rw [hx] at h
      have hxy : x = y := by simpa using hx
      subst hxy
      cases h
      rfl
    | false =>
      rw [hx] at h
      exact ih h
theorem here_blk {N : List Str} {sc scope : Scope} {X : Cx} {Wx : WX} (hr : Here G n ⟨N, sc, M⟩ X Wx) {s : Shared} {H : Hp} {C : Addr} {cl : List (Str × Addr)} {fp : List Addr} : Here G n ⟨N, scope, M⟩ (X.blk s H scope (compEnvC scope cl C X.env) fp) WxF := by
  refine ⟨⟨hr.c.prog, hr.c.w, hr.c.K, hr.c.mg, hr.c.base, hr.c.N, hr.c.nd, fun x k h => ?_, fun x h => ?_, hr.c.calm, hr.c.room⟩, hr.t, ⟨fun u s' h => ?_, PassesOwn.never⟩⟩
  · have e := lookup_mapk (f := fun q : Str × NameKind => if (q.2 == .free && X.env.scope.kind == .function && X.env.scope.names.lookup q.1 == some .cell) then (q.1, .cell) else (q.1, q.2)) (fun q => by show (if _ then _ else _ : Str × NameKind).1 = q.1; split <;> rfl) h
    have e' : (compEnvC scope cl C X.env).scope.names.lookup x = some (if (k == .free && X.env.scope.kind == .function && X.env.scope.names.lookup x == some .cell) then ((x, .cell) : Str × NameKind) else (x, k)).2 := e
    split at e'
    · rename_i hc
      simp only [Bool.and_eq_true, beq_iff_eq] at hc
      exact .inr ⟨hc.1.1, e'⟩
    · exact .inl e'
  · show (scope.names.lookup x == some .cell) = true
    rw [h]
    rfl
  · obtain ⟨a, B, sI, pins, σ, H, cls, d, e, I, nb, up, sky, na, os, ag, w⟩ := h
    exact w
theorem pe_z {z : ZE} (hz : SndE G M n z) {N : List Str} {sc : Scope} {X : Cx} {e : Expr} (hr : Here G n ⟨N, sc, M⟩ X WxF) (h : agE M z N sc e = true) : PE X e (tEz G n z) :=
  ⟨fun pins s σ H Q I ⟨α, μ, ρ, st, en, f⟩ => hz N sc X WxF e α μ ρ σ H Q hr h st en f pins s I⟩
theorem pt_z {z : ZE} (hz : SndT G M n z) {N : List Str} {sc : Scope} {X : Cx} {e : Expr} (hr : Here G n ⟨N, sc, M⟩ X WxF) (h : agE M z N sc e = true) : PT X e (tTz G n z) :=
  ⟨fun pins s σ H Q I ⟨α, μ, ρ, st, en, f⟩ => hz N sc X WxF e α μ ρ σ H Q hr h st en f pins s I⟩
theorem pg_z {t : ZT} {own : List Nat} {N : List Str} {sc : Scope} {X : Cx} {Wx : WX} {tg : Expr} (hr : Here G n ⟨N, sc, M⟩ X Wx) (h : agTg ⟨N, sc, M⟩ own t tg = true) : PG X tg (gTz G own t) :=
  ⟨fun pins s σ H v u Q I ru ⟨α, μ, ρ, d, ρ', st, en, r, b, q⟩ => sndTg hr st t h en r b q pins s u I ru⟩
/-- the tests of a clause -/
def SndPT (G : Tx) (M : Nm) (n : Nat) : ZEs → Prop
  | .cons z .nil => SndT G M n z
  | _ => True
def tIfs (G : Tx) (n : Nat) : ZEs → TT
  | .cons z .nil => tTz G n z
  | _ => tYes
theorem pts_z {zs : ZEs} (hz : SndPT G M n zs) {N : List Str} {sc : Scope} {X : Cx} {ts : List Expr} (hr : Here G n ⟨N, sc, M⟩ X WxF) (h : agEs M zs N sc ts = true) (hl : ts.length ≤ 1) : PTs X ts (tIfs G n zs) := by
  cases ts with
  | nil =>
    obtain rfl := es_nil h
    exact pts_nil
  | cons t ts =>
    cases ts with
    | cons t2 ts => simp at hl
    | nil =>
      match zs, hz, h with
      | .cons z .nil, hz, h => exact pts_one (pt_z hz hr (band (show (agE M z N sc t && agEs M .nil N sc []) = true from h)).1)
      | .cons z (.cons z2 zs2), hz, h => exact absurd (band (show (agE M z N sc t && agEs M (.cons z2 zs2) N sc []) = true from h)).2 (by intro q; cases q)
      | .nil, hz, h => cases h
theorem own_map {N : List Str} : ∀ {own : List Nat}, (own.all fun i => decide (i < N.length)) = true → (own.filterMap fun i => N[i]?.map fun y => (y, i)).map (·.2) = own
  | [], _ => rfl
  | i :: own, h => by
    obtain ⟨h1, h2⟩ := band (show (decide (i < N.length) && (own.all fun i => decide (i < N.length))) = true from h)
    have hi := of_decide_eq_true h1
    rw [List.filterMap_cons, List.getElem?_eq_getElem hi]
    show i :: ((own.filterMap fun i => N[i]?.map fun y => (y, i)).map (·.2)) = i :: own
    rw [own_map h2]
theorem blk_of {N : List Str} {sc scope : Scope} {X : Cx} {Wx : WX} (hr : Here G n ⟨N, sc, M⟩ X Wx) {own : List (Str × Nat)} (h : blkC N sc scope own = true) : BlkOk X.N X.env.scope scope own := by
  have b := blkOk_by h
  rw [hr.c.N]
  refine ⟨b.kind, b.uniq, b.ix, fun y hy e => ?_, b.own⟩
  rcases b.free y hy e with q | q
  · rcases hr.c.sco y.1 _ q with z | ⟨z, _⟩
    · exact .inl z
    · cases z
  · rcases hr.c.sco y.1 _ q with z | ⟨_, z⟩
    · exact .inr z
    · exact .inl z
/-- the held list becomes a cell -/
theorem adopt {c r : List Addr} {μ : Mu} {H : Hp} {p : Addr} {xs : List V} {ds : List D} (st : StOk G ⟨c, p :: r⟩ μ H) (hr : p ∉ r) (hp : H p = some (.lst xs)) (rl : RepL G ⟨c, p :: r⟩ μ H xs ds) :
    Ext0 ⟨c, p :: r⟩ μ H ⟨c ++ [p], r⟩ (μ ++ [.lst ds]) H ∧ StOk G ⟨c ++ [p], r⟩ (μ ++ [.lst ds]) H := by
  have hl : c.length = μ.length := st.len
  have lv : ∀ q, LiveC ⟨c ++ [p], r⟩ (μ ++ [.lst ds]) q → LiveC ⟨c, p :: r⟩ μ q ∨ q = p := fun q ⟨m, o, h1, h2, h3⟩ => by
    have h1' : (c ++ [p])[m]? = some q := h1
    by_cases hm : m < c.length
    · rw [List.getElem?_append_left hm] at h1'
      rw [List.getElem?_append_left (by omega)] at h2
      exact .inl ⟨m, o, h1', h2, h3⟩
    · rw [List.getElem?_append_right (by omega)] at h1'
      cases e : m - c.length with
      | zero => rw [e] at h1'; exact .inr (by simpa using h1'.symm)
      | succ k => rw [e] at h1'; simp at h1'
  have ex : Ext0 ⟨c, p :: r⟩ μ H ⟨c ++ [p], r⟩ (μ ++ [.lst ds]) H := ⟨⟨[p], rfl⟩, fun _ _ e _ => .inl e, fun q h => by
    rcases h with h | h
    · rcases lv q h with h | h
      · exact .inl (.inl h)
      · exact .inl (.inr (by rw [h]; exact List.mem_cons_self))
    · exact .inl (.inr (List.mem_cons_of_mem _ h))⟩
  have dead : ¬ LiveC ⟨c, p :: r⟩ μ p := (st.rs p List.mem_cons_self).2
  refine ⟨ex, ⟨by simp [hl], fun m q o h1 h2 => ?_, fun m k q o o' h1 h2 l1 l2 h3 h4 => ?_, fun q hq => ⟨(st.rs q (List.mem_cons_of_mem _ hq)).1, fun h => ?_⟩⟩⟩
  · have h2' : (c ++ [p])[m]? = some q := h2
    by_cases hm : m < c.length
    · rw [List.getElem?_append_left hm] at h2'
      rw [List.getElem?_append_left (by omega)] at h1
      exact (st.cell m q o h1 h2').ext0 ex rfl
    · rw [List.getElem?_append_right (by omega)] at h2'
      rw [List.getElem?_append_right (by omega)] at h1
      cases e : m - c.length with
      | succ k => rw [e] at h2'; simp at h2'
      | zero =>
        rw [e] at h2'
        rw [← hl, e] at h1
        have e1 : p = q := by simpa using h2'
        have e2 : MO.lst ds = o := by simpa using h1
        subst e1
        subst e2
        exact ⟨xs, hp, rl.ext0 ex⟩
  · have one : ∀ (j : Nat) (o : MO), (μ ++ [MO.lst ds])[j]? = some o → (c ++ [p])[j]? = some q → o.live = true → (j < c.length ∧ μ[j]? = some o ∧ c[j]? = some q) ∨ (j = c.length ∧ q = p) := fun j o k1 k2 k3 => by
      by_cases hj : j < c.length
      · rw [List.getElem?_append_left hj] at k2
        rw [List.getElem?_append_left (by omega)] at k1
        exact .inl ⟨hj, k1, k2⟩
      · rw [List.getElem?_append_right (by omega)] at k2
        cases e : j - c.length with
        | zero => rw [e] at k2; exact .inr ⟨by omega, by simpa using k2.symm⟩
        | succ k => rw [e] at k2; simp at k2
    rcases one m o h1 h3 l1 with ⟨a1, a2, a3⟩ | ⟨a1, a2⟩
    · rcases one k o' h2 h4 l2 with ⟨b1, b2, b3⟩ | ⟨b1, b2⟩
      · exact st.inj m k q o o' a2 b2 l1 l2 a3 b3
      · exact (dead ⟨m, o, by rw [← b2]; exact a3, a2, l1⟩).elim
    · rcases one k o' h2 h4 l2 with ⟨b1, b2, b3⟩ | ⟨b1, b2⟩
      · exact (dead ⟨k, o', by rw [← a2]; exact b3, b2, l2⟩).elim
      · omega
  · rcases lv q h with h | h
    · exact (st.rs q (List.mem_cons_of_mem _ hq)).2 h
    · exact hr (by rw [← h]; exact hq)
/-- what one turn of the interpreter's comprehension does -/
def lcF (V : Ev) (own : List Nat) (t : ZT) (ifs : ZEs) (e : ZE) (ρ : Env) : D → Mu → R (Option D) := fun d μ2 => match bindT t d (wipeE ρ own) with
  | some ρ1 => (evalEs V ifs ρ1 μ2).bind fun bs μ3 => (match bs with
    | [] => (evalE V e ρ1 μ3).bind fun y μ4 => .ok (some y) μ4
    | [.bl true] => (evalE V e ρ1 μ3).bind fun y μ4 => .ok (some y) μ4
    | [.bl false] => .ok none μ3
    | _ => .err)
  | none => .err
/-- a state within the loop, the new list at D held; the state b lies ahead; r, Hk: what others hold -/
structure LcAt (G : Tx) (r : List Addr) (Hk : Hp) (αb : Al) (μb : Mu) (Hb : Hp) (D0 : Addr) (l : List D) (μ2 : Mu) (H : Hp) : Prop where
  ex : ∃ c acc, H D0 = some (.lst acc) ∧ StOk G ⟨c, D0 :: r⟩ μ2 H ∧ Ext0 αb μb Hb ⟨c, D0 :: r⟩ μ2 H ∧ (∀ p ∈ r, H p = Hk p) ∧ RepL G ⟨c, D0 :: r⟩ μ2 H acc l
theorem es_shape {V : Ev} {zs : ZEs} {ρ : Env} {μ μ' : Mu} {bs : List D} (h : evalEs V zs ρ μ = .ok bs μ') : (bs = [] → zs = .nil ∧ μ' = μ) ∧ ∀ b, bs = [b] → ∃ z, zs = .cons z .nil ∧ evalE V z ρ μ = .ok b μ' := by
  cases zs with
  | nil =>
    cases h
    exact ⟨fun _ => ⟨rfl, rfl⟩, (fun b e => nomatch e)⟩
  | cons z zs =>
    have h' : ((evalE V z ρ μ).bind fun x μ1 => (evalEs V zs ρ μ1).bind fun xs μ2 => .ok (x :: xs) μ2) = .ok bs μ' := h
    cases e1 : evalE V z ρ μ with
    | exc c pl m => rw [e1] at h'; cases h'
    | err => rw [e1] at h'; cases h'
    | ok x μ1 =>
      rw [e1] at h'
      have h2 : ((evalEs V zs ρ μ1).bind fun xs μ2 => .ok (x :: xs) μ2) = .ok bs μ' := h'
      cases e2 : evalEs V zs ρ μ1 with
      | exc c pl m => rw [e2] at h2; cases h2
      | err => rw [e2] at h2; cases h2
      | ok xs μ2 =>
        rw [e2] at h2
        have h3 : R.ok (x :: xs) μ2 = .ok bs μ' := h2
        cases h3
        refine ⟨(fun e => nomatch e), fun b e => ?_⟩
        cases e
        cases zs with
        | nil =>
          cases e2
          exact ⟨z, rfl, e1⟩
        | cons z2 zs =>
          have h4 : ((evalE V z2 ρ μ1).bind fun x μ1 => (evalEs V zs ρ μ1).bind fun xs μ2 => .ok (x :: xs) μ2) = .ok [] μ' := e2
          cases e3 : evalE V z2 ρ μ1 with
          | exc c pl m => rw [e3] at h4; cases h4
          | err => rw [e3] at h4; cases h4
          | ok x2 μ3 =>
            rw [e3] at h4
            have h5 : ((evalEs V zs ρ μ3).bind fun xs μ2 => .ok (x2 :: xs) μ2) = .ok [] μ' := h4
            cases e4 : evalEs V zs ρ μ3 <;> (rw [e4] at h5; cases h5)
/-- a test list and the element, once -/
theorem lc_turn {own : List Nat} {t : ZT} {ifs : ZEs} {e : ZE} {ρ : Env} {σ : L2.St} {r : List Addr} {Hk : Hp} {α1 : Al} {μ1 : Mu} {H1 : Hp} {D0 : Addr} (en : EnvOk G α1 μ1 H1 ρ σ) (hD : D0 ∉ r) {Y : Nat → Hp → V → Hp → Prop} {ds : List D}
    (gives : ∀ i v d α2 μ2 H2 H3, Ext0 α1 μ1 H1 α2 μ2 H2 → StOk G α2 μ2 H2 → ds[i]? = some d → Y i H2 v H3 → Ext α2 μ2 H2 α2 μ2 H3 ∧ StOk G α2 μ2 H3 ∧ Rep G α2 μ2 H3 v d)
    {i : Nat} {v : V} {d : D} {l : List D} {μ2 : Mu} {H H' : Hp} (hd : ds[i]? = some d) (y : Y i H v H') (at_ : LcAt G r Hk α1 μ1 H1 D0 l μ2 H) {rr : Option D} {μ3 : Mu} (run : lcF (evOf G.T n) own t ifs e ρ d μ2 = .ok rr μ3)
    {Next : Hp → Prop} (skip : rr = none → ∀ H3, LcAt G r Hk α1 μ1 H1 D0 l μ3 H3 → Next H3) (more : ∀ x, rr = some x → ∀ H4, LcAt G r Hk α1 μ1 H1 D0 (l ++ [x]) μ3 H4 → Next H4) (hlen : ∀ x, rr = some x → l.length < lim) :
    gTz G own t v (L2.wipe σ own) H' fun σ2 H2 => L2.wipe σ2 own = L2.wipe σ own ∧ tIfs G n ifs σ2 H2 fun b H3 => if b = true then tEz G n e σ2 H3 fun y H4 => ∃ acc, H4 D0 = some (.lst acc) ∧ acc.length < sizeLine ∧ Next (upd H4 D0 (.lst (acc ++ [y]))) else Next H3 := by
  obtain ⟨c, acc, hacc, st, ex, kr, rl⟩ := at_.ex
  obtain ⟨ex3, st3, r3⟩ := gives i v d _ _ _ _ ex st hd y
  unfold lcF at run
  cases eb : bindT t d (wipeE ρ own) with
  | none => rw [eb] at run; cases run
  | some ρ1 =>
    rw [eb] at run
    dsimp only at run
    have exA : Ext0 α1 μ1 H1 ⟨c, D0 :: r⟩ μ2 H' := ex.trans ex3.toExt0
    have hacc' : H' D0 = some (.lst acc) := by rw [ex3.kr D0 List.mem_cons_self]; exact hacc
    have rl' := rl.ext ex3
    have kr' : ∀ p ∈ r, H' p = Hk p := fun p hp => (ex3.kr p (List.mem_cons_of_mem _ hp)).trans (kr p hp)
    refine ⟨_, μ2, wipeE ρ own, d, ρ1, st3, (en.ext0 exA).wipe own, r3, eb, fun σ' en' w => ⟨(w own fun _ h => h).trans (wipe_wipe σ own), ?_⟩⟩
    have accK : ∀ {α4 μ4 H4}, Ext (⟨c, D0 :: r⟩ : Al) μ2 H' α4 μ4 H4 → H4 D0 = some (.lst acc) := fun {α4 μ4 H4} e4 => by
      rw [e4.kr D0 List.mem_cons_self]; exact hacc'
    have elt : ∀ {α4 : Al} {μ4 H4}, Ext (⟨c, D0 :: r⟩ : Al) μ2 H' α4 μ4 H4 → StOk G α4 μ4 H4 → ((evalE (evOf G.T n) e ρ1 μ4).bind fun y μ5 => .ok (some y) μ5) = .ok rr μ3 →
        tEz G n e σ' H4 fun y H5 => ∃ acc, H5 D0 = some (.lst acc) ∧ acc.length < sizeLine ∧ Next (upd H5 D0 (.lst (acc ++ [y]))) := fun {α4 μ4 H4} e4 s4 run4 => by
      cases ee : evalE (evOf G.T n) e ρ1 μ4 with
      | exc c pl m => rw [ee] at run4; cases run4
      | err => rw [ee] at run4; cases run4
      | ok x μ5 =>
        rw [ee] at run4
        have run5 : R.ok (some x) μ5 = .ok rr μ3 := run4
        cases run5
        refine ⟨α4, μ4, ρ1, s4, en'.ext e4, ?_⟩
        rw [ee]
        intro α6 H6 w ex6 st6 rw6
        have e6 := e4.trans ex6
        have h6 := accK e6
        refine ⟨acc, h6, ?_, ?_⟩
        · have := rl.len
          have := hlen x rfl
          have := lim_le (k := acc.length + 1) (by unfold lim at *; omega)
          omega
        · refine more x rfl _ ?_
          obtain ⟨c6, r6⟩ := α6
          obtain rfl : r6 = D0 :: r := e6.res
          have exh := ext0_held (α := ⟨c6, D0 :: r⟩) (μ := μ3) (H := H6) (o := .lst (acc ++ [w])) List.mem_cons_self
          refine ⟨c6, acc ++ [w], upd_same, st6.held List.mem_cons_self, (exA.trans e6.toExt0).trans exh, fun p hp => ?_, RepL.app (.cons (rw6.ext0 exh) .nil) ((rl'.ext e6).ext0 exh)⟩
          rw [upd_ne fun z => ?_]
          · exact (e6.kr p (List.mem_cons_of_mem _ hp)).trans (kr' p hp)
          · exact hD (by rw [← z]; exact hp)
    have back : ∀ {α4 : Al} {μ4 H4}, Ext (⟨c, D0 :: r⟩ : Al) μ2 H' α4 μ4 H4 → StOk G α4 μ4 H4 → LcAt G r Hk α1 μ1 H1 D0 l μ4 H4 := fun {α4 μ4 H4} e4 s4 => by
      obtain ⟨c4, r4⟩ := α4
      obtain rfl : r4 = D0 :: r := e4.res
      exact ⟨c4, acc, accK e4, s4, exA.trans e4.toExt0, fun p hp => (e4.kr p (List.mem_cons_of_mem _ hp)).trans (kr' p hp), rl'.ext e4⟩
    cases ei : evalEs (evOf G.T n) ifs ρ1 μ2 with
    | exc c pl m => rw [ei] at run; cases run
    | err => rw [ei] at run; cases run
    | ok bs μ4 =>
      rw [ei] at run
      obtain ⟨sh1, sh2⟩ := es_shape ei
      match bs, run, sh1, sh2 with
      | [], run, sh1, _ =>
        obtain ⟨rfl, rfl⟩ := sh1 rfl
        exact elt Ext.refl st3 run
      | [.bl true], run, _, sh2 =>
        obtain ⟨z, rfl, ez⟩ := sh2 _ rfl
        refine ⟨_, μ2, ρ1, st3, en', ?_⟩
        rw [ez]
        intro α4 H4 w ex4 st4 rw4
        cases rw4
        exact ⟨true, rfl, elt ex4 st4 run⟩
      | [.bl false], run, _, sh2 =>
        obtain ⟨z, rfl, ez⟩ := sh2 _ rfl
        have run5 : R.ok none μ4 = .ok rr μ3 := run
        cases run5
        refine ⟨_, μ2, ρ1, st3, en', ?_⟩
        rw [ez]
        intro α4 H4 w ex4 st4 rw4
        cases rw4
        exact ⟨false, rfl, skip rfl H4 (back ex4 st4)⟩
/-- the check of a list comprehension -/
def agLc (M : Nm) (own : List Nat) (t : ZT) (k : IK) (it ifs : ZEs) (e : ZE) (N : List Str) (sc scope : Scope) (x tg iter : Expr) (ts : List Expr) : Prop := nSet iter = true ∧ blkC N sc scope (own.filterMap fun i => N[i]?.map fun y => (y, i)) = true ∧ (own.all fun i => decide (i < N.length)) = true ∧ agTg ⟨N, scope, M⟩ own t tg = true ∧
  (∃ as, itArgs ⟨N, sc, M⟩ tg k iter = some as ∧ agEs M it N sc as = true) ∧ ts.length ≤ 1 ∧ agEs M ifs N scope ts = true ∧ agE M e N scope x = true
theorem agLc_of {m : Bool} {own : List Nat} {t : ZT} {k : IK} {it ifs : ZEs} {e : ZE} {N : List Str} {sc scope : Scope} {x tg iter : Expr} {ts : List Expr} {pos : Pos} (h : agE M (.lc m own t k it ifs e) N sc (.ListComp x [⟨tg, iter, ts, 0⟩] scope pos) = true) : agLc M own t k it ifs e N sc scope x tg iter ts := by
  have h' : (nSet iter && blkC N sc scope (own.filterMap fun i => N[i]?.map fun y => (y, i)) && decide ((own.all fun i => decide (i < N.length)) = true) && agTg ⟨N, scope, M⟩ own t tg &&
    (match itArgs ⟨N, sc, M⟩ tg k iter with
    | some as => agEs M it N sc as
    | none => false) && decide (ts.length ≤ 1) && agEs M ifs N scope ts && agE M e N scope x) = true := h
  simp only [Bool.and_eq_true] at h'
  obtain ⟨⟨⟨⟨⟨⟨⟨h1, h2⟩, h3⟩, h4⟩, h5⟩, h6⟩, h7⟩, h8⟩ := h'
  refine ⟨h1, h2, of_decide_eq_true h3, h4, ?_, of_decide_eq_true h6, h7, h8⟩
  cases ha : itArgs ⟨N, sc, M⟩ tg k iter with
  | none => rw [ha] at h5; cases h5
  | some as => rw [ha] at h5; exact ⟨as, rfl, h5⟩
theorem lc_read {m : Bool} {own : List Nat} {t : ZT} {k : IK} {it ifs : ZEs} {e : ZE} (hit : ItGoal G M n k it) {N : List Str} {sc : Scope} {X : Cx} {Wx : WX} {tg iter : Expr} {as : List Expr} {α : Al} {μ : Mu} {ρ : Env} {σ : L2.St} {H : Hp} {Q : VK} (hr : Here G n ⟨N, sc, M⟩ X Wx) (ha : itArgs ⟨N, sc, M⟩ tg k iter = some as) (h5 : agEs M it N sc as = true)
    (st : StOk G α μ H) (en : EnvOk G α μ H ρ σ) (f : Fin1 G (WW G Wx σ) α μ H (evalE (evOf G.T n) (.lc m own t k it ifs e) ρ μ) Q) : tLc (WI X tg iter) (gTz G own t) (tIfs G n ifs) (tEz G n e) own σ H Q := by
  refine hit N sc X Wx tg iter as α μ ρ σ H _ D V (RepR G) (fun ds μ1 => (lcLoop (lcF (evOf G.T n) own t ifs e ρ) ds [] μ1).pure1.bind fun l μ5 => mkL m l μ5) Q hr ha h5 st en f fun ds μ1 α1 H1 J ex1 st1 ito f1 => ?_
  intro D0 hD
  obtain ⟨Gd, Y, wk, stay, gives⟩ := ito
  cases er : lcLoop (lcF (evOf G.T n) own t ifs e ρ) ds [] μ1 with
  | exc c pl mm => rw [er] at f1; exact (show False from f1).elim
  | err => rw [er] at f1; exact (show False from f1).elim
  | ok lF μF =>
    rw [er] at f1
    have f1' : Fin1 G (WW G Wx σ) α1 μ1 H1 (mkL m lF μF) Q := f1
    refine lc_it wk (fun i H => ∃ l μ2, LcAt G α1.r H1 α1 μ1 H1 D0 l μ2 H ∧ lcLoop (lcF (evOf G.T n) own t ifs e ρ) (ds.drop i) l μ2 = .ok lF μF) ?_ ?_ ?_ ?_
    · refine ⟨[], μ1, ⟨α1.c, [], upd_same, st1.hold hD, ext0_hold (G := G) hD, fun p hp => upd_ne fun z => (st1.rs p hp).1 (by rw [z]; exact hD), .nil⟩, er⟩
    · intro i H hi ⟨l, μ2, at_, _⟩
      obtain ⟨c, acc, _, _, ex, _⟩ := at_.ex
      exact stay _ _ _ ex
    · intro i v H H' hi ⟨l, μ2, at_, rest⟩ y
      have hd : ds[i]? = some ds[i] := List.getElem?_eq_getElem hi
      rw [List.drop_eq_getElem_cons hi] at rest
      have rest' : ((lcF (evOf G.T n) own t ifs e ρ ds[i] μ2).bind fun r μ3 => match r with
        | some x => if l.length < lim then lcLoop (lcF (evOf G.T n) own t ifs e ρ) (ds.drop (i + 1)) (l ++ [x]) μ3 else .err
        | none => lcLoop (lcF (evOf G.T n) own t ifs e ρ) (ds.drop (i + 1)) l μ3) = .ok lF μF := rest
      cases erun : lcF (evOf G.T n) own t ifs e ρ ds[i] μ2 with
      | exc c pl mm => rw [erun] at rest'; cases rest'
      | err => rw [erun] at rest'; cases rest'
      | ok r μ3 =>
        rw [erun] at rest'
        refine lc_turn (en.ext ex1) (fun z => (st1.rs D0 z).1 hD) gives hd y at_ erun (fun er H3 a3 => ?_) (fun x er H4 a4 => ?_) (fun x er => ?_)
        · subst er
          exact ⟨l, μ3, a3, rest'⟩
        · subst er
          have r2 : (if l.length < lim then lcLoop (lcF (evOf G.T n) own t ifs e ρ) (ds.drop (i + 1)) (l ++ [x]) μ3 else .err) = .ok lF μF := rest'
          by_cases hl : l.length < lim
          · rw [if_pos hl] at r2
            exact ⟨_, μ3, a4, r2⟩
          · rw [if_neg hl] at r2; cases r2
        · subst er
          have r2 : (if l.length < lim then lcLoop (lcF (evOf G.T n) own t ifs e ρ) (ds.drop (i + 1)) (l ++ [x]) μ3 else .err) = .ok lF μF := rest'
          by_cases hl : l.length < lim
          · exact hl
          · rw [if_neg hl] at r2; cases r2
    · intro H ⟨l, μ2, at_, rest⟩
      rw [List.drop_length] at rest
      have rest' : R.ok l μ2 = .ok lF μF := rest
      cases rest'
      obtain ⟨c, acc, hacc, st2, ex2, kr, rl⟩ := at_.ex
      have hDr : D0 ∉ α1.r := fun z => (st1.rs D0 z).1 hD
      cases m with
      | false =>
        have exf : Ext0 ⟨c, D0 :: α1.r⟩ μF H ⟨c, α1.r⟩ μF H := ext0_free
        have dead : ¬ Live (⟨c, α1.r⟩ : Al) μF D0 := fun q => q.elim (fun q => (st2.rs D0 List.mem_cons_self).2 q) hDr
        exact f1' ⟨c, α1.r⟩ H (.ref D0) ⟨ex2.trans exf, rfl, kr⟩ st2.free (.lst hacc dead (rl.ext0 exf))
      | true =>
        obtain ⟨exa, sta⟩ := adopt st2 hDr hacc rl
        exact f1' ⟨c ++ [D0], α1.r⟩ H (.ref D0) ⟨ex2.trans exa, rfl, kr⟩ sta (.ref (by
          have hl : c.length = μF.length := st2.len
          show (c ++ [D0])[μF.length]? = some D0
          rw [← hl]; simp))
theorem snd_lc {m : Bool} {own : List Nat} {t : ZT} {k : IK} {it ifs : ZEs} {e : ZE} (hit : ItGoal G M n k it) (hifs : SndPT G M n ifs) (he : SndE G M n e) : SndE G M n (.lc m own t k it ifs e) := by
  intro N sc X Wx ex α μ ρ σ H Q hr h st en f
  cases ex with
  | ListComp x gens scope pos =>
    match gens, h with
    | [⟨tg, iter, ts, 0⟩], h =>
      obtain ⟨h1, h2, h3, h4, ⟨as, ha, h5⟩, h6, h7, h8⟩ := agLc_of h
      have eown := own_map h3
      have hb := fun (s : Shared) (H : Hp) (C : Addr) (cl : List (Str × Addr)) (fp : List Addr) => here_blk (scope := scope) hr (s := s) (H := H) (C := C) (cl := cl) (fp := fp)
      refine WE.of (pe_lc hr.c.calm (by rw [hr.c.N]; exact hr.c.nd) pi_wi (blk_of hr h2) (fun s H C cl fp => pg_z (hb s H C cl fp) h4) (fun s H C cl fp => pts_z hifs (hb s H C cl fp) h7 h6) (fun s H C cl fp => pe_z he (hb s H C cl fp) h8) (fun x => foldN h1)) ?_
      rw [eown]
      exact lc_read hit hr ha h5 st en f
  | _ => cases h
end
end Z

end
section
set_option maxHeartbeats 4000000
set_option autoImplicit false
/-! Zv: a list comprehension with two fors. -/
namespace Z
open PySem PySem.Spec PyProof.Rows L2
theorem walk_gen {J : It} {n : Nat} {Gd : Hp → Prop} {Y : Nat → Hp → V → Hp → Prop} (w : Walk J n Gd Y) {B : V → Hp → (Hp → Prop) → Prop} {H0 : Hp} {Qd : Hp → Prop} (Pv : Nat → Hp → Prop) (h0 : Pv 0 H0) (hG : ∀ i H, i ≤ n → Pv i H → Gd H) (hs : ∀ i x H H', i < n → Pv i H → Y i H x H' → B x H' (Pv (i + 1))) (hd : ∀ H, Pv n H → Qd H) :
    ∃ W : Nat → Nat → Hp → Prop, (∃ m, W 0 m H0) ∧ ∀ i m H, W i m H → (J.stop i H ∧ Qd H) ∨ (J.go i H ∧ ∃ Nx : Hp → Prop, (∀ H', Nx H' → ∃ m', m' < m ∧ W (i + 1) m' H') ∧ ∀ x H', J.yld i H x H' → B x H' Nx) := by
  refine ⟨fun i m H => m + i = n ∧ Pv i H, ⟨n, by simp, h0⟩, fun i m H ⟨hm, p⟩ => ?_⟩
  have g := hG i H (by omega) p
  by_cases hi : i < n
  · exact .inr ⟨w.goes i H hi g, Pv (i + 1), fun H' p' => ⟨n - (i + 1), by omega, by omega, p'⟩, fun x H' y => hs i x H H' hi p (w.yields i H x H' hi g y)⟩
  · obtain rfl : i = n := by omega
    exact .inl ⟨w.stops H g, hd H p⟩
section
variable {G : Tx} {M : Nm} {n : Nat}
def tIz (G : Tx) (n : Nat) (k : IK) (zs : ZEs) : TI := fun σ H RR => ∃ α μ ρ xs μ' ds, StOk G α μ H ∧ EnvOk G α μ H ρ σ ∧ evalEs (evOf G.T n) zs ρ μ = .ok xs μ' ∧ itemsOf k xs μ' = some ds ∧ ∀ α1 H1 J, Ext α μ H α1 μ' H1 → StOk G α1 μ' H1 → ItOk G α1 μ' H1 J ds → RR J H1
theorem pi_z {k : IK} {zs : ZEs} (hit : ItGoal G M n k zs) {N : List Str} {sc : Scope} {X : Cx} {tg iter : Expr} {as : List Expr} (hr : Here G n ⟨N, sc, M⟩ X WxF) (ha : itArgs ⟨N, sc, M⟩ tg k iter = some as) (h5 : agEs M zs N sc as = true) : PI X tg iter (tIz G n k zs) := by
  refine ⟨fun pins s σ H RR I ⟨α, μ, ρ, xs, μ', ds, st, en, e1, e2, q⟩ => ?_⟩
  refine hit N sc X WxF tg iter as α μ ρ σ H RR Unit Unit (fun _ _ _ _ _ => True) (fun ds1 μ1 => @ite (R Unit) (ds1 = ds ∧ μ1 = μ') (Classical.propDecidable _) (.ok () μ1) .err) (fun _ _ => True) hr ha h5 st en ?_ (fun ds1 μ1 α1 H1 J ex st1 ito f1 => ?_) pins s I
  · rw [e1]
    show FinG G _ _ α μ H (match itemsOf k xs μ' with
      | some ds1 => @ite (R Unit) (ds1 = ds ∧ μ' = μ') (Classical.propDecidable _) (.ok () μ') .err
      | none => .err) _
    rw [e2]
    show FinG G _ _ α μ H (@ite (R Unit) (ds = ds ∧ μ' = μ') (Classical.propDecidable _) (.ok () μ') .err) _
    rw [if_pos ⟨rfl, rfl⟩]
    exact fun _ _ _ _ _ _ => trivial
  · by_cases h : ds1 = ds ∧ μ1 = μ'
    · obtain ⟨rfl, rfl⟩ := h
      exact q α1 H1 J ex st1 ito
    · rw [if_neg h] at f1
      exact (show False from f1).elim
theorem lcLoop_le {f : D → Mu → R (Option D)} : ∀ {ds acc : List D} {μ μ' : Mu} {l : List D}, lcLoop f ds acc μ = .ok l μ' → acc.length ≤ l.length
  | [], acc, μ, μ', l, h => by
    have h' : R.ok acc μ = .ok l μ' := h
    cases h'
    exact Nat.le_refl _
  | d :: ds, acc, μ, μ', l, h => by
    have h' : ((f d μ).bind fun r μ1 => match r with
      | some x => if acc.length < lim then lcLoop f ds (acc ++ [x]) μ1 else .err
      | none => lcLoop f ds acc μ1) = .ok l μ' := h
    cases e : f d μ with
    | exc c pl m => rw [e] at h'; cases h'
    | err => rw [e] at h'; cases h'
    | ok r μ1 =>
      rw [e] at h'
      cases r with
      | none => exact lcLoop_le (show lcLoop f ds acc μ1 = .ok l μ' from h')
      | some x =>
        have h2 : (if acc.length < lim then lcLoop f ds (acc ++ [x]) μ1 else .err) = .ok l μ' := h'
        by_cases hl : acc.length < lim
        · rw [if_pos hl] at h2
          have := lcLoop_le h2
          rw [List.length_append] at this
          simp at this
          omega
        · rw [if_neg hl] at h2; cases h2
def lc2F (V : Ev) (own : List Nat) (t : ZT) (k2 : IK) (it2 : ZEs) (own2 : List Nat) (t2 : ZT) (e : ZE) (ρ : Env) : D → Mu → R (List D) := fun d μ2 => match bindT t d (wipeE ρ own) with
  | some ρ1 => (evalEs V it2 ρ1 μ2).bind fun xs2 μ3 => (match itemsOf k2 xs2 μ3 with
    | some ds2 => lcLoop (lcF V own2 t2 .nil e ρ1) ds2 [] μ3
    | none => .err)
  | none => .err
theorem lc2_eval {m : Bool} {own : List Nat} {t : ZT} {k : IK} {it : ZEs} {own2 : List Nat} {t2 : ZT} {k2 : IK} {it2 : ZEs} {e : ZE} {V : Ev} {ρ : Env} {μ : Mu} : evalE V (.lc2 m own t k it own2 t2 k2 it2 e) ρ μ = (evalEs V it ρ μ).bind fun xs μ1 => match itemsOf k xs μ1 with
    | some ds => (lcLoop2 (lc2F V own t k2 it2 own2 t2 e ρ) ds [] μ1).pure1.bind fun l μ5 => mkL m l μ5
    | none => .err := rfl
structure AgLc2 (M : Nm) (own : List Nat) (t : ZT) (k : IK) (it : ZEs) (own2 : List Nat) (t2 : ZT) (k2 : IK) (it2 : ZEs) (e : ZE) (N : List Str) (sc scope : Scope) (x tg iter tg2 iter2 : Expr) : Prop where
  h1 : nSet iter = true
  h1' : nSet iter2 = true
  h2 : blkC N sc scope (own.filterMap fun i => N[i]?.map fun y => (y, i)) = true
  h3 : (own.all fun i => decide (i < N.length)) = true
  sub : ∀ i ∈ own2, i ∈ own
  h5 : agTg ⟨N, scope, M⟩ own t tg = true
  h6 : agTg ⟨N, scope, M⟩ own2 t2 tg2 = true
  h7 : ∃ as, itArgs ⟨N, sc, M⟩ tg k iter = some as ∧ agEs M it N sc as = true
  h8 : ∃ as, itArgs ⟨N, scope, M⟩ tg2 k2 iter2 = some as ∧ agEs M it2 N scope as = true
  h9 : agE M e N scope x = true
theorem agLc2_of {m : Bool} {own : List Nat} {t : ZT} {k : IK} {it : ZEs} {own2 : List Nat} {t2 : ZT} {k2 : IK} {it2 : ZEs} {e : ZE} {N : List Str} {sc scope : Scope} {x tg iter tg2 iter2 : Expr} {pos : Pos} (h : agE M (.lc2 m own t k it own2 t2 k2 it2 e) N sc (.ListComp x [⟨tg, iter, [], 0⟩, ⟨tg2, iter2, [], 0⟩] scope pos) = true) : AgLc2 M own t k it own2 t2 k2 it2 e N sc scope x tg iter tg2 iter2 := by
  have h' : (nSet iter && nSet iter2 && blkC N sc scope (own.filterMap fun i => N[i]?.map fun y => (y, i)) && decide ((own.all fun i => decide (i < N.length)) = true) && (own2.all fun i => own.contains i) && agTg ⟨N, scope, M⟩ own t tg && agTg ⟨N, scope, M⟩ own2 t2 tg2 &&
    (match itArgs ⟨N, sc, M⟩ tg k iter with
    | some as => agEs M it N sc as
    | none => false) &&
    (match itArgs ⟨N, scope, M⟩ tg2 k2 iter2 with
    | some as => agEs M it2 N scope as
    | none => false) && agE M e N scope x) = true := h
  simp only [Bool.and_eq_true] at h'
  obtain ⟨⟨⟨⟨⟨⟨⟨⟨⟨h1, h1'⟩, h2⟩, h3⟩, h4⟩, h5⟩, h6⟩, h7⟩, h8⟩, h9⟩ := h'
  refine ⟨h1, h1', h2, of_decide_eq_true h3, fun i hi => by simpa using List.all_eq_true.mp h4 i hi, h5, h6, ?_, ?_, h9⟩
  · cases ha : itArgs ⟨N, sc, M⟩ tg k iter with
    | none => rw [ha] at h7; cases h7
    | some as => rw [ha] at h7; exact ⟨as, rfl, h7⟩
  · cases ha : itArgs ⟨N, scope, M⟩ tg2 k2 iter2 with
    | none => rw [ha] at h8; cases h8
    | some as => rw [ha] at h8; exact ⟨as, rfl, h8⟩
theorem lc2_read {m : Bool} {own : List Nat} {t : ZT} {k : IK} {it : ZEs} {own2 : List Nat} {t2 : ZT} {k2 : IK} {it2 : ZEs} {e : ZE} (hit : ItGoal G M n k it) {N : List Str} {sc : Scope} {X : Cx} {Wx : WX} {tg iter : Expr} {as : List Expr} {α : Al} {μ : Mu} {ρ : Env} {σ : L2.St} {H : Hp} {Q : VK} (hr : Here G n ⟨N, sc, M⟩ X Wx) (ha : itArgs ⟨N, sc, M⟩ tg k iter = some as) (h7 : agEs M it N sc as = true)
    (st : StOk G α μ H) (en : EnvOk G α μ H ρ σ) (f : Fin1 G (WW G Wx σ) α μ H (evalE (evOf G.T n) (.lc2 m own t k it own2 t2 k2 it2 e) ρ μ) Q) : tLc2 (WI X tg iter) (gTz G own t) tYes (tIz G n k2 it2) (gTz G own2 t2) tYes (tEz G n e) own own2 σ H Q := by
  rw [lc2_eval] at f
  refine hit N sc X Wx tg iter as α μ ρ σ H _ D V (RepR G) (fun ds μ1 => (lcLoop2 (lc2F (evOf G.T n) own t k2 it2 own2 t2 e ρ) ds [] μ1).pure1.bind fun l μ5 => mkL m l μ5) Q hr ha h7 st en f fun ds μ1 α1 H1 J ex1 st1 ito f1 => ?_
  intro D0 hD
  obtain ⟨Gd, Y, wk, stay, gives⟩ := ito
  have hDr : D0 ∉ α1.r := fun z => (st1.rs D0 z).1 hD
  cases er : lcLoop2 (lc2F (evOf G.T n) own t k2 it2 own2 t2 e ρ) ds [] μ1 with
  | exc c pl mm => rw [er] at f1; exact (show False from f1).elim
  | err => rw [er] at f1; exact (show False from f1).elim
  | ok lF μF =>
    rw [er] at f1
    have f1' : Fin1 G (WW G Wx σ) α1 μ1 H1 (mkL m lF μF) Q := f1
    refine walk_gen wk (fun i H => ∃ l μ2, LcAt G α1.r H1 α1 μ1 H1 D0 l μ2 H ∧ lcLoop2 (lc2F (evOf G.T n) own t k2 it2 own2 t2 e ρ) (ds.drop i) l μ2 = .ok lF μF) ?_ ?_ ?_ ?_
    · exact ⟨[], μ1, ⟨α1.c, [], upd_same, st1.hold hD, ext0_hold (G := G) hD, fun p hp => upd_ne fun z => (st1.rs p hp).1 (by rw [z]; exact hD), .nil⟩, er⟩
    · intro i H hi ⟨l, μ2, at_, _⟩
      obtain ⟨c, acc, _, _, ex, _⟩ := at_.ex
      exact stay _ _ _ ex
    · intro i v H H' hi ⟨l, μ2, at_, rest⟩ y
      have hd : ds[i]? = some ds[i] := List.getElem?_eq_getElem hi
      rw [List.drop_eq_getElem_cons hi] at rest
      have rest' : ((lc2F (evOf G.T n) own t k2 it2 own2 t2 e ρ ds[i] μ2).bind fun r μ3 => if l.length + r.length < lim then lcLoop2 (lc2F (evOf G.T n) own t k2 it2 own2 t2 e ρ) (ds.drop (i + 1)) (l ++ r) μ3 else .err) = .ok lF μF := rest
      cases erun : lc2F (evOf G.T n) own t k2 it2 own2 t2 e ρ ds[i] μ2 with
      | exc c pl mm => rw [erun] at rest'; cases rest'
      | err => rw [erun] at rest'; cases rest'
      | ok lr μ6 =>
        rw [erun] at rest'
        have r2 : (if l.length + lr.length < lim then lcLoop2 (lc2F (evOf G.T n) own t k2 it2 own2 t2 e ρ) (ds.drop (i + 1)) (l ++ lr) μ6 else .err) = .ok lF μF := rest'
        by_cases hl : l.length + lr.length < lim
        rotate_left
        · rw [if_neg hl] at r2; cases r2
        rw [if_pos hl] at r2
        obtain ⟨c, acc, hacc, st2, ex, kr, rl⟩ := at_.ex
        obtain ⟨ex3, st3, r3⟩ := gives i v _ _ _ _ _ ex st2 hd y
        unfold lc2F at erun
        cases eb : bindT t ds[i] (wipeE ρ own) with
        | none => rw [eb] at erun; cases erun
        | some ρ1 =>
          rw [eb] at erun
          dsimp only at erun
          cases ei : evalEs (evOf G.T n) it2 ρ1 μ2 with
          | exc c pl m => rw [ei] at erun; cases erun
          | err => rw [ei] at erun; cases erun
          | ok xs2 μ3 =>
            rw [ei] at erun
            have erun2 : (match itemsOf k2 xs2 μ3 with
              | some ds2 => lcLoop (lcF (evOf G.T n) own2 t2 .nil e ρ1) ds2 [] μ3
              | none => .err) = .ok lr μ6 := erun
            cases ej : itemsOf k2 xs2 μ3 with
            | none => rw [ej] at erun2; cases erun2
            | some ds2 =>
              rw [ej] at erun2
              have erun3 : lcLoop (lcF (evOf G.T n) own2 t2 .nil e ρ1) ds2 [] μ3 = .ok lr μ6 := erun2
              have exA : Ext0 α1 μ1 H1 ⟨c, D0 :: α1.r⟩ μ2 H' := ex.trans ex3.toExt0
              refine ⟨_, μ2, wipeE ρ own, ds[i], ρ1, st3, ((en.ext ex1).ext0 exA).wipe own, r3, eb, fun σ' en' w => ⟨(w own fun _ h => h).trans (wipe_wipe σ own), ?_⟩⟩
              show tIz G n k2 it2 σ' H' _
              refine ⟨_, μ2, ρ1, xs2, μ3, ds2, st3, en', ei, ej, fun α4 H4 J1 ex4 st4 ito4 => ?_⟩
              obtain ⟨Gd4, Y4, wk4, stay4, gives4⟩ := ito4
              obtain ⟨c4, r4⟩ := α4
              obtain rfl : r4 = D0 :: α1.r := ex4.res
              refine walk_gen wk4 (fun j H => ∃ l' μ5, LcAt G α1.r H1 ⟨c4, D0 :: α1.r⟩ μ3 H4 D0 (l ++ l') μ5 H ∧ lcLoop (lcF (evOf G.T n) own2 t2 .nil e ρ1) (ds2.drop j) l' μ5 = .ok lr μ6) ?_ ?_ ?_ ?_
              · refine ⟨[], μ3, ⟨c4, acc, ?_, st4, Ext0.refl, fun p hp => ?_, ?_⟩, erun3⟩
                · rw [ex4.kr D0 List.mem_cons_self, ex3.kr D0 List.mem_cons_self]
                  exact hacc
                · rw [ex4.kr p (List.mem_cons_of_mem _ hp), ex3.kr p (List.mem_cons_of_mem _ hp)]
                  exact kr p hp
                · rw [List.append_nil]
                  exact (rl.ext ex3).ext ex4
              · intro j H hj ⟨l', μ5, at5, _⟩
                obtain ⟨c5, acc5, _, _, ex5, _⟩ := at5.ex
                exact stay4 _ _ _ ex5
              · intro j v5 H5 H5' hj ⟨l', μ5, at5, rest5⟩ y5
                have hd5 : ds2[j]? = some ds2[j] := List.getElem?_eq_getElem hj
                rw [List.drop_eq_getElem_cons hj] at rest5
                have rest6 : ((lcF (evOf G.T n) own2 t2 .nil e ρ1 ds2[j] μ5).bind fun r μ3 => match r with
                  | some x => if l'.length < lim then lcLoop (lcF (evOf G.T n) own2 t2 .nil e ρ1) (ds2.drop (j + 1)) (l' ++ [x]) μ3 else .err
                  | none => lcLoop (lcF (evOf G.T n) own2 t2 .nil e ρ1) (ds2.drop (j + 1)) l' μ3) = .ok lr μ6 := rest5
                cases er5 : lcF (evOf G.T n) own2 t2 .nil e ρ1 ds2[j] μ5 with
                | exc c pl mm => rw [er5] at rest6; cases rest6
                | err => rw [er5] at rest6; cases rest6
                | ok rr μ7 =>
                  rw [er5] at rest6
                  have some_ : ∀ x, rr = some x → lcLoop (lcF (evOf G.T n) own2 t2 .nil e ρ1) (ds2.drop (j + 1)) (l' ++ [x]) μ7 = .ok lr μ6 := fun x e => by
                    subst e
                    have q : (if l'.length < lim then lcLoop (lcF (evOf G.T n) own2 t2 .nil e ρ1) (ds2.drop (j + 1)) (l' ++ [x]) μ7 else .err) = .ok lr μ6 := rest6
                    by_cases hl' : l'.length < lim
                    · rw [if_pos hl'] at q; exact q
                    · rw [if_neg hl'] at q; cases q
                  refine lc_turn (ifs := .nil) (Next := fun H => ∃ l' μ5, LcAt G α1.r H1 ⟨c4, D0 :: α1.r⟩ μ3 H4 D0 (l ++ l') μ5 H ∧ lcLoop (lcF (evOf G.T n) own2 t2 .nil e ρ1) (ds2.drop (j + 1)) l' μ5 = .ok lr μ6) (en'.ext ex4) hDr gives4 hd5 y5 at5 er5 (fun er H3 a3 => ?_) (fun x er H4 a4 => ?_) (fun x er => ?_)
                  · subst er
                    exact ⟨l', μ7, a3, rest6⟩
                  · exact ⟨l' ++ [x], μ7, by rw [← List.append_assoc]; exact a4, some_ x er⟩
                  · have q := lcLoop_le (some_ x er)
                    rw [List.length_append] at q ⊢
                    simp at q
                    omega
              · intro H5 ⟨l', μ5, at5, rest5⟩
                rw [List.drop_length] at rest5
                have rest6 : R.ok l' μ5 = .ok lr μ6 := rest5
                cases rest6
                obtain ⟨c5, acc5, hacc5, st5, ex5, kr5, rl5⟩ := at5.ex
                exact ⟨l ++ lr, μ6, ⟨c5, acc5, hacc5, st5, (exA.trans ex4.toExt0).trans ex5, kr5, rl5⟩, r2⟩
    · intro H ⟨l, μ2, at_, rest⟩
      rw [List.drop_length] at rest
      have rest' : R.ok l μ2 = .ok lF μF := rest
      cases rest'
      obtain ⟨c, acc, hacc, st2, ex2, kr, rl⟩ := at_.ex
      cases m with
      | false =>
        have exf : Ext0 ⟨c, D0 :: α1.r⟩ μF H ⟨c, α1.r⟩ μF H := ext0_free
        have dead : ¬ Live (⟨c, α1.r⟩ : Al) μF D0 := fun q => q.elim (fun q => (st2.rs D0 List.mem_cons_self).2 q) hDr
        exact f1' ⟨c, α1.r⟩ H (.ref D0) ⟨ex2.trans exf, rfl, kr⟩ st2.free (.lst hacc dead (rl.ext0 exf))
      | true =>
        obtain ⟨exa, sta⟩ := adopt st2 hDr hacc rl
        exact f1' ⟨c ++ [D0], α1.r⟩ H (.ref D0) ⟨ex2.trans exa, rfl, kr⟩ sta (.ref (by
          have hl : c.length = μF.length := st2.len
          show (c ++ [D0])[μF.length]? = some D0
          rw [← hl]; simp))
theorem snd_lc2 {m : Bool} {own : List Nat} {t : ZT} {k : IK} {it : ZEs} {own2 : List Nat} {t2 : ZT} {k2 : IK} {it2 : ZEs} {e : ZE} (hit : ItGoal G M n k it) (hit2 : ItGoal G M n k2 it2) (he : SndE G M n e) : SndE G M n (.lc2 m own t k it own2 t2 k2 it2 e) := by
  intro N sc X Wx ex α μ ρ σ H Q hr h st en f
  cases ex with
  | ListComp x gens scope pos =>
    match gens, h with
    | [⟨tg, iter, [], 0⟩, ⟨tg2, iter2, [], 0⟩], h =>
      have A := agLc2_of h
      obtain ⟨as, ha, h7⟩ := A.h7
      obtain ⟨as2, ha2, h8⟩ := A.h8
      have eown := own_map A.h3
      have hb := fun (s : Shared) (H : Hp) (C : Addr) (cl : List (Str × Addr)) (fp : List Addr) => here_blk (scope := scope) hr (s := s) (H := H) (C := C) (cl := cl) (fp := fp)
      refine WE.of (pe_lc2 (vs1 := own2) hr.c.calm (by rw [hr.c.N]; exact hr.c.nd) pi_wi (blk_of hr A.h2) (by rw [eown]; exact A.sub) (fun s H C cl fp => pg_z (hb s H C cl fp) A.h5) (fun s H C cl fp => pts_nil) (fun s H C cl fp => pi_z hit2 (hb s H C cl fp) ha2 h8) (fun s H C cl fp => pg_z (hb s H C cl fp) A.h6) (fun s H C cl fp => pts_nil) (fun s H C cl fp => pe_z he (hb s H C cl fp) A.h9) (fun x => foldN A.h1) (fun env x => foldN A.h1')) ?_
      rw [eown]
      exact lc2_read hit hr ha h7 st en f
  | _ => cases h
end
end Z

end
section
set_option maxHeartbeats 4000000
set_option autoImplicit false
/-! Zd: dict comprehensions. -/
namespace Z
open PySem PySem.Spec PyProof.Rows L2
section
variable {G : Tx} {M : Nm} {n : Nat}
/-- what is held becomes a cell -/
theorem adoptO {c r : List Addr} {μ : Mu} {H : Hp} {p : Addr} {o0 : MO} (st : StOk G ⟨c, p :: r⟩ μ H) (hr : p ∉ r) (hc : Ext0 ⟨c, p :: r⟩ μ H ⟨c ++ [p], r⟩ (μ ++ [o0]) H → CellOk G ⟨c ++ [p], r⟩ (μ ++ [o0]) H p o0) :
    Ext0 ⟨c, p :: r⟩ μ H ⟨c ++ [p], r⟩ (μ ++ [o0]) H ∧ StOk G ⟨c ++ [p], r⟩ (μ ++ [o0]) H := by
  have hl : c.length = μ.length := st.len
  have lv : ∀ q, LiveC ⟨c ++ [p], r⟩ (μ ++ [o0]) q → LiveC ⟨c, p :: r⟩ μ q ∨ q = p := fun q ⟨m, o, h1, h2, h3⟩ => by
    have h1' : (c ++ [p])[m]? = some q := h1
    by_cases hm : m < c.length
    · rw [List.getElem?_append_left hm] at h1'
      rw [List.getElem?_append_left (by omega)] at h2
      exact .inl ⟨m, o, h1', h2, h3⟩
    · rw [List.getElem?_append_right (by omega)] at h1'
      cases e : m - c.length with
      | zero => rw [e] at h1'; exact .inr (by simpa using h1'.symm)
      | succ k => rw [e] at h1'; simp at h1'
  have ex : Ext0 ⟨c, p :: r⟩ μ H ⟨c ++ [p], r⟩ (μ ++ [o0]) H := ⟨⟨[p], rfl⟩, fun _ _ e _ => .inl e, fun q h => by
    rcases h with h | h
    · rcases lv q h with h | h
      · exact .inl (.inl h)
      · exact .inl (.inr (by rw [h]; exact List.mem_cons_self))
    · exact .inl (.inr (List.mem_cons_of_mem _ h))⟩
  have dead : ¬ LiveC ⟨c, p :: r⟩ μ p := (st.rs p List.mem_cons_self).2
  refine ⟨ex, ⟨by simp [hl], fun m q o h1 h2 => ?_, fun m k q o o' h1 h2 l1 l2 h3 h4 => ?_, fun q hq => ⟨(st.rs q (List.mem_cons_of_mem _ hq)).1, fun h => ?_⟩⟩⟩
  · have h2' : (c ++ [p])[m]? = some q := h2
    by_cases hm : m < c.length
    · rw [List.getElem?_append_left hm] at h2'
      rw [List.getElem?_append_left (by omega)] at h1
      exact (st.cell m q o h1 h2').ext0 ex rfl
    · rw [List.getElem?_append_right (by omega)] at h2'
      rw [List.getElem?_append_right (by omega)] at h1
      cases e : m - c.length with
      | succ k => rw [e] at h2'; simp at h2'
      | zero =>
        rw [e] at h2'
        rw [← hl, e] at h1
        have e1 : p = q := by simpa using h2'
        have e2 : o0 = o := by simpa using h1
        subst e1
        subst e2
        exact hc ex
  · have one : ∀ (j : Nat) (o : MO), (μ ++ [o0])[j]? = some o → (c ++ [p])[j]? = some q → o.live = true → (j < c.length ∧ μ[j]? = some o ∧ c[j]? = some q) ∨ (j = c.length ∧ q = p) := fun j o k1 k2 k3 => by
      by_cases hj : j < c.length
      · rw [List.getElem?_append_left hj] at k2
        rw [List.getElem?_append_left (by omega)] at k1
        exact .inl ⟨hj, k1, k2⟩
      · rw [List.getElem?_append_right (by omega)] at k2
        cases e : j - c.length with
        | zero => rw [e] at k2; exact .inr ⟨by omega, by simpa using k2.symm⟩
        | succ k => rw [e] at k2; simp at k2
    rcases one m o h1 h3 l1 with ⟨a1, a2, a3⟩ | ⟨a1, a2⟩
    · rcases one k o' h2 h4 l2 with ⟨b1, b2, b3⟩ | ⟨b1, b2⟩
      · exact st.inj m k q o o' a2 b2 l1 l2 a3 b3
      · exact (dead ⟨m, o, by rw [← b2]; exact a3, a2, l1⟩).elim
    · rcases one k o' h2 h4 l2 with ⟨b1, b2, b3⟩ | ⟨b1, b2⟩
      · exact (dead ⟨k, o', by rw [← a2]; exact b3, b2, l2⟩).elim
      · omega
  · rcases lv q h with h | h
    · exact (st.rs q (List.mem_cons_of_mem _ hq)).2 h
    · exact hr (by rw [← h]; exact hq)
/-- one turn of the interpreter's -/
def dcF (V : Ev) (own : List Nat) (t : ZT) (ifs : ZEs) (ke ve : ZE) (ρ : Env) : D → Mu → R (Option (DK × D)) := fun d μ2 => match bindT t d (wipeE ρ own) with
  | some ρ1 => (evalEs V ifs ρ1 μ2).bind fun bs μ3 =>
    let go : R (Option (DK × D)) := (evalE V ke ρ1 μ3).bind fun y μ4 => (evalE V ve ρ1 μ4).bind fun z μ5 => match keyOf? y with
      | some k => .ok (some (k, z)) μ5
      | none => .err
    (match bs with
    | [] => go
    | [.bl true] => go
    | [.bl false] => .ok none μ3
    | _ => .err)
  | none => .err
structure DcAt (G : Tx) (r : List Addr) (Hk : Hp) (αb : Al) (μb : Mu) (Hb : Hp) (D0 : Addr) (l : List (DK × D)) (μ2 : Mu) (H : Hp) : Prop where
  ex : ∃ c acc, H D0 = some (.dK acc) ∧ StOk G ⟨c, D0 :: r⟩ μ2 H ∧ Ext0 αb μb Hb ⟨c, D0 :: r⟩ μ2 H ∧ (∀ p ∈ r, H p = Hk p) ∧ RepK G ⟨c, D0 :: r⟩ μ2 H acc l
theorem dc_turn {own : List Nat} {t : ZT} {ifs : ZEs} {ke ve : ZE} {ρ : Env} {σ : L2.St} {r : List Addr} {Hk : Hp} {α1 : Al} {μ1 : Mu} {H1 : Hp} {D0 : Addr} (en : EnvOk G α1 μ1 H1 ρ σ) (hD : D0 ∉ r) {Y : Nat → Hp → V → Hp → Prop} {ds : List D}
    (gives : ∀ i v d α2 μ2 H2 H3, Ext0 α1 μ1 H1 α2 μ2 H2 → StOk G α2 μ2 H2 → ds[i]? = some d → Y i H2 v H3 → Ext α2 μ2 H2 α2 μ2 H3 ∧ StOk G α2 μ2 H3 ∧ Rep G α2 μ2 H3 v d)
    {i : Nat} {v : V} {d : D} {l : List (DK × D)} {μ2 : Mu} {H H' : Hp} (hd : ds[i]? = some d) (y : Y i H v H') (at_ : DcAt G r Hk α1 μ1 H1 D0 l μ2 H) {rr : Option (DK × D)} {μ3 : Mu} (run : dcF (evOf G.T n) own t ifs ke ve ρ d μ2 = .ok rr μ3)
    {Next : Hp → Prop} (skip : rr = none → ∀ H3, DcAt G r Hk α1 μ1 H1 D0 l μ3 H3 → Next H3) (more : ∀ k x, rr = some (k, x) → ∀ H4, DcAt G r Hk α1 μ1 H1 D0 (dput l k x) μ3 H4 → Next H4) (hlen : ∀ q, rr = some q → l.length < lim) :
    gTz G own t v (L2.wipe σ own) H' fun σ2 H2 => L2.wipe σ2 own = L2.wipe σ own ∧ tIfs G n ifs σ2 H2 fun b H3 => if b = true then tEz G n ke σ2 H3 fun y H4 => tEz G n ve σ2 H4 fun z H5 => ∃ kvs k, y = kV k ∧ H5 D0 = some (.dK kvs) ∧ kvs.length < sizeLine ∧ Next (upd H5 D0 (.dK (putK kvs k z))) else Next H3 := by
  obtain ⟨c, acc, hacc, st, ex, kr, rl⟩ := at_.ex
  obtain ⟨ex3, st3, r3⟩ := gives i v d _ _ _ _ ex st hd y
  unfold dcF at run
  cases eb : bindT t d (wipeE ρ own) with
  | none => rw [eb] at run; cases run
  | some ρ1 =>
    rw [eb] at run
    dsimp only at run
    have exA : Ext0 α1 μ1 H1 ⟨c, D0 :: r⟩ μ2 H' := ex.trans ex3.toExt0
    have hacc' : H' D0 = some (.dK acc) := by rw [ex3.kr D0 List.mem_cons_self]; exact hacc
    have rl' := rl.ext ex3
    have kr' : ∀ p ∈ r, H' p = Hk p := fun p hp => (ex3.kr p (List.mem_cons_of_mem _ hp)).trans (kr p hp)
    refine ⟨_, μ2, wipeE ρ own, d, ρ1, st3, (en.ext0 exA).wipe own, r3, eb, fun σ' en' w => ⟨(w own fun _ h => h).trans (wipe_wipe σ own), ?_⟩⟩
    have accK : ∀ {α4 μ4 H4}, Ext (⟨c, D0 :: r⟩ : Al) μ2 H' α4 μ4 H4 → H4 D0 = some (.dK acc) := fun {α4 μ4 H4} e4 => by
      rw [e4.kr D0 List.mem_cons_self]; exact hacc'
    have elt : ∀ {α4 : Al} {μ4 H4}, Ext (⟨c, D0 :: r⟩ : Al) μ2 H' α4 μ4 H4 → StOk G α4 μ4 H4 → ((evalE (evOf G.T n) ke ρ1 μ4).bind fun y μ5 => (evalE (evOf G.T n) ve ρ1 μ5).bind fun z μ6 => match keyOf? y with
        | some k => .ok (some (k, z)) μ6
        | none => .err) = .ok rr μ3 →
        tEz G n ke σ' H4 fun y H5 => tEz G n ve σ' H5 fun z H6 => ∃ kvs k, y = kV k ∧ H6 D0 = some (.dK kvs) ∧ kvs.length < sizeLine ∧ Next (upd H6 D0 (.dK (putK kvs k z))) := fun {α4 μ4 H4} e4 s4 run4 => by
      cases ee : evalE (evOf G.T n) ke ρ1 μ4 with
      | exc c pl m => rw [ee] at run4; cases run4
      | err => rw [ee] at run4; cases run4
      | ok x μ5 =>
        rw [ee] at run4
        have run5 : ((evalE (evOf G.T n) ve ρ1 μ5).bind fun z μ6 => match keyOf? x with
          | some k => .ok (some (k, z)) μ6
          | none => .err) = .ok rr μ3 := run4
        cases e5 : evalE (evOf G.T n) ve ρ1 μ5 with
        | exc c pl m => rw [e5] at run5; cases run5
        | err => rw [e5] at run5; cases run5
        | ok z μ6 =>
          rw [e5] at run5
          have run6 : (match keyOf? x with
            | some k => R.ok (some (k, z)) μ6
            | none => .err) = .ok rr μ3 := run5
          cases ek : keyOf? x with
          | none => rw [ek] at run6; cases run6
          | some k =>
            rw [ek] at run6
            cases run6
            refine ⟨α4, μ4, ρ1, s4, en'.ext e4, ?_⟩
            rw [ee]
            intro α5 H5 w5 ex5 st5 rw5
            refine ⟨α5, μ5, ρ1, st5, en'.ext (e4.trans ex5), ?_⟩
            rw [e5]
            intro α6 H6 w6 ex6 st6 rw6
            have e6 := (e4.trans ex5).trans ex6
            have h6 := accK e6
            refine ⟨acc, keyK k, key_of rw5 ek, h6, ?_, ?_⟩
            · have := rl.len
              have := hlen _ rfl
              have := lim_le (k := acc.length + 1) (by unfold lim at *; omega)
              omega
            · refine more k z rfl _ ?_
              obtain ⟨c6, r6⟩ := α6
              obtain rfl : r6 = D0 :: r := e6.res
              have exh := ext0_held (α := ⟨c6, D0 :: r⟩) (μ := μ3) (H := H6) (o := .dK (putK acc (keyK k) w6)) List.mem_cons_self
              refine ⟨c6, putK acc (keyK k) w6, upd_same, st6.held List.mem_cons_self, (exA.trans e6.toExt0).trans exh, fun p hp => ?_, RepK.put (rw6.ext0 exh) ((rl'.ext e6).ext0 exh)⟩
              rw [upd_ne fun z => ?_]
              · exact (e6.kr p (List.mem_cons_of_mem _ hp)).trans (kr' p hp)
              · exact hD (by rw [← z]; exact hp)
    have back : ∀ {α4 : Al} {μ4 H4}, Ext (⟨c, D0 :: r⟩ : Al) μ2 H' α4 μ4 H4 → StOk G α4 μ4 H4 → DcAt G r Hk α1 μ1 H1 D0 l μ4 H4 := fun {α4 μ4 H4} e4 s4 => by
      obtain ⟨c4, r4⟩ := α4
      obtain rfl : r4 = D0 :: r := e4.res
      exact ⟨c4, acc, accK e4, s4, exA.trans e4.toExt0, fun p hp => (e4.kr p (List.mem_cons_of_mem _ hp)).trans (kr' p hp), rl'.ext e4⟩
    cases ei : evalEs (evOf G.T n) ifs ρ1 μ2 with
    | exc c pl m => rw [ei] at run; cases run
    | err => rw [ei] at run; cases run
    | ok bs μ4 =>
      rw [ei] at run
      obtain ⟨sh1, sh2⟩ := es_shape ei
      match bs, run, sh1, sh2 with
      | [], run, sh1, _ =>
        obtain ⟨rfl, rfl⟩ := sh1 rfl
        exact elt Ext.refl st3 run
      | [.bl true], run, _, sh2 =>
        obtain ⟨z, rfl, ez⟩ := sh2 _ rfl
        refine ⟨_, μ2, ρ1, st3, en', ?_⟩
        rw [ez]
        intro α4 H4 w ex4 st4 rw4
        cases rw4
        exact ⟨true, rfl, elt ex4 st4 run⟩
      | [.bl false], run, _, sh2 =>
        obtain ⟨z, rfl, ez⟩ := sh2 _ rfl
        have run5 : R.ok none μ4 = .ok rr μ3 := run
        cases run5
        refine ⟨_, μ2, ρ1, st3, en', ?_⟩
        rw [ez]
        intro α4 H4 w ex4 st4 rw4
        cases rw4
        exact ⟨false, rfl, skip rfl H4 (back ex4 st4)⟩
structure AgDc (M : Nm) (own : List Nat) (t : ZT) (k : IK) (it ifs : ZEs) (ke ve : ZE) (N : List Str) (sc scope : Scope) (kx vx tg iter : Expr) (ts : List Expr) : Prop where
  h1 : nSet iter = true
  h2 : blkC N sc scope (own.filterMap fun i => N[i]?.map fun y => (y, i)) = true
  h3 : (own.all fun i => decide (i < N.length)) = true
  h4 : agTg ⟨N, scope, M⟩ own t tg = true
  h5 : ∃ as, itArgs ⟨N, sc, M⟩ tg k iter = some as ∧ agEs M it N sc as = true
  h6 : ts.length ≤ 1
  h7 : agEs M ifs N scope ts = true
  h8 : agE M ke N scope kx = true
  h9 : agE M ve N scope vx = true
theorem dcLoop_drop {f : D → Mu → R (Option (DK × D))} {d : D} {ds : List D} {l lF : List (DK × D)} {μ2 μF : Mu} (h : dcLoop f (d :: ds) l μ2 = .ok lF μF) : ∃ r μ3, f d μ2 = .ok r μ3 ∧ (r = none → dcLoop f ds l μ3 = .ok lF μF) ∧ ∀ k v, r = some (k, v) → l.length < lim ∧ dcLoop f ds (dput l k v) μ3 = .ok lF μF := by
  have h' : ((f d μ2).bind fun r μ1 => match r with
    | some (k, v) => if l.length < lim then dcLoop f ds (dput l k v) μ1 else .err
    | none => dcLoop f ds l μ1) = .ok lF μF := h
  cases e : f d μ2 with
  | exc c pl m => rw [e] at h'; cases h'
  | err => rw [e] at h'; cases h'
  | ok r μ3 =>
    rw [e] at h'
    refine ⟨r, μ3, rfl, fun er => ?_, fun k v er => ?_⟩
    · subst er; exact h'
    · subst er
      have h2 : (if l.length < lim then dcLoop f ds (dput l k v) μ3 else .err) = .ok lF μF := h'
      by_cases hl : l.length < lim
      · rw [if_pos hl] at h2
        exact ⟨hl, h2⟩
      · rw [if_neg hl] at h2; cases h2
theorem dc_it {J : It} {nn : Nat} {Gd : Hp → Prop} {Y : Nat → Hp → V → Hp → Prop} (w : Walk J nn Gd Y) {g : TG} {tt : TT} {tk tv : TE} {vs : List Nat} {σ : L2.St} {H0 : Hp} {D0 : Addr} {Qd : Hp → Prop} (Pv : Nat → Hp → Prop) (h0 : Pv 0 H0) (hG : ∀ i H, i ≤ nn → Pv i H → Gd H)
    (hs : ∀ i x H H', i < nn → Pv i H → Y i H x H' → g x (L2.wipe σ vs) H' fun σ2 H2 => L2.wipe σ2 vs = L2.wipe σ vs ∧ tt σ2 H2 fun b H3 => if b = true then tk σ2 H3 fun y H4 => tv σ2 H4 fun z H5 => ∃ kvs k, y = kV k ∧ H5 D0 = some (.dK kvs) ∧ kvs.length < sizeLine ∧ Pv (i + 1) (upd H5 D0 (.dK (putK kvs k z))) else Pv (i + 1) H3) (hd : ∀ H, Pv nn H → Qd H) :
    ∃ W : Nat → Nat → Hp → Prop, (∃ m, W 0 m H0) ∧ ∀ i m H, W i m H → (J.stop i H ∧ Qd H) ∨ (J.go i H ∧ ∃ Nx : Hp → Prop, (∀ H', Nx H' → ∃ m', m' < m ∧ W (i + 1) m' H') ∧ ∀ x H', J.yld i H x H' → g x (L2.wipe σ vs) H' fun σ2 H2 => L2.wipe σ2 vs = L2.wipe σ vs ∧ tt σ2 H2 fun b H3 =>
      if b = true then tk σ2 H3 fun y H4 => tv σ2 H4 fun z H5 => ∃ kvs k, y = kV k ∧ H5 D0 = some (.dK kvs) ∧ kvs.length < sizeLine ∧ Nx (upd H5 D0 (.dK (putK kvs k z))) else Nx H3) := by
  refine ⟨fun i m H => m + i = nn ∧ Pv i H, ⟨nn, by simp, h0⟩, fun i m H ⟨hm, p⟩ => ?_⟩
  have gg := hG i H (by omega) p
  by_cases hi : i < nn
  · exact .inr ⟨w.goes i H hi gg, Pv (i + 1), fun H' p' => ⟨nn - (i + 1), by omega, by omega, p'⟩, fun x H' y => hs i x H H' hi p (w.yields i H x H' hi gg y)⟩
  · obtain rfl : i = nn := by omega
    exact .inl ⟨w.stops H gg, hd H p⟩
theorem dc_read {m : Bool} {own : List Nat} {t : ZT} {k : IK} {it ifs : ZEs} {ke ve : ZE} (hit : ItGoal G M n k it) {N : List Str} {sc : Scope} {X : Cx} {Wx : WX} {tg iter : Expr} {as : List Expr} {α : Al} {μ : Mu} {ρ : Env} {σ : L2.St} {H : Hp} {Q : VK} (hr : Here G n ⟨N, sc, M⟩ X Wx) (ha : itArgs ⟨N, sc, M⟩ tg k iter = some as) (h5 : agEs M it N sc as = true)
    (st : StOk G α μ H) (en : EnvOk G α μ H ρ σ) (f : Fin1 G (WW G Wx σ) α μ H (evalE (evOf G.T n) (.dc m own t k it ifs ke ve) ρ μ) Q) : tDc (WI X tg iter) (gTz G own t) (tIfs G n ifs) (tEz G n ke) (tEz G n ve) own σ H Q := by
  refine hit N sc X Wx tg iter as α μ ρ σ H _ D V (RepR G) (fun ds μ1 => (dcLoop (dcF (evOf G.T n) own t ifs ke ve ρ) ds [] μ1).pure1.bind fun l μ5 => mkD m l μ5) Q hr ha h5 st en f fun ds μ1 α1 H1 J ex1 st1 ito f1 => ?_
  intro D0 hD
  obtain ⟨Gd, Y, wk, stay, gives⟩ := ito
  cases er : dcLoop (dcF (evOf G.T n) own t ifs ke ve ρ) ds [] μ1 with
  | exc c pl mm => rw [er] at f1; exact (show False from f1).elim
  | err => rw [er] at f1; exact (show False from f1).elim
  | ok lF μF =>
    rw [er] at f1
    have f1' : Fin1 G (WW G Wx σ) α1 μ1 H1 (mkD m lF μF) Q := f1
    refine dc_it wk (fun i H => ∃ l μ2, DcAt G α1.r H1 α1 μ1 H1 D0 l μ2 H ∧ dcLoop (dcF (evOf G.T n) own t ifs ke ve ρ) (ds.drop i) l μ2 = .ok lF μF) ?_ ?_ ?_ ?_
    · refine ⟨[], μ1, ⟨α1.c, [], upd_same, st1.hold hD, ext0_hold (G := G) hD, fun p hp => upd_ne fun z => (st1.rs p hp).1 (by rw [z]; exact hD), .nil⟩, er⟩
    · intro i H hi ⟨l, μ2, at_, _⟩
      obtain ⟨c, acc, _, _, ex, _⟩ := at_.ex
      exact stay _ _ _ ex
    · intro i v H H' hi ⟨l, μ2, at_, rest⟩ y
      have hd : ds[i]? = some ds[i] := List.getElem?_eq_getElem hi
      rw [List.drop_eq_getElem_cons hi] at rest
      obtain ⟨r, μ3, erun, k1, k2⟩ := dcLoop_drop rest
      refine dc_turn (en.ext ex1) (fun z => (st1.rs D0 z).1 hD) gives hd y at_ erun (fun er H3 a3 => ⟨l, μ3, a3, k1 er⟩) (fun k x er H4 a4 => ⟨_, μ3, a4, (k2 k x er).2⟩) (fun q er => ?_)
      obtain ⟨k, x⟩ := q
      exact (k2 k x er).1
    · intro H ⟨l, μ2, at_, rest⟩
      rw [List.drop_length] at rest
      have rest' : R.ok l μ2 = .ok lF μF := rest
      cases rest'
      obtain ⟨c, acc, hacc, st2, ex2, kr, rl⟩ := at_.ex
      have hDr : D0 ∉ α1.r := fun z => (st1.rs D0 z).1 hD
      cases m with
      | false =>
        have exf : Ext0 ⟨c, D0 :: α1.r⟩ μF H ⟨c, α1.r⟩ μF H := ext0_free
        have dead : ¬ Live (⟨c, α1.r⟩ : Al) μF D0 := fun q => q.elim (fun q => (st2.rs D0 List.mem_cons_self).2 q) hDr
        exact f1' ⟨c, α1.r⟩ H (.ref D0) ⟨ex2.trans exf, rfl, kr⟩ st2.free (.dic ⟨.inl hacc, dead⟩ (rl.ext0 exf))
      | true =>
        obtain ⟨exa, sta⟩ := adoptO (o0 := .dic lF) st2 hDr fun ex => ⟨acc, hacc, rl.ext0 ex⟩
        exact f1' ⟨c ++ [D0], α1.r⟩ H (.ref D0) ⟨ex2.trans exa, rfl, kr⟩ sta (.ref (by
          have hl : c.length = μF.length := st2.len
          show (c ++ [D0])[μF.length]? = some D0
          rw [← hl]; simp))
theorem agDc_of {m : Bool} {own : List Nat} {t : ZT} {k : IK} {it ifs : ZEs} {ke ve : ZE} {N : List Str} {sc scope : Scope} {kx vx tg iter : Expr} {ts : List Expr} {pos : Pos} (h : agE M (.dc m own t k it ifs ke ve) N sc (.DictComp kx vx [⟨tg, iter, ts, 0⟩] scope pos) = true) : AgDc M own t k it ifs ke ve N sc scope kx vx tg iter ts := by
  have h' : (nSet iter && blkC N sc scope (own.filterMap fun i => N[i]?.map fun y => (y, i)) && decide ((own.all fun i => decide (i < N.length)) = true) && agTg ⟨N, scope, M⟩ own t tg &&
    (match itArgs ⟨N, sc, M⟩ tg k iter with
    | some as => agEs M it N sc as
    | none => false) && decide (ts.length ≤ 1) && agEs M ifs N scope ts && agE M ke N scope kx && agE M ve N scope vx) = true := h
  simp only [Bool.and_eq_true] at h'
  obtain ⟨⟨⟨⟨⟨⟨⟨⟨h1, h2⟩, h3⟩, h4⟩, h5⟩, h6⟩, h7⟩, h8⟩, h9⟩ := h'
  refine ⟨h1, h2, of_decide_eq_true h3, h4, ?_, of_decide_eq_true h6, h7, h8, h9⟩
  cases ha : itArgs ⟨N, sc, M⟩ tg k iter with
  | none => rw [ha] at h5; cases h5
  | some as => rw [ha] at h5; exact ⟨as, rfl, h5⟩
theorem snd_dc {m : Bool} {own : List Nat} {t : ZT} {k : IK} {it ifs : ZEs} {ke ve : ZE} (hit : ItGoal G M n k it) (hifs : SndPT G M n ifs) (hk : SndE G M n ke) (he : SndE G M n ve) : SndE G M n (.dc m own t k it ifs ke ve) := by
  intro N sc X Wx ex α μ ρ σ H Q hr h st en f
  cases ex with
  | DictComp kx vx gens scope pos =>
    match gens, h with
    | [⟨tg, iter, ts, 0⟩], h =>
      have A := agDc_of h
      obtain ⟨as, ha, h5⟩ := A.h5
      have hb := fun (s : Shared) (H : Hp) (C : Addr) (cl : List (Str × Addr)) (fp : List Addr) => here_blk (scope := scope) hr (s := s) (H := H) (C := C) (cl := cl) (fp := fp)
      refine WE.of (pe_dc hr.c.calm (by rw [hr.c.N]; exact hr.c.nd) pi_wi (blk_of hr A.h2) (fun s H C cl fp => pg_z (hb s H C cl fp) A.h4) (fun s H C cl fp => pts_z hifs (hb s H C cl fp) A.h7 A.h6) (fun s H C cl fp => pe_z hk (hb s H C cl fp) A.h8) (fun s H C cl fp => pe_z he (hb s H C cl fp) A.h9) (fun x => foldN A.h1)) ?_
      rw [own_map A.h3]
      exact dc_read hit hr ha h5 st en f
  | _ => cases h
/-! ### dict displays -/
def SndA (G : Tx) (M : Nm) (n : Nat) : ZEs → Prop
  | .nil => True
  | .cons z zs => SndE G M n z ∧ SndA G M n zs
def trsOf (X : Cx) : List (Option Expr) → List Expr → List (TE × TE)
  | some k :: ks, v :: vs => (WE X k, WE X v) :: trsOf X ks vs
  | _, _ => []
theorem pps_of {X : Cx} {pos : Pos} : ∀ {ks : List (Option Expr)} {vs : List Expr}, ks.all (·.isSome) = true → ks.length = vs.length → PPs X pos ks vs (trsOf X ks vs)
  | [], [], _, _ => pps_nil
  | some k :: ks, v :: vs, h, hl => pps_cons pe_we pe_we (pps_of (ks := ks) (vs := vs) h (by simpa using hl))
  | none :: _, _, h, _ => by cases h
  | [], _ :: _, _, hl => by cases hl
  | some _ :: _, [], _, hl => by cases hl
def inter : List (V × V) → List V
  | [] => []
  | (a, b) :: r => a :: b :: inter r
/-- the pairs, one behind the other -/
theorem pairs_go {N : List Str} {sc : Scope} {X : Cx} {Wx : WX} (hr : Here G n ⟨N, sc, M⟩ X Wx) : ∀ (m : Nat) (zs : ZEs) (ks : List (Option Expr)) (vs : List Expr) (α : Al) (μ : Mu) (ρ : Env) (σ : L2.St) (H : Hp) (Q : List (V × V) → Hp → Prop), ks.length ≤ m → SndA G M n zs → agPs M zs N sc ks vs = true → StOk G α μ H → EnvOk G α μ H ρ σ →
    FinL G (WW G Wx σ) α μ H (evalEs (evOf G.T n) zs ρ μ) (fun xs H1 => ∀ ps, xs = inter ps → Q ps H1) → tPairs (trsOf X ks vs) σ H Q := by
  intro m
  induction m with
  | zero =>
    intro zs ks vs α μ ρ σ H Q hm hs h st en f
    match zs, ks, vs, h, hm with
    | .nil, [], [], _, _ => exact (FinG.now (rel := RepLR G) (v := ([] : List V)) f st .nil) [] rfl
    | .cons k (.cons v r), some ke :: ks, ve :: vs, h, hm => exact absurd hm (by simp)
  | succ m ih =>
    intro zs ks vs α μ ρ σ H Q hm hs h st en f
    match zs, ks, vs, h with
    | .nil, [], [], _ => exact (FinG.now (rel := RepLR G) (v := ([] : List V)) f st .nil) [] rfl
    | .cons k (.cons v r), some ke :: ks, ve :: vs, h =>
      obtain ⟨h12, h3⟩ := band (show (agE M k N sc ke && agE M v N sc ve && agPs M r N sc ks vs) = true from h)
      obtain ⟨h1, h2⟩ := band h12
      obtain ⟨s1, s2, s3⟩ := hs
      have f0 : FinL G (WW G Wx σ) α μ H ((evalE (evOf G.T n) k ρ μ).bind fun x μ1 => ((evalE (evOf G.T n) v ρ μ1).bind fun y μ2 => (evalEs (evOf G.T n) r ρ μ2).bind fun ys μ3 => .ok (y :: ys) μ3).bind fun xs μ4 => .ok (x :: xs) μ4) (fun xs H1 => ∀ ps, xs = inter ps → Q ps H1) := f
      refine s1 N sc X Wx ke α μ ρ σ H _ hr h1 st en (FinG.bind f0 fun d μ1 α1 H1 x e1 ex1 st1 r1 f1 => ?_)
      have f1' : FinL G (WW G Wx σ) α1 μ1 H1 ((evalE (evOf G.T n) v ρ μ1).bind fun y μ2 => (evalEs (evOf G.T n) r ρ μ2).bind fun ys μ3 => .ok (d :: y :: ys) μ3) (fun xs H1 => ∀ ps, xs = inter ps → Q ps H1) := by
        have e : (((evalE (evOf G.T n) v ρ μ1).bind fun y μ2 => (evalEs (evOf G.T n) r ρ μ2).bind fun ys μ3 => .ok (y :: ys) μ3).bind fun xs μ4 => .ok (d :: xs) μ4) = ((evalE (evOf G.T n) v ρ μ1).bind fun y μ2 => (evalEs (evOf G.T n) r ρ μ2).bind fun ys μ3 => R.ok (d :: y :: ys) μ3) := by
          cases evalE (evOf G.T n) v ρ μ1 with
          | ok y μ2 =>
            show (((evalEs (evOf G.T n) r ρ μ2).bind fun ys μ3 => R.ok (y :: ys) μ3).bind fun xs μ4 => .ok (d :: xs) μ4) = ((evalEs (evOf G.T n) r ρ μ2).bind fun ys μ3 => R.ok (d :: y :: ys) μ3)
            cases evalEs (evOf G.T n) r ρ μ2 <;> rfl
          | exc c pl mm => rfl
          | err => rfl
        rw [← e]
        exact f1
      refine s2 N sc X Wx ve α1 μ1 ρ σ H1 _ hr h2 st1 (en.ext ex1) (FinG.bind f1' fun d2 μ2 α2 H2 y e2 ex2 st2 r2 f2 => ?_)
      refine ih r ks vs α2 μ2 ρ σ H2 _ (by simp at hm; omega) s3 h3 st2 ((en.ext ex1).ext ex2) ?_
      have f3 : FinL G (WW G Wx σ) α2 μ2 H2 (evalEs (evOf G.T n) r ρ μ2) (fun us H3 => ∀ ps, us = inter ps → Q ((x, y) :: ps) H3) := FinG.bind (rel := RepLR G) f2 fun ys μ3 α3 H3 us e3 ex3 st3 r3 f4 => by
        intro ps hps
        exact (FinG.now (rel := RepLR G) (v := x :: y :: us) f4 st3 (.cons ((r1.ext ex2).ext ex3) (.cons (r2.ext ex3) r3))) ((x, y) :: ps) (by rw [hps] <;> rfl)
      exact f3
theorem inter_len : ∀ ps : List (V × V), (inter ps).length = 2 * ps.length
  | [] => rfl
  | (a, b) :: r => by
    show (inter r).length + 1 + 1 = 2 * (r.length + 1)
    rw [inter_len r]
    omega
theorem disp_rep {α : Al} {μ : Mu} {H : Hp} : ∀ (ps : List (V × V)) (ds : List D) (acc : List (Key × V)) (accl l : List (DK × D)), RepL G α μ H (inter ps) ds → dshow ds accl = some l → RepK G α μ H acc accl → ∃ kvs : List (Key × V), ps = kvs.map (fun kv => (kV kv.1, kv.2)) ∧ RepK G α μ H (mergeK acc kvs) l
  | [], ds, acc, accl, l, r, h, ra => by
    cases r
    cases h
    exact ⟨[], rfl, ra⟩
  | (a, b) :: ps, ds, acc, accl, l, r, h, ra => by
    have r' : RepL G α μ H (a :: b :: inter ps) ds := r
    cases r' with
    | @cons _ k _ _ ka t =>
      cases t with
      | @cons _ v _ ds' vb t =>
        have h' : (match keyOf? k with
          | some kk => dshow ds' (dput accl kk v)
          | none => none) = some l := h
        cases ek : keyOf? k with
        | none => rw [ek] at h'; cases h'
        | some kk =>
          rw [ek] at h'
          obtain ⟨kvs, e, rk⟩ := disp_rep ps ds' (putK acc (keyK kk) b) (dput accl kk v) l t h' (RepK.put vb ra)
          exact ⟨(keyK kk, b) :: kvs, by rw [e, key_of ka ek] <;> rfl, rk⟩
theorem evs_len {V : Ev} {ρ : Env} : ∀ {zs : ZEs} {N : List Str} {sc : Scope} {ks : List (Option Expr)} {vs : List Expr} {μ μ' : Mu} {ds : List D}, agPs M zs N sc ks vs = true → evalEs V zs ρ μ = .ok ds μ' → ds.length = 2 * ks.length
  | .nil, N, sc, [], [], μ, μ', ds, _, h => by
    cases h
    rfl
  | .cons k (.cons v r), N, sc, some ke :: ks, ve :: vs, μ, μ', ds, h, e => by
    obtain ⟨_, h3⟩ := band (show (agE M k N sc ke && agE M v N sc ve && agPs M r N sc ks vs) = true from h)
    have e' : ((evalE V k ρ μ).bind fun x μ1 => ((evalE V v ρ μ1).bind fun y μ2 => (evalEs V r ρ μ2).bind fun ys μ3 => .ok (y :: ys) μ3).bind fun xs μ4 => .ok (x :: xs) μ4) = .ok ds μ' := e
    cases e1 : evalE V k ρ μ with
    | exc c pl m => rw [e1] at e'; cases e'
    | err => rw [e1] at e'; cases e'
    | ok x μ1 =>
      rw [e1] at e'
      have e2 : (((evalE V v ρ μ1).bind fun y μ2 => (evalEs V r ρ μ2).bind fun ys μ3 => R.ok (y :: ys) μ3).bind fun xs μ4 => .ok (x :: xs) μ4) = .ok ds μ' := e'
      cases e3 : evalE V v ρ μ1 with
      | exc c pl m => rw [e3] at e2; cases e2
      | err => rw [e3] at e2; cases e2
      | ok y μ2 =>
        rw [e3] at e2
        have e4 : (((evalEs V r ρ μ2).bind fun ys μ3 => R.ok (y :: ys) μ3).bind fun xs μ4 => .ok (x :: xs) μ4) = .ok ds μ' := e2
        cases e5 : evalEs V r ρ μ2 with
        | exc c pl m => rw [e5] at e4; cases e4
        | err => rw [e5] at e4; cases e4
        | ok ys μ3 =>
          rw [e5] at e4
          have e6 : R.ok (x :: y :: ys) μ3 = .ok ds μ' := e4
          cases e6
          have := evs_len h3 e5
          simp [this]
          omega
/-- a new dict, held until now, is a datum or a cell -/
theorem held_end {m : Bool} {W : XW} {α : Al} {μ : Mu} {H : Hp} {D0 : Addr} {c : List Addr} {acc : List (Key × V)} {l : List (DK × D)} {μF : Mu} {H2 : Hp} {Q : VK} (hD : D0 ∉ α.r) (hacc : H2 D0 = some (.dK acc)) (st2 : StOk G ⟨c, D0 :: α.r⟩ μF H2) (ex2 : Ext0 α μ H ⟨c, D0 :: α.r⟩ μF H2) (kr : ∀ p ∈ α.r, H2 p = H p)
    (rl : RepK G ⟨c, D0 :: α.r⟩ μF H2 acc l) (f : Fin1 G W α μ H (mkD m l μF) Q) : Q (.ref D0) H2 := by
  cases m with
  | false =>
    have exf : Ext0 ⟨c, D0 :: α.r⟩ μF H2 ⟨c, α.r⟩ μF H2 := ext0_free
    have dead : ¬ Live (⟨c, α.r⟩ : Al) μF D0 := fun q => q.elim (fun q => (st2.rs D0 List.mem_cons_self).2 q) hD
    exact f ⟨c, α.r⟩ H2 (.ref D0) ⟨ex2.trans exf, rfl, kr⟩ st2.free (.dic ⟨.inl hacc, dead⟩ (rl.ext0 exf))
  | true =>
    obtain ⟨exa, sta⟩ := adoptO (o0 := .dic l) st2 hD fun ex => ⟨acc, hacc, rl.ext0 ex⟩
    exact f ⟨c ++ [D0], α.r⟩ H2 (.ref D0) ⟨ex2.trans exa, rfl, kr⟩ sta (.ref (by
      have hl : c.length = μF.length := st2.len
      show (c ++ [D0])[μF.length]? = some D0
      rw [← hl]; simp))
theorem snd_dic {m : Bool} {es : ZEs} (hs : SndA G M n es) : SndE G M n (.dic m es) := by
  intro N sc X Wx ex α μ ρ σ H Q hr h st en f
  cases ex with
  | Dict keys values pos =>
    have h' : (keys.all (·.isSome) && decide (keys.length = values.length) && decide (keys.length ≤ 15) && agPs M es N sc keys values) = true := h
    simp only [Bool.and_eq_true] at h'
    obtain ⟨⟨⟨h1, h2⟩, h3⟩, h4⟩ := h'
    have hl := of_decide_eq_true h2
    have f0 : Fin1 G (WW G Wx σ) α μ H ((evalEs (evOf G.T n) es ρ μ).pure1.bind fun ds μ1 => match dshow ds [] with
      | some l => mkD m l μ1
      | none => .err) Q := f
    cases e1 : evalEs (evOf G.T n) es ρ μ with
    | exc c pl mm => rw [e1] at f0; exact (show False from f0).elim
    | err => rw [e1] at f0; exact (show False from f0).elim
    | ok ds μ1 =>
      rw [e1] at f0
      have f1 : Fin1 G (WW G Wx σ) α μ H (match dshow ds [] with
        | some l => mkD m l μ1
        | none => .err) Q := f0
      cases ed : dshow ds [] with
      | none => rw [ed] at f1; exact (show False from f1).elim
      | some l =>
        rw [ed] at f1
        by_cases hk : keys = []
        · subst hk
          have hv : values = [] := List.eq_nil_of_length_eq_zero hl.symm
          subst hv
          cases es with
          | cons k r => cases r <;> cases h4
          | nil =>
            cases e1
            cases ed
            refine WE.of pe_dnewK fun p hp => ?_
            have hpr : p ∉ α.r := fun z => (st.rs p z).1 hp
            exact held_end (c := α.c) hpr upd_same (st.hold hp) (ext0_hold (G := G) hp) (fun q hq => upd_ne fun z => hpr (by rw [← z]; exact hq)) .nil f1
        · refine WE.of (pe_disp (pps_of h1 hl) h1 hl hk (of_decide_eq_true h3)) fun p hp => ?_
          have hpr : p ∉ α.r := fun z => (st.rs p z).1 hp
          have exh : Ext0 α μ H ⟨α.c, p :: α.r⟩ μ (upd H p (.dK [])) := ext0_hold (G := G) hp
          refine pairs_go hr keys.length es keys values ⟨α.c, p :: α.r⟩ μ ρ σ _ _ (Nat.le_refl _) hs h4 (st.hold hp) (en.ext0 exh) ?_
          rw [e1]
          intro α2 H2 vs ex2 st2 r2 ps hps
          obtain ⟨c2, rr2⟩ := α2
          obtain rfl : rr2 = p :: α.r := ex2.res
          have hp2 : H2 p = some (.dK []) := by rw [ex2.kr p List.mem_cons_self]; exact upd_same
          rw [hps] at r2
          obtain ⟨kvs, ek, rk⟩ := disp_rep ps ds [] [] l r2 ed .nil
          have hlen : kvs.length ≤ 15 := by
            have a1 := r2.len
            rw [inter_len, evs_len h4 e1] at a1
            have a2 : ps.length = kvs.length := by rw [ek, List.length_map]
            have a3 := of_decide_eq_true h3
            omega
          refine ⟨hp2, kvs, ek, hlen, ?_⟩
          have exd : Ext0 ⟨c2, p :: α.r⟩ μ1 H2 ⟨c2, p :: α.r⟩ μ1 (upd H2 p (.dK (mergeK [] kvs))) := ext0_held List.mem_cons_self
          exact held_end hpr upd_same (st2.held List.mem_cons_self) ((exh.trans ex2.toExt0).trans exd) (fun q hq => by
            have ne : q ≠ p := fun z => hpr (by rw [← z]; exact hq)
            rw [upd_ne ne, ex2.kr q (List.mem_cons_of_mem _ hq), upd_ne ne]) (rk.ext0 exd) f1
  | _ => cases h
end
/-- a dict comprehension that is stored under a name -/
theorem ps_setDc {X : Cx} {i : Nat} {y : Str} {py : Pos} {kx vx tg iter : Expr} {ifs : List Expr} {scope : Scope} {own : List (Str × Nat)} {pos spos : Pos} {wi : TI} {g : TG} {tt : TT} {tk tv : TE} (hc : X.calm = true) (hN : X.N.Nodup) (hy : X.N[i]? = some y)
    (hyl : X.env.scope.names.lookup y = some .local) (hsw : swapsWith (.DictComp kx vx [⟨tg, iter, ifs, 0⟩] scope pos) (some (.Name y py)) spos.line X.env = pure true) (hi : PI X tg iter wi) (ok : BlkOk X.N X.env.scope scope own)
    (hg : ∀ (s : Shared) (H : Hp) (C : Addr) (cl : List (Str × Addr)) (fp : List Addr), PG (X.blk s H scope (compEnvC scope cl C X.env) fp) tg g) (ht : ∀ (s : Shared) (H : Hp) (C : Addr) (cl : List (Str × Addr)) (fp : List Addr), PTs (X.blk s H scope (compEnvC scope cl C X.env) fp) ifs tt)
    (hk : ∀ (s : Shared) (H : Hp) (C : Addr) (cl : List (Str × Addr)) (fp : List Addr), PE (X.blk s H scope (compEnvC scope cl C X.env) fp) kx tk) (he : ∀ (s : Shared) (H : Hp) (C : Addr) (cl : List (Str × Addr)) (fp : List Addr), PE (X.blk s H scope (compEnvC scope cl C X.env) fp) vx tv)
    (hs : ∀ x, foldedSetIterable iter X.env x = pure x) : PS X (.Assign [.Name y py] (.DictComp kx vx [⟨tg, iter, ifs, 0⟩] scope pos) spos) (tAsg (tDc wi g tt tk tv (own.map (·.2))) (gName i)) := by
  constructor
  intro pins s σ H D I h0
  have hD : tDc wi g tt tk tv (own.map (·.2)) σ H (fun x H1 => gName i x σ H1 D.nx) := h0
  rw [exec_Assign_Name_used _ _ _ _ hsw]
  apply wpAny_bind
  apply wpAny_standAt
  apply wpAny_bind
  show wpAny _ X.A (do let _ ← comprehension (.DictComp kx vx [⟨tg, iter, ifs, 0⟩] scope pos) scope X.env (firstIterPos [⟨tg, iter, ifs, 0⟩] pos) newDict false (eval iter X.env) (some (assign (.Name y py) X.env))) _ _ s
  apply wpAny_bind
  refine thn (dc_core (Qf := fun _ s2 => SP X pins D .next s2) hc hN I hi ok hg ht hk he hs hD fun L C s2 m H2 I2 q hn f => ?_) fun _ s2 hq => wpAny_pure (wpAny_pure hq)
  show wpAny _ _ (assign (.Name y py) X.env (.ref L)) _ _ _
  apply wpAny_assign_Name
  refine store_ok2 (v := V.ref L) I2 hN hy (.inl hyl) rfl (fun s3 I3 ⟨a, sb, ha⟩ => ?_) (.inr hyl)
  obtain ⟨f0, f1, f2, f3, f4, f5⟩ := f
  have hCa : C ≠ a := ha.elim (fun z => by rw [z]; exact f1) fun z e => f4 y a z e.symm
  exact ⟨m, hn.sameBut sb hCa, fun h4 sb4 => ⟨_, H2, I3.turned (t' := s3.toks) (fun b o hb e => (sb4.2 b hb).trans e) f0 f1 f3 f4 f5, q⟩⟩
theorem sw_trueD {kx vx : Expr} {gs : List Comprehension} {scope : Scope} {pos py : Pos} {y : Str} {l : Nat} {env : PySem.Env} (hk : env.scope.kind = .function) (hy : env.scope.names.lookup y = some .local) (hl : (py.line == pos.line) = true)
    (ha : (scope.names.any fun (n, k) => n == y && (k == .local || k == .cell)) = false) : swapsWith (.DictComp kx vx gs scope pos) (some (.Name y py)) l env = pure true := by
  have k1 : env.kindOf y = some .local := hy
  have k2 : env.blockKind = .function := by
    unfold Env.blockKind
    rw [hk] <;> rfl
  unfold swapsWith
  simp only [k2, k1, ha, Expr.pos, hl]
  rfl
end Z

end
section
set_option maxHeartbeats 4000000
set_option autoImplicit false
/-! Zm: a dict's pairs put into another one. -/
namespace ZM
open PySem PySem.Spec
section
variable {prog : Program} {w : World} {K : Type} [DecidableEq K] {knd : KeyKind prog w K} {A : Around} {E : Value → Shared → Prop} {s : Shared}
theorem put_pairs {d : Addr} {kvs : List (K × Value)} {k : K} {key v : Value} {Q : Unit → Shared → Prop} (hkey : knd.is k key = true) (hm : s.heap.DictOf knd d kvs) (hsz : kvs.length ≤ sizeLine)
    (hQ : ∀ h2, h2.DictOf knd d (stored kvs k v) → Heap.SameBut d s.heap h2 → Q () { s with heap := h2 }) : wpAny (model prog w) A (dictPut d (knd.hash k) key v) Q E s := by
  obtain ⟨ob, ens, ep, ho, hc, hd, hk, hp, hn⟩ := hm
  have len1 := hp.length
  have len2 : ens.toList.length = ens.size := Array.length_toList
  unfold dictPut
  apply wpAny_bind
  apply wpAny_dictFind_of hkey ho hd hk
  have where_ : (ens.findIdx? fun e => knd.is k e.key) = kvs.findIdx? fun q => decide (q.1 = k) := by
    rw [← hp.findIdx k]; cases ens; simp
  cases at_ : ens.findIdx? fun e => knd.is k e.key with
  | some i =>
    have inl : (ens.toList.findIdx? fun e => knd.is k e.key) = some i := by rw [← at_]; cases ens; simp
    have old := any_of_findIdx_some (where_ ▸ at_)
    refine wpAny_updateDict ho hd (hQ _ ⟨_, _, ep, Heap.get?_update_self _ ho (Obj.isFreed_of_dict (Obj.data_mapDict hd _)), hc.mapDict _, Obj.data_mapDict hd _, hk.modify _ _, ?_, ?_⟩ (Heap.SameBut.update ..))
    · have m := hp.modify hn inl v
      rw [stored, if_pos old, Array.toList_modify]
      exact m
    · rw [stored, if_pos old, keys_map_store]
      exact hn
  | none =>
    have new := not_mem_of_findIdx_none (where_ ▸ at_)
    have no : ¬ (kvs.any fun q => decide (q.1 = k)) = true := fun z => by
      obtain ⟨q, hq, e⟩ := List.any_eq_true.mp z
      exact new (List.mem_map.mpr ⟨q, hq, of_decide_eq_true e⟩)
    refine wpAny_updateDictKeys (hz := by omega) ho hd (hQ _ ⟨_, _, ep + 1, Heap.get?_update_self _ ho (Obj.isFreed_of_dict (Obj.data_mapDictKeys hd _)), hc.mapDictKeys _, Obj.data_mapDictKeys hd _, hk.push hkey _, ?_, ?_⟩ (Heap.SameBut.update ..))
    · have m := hp.append hkey (knd.hash k) v
      rw [stored, if_neg no, Array.toList_push]
      exact m
    · rw [stored, if_neg no, List.map_append]
      exact L2.nd_snoc hn new
theorem pairs_at : ∀ {es : List DictEntry} {kvs : List (K × Value)}, Pairs knd es kvs → ∀ {i : Nat} {e : DictEntry}, es[i]? = some e → ∃ q, kvs[i]? = some q ∧ knd.is q.1 e.key = true ∧ e.val = q.2
  | _, _, .nil, i, e, h => by simp at h
  | _, _, .cons h1 h2 t, i, e, h => by
    cases i with
    | zero => cases h; exact ⟨_, rfl, h1, h2⟩
    | succ i => exact pairs_at t h
theorem merge_of {d a : Addr} {kvs more : List (K × Value)} {Q : Unit → Shared → Prop} (hda : d ≠ a) (hsys : (a == sysModules) = false) (hd : s.heap.DictOf knd d kvs) (ha : s.heap.DictOf knd a more) (hsz : kvs.length + more.length ≤ sizeLine)
    (hQ : ∀ h2, h2.DictOf knd d (merged kvs more) → Heap.SameBut d s.heap h2 → Q () { s with heap := h2 }) : wpAny (model prog w) A (mergeMapping d (.ref a) false) Q E s := by
  have ha0 := ha
  obtain ⟨oa, ea, epa, hoa, hca, hda', hka, hpa, hna⟩ := ha
  obtain ⟨od, ed, epd, hod, hcd, hdd, hkd, hpd, hnd⟩ := id hd
  have hsz1 : more.length ≤ sizeLine := by omega
  have sz : ea.size = more.length := by rw [← Array.length_toList]; exact hpa.length
  unfold mergeMapping
  refine wpAny_bind (wpAny_bind (wpAny_typeOf ha0.typeIs (wpAny_of_eq (a := true) (by rw [isSubtype_type]; kernel_rfl) ?_)))
  simp only [if_true]
  refine wpAny_bind (wpAny_specialOf ha0.typeIs F.slot_dict_iter.lookup (wpAny_bind (wpAny_pure ?_)))
  have t1 : (some (Value.builtin "dict.__iter__") == some (Value.builtin "dict.__iter__")) = true := by decide
  rw [t1]
  simp only [hsys, Bool.false_eq_true, if_false]
  have loop : wpAny (model prog w) A (do
      let ents ← dictEntries a
      let epoch ← dictEpoch a
      forIn (List.range ents.size) PUnit.unit fun i __s => do
          let __do_lift ← dictEntries a
          match __do_lift[i]? with
            | some e => do
              holding [e.key, e.val] (dictPut d e.hash e.key e.val)
              let __do_lift ← dictEpoch a
              if (__do_lift != epoch) = true then do
                  unsupported "dict.changed-during-merge"
                  pure (ForInStep.yield PUnit.unit)
                else pure (ForInStep.yield PUnit.unit)
            | x => do
              unsupported "dict.changed-during-merge"
              pure (ForInStep.yield PUnit.unit)
      pure ()) Q E s := by
    refine wpAny_bind (wpAny_dictEntries hoa hda' (wpAny_bind (wpAny_dictEpoch hoa hda' (wpAny_bind ?_))))
    refine wpAny_forIn_list _ (fun rest _ s2 => ∃ i h2, i ≤ ea.size ∧ rest = List.range' i (ea.size - i) ∧ s2 = { s with heap := h2 } ∧ h2.DictOf knd d (merged kvs (more.take i)) ∧ Heap.SameBut d s.heap h2) _ ?_ ?_ _ _ ?_
    · rintro x rest _ _ ⟨i, h2, hi, hr, rfl, hD, hS⟩
      have hlt : i < ea.size := by
        rcases Nat.lt_or_ge i ea.size with z | z
        · exact z
        · rw [show ea.size - i = 0 by omega] at hr; cases hr
      rw [show ea.size - i = (ea.size - (i + 1)) + 1 by omega, List.range'_succ] at hr
      injection hr with e1 e2
      subst e1
      have oa2 : h2.get? a = some oa := (hS.2 a hda.symm).trans hoa
      refine wpAny_bind (wpAny_dictEntries (s := { s with heap := h2 }) oa2 hda' ?_)
      have hge : ea[x]? = some ea[x] := Array.getElem?_eq_getElem hlt
      rw [hge]
      have hgl : ea.toList[x]? = some ea[x] := by rw [Array.getElem?_toList]; exact hge
      obtain ⟨q, hq, hk1, hv1⟩ := pairs_at hpa hgl
      obtain ⟨k2, hk2, hh2⟩ := hka ea[x] (Array.getElem_mem hlt)
      have ek : q.1 = k2 := knd.inj _ _ _ hk1 hk2
      refine wpAny_bind (wpAny_holding ?_)
      rw [hh2, ← ek]
      refine put_pairs (s := { s with heap := h2 }) hk1 hD (by
        have := merged_length_le kvs (more.take x)
        rw [List.length_take] at this
        omega) fun h3 hD3 hS3 => ?_
      have oa3 : h3.get? a = some oa := (hS3.2 a hda.symm).trans oa2
      refine wpAny_bind (wpAny_dictEpoch (s := { s with heap := h3 }) oa3 hda' ?_)
      rw [if_neg (by simp)]
      refine wpAny_pure ⟨x + 1, h3, hlt, e2, rfl, ?_, hS.trans hS3⟩
      rw [merged_take_succ kvs more x q hq, ← hv1]
      exact hD3
    · rintro _ _ ⟨i, h2, hi, hr, rfl, hD, hS⟩
      have : i = ea.size := by
        rcases Nat.lt_or_ge i ea.size with z | z
        · rw [show ea.size - i = (ea.size - (i + 1)) + 1 by omega, List.range'_succ] at hr; cases hr
        · omega
      subst this
      rw [sz, List.take_length] at hD
      exact wpAny_pure (hQ h2 hD hS)
    · exact ⟨0, s.heap, Nat.zero_le _, by rw [List.range_eq_range']; rfl, rfl, hd, Heap.SameBut.refl ..⟩
  refine wpAny_bind (wpAny_dictEntries hod hdd ?_)
  by_cases em : ed.isEmpty = true
  · rw [if_pos em]
    refine wpAny_bind (wpAny_dictEntries hoa hda' (wpAny_bind ?_))
    refine PySem.MeetsSeq2.wpAny_forIn_array _ (fun rest _ s2 => s2 = s ∧ ∀ e ∈ rest, e ∈ ea.toList) _ ?_ ?_ _ _ ⟨rfl, fun _ h => h⟩
    · rintro x rest _ s2 ⟨e2, hin⟩
      obtain ⟨k2, hk2, _⟩ := hka x (Array.mem_toList_iff.mp (hin x List.mem_cons_self))
      have bv := knd.byValue k2 _ hk2
      cases hx : x.key with
      | ref b => rw [hx] at bv; cases bv
      | _ => exact wpAny_pure ⟨e2, fun e he => hin e (List.mem_cons_of_mem _ he)⟩
    · rintro _ s2 ⟨e2, _⟩
      rw [e2]
      exact loop
  · rw [if_neg em]
    exact loop
theorem display_star {d : Addr} {tm tk tv : Sem Value} {Q : Value → Shared → Prop} {Gd : Shared → Prop} (hd : d = s.heap.objs.size)
    (h : wpAny (model prog w) A tm (fun m s1 => ∀ E', wpAny (model prog w) A (mergeMapping d m false) (fun _ s2 => Gd s2) E' s1) E { s with heap := s.heap.push { cls := .type "dict", data := .dict #[] } })
    (hG : ∀ s2, Gd s2 → wpAny (model prog w) A (subDict [(tk, tv)]) (fun sub s3 => ∀ E', wpAny (model prog w) A (mergeMapping d (.ref sub) false) (fun _ s4 => Q (.ref d) s4) E' s3) E s2) :
    wpAny (model prog w) A (dictDisplay [(none, tm), (some tk, tv)]) Q E s := by
  subst hd
  unfold dictDisplay
  simp only [List.forIn_cons, List.forIn_nil]
  refine wpAny_bind (wpAny_bind (wpAny_bind ?_))
  rw [if_pos (show ([] : List (Sem Value × Sem Value)).isEmpty = true from rfl)]
  refine wpAny_pure (wpAny_bind (wpAny_alloc (wpAny_bind (wpAny_holding (wpAny_mono h (fun m s1 h1 => ?_) fun _ _ z => z)))))
  refine wpAny_bind (wpAny_onRaise (wpAny_tryCatch (wpAny_onRaise (wpAny_holding (wpAny_mono (h1 _) (fun _ s2 g2 => ?_) fun _ _ z => z)))))
  refine wpAny_pure ?_
  refine wpAny_bind ?_
  rw [if_neg (fun z => by cases z)]
  refine wpAny_pure (wpAny_pure ?_)
  dsimp only
  refine wpAny_bind ?_
  rw [if_neg (by simp)]
  refine wpAny_bind (wpAny_holding (wpAny_mono (hG s2 g2) (fun sub s3 h3 => ?_) fun _ _ z => z))
  refine wpAny_bind (wpAny_onRaise (wpAny_holding (wpAny_mono (h3 _) (fun _ s4 h4 => ?_) fun _ _ z => z)))
  exact wpAny_pure (wpAny_pure h4)
end
end ZM

end
section
set_option maxHeartbeats 4000000
set_option autoImplicit false
/-! Zp: {**a, k: v}. -/
namespace Z
open PySem PySem.Spec PyProof.Rows L2
def tDst (ta tk tv : TE) : TE := fun σ H Q => ∀ p, H p = none → ta σ (upd H p (.dK [])) fun x H1 => ∃ (q : Addr) (kvs : List (Key × V)), x = .ref q ∧ Rd H1 q (.dK kvs) ∧ p ≠ q ∧ H1 p = some (.dK []) ∧ kvs.length + 2 ≤ sizeLine ∧
  ∀ sb, upd H1 p (.dK kvs) sb = none → tk σ (upd (upd H1 p (.dK kvs)) sb (.dK [])) fun y H2 => tv σ H2 fun z H3 => ∃ key, y = kV key ∧ H3 sb = some (.dK []) ∧ H3 p = some (.dK kvs) ∧
    Q (.ref p) (upd (upd H3 sb (.dK [(key, z)])) p (.dK (putK kvs key z)))
theorem pe_dstar {X : Cx} {a k v : Expr} {pos : Pos} {ta tk tv : TE} (ha : PE X a ta) (hk : PE X k tk) (hv : PE X v tv) : PE X (.Dict [none, some k] [a, v] pos) (tDst ta tk tv) := by
  constructor
  intro pins s σ H Q I h
  have big := I.big
  have free0 := I.hok.fresh (Nat.le_refl s.heap.objs.size)
  have I1 := I.laid (a := s.heap.objs.size) (o := .dK []) (h' := s.heap.push { cls := .type "dict", data := .dict #[] }) (t' := s.toks) (fun _ _ q => Heap.get?_push_of_some _ q) (Nat.le_refl _) (dk_empty s.heap I.big)
  rw [arm_eval_Dict]
  refine wpAny_bind (wpAny_standAt ?_)
  show wpAny _ _ (dictDisplay [(none, do let x ← eval a X.env; standAt pos; pure x), (some (eval k X.env), do let x ← eval v X.env; standAt pos; pure x)]) _ _ _
  refine ZM.display_star (d := s.heap.objs.size) (Gd := fun s2 => ∃ (H1 : Hp) (kvs : List (Key × V)), Inv X pins σ (upd H1 s.heap.objs.size (.dK kvs)) s2 ∧ kvs.length + 2 ≤ sizeLine ∧
    ∀ sb, upd H1 s.heap.objs.size (.dK kvs) sb = none → tk σ (upd (upd H1 s.heap.objs.size (.dK kvs)) sb (.dK [])) fun y H2 => tv σ H2 fun z H3 => ∃ key, y = kV key ∧ H3 sb = some (.dK []) ∧ H3 s.heap.objs.size = some (.dK kvs) ∧
      Q (.ref s.heap.objs.size) (upd (upd H3 sb (.dK [(key, z)])) s.heap.objs.size (.dK (putK kvs key z)))) rfl ?_ ?_
  · refine wpAny_bind (thn (ha.run pins _ σ _ _ I1 (h _ free0)) fun u s1 ⟨x, H1, I2, rx, q, kvs, ex, hq, hpq, hp, hl, rest⟩ => wpAny_bind (wpAny_standAt (wpAny_pure fun E' => ?_)))
    subst ex
    obtain rfl : u = Value.ref q := rx
    obtain ⟨_, hsysP, vs0, r0, ddP⟩ := dk_of I2.hok hp
    cases r0
    obtain ⟨_, hsysQ, vs, rq, ddQ⟩ := dk_rd I2.hok hq
    have lq : kvs.length = vs.length := rq.length
    have nd : (vs.map (·.1)).Nodup := let ⟨_, _, _, _, _, _, _, _, hn⟩ := ddQ; hn
    refine ZM.merge_of (knd := mixKind X.prog X.w) hpq hsysQ ddP ddQ (by rw [List.length_nil]; omega) fun h2 dd2 sb2 => ⟨H1, kvs, ?_, hl, rest⟩
    rw [merged_nil_of_nodup vs nd] at dd2
    have he : ∃ q, h2.get? s.heap.objs.size = some q := let ⟨q, _, _, hq, _⟩ := dd2; ⟨q, hq⟩
    exact d_write (t' := s1.toks) I2 (by rw [hp]; exact True.intro) sb2 he (dk_new (by omega) hsysP rq dd2)
  · rintro s2 ⟨H1, kvs, I2, hl, rest⟩
    have free2 := I2.hok.fresh (Nat.le_refl s2.heap.objs.size)
    have I3 := I2.laid (a := s2.heap.objs.size) (o := .dK []) (h' := s2.heap.push { cls := .type "dict", data := .dict #[] }) (t' := s2.toks) (fun _ _ q => Heap.get?_push_of_some _ q) (Nat.le_refl _) (dk_empty s2.heap I2.big)
    have pp : PPs X pos [some k] [v] [(tk, tv)] := pps_cons hk hv pps_nil
    have go := pp.run pins _ σ _ (fun ps H3 => match ps with
      | [(y, z)] => ∃ key, y = kV key ∧ H3 s2.heap.objs.size = some (.dK []) ∧ H3 s.heap.objs.size = some (.dK kvs) ∧ Q (.ref s.heap.objs.size) (upd (upd H3 s2.heap.objs.size (.dK [(key, z)])) s.heap.objs.size (.dK (putK kvs key z)))
      | _ => False) I3 (rest _ free2)
    refine wpAny_subDict (knd := mixKind X.prog X.w) (by show 1 ≤ 15; decide) (thn go fun ws s3 ⟨ps, H3, I4, rel, q⟩ => ?_)
    match ps, q with
    | [(y, z)], ⟨key, ey, hsb, hp, q⟩ =>
      subst ey
      obtain ⟨rs, c, rk⟩ := carries_of (P := X.prog) (w := X.w) (kvs := [(key, z)]) rel
      obtain ⟨_, hsysS, vs1, r1, ddS⟩ := dk_of I4.hok hsb
      cases r1
      refine ⟨rs, c, ddS, fun h' dd' sb' E' => ?_⟩
      have hne : s.heap.objs.size ≠ s2.heap.objs.size := fun e => by
        rw [← e] at hsb
        have f2 := free2
        rw [← e, upd_same] at f2
        cases f2
      have he : ∃ q, h'.get? s2.heap.objs.size = some q := let ⟨q, _, _, hq, _⟩ := dd'; ⟨q, hq⟩
      have rk1 : KV (mergeK [] [(key, z)]) (merged [] rs) := rk.merge .nil
      have I5 := d_write (t' := s3.toks + ws.length) I4 (by rw [hsb]; exact True.intro) sb' he (dk_new (kvs := [(key, z)]) (by rw [sizeLine_eq]; show 1 ≤ 16777216; decide) hsysS rk1 dd')
      have hp5 : upd H3 s2.heap.objs.size (.dK [(key, z)]) s.heap.objs.size = some (.dK kvs) := by rw [upd_ne hne]; exact hp
      obtain ⟨_, hsysP, vsp, rp, ddP⟩ := dk_of I5.hok hp5
      have lp : kvs.length = vsp.length := rp.length
      have lr : (mergeK [] [(key, z)]).length = (merged [] rs).length := rk1.length
      have l1 : (mergeK [] [(key, z)]).length = 1 := rfl
      refine ZM.merge_of (knd := mixKind X.prog X.w) hne hsysS ddP dd' (by omega) fun h6 dd6 sb6 => ?_
      have he6 : ∃ q, h6.get? s.heap.objs.size = some q := let ⟨q, _, _, hq, _⟩ := dd6; ⟨q, hq⟩
      have lput := length_putK kvs key z
      exact ⟨.ref s.heap.objs.size, _, d_write (t' := s3.toks + ws.length) I5 (by rw [hp5]; exact True.intro) sb6 he6 (dk_new (kvs := putK kvs key z) (by omega) hsysP (rk1.merge rp) dd6), rfl, q⟩
section
variable {G : Tx} {M : Nm} {n : Nat}
theorem snd_dstar {a k v : ZE} (ha : SndE G M n a) (hk : SndE G M n k) (hv : SndE G M n v) : SndE G M n (.dstar a k v) := by
  intro N sc X Wx ex α μ ρ σ H Q hr h st en f
  cases ex with
  | Dict keys values pos =>
    match keys, values, h with
    | [none, some ke], [ae, ve], h =>
      have h' : (agE M a N sc ae && agE M k N sc ke && agE M v N sc ve) = true := h
      simp only [Bool.and_eq_true] at h'
      obtain ⟨⟨h1, h2⟩, h3⟩ := h'
      have f0 : Fin1 G (WW G Wx σ) α μ H ((evalE (evOf G.T n) a ρ μ).pure1.bind fun x μ1 => (evalE (evOf G.T n) k ρ μ1).pure1.bind fun y μ2 => (evalE (evOf G.T n) v ρ μ2).pure1.bind fun z μ3 => dstR x y z μ3) Q := f
      cases e1 : evalE (evOf G.T n) a ρ μ with
      | exc c pl mm => rw [e1] at f0; exact (show False from f0).elim
      | err => rw [e1] at f0; exact (show False from f0).elim
      | ok x μ1 =>
      rw [e1] at f0
      have f1 : Fin1 G (WW G Wx σ) α μ H ((evalE (evOf G.T n) k ρ μ1).pure1.bind fun y μ2 => (evalE (evOf G.T n) v ρ μ2).pure1.bind fun z μ3 => dstR x y z μ3) Q := f0
      cases e2 : evalE (evOf G.T n) k ρ μ1 with
      | exc c pl mm => rw [e2] at f1; exact (show False from f1).elim
      | err => rw [e2] at f1; exact (show False from f1).elim
      | ok y μ2 =>
      rw [e2] at f1
      have f2 : Fin1 G (WW G Wx σ) α μ H ((evalE (evOf G.T n) v ρ μ2).pure1.bind fun z μ3 => dstR x y z μ3) Q := f1
      cases e3 : evalE (evOf G.T n) v ρ μ2 with
      | exc c pl mm => rw [e3] at f2; exact (show False from f2).elim
      | err => rw [e3] at f2; exact (show False from f2).elim
      | ok z μ3 =>
      rw [e3] at f2
      have f3 : Fin1 G (WW G Wx σ) α μ H (dstR x y z μ3) Q := f2
      unfold dstR at f3
      cases x <;> first | exact (show False from f3).elim | skip
      rename_i l
      cases ek : keyOf? y with
      | none => rw [ek] at f3; exact (show False from f3).elim
      | some kk =>
      rw [ek] at f3
      have f4 : Fin1 G (WW G Wx σ) α μ H (if l.length < lim then .ok (.dic (dput l kk z)) μ3 else .err) Q := f3
      by_cases hlim : l.length < lim
      · rw [if_pos hlim] at f4
        refine WE.of (pe_dstar pe_we pe_we pe_we) fun p hp => ?_
        have hpr : p ∉ α.r := fun z => (st.rs p z).1 hp
        have exh : Ext0 α μ H ⟨α.c, p :: α.r⟩ μ (upd H p (.dK [])) := ext0_hold (G := G) hp
        refine ha N sc X Wx ae ⟨α.c, p :: α.r⟩ μ ρ σ _ _ hr h1 (st.hold hp) (en.ext0 exh) ?_
        rw [e1]
        intro α2 H2 w2 ex2 st2 r2
        obtain ⟨c2, rr2⟩ := α2
        obtain rfl : rr2 = p :: α.r := ex2.res
        have hp2 : H2 p = some (.dK []) := by rw [ex2.kr p List.mem_cons_self]; exact upd_same
        cases r2 with
        | @dic q kvs _ hq rk =>
        have hpq : p ≠ q := fun e => hq.2 (.inr (by rw [← e]; exact List.mem_cons_self))
        have hlen : kvs.length + 2 ≤ sizeLine := by
          have := rk.len
          have := lim_le (k := kvs.length + 1) (by unfold lim at *; omega)
          rw [sizeLine_eq] at *
          unfold lim at hlim
          omega
        refine ⟨q, kvs, rfl, hq.1, hpq, hp2, hlen, fun sb hsb => ?_⟩
        have exp : Ext0 ⟨c2, p :: α.r⟩ μ1 H2 ⟨c2, p :: α.r⟩ μ1 (upd H2 p (.dK kvs)) := ext0_held List.mem_cons_self
        have stp : StOk G ⟨c2, p :: α.r⟩ μ1 (upd H2 p (.dK kvs)) := st2.held List.mem_cons_self
        have exs : Ext0 ⟨c2, p :: α.r⟩ μ1 (upd H2 p (.dK kvs)) ⟨c2, sb :: p :: α.r⟩ μ1 (upd (upd H2 p (.dK kvs)) sb (.dK [])) := ext0_hold (G := G) hsb
        have en3 := ((en.ext0 exh).ext0 ex2.toExt0).ext0 (exp.trans exs)
        have hsp : sb ≠ p := fun e => by rw [e, upd_same] at hsb; cases hsb
        refine hk N sc X Wx ke ⟨c2, sb :: p :: α.r⟩ μ1 ρ σ _ _ hr h2 (stp.hold hsb) en3 ?_
        rw [e2]
        intro α4 H4 w4 ex4 st4 r4
        refine hv N sc X Wx ve α4 μ2 ρ σ _ _ hr h3 st4 (en3.ext0 ex4.toExt0) ?_
        rw [e3]
        intro α5 H5 w5 ex5 st5 r5
        have ex45 := ex4.trans ex5
        obtain ⟨c5, rr5⟩ := α5
        obtain rfl : rr5 = sb :: p :: α.r := ex45.res
        have hs5 : H5 sb = some (.dK []) := by rw [ex45.kr sb List.mem_cons_self]; exact upd_same
        have hp5 : H5 p = some (.dK kvs) := by
          rw [ex45.kr p (List.mem_cons_of_mem _ List.mem_cons_self), upd_ne (fun e => hsp e.symm)]
          exact upd_same
        refine ⟨keyK kk, key_of r4 ek, hs5, hp5, ?_⟩
        have x1 : Ext0 ⟨c5, sb :: p :: α.r⟩ μ3 H5 ⟨c5, sb :: p :: α.r⟩ μ3 (upd H5 sb (.dK [(keyK kk, w5)])) := ext0_held List.mem_cons_self
        have s1 := st5.held (o := .dK [(keyK kk, w5)]) (p := sb) List.mem_cons_self
        have x2 : Ext0 ⟨c5, sb :: p :: α.r⟩ μ3 (upd H5 sb (.dK [(keyK kk, w5)])) ⟨c5, sb :: p :: α.r⟩ μ3 (upd (upd H5 sb (.dK [(keyK kk, w5)])) p (.dK (putK kvs (keyK kk) w5))) := ext0_held (List.mem_cons_of_mem _ List.mem_cons_self)
        have s2 := s1.held (o := .dK (putK kvs (keyK kk) w5)) (p := p) (List.mem_cons_of_mem _ List.mem_cons_self)
        have x3 : Ext0 ⟨c5, sb :: p :: α.r⟩ μ3 (upd (upd H5 sb (.dK [(keyK kk, w5)])) p (.dK (putK kvs (keyK kk) w5))) ⟨c5, p :: α.r⟩ μ3 (upd (upd H5 sb (.dK [(keyK kk, w5)])) p (.dK (putK kvs (keyK kk) w5))) := ext0_free
        have xx := (x1.trans x2).trans x3
        have all0 : Ext0 α μ H ⟨c5, p :: α.r⟩ μ3 (upd (upd H5 sb (.dK [(keyK kk, w5)])) p (.dK (putK kvs (keyK kk) w5))) := ((exh.trans ex2.toExt0).trans (exp.trans exs)).trans (ex45.toExt0.trans xx)
        refine held_end (m := false) hpr upd_same s2.free all0 (fun q hq' => ?_) (RepK.put (r5.ext0 xx) (rk.ext0 ((exp.trans exs).trans (ex45.toExt0.trans xx)))) f4
        have n1 : q ≠ p := fun e => hpr (by rw [← e]; exact hq')
        have n2 : q ≠ sb := fun e => by
          have z := hsb
          rw [← e, upd_ne n1, ex2.kr q (List.mem_cons_of_mem _ hq'), upd_ne n1] at z
          exact (st.rs q hq').1 z
        rw [upd_ne n1, upd_ne n2, ex45.kr q (List.mem_cons_of_mem _ (List.mem_cons_of_mem _ hq')), upd_ne n2, upd_ne n1, ex2.kr q (List.mem_cons_of_mem _ hq'), upd_ne n1]
      · rw [if_neg hlim] at f4
        exact (show False from f4).elim
  | _ => cases h
end
end Z

end
section
set_option maxHeartbeats 4000000
set_option autoImplicit false
/-! ZX1: isinstance of a caught error that has fields. -/
namespace Z
open PySem PySem.Spec PyProof.Rows L2 PySem.W PySem.Calls
section
variable {prog : Program} {w : World} {A : Around} {E : Value → Shared → Prop} {s : Shared} {K : Frag} {x C : Addr} {oe o2 : Obj}
theorem cls_of_err {Q : Option Value → Shared → Prop} (T : L2.ExcC K C) (X : K.In s.heap) (I : InstAt s.heap x oe C (some o2)) (h : Q (some (.ref C)) { s with toks := s.toks + 1 }) :
    wpAny (model prog w) A (getAttr? (.ref x) "__class__") Q E s := by
  have some1 : (clsIn K C).isSome = true := by
    obtain ⟨_, hc, _⟩ := any_some T.hd
    rw [hc]
    rfl
  have found := findObj_data (od := o2) some1 T.ha T.hn T.ht
  obtain ⟨hh, gs, dr, n, os⟩ := s
  have la := I.type (M := model prog w)
  have lb := looks_findIn (M := model prog w) X T.hg
  have lc := looks_findIn (M := model prog w) X T.hk
  have ld := looks_find (M := model prog w) X I found
  have le : Looks (model prog w) hh (isInstance (.ref x) (.type "BaseException")) true := la.andThen (looks_subIn X T.hs)
  have neg : ((Value.builtin "BaseException.__getattribute__") == (.builtin "object.__getattribute__")) = false := by decide +kernel
  simp only [getAttr?, getAttrBy?, getAttrBy]
  refine wpAny_bind (wpAny_mkText (wpAny_bind (wpAny_attempt (wpAny_holding (wpAny_bind (Looks.at la (wpAny_bind (Looks.at lb ?_))))))))
  show wpAny _ _ (ite ((onTheHeap (Value.ref C) && Value.builtin "BaseException.__getattribute__" == Value.builtin "object.__getattribute__") = true) _ _) _ _ _
  rw [neg, Bool.and_false, if_neg Bool.false_ne_true]
  simp only [getAttrByItsOwn, hookBefore]
  refine wpAny_bind ?_
  simp only [show onTheHeap (Value.ref C) = true from rfl, if_true]
  refine Looks.at lc (wpAny_bind (wpAny_attempt (wpAny_holding ?_)))
  unfold callGetattribute
  rw [Bool.false_and, if_neg Bool.false_ne_true, boundAndCalled, PySem.F.excAttr_ValueError.ga.bind (.ref x)]
  refine wpAny_bind (wpAny_pure ?_)
  show wpAny _ _ (call (Value.builtin "BaseException.__getattribute__") [Value.ref x, Value.str "__class__" n]) _ _ _
  refine wpAny_call (codeAny_call_builtin PySem.F.excAttr_ValueError.ga.plain PySem.F.entry_bexc_ga ?_)
  have kd : builtinKind "BaseException.__getattribute__" = some .slot := by decide +kernel
  have sp : splitId "BaseException.__getattribute__" = some ("BaseException", "__getattribute__") := by decide +kernel
  have ar := PySem.F.args_bexc_ga (.ref x) (.str "__class__" n)
  refine @check_slot (model prog w) _ _ ⟨hh, gs, dr, n + 1, os⟩ "BaseException.__getattribute__" "BaseException" "__getattribute__" (.ref x) [.str "__class__" n] [] _ kd sp le ar ?_
  unfold Builtin.«object.__getattribute__»
  refine wpAny_bind (wpAny_of_eq (a := ((Value.ref x : Value), [Value.str "__class__" n])) (by first | rfl | (simp only [slotArgs]; rfl)) ?_)
  refine wpAny_bind (wpAny_pure (wpAny_bind (Looks.at la (wpAny_bind (Looks.at ld ?_)))))
  show wpAny _ _ ((holding [Value.builtin "object.__class__"] (call (.builtin "getset_descriptor.__get__") [.builtin "object.__class__", .ref x, .ref C])) >>= ret) _ _ _
  refine wpAny_bind (wpAny_holding (wpAny_call (class_get (s := ⟨hh, gs, dr, n + 1, os⟩) (ox := oe) (od := some o2) X I T.hm (wpAny_pure ?_))))
  show wpAny _ _ (handedOut (.ref C)) _ _ _
  rw [show handedOut (.ref C) = pure (.ref C) from handedOut_of rfl]
  first
    | exact wpAny_pure (wpAny_pure h)
    | exact wpAny_pure h
    | exact wpAny_pure (wpAny_bind (wpAny_pure (wpAny_pure h)))
theorem kitX_err (T : L2.ExcC K C) (O : OexC K C) : KitX K (.ref x) (.ref C) (fun h => ∃ o2, InstAt h x oe C (some o2)) := by
  obtain ⟨nm, q, N, bs, bm, sn, sub, ab, col, dd, k0, k1, k2, k3, k5, hC, _⟩ := O.cls
  refine ⟨fun _ _ _ ⟨_, I⟩ => I.type, fun M h X _ A Q E s k z => ?_, fun h tp _ _ _ _ X e => ?_, fun X ⟨_, I⟩ z => cls_of_err T X I z⟩
  · obtain ⟨hh, gs, dr, n, os⟩ := s
    exact ks_wpAny_isType_cls (k _ _ (X _ _ hC)) rfl z
  · by_cases hne : C = tp
    · subst hne
      rw [X _ _ hC] at e
      have e' := congrArg Obj.data (Option.some.inj e)
      cases e'
    · simpa using hne
end
/-- isinstance(e, B), e the error that the suite holds, B a class above its own -/
def rIsD (K : PySem.W.Frag) (C a : Addr) (d : Option Addr) (B : Addr) : List V → Hp → VK → Prop := fun xs H Q => xs = [.ref a, .ref B] ∧ (∃ dd fs, d = some dd ∧ H dd = some (.xd fs)) ∧ Q (.bl true) H
theorem call_isD {X : Cx} {a C B : Addr} {d : Option Addr} {oe : Obj} {pn : List (Addr × Obj)} (T : L2.ExcC X.K C) (O : OexC X.K C) (hk : PySem.W.kitOne X.K (.ref C) (.ref B) = some true) (hz : Zc (.ref C) d oe) (hf : ∃ vs, oe.data = .fields vs) :
    CallR (X.suite a ((a, oe) :: pn)) (.builtin "isinstance") (rIsD X.K C a d B) := by
  intro pins s σ H xs us Q I r ⟨e1, ⟨dd, fs, ed, ea⟩, q⟩
  subst e1
  cases r with
  | cons r1 r =>
  cases r with
  | cons r2 r =>
  cases r
  cases r1
  cases r2
  have at1 := (I.pin (a, oe) (List.mem_append_left _ List.mem_cons_self)).1
  obtain ⟨vs, hv⟩ := hf
  have hx : ObjOk X.prog X.w H s.heap dd (.xd fs) := I.hok dd _ ea
  obtain ⟨mA, ⟨o2, es, ep, e2, _⟩, _⟩ := hx
  have J : InstAt s.heap a oe C (some o2) := ⟨at1, hz.1, by unfold notCls; rw [hv] <;> rfl, by rw [hz.2, ed]; exact e2⟩
  exact kia_one (kitX_err T O) I.kIn ⟨o2, J⟩ hk (fun z => nomatch z) fun n => ⟨.bl true, H, I.kept (t' := n) fun _ _ z => z, rfl, q⟩
end Z

end
section
set_option maxHeartbeats 4000000
set_option autoImplicit false
/-! ZX2: a try with several clauses, with names or without. -/
namespace Z
open PySem PySem.Spec PyProof.Rows L2
/-- a clause: its class, the slot of its name, its suite's reading -/
structure Cl where
  c : Value
  i : Option Nat
  ts : Addr → Value → Option Addr → TS
def endI (i : Nat) (D : Ends) : Ends := { nx := fun σ H => D.nx (σ.set i none) H, rt := D.rt, bk := fun σ H => D.bk (σ.set i none) H, ct := fun σ H => D.ct (σ.set i none) H }
def wMix (K : PySem.W.Frag) (W : WX) (D : Ends) : List Cl → WX
  | [] => W
  | k :: l => fun cls d σ H => ∃ b, PySem.W.exmOne K cls k.c = some b ∧ (b = false → wMix K W D l cls d σ H) ∧
      (b = true → ∀ a, H a = none → match k.i with
        | none => k.ts a cls d D σ H
        | some i => k.ts a cls d (endI i D) (σ.set i (some (.ref a))) H)
/-- a clause of the text and what is known of it -/
def ClOk (X : Cx) (h : ExceptHandler) (k : Cl) : Prop := ∃ (x : Str) (n? : Option Str) (b : Stmt) (bs : List Stmt) (p q : Pos), h = .ExceptHandler (some (.Name x p)) n? (b :: bs) q ∧ Names X x k.c ∧
  (match n?, k.i with
    | none, none => True
    | some n, some i => X.N[i]? = some n ∧ X.env.kindOf n = some .local
    | _, _ => False) ∧
  ∀ (a : Addr) (oe : Obj) (cls : Value) (d : Option Addr) (pn : List (Addr × Obj)), Zc cls d oe → (∃ vs, oe.data = .fields vs) → PSs (X.suite a ((a, oe) :: pn)) (b :: bs) (k.ts a cls d)
inductive ClsOk (X : Cx) : List ExceptHandler → List Cl → Prop
  | nil : ClsOk X [] []
  | cons {h : ExceptHandler} {k : Cl} {hs : List ExceptHandler} {l : List Cl} (one : ClOk X h k) (r : ClsOk X hs l) : ClsOk X (h :: hs) (k :: l)
section
variable {X : Cx} {pins : List (Addr × Obj)} {B : Heap} {a : Addr} {cls : Value} {d : Option Addr} {σ : L2.St} {H : Hp} {sI : Shared} {D : Ends} {W : WX}
/-- what is known where an error flies into the frame that may catch it -/
structure Fly (X : Cx) (pins : List (Addr × Obj)) (B : Heap) (a : Addr) (cls : Value) (d : Option Addr) (σ : L2.St) (H : Hp) (sI s : Shared) : Prop where
  J : Inv X pins σ H sI
  nb : ∀ b o, sI.heap.get? b = some o → b ∉ frs X.stack → B.get? b = some o
  up : sI.heap.UpToSlots s.heap
  fl : HandSPX.FlyingZ B (X.env :: X.outer) a (Zc cls d) s.heap
  na : H a = none
  os : s.os = sI.os
  ag : AllBare s.gens
theorem Fly.suite {s : Shared} (F : Fly X pins B a cls d σ H sI s) (hstk : X.stack = X.env :: X.outer) (hfr : X.env.frame = some X.env.locals) :
    ∃ oe, Zc cls d oe ∧ (∃ vs, oe.data = .fields vs) ∧ s.heap.get? a = some oe ∧ Inv X pins σ H s ∧ Inv (X.suite a ((a, oe) :: (X.pn ++ pins))) [] σ H s := by
  have I : Inv X pins σ H s := F.J.landed F.nb F.fl.1 F.up F.os F.ag
  obtain ⟨oe, vs, e1, e2, e3⟩ := F.fl.there
  have out : a ∉ frs (X.env :: X.outer) := by
    intro hm
    obtain ⟨_, o', eo, no⟩ := F.fl.2.2.1.mem hm
    rw [e1] at eo
    cases eo
    exact no _ e3
  refine ⟨oe, e2, ⟨vs, e3⟩, e1, I, I.suite e1 e3 F.na (fun z => out ?_) fun hm => out ?_⟩
  · exact List.mem_filterMap.mpr ⟨X.env, .head _, by rw [hfr, z]⟩
  · obtain ⟨en, h1, h2⟩ := List.mem_filterMap.mp hm
    exact List.mem_filterMap.mpr ⟨en, .tail _ h1, h2⟩
theorem Fly.go (ok : X.Ok) (nd : X.N.Nodup) (hstk : X.stack = X.env :: X.outer) (hfr : X.env.frame = some X.env.locals) (tk : Takes X W) {hs : List ExceptHandler} {l : List Cl} (hl : ClsOk X hs l) :
    ∀ {s : Shared}, Fly X pins B a cls d σ H sI s → wMix X.K W D l cls d σ H → wpAny (model X.prog X.w) X.A (handleBy (.ref a) X.env hs) (SP X pins D) X.xe s := by
  induction hl with
  | nil =>
    intro s F w
    have on : wpAny (model X.prog X.w) X.A (setFlight (.ref a) X.env.frame) (fun _ s2 => wpAny (model X.prog X.w) X.A (throw (.ref a) : Sem Flow) (SP X pins D) X.xe s2) X.xe s := by
      rw [hfr]
      refine HandSPX.setFlight_upZ F.fl fun h2 held up2 => wpAny_throw (tk _ _ ⟨a, B, sI, pins, σ, H, cls, d, rfl, F.J, F.nb, F.up.trans up2, .inr (.inr ?_), F.na, F.os, F.ag, w⟩)
      rw [hstk]
      exact held
    obtain ⟨_, _, _, oe, vs, tb, _, _, e1, _, e3, e4, _⟩ := id F.fl
    refine wpAny_handleBy_nil ?_
    unfold PySem.passOn
    refine wpAny_bind (wpAny_field e1 e3 e4 ?_)
    rw [if_neg (by intro z; cases z)]
    first
      | exact wpAny_bind (wpAny_pure (wpAny_bind on))
      | exact wpAny_bind on
  | @cons h k hs' l' one r ih =>
    intro s F w
    obtain ⟨b, w1, w2, w3⟩ := w
    obtain ⟨x, n?, st, sts, p, q, rfl, hc, hn, hsu⟩ := one
    obtain ⟨oe, z1, z2, e1, I, S⟩ := F.suite hstk hfr
    have ty : PySem.W.Looks (model X.prog X.w) s.heap (typeOf (.ref a)) cls := fun A Q E s2 k2 z => wpAny_typeOf_ref (k2 _ _ e1) (by rw [z1.1]; exact z)
    have hit := PySem.W.exm_one (M := model X.prog X.w) I.kIn ty w1
    refine wpAny_handleBy_cons (codeAny_handlers_test ?_) (by intro z; cases z)
    have ask : ∀ {Q : Value → Shared → Prop} {E : Value → Shared → Prop}, Q k.c s → wpAny (model X.prog X.w) (X.A.mark (some (.ref a))) (eval (.Name x p) X.env) Q E s := by
      intro Q E z
      obtain ⟨g1, g2, g3 | ⟨g3, g4, g5⟩⟩ := hc
      · exact ld_glob (X := X.suite a ((a, oe) :: (X.pn ++ pins))) S g1 g3 z g2
      · exact ld_blt (X := X.suite a ((a, oe) :: (X.pn ++ pins))) S g1 g3 g4 z g5 g2
    refine ask (hit.here ?_)
    cases b with
    | false =>
      show wpAny _ X.A (handleBy (.ref a) X.env hs') _ _ _
      exact ih F (w2 rfl)
    | true =>
      have w4 := w3 rfl a F.na
      have fly2 : ∀ {h4 : Heap}, HandSPX.FlyingZ B (X.env :: X.outer) a (Zc cls d) h4 → s.heap.UpToSlots h4 → Fly X pins B a cls d σ H sI { s with heap := h4 } := fun f4 u4 => ⟨F.J, F.nb, F.up.trans u4, f4, F.na, F.os, F.ag⟩
      cases n? with
      | none =>
        cases hi : k.i with
        | some i => rw [hi] at hn; exact hn.elim
        | none =>
        rw [hi] at w4
        refine codeAny_handlers_suite (HandSPX.lands_againZ F.fl fun h4 f4 u4 => ?_)
        obtain ⟨o4, y1, y2, _, _, S4⟩ := (fly2 f4 u4).suite hstk hfr
        refine wpAny_mono ((hsu a o4 cls d (X.pn ++ pins) y1 y2).run [] _ _ H _ S4 w4) (fun f s6 sp => ?_) fun _ _ z => z.elim
        cases f with
        | ret u =>
          obtain ⟨v6, σ6, H6, S6, r6, q6⟩ := sp
          exact ⟨v6, σ6, H6, S6.unsuite ok, r6, q6⟩
        | next | brk | cont =>
          obtain ⟨σ6, H6, S6, q6⟩ := sp
          exact ⟨σ6, H6, S6.unsuite ok, q6⟩
      | some n =>
        cases hi : k.i with
        | none => rw [hi] at hn; exact hn.elim
        | some i =>
        rw [hi] at w4 hn
        obtain ⟨n1, n2⟩ := hn
        refine codeAny_handlers_suite_as (HandSPX.lands_againZ F.fl fun h4 f4 u4 => ?_)
        obtain ⟨o4, y1, y2, _, _, S4⟩ := (fly2 f4 u4).suite hstk hfr
        refine store_ok (X := X.suite a ((a, o4) :: (X.pn ++ pins))) (v := .ref a) S4 nd n1 (.inl n2) rfl (fun s5 S5 => ?_) (.inr n2)
        refine wpAny_mono ((hsu a o4 cls d (X.pn ++ pins) y1 y2).run [] s5 _ H _ S5 w4) (fun f s6 sp => ?_) fun _ _ z => z.elim
        have last : ∀ {σ6 : L2.St} {H6 : Hp} {Q : Shared → Prop}, Inv (X.suite a ((a, o4) :: (X.pn ++ pins))) [] σ6 H6 s6 → (∀ s7, Inv X pins (σ6.set i none) H6 s7 → Q s7) →
            wpAny (model X.prog X.w) X.A (do bindName X.env n .none; unbindBehindTheSuite X.env n q) (fun _ s7 => Q s7) X.xe s6 := fun S6 hq => gone_ok (S6.unsuite ok) nd n1 n2 hq
        cases f with
        | ret u =>
          obtain ⟨v6, σ6, H6, S6, r6, q6⟩ := sp
          exact last S6 fun s7 J7 => ⟨v6, _, _, J7, r6, q6⟩
        | next | brk | cont =>
          obtain ⟨σ6, H6, S6, q6⟩ := sp
          exact last S6 fun s7 J7 => ⟨_, _, J7, q6⟩
end
section
variable {X : Cx} {body : List Stmt} {h0 : ExceptHandler} {hs : List ExceptHandler} {l : List Cl} {pos : Pos} {tb : WX → TS} {W : WX}
theorem ps_tries (nd : X.N.Nodup) (hstk : X.stack = X.env :: X.outer) (hfr : X.env.frame = some X.env.locals) (tk : Takes X W)
    (hb : ∀ (V : WX) (pn : List (Addr × Obj)) (xe : Value → Shared → Prop), Takes (X.tr pn xe) V → PassesOwn (model X.prog X.w) X.A X.env xe → PSs (X.tr pn xe) body (tb V))
    (hh : ClsOk X (h0 :: hs) l) : PS X (.Try body (h0 :: hs) [] [] pos) (fun D σ H => tb (wMix X.K W D l) D σ H) := by
  refine ⟨fun pins s σ H D I h => wpAny_Try_except ?_⟩
  have ok := I.ok
  have run := (hb (wMix X.K W D l) (X.pn ++ pins) (fun e s1 => wpAny (model X.prog X.w) X.A (noteFrame e X.env) (fun _ s2 => wpAny (model X.prog X.w) X.A (setFlight e none) (fun _ s3 =>
    wpAny (model X.prog X.w) X.A (handleBy e X.env (h0 :: hs)) (SP X pins D) X.xe s3) X.xe s2) X.xe s1) (fun u s1 xx => ?_) PassesOwn.looking).run [] s σ H D (I.toTry _) h
  · refine wpAny_mono run (fun f s1 sp => ?_) fun _ _ z => z
    cases f with
    | next =>
      obtain ⟨σ', H', J, q⟩ := sp
      exact wpAny_execs_nil ⟨σ', H', J.ofTry ok, q⟩
    | ret u =>
      obtain ⟨v, σ', H', J, r, q⟩ := sp
      exact ⟨v, σ', H', J.ofTry ok, r, q⟩
    | brk | cont =>
      obtain ⟨σ', H', J, q⟩ := sp
      exact ⟨σ', H', J.ofTry ok, q⟩
  · obtain ⟨a, B, sI, pins', σ', H', cls, d, rfl, J, nb, up, sky, na, os, ag, w⟩ := xx
    have sky2 : Sky B (X.env :: X.outer) a (Zc cls d) X.env.locals s1.heap := by
      rw [← hstk]
      exact sky
    show wpAny (model X.prog X.w) X.A (noteFrame (.ref a) X.env) _ _ _
    exact Sky.land Zc.steady (by rw [ok.frames, hstk]) hfr sky2 fun h3 fl up3 => Fly.go (s := { s1 with heap := h3 }) ok nd hstk hfr tk hh ⟨J.ofTry ok, nb, up.trans up3, fl, na, os, ag⟩ w
end
end Z

end
section
set_option maxHeartbeats 4000000
set_option autoImplicit false
/-! Z18: the check of statements; targets; statements, one by one. -/
namespace Z
open PySem PySem.Spec PyProof.Rows L2
def agG (M : Nm) (N : List Str) (sc : Scope) : ZG → Expr → Bool
  | .nm i, .Name x _ => nthIs N i x && locB sc x
  | .attr o a, .Attribute b x _ => nthIs M.at_ a x && agE M o N sc b
  | .sub o i, .Subscript b j _ => nSl j && agE M o N sc b && agE M i N sc j
  | _, _ => false
def agGs (M : Nm) (N : List Str) (sc : Scope) : List ZG → List Expr → Bool
  | g :: gs, e :: es => agG M N sc g e && nS e && agGs M N sc gs es
  | [], [] => true
  | _, _ => false
def isName : Expr → Bool
  | .Name _ _ => true
  | _ => false
/-- two or three plain names that are stored from the right -/
def swB (N : List Str) (sc : Scope) (gs : List ZG) (ts vs : List Expr) : Bool := match gs, ts with
  | [.nm i, .nm j], [.Name x px, .Name y py] => decide (i ≠ j) && nthIs N i x && nthIs N j y && decide (sc.names.lookup x = some .local) && decide (sc.names.lookup y = some .local) && decide (py.line = px.line) && !(vs.all (foldedForSure 8)) && !(vs.all (constantsAlone 8)) && decide (vs.length = 2)
  | [.nm i, .nm j, .nm l], [.Name x px, .Name y py, .Name z pz] => decide (i ≠ j) && decide (i ≠ l) && decide (j ≠ l) && nthIs N i x && nthIs N j y && nthIs N l z && decide (sc.names.lookup x = some .local) && decide (sc.names.lookup y = some .local) && decide (sc.names.lookup z = some .local) &&
      decide (py.line = px.line) && decide (pz.line = px.line) && !(vs.all (foldedForSure 8)) && !(vs.all (constantsAlone 8)) && decide (vs.length = 3)
  | _, _ => false
/-- a comprehension that is stored under a name -/
def lcN (sc : Scope) : Expr → Expr → Bool
  | .Name y py, .ListComp _ _ scope pos => decide (sc.names.lookup y = some .local) && (py.line == pos.line) && !(scope.names.any fun (n, k) => n == y && (k == .local || k == .cell))
  | _, _ => false
def isLc : ZE → Bool
  | .lc _ _ _ _ _ _ _ => true
  | .lc2 _ _ _ _ _ _ _ _ _ _ => true
  | _ => false
/-- a dict comprehension that is stored under a name -/
def dcN (sc : Scope) : Expr → Expr → Bool
  | .Name y py, .DictComp _ _ _ scope pos => decide (sc.names.lookup y = some .local) && (py.line == pos.line) && !(scope.names.any fun (n, k) => n == y && (k == .local || k == .cell))
  | _, _ => false
def isDc : ZE → Bool
  | .dc _ _ _ _ _ _ _ _ => true
  | _ => false
/-- the value that a clause stores: e.f, or (text, e.f) -/
def agHb (M : Nm) (c : Nat) (n : Str) : Hb → Expr → Bool
  | .id, .Attribute (.Name m _) f _ => decide (m = n) && nthIs M.ef c f
  | .tup l, .Tuple [.Constant (.str s) _ _, .Attribute (.Name m _) f _] _ _ => decide (s = toStr l) && decide (m = n) && nthIs M.ef c f
  | _, _ => false
def agHv (M : Nm) (sc : Scope) (c : Nat) (n : Str) (k : Hb) : Expr → Bool
  | .IfExp (.Call (.Name i _) [.Name m _, .Name b _] [] _) x _ _ => decide (i = "isinstance") && glB sc i && decide (m = n) && nthIs M.er 0 b && glB sc b && agHb M c n k x
  | x => agHb M c n k x
def cstB : Option Bool → Const → Bool
  | some b, .bool c => b == c
  | none, .none => true
  | _, _ => false
def agH (M : Nm) (N : List Str) (sc : Scope) : ZHd → ExceptHandler → Bool
  | .as_ c e t k, .ExceptHandler (some (.Name x _)) (some n) [.Assign [.Name y _] v _] _ => nthIs M.er c x && decide (0 < c) && glB sc x && nthIs N e n && decide (sc.names.lookup n = some .local) && !(n == ("__debug__" : Str)) && !(n == ("__classdict__" : Str)) && nthIs N t y && decide (sc.names.lookup y = some .local) && decide (e ≠ t) && nC v && agHv M sc c n k v
  | .only c t d, .ExceptHandler (some (.Name x _)) none [.Assign [.Name y _] (.Constant k _ _) _] _ => nthIs M.er c x && glB sc x && nthIs N t y && decide (sc.names.lookup y = some .local) && cstB d k
  | _, _ => false
def agHs (M : Nm) (N : List Str) (sc : Scope) : List ZHd → List ExceptHandler → Bool
  | z :: zs, h :: hs => agH M N sc z h && agHs M N sc zs hs
  | [], [] => true
  | _, _ => false
/-- what is taken apart: an item, an answer -/
def unpB : Expr → Bool
  | .Subscript _ _ _ => true
  | .Call _ _ _ _ => true
  | _ => false
mutual
def simS : ZS → Bool
  | .asg _ _ => true | .ex _ => true | .ret _ => true | .pass => true | .raise => true | .rz _ _ => true | .asgT _ _ => true
  | .ite _ a b => simSs a && simSs b
  | _ => false
def simSs : ZSs → Bool
  | .nil => true
  | .cons z .nil => simS z
  | _ => false
end
/-- a target that a comprehension is not exchanged with: no plain local name -/
def swO (sc : Scope) : Expr → Bool
  | .Name y _ => decide (sc.names.lookup y = some .cell)
  | _ => true
mutual
def agS (M : Nm) (N : List Str) (sc : Scope) : ZS → Stmt → Bool
  | .asg g e, .Assign [tg] v _ => agE M e N sc v && agG M N sc g tg && ((nC v || swO sc tg) || isLc e && lcN sc tg v || isDc e && dcN sc tg v) && !isTup tg
  | .asg2 gs (.tup zs), .Assign [.Tuple ts _ _] (.Tuple vs k p) _ => agEs M zs N sc vs && decide (vs.length ≤ lim) && agGs M N sc gs ts && decide (ts.length = vs.length) && vs.all nS && (swB N sc gs ts vs || ts.any (swO sc))
  | .ex e, .Expr v _ => agE M e N sc v && nC v
  | .ret e, .Return (some v) _ => agE M e N sc v
  | .ret .non, .Return none _ => true
  | .ite c a b, .If t x y _ => agE M c N sc t && agSs M N sc a x && agSs M N sc b y
  | .for_ t k it b, .For tg iter body [] _ => nSet iter && agTg ⟨N, sc, M⟩ (List.range N.length) t tg && (match itArgs ⟨N, sc, M⟩ tg k iter with
    | some as => agEs M it N sc as
    | none => false) && agSs M N sc b body
  | .while_ c b, .While t body [] _ => agE M c N sc t && agSs M N sc b body
  | .pass, .Pass _ => true
  | .raise, _ => true
  | .asgT t e, .Assign [.Tuple ts k p] v _ => agE M e N sc v && agTg ⟨N, sc, M⟩ (List.range N.length) t (.Tuple ts k p) && unpB v
  | .rz c e, .Raise (some (.Call (.Name x _) [a] [] _)) none _ => decide (0 < c) && nthIs M.er c x && glB sc x && nS a && agE M e N sc a
  | .try_ ne b hs, .Try body (h :: hds) [] [] _ => decide (ne = M.er.length) && simSs b && agSs M N sc b body && agHs M N sc hs (h :: hds)
  | _, _ => false
def agSs (M : Nm) (N : List Str) (sc : Scope) : ZSs → List Stmt → Bool
  | .nil, [] => true
  | .cons (.frz _) zs, sts => agSs M N sc zs sts
  | .cons z zs, st :: sts => agS M N sc z st && agSs M N sc zs sts
  | _, _ => false
end
section
variable {G : Tx} {M : Nm} {n : Nat}
/-- a target takes d -/
def SndG (G : Tx) (M : Nm) (n : Nat) (g : ZG) : Prop := ∀ (N : List Str) (sc : Scope) (X : Cx) (Wx : WX) (tg : Expr) (α : Al) (μ : Mu) (ρ : Env) (σ : L2.St) (H : Hp) (v : V) (d : D) (Q : L2.St → Hp → Prop),
  Here G n ⟨N, sc, M⟩ X Wx → agG M N sc g tg = true → StOk G α μ H → EnvOk G α μ H ρ σ → Rep G α μ H v d → FinG G (fun α μ H (σ' : L2.St) ρ' => EnvOk G α μ H ρ' σ') (WW G Wx σ) α μ H (asgG (evOf G.T n) g d ρ μ) Q → WG X tg v σ H Q
theorem sndG_nm {i : Nat} : SndG G M n (.nm i) := by
  intro N sc X Wx tg α μ ρ σ H v d Q hr h st en r f
  cases tg with
  | Name x pos =>
    obtain ⟨h1, h2⟩ := band (show (nthIs N i x && locB sc x) = true from h)
    obtain ⟨l1, l2⟩ := loc_of hr h2
    have q : Q (σ.set i (some v)) H := FinG.now f st (en.set i r)
    intro pins s u I ru
    exact (pg_name (i := i) (by rw [hr.c.N]; exact hr.c.nd) (by rw [hr.c.N]; exact of_decide_eq_true h1) l1 l2).run pins s σ H v u Q I ru q
  | _ => cases h
theorem putF_names {names : List Str} (nd : names.Nodup) {f : Str} {v : V} : ∀ {fs : List (Str × V)} {j : Nat}, fs.map (·.1) = names.take fs.length → names[j]? = some f → j ≤ fs.length →
    (putF f v fs).map (·.1) = names.take (putF f v fs).length ∧ (putF f v fs).map (·.2) = (if j < fs.length then (fs.map (·.2)).set j v else fs.map (·.2) ++ [v]) := by
  induction names with
  | nil => intro fs j _ h; simp at h
  | cons x names ih =>
    intro fs j hm hj hl
    cases fs with
    | nil =>
      have : j = 0 := by simpa using hl
      subst this
      have e : x = f := by simpa using hj
      subst e
      exact ⟨by simp [putF], by simp [putF]⟩
    | cons q fs =>
      obtain ⟨y, w⟩ := q
      rw [List.length_cons, List.take_succ_cons, List.map_cons] at hm
      obtain ⟨e1, e2⟩ := List.cons.inj hm
      have e1' : y = x := e1
      subst e1'
      have nd' := List.nodup_cons.mp nd
      cases j with
      | zero =>
        have e : y = f := by simpa using hj
        subst e
        rw [show putF y v ((y, w) :: fs) = (y, v) :: fs from by unfold putF; rw [if_pos rfl]]
        refine ⟨?_, by simp⟩
        rw [List.map_cons, List.length_cons, List.take_succ_cons]
        exact congrArg _ e2
      | succ j =>
        have hj' : names[j]? = some f := by simpa using hj
        have hne : ¬ y = f := fun z => nd'.1 (by rw [z]; exact List.mem_of_getElem? hj')
        obtain ⟨k1, k2⟩ := ih nd'.2 (fs := fs) (j := j) e2 hj' (by simpa using hl)
        rw [show putF f v ((y, w) :: fs) = (y, w) :: putF f v fs from by rw [putF, if_neg hne]]
        refine ⟨?_, ?_⟩
        · rw [List.map_cons, List.length_cons, List.take_succ_cons]
          exact congrArg _ k1
        · rw [List.map_cons, k2]
          by_cases hlt : j < fs.length
          · rw [if_pos hlt, if_pos (by simpa using hlt)]; simp
          · rw [if_neg hlt, if_neg (by simpa using hlt)]; simp
theorem setA_ok {N : List Str} {sc : Scope} {X : Cx} {Wx : WX} {α : Al} {μ : Mu} {H : Hp} {W : XW} {a : Nat} {x d : D} {vx vd : V} {nm : Str} {Q : Hp → Prop} (hr : Here G n ⟨N, sc, M⟩ X Wx) (st : StOk G α μ H) (rx : Rep G α μ H vx x) (rd : Rep G α μ H vd d) (hn : M.at_[a]? = some nm)
    (h : FinU G W α μ H (setA (evOf G.T n) x a d μ) fun _ H' => Q H') : ∀ pins s σ ov u, Inv X pins σ H s → RelV vx ov → RelV vd u → wpAny (model X.prog X.w) X.A (setAttr ov nm u) (fun _ s' => ∃ H', Inv X pins σ H' s' ∧ Q H') X.xe s := by
  have en := hr.t.atn a nm hn
  subst en
  unfold setA at h
  split at h
  · rename_i k
    split at h
    · rename_i c l e
      split at h
      · rename_i ci ec
        split at h
        · rename_i j ej
          have F := hr.t.cls c ci ec
          cases rx with
          | ref hp =>
            rename_i p
            obtain ⟨dx, fs, h1, h2, h3⟩ := st.cell k p _ e hp
            rw [fields_of ec] at h2
            have hj : ci.fields[j]? = some a := by
              obtain ⟨hlt, k1, _⟩ := List.findIdx?_eq_some_iff_getElem.mp ej
              rw [List.getElem?_eq_getElem hlt]
              simpa using k1
            have hfl : fs.length = l.length := by have := h3.len; simpa using this
            have hjn : (ci.fields.map G.at_)[j]? = some (G.at_ a) := by rw [List.getElem?_map, hj]; rfl
            have hfew : fs.length < 999 := by
              have e1 : (fs.map (·.1)).length = ((ci.fields.map G.at_).take l.length).length := by rw [h2]
              rw [List.length_map, List.length_take, List.length_map] at e1
              have := F.few
              omega
            have hin : a ∈ ci.fields := List.mem_of_getElem? hj
            intro pins s σ ov u I r1 r2
            cases r1
            refine setattr_ok I h1 (by rw [hr.c.K]; exact F.cls) (by rw [hr.c.K]; exact F.na a hin) (by omega) r2 fun s' I' => ⟨_, I', ?_⟩
            have key : ∀ l', j ≤ l.length → (if j < fs.length then (fs.map (·.2)).set j vd else fs.map (·.2) ++ [vd]) = (putF (G.at_ a) vd fs).map (·.2) → RepL G α μ H ((putF (G.at_ a) vd fs).map (·.2)) l' → FinU G W α μ H (.ok () (μ.set k (.ins c l'))) (fun _ H' => Q H') → Q (upd H p (.ins (G.cA c) dx (putF (G.at_ a) vd fs))) := fun l' hle he rl f => by
              obtain ⟨n1, n2⟩ := putF_names (v := vd) F.nd (j := j) (by rw [hfl]; exact h2) hjn (by omega)
              have ex := ext_set (u := .ins (G.cA c) dx (putF (G.at_ a) vd fs)) (c := .ins c l') st e rfl hp
              have hl' : (putF (G.at_ a) vd fs).length = l'.length := by have := rl.len; simpa using this
              exact f α _ () ex (st.set e rfl hp ⟨dx, _, upd_same, by rw [fields_of ec, ← hl']; exact n1, rl.ext ex⟩) trivial
            split at h
            · rename_i hlt
              obtain ⟨n1, n2⟩ := putF_names (v := vd) F.nd (j := j) (by rw [hfl]; exact h2) hjn (by omega)
              refine key (l.set j d) (by omega) n2.symm ?_ h
              rw [n2, if_pos (by omega)]
              exact h3.set rd j
            · split at h
              · rename_i hne heq
                obtain ⟨n1, n2⟩ := putF_names (v := vd) F.nd (j := j) (by rw [hfl]; exact h2) hjn (by omega)
                refine key (l ++ [d]) (by omega) n2.symm ?_ h
                rw [n2, if_neg (by omega)]
                exact RepL.app (.cons rd .nil) h3
              · exact (show False from h).elim
        · exact (show False from h).elim
      · exact (show False from h).elim
    · exact (show False from h).elim
  · exact (show False from h).elim
theorem sndG_attr {o : ZE} {a : Nat} (ho : SndE G M n o) : SndG G M n (.attr o a) := by
  intro N sc X Wx tg α μ ρ σ H v d Q hr h st en r f
  cases tg with
  | Attribute b x pos =>
    obtain ⟨h1, h2⟩ := band (show (nthIs M.at_ a x && agE M o N sc b) = true from h)
    intro pins s u I ru
    show wpAny _ _ (do
      let ov ← holding [u] (eval b X.env)
      standAt pos.atName
      holding [u, ov] (setAttr ov x u)
      release [u, ov] []) _ _ s
    have wo : WE X b σ H (fun vo H1 => ∀ pins s ov, Inv X pins σ H1 s → RelV vo ov → wpAny (model X.prog X.w) X.A (setAttr ov x u) (fun _ s' => ∃ H', Inv X pins σ H' s' ∧ Q σ H') X.xe s) :=
      ho N sc X Wx b α μ ρ σ H _ hr h2 st en (FinG.bind f fun d1 μ1 α1 H1 v1 e1 ex1 s1 r1 f1 => by
        have fu : FinU G (WW G Wx σ) α1 μ1 H1 (setA (evOf G.T n) d1 a d μ1) (fun _ H' => Q σ H') := FinG.bind f1 fun d2 μ2 α2 H2 v2 e2 ex2 s2 r2 f2 => FinG.now f2 s2 ((en.ext ex1).ext ex2)
        exact fun pins s ov I rq => setA_ok hr s1 r1 (r.ext ex1) (of_decide_eq_true h1) fu pins s σ ov u I rq ru)
    refine wpAny_bind (wpAny_holding (thn (wo pins s I) fun ov s1 ⟨vo, H1, I1, r1, q1⟩ => ?_))
    refine wpAny_bind (wpAny_standAt (wpAny_bind (wpAny_holding (thn (q1 pins s1 ov I1 r1) fun _ s3 ⟨H3, I3, q3⟩ => ?_))))
    exact wpAny_release ⟨σ, H3, I3, q3⟩
  | _ => cases h
theorem sndG_sub {o i : ZE} (ho : SndE G M n o) (hi : SndE G M n i) : SndG G M n (.sub o i) := by
  intro N sc X Wx tg α μ ρ σ H v d Q hr h st en r f
  cases tg with
  | Subscript b j pos =>
    obtain ⟨h01, h2⟩ := band (show (nSl j && agE M o N sc b && agE M i N sc j) = true from h)
    obtain ⟨h0, h1⟩ := band h01
    intro pins s u I ru
    have ha : assign (.Subscript b j pos) X.env u = (do
      let ov ← holding [u] (eval b X.env)
      let iv ← holding [u, ov] (eval j X.env)
      standAt pos
      holding [u, ov, iv] (setItem ov iv u)
      release [u, ov, iv] []) := by cases j <;> first | rfl | cases h0
    rw [ha]
    have wo : WE X b σ H (fun vo H1 => WE X j σ H1 fun vi H2 => SS X vo vi v H2 (fun H3 => Q σ H3)) :=
      ho N sc X Wx b α μ ρ σ H _ hr h1 st en (FinG.bind f fun d1 μ1 α1 H1 v1 e1 ex1 s1 r1 f1 => by
        refine hi N sc X Wx j α1 μ1 ρ σ H1 _ hr h2 s1 (en.ext ex1) (FinG.bind f1 fun d2 μ2 α2 H2 v2 e2 ex2 s2 r2 f2 => ?_)
        have fu : FinU G (WW G Wx σ) α2 μ2 H2 (setG d1 d2 d μ2) (fun _ H' => Q σ H') := FinG.bind f2 fun d3 μ3 α3 H3 v3 e3 ex3 s3 r3 f3 => FinG.now f3 s3 (((en.ext ex1).ext ex2).ext ex3)
        exact setG_ok s2 hr.c (r1.ext ex2) r2 (r.ext (ex1.trans ex2)) fu)
    refine wpAny_bind (wpAny_holding (thn (wo pins s I) fun ov s1 ⟨vo, H1, I1, r1, q1⟩ => ?_))
    refine wpAny_bind (wpAny_holding (thn (q1 pins s1 I1) fun iv s2 ⟨vi, H2, I2, r2, q2⟩ => ?_))
    refine wpAny_bind (wpAny_standAt (wpAny_bind (wpAny_holding (thn (q2 pins s2 σ ov iv u I2 r1 r2 ru) fun _ s3 ⟨H3, I3, q3⟩ => ?_))))
    exact wpAny_release ⟨σ, H3, I3, q3⟩
  | _ => cases h

/-! ### statements -/
def WS (X : Cx) (st : Stmt) : TS := fun D σ H => ∀ pins s, Inv X pins σ H s → wpAny (model X.prog X.w) X.A (exec st X.env) (SP X pins D) X.xe s
def WSs (X : Cx) (st : List Stmt) : TS := fun D σ H => ∀ pins s, Inv X pins σ H s → wpAny (model X.prog X.w) X.A (execs st X.env) (SP X pins D) X.xe s
theorem ps_ws {X : Cx} {st : Stmt} : PS X st (WS X st) := ⟨fun pins s _ _ _ I h => h pins s I⟩
theorem pss_wss {X : Cx} {st : List Stmt} : PSs X st (WSs X st) := ⟨fun pins s _ _ _ I h => h pins s I⟩
theorem WS.of {X : Cx} {st : Stmt} {t : TS} {D : Ends} {σ : L2.St} {H : Hp} (h : PS X st t) (ht : t D σ H) : WS X st D σ H := fun pins s I => h.run pins s σ H D I ht
theorem WSs.of {X : Cx} {st : List Stmt} {t : TS} {D : Ends} {σ : L2.St} {H : Hp} (h : PSs X st t) (ht : t D σ H) : WSs X st D σ H := fun pins s I => h.run pins s σ H D I ht
abbrev RelFl (G : Tx) : Rel Fl (L2.St ⊕ V) := fun α μ H x f => match x, f with
  | .inl σ, .nx ρ => EnvOk G α μ H ρ σ
  | .inr v, .rt d => Rep G α μ H v d
  | _, _ => False
def QD (D : Ends) : (L2.St ⊕ V) → Hp → Prop
  | .inl σ => D.nx σ
  | .inr v => D.rt v
def Const (X : Cx) (Wx : WX) : Prop := (∃ E : XK, Wx = fun cls d _ H => E cls d H) ∧ X.stack = X.env :: X.outer ∧ X.env.frame = some X.env.locals
theorem Const.eq {X : Cx} {Wx : WX} (h : Const X Wx) (σ σ' : L2.St) : WW G Wx σ = WW G Wx σ' := by
  obtain ⟨⟨E, rfl⟩, _⟩ := h
  rfl
def SndS (G : Tx) (M : Nm) (n : Nat) (z : ZS) : Prop := ∀ (N : List Str) (sc : Scope) (X : Cx) (Wx : WX) (st : Stmt) (α : Al) (μ : Mu) (ρ : Env) (σ : L2.St) (H : Hp) (D : Ends),
  Here G n ⟨N, sc, M⟩ X Wx → agS M N sc z st = true → (Const X Wx ∨ simS z = true) → StOk G α μ H → EnvOk G α μ H ρ σ → FinG G (RelFl G) (WW G Wx σ) α μ H (evalS (evOf G.T n) z ρ μ) (QD D) → WS X st D σ H
def SndSs (G : Tx) (M : Nm) (n : Nat) (z : ZSs) : Prop := ∀ (N : List Str) (sc : Scope) (X : Cx) (Wx : WX) (st : List Stmt) (α : Al) (μ : Mu) (ρ : Env) (σ : L2.St) (H : Hp) (D : Ends),
  Here G n ⟨N, sc, M⟩ X Wx → agSs M N sc z st = true → (Const X Wx ∨ simSs z = true) → StOk G α μ H → EnvOk G α μ H ρ σ → FinG G (RelFl G) (WW G Wx σ) α μ H (evalSs (evOf G.T n) z ρ μ) (QD D) → WSs X st D σ H
theorem nowNx {W : XW} {α : Al} {μ : Mu} {H : Hp} {ρ : Env} {σ : L2.St} {D : Ends} (f : FinG G (RelFl G) W α μ H (.ok (.nx ρ) μ) (QD D)) (st : StOk G α μ H) (en : EnvOk G α μ H ρ σ) : D.nx σ H := f α H (.inl σ) Ext.refl st en
theorem nowRt {W : XW} {α : Al} {μ : Mu} {H : Hp} {d : D} {v : V} {D : Ends} (f : FinG G (RelFl G) W α μ H (.ok (.rt d) μ) (QD D)) (st : StOk G α μ H) (r : Rep G α μ H v d) : D.rt v H := f α H (.inr v) Ext.refl st r
theorem freeze_inv {α : Al} {μ μ1 : Mu} {H : Hp} {x y : D} {vx : V} (st : StOk G α μ H) (rx : Rep G α μ H vx x) (h : freeze x μ = .ok y μ1) : Ext α μ H α μ1 H ∧ StOk G α μ1 H ∧ Rep G α μ1 H vx y := by
  unfold freeze at h
  split at h
  · rename_i k
    cases rx with
    | ref hp =>
      split at h
      · rename_i l e
        cases h
        obtain ⟨xs, h1, h2⟩ := st.cell k _ _ e hp
        have ex := ext_gone (α := α) (H := H) e rfl
        exact ⟨ex, st.gone e rfl, .lst h1 (gone_dead st e rfl hp) (h2.ext ex)⟩
      · rename_i l e
        cases h
        obtain ⟨xs, h1, h2⟩ := st.cell k _ _ e hp
        have ex := ext_gone (α := α) (H := H) e rfl
        exact ⟨ex, st.gone e rfl, .dic ⟨.inl h1, gone_dead st e rfl hp⟩ (h2.ext ex)⟩
      · rename_i c l e
        cases h
        obtain ⟨dx, fs, h1, h2, h3⟩ := st.cell k _ _ e hp
        have ex := ext_gone (α := α) (H := H) e rfl
        exact ⟨ex, st.gone e rfl, .ins h1 (gone_dead st e rfl hp) h2 (h3.ext ex)⟩
      · cases h
  · cases h
theorem freeze_noexc {x : D} {μ m : Mu} {c : Nat} {pl : List D} (h : freeze x μ = .exc c pl m) : False := by
  unfold freeze at h
  split at h
  · split at h <;> cases h
  · cases h
theorem sndS_raise : SndS G M n .raise := by
  intro N sc X Wx s α μ ρ σ H D hr h hc st en f
  exact (show False from f).elim
theorem sndS_pass : SndS G M n .pass := by
  intro N sc X Wx s α μ ρ σ H D hr h hc st en f
  cases s with
  | Pass pos =>
    have q : D.nx σ H := nowNx f st en
    exact WS.of ps_pass q
  | _ => cases h
theorem sndS_ex {e : ZE} (he : SndE G M n e) : SndS G M n (.ex e) := by
  intro N sc X Wx s α μ ρ σ H D hr h hc st en f
  cases s with
  | Expr v pos =>
    obtain ⟨h1, h2⟩ := band (show (agE M e N sc v && nC v) = true from h)
    refine WS.of (ps_expr pe_we (swN h2)) (he N sc X Wx v α μ ρ σ H _ hr h1 st en (FinG.bind f fun d μ1 α1 H1 v1 e1 ex1 s1 r1 f1 => ?_))
    exact nowNx f1 s1 (en.ext ex1)
  | _ => cases h
theorem sndS_ret {e : ZE} (he : SndE G M n e) : SndS G M n (.ret e) := by
  intro N sc X Wx s α μ ρ σ H D hr h hc st en f
  cases s with
  | Return v pos =>
    cases v with
    | some v =>
      have h1 : agE M e N sc v = true := by cases e <;> exact h
      refine WS.of (ps_ret pe_we) (he N sc X Wx v α μ ρ σ H _ hr h1 st en (FinG.bind f fun d μ1 α1 H1 v1 e1 ex1 s1 r1 f1 => ?_))
      exact nowRt f1 s1 r1
    | none =>
      cases e with
      | non => exact WS.of ps_retN (nowRt (d := .non) f st .non)
      | _ => cases h
  | _ => cases h
theorem sndS_ite {c : ZE} {a b : ZSs} (hc : SndT G M n c) (ha : SndSs G M n a) (hb : SndSs G M n b) : SndS G M n (.ite c a b) := by
  intro N sc X Wx s α μ ρ σ H D hr h hk st en f
  cases s with
  | If t x y pos =>
    have h' : (agE M c N sc t && agSs M N sc a x && agSs M N sc b y) = true := h
    simp only [Bool.and_eq_true] at h'
    obtain ⟨⟨h1, h2⟩, h3⟩ := h'
    have ka : Const X Wx ∨ simSs a = true := hk.imp id fun z => (band (show (simSs a && simSs b) = true from z)).1
    have kb : Const X Wx ∨ simSs b = true := hk.imp id fun z => (band (show (simSs a && simSs b) = true from z)).2
    refine WS.of (ps_if pt_wt pss_wss pss_wss) (hc N sc X Wx t α μ ρ σ H _ hr h1 st en (FinG.bind f fun d μ1 α1 H1 v e1 ex1 s1 r1 f1 => ?_))
    cases d with
    | bl i =>
      cases r1
      refine ⟨i, rfl, ?_⟩
      cases i with
      | true => exact ha N sc X Wx x α1 μ1 ρ σ H1 _ hr h2 ka s1 (en.ext ex1) f1
      | false => exact hb N sc X Wx y α1 μ1 ρ σ H1 _ hr h3 kb s1 (en.ext ex1) f1
    | _ => exact (show False from f1).elim
  | _ => cases h
theorem sndSs_nil : SndSs G M n .nil := by
  intro N sc X Wx s α μ ρ σ H D hr h hc st en f
  cases s with
  | nil => exact WSs.of pss_nil (nowNx f st en)
  | cons s ss => cases h
theorem sndSs_cons {z : ZS} {zs : ZSs} (hz : SndS G M n z) (hzs : SndSs G M n zs) (hf : ∀ i, z ≠ .frz i) : SndSs G M n (.cons z zs) := by
  intro N sc X Wx s α μ ρ σ H D hr h hc st en f
  cases s with
  | nil => cases z <;> first | cases h | exact absurd rfl (hf _)
  | cons s ss =>
    have h' : (agS M N sc z s && agSs M N sc zs ss) = true := by cases z <;> first | exact h | exact absurd rfl (hf _)
    obtain ⟨h1, h2⟩ := band h'
    cases zs with
    | nil =>
      have e : ss = [] := by cases ss <;> first | rfl | cases h2
      subst e
      have k1 : Const X Wx ∨ simS z = true := hc.imp id fun q => by cases z <;> exact q
      refine WSs.of (pss_one ps_ws) (hz N sc X Wx s α μ ρ σ H _ hr h1 k1 st en ?_)
      have f' : FinG G (RelFl G) (WW G Wx σ) α μ H ((evalS (evOf G.T n) z ρ μ).bind fun f μ1 => match f with
        | .nx ρ1 => .ok (.nx ρ1) μ1
        | .rt d => .ok (.rt d) μ1) (QD D) := f
      refine FinG.bind f' fun fl μ1 α1 H1 v1 e1 ex1 s1 r1 f1 => ?_
      cases fl with
      | nx ρ1 =>
        cases v1 with
        | inl σ1 => exact nowNx f1 s1 r1
        | inr v => exact (show False from r1).elim
      | rt d =>
        cases v1 with
        | inl σ1 => exact (show False from r1).elim
        | inr v => exact nowRt f1 s1 r1
    | cons z2 zs2 =>
      have kc : Const X Wx := by
        rcases hc with q | q
        · exact q
        · exfalso; cases z <;> cases q
      refine WSs.of (pss_cons ps_ws pss_wss) (hz N sc X Wx s α μ ρ σ H _ hr h1 (.inl kc) st en ?_)
      have f' : FinG G (RelFl G) (WW G Wx σ) α μ H ((evalS (evOf G.T n) z ρ μ).bind fun f μ1 => match f with
        | .nx ρ1 => evalSs (evOf G.T n) (.cons z2 zs2) ρ1 μ1
        | .rt d => .ok (.rt d) μ1) (QD D) := f
      refine FinG.bind f' fun fl μ1 α1 H1 v1 e1 ex1 s1 r1 f1 => ?_
      cases fl with
      | nx ρ1 =>
        cases v1 with
        | inl σ1 => exact hzs N sc X Wx ss α1 μ1 ρ1 σ1 H1 D hr h2 (.inl kc) s1 r1 (by rw [kc.eq σ1 σ]; exact f1)
        | inr v => exact (show False from r1).elim
      | rt d =>
        cases v1 with
        | inl σ1 => exact (show False from r1).elim
        | inr v => exact (nowRt (D := D) f1 s1 r1)
theorem sndSs_frz {i : Nat} {zs : ZSs} (hzs : SndSs G M n zs) : SndSs G M n (.cons (.frz i) zs) := by
  intro N sc X Wx s α μ ρ σ H D hr h hc st en f
  have h' : agSs M N sc zs s = true := by cases s <;> exact h
  have kc : Const X Wx := by
    rcases hc with q | q
    · exact q
    · cases zs <;> cases q
  have f' : FinG G (RelFl G) (WW G Wx σ) α μ H ((evalS (evOf G.T n) (.frz i) ρ μ).bind fun f μ1 => match f with
        | Fl.nx ρ1 => evalSs (evOf G.T n) zs ρ1 μ1
        | Fl.rt d => .ok (Fl.rt d) μ1) (QD D) := f
  cases e0 : evalS (evOf G.T n) (.frz i) ρ μ with
  | err => rw [e0] at f'; exact (show False from f').elim
  | exc c pl m =>
    exfalso
    unfold evalS at e0
    split at e0
    · rename_i d ed
      cases e : freeze d μ with
      | exc c pl m => exact freeze_noexc e
      | err => rw [e] at e0; cases e0
      | ok x μ1 => rw [e] at e0; cases e0
    · cases e0
  | ok fl μ1 =>
    rw [e0] at f'
    unfold evalS at e0
    split at e0
    · rename_i d ed
      obtain ⟨v, ev, rv⟩ := en.2 i d ed
      cases e : freeze d μ with
      | exc c pl m => exact (freeze_noexc e).elim
      | err => rw [e] at e0; cases e0
      | ok x μ2 =>
        rw [e] at e0
        have e1 : R.ok (Fl.nx (ρ.set i (some x))) μ2 = .ok fl μ1 := e0
        cases e1
        obtain ⟨ex, s1, r1⟩ := freeze_inv st rv e
        have en1 : EnvOk G α μ1 H (ρ.set i (some x)) σ := by
          have q := (en.ext ex).set i r1
          have es : σ.set i (some v) = σ := by
            apply List.ext_getElem?
            intro j
            by_cases hj : i = j
            · subst hj
              rw [List.getElem?_set_self (List.getElem?_eq_some_iff.mp ev).1, ev]
            · rw [List.getElem?_set_ne hj]
          rw [es] at q
          exact q
        exact hzs N sc X Wx s α μ1 _ σ H D hr h' (.inl kc) s1 en1 (FinG.at_ f' ex)
    · cases e0
end
end Z

end
section
set_option maxHeartbeats 4000000
set_option autoImplicit false
/-! Z19: assignments, loops. -/
namespace Z
open PySem PySem.Spec PyProof.Rows L2
section
variable {G : Tx} {M : Nm} {n : Nat}
theorem lcN_inv {sc : Scope} {tg v : Expr} (h : lcN sc tg v = true) : ∃ y py elt gens scope lpos, tg = .Name y py ∧ v = .ListComp elt gens scope lpos ∧ sc.names.lookup y = some .local ∧ (py.line == lpos.line) = true ∧ (scope.names.any fun (n, k) => n == y && (k == .local || k == .cell)) = false := by
  cases tg with
  | Name y py =>
    cases v with
    | ListComp elt gens scope lpos =>
      have h' : (decide (sc.names.lookup y = some .local) && (py.line == lpos.line) && !(scope.names.any fun (n, k) => n == y && (k == .local || k == .cell))) = true := h
      simp only [Bool.and_eq_true] at h'
      obtain ⟨⟨k1, k2⟩, k3⟩ := h'
      exact ⟨y, py, elt, gens, scope, lpos, rfl, rfl, of_decide_eq_true k1, k2, bnot k3⟩
    | _ => cases h
  | _ => cases h
theorem dcN_inv {sc : Scope} {tg v : Expr} (h : dcN sc tg v = true) : ∃ y py kx vx gens scope lpos, tg = .Name y py ∧ v = .DictComp kx vx gens scope lpos ∧ sc.names.lookup y = some .local ∧ (py.line == lpos.line) = true ∧ (scope.names.any fun (n, k) => n == y && (k == .local || k == .cell)) = false := by
  cases tg with
  | Name y py =>
    cases v with
    | DictComp kx vx gens scope lpos =>
      have h' : (decide (sc.names.lookup y = some .local) && (py.line == lpos.line) && !(scope.names.any fun (n, k) => n == y && (k == .local || k == .cell))) = true := h
      simp only [Bool.and_eq_true] at h'
      obtain ⟨⟨k1, k2⟩, k3⟩ := h'
      exact ⟨y, py, kx, vx, gens, scope, lpos, rfl, rfl, of_decide_eq_true k1, k2, bnot k3⟩
    | _ => cases h
  | _ => cases h
/-- what the scope says of a cell name holds at hand -/
theorem cell_at {N : List Str} {sc : Scope} {X : Cx} {Wx : WX} (hr : Here G n ⟨N, sc, M⟩ X Wx) {y : Str} (h : sc.names.lookup y = some .cell) : X.env.kindOf y = some .cell := by
  rcases hr.c.sco y _ h with q | ⟨q, _⟩
  · exact q
  · cases q
theorem swO_of {N : List Str} {sc : Scope} {X : Cx} {Wx : WX} (hr : Here G n ⟨N, sc, M⟩ X Wx) {tg v : Expr} {k : Nat} (h : swO sc tg = true) : swapsWith v (some tg) k X.env = pure false := by
  unfold swapsWith
  cases tg with
  | Name y py =>
    have e := cell_at hr (of_decide_eq_true h)
    have kk : (some NameKind.cell == some NameKind.local) = false := by decide
    cases v <;> first | rfl | (simp only [e, kk, Bool.and_false, Bool.false_and])
  | _ => cases v <;> rfl
theorem sndS_asg {g : ZG} {e : ZE} (hg : SndG G M n g) (he : SndE G M n e) (hlc : ∀ m own t k it ifs x, e = .lc m own t k it ifs x → ItGoal G M n k it ∧ SndPT G M n ifs ∧ SndE G M n x)
    (hlc2 : ∀ m own t k it own2 t2 k2 it2 x, e = .lc2 m own t k it own2 t2 k2 it2 x → ItGoal G M n k it ∧ ItGoal G M n k2 it2 ∧ SndE G M n x)
    (hdc : ∀ m own t k it ifs kx vx, e = .dc m own t k it ifs kx vx → ItGoal G M n k it ∧ SndPT G M n ifs ∧ SndE G M n kx ∧ SndE G M n vx) : SndS G M n (.asg g e) := by
  intro N sc X Wx s α μ ρ σ H D hr h hk st en f
  cases s with
  | Assign tgs v pos =>
    match tgs, h with
    | [tg], h =>
      have h' : (agE M e N sc v && agG M N sc g tg && ((nC v || swO sc tg) || isLc e && lcN sc tg v || isDc e && dcN sc tg v) && !isTup tg) = true := h
      simp only [Bool.and_eq_true] at h'
      obtain ⟨⟨⟨h1, h2⟩, h3⟩, h4⟩ := h'
      have fin : FinG G (RelFl G) (WW G Wx σ) α μ H ((evalE (evOf G.T n) e ρ μ).bind fun d μ1 => (asgG (evOf G.T n) g d ρ μ1).bind fun ρ1 μ2 => .ok (.nx ρ1) μ2) (QD D) := f
      rcases Bool.or_eq_true_iff.mp h3 with h3 | h3
      rotate_left
      · obtain ⟨h30, h3⟩ := band h3
        obtain ⟨y, py, kx, vx, gens, scope, lpos, rfl, rfl, k1, k2', k3⟩ := dcN_inv h3
        cases g with
        | nm i =>
          obtain ⟨g1, g2⟩ := band (show (nthIs N i y && locB sc y) = true from h2)
          have hyl : X.env.scope.names.lookup y = some .local := by
            rcases hr.c.sco y _ k1 with q | ⟨q, _⟩
            · exact q
            · cases q
          cases e with
          | dc m own t k it ifs ke ve =>
            obtain ⟨i1, i2, i3, i4⟩ := hdc m own t k it ifs ke ve rfl
            match gens, h1 with
            | [⟨tg, iter, ts, 0⟩], h1 =>
              have A := agDc_of h1
              obtain ⟨as, ha, a5⟩ := A.h5
              have eown := own_map A.h3
              have hb := fun (s : Shared) (H : Hp) (C : Addr) (cl : List (Str × Addr)) (fp : List Addr) => here_blk (scope := scope) hr (s := s) (H := H) (C := C) (cl := cl) (fp := fp)
              have rd : tDc (WI X tg iter) (gTz G own t) (tIfs G n ifs) (tEz G n ke) (tEz G n ve) own σ H (fun v H1 => D.nx (σ.set i (some v)) H1) := dc_read i1 hr ha a5 st en (FinG.bind fin fun d μ1 α1 H1 v1 e1 ex1 s1 r1 f1 => nowNx (show FinG G (RelFl G) (WW G Wx σ) α1 μ1 H1 (.ok (.nx (ρ.set i (some d))) μ1) (QD D) from f1) s1 ((en.ext ex1).set i r1))
              intro pins s I
              refine (ps_setDc hr.c.calm (by rw [hr.c.N]; exact hr.c.nd) (by rw [hr.c.N]; exact of_decide_eq_true g1) hyl (sw_trueD I.ok.kind hyl k2' k3) (pi_wi (X := X) (tg := tg) (iter := iter)) (blk_of hr A.h2) (fun s H C cl fp => pg_z (hb s H C cl fp) A.h4) (fun s H C cl fp => pts_z i2 (hb s H C cl fp) A.h7 A.h6) (fun s H C cl fp => pe_z i3 (hb s H C cl fp) A.h8) (fun s H C cl fp => pe_z i4 (hb s H C cl fp) A.h9) (fun x => foldN A.h1)).run pins s σ H D I ?_
              rw [eown]
              exact rd
          | _ => cases h30
        | _ => cases h2
      rcases Bool.or_eq_true_iff.mp h3 with h3 | h3
      · have hn : nS tg = true ∧ swappedStores [tg] v X.env = pure none := by
          cases tg with
          | Name _ _ => exact ⟨rfl, rfl⟩
          | Attribute _ _ _ => exact ⟨rfl, rfl⟩
          | Subscript _ _ _ => exact ⟨rfl, rfl⟩
          | _ => cases g <;> cases h2
        refine WS.of (ps_asg pe_we pg_wg (show swapsWith v (some tg) pos.line X.env = pure false from (Bool.or_eq_true_iff.mp h3).elim swN fun h3 => swO_of hr h3) hn.2 (by rw [asgEach hn.1]; rfl)) ?_
        refine he N sc X Wx v α μ ρ σ H _ hr h1 st en (FinG.bind fin fun d μ1 α1 H1 v1 e1 ex1 s1 r1 f1 => ?_)
        refine hg N sc X Wx tg α1 μ1 ρ σ H1 v1 d _ hr h2 s1 (en.ext ex1) r1 (FinG.bind f1 fun ρ2 μ2 α2 H2 σ2 e2 ex2 s2 r2 f2 => ?_)
        exact nowNx f2 s2 r2
      · obtain ⟨h30, h3⟩ := band h3
        obtain ⟨y, py, elt, gens, scope, lpos, rfl, rfl, k1, k2', k3⟩ := lcN_inv h3
        cases g with
        | nm i =>
          obtain ⟨g1, g2⟩ := band (show (nthIs N i y && locB sc y) = true from h2)
          have hyl : X.env.scope.names.lookup y = some .local := by
            rcases hr.c.sco y _ k1 with q | ⟨q, _⟩
            · exact q
            · cases q
          cases e with
          | lc m own t k it ifs x =>
            obtain ⟨i1, i2, i3⟩ := hlc m own t k it ifs x rfl
            match gens, h1 with
            | [⟨tg, iter, ts, 0⟩], h1 =>
              obtain ⟨a1, a2, a3, a4, ⟨as, ha, a5⟩, a6, a7, a8⟩ := agLc_of h1
              have eown := own_map a3
              have hb := fun (s : Shared) (H : Hp) (C : Addr) (cl : List (Str × Addr)) (fp : List Addr) => here_blk (scope := scope) hr (s := s) (H := H) (C := C) (cl := cl) (fp := fp)
              have rd : tLc (WI X tg iter) (gTz G own t) (tIfs G n ifs) (tEz G n x) own σ H (fun v H1 => D.nx (σ.set i (some v)) H1) := lc_read i1 hr ha a5 st en (FinG.bind fin fun d μ1 α1 H1 v1 e1 ex1 s1 r1 f1 => nowNx (show FinG G (RelFl G) (WW G Wx σ) α1 μ1 H1 (.ok (.nx (ρ.set i (some d))) μ1) (QD D) from f1) s1 ((en.ext ex1).set i r1))
              intro pins s I
              refine (ps_setLc hr.c.calm (by rw [hr.c.N]; exact hr.c.nd) (by rw [hr.c.N]; exact of_decide_eq_true g1) hyl (sw_true I.ok.kind hyl k2' k3) (pi_wi (X := X) (tg := tg) (iter := iter)) (blk_of hr a2) (fun s H C cl fp => pg_z (hb s H C cl fp) a4) (fun s H C cl fp => pts_z i2 (hb s H C cl fp) a7 a6) (fun s H C cl fp => pe_z i3 (hb s H C cl fp) a8) (fun x => foldN a1)).run pins s σ H D I ?_
              rw [eown]
              exact rd
          | lc2 m own t k it own2 t2 k2 it2 x =>
            obtain ⟨i1, i2, i3⟩ := hlc2 m own t k it own2 t2 k2 it2 x rfl
            match gens, h1 with
            | [⟨tg, iter, [], 0⟩, ⟨tg2, iter2, [], 0⟩], h1 =>
              have A := agLc2_of h1
              obtain ⟨as, ha, a5⟩ := A.h7
              obtain ⟨as2, ha2, a8⟩ := A.h8
              have eown := own_map A.h3
              have hb := fun (s : Shared) (H : Hp) (C : Addr) (cl : List (Str × Addr)) (fp : List Addr) => here_blk (scope := scope) hr (s := s) (H := H) (C := C) (cl := cl) (fp := fp)
              have rd : tLc2 (WI X tg iter) (gTz G own t) tYes (tIz G n k2 it2) (gTz G own2 t2) tYes (tEz G n x) own own2 σ H (fun v H1 => D.nx (σ.set i (some v)) H1) := lc2_read i1 hr ha a5 st en (FinG.bind fin fun d μ1 α1 H1 v1 e1 ex1 s1 r1 f1 => nowNx (show FinG G (RelFl G) (WW G Wx σ) α1 μ1 H1 (.ok (.nx (ρ.set i (some d))) μ1) (QD D) from f1) s1 ((en.ext ex1).set i r1))
              intro pins s I
              refine (ps_setLc2 (vs1 := own2) hr.c.calm (by rw [hr.c.N]; exact hr.c.nd) (by rw [hr.c.N]; exact of_decide_eq_true g1) hyl (sw_true I.ok.kind hyl k2' k3) (pi_wi (X := X) (tg := tg) (iter := iter)) (blk_of hr A.h2) (by rw [eown]; exact A.sub) (fun s H C cl fp => pg_z (hb s H C cl fp) A.h5) (fun s H C cl fp => pts_nil) (fun s H C cl fp => pi_z i2 (hb s H C cl fp) ha2 a8) (fun s H C cl fp => pg_z (hb s H C cl fp) A.h6) (fun s H C cl fp => pts_nil) (fun s H C cl fp => pe_z i3 (hb s H C cl fp) A.h9) (fun x => foldN A.h1) (fun env x => foldN A.h1')).run pins s σ H D I ?_
              rw [eown]
              exact rd
          | _ => cases h30
        | _ => cases h2
  | _ => cases h
theorem sndGs {N : List Str} {sc : Scope} {X : Cx} {Wx : WX} (hr : Here G n ⟨N, sc, M⟩ X Wx) {σ0 : L2.St} (hW : Const X Wx ∨ True) : ∀ {gs : List ZG} (hg : ∀ g ∈ gs, SndG G M n g) {ts : List Expr} {α : Al} {μ : Mu} {H : Hp} {ρ : Env} {σ : L2.St} {vs : List V} {ds : List D} {Q : L2.St → Hp → Prop}, agGs M N sc gs ts = true → StOk G α μ H → EnvOk G α μ H ρ σ → RepL G α μ H vs ds →
    (∀ σ', WW G Wx σ' = WW G Wx σ0) → FinG G (fun α μ H (σ' : L2.St) ρ' => EnvOk G α μ H ρ' σ') (WW G Wx σ0) α μ H (asgGs (evOf G.T n) gs ds ρ μ) Q → WGs X ts vs σ H Q
  | [], hg, ts, α, μ, H, ρ, σ, vs, ds, Q, h, st, en, r, hw, f => by
    cases ts with
    | nil =>
      cases r with
      | nil =>
        intro pins s us I ru
        exact pgs_nil.run pins s σ H _ us Q I ru ⟨rfl, FinG.now f st en⟩
      | cons r1 r2 => exact (show False from f).elim
    | cons e es => cases h
  | g :: gs, hg, ts, α, μ, H, ρ, σ, vs, ds, Q, h, st, en, r, hw, f => by
    cases ts with
    | nil => cases h
    | cons e es =>
      have h' : (agG M N sc g e && nS e && agGs M N sc gs es) = true := h
      simp only [Bool.and_eq_true] at h'
      obtain ⟨⟨h1, h2⟩, h3⟩ := h'
      cases r with
      | nil => exact (show False from f).elim
      | @cons v d vs ds r1 r2 =>
        intro pins s us I ru
        refine (pgs_cons (X := X) pg_wg pgs_wgs (by rw [asgEach h2]; rfl)).run pins s σ H _ us Q I ru ⟨v, vs, rfl, ?_⟩
        refine hg g (List.mem_cons_self) N sc X Wx e α μ ρ σ H v d _ hr h1 st en r1 ?_
        rw [hw σ]
        refine FinG.bind (show FinG G _ (WW G Wx σ0) α μ H ((asgG (evOf G.T n) g d ρ μ).bind fun ρ1 μ1 => asgGs (evOf G.T n) gs ds ρ1 μ1) Q from f) fun ρ2 μ2 α2 H2 σ2 e2 ex2 s2 r3 f2 => ?_
        exact sndGs hr hW (fun g hg' => hg g (List.mem_cons_of_mem _ hg')) h3 s2 r3 (r2.ext ex2) hw f2
theorem agGs_nS {N : List Str} {sc : Scope} : ∀ {gs : List ZG} {ts : List Expr}, agGs M N sc gs ts = true → ts.all nS = true
  | [], [], _ => rfl
  | [], e :: es, h => by cases h
  | g :: gs, [], h => by cases h
  | g :: gs, e :: es, h => by
    have h' : (agG M N sc g e && nS e && agGs M N sc gs es) = true := h
    simp only [Bool.and_eq_true] at h'
    rw [List.all_cons, h'.1.2, agGs_nS h'.2]
    rfl
theorem fm_lt {α β : Type} {F : α → Option β} : ∀ {ts : List α}, (∃ t ∈ ts, F t = none) → (ts.filterMap F).length < ts.length
  | [], h => by
    obtain ⟨t, ht, _⟩ := h
    cases ht
  | x :: ts, h => by
    obtain ⟨t, ht, hn⟩ := h
    have hle := List.length_filterMap_le F ts
    rcases List.mem_cons.mp ht with rfl | ht
    · rw [List.filterMap_cons_none hn, List.length_cons]
      omega
    · have ih := fm_lt ⟨t, ht, hn⟩
      cases e : F x with
      | none => rw [List.filterMap_cons_none e, List.length_cons]; omega
      | some y => rw [List.filterMap_cons_some e, List.length_cons, List.length_cons]; omega
theorem noSw {sc : Scope} {ts vs : List Expr} {k k2 : Nat} {p p2 : Pos} {env : PySem.Env} (hk : ∀ y, sc.names.lookup y = some .cell → env.kindOf y = some .cell) (h : (ts.any (swO sc)) = true) : swappedStores [.Tuple ts k p] (.Tuple vs k2 p2) env = pure none := by
  unfold swappedStores
  simp only []
  split
  · rfl
  · split
    · rfl
    · split
      · rfl
      · rename_i h3
        exfalso
        apply h3
        refine Bool.or_eq_true_iff.mpr (.inl ?_)
        refine bne_iff_ne.mpr (Nat.ne_of_lt (fm_lt ?_))
        obtain ⟨t, ht, hn⟩ := List.any_eq_true.mp h
        refine ⟨t, ht, ?_⟩
        cases t with
        | Name y py =>
          have e := hk y (of_decide_eq_true hn)
          simp [e]
        | _ => first | rfl | cases hn
theorem noStar {vs : List Expr} (h : vs.all nS = true) : (vs.any fun | .Starred .. => true | _ => false) = false := by
  induction vs with
  | nil => rfl
  | cons v vs ih =>
    obtain ⟨h1, h2⟩ := band (show (nS v && vs.all nS) = true from h)
    rw [List.any_cons, ih h2]
    cases v <;> first | rfl | cases h1
theorem sw2 {x y : Str} {px py p p2 : Pos} {k k2 : Nat} {vs : List Expr} {env : PySem.Env} (hk : env.scope.kind = .function) (hx : env.scope.names.lookup x = some .local) (hy : env.scope.names.lookup y = some .local) (hxy : x ≠ y) (hl : py.line = px.line) (hv : vs.length = 2) (hs : vs.all nS = true) (h1 : vs.all (foldedForSure 8) = false) (h2 : vs.all (constantsAlone 8) = false) :
    swappedStores [.Tuple [.Name x px, .Name y py] k p] (.Tuple vs k2 p2) env = pure (some [x, y]) := by
  have kx : env.kindOf x = some .local := hx
  have ky : env.kindOf y = some .local := hy
  have hb : env.blockKind = .function := by unfold Env.blockKind; rw [hk]; rfl
  have hd : [x, y].eraseDups.length = 2 := by simp [List.eraseDups_cons, hxy, Ne.symm hxy]
  have e1 : (Expr.Name x px).pos = px := rfl
  have q : (some NameKind.local == some NameKind.local) = true := rfl
  unfold swappedStores
  simp only [List.filterMap_cons, List.filterMap_nil, kx, ky, e1, hl, List.head?_cons, Option.map_some, Option.getD_some, beq_self_eq_true, q, Bool.and_self, if_true, Bool.true_and]
  refine (if_neg (by simp [hv, hb])).trans ?_
  refine (if_neg fun h => absurd (h.symm.trans (noStar hs)) (by decide)).trans ?_
  refine (if_neg (by simp [hd])).trans ?_
  refine (if_neg (by rw [h1]; decide)).trans ?_
  exact (if_neg (by rw [h2]; decide)).trans rfl
theorem sw3 {x y z : Str} {px py pz p p2 : Pos} {k k2 : Nat} {vs : List Expr} {env : PySem.Env} (hk : env.scope.kind = .function) (hx : env.scope.names.lookup x = some .local) (hy : env.scope.names.lookup y = some .local) (hz : env.scope.names.lookup z = some .local) (hxy : x ≠ y) (hxz : x ≠ z) (hyz : y ≠ z) (hl : py.line = px.line) (hl2 : pz.line = px.line) (hv : vs.length = 3) (hs : vs.all nS = true) (h1 : vs.all (foldedForSure 8) = false) (h2 : vs.all (constantsAlone 8) = false) :
    swappedStores [.Tuple [.Name x px, .Name y py, .Name z pz] k p] (.Tuple vs k2 p2) env = pure (some [x, y, z]) := by
  have kx : env.kindOf x = some .local := hx
  have ky : env.kindOf y = some .local := hy
  have kz : env.kindOf z = some .local := hz
  have hb : env.blockKind = .function := by unfold Env.blockKind; rw [hk]; rfl
  have hd : [x, y, z].eraseDups.length = 3 := by simp [List.eraseDups_cons, hxy, Ne.symm hxy, hxz, Ne.symm hxz, hyz, Ne.symm hyz]
  have e1 : (Expr.Name x px).pos = px := rfl
  have q : (some NameKind.local == some NameKind.local) = true := rfl
  unfold swappedStores
  simp only [List.filterMap_cons, List.filterMap_nil, kx, ky, kz, e1, hl, hl2, List.head?_cons, Option.map_some, Option.getD_some, beq_self_eq_true, q, Bool.and_self, if_true, Bool.true_and]
  refine (if_neg (by simp [hv, hb])).trans ?_
  refine (if_neg fun h => absurd (h.symm.trans (noStar hs)) (by decide)).trans ?_
  refine (if_neg (by simp [hd])).trans ?_
  refine (if_neg (by rw [h1]; decide)).trans ?_
  exact (if_neg (by rw [h2]; decide)).trans rfl
theorem nodup_ne {N : List Str} (nd : N.Nodup) {i j : Nat} {x y : Str} (h : i ≠ j) (hi : N[i]? = some x) (hj : N[j]? = some y) : x ≠ y := fun e => h (by
  subst e
  exact nodup_ix nd hi hj)
theorem loc1 {N : List Str} {sc : Scope} {X : Cx} {Wx : WX} {x : Str} (hr : Here G n ⟨N, sc, M⟩ X Wx) (h : sc.names.lookup x = some .local) : X.env.scope.names.lookup x = some .local := by
  rcases hr.c.sco x _ h with q | ⟨q, _⟩
  · exact q
  · cases q
theorem swB_inv {N : List Str} {sc : Scope} {gs : List ZG} {ts vs : List Expr} (h : swB N sc gs ts vs = true) :
    (∃ i j x px y py, gs = [.nm i, .nm j] ∧ ts = [.Name x px, .Name y py] ∧ i ≠ j ∧ N[i]? = some x ∧ N[j]? = some y ∧ sc.names.lookup x = some .local ∧ sc.names.lookup y = some .local ∧ py.line = px.line ∧ vs.all (foldedForSure 8) = false ∧ vs.all (constantsAlone 8) = false ∧ vs.length = 2) ∨
    ∃ i j l x px y py z pz, gs = [.nm i, .nm j, .nm l] ∧ ts = [.Name x px, .Name y py, .Name z pz] ∧ i ≠ j ∧ i ≠ l ∧ j ≠ l ∧ N[i]? = some x ∧ N[j]? = some y ∧ N[l]? = some z ∧ sc.names.lookup x = some .local ∧ sc.names.lookup y = some .local ∧ sc.names.lookup z = some .local ∧ py.line = px.line ∧ pz.line = px.line ∧ vs.all (foldedForSure 8) = false ∧ vs.all (constantsAlone 8) = false ∧ vs.length = 3 := by
  unfold swB at h
  split at h
  · simp only [Bool.and_eq_true] at h
    obtain ⟨⟨⟨⟨⟨⟨⟨⟨k1, k2⟩, k3⟩, k4⟩, k5⟩, k6⟩, k7⟩, k8⟩, k9⟩ := h
    exact .inl ⟨_, _, _, _, _, _, rfl, rfl, of_decide_eq_true k1, of_decide_eq_true k2, of_decide_eq_true k3, of_decide_eq_true k4, of_decide_eq_true k5, of_decide_eq_true k6, bnot k7, bnot k8, of_decide_eq_true k9⟩
  · simp only [Bool.and_eq_true] at h
    obtain ⟨⟨⟨⟨⟨⟨⟨⟨⟨⟨⟨⟨⟨k1, k2⟩, k3⟩, k4⟩, k5⟩, k6⟩, k7⟩, k8⟩, k9⟩, k10⟩, k11⟩, k12⟩, k13⟩, k14⟩ := h
    exact .inr ⟨_, _, _, _, _, _, _, _, _, rfl, rfl, of_decide_eq_true k1, of_decide_eq_true k2, of_decide_eq_true k3, of_decide_eq_true k4, of_decide_eq_true k5, of_decide_eq_true k6, of_decide_eq_true k7, of_decide_eq_true k8, of_decide_eq_true k9, of_decide_eq_true k10, of_decide_eq_true k11, bnot k12, bnot k13, of_decide_eq_true k14⟩
  · cases h
theorem asg2_inv {N : List Str} {sc : Scope} {gs : List ZG} {zs : ZEs} {tgs : List Expr} {v : Expr} {pos : Pos} (h : agS M N sc (.asg2 gs (.tup zs)) (.Assign tgs v pos) = true) : ∃ ts k0 p0 vs k1 p1, tgs = [.Tuple ts k0 p0] ∧ v = .Tuple vs k1 p1 ∧
    (agEs M zs N sc vs && decide (vs.length ≤ lim) && agGs M N sc gs ts && decide (ts.length = vs.length) && vs.all nS && (swB N sc gs ts vs || ts.any (swO sc))) = true := by
  cases tgs with
  | nil => cases h
  | cons t r =>
    cases r with
    | cons _ _ => cases t <;> cases h
    | nil =>
      cases t with
      | Tuple ts k0 p0 =>
        cases v with
        | Tuple vs k1 p1 => exact ⟨_, _, _, _, _, _, rfl, rfl, h⟩
        | _ => cases h
      | _ => cases h
theorem sndS_asg2 {gs : List ZG} {zs : ZEs} (hg : ∀ g ∈ gs, SndG G M n g) (hz : SndEs G M n zs) : SndS G M n (.asg2 gs (.tup zs)) := by
  intro N sc X Wx s α μ ρ σ H D hr h hk st en f
  cases s with
  | Assign tgs v pos =>
    obtain ⟨ts, k0, p0, vs, k1, p1, rfl, rfl, h'⟩ := asg2_inv h
    · skip
      simp only [Bool.and_eq_true] at h'
      obtain ⟨⟨⟨⟨⟨h1, h1'⟩, h2⟩, h3⟩, h4⟩, h5⟩ := h'
      have h3 := of_decide_eq_true h3
      have fin : FinG G (RelFl G) (WW G Wx σ) α μ H ((evalEs (evOf G.T n) zs ρ μ).bind fun ds μ1 => if ds.length = gs.length then (asgGs (evOf G.T n) gs ds ρ μ1).bind fun ρ1 μ2 => .ok (.nx ρ1) μ2 else .err) (QD D) := by
        have e0 : evalS (evOf G.T n) (.asg2 gs (.tup zs)) ρ μ = (((evalEs (evOf G.T n) zs ρ μ).bind fun ds μ1 => (.ok (Z.D.tup ds) μ1 : R Z.D)).bind fun d μ1 => match d with
          | Z.D.tup ds => if ds.length = gs.length then (asgGs (evOf G.T n) gs ds ρ μ1).bind fun ρ1 μ2 => .ok (Fl.nx ρ1) μ2 else .err
          | _ => .err) := rfl
        rw [e0] at f
        cases e1 : evalEs (evOf G.T n) zs ρ μ <;> (rw [e1] at f; exact f)
      rcases Bool.or_eq_true_iff.mp h5 with h5 | h5
      · rcases swB_inv h5 with ⟨i, j, x, px, y, py, rfl, rfl, k1, k2, k3, k4, k5, k6, k7, k8, k9⟩ | ⟨i, j, l, x, px, y, py, z, pz, rfl, rfl, k1, m1, m2, k2, k3, m3, k4, k5, m4, k6, m5, k7, k8, k9⟩
        · have lx := loc1 hr k4
          have ly := loc1 hr k5
          have hxy := nodup_ne hr.c.nd k1 k2 k3
          match vs, k9, h1, h4, k7, k8 with
          | [a, b], _, h1, h4, k7, k8 =>
            have wa : WA X [a, b] σ H (fun ws H1 => ∃ v w, ws = [v, w] ∧ D.nx ((σ.set i (some v)).set j (some w)) H1) := hz N sc X Wx [a, b] α μ ρ σ H _ hr h1 h4 st en (FinG.bind fin fun ds μ1 α1 H1 ws e1 ex1 s1 r1 f1 => by
              have hl := es_len e1 h1
              match ds, hl, r1, f1 with
              | [d, d'], _, .cons r0 (.cons r00 .nil), f1 =>
                have f2 : FinG G (RelFl G) (WW G Wx σ) α1 μ1 H1 (.ok (.nx ((ρ.set i (some d)).set j (some d'))) μ1) (QD D) := f1
                exact ⟨_, _, rfl, nowNx f2 s1 (((en.ext ex1).set i r0).set j r00)⟩)
            intro pins s I
            exact (ps_par hr.c.calm (by rw [hr.c.N]; exact hr.c.nd) (by rw [hr.c.N]; exact k2) (by rw [hr.c.N]; exact k3) k1 lx ly pa_wa (sw2 I.ok.kind lx ly hxy k6 rfl h4 k7 k8)).run pins s σ H D I wa
        · have lx := loc1 hr k4
          have ly := loc1 hr k5
          have lz := loc1 hr m4
          have hxy := nodup_ne hr.c.nd k1 k2 k3
          have hxz := nodup_ne hr.c.nd m1 k2 m3
          have hyz := nodup_ne hr.c.nd m2 k3 m3
          match vs, k9, h1, h4, k7, k8 with
          | [a, b, c], _, h1, h4, k7, k8 =>
            have wa : WA X [a, b, c] σ H (fun ws H1 => ∃ u v w, ws = [u, v, w] ∧ D.nx (((σ.set i (some u)).set j (some v)).set l (some w)) H1) := hz N sc X Wx [a, b, c] α μ ρ σ H _ hr h1 h4 st en (FinG.bind fin fun ds μ1 α1 H1 ws e1 ex1 s1 r1 f1 => by
              have hl := es_len e1 h1
              match ds, hl, r1, f1 with
              | [d, d', d''], _, .cons r0 (.cons r00 (.cons r000 .nil)), f1 =>
                have f2 : FinG G (RelFl G) (WW G Wx σ) α1 μ1 H1 (.ok (.nx (((ρ.set i (some d)).set j (some d')).set l (some d''))) μ1) (QD D) := f1
                exact ⟨_, _, _, rfl, nowNx f2 s1 ((((en.ext ex1).set i r0).set j r00).set l r000)⟩)
            intro pins s I
            exact (ps_par3 hr.c.calm (by rw [hr.c.N]; exact hr.c.nd) (by rw [hr.c.N]; exact k2) (by rw [hr.c.N]; exact k3) (by rw [hr.c.N]; exact m3) k1 m1 m2 lx ly lz pa_wa (sw3 I.ok.kind lx ly lz hxy hxz hyz k6 m5 rfl h4 k7 k8)).run pins s σ H D I wa
      · have kc : Const X Wx := by
          rcases hk with q | q
          · exact q
          · cases q
        have tn := agGs_nS h2
        obtain ⟨j1, j2⟩ := asgEach_len (env := X.env) tn
        refine WS.of (ps_asg (pe_tup pa_wa) (pg_tup (n := ts.length) hr.c.calm (pgs_wgs (X := X)) j1 j2) (show swapsWith (.Tuple vs k1 p1) (some (.Tuple ts k0 p0)) pos.line X.env = pure false from swN rfl) (noSw (fun y hy => cell_at hr hy) h5) rfl) ?_
        refine hz N sc X Wx vs α μ ρ σ H _ hr h1 h4 st en (FinG.bind fin fun ds μ1 α1 H1 ws e1 ex1 s1 r1 f1 => ?_)
        refine ⟨lim_le (by rw [r1.len, es_len e1 h1]; exact of_decide_eq_true h1'), fun p hp => ?_⟩
        have exn := ext_new (o := .tup ws) s1 hp
        have hl : ds.length = gs.length := by
          by_cases q : ds.length = gs.length
          · exact q
          · rw [if_neg q] at f1; exact (show False from f1).elim
        rw [if_pos hl] at f1
        refine ⟨p, ws, rfl, SqT.of upd_same, by rw [r1.len, es_len e1 h1, h3], ?_⟩
        refine sndGs hr (.inr trivial) hg h2 (s1.new hp) ((en.ext ex1).ext exn) (r1.ext exn) (fun σ' => kc.eq σ' σ) (FinG.bind (FinG.at_ f1 exn) fun ρ2 μ2 α2 H2 σ2 e2 ex2 s2 r2 f2 => ?_)
        exact nowNx f2 s2 r2
  | _ => cases h
theorem sndS_for {t : ZT} {k : IK} {it : ZEs} {b : ZSs} (hit : ItGoal G M n k it) (hb : SndSs G M n b) : SndS G M n (.for_ t k it b) := by
  intro N sc X Wx s α μ ρ σ H D hr h hk st en f
  cases s with
  | For tg iter body oe pos =>
    cases oe with
    | cons _ _ => cases h
    | nil =>
      have h' : (nSet iter && agTg ⟨N, sc, M⟩ (List.range N.length) t tg && (match itArgs ⟨N, sc, M⟩ tg k iter with
        | some as => agEs M it N sc as
        | none => false) && agSs M N sc b body) = true := h
      simp only [Bool.and_eq_true] at h'
      obtain ⟨⟨⟨h1, h2⟩, h3⟩, h4⟩ := h'
      have kc : Const X Wx := by
        rcases hk with q | q
        · exact q
        · cases q
      cases ha : itArgs ⟨N, sc, M⟩ tg k iter with
      | none => rw [ha] at h3; cases h3
      | some as =>
        rw [ha] at h3
        refine WS.of (ps_for hr.x.po hr.c.calm pi_wi pg_wg pss_wss (fun x => foldN h1)) ?_
        refine hit N sc X Wx tg iter as α μ ρ σ H _ Fl (L2.St ⊕ V) (RelFl G) (fun ds μ1 => forLoop (fun d ρ1 μ2 => match bindT t d ρ1 with
          | some ρ2 => evalSs (evOf G.T n) b ρ2 μ2
          | none => .err) ds ρ μ1) (QD D) hr ha h3 st en f fun ds μ1 α1 H1 J ex1 st1 ito f1 => ?_
        obtain ⟨Gd, Y, wk, stay, gives⟩ := ito
        refine for_it wk (fun i σ' H' => ∃ α2 μ2 ρ2, Ext α1 μ1 H1 α2 μ2 H' ∧ StOk G α2 μ2 H' ∧ EnvOk G α2 μ2 H' ρ2 σ' ∧ FinG G (RelFl G) (WW G Wx σ) α2 μ2 H' (forLoop (fun d ρ1 μ2 => match bindT t d ρ1 with
          | some ρ2 => evalSs (evOf G.T n) b ρ2 μ2
          | none => .err) (ds.drop i) ρ2 μ2) (QD D)) ⟨α1, μ1, ρ, Ext.refl, st1, en.ext ex1, f1⟩ ?_ ?_ ?_
        · rintro i σ' H' hi ⟨α2, μ2, ρ2, ex2, _⟩
          exact stay _ _ _ ex2.toExt0
        · rintro i v σ' H' H3 hi ⟨α2, μ2, ρ2, ex2, st2, en2, f2⟩ y
          have hd : ds[i]? = some ds[i] := List.getElem?_eq_getElem hi
          obtain ⟨ex3, st3, r3⟩ := gives i v _ _ _ _ _ ex2.toExt0 st2 hd y
          rw [List.drop_eq_getElem_cons hi] at f2
          have f3 : FinG G (RelFl G) (WW G Wx σ) α2 μ2 H' (((fun d ρ1 μ2 => match bindT t d ρ1 with
            | some ρ2 => evalSs (evOf G.T n) b ρ2 μ2
            | none => R.err) ds[i] ρ2 μ2).bind fun r μ1 => match r with
            | Fl.nx ρ1 => forLoop (fun d ρ1 μ2 => match bindT t d ρ1 with
              | some ρ2 => evalSs (evOf G.T n) b ρ2 μ2
              | none => .err) (ds.drop (i + 1)) ρ1 μ1
            | Fl.rt x => .ok (Fl.rt x) μ1) (QD D) := f2
          dsimp only at f3
          cases eb : bindT t ds[i] ρ2 with
          | none => rw [eb] at f3; exact (show False from f3).elim
          | some ρ3 =>
            rw [eb] at f3
            dsimp only at f3
            refine sndTg hr st3 t h2 (en2.ext ex3) r3 eb fun σ3 en3 _ => ?_
            refine hb N sc X Wx body α2 μ2 ρ3 σ3 H3 _ hr h4 (.inl kc) st3 en3 ?_
            rw [kc.eq σ3 σ]
            refine FinG.bind (FinG.at_ f3 ex3) fun fl μ4 α4 H4 v4 e4 ex4 s4 r4 f4 => ?_
            cases fl with
            | nx ρ4 =>
              cases v4 with
              | inl σ4 => exact ⟨α4, μ4, ρ4, (ex2.trans ex3).trans ex4, s4, r4, f4⟩
              | inr w => exact (show False from r4).elim
            | rt d =>
              cases v4 with
              | inl σ4 => exact (show False from r4).elim
              | inr w => exact (nowRt (D := D) f4 s4 r4)
        · rintro σ' H' ⟨α2, μ2, ρ2, ex2, st2, en2, f2⟩
          rw [List.drop_length] at f2
          exact nowNx (show FinG G (RelFl G) (WW G Wx σ) α2 μ2 H' (.ok (.nx ρ2) μ2) (QD D) from f2) st2 en2
  | _ => cases h
theorem sndS_while {c : ZE} {b : ZSs} (hc : SndT G M n c) (hb : SndSs G M n b) : SndS G M n (.while_ c b) := by
  intro N sc X Wx s α μ ρ σ H D hr h hk st en f
  cases s with
  | While tx body oe pos =>
    cases oe with
    | cons _ _ => cases h
    | nil =>
      obtain ⟨h1, h2⟩ := band (show (agE M c N sc tx && agSs M N sc b body) = true from h)
      have kc : Const X Wx := by
        rcases hk with q | q
        · exact q
        · cases q
      refine WS.of (ps_while hr.x.po pt_wt pss_wss) ?_
      refine ⟨fun m σ' H' => ∃ α2 μ2 ρ2, StOk G α2 μ2 H' ∧ EnvOk G α2 μ2 H' ρ2 σ' ∧ FinG G (RelFl G) (WW G Wx σ) α2 μ2 H' (whileLoop (evalE (evOf G.T n) c) (evalSs (evOf G.T n) b) m ρ2 μ2) (QD D), ⟨G.T.wf, α, μ, ρ, st, en, f⟩, ?_⟩
      rintro m σ' H' ⟨α2, μ2, ρ2, st2, en2, f2⟩
      cases m with
      | zero => exact (show False from f2).elim
      | succ m =>
        have f3 : FinG G (RelFl G) (WW G Wx σ) α2 μ2 H' ((evalE (evOf G.T n) c ρ2 μ2).bind fun x μ1 => match x with
          | .bl true => (evalSs (evOf G.T n) b ρ2 μ1).bind fun r μ2 => (match r with
            | Fl.nx ρ1 => whileLoop (evalE (evOf G.T n) c) (evalSs (evOf G.T n) b) m ρ1 μ2
            | Fl.rt x => .ok (Fl.rt x) μ2)
          | .bl false => .ok (Fl.nx ρ2) μ1
          | _ => .err) (QD D) := f2
        refine hc N sc X Wx tx α2 μ2 ρ2 σ' H' _ hr h1 st2 en2 ?_
        rw [kc.eq σ' σ]
        refine FinG.bind f3 fun d μ3 α3 H3 v3 e3 ex3 s3 r3 f4 => ?_
        cases d with
        | bl i =>
          cases r3
          refine ⟨i, rfl, ?_⟩
          cases i with
          | false => exact nowNx (show FinG G (RelFl G) (WW G Wx σ) α3 μ3 H3 (.ok (.nx ρ2) μ3) (QD D) from f4) s3 (en2.ext ex3)
          | true =>
            refine ⟨fun σ' H' => ∃ α2 μ2 ρ2, StOk G α2 μ2 H' ∧ EnvOk G α2 μ2 H' ρ2 σ' ∧ FinG G (RelFl G) (WW G Wx σ) α2 μ2 H' (whileLoop (evalE (evOf G.T n) c) (evalSs (evOf G.T n) b) m ρ2 μ2) (QD D), fun σ4 H4 q => ⟨m, Nat.lt_succ_self m, q⟩, ?_⟩
            refine hb N sc X Wx body α3 μ3 ρ2 σ' H3 _ hr h2 (.inl kc) s3 (en2.ext ex3) ?_
            rw [kc.eq σ' σ]
            refine FinG.bind f4 fun fl μ4 α4 H4 v4 e4 ex4 s4 r4 f5 => ?_
            cases fl with
            | nx ρ4 =>
              cases v4 with
              | inl σ4 => exact ⟨α4, μ4, ρ4, s4, r4, f5⟩
              | inr w => exact (show False from r4).elim
            | rt d =>
              cases v4 with
              | inl σ4 => exact (show False from r4).elim
              | inr w => exact (nowRt (D := D) f5 s4 r4)
        | _ => exact (show False from f4).elim
  | _ => cases h
end
end Z

end
section
set_option maxHeartbeats 4000000
set_option autoImplicit false
/-! ZX3: raise of an own error; try. -/
namespace Z
open PySem PySem.Spec PyProof.Rows L2
section
variable {G : Tx} {M : Nm} {n : Nat}
theorem err_hp {H : Hp} {a dx : Addr} {x : HO} {y : HO} {z w : HO} (ha : H a = none) (hne : dx ≠ a) : upd (del (upd (upd (upd H a x) dx y) a z) a) dx w = upd H dx w := by
  funext b
  by_cases h1 : b = dx
  · subst h1
    rw [upd_same, upd_same]
  · rw [upd_ne h1, upd_ne h1]
    by_cases h2 : b = a
    · subst h2
      rw [del_same, ha]
    · rw [del_ne h2, upd_ne h2, upd_ne h1, upd_ne h2]
theorem sndS_rz {c : Nat} {e : ZE} (he : SndE G M n e) : SndS G M n (.rz c e) := by
  intro N sc X Wx s α μ ρ σ H D hr h hc st en f
  cases s with
  | Raise ex ca pos =>
    match ex, ca, h with
    | some (.Call (.Name x p) [a] [] q), none, h =>
      have h' : (decide (0 < c) && nthIs M.er c x && glB sc x && nS a && agE M e N sc a) = true := h
      simp only [Bool.and_eq_true] at h'
      obtain ⟨⟨⟨⟨h1, h2⟩, h3⟩, h4⟩, h5⟩ := h'
      obtain ⟨v1, v2, v3⟩ := gl_of hr h3
      have hx := of_decide_eq_true h2
      have hm : X.mg x = some (.ref (G.eA c)) := by rw [hr.c.mg]; exact hr.t.erm c x hx
      obtain ⟨fld, fI, fd, ps, e1, e2, e3, e4, e5, e6, _⟩ := (hr.t.erf c (of_decide_eq_true h1) (List.getElem?_eq_some_iff.mp hx).1).ex
      have T : OexC X.K (G.eA c) := by rw [hr.c.K]; exact e2.T
      have F1 : FnOk X.prog X.w X.K X.mg X.base (L2.CX X.prog X.w) 1 fI fd ps (spI (G.eA c) fld) := by rw [hr.c.prog, hr.c.w, hr.c.K, hr.c.mg, hr.c.base]; exact e6
      refine WS.of (ps_raise (W := Wx) hr.c.calm hr.x.tk (pmk_oex (CX := L2.CX X.prog X.w) (k := 1) (ds := []) (dvs := []) T (by rw [hr.c.K]; exact e3) (by rw [hr.c.K]; exact e4) F1 (hr.c.room.mono (by omega)) (by rw [hr.c.K]; exact e5) .nil
        (fun pins σ H s e s' I z => passes_call hr.x.tk (fun _ _ _ _ z => z.elim) pins σ H s e s' I z) v1 hm (pa_cons pe_we pa_nil (starE h4)) v2 (starE h4) rfl)) ?_
      show WE X a σ H _
      refine he N sc X Wx a α μ ρ σ H _ hr h5 st en (FinG.bind f fun d μ1 α1 H1 v E1 ex1 s1 r1 f1 => ?_)
      refine ⟨by show 1 ≤ 1000; decide, fun b hb => ⟨b, v, rfl, upd_same, fun dx hdx hne => ⟨rfl, dx, [(fld, v)], upd_same, ?_, ?_, ?_⟩⟩⟩
      · rw [upd_ne hne, upd_same]
      · rwa [upd_ne hne] at hdx
      · have hdx' : H1 dx = none := by rwa [upd_ne hne] at hdx
        rw [err_hp hb hne]
        have x1 := ext_new (o := .xd [(fld, v)]) s1 hdx'
        have w := f1 α1 _ x1 (s1.new (o := .xd [(fld, v)]) hdx')
        exact w (some dx) ⟨dx, [(fld, v)], rfl, upd_same, by rw [e1] <;> rfl, .cons (r1.ext x1) .nil⟩
  | _ => cases h
theorem sndS_asgT {t : ZT} {e : ZE} (he : SndE G M n e) : SndS G M n (.asgT t e) := by
  intro N sc X Wx s α μ ρ σ H D hr h hk st en f
  cases s with
  | Assign tgs v pos =>
    cases tgs with
    | nil => exact absurd (show false = true from h) (by decide)
    | cons tg rest =>
      cases rest with
      | cons _ _ => exact absurd (show false = true from by cases tg <;> exact h) (by decide)
      | nil =>
        by_cases ht : ∃ ts k p, tg = .Tuple ts k p
        · obtain ⟨ts, k, p, rfl⟩ := ht
          have h' : (agE M e N sc v && agTg ⟨N, sc, M⟩ (List.range N.length) t (.Tuple ts k p) && unpB v) = true := h
          simp only [Bool.and_eq_true] at h'
          obtain ⟨⟨h1, h2⟩, h3⟩ := h'
          have h4 : nC v = true := by cases v <;> first | rfl | cases h3
          have h5 : swappedStores [.Tuple ts k p] v X.env = pure none := by cases v <;> first | rfl | cases h3
          refine WS.of (ps_asg pe_we pg_wg (show swapsWith v (some (.Tuple ts k p)) pos.line X.env = pure false from swN h4) h5 (by rfl)) ?_
          refine he N sc X Wx v α μ ρ σ H _ hr h1 st en (FinG.bind f fun d μ1 α1 H1 v1 e1 ex1 s1 r1 f1 => ?_)
          cases eb : bindT t d ρ with
          | none => rw [eb] at f1; exact (show False from f1).elim
          | some ρ1 =>
            rw [eb] at f1
            exact sndTg hr s1 t h2 (en.ext ex1) r1 eb fun σ3 en3 _ => nowNx f1 s1 en3

        · exact absurd (show false = true from by cases tg <;> first | exact h | exact absurd ⟨_, _, _, rfl⟩ ht) (by decide)
  | _ => cases h
end
end Z

end
section
set_option maxHeartbeats 4000000
set_option autoImplicit false
/-! ZX4: try, soundly. -/
namespace Z
open PySem PySem.Spec PyProof.Rows L2
def obV : Option Bool → V
  | some b => .bl b
  | none => .non
def HbQ (Q : VK) (y : V) (H : Hp) : Hb → Prop
  | .id => Q y H
  | .tup s => ∀ p, H p = none → Q (.ref p) (upd H p (.tup [.str (toStr s), y]))
/-- the reading of a clause's suite -/
def tHb (G : Tx) (c e t : Nat) (k : Hb) (a : Addr) (cls : Value) (d : Option Addr) : TS := fun D σ H => ∃ (dd : Addr) (fld : Str) (y : V), G.eF c = [fld] ∧ cls = .ref (G.eA c) ∧ d = some dd ∧ H dd = some (.xd [(fld, y)]) ∧ σ[e]? = some (some (.ref a)) ∧
  HbQ (fun x H => D.nx (σ.set t (some x)) H) y H k
def clZ (G : Tx) : ZHd → Cl
  | .as_ c e t k => ⟨.ref (G.eA c), some e, tHb G c e t k⟩
  | .only c t d => ⟨.ref (G.eA c), none, fun _ _ _ D σ H => D.nx (σ.set t (some (obV d))) H⟩
section
variable {G : Tx} {M : Nm} {n : Nat}
/-- what is known ahead of the reading -/
structure Cgt (G : Tx) (c e : Nat) (a : Addr) (cls : Value) (d : Option Addr) (dd : Addr) (fld : Str) (y : V) (σ : L2.St) (H : Hp) : Prop where
  eF : G.eF c = [fld]
  ec : cls = .ref (G.eA c)
  ed : d = some dd
  ex : H dd = some (.xd [(fld, y)])
  at_ : σ[e]? = some (some (.ref a))
theorem hb_read {N : List Str} {sc : Scope} {X : Cx} {Wx : WX} {c e : Nat} {k : Hb} {a dd : Addr} {oe : Obj} {cls : Value} {d : Option Addr} {pn : List (Addr × Obj)} {fld nn : Str} {y : V} {σ : L2.St} {H : Hp} {x : Expr} {Q : VK} (hr : Here G n ⟨N, sc, M⟩ X Wx) (h0 : 0 < c) (hc : c < M.er.length)
    (hN : X.N[e]? = some nn) (hv : Vis X.env.scope nn) (hd1 : (nn == ("__debug__" : Str)) = false) (hd2 : (nn == ("__classdict__" : Str)) = false) (hz : Zc cls d oe) (hf : ∃ vs, oe.data = .fields vs) (ha : agHb M c nn k x = true)
    (g : Cgt G c e a cls d dd fld y σ H) (q : HbQ Q y H k) : WE (X.suite a ((a, oe) :: pn)) x σ H Q := by
  obtain ⟨fld', fI, fd, ps, e1, e2, e3, e4, e5, e6, e7, e8, e9⟩ := (hr.t.erf c h0 hc).ex
  have T : XfC X.K (G.eA c) := by rw [hr.c.K]; exact e7
  have hno : PySem.W.findIn X.K (.ref (G.eA c)) fld = some none := by
    rw [g.eF] at e1
    rw [hr.c.K, (List.cons.inj e1).1]
    exact e2.hno
  have ok := g.ex
  have fin : fld = fld := rfl
  cases k with
  | id =>
    cases x with
    | Attribute o f p =>
      cases o with
      | Name m p2 =>
        obtain ⟨h1, h2⟩ := band (show (decide (m = nn) && nthIs M.ef c f) = true from ha)
        obtain rfl := of_decide_eq_true h1
        have ef := hr.t.eff c f h0 (of_decide_eq_true h2)
        obtain rfl : fld = f := by rw [g.eF] at ef; exact (List.cons.inj ef).1
        exact WE.of (pe_xf T hno hz hf (pe_var (X := X.suite a ((a, oe) :: pn)) hN hv hd1 hd2) rfl) ⟨_, g.at_, rfl, g.ec, dd, [(fld, y)], y, g.ed, ok, by simp [List.lookup], q⟩
      | _ => cases ha
    | _ => cases ha
  | tup s =>
    cases x with
    | Tuple es k0 p0 =>
      match es, ha with
      | [.Constant (.str z) j0 p1, .Attribute (.Name m p2) f p], ha =>
        have h' : (decide (z = toStr s) && decide (m = nn) && nthIs M.ef c f) = true := ha
        simp only [Bool.and_eq_true] at h'
        obtain ⟨⟨h0', h1⟩, h2⟩ := h'
        obtain rfl := of_decide_eq_true h0'
        obtain rfl := of_decide_eq_true h1
        have ef := hr.t.eff c f h0 (of_decide_eq_true h2)
        obtain rfl : fld = f := by rw [g.eF] at ef; exact (List.cons.inj ef).1
        exact WE.of (pe_tup (pa_cons pe_str (pa_cons (pe_xf T hno hz hf (pe_var (X := X.suite a ((a, oe) :: pn)) hN hv hd1 hd2) rfl) pa_nil)))
          ⟨_, g.at_, rfl, g.ec, dd, [(fld, y)], y, g.ed, ok, by simp [List.lookup], by rw [sizeLine_eq]; exact (by decide : 2 ≤ 16777216), q⟩
    | _ => cases ha
theorem hv_read {N : List Str} {sc : Scope} {X : Cx} {Wx : WX} {c e : Nat} {k : Hb} {a dd : Addr} {oe : Obj} {cls : Value} {d : Option Addr} {pn : List (Addr × Obj)} {fld nn : Str} {y : V} {σ : L2.St} {H : Hp} {x : Expr} {Q : VK} (hr : Here G n ⟨N, sc, M⟩ X Wx) (h0 : 0 < c) (hc : c < M.er.length)
    (hN : X.N[e]? = some nn) (hv : Vis X.env.scope nn) (hd1 : (nn == ("__debug__" : Str)) = false) (hd2 : (nn == ("__classdict__" : Str)) = false) (hz : Zc cls d oe) (hf : ∃ vs, oe.data = .fields vs) (ha : agHv M sc c nn k x = true)
    (g : Cgt G c e a cls d dd fld y σ H) (q : HbQ Q y H k) : WE (X.suite a ((a, oe) :: pn)) x σ H Q := by
  unfold agHv at ha
  split at ha
  · rename_i i p1 m p2 b p3 p4 x' y' p5
    simp only [Bool.and_eq_true] at ha
    obtain ⟨⟨⟨⟨⟨h1, h2⟩, h3⟩, h4⟩, h5⟩, h6⟩ := ha
    obtain rfl := of_decide_eq_true h1
    obtain rfl := of_decide_eq_true h3
    obtain ⟨v1, v2, v3⟩ := gl_of hr h2
    obtain ⟨w1, w2, w3⟩ := gl_of hr h5
    obtain ⟨fld', fI, fd, ps, e1, e2, e3, e4, e5, e6, e7, e8, e9⟩ := (hr.t.erf c h0 hc).ex
    have hm : X.mg b = some (.ref (G.eA 0)) := by rw [hr.c.mg]; exact hr.t.erm 0 b (of_decide_eq_true h4)
    have hz' : Zc (.ref (G.eA c)) d oe := by rw [← g.ec]; exact hz
    have CI := call_isD (X := X) (a := a) (C := G.eA c) (B := G.eA 0) (d := d) (oe := oe) (pn := pn) (by rw [hr.c.K]; exact e8) (by rw [hr.c.K]; exact e2.T) (by rw [hr.c.K]; exact e9 _ rfl) hz' hf
    refine WE.of (pe_ifExp (pt_val (pe_callB CI v1 (by show X.mg _ = none; rw [hr.c.mg]; exact hr.t.blt _ (by decide)) (by kernel_rfl) (pa_cons (pe_var (X := X.suite a ((a, oe) :: pn)) hN hv hd1 hd2) (pa_cons (pe_glob (v := .ref (G.eA 0)) w1 hm rfl w2) pa_nil)) v3 v2)) pe_we pe_we) ?_
    refine ⟨_, g.at_, rfl, ⟨dd, _, g.ed, g.ex⟩, true, rfl, ?_⟩
    show WE (X.suite a ((a, oe) :: pn)) x' σ H Q
    exact hb_read hr h0 hc hN hv hd1 hd2 hz hf h6 g q
  · exact hb_read hr h0 hc hN hv hd1 hd2 hz hf ha g q
end
end Z

end
section
set_option maxHeartbeats 4000000
set_option autoImplicit false
/-! ZX5: try, soundly: the clauses and the statement. -/
namespace Z
open PySem PySem.Spec PyProof.Rows L2
section
variable {G : Tx} {M : Nm} {n : Nat}
theorem cl_ok {N : List Str} {sc : Scope} {X : Cx} {Wx : WX} {z : ZHd} {h : ExceptHandler} (hr : Here G n ⟨N, sc, M⟩ X Wx) (ha : agH M N sc z h = true) : ClOk X h (clZ G z) := by
  have ndN : X.N.Nodup := by rw [hr.c.N]; exact hr.c.nd
  have loc : ∀ {y : Str}, sc.names.lookup y = some .local → X.env.scope.names.lookup y = some .local := fun {y} e => by
    rcases hr.c.sco y _ e with q | ⟨q, _⟩
    · exact q
    · cases q
  unfold agH at ha
  split at ha
  · rename_i c e t k x p nn y p2 v p3 q
    simp only [Bool.and_eq_true] at ha
    obtain ⟨⟨⟨⟨⟨⟨⟨⟨⟨⟨⟨h1, h2⟩, h3⟩, h4⟩, h5⟩, h6⟩, h7⟩, h8⟩, h9⟩, h10⟩, h11⟩, h12⟩ := ha
    have l1 := loc (of_decide_eq_true h5)
    have l2 := loc (of_decide_eq_true h9)
    obtain ⟨v1, v2, v3⟩ := gl_of hr h3
    have hx := of_decide_eq_true h1
    have hm : X.mg x = some (.ref (G.eA c)) := by rw [hr.c.mg]; exact hr.t.erm c x hx
    have hN : X.N[e]? = some nn := by rw [hr.c.N]; exact of_decide_eq_true h4
    refine ⟨x, some nn, _, [], p, q, rfl, ⟨v1, v2, .inl hm⟩, ⟨hN, l1⟩, fun a oe cls d pn hz hf => ⟨fun pins s σ H D I w => ?_⟩⟩
    obtain ⟨dd, fld, y', g1, g2, g3, g4, g5, g6⟩ := w
    have r : WE (X.suite a ((a, oe) :: pn)) v σ H (fun x H1 => D.nx (σ.set t (some x)) H1) :=
      hv_read hr (of_decide_eq_true h2) (List.getElem?_eq_some_iff.mp hx).1 hN (.inl l1) (bnot h6) (bnot h7) hz hf h12 ⟨g1, g2, g3, g4, g5⟩ g6
    exact WSs.of (X := X.suite a ((a, oe) :: pn)) (pss_one (ps_set (X := X.suite a ((a, oe) :: pn)) (i := t) ndN (by show X.N[t]? = _; rw [hr.c.N]; exact of_decide_eq_true h8) (.inl l2) pe_we (swN h11) (.inr l2))) r pins s I
  · rename_i c t d x p y p2 k j p3 p4 q
    simp only [Bool.and_eq_true] at ha
    obtain ⟨⟨⟨⟨h1, h2⟩, h3⟩, h4⟩, h5⟩ := ha
    have l2 := loc (of_decide_eq_true h4)
    obtain ⟨v1, v2, v3⟩ := gl_of hr h2
    have hx := of_decide_eq_true h1
    have hm : X.mg x = some (.ref (G.eA c)) := by rw [hr.c.mg]; exact hr.t.erm c x hx
    refine ⟨x, none, _, [], p, q, rfl, ⟨v1, v2, .inl hm⟩, trivial, fun a oe cls dd pn hz hf => ⟨fun pins s σ H D I w => ?_⟩⟩
    have r : WE (X.suite a ((a, oe) :: pn)) (.Constant k j p3) σ H (fun x H1 => D.nx (σ.set t (some x)) H1) := by
      unfold cstB at h5
      split at h5
      · rename_i b b'
        obtain rfl := of_decide_eq_true (show decide (b = b') = true by simpa using h5)
        exact WE.of pe_bl w
      · exact WE.of pe_non w
      · cases h5
    exact WSs.of (X := X.suite a ((a, oe) :: pn)) (pss_one (ps_set (X := X.suite a ((a, oe) :: pn)) (i := t) ndN (by show X.N[t]? = _; rw [hr.c.N]; exact of_decide_eq_true h3) (.inl l2) pe_we (swN rfl) (.inr l2))) r pins s I
  · cases ha
theorem cls_ok {N : List Str} {sc : Scope} {X : Cx} {Wx : WX} (hr : Here G n ⟨N, sc, M⟩ X Wx) : ∀ {zs : List ZHd} {hs : List ExceptHandler}, agHs M N sc zs hs = true → ClsOk X hs (zs.map (clZ G))
  | [], [], _ => .nil
  | z :: zs, h :: hs, ha => by
    obtain ⟨h1, h2⟩ := band (show (agH M N sc z h && agHs M N sc zs hs) = true from ha)
    exact .cons (cl_ok hr h1) (cls_ok hr h2)
  | [], _ :: _, ha => by cases ha
  | _ :: _, [], ha => by cases ha
theorem agH_pos {N : List Str} {sc : Scope} {c e t : Nat} {k : Hb} {h : ExceptHandler} (ha : agH M N sc (.as_ c e t k) h = true) : 0 < c ∧ e ≠ t := by
  unfold agH at ha
  split at ha
  · rename_i e1
    cases e1
    simp only [Bool.and_eq_true] at ha
    obtain ⟨⟨⟨⟨⟨⟨⟨⟨⟨⟨⟨h1, h2⟩, h3⟩, h4⟩, h5⟩, h6⟩, h7⟩, h8⟩, h9⟩, h10⟩, h11⟩, h12⟩ := ha
    exact ⟨of_decide_eq_true h2, of_decide_eq_true h10⟩
  · rename_i e1
    cases e1
  · cases ha
theorem agH_len {N : List Str} {sc : Scope} {z : ZHd} {h : ExceptHandler} (ha : agH M N sc z h = true) : z.cls < M.er.length := by
  unfold agH at ha
  split at ha
  · simp only [Bool.and_eq_true] at ha
    obtain ⟨⟨⟨⟨⟨⟨⟨⟨⟨⟨⟨h1, h2⟩, h3⟩, h4⟩, h5⟩, h6⟩, h7⟩, h8⟩, h9⟩, h10⟩, h11⟩, h12⟩ := ha
    exact (List.getElem?_eq_some_iff.mp (of_decide_eq_true h1)).1
  · simp only [Bool.and_eq_true] at ha
    obtain ⟨⟨⟨⟨h1, h2⟩, h3⟩, h4⟩, h5⟩ := ha
    exact (List.getElem?_eq_some_iff.mp (of_decide_eq_true h1)).1
  · cases ha
end
end Z

end
section
set_option maxHeartbeats 4000000
set_option autoImplicit false
/-! ZX6: the try statement. -/
namespace Z
open PySem PySem.Spec PyProof.Rows L2
section
variable {G : Tx} {M : Nm} {n : Nat}
theorem set3 {σ : L2.St} {e t : Nat} {x y : Option V} (h : e ≠ t) : ((σ.set e x).set t y).set e none = (σ.set t y).set e none := by
  rw [List.set_comm _ _ h, List.set_set]
theorem hdl_as {c c' e t : Nat} {k : Hb} {zs : List ZHd} {pl : List D} {ρ : Env} {μ : Mu} (hy : c' = 0 ∨ c' = c) : hdlZ (.as_ c' e t k :: zs) c pl ρ μ = (match pl with
    | [d] => if e < ρ.length then .ok (.nx ((ρ.set t (some (hbZ k d))).set e none)) μ else .err
    | _ => .err) := by
  show (if c' = 0 ∨ c' = c then _ else _) = _
  rw [if_pos hy]
  try rfl
theorem mix_ok {N : List Str} {sc : Scope} {X : Cx} {Wx : WX} (hr : Here G n ⟨N, sc, M⟩ X Wx) {c : Nat} (h0 : 0 < c) (hc : c < M.er.length) {pl : List D} {α : Al} {μ : Mu} {H : Hp} {ρ : Env} {σ : L2.St} {D : Ends} {d : Option Addr}
    (st : StOk G α μ H) (en : EnvOk G α μ H ρ σ) (xc : ExcAt G c pl α μ H d) : ∀ {zs : List ZHd} {hs : List ExceptHandler}, agHs M N sc zs hs = true → FinG G (RelFl G) (WW G Wx σ) α μ H (hdlZ zs c pl ρ μ) (QD D) →
      wMix X.K Wx D (zs.map (clZ G)) (.ref (G.eA c)) d σ H
  | [], _, _, f => f α H Ext.refl st d xc
  | z :: zs, [], ha, _ => by cases ha
  | z :: zs, h :: hs, ha, f => by
    obtain ⟨h1, h2⟩ := band (show (agH M N sc z h && agHs M N sc zs hs) = true from ha)
    have hx := hr.t.exm c z.cls h0 hc (agH_len h1)
    have hcl : (clZ G z).c = .ref (G.eA z.cls) := by cases z <;> rfl
    refine ⟨decide (z.cls = 0 ∨ z.cls = c), by rw [hcl, hr.c.K]; exact hx, fun hb => ?_, fun hb a na => ?_⟩
    · have hn := of_decide_eq_false hb
      have e : hdlZ (z :: zs) c pl ρ μ = hdlZ zs c pl ρ μ := by
        show (if z.cls = 0 ∨ z.cls = c then _ else _) = _
        rw [if_neg hn]
      rw [e] at f
      exact mix_ok hr h0 hc st en xc h2 f
    · have hy := of_decide_eq_true hb
      cases z with
      | only c' t dd =>
        have e : hdlZ (.only c' t dd :: zs) c pl ρ μ = .ok (.nx (ρ.set t (some (obD dd)))) μ := by
          show (if (ZHd.only c' t dd).cls = 0 ∨ (ZHd.only c' t dd).cls = c then _ else _) = _
          rw [if_pos hy]
        rw [e] at f
        have r : Rep G α μ H (obV dd) (obD dd) := by
          cases dd with
          | none => exact .non
          | some b => exact .bl b
        exact nowNx f st (en.set t r)
      | as_ c' e t k =>
        obtain ⟨p1, p2⟩ := agH_pos h1
        have hcc : c' = c := by
          rcases hy with z | z
          · exact absurd z (Nat.pos_iff_ne_zero.mp p1)
          · exact z
        subst hcc
        rw [hdl_as (show c' = 0 ∨ c' = c' from .inr rfl)] at f
        match pl, f, xc with
        | [d0], f, xc =>
          dsimp only at f
          split at f
          · rename_i hlt
            obtain ⟨ad, fs, x1, x2, x3, x4⟩ := xc
            obtain ⟨fld, fI, fd, ps, e2, _⟩ := (hr.t.erf c' h0 hc).ex
            match fs, x3, x4 with
            | [(f0, y)], x3, x4 =>
              cases x4 with
              | cons ry _ =>
                have ef : G.eF c' = [f0] := x3.symm
                show tHb G c' e t k a (.ref (G.eA c')) d (endI e D) (σ.set e (some (.ref a))) H
                refine ⟨ad, f0, y, ef, rfl, x1, x2, List.getElem?_set_self (by rw [en.1]; exact hlt), ?_⟩
                cases k with
                | id =>
                  show D.nx (((σ.set e (some (.ref a))).set t (some y)).set e none) H
                  rw [set3 p2]
                  exact nowNx f st ((en.set t ry).forget e)
                | tup s =>
                  intro p hp
                  show D.nx (((σ.set e (some (.ref a))).set t (some (.ref p))).set e none) (upd H p (.tup [.str (toStr s), y]))
                  rw [set3 p2]
                  have ex := ext_new (o := .tup [.str (toStr s), y]) st hp
                  have st2 := st.new (o := .tup [.str (toStr s), y]) hp
                  have nl : NL α μ (upd H p (.tup [.str (toStr s), y])) p (.tup [.str (toStr s), y]) := ⟨.inl upd_same, st.notLive hp⟩
                  exact nowNx (FinG.at_ f ex) st2 (((en.ext ex).set t (.tup (.inl nl) (.cons (.str s) (.cons (ry.ext ex) .nil)))).forget e)
            | [], x3, x4 => cases x4
            | _ :: _ :: _, x3, x4 =>
              cases x4 with
              | cons _ r => cases r
          · exact (show False from f).elim
        | [], f, _ => exact (show False from f).elim
        | _ :: _ :: _, f, _ => exact (show False from f).elim
theorem sndS_try {ne : Nat} {b : ZSs} {zs : List ZHd} (hb : SndSs G M n b) : SndS G M n (.try_ ne b zs) := by
  intro N sc X Wx s α μ ρ σ H D hr h hc st en f
  cases s with
  | Try body hds ore fin pos =>
    match hds, ore, fin, h with
    | hd :: hds, [], [], h =>
      have h' : (decide (ne = M.er.length) && simSs b && agSs M N sc b body && agHs M N sc zs (hd :: hds)) = true := h
      simp only [Bool.and_eq_true] at h'
      obtain ⟨⟨⟨h1, h2⟩, h3⟩, h4⟩ := h'
      have hne := of_decide_eq_true h1
      have kc : Const X Wx := hc.resolve_right (by intro z; cases z)
      have ndN : X.N.Nodup := by rw [hr.c.N]; exact hr.c.nd
      refine WS.of (ps_tries (W := Wx) (tb := fun V D σ H => ∃ (α : Al) (μ : Mu) (ρ : Env), StOk G α μ H ∧ EnvOk G α μ H ρ σ ∧ FinG G (RelFl G) (WW G V σ) α μ H (evalSs (evOf G.T n) b ρ μ) (QD D)) ndN kc.2.1 kc.2.2 hr.x.tk
        (fun V pn xe tk po => ⟨fun pins s σ H D I ⟨α, μ, ρ, st, en, f⟩ => hb N sc (X.tr pn xe) V body α μ ρ σ H D
          ⟨⟨hr.c.prog, hr.c.w, hr.c.K, hr.c.mg, hr.c.base, hr.c.N, hr.c.nd, hr.c.sco, hr.c.fnc, hr.c.calm, hr.c.room⟩, hr.t, ⟨tk, po⟩⟩ h3 (.inr h2) st en f pins s I⟩) (cls_ok hr h4)) ?_
      refine ⟨α, μ, ρ, st, en, ?_⟩
      have f' : FinG G (RelFl G) (WW G Wx σ) α μ H (match evalSs (evOf G.T n) b ρ μ with
        | .exc c pl μ1 => if 0 < c ∧ c < ne then hdlZ zs c pl ρ μ1 else .err
        | r => r) (QD D) := f
      cases er : evalSs (evOf G.T n) b ρ μ with
      | ok fl m => rw [er] at f'; exact f'
      | err => rw [er] at f'; exact f'
      | exc c pl m =>
        rw [er] at f'
        dsimp only at f'
        split at f'
        · rename_i hlt
          intro α1 H1 ex1 st1 d xc
          exact mix_ok hr hlt.1 (by rw [← hne]; exact hlt.2) st1 (en.ext ex1) xc h4 (FinG.at_ f' ex1)
        · exact (show False from f').elim
  | _ => cases h
end
end Z

end
section
set_option maxHeartbeats 4000000
set_option autoImplicit false
/-! Z20: all expressions, all statements; a def keeps what the interpreter says. -/
namespace Z
open PySem PySem.Spec PyProof.Rows L2
section
variable {G : Tx} {M : Nm} {n : Nat}
theorem itGoal {k : IK} {zs : ZEs} (h1 : SndEs G M n zs) (h2 : SndP G M n zs) : ItGoal G M n k zs := by
  cases k with
  | seq => exact it_seq h2
  | rng => exact it_rng h1
  | zip => exact it_zip h1
  | enum => exact it_enum h1
  | items => exact it_items h2
  | vals => exact it_vals h2
  | _ =>
    intro N sc X Wx tg iter as α μ ρ σ H RR β γ rel K Q hr ha h st en f q
    unfold itArgs at ha
    split at ha
    all_goals first
      | (cases ha; done)
      | (rename_i hh; cases hh)
theorem gen_nC {z : ZE} (h : ∀ (N : List Str) (sc : Scope) (e : Expr), agE M z N sc e = true → gT e = true) : ∀ (N : List Str) (sc : Scope) (e : Expr), agE M z N sc e = true → gT e = true := h
theorem sNo {z : ZE} (h : ∀ (N : List Str) (sc : Scope) (e : Expr), agE M z N sc e = false) : SndE G M n z ∧ SndT G M n z :=
  ⟨fun N sc X Wx e α μ ρ σ H Q hr ha => absurd (ha.symm.trans (h N sc e)) (by decide), fun N sc X Wx e α μ ρ σ H Q hr ha => absurd (ha.symm.trans (h N sc e)) (by decide)⟩
mutual
theorem sE : ∀ z : ZE, SndE G M n z ∧ SndT G M n z
  | .var i => ⟨snd_var, sndT_gen snd_var fun N sc e h => by cases e <;> first | rfl | cases h⟩
  | .int i => ⟨snd_int, sndT_gen snd_int fun N sc e h => by cases e <;> first | rfl | cases h⟩
  | .str l => ⟨snd_str, sndT_gen snd_str fun N sc e h => by cases e <;> first | rfl | cases h⟩
  | .bl b => ⟨snd_bl, sndT_gen snd_bl fun N sc e h => by cases e <;> first | rfl | cases h⟩
  | .non => ⟨snd_non, sndT_gen snd_non fun N sc e h => by cases e <;> first | rfl | cases h⟩
  | .glob g => ⟨snd_glob, sndT_gen snd_glob fun N sc e h => by cases e <;> first | rfl | cases h⟩
  | .bin o m a b => ⟨snd_bin (sE a).1 (sE b).1, sndT_gen (snd_bin (sE a).1 (sE b).1) fun N sc e h => by cases e <;> first | rfl | cases h⟩
  | .neg a => ⟨snd_neg (sE a).1, sndT_gen (snd_neg (sE a).1) fun N sc e h => by
    cases e with
    | UnaryOp o _ _ => cases o <;> first | rfl | cases h
    | _ => first | rfl | cases h⟩
  | .not a => ⟨snd_not (sE a).1, sndT_not (sE a).2⟩
  | .and a b => ⟨snd_and (sE a).1 (sE b).1, sndT_and (sE a).2 (sE b).2⟩
  | .or a b => ⟨snd_or (sE a).1 (sE b).1, sndT_or (sE a).2 (sE b).2⟩
  | .cmp o a b => ⟨snd_cmp (sE a).1 (sE b).1, sndT_cmp (sE a).1 (sE b).1⟩
  | .chain o o' a b c => ⟨snd_chain (sE a).1 (sE b).1 (sE c).1, sndT_chain (sE a).1 (sE b).1 (sE c).1⟩
  | .isN a => ⟨snd_isN (sE a).1, sndT_isN (sE a).1⟩
  | .notN a => ⟨snd_notN (sE a).1, sndT_notN (sE a).1⟩
  | .ite c a b => ⟨snd_ite (sE c).2 (sE a).1 (sE b).1, sndT_ite (sE c).2 (sE a).2 (sE b).2⟩
  | .call f es => ⟨snd_call (sEs es).1, sndT_gen (snd_call (sEs es).1) fun N sc e h => by cases e <;> first | rfl | cases h⟩
  | .make c es => ⟨snd_make (sEs es).1, sndT_gen (snd_make (sEs es).1) fun N sc e h => by cases e <;> first | rfl | cases h⟩
  | .meth o m es => ⟨snd_meth (sE o).1 (sEs es).1, sndT_gen (snd_meth (sE o).1 (sEs es).1) fun N sc e h => by cases e <;> first | rfl | cases h⟩
  | .attr o a => ⟨snd_attr (sE o).1, sndT_gen (snd_attr (sE o).1) fun N sc e h => by cases e <;> first | rfl | cases h⟩
  | .b1 k m a => ⟨snd_b1 (sE a).1, sndT_gen (snd_b1 (sE a).1) fun N sc e h => by cases e <;> first | rfl | cases h⟩
  | .max2 a b => ⟨snd_max2 (sE a).1 (sE b).1, sndT_gen (snd_max2 (sE a).1 (sE b).1) fun N sc e h => by cases e <;> first | rfl | cases h⟩
  | .isi a ts => ⟨snd_isi (sE a).1, sndT_gen (snd_isi (sE a).1) fun N sc e h => by cases e <;> first | rfl | cases h⟩
  | .dzip a b => ⟨snd_dzip (sE a).1 (sE b).1, sndT_gen (snd_dzip (sE a).1 (sE b).1) fun N sc e h => by cases e <;> first | rfl | cases h⟩
  | .bm k o es => ⟨snd_bm (sE o).1 (sEs es).1, sndT_gen (snd_bm (sE o).1 (sEs es).1) fun N sc e h => by cases e <;> first | rfl | cases h⟩
  | .sub a i => ⟨snd_sub (sE a).1 (sE i).1, sndT_gen (snd_sub (sE a).1 (sE i).1) fun N sc e h => by cases e <;> first | rfl | cases h⟩
  | .slice m a lo hi => ⟨snd_slice (sE a).1 (sEs lo).2.1 (sEs hi).2.1, sndT_gen (snd_slice (sE a).1 (sEs lo).2.1 (sEs hi).2.1) fun N sc e h => by cases e <;> first | rfl | cases h⟩
  | .lst m es => ⟨snd_lst (sEs es).1, sndT_gen (snd_lst (sEs es).1) fun N sc e h => by cases e <;> first | rfl | cases h⟩
  | .tup es => ⟨snd_tup (sEs es).1, sndT_gen (snd_tup (sEs es).1) fun N sc e h => by cases e <;> first | rfl | cases h⟩
  | .dic m es => ⟨snd_dic (sEs es).2.2.2.1, sndT_gen (snd_dic (sEs es).2.2.2.1) fun N sc e h => by cases e <;> first | rfl | cases h⟩
  | .dstar a k v => ⟨snd_dstar (sE a).1 (sE k).1 (sE v).1, sndT_gen (snd_dstar (sE a).1 (sE k).1 (sE v).1) fun N sc e h => by cases e <;> first | rfl | cases h⟩
  | .lstS m st es => ⟨snd_lstS (sEs es).2.2.2.2, sndT_gen (snd_lstS (sEs es).2.2.2.2) fun N sc e h => by cases e <;> first | rfl | cases h⟩
  | .tupS st es => ⟨snd_tupS (sEs es).2.2.2.2, sndT_gen (snd_tupS (sEs es).2.2.2.2) fun N sc e h => by cases e <;> first | rfl | cases h⟩
  | .lvals m a => ⟨snd_lvals (sE a).1, sndT_gen (snd_lvals (sE a).1) fun N sc e h => by cases e <;> first | rfl | cases h⟩
  | .lc m own t k it ifs e => ⟨snd_lc (itGoal (sEs it).1 (sEs it).2.1) (sEs ifs).2.2.1 (sE e).1, sndT_gen (snd_lc (itGoal (sEs it).1 (sEs it).2.1) (sEs ifs).2.2.1 (sE e).1) fun N sc e h => by cases e <;> first | rfl | cases h⟩
  | .lc2 m own t k it own2 t2 k2 it2 e => ⟨snd_lc2 (itGoal (sEs it).1 (sEs it).2.1) (itGoal (sEs it2).1 (sEs it2).2.1) (sE e).1, sndT_gen (snd_lc2 (itGoal (sEs it).1 (sEs it).2.1) (itGoal (sEs it2).1 (sEs it2).2.1) (sE e).1) fun N sc e h => by cases e <;> first | rfl | cases h⟩
  | .dc m own t k it ifs ke ve => ⟨snd_dc (itGoal (sEs it).1 (sEs it).2.1) (sEs ifs).2.2.1 (sE ke).1 (sE ve).1, sndT_gen (snd_dc (itGoal (sEs it).1 (sEs it).2.1) (sEs ifs).2.2.1 (sE ke).1 (sE ve).1) fun N sc e h => by cases e <;> first | rfl | cases h⟩
  | .frz a => ⟨snd_frz (sE a).1, sndT_gen (snd_frz (sE a).1) fun N sc e h => (band (show (gT e && agE M a N sc e) = true from by cases e <;> exact h)).1⟩
theorem sEs : ∀ zs : ZEs, SndEs G M n zs ∧ SndP G M n zs ∧ SndPT G M n zs ∧ SndA G M n zs ∧ SndX G M n zs
  | .nil => ⟨snd_nil, trivial, trivial, trivial, sndX_nil⟩
  | .cons z zs => ⟨snd_cons (sE z).1 (sEs zs).1, by cases zs <;> first | exact (sE z).1 | trivial, by cases zs <;> first | exact (sE z).2 | trivial, ((⟨(sE z).1, (sEs zs).2.2.2.1⟩ : SndA G M n (.cons z zs))), sndX_cons (sE z).1 (sEs zs).2.2.2.2⟩
end
theorem sG : ∀ g : ZG, SndG G M n g
  | .nm i => sndG_nm
  | .attr o a => sndG_attr (sE o).1
  | .sub o i => sndG_sub (sE o).1 (sE i).1
mutual
theorem sS : ∀ z : ZS, SndS G M n z
  | .asg g e => sndS_asg (sG g) (sE e).1 (fun m own t k it ifs x he => by
    subst he
    exact ⟨itGoal (sEs it).1 (sEs it).2.1, (sEs ifs).2.2.1, (sE x).1⟩) (fun m own t k it own2 t2 k2 it2 x he => by
    subst he
    exact ⟨itGoal (sEs it).1 (sEs it).2.1, itGoal (sEs it2).1 (sEs it2).2.1, (sE x).1⟩) fun m own t k it ifs kx vx he => by
    subst he
    exact ⟨itGoal (sEs it).1 (sEs it).2.1, (sEs ifs).2.2.1, (sE kx).1, (sE vx).1⟩
  | .asg2 gs e => by
    by_cases h : ∃ zs, e = .tup zs
    · obtain ⟨zs, rfl⟩ := h
      exact sndS_asg2 (fun g _ => sG g) (sEs zs).1
    · intro N sc X Wx s α μ ρ σ H D hr ha
      exfalso
      cases e <;> first | exact h ⟨_, rfl⟩ | (cases s <;> first | (cases ha; done) | skip)
      all_goals (cases ha)
  | .ex e => sndS_ex (sE e).1
  | .ret e => sndS_ret (sE e).1
  | .ite c a b => sndS_ite (sE c).2 (sSs a) (sSs b)
  | .for_ t k it b => sndS_for (itGoal (sEs it).1 (sEs it).2.1) (sSs b)
  | .while_ c b => sndS_while (sE c).2 (sSs b)
  | .raise => sndS_raise
  | .rz c e => sndS_rz (sE e).1
  | .asgT t e => sndS_asgT (sE e).1
  | .try_ ne b zs => sndS_try (sSs b)
  | .frz i => by
    intro N sc X Wx s α μ ρ σ H D hr ha
    cases s <;> cases ha
  | .pass => sndS_pass
theorem sSs : ∀ zs : ZSs, SndSs G M n zs
  | .nil => sndSs_nil
  | .cons z zs => by
    by_cases h : ∃ i, z = .frz i
    · obtain ⟨i, rfl⟩ := h
      exact sndSs_frz (sSs zs)
    · exact sndSs_cons (sS z) (sSs zs) fun i e => h ⟨i, e⟩
end
end
end Z

end
section
set_option maxHeartbeats 4000000
set_option autoImplicit false
/-! Z21: every def keeps what the interpreter says, at every depth. -/
namespace Z
open PySem PySem.Spec PyProof.Rows L2
structure DefZ (G : Tx) (M : Nm) (f : Nat) (fi : FnI) : Prop where
  ex : ∃ x qual params body scope fd N ps, FunD G.K x qual params body scope [] [] (G.fA f) fd ∧ FnScope N ps scope ∧ ps.length = fi.np ∧ N.length = fi.ns ∧ agSs M N scope fi.body body = true ∧ Binds G.K fd ps []
section
variable {G : Tx} {M : Nm}
theorem npOf_eq {f : Nat} {fi : FnI} (e : G.T.fns[f]? = some fi) : npOf G.T f = fi.np := by
  unfold npOf
  rw [e]
theorem start_env {α : Al} {μ : Mu} {H : Hp} {N : List Str} {vs : List V} {ds : List D} (r : RepL G α μ H vs ds) : EnvOk G α μ H (ds.map some ++ List.replicate (N.length - ds.length) none) (L2.start N vs) := by
  unfold L2.start
  refine ⟨by simp [r.len], fun i d h => ?_⟩
  by_cases hi : i < ds.length
  · rw [List.getElem?_append_left (by rw [List.length_map]; exact hi), List.getElem?_map] at h
    cases e : ds[i]? with
    | none => rw [e] at h; cases h
    | some d' =>
      rw [e] at h
      cases h
      obtain ⟨v, hv, rv⟩ := r.get e
      refine ⟨v, ?_, rv⟩
      rw [List.getElem?_append_left (by rw [List.length_map, r.len]; exact hi), List.getElem?_map, hv]
      rfl
  · rw [List.getElem?_append_right (by rw [List.length_map]; omega)] at h
    rw [List.getElem?_replicate] at h
    split at h <;> cases h
theorem fn_zero {f : Nat} {fi : FnI} (e : G.T.fns[f]? = some fi) (d : DefZ G M f fi) : FnF G 0 f := by
  obtain ⟨x, qual, params, body, scope, fd, N, ps, F, S, h1, h2, h3, h4⟩ := d.ex
  refine ⟨F.kp, fd, ps, by rw [npOf_eq e]; exact h1, h4, ⟨fun vs H Q E h => by rw [h.1, npOf_eq e]; exact h1.symm, fun A outer s H args us vs Q E hr he hb hv h => ?_⟩⟩
  obtain ⟨_, α, μ, ds, st, rl, fin⟩ := h
  exact (show False from fin).elim
theorem fn_succ_ok {n f : Nat} {fi : FnI} {x qual : Str} {params : Arguments} {body : List Stmt} {scope : Scope} {fd : FuncData} {N ps : List Str} (t : TxOk G M n) (e : G.T.fns[f]? = some fi) (F : FunD G.K x qual params body scope [] [] (G.fA f) fd) (S : FnScope N ps scope)
    (h1 : ps.length = fi.np) (h2 : N.length = fi.ns) (h3 : agSs M N scope fi.body body = true) : FnOk G.P G.w G.K G.mg G.base (L2.CX G.P G.w) (2 * (n + 1) + 2) (G.fA f) fd ps (spZ G (n + 1) f) := by
  have lenOk : ∀ vs H Q E, spZ G (n + 1) f vs H Q E → vs.length = ps.length := fun vs H Q E h => by rw [h.1, npOf_eq e]; exact h1.symm
  refine FunD.ok (k := 2 * n + 3) F S lenOk fun cdv A outer s H vs Q E hr h => ?_
  obtain ⟨hl, α, μ, ds, st, rl, fin⟩ := h
  refine ⟨WSs (cxOf (L2.CX G.P G.w) G.P G.w G.K G.mg G.base N qual scope (G.fA f) cdv A outer s H E) body, pss_wss, ?_⟩
  have here : Here G n ⟨N, scope, M⟩ (cxOf (L2.CX G.P G.w) G.P G.w G.K G.mg G.base N qual scope (G.fA f) cdv A outer s H E) (fun cls d _ H => E cls d H) :=
    ⟨⟨rfl, rfl, rfl, rfl, rfl, rfl, S.nd, fun x k h => .inl h, fun _ _ => rfl, rfl, hr⟩, t, ⟨takes_of rfl rfl rfl rfl, passes_of (K := fun e s'' => L2.CX G.P G.w outer H s E e s'') rfl⟩⟩
  have hd : ds.length = fi.np := by rw [← rl.len, hl, npOf_eq e]
  have f2 : FinG G (RepR G) (WW G (fun cls d _ H => E cls d H) (L2.start N vs)) α μ H ((evalSs (evOf G.T n) fi.body (ds.map some ++ List.replicate (N.length - ds.length) none) μ).bind fun r μ1 => match r with
      | .nx _ => .ok .non μ1
      | .rt d => .ok d μ1) Q := by
    have e0 : callN G.T (n + 1) f ds μ = (match G.T.fns[f]? with
      | some fi => if ds.length = fi.np then
          (evalSs (evOf G.T n) fi.body (ds.map some ++ List.replicate (fi.ns - fi.np) none) μ).bind fun r μ1 => match r with
          | .nx _ => .ok .non μ1
          | .rt d => .ok d μ1
        else .err
      | none => .err) := rfl
    rw [e0, e] at fin
    dsimp only at fin
    rw [if_pos hd] at fin
    rw [h2, hd]
    exact fin
  refine sSs fi.body N scope _ _ body α μ _ (L2.start N vs) H _ here h3 (.inl ⟨⟨E, rfl⟩, rfl, rfl⟩) st (start_env rl) (FinG.bind f2 fun fl μ1 α1 H1 v1 e1 ex1 s1 r1 f1 => ?_)
  cases fl with
  | nx ρ1 =>
    cases v1 with
    | inl σ1 =>
      show Q .non H1
      exact FinG.now (show FinG G (RepR G) _ α1 μ1 H1 (.ok .non μ1) Q from f1) s1 (v := .non) .non
    | inr w => exact (show False from r1).elim
  | rt d =>
    cases v1 with
    | inl σ1 => exact (show False from r1).elim
    | inr w =>
      show Q w H1
      exact FinG.now (show FinG G (RepR G) _ α1 μ1 H1 (.ok d μ1) Q from f1) s1 r1
theorem fn_succ {n f : Nat} {fi : FnI} (t : TxOk G M n) (e : G.T.fns[f]? = some fi) (d : DefZ G M f fi) : FnF G (n + 1) f := by
  obtain ⟨x, qual, params, body, scope, fd, N, ps, F, S, h1, h2, h3, h4⟩ := d.ex
  exact ⟨F.kp, fd, ps, by rw [npOf_eq e]; exact h1, h4, fn_succ_ok t e F S h1 h2 h3⟩
theorem txOk (t : TxSt G M) (defs : ∀ (f : Nat) (fi : FnI), G.T.fns[f]? = some fi → DefZ G M f fi) : ∀ n, TxOk G M n
  | 0 => ⟨t, fun f hf => fn_zero (List.getElem?_eq_getElem hf) (defs f _ (List.getElem?_eq_getElem hf))⟩
  | n + 1 => ⟨t, fun f hf => fn_succ (txOk t defs n) (List.getElem?_eq_getElem hf) (defs f _ (List.getElem?_eq_getElem hf))⟩
end
end Z

end
section
set_option maxHeartbeats 4000000
set_option autoImplicit false
/-! Zh: what the head tells: every def, every class, the constants. -/
namespace Z
open PySem PySem.Spec PyProof.Rows L2
/-- where a def stands -/
inductive AdZ where
  | glo (x : Str) | meth (C m : Str) | prop (C m : Str)
  deriving DecidableEq
def adZ (K : PySem.W.Frag) : AdZ → Addr
  | .glo x => He.ga K x
  | .meth C m => He.ma K (He.ga K C) m
  | .prop C m => match PySem.W.recIn K (He.ma K (He.ga K C) m) "property" with
    | some (.ref g :: _) => g
    | _ => 0
/-- a def of the text: its place, name, qualified name, parameters, body, scope; its names, how many are parameters -/
structure DZ where
  ad : AdZ
  x : Str
  qual : Str
  params : Arguments
  body : List Stmt
  scope : Scope
  N : List Str
  ps : List Str
abbrev FnZ : Type := Option (Str × Str × Arguments × FuncBody × Scope × Addr × List (Str × Addr) × Addr)
def fnZ (K : PySem.W.Frag) (a : Addr) : FnZ := match K.lookup a with
  | some ⟨_, _, .func fd, _⟩ => some (fd.name, fd.qualname, fd.params, fd.body, fd.scope, fd.globals, fd.closure, fd.builtins)
  | _ => none
def DZ.val (d : DZ) : FnZ := some (d.x, d.qual, d.params, .stmts d.body, d.scope, mainGlobals, [], builtinsNs)
def noneB : Value → Bool
  | .none => true
  | _ => false
def DZ.ok (K : PySem.W.Frag) (d : DZ) : Bool := PySem.W.keepIn K (.ref (adZ K d.ad)) && (match K.lookup (adZ K d.ad) with
  | some ⟨_, _, .func fd, _⟩ => PySem.W.codeIn K fd.code d.qual && noneB fd.defaults
  | _ => false)
theorem noneB_eq {v : Value} (h : noneB v = true) : v = .none := by
  cases v <;> first | rfl | cases h
theorem DZ.funD {K : PySem.W.Frag} {d : DZ} (e : fnZ K (adZ K d.ad) = d.val) (c : d.ok K = true) : ∃ fd, FunD K d.x d.qual d.params d.body d.scope [] [] (adZ K d.ad) fd := by
  obtain ⟨kp, c2⟩ := band c
  unfold fnZ at e
  cases q : K.lookup (adZ K d.ad) with
  | none => rw [q] at c2; cases c2
  | some o =>
    obtain ⟨oc, od, dt, osl⟩ := o
    rw [q] at c2 e
    cases dt with
    | func fd =>
      obtain ⟨m1, m2, m3, m4, m5, m6, m7, m8, m9, m10, m11, m12, m13, m14, m15⟩ := fd
      have e2 : (some (m1, m2, m3, m4, m5, m6, m7, m15) : FnZ) = some (d.x, d.qual, d.params, .stmts d.body, d.scope, mainGlobals, [], builtinsNs) := e
      simp only [Option.some.injEq, Prod.mk.injEq] at e2
      obtain ⟨g1, g2, g3, g4, g5, g6, g7, g8⟩ := e2
      subst g1 g2 g3 g4 g5 g6 g7 g8
      obtain ⟨k1, k2⟩ := band (show (PySem.W.codeIn K m13 d.qual && noneB m8) = true from c2)
      exact ⟨_, ⟨oc, od, m8, m9, m10, m11, m12, m13, m14, osl, rfl, q, k1, .inl ⟨rfl, noneB_eq k2⟩, .inl rfl⟩, kp⟩
    | _ => cases c2
/-! ### the Hook -/
abbrev TabZ : Type := Str × List Str
abbrev AlZ : Type := (Bool × List FnZ) × List (Option (List (Option (Str × Int))))
def obsK (ds : List DZ) (ex : PySem.W.Frag → Bool) (ts : List TabZ) (K : PySem.W.Frag) : AlZ := ((ex K && ds.all fun d => d.ok K, ds.map fun d => fnZ K (adZ K d.ad)), ts.map fun t => He.dicW K (He.ga K t.1))
def valK (ds : List DZ) (ts : List TabZ) (w : World) : AlZ := ((true, ds.map DZ.val), ts.map fun t => some (He.keysIn w.params t.2))
def obsZ (n : Nat) (ds : List DZ) (ex : PySem.W.Frag → Bool) (ts : List TabZ) (g : Addr → Option Obj) : AlZ := obsK ds ex ts (He.frG g (cStatics :: He.asD g n))
def SaysZ (ds : List DZ) (ex : PySem.W.Frag → Bool) (ts : List TabZ) (w : World) (K : PySem.W.Frag) : Prop := obsK ds ex ts K = valK ds ts w
def hookZ (n : Nat) (ds : List DZ) (ex : PySem.W.Frag → Bool) (ts : List TabZ) : PySem.W.Hook where
  α := AlZ
  obs := fun s => obsZ n ds ex ts s.heap.get?
  val := fun w => valK ds ts w
  says := fun w h => ∃ K : PySem.W.Frag, K.In h ∧ SaysZ ds ex ts w K
  of := fun _ _ e => ⟨_, He.frG_in, e⟩
  keeps := fun _ _ _ ⟨K, hK, c⟩ k => ⟨K, PySem.W.Frag.In.keeps hK k, c⟩
theorem obsZ_eq {n : Nat} {ds : List DZ} {ex : PySem.W.Frag → Bool} {ts : List TabZ} {g : Addr → Option Obj} {s : Shared} (h : ∀ a, g a = s.heap.get? a) : obsZ n ds ex ts g = (hookZ n ds ex ts).obs s := by
  have e : g = s.heap.get? := funext h
  rw [e] <;> rfl
section
variable {ds : List DZ} {ex : PySem.W.Frag → Bool} {ts : List TabZ} {w : World} {K : PySem.W.Frag}
theorem SaysZ.exOk (c : SaysZ ds ex ts w K) : ex K = true := (band (congrArg (fun z : AlZ => z.1.1) c)).1
theorem SaysZ.fn (c : SaysZ ds ex ts w K) {i : Nat} {d : DZ} (h : ds[i]? = some d) : ∃ fd, FunD K d.x d.qual d.params d.body d.scope [] [] (adZ K d.ad) fd := by
  have c1 : (ex K && ds.all fun d => d.ok K) = true := congrArg (fun z : AlZ => z.1.1) c
  have c2 : (ds.map fun d => fnZ K (adZ K d.ad)) = ds.map DZ.val := congrArg (fun z : AlZ => z.1.2) c
  have e : (ds.map fun d => fnZ K (adZ K d.ad))[i]? = (ds.map DZ.val)[i]? := by rw [c2]
  rw [List.getElem?_map, List.getElem?_map, h] at e
  exact DZ.funD (Option.some.inj e) (List.all_eq_true.mp (band c1).2 d (List.mem_of_getElem? h))
theorem SaysZ.tab (c : SaysZ ds ex ts w K) {t : TabZ} (h : t ∈ ts) : ∃ es n, KDict K w (He.ga K t.1) es n := by
  have e : (ts.map fun t => He.dicW K (He.ga K t.1)) = ts.map fun t => some (He.keysIn w.params t.2) := congrArg (fun z : AlZ => z.2) c
  obtain ⟨i, hi⟩ := List.mem_iff_getElem?.mp h
  have e2 : (ts.map fun t => He.dicW K (He.ga K t.1))[i]? = (ts.map fun t => some (He.keysIn w.params t.2))[i]? := by rw [e]
  rw [List.getElem?_map, List.getElem?_map, hi] at e2
  exact He.dicW_ok (Option.some.inj e2)
end
end Z

end
section
set_option maxHeartbeats 4000000
set_option autoImplicit false
/-! Zt: from the head's facts to TxSt. -/
namespace Z
open PySem PySem.Spec PyProof.Rows L2
theorem bnd {a b : Bool} (h : (a && b) = true) : a = true ∧ b = true := Bool.and_eq_true_iff.mp h
/-! ### constants -/
def strsB : List D → List Value → Bool
  | .str s :: l, .str x _ :: r => decide (x.cps.toList = s) && strsB l r
  | [], [] => true
  | _, _ => false
def conC (K : PySem.W.Frag) : D → Value → Bool
  | .str s, .str x _ => decide (x.cps.toList = s)
  | .int i, .int j _ => decide (i = j)
  | .tup l, .ref p => match K.lookup p with
    | some ⟨.type c, _, .seq its n, _⟩ => decide (c = "tuple") && decide (its.size ≤ sizeLine) && strsB l its.toList
    | _ => false
  | _, _ => false
def keysB : List (List Nat × D) → List DictEntry → Bool
  | q :: l, ⟨_, .str x _, _⟩ :: r => decide (x.cps.toList = q.1) && keysB l r
  | [], [] => true
  | _, _ => false
def conG (K : PySem.W.Frag) (d : D) (u : Value) : Bool := match d with
  | .kd l => (match u with
    | .ref p => (match K.lookup p with
      | some ⟨.type c, none, .dict es n, _⟩ => decide (c = "dict") && keysB l es.toList
      | _ => false) && l.all fun q => (match PySem.W.nsIn K p (toStr q.1) with
        | some (some u) => conC K q.2 u
        | _ => false)
    | _ => false)
  | d => conC K d u
theorem toStr_of {x : Str} {s : List Nat} (h : x.cps.toList = s) : x = toStr s := by
  subst h
  unfold toStr
  simp
theorem strsB_eq : ∀ {l : List D} {vs : List Value}, strsB l vs = true → ∃ z : List (List Nat), l = z.map .str ∧ Vals (z.map fun s => V.str (toStr s)) vs
  | [], vs, h => by
    cases vs with
    | nil => exact ⟨[], rfl, .nil⟩
    | cons v r => cases h
  | d :: l, vs, h => by
    cases vs with
    | nil => cases d <;> cases h
    | cons v r =>
      cases d with
      | str s =>
        cases v with
        | str x t =>
          obtain ⟨h1, h2⟩ := bnd h
          obtain ⟨z, e2, hv⟩ := strsB_eq h2
          have e := toStr_of (of_decide_eq_true h1)
          exact ⟨s :: z, by rw [e2] <;> rfl, .cons ⟨t, by rw [e]⟩ hv⟩
        | _ => cases h
      | _ => cases v <;> cases h
theorem conC_ok {G : Tx} {d : D} {u : Value} (h : conC G.K d u = true) : ∃ v, RelV v u ∧ RepC G v d := by
  cases d with
  | str s =>
    cases u <;> first | cases h | skip
    rename_i x t
    have e := toStr_of (of_decide_eq_true h)
    exact ⟨.str (toStr s), ⟨t, by rw [e]⟩, .str s⟩
  | int i =>
    cases u <;> first | cases h | skip
    rename_i j t
    have e : i = j := of_decide_eq_true h
    exact ⟨.int i, ⟨t, by rw [e]⟩, .int i⟩
  | tup l =>
    cases u <;> first | cases h | skip
    rename_i p
    have h2 : (match G.K.lookup p with
      | some ⟨.type c, _, .seq its n, _⟩ => decide (c = "tuple") && decide (its.size ≤ sizeLine) && strsB l its.toList
      | _ => false) = true := h
    cases e : G.K.lookup p with
    | none => rw [e] at h2; cases h2
    | some o =>
      obtain ⟨oc, od, dt, osl⟩ := o
      rw [e] at h2
      cases oc <;> first | cases h2 | skip
      cases dt <;> first | cases h2 | skip
      rename_i c its n
      obtain ⟨h3, h4⟩ := bnd h2
      obtain ⟨h5, h6⟩ := bnd h3
      obtain ⟨z, rfl, hv⟩ := strsB_eq h4
      have ec : c = "tuple" := of_decide_eq_true h5
      subst ec
      exact ⟨.ref p, rfl, .tups z ⟨_, its, n, e, rfl, rfl, of_decide_eq_true h6, hv⟩⟩
  | _ => cases u <;> cases h
theorem RepL.strs {G : Tx} {α : Al} {μ : Mu} {H : Hp} : ∀ z : List (List Nat), RepL G α μ H (z.map fun s => V.str (toStr s)) (z.map .str)
  | [] => .nil
  | s :: z => .cons (.str s) (RepL.strs z)
theorem keysB_ok : ∀ {l : List (List Nat × D)} {es : List DictEntry}, keysB l es = true → es.map (fun e => absV e.key) = (l.map fun q => some (V.str (toStr q.1))) ∧ (∀ e ∈ es, ∃ q ∈ l, ∃ t, e.key = .str (toStr q.1) t)
  | [], [], _ => ⟨rfl, fun _ h => by cases h⟩
  | [], _ :: _, h => by cases h
  | _ :: _, [], h => by cases h
  | q :: l, ⟨hs, k, v⟩ :: r, h => by
    cases k <;> first | cases h | skip
    rename_i x t
    obtain ⟨h1, h2⟩ := bnd h
    obtain ⟨i1, i2⟩ := keysB_ok h2
    have e := toStr_of (of_decide_eq_true h1)
    subst e
    refine ⟨?_, fun e he => ?_⟩
    · show some _ :: _ = some _ :: _
      rw [i1]
    · rcases List.mem_cons.mp he with rfl | he
      · exact ⟨q, List.mem_cons_self .., t, rfl⟩
      · obtain ⟨q', m, t', e'⟩ := i2 e he
        exact ⟨q', List.mem_cons_of_mem _ m, t', e'⟩
theorem lookup_of_mem {β : Type} {l : List (List Nat × β)} {z : List Nat} (h : l.lookup z = none) : ∀ q ∈ l, q.1 ≠ z := by
  induction l with
  | nil => intro q hq; cases hq
  | cons a l ih =>
    intro q hq e
    obtain ⟨k, v⟩ := a
    rw [List.lookup_cons] at h
    cases hz : z == k with
    | true => rw [hz] at h; cases h
    | false =>
      rw [hz] at h
      rcases List.mem_cons.mp hq with rfl | hq
      · have : z = k := e.symm
        subst this
        simp at hz
      · exact ih h q hq e
theorem mem_of_lookup {β : Type} {l : List (List Nat × β)} {z : List Nat} {d : β} (h : l.lookup z = some d) : (z, d) ∈ l := by
  induction l with
  | nil => cases h
  | cons a l ih =>
    obtain ⟨k, v⟩ := a
    rw [List.lookup_cons] at h
    cases hz : z == k with
    | true =>
      rw [hz] at h
      cases h
      rw [show z = k from eq_of_beq hz]
      exact List.mem_cons_self ..
    | false => rw [hz] at h; exact List.mem_cons_of_mem _ (ih h)
theorem conG_ok {G : Tx} {d : D} {u : Value} (h : conG G.K d u = true) (ht : ∀ l p, d = .kd l → u = .ref p → ∃ es n, KDict G.K G.w p es n) : ∃ v, RelV v u ∧ ∀ α μ H, Rep G α μ H v d := by
  by_cases hk : ∃ l, d = .kd l
  · obtain ⟨l, rfl⟩ := hk
    cases u <;> first | cases h | skip
    rename_i p
    obtain ⟨h1, h2⟩ := bnd h
    refine ⟨.ref p, rfl, fun α μ H => .kd (ht l p rfl rfl) ?_ fun z d hz => ?_⟩
    · cases e : G.K.lookup p with
      | none => rw [e] at h1; cases h1
      | some o =>
        obtain ⟨oc, od, dt, osl⟩ := o
        rw [e] at h1
        cases oc <;> first | (cases h1; done) | skip
        cases od <;> first | (cases h1; done) | skip
        cases dt <;> first | (cases h1; done) | skip
        rename_i c es n
        obtain ⟨h3, h4⟩ := bnd h1
        have ec : c = "dict" := of_decide_eq_true h3
        subst ec
        obtain ⟨k1, k2⟩ := keysB_ok h4
        refine ⟨⟨_, es, n, e, rfl, rfl, rfl, k1⟩, fun z hz => ?_⟩
        unfold PySem.W.nsIn
        rw [e]
        dsimp only
        have f : es.toList.find? (·.key.isStr (toStr z)) = none := by
          rw [List.find?_eq_none]
          intro x hx
          obtain ⟨q, m, t, e'⟩ := k2 x hx
          rw [e']
          intro hh
          have hh2 : (toStr q.1 == toStr z) = true := hh
          exact lookup_of_mem hz q m (toStr_inj (eq_of_beq hh2))
        rw [f]
        dsimp only
        have f2 : es.toList.any (·.refKey) = false := by
          rw [List.any_eq_false]
          intro x hx
          obtain ⟨q, m, t, e'⟩ := k2 x hx
          unfold DictEntry.refKey
          rw [e']
          exact fun z => by cases z
        rw [f2]
        rfl
    · have hm := mem_of_lookup hz
      have h3 := List.all_eq_true.mp h2 _ hm
      dsimp only at h3
      cases e : PySem.W.nsIn G.K p (toStr z) with
      | none => rw [e] at h3; cases h3
      | some r =>
        rw [e] at h3
        cases r with
        | none => cases h3
        | some u =>
          obtain ⟨v, r1, r2⟩ := conC_ok (G := G) h3
          exact ⟨u, v, rfl, r1, r2⟩
  · have e : conG G.K d u = conC G.K d u := by cases d <;> first | rfl | exact absurd ⟨_, rfl⟩ hk
    rw [e] at h
    obtain ⟨v, r1, r2⟩ := conC_ok (G := G) (u := u) h
    exact ⟨v, r1, fun α μ H => r2.rep⟩
end Z

end
section
set_option maxHeartbeats 4000000
set_option autoImplicit false
/-! Zt3: from the head's facts to the error classes. -/
namespace Z
open PySem PySem.Spec PyProof.Rows L2
def supB (e : Expr) : Bool := match e with
  | .Call f [] [] _ => (match f with
    | .Name s _ => decide (s = "super")
    | _ => false)
  | _ => false
def txtB (e : Expr) : Bool := match e with
  | .Constant (.str _) _ _ => true
  | _ => false
def st1B (s : Stmt) : Bool := match s with
  | .Expr e _ => (match e with
    | .Call f [c] [] p4 => (match f with
      | .Attribute o i p2 => decide (i = "__init__") && (p2.endLine == p4.line) && supB o && txtB c
      | _ => false)
    | _ => false)
  | _ => false
def nameB (e : Expr) (x : Str) : Bool := match e with
  | .Name y _ => decide (y = x)
  | _ => false
def st2B (s : Stmt) (x1 x2 fld : Str) : Bool := match s with
  | .Assign [t] e _ => (match t with
    | .Attribute o f _ => nameB o x1 && decide (f = fld)
    | _ => false) && nameB e x2
  | _ => false
def bodB (b : FuncBody) (x1 x2 fld : Str) : Bool := match b with
  | .stmts [s1, s2] => st1B s1 && st2B s2 x1 x2 fld
  | _ => false
def scoB (sc : Scope) (x1 x2 : Str) : Bool :=
  decide (sc.names.lookup x1 = some .local) && decide (sc.names.lookup x2 = some .local) && decide (x1 ≠ x2) && !(x1 == ("__debug__" : Str)) && !(x2 == ("__debug__" : Str)) && decide (sc.names.lookup ("super" : Str) = some .globalImplicit) &&
    decide (sc.names.lookup ("__class__" : Str) = some .free) && decide (sc.kind = .function) && !sc.isCoroutine && !sc.isGenerator && (sc.names.all fun q => decide (q.2 ≠ .cell))
def parB (a : Arguments) (b : FuncBody) (fld : Str) (sc : Scope) : Bool := match a with
  | ⟨[], [a1, a2], none, [], _, none, _⟩ => bodB b a1.arg a2.arg fld && scoB sc a1.arg a2.arg
  | _ => false
def codF (P : Program) (K : PySem.W.Frag) (cd : Value) : Bool := match cd with
  | .ref c => (match K.lookup c with
    | some ⟨_, _, .fields vs, _⟩ => (match (vs : Array Value)[(2 : Nat)]? with
      | some (.str file _) => (P.main.file : Str) == file
      | _ => false)
    | _ => false)
  | _ => false
def cloB (K : PySem.W.Frag) (C : Addr) (l : List (Str × Addr)) : Bool := match l with
  | [(k, cc)] => decide (k = "__class__") && (match K.lookup cc with
    | some ⟨_, _, .cell (some (.ref D)), _⟩ => decide (D = C)
    | _ => false)
  | _ => false
def eiB (P : Program) (K : PySem.W.Frag) (C : Addr) (fld : Str) (f : Addr) : Bool := match K.lookup f with
  | some ⟨_, _, .func fd, _⟩ => decide (fd.globals = mainGlobals) && decide (fd.builtins = builtinsNs) && noneB fd.defaults && PySem.W.codeIn K fd.code fd.qualname && codF P K fd.code && cloB K C fd.closure && parB fd.params fd.body fld fd.scope
  | _ => false
theorem supB_eq {e : Expr} (h : supB e = true) : ∃ p0 p1, e = .Call (.Name "super" p0) [] [] p1 := by
  unfold supB at h
  split at h
  · split at h
    · exact ⟨_, _, by rw [of_decide_eq_true h]⟩
    · cases h
  · cases h
theorem txtB_eq {e : Expr} (h : txtB e = true) : ∃ t j p, e = .Constant (.str t) j p := by
  unfold txtB at h
  split at h
  · exact ⟨_, _, _, rfl⟩
  · cases h
theorem nameB_eq {e : Expr} {x : Str} (h : nameB e x = true) : ∃ p, e = .Name x p := by
  unfold nameB at h
  split at h
  · exact ⟨_, by rw [of_decide_eq_true h]⟩
  · cases h
theorem st1B_eq {s : Stmt} (h : st1B s = true) : ∃ p0 p1 p2 t j p3 p4 p5, s = .Expr (.Call (.Attribute (.Call (.Name "super" p0) [] [] p1) "__init__" p2) [.Constant (.str t) j p3] [] p4) p5 ∧ (p2.endLine == p4.line) = true := by
  unfold st1B at h
  split at h
  · split at h
    · split at h
      · simp only [Bool.and_eq_true] at h
        obtain ⟨⟨⟨h1, h2⟩, h3⟩, h4⟩ := h
        obtain ⟨p0, p1, rfl⟩ := supB_eq h3
        obtain ⟨t, j, p, rfl⟩ := txtB_eq h4
        obtain rfl := of_decide_eq_true h1
        exact ⟨_, _, _, _, _, _, _, _, rfl, h2⟩
      · cases h
    · cases h
  · cases h
theorem st2B_eq {s : Stmt} {x1 x2 fld : Str} (h : st2B s x1 x2 fld = true) : ∃ p6 p7 p8 p9, s = .Assign [.Attribute (.Name x1 p6) fld p7] (.Name x2 p8) p9 := by
  unfold st2B at h
  split at h
  · obtain ⟨h1, h2⟩ := Bool.and_eq_true_iff.mp h
    obtain ⟨p8, rfl⟩ := nameB_eq h2
    split at h1
    · obtain ⟨h3, h4⟩ := Bool.and_eq_true_iff.mp h1
      obtain ⟨p6, rfl⟩ := nameB_eq h3
      obtain rfl := of_decide_eq_true h4
      exact ⟨_, _, _, _, rfl⟩
    · cases h1
  · cases h
theorem bind2 {fd : FuncData} {a1 a2 : Arg} {kd : List (Option Expr)} {df : List Expr} {u1 u2 : Value} (hp : fd.params = ⟨[], [a1, a2], none, [], kd, none, df⟩) (hd : fd.defaults = .none) (hne : a1.arg ≠ a2.arg) :
    bindArgs fd ⟨[u1, u2], []⟩ = pure ([a1.arg, a2.arg].zip [u1, u2]) := by
  have l1 : List.lookup a1.arg [(a1.arg, u1), (a2.arg, u2)] = some u1 := by simp [List.lookup]
  have l2 : List.lookup a2.arg [(a1.arg, u1), (a2.arg, u2)] = some u2 := by
    have : (a2.arg == a1.arg) = false := by simpa using Ne.symm hne
    simp [List.lookup, this]
  have e : seqItems? Value.none = pure none := rfl
  unfold bindArgs
  rw [hp, hd]
  simp [e, l1, l2]
theorem eiB_ok {P : Program} {K : PySem.W.Frag} {mg : Str → Option Value} {C f : Addr} {fld : Str} (h : eiB P K C fld f = true) (F : Z.ExC P K mg C fld) :
    ∃ (fd : FuncData) (ps : List Str), Binds K fd ps [] ∧ ∀ (w : World) (base : Heap) (CX : CXT) (k : Nat), FnOk P w K mg base CX k f fd ps (spI C fld) := by
  unfold eiB at h
  split at h
  · rename_i oc od fd osl lk
    obtain ⟨m1, m2, m3, m4, m5, m6, m7, m8, m9, m10, m11, m12, m13, m14, m15⟩ := fd
    simp only [Bool.and_eq_true] at h
    obtain ⟨⟨⟨⟨⟨⟨h1, h2⟩, h3⟩, h4⟩, h5⟩, h6⟩, h7⟩ := h
    obtain rfl : m6 = mainGlobals := of_decide_eq_true h1
    obtain rfl : m15 = builtinsNs := of_decide_eq_true h2
    obtain rfl : m8 = .none := noneB_eq h3
    unfold parB at h7
    split at h7
    · rename_i a1 a2 kd df
      obtain ⟨h8, h9⟩ := Bool.and_eq_true_iff.mp h7
      unfold bodB at h8
      split at h8
      · rename_i s1 s2
        obtain ⟨h10, h11⟩ := Bool.and_eq_true_iff.mp h8
        obtain ⟨p0, p1, p2, t, j, p3, p4, p5, rfl, hp⟩ := st1B_eq h10
        obtain ⟨p6, p7, p8, p9, rfl⟩ := st2B_eq h11
        unfold scoB at h9
        simp only [Bool.and_eq_true] at h9
        obtain ⟨⟨⟨⟨⟨⟨⟨⟨⟨⟨g1, g2⟩, g3⟩, g4⟩, g5⟩, g6⟩, g7⟩, g8⟩, g9⟩, g10⟩, g11⟩ := h9
        unfold cloB at h6
        split at h6
        · rename_i k cc
          obtain ⟨k1, k2⟩ := Bool.and_eq_true_iff.mp h6
          obtain rfl := of_decide_eq_true k1
          split at k2
          · rename_i c1 c2 D c3 hcell
            obtain rfl := of_decide_eq_true k2
            unfold codF at h5
            split at h5
            · rename_i cda
              split at h5
              · rename_i q1 q2 vs q3 hcode
                split at h5
                · rename_i file tf hvs
                  refine ⟨_, [a1.arg, a2.arg], .all fun us hl => ?_, fun w base CX k => exi_ok (x1 := a1.arg) (x2 := a2.arg) F lk h4 rfl rfl hcode hvs h5 hcell (of_decide_eq_true g1) (of_decide_eq_true g2) (of_decide_eq_true g3) (bnot g4) (bnot g5) (of_decide_eq_true g6) (of_decide_eq_true g7) (of_decide_eq_true g8)
                    (bnot g9) (bnot g10) (fun x hx => of_decide_eq_true (List.all_eq_true.mp g11 x hx)) hp⟩
                  match us, hl with
                  | [u1, u2], _ => exact bind2 rfl rfl (of_decide_eq_true g3)
                · cases h5
              · cases h5
            · cases h5
          · cases k2
        · cases h6
      · cases h8
    · cases h7
  · cases h
/-! ### a class of errors -/
def slB (l : List (Option Value)) : Bool := match l with
  | [_, _, _, _, some (.builtin n), _] => decide (n = "ValueError.__new__")
  | _ => false
def mroB (C : Addr) (l : List Value) : Bool := match l with
  | .ref D :: bm => decide (D = C) && HandSPX.refsVE bm
  | _ => false
def clcB (K : PySem.W.Frag) (C : Addr) : Bool := match K.lookup C with
  | some ⟨.type t, _, .cls cd, sl⟩ => decide (t = "type") && mroB C cd.mro && cd.hasDict && !cd.hasDel && slB sl.toList
  | _ => false
def oexB (K : PySem.W.Frag) (C : Addr) : Bool := clcB K C && He.eqO (PySem.W.findIn K (.ref C) "__setattr__") (some (some (.builtin "object.__setattr__"))) && decide (PySem.W.subIn K (.ref C) (.type "BaseException") = some true) && decide (PySem.W.typeIn K (.ref C) = some (.type "type")) && PySem.W.keepIn K (.ref C)
theorem slB_eq {l : List (Option Value)} (h : slB l = true) : ∃ k0 k1 k2 k3 k5, l = [k0, k1, k2, k3, some (.builtin "ValueError.__new__"), k5] := by
  unfold slB at h
  split at h
  · exact ⟨_, _, _, _, _, by rw [of_decide_eq_true h]⟩
  · cases h
theorem mroB_eq {C : Addr} {l : List Value} (h : mroB C l = true) : ∃ bm, l = .ref C :: bm ∧ HandSPX.refsVE bm = true := by
  unfold mroB at h
  split at h
  · obtain ⟨h1, h2⟩ := Bool.and_eq_true_iff.mp h
    exact ⟨_, by rw [of_decide_eq_true h1], h2⟩
  · cases h
theorem oexB_ok {K : PySem.W.Frag} {C : Addr} (h : oexB K C = true) : OexC K C := by
  unfold oexB at h
  simp only [Bool.and_eq_true] at h
  obtain ⟨⟨⟨⟨h1, h2⟩, h3⟩, h4⟩, h5⟩ := h
  refine ⟨?_, He.eqO_ok h2, of_decide_eq_true h3, of_decide_eq_true h4, h5⟩
  unfold clcB at h1
  split at h1
  · rename_i t dd cd sl lk
    obtain ⟨nm, bs, mro, ns, qn, hd, sn, sub, ab, col, del⟩ := cd
    simp only [Bool.and_eq_true] at h1
    obtain ⟨⟨⟨⟨g1, g2⟩, g3⟩, g4⟩, g5⟩ := h1
    obtain rfl := of_decide_eq_true g1
    obtain ⟨bm, rfl, hb⟩ := mroB_eq g2
    obtain ⟨k0, k1, k2, k3, k5, e⟩ := slB_eq g5
    obtain rfl : hd = true := g3
    obtain rfl : del = false := bnot g4
    obtain ⟨sl⟩ := sl
    have e' : sl = _ := e
    subst e'
    exact ⟨nm, qn, ns, bs, bm, sn, sub, ab, col, dd, k0, k1, k2, k3, k5, lk, hb⟩
  · cases h1
/-- what is asked of the heap, of one class of errors (B: the base of all) -/
def erB (P : Program) (K : PySem.W.Frag) (B C : Addr) (fld : Str) : Bool :=
  oexB K C && decide (PySem.W.nsIn K cStatics "thirdparty.any" = some none) && decide (PySem.W.ks_superIn K C C "__init__" = some (some (.builtin "ValueError.__init__"))) && decide (PySem.W.mroIn K C (.ref C) = some true) &&
    decide (PySem.W.subIn K (.ref C) (.type "ValueError") = some true) && decide (PySem.W.findIn K (.ref C) fld = some none) && !(P.main.scope.names.lookup ("super" : Str)).isSome &&
    (match PySem.W.findIn K (.ref C) "__init__" with
      | some (some (.ref f)) => decide (PySem.W.typeIn K (.ref f) = some (.type "function")) && eiB P K C fld f
      | _ => false) && xfB K C && decide (PySem.W.findIn K (.ref C) "__class__" = some (some (.builtin "object.__class__"))) && decide (PySem.W.specialIn K (.builtin "object.__class__") "__get__" = some (some (.builtin "getset_descriptor.__get__"))) &&
    decide (PySem.W.takesIn K (.builtin "object.__class__") = some true) && decide (PySem.W.mroIn K C (.type "object") = some true) && decide (PySem.W.kitOne K (.ref C) (.ref B) = some true)
theorem erB_ok {G : Tx} {c : Nat} {fld : Str} (h : erB G.P G.K (G.eA 0) (G.eA c) fld = true) (hf : G.eF c = [fld]) (hm : G.mg "super" = none) : ErF G c := by
  unfold erB at h
  simp only [Bool.and_eq_true] at h
  obtain ⟨⟨⟨⟨⟨⟨⟨⟨⟨⟨⟨⟨⟨h1, h2⟩, h3⟩, h4⟩, h5⟩, h6⟩, h7⟩, h8⟩, h9⟩, h10⟩, h11⟩, h12⟩, h13⟩, h14⟩ := h
  have X := xfB_ok h9
  have F : Z.ExC G.P G.K G.mg (G.eA c) fld := ⟨oexB_ok h1, of_decide_eq_true h2, of_decide_eq_true h3, of_decide_eq_true h4, of_decide_eq_true h5, hm, of_decide_eq_true h6, bnot h7⟩
  split at h8
  · rename_i f ef
    obtain ⟨g1, g2⟩ := Bool.and_eq_true_iff.mp h8
    obtain ⟨fd, ps, b1, b2⟩ := eiB_ok g2 F
    exact ⟨fld, f, fd, ps, hf, F, ef, of_decide_eq_true g1, b1, b2 _ _ _ _, X, ⟨X.ga, X.gg, X.exC, X.hdC, of_decide_eq_true h10, of_decide_eq_true h11, of_decide_eq_true h12, of_decide_eq_true h13⟩, fun v e => by rw [← e]; exact of_decide_eq_true h14⟩
  · cases h8
end Z

end
section
set_option maxHeartbeats 4000000
set_option autoImplicit false
/-! Zt: from the head's facts to TxSt. -/
namespace Z
open PySem PySem.Spec PyProof.Rows L2
/-! ### classes -/
def propB (K : PySem.W.Frag) (C m : Str) : Bool := match PySem.W.findIn K (.ref (He.ga K C)) m with
  | some (some (.ref p)) => He.eqO (PySem.W.specialIn K (.ref p) "__get__") (some (some (.builtin "property.__get__"))) && decide (PySem.W.takesIn K (.ref p) = some true) && (match PySem.W.recIn K p "property" with
    | some (.ref _ :: _) => true
    | _ => false)
  | _ => false
theorem propB_ok {K : PySem.W.Frag} {C m : Str} (h : propB K C m = true) : ∃ p, PropOf K (He.ga K C) m p (adZ K (.prop C m)) := by
  unfold propB at h
  cases e : PySem.W.findIn K (.ref (He.ga K C)) m with
  | none => rw [e] at h; cases h
  | some o =>
    rw [e] at h
    cases o with
    | none => cases h
    | some v =>
      cases v <;> first | (cases h; done) | skip
      rename_i p
      obtain ⟨h1, h2⟩ := bnd h
      obtain ⟨h3, h4⟩ := bnd h1
      have ep : He.ma K (He.ga K C) m = p := by unfold He.ma; rw [e]
      refine ⟨p, e, He.eqO_ok h3, of_decide_eq_true h4, ?_⟩
      unfold adZ
      dsimp only
      rw [ep]
      cases e2 : PySem.W.recIn K p "property" with
      | none => rw [e2] at h2; cases h2
      | some l =>
        rw [e2] at h2
        cases l with
        | nil => cases h2
        | cons a r =>
          cases a <;> first | (cases h2; done) | skip
          exact ⟨r, rfl⟩
def atN (M : Nm) (a : Nat) : Str := M.at_.getD a "?"
def fnmB (K : PySem.W.Frag) (C m : Str) : Bool := (He.Fa.meth C m).ok K
def clB (M : Nm) (K : PySem.W.Frag) (C : Str) (ci : ClsI) : Bool :=
  (He.Fa.cls C).ok K && (He.Fa.mkr C).ok K && (ci.fields.all fun a => (He.Fa.noat C (atN M a)).ok K) && (ci.meths.all fun q => (He.Fa.meth C (atN M q.1)).ok K) && (ci.props.all fun q => propB K C (atN M q.1)) &&
    (match ci.eqm with | some _ => (He.Fa.meth C "__eq__").ok K | none => true) && (match ci.lenm with | some _ => (He.Fa.meth C "__len__").ok K | none => true)
def adIs (ds : List DZ) (f : Nat) (a : AdZ) : Bool := match ds[f]? with
  | some d => decide (d.ad = a)
  | none => false
def nodupB : List Nat → Bool
  | [] => true
  | a :: l => !l.contains a && nodupB l
def clS (M : Nm) (ds : List DZ) (C : Str) (ci : ClsI) : Bool :=
  adIs ds ci.ini (.meth C "__init__") && decide ((ci.fields.map (atN M)).Nodup) && decide (ci.fields.length < 999) && (ci.meths.all fun q => adIs ds q.2 (.meth C (atN M q.1)) && decide (atN M q.1 ∉ ci.fields.map (atN M))) && (ci.props.all fun q => adIs ds q.2 (.prop C (atN M q.1))) &&
    (match ci.eqm with | some f => adIs ds f (.meth C "__eq__") | none => true) && (match ci.lenm with | some f => adIs ds f (.meth C "__len__") | none => true)
def kitTs : List String := ["NoneType", "int", "bool", "str", "tuple", "list", "dict"]
def iscB (K : PySem.W.Frag) (cs : List Str) : Bool :=
  (cs.all fun C => (He.Fa.cls C).ok K && He.eqO (PySem.W.findIn K (.ref (He.ga K C)) "__class__") (some (some (.builtin "object.__class__"))) && decide (PySem.W.mroIn K (He.ga K C) (.type "object") = some true) &&
    (kitTs.all fun t => decide (PySem.W.kitOne K (.ref (He.ga K C)) (.type t) = some false) || decide (t = "NoneType")) && (kitTs.all fun t => decide (PySem.W.kitOne K (.type t) (.ref (He.ga K C)) = some false))) &&
  ((List.range cs.length).all fun c => (List.range cs.length).all fun d => decide (PySem.W.kitOne K (.ref (He.ga K (cs.getD c ""))) (.ref (He.ga K (cs.getD d ""))) = some (decide (c = d)))) &&
  He.eqO (PySem.W.specialIn K (.builtin "object.__class__") "__get__") (some (some (.builtin "getset_descriptor.__get__"))) && decide (PySem.W.takesIn K (.builtin "object.__class__") = some true)
def glF (K : PySem.W.Frag) (x : Str) (d : D) : Bool := match PySem.W.nsIn K mainGlobals x with
  | some (some u) => conG K d u
  | _ => false
def errB (P : Program) (M : Nm) (K : PySem.W.Frag) : Bool :=
  (M.er.isEmpty || (He.Fa.free "super").ok K) && (M.er.all fun x => (He.Fa.glo x).ok K) && ((List.range M.er.length).all fun c => decide (c = 0) || erB P K (He.ga K (M.er.getD 0 "")) (He.ga K (M.er.getD c "")) (M.ef.getD c "")) &&
    ((List.range M.er.length).all fun c => decide (c = 0) || (List.range M.er.length).all fun c' => decide (PySem.W.exmOne K (.ref (He.ga K (M.er.getD c ""))) (.ref (He.ga K (M.er.getD c' ""))) = some (decide (c' = 0 ∨ c' = c))))
/-- what is asked of the heap -/
def exB (P : Program) (M : Nm) (T : Tb) (K : PySem.W.Frag) : Bool :=
  (bltN.all fun x => (He.Fa.free x).ok K) && (M.fn.all fun o => match o with | some x => (He.Fa.glo x).ok K | none => true) && (M.cl.all fun C => (He.Fa.glo C).ok K) &&
    ((M.gl.zip T.globs).all fun q => glF K q.1 q.2) && ((M.cl.zip T.cls).all fun q => clB M K q.1 q.2) && iscB K M.cl && errB P M K
/-- what is asked of the text's data -/
def stB (M : Nm) (T : Tb) (ds : List DZ) : Bool :=
  ((List.range M.fn.length).all fun f => match M.fn[f]? with | some (some x) => adIs ds f (.glo x) | _ => true) && ((M.cl.zip T.cls).all fun q => clS M ds q.1 q.2) && decide (M.cl.length = T.cls.length) && decide (M.gl.length = T.globs.length)
theorem zipGetM {α β : Type} {l : List α} {r : List β} {i : Nat} {a : α} {b : β} (h1 : l[i]? = some a) (h2 : r[i]? = some b) : (a, b) ∈ l.zip r := by
  have : (l.zip r)[i]? = some (a, b) := by rw [List.getElem?_zip_eq_some]; exact ⟨h1, h2⟩
  exact List.mem_of_getElem? this
def fAof (K : PySem.W.Frag) (ds : List DZ) (f : Nat) : Addr := match ds[f]? with
  | some d => adZ K d.ad
  | none => 0
theorem adIs_eq {K : PySem.W.Frag} {ds : List DZ} {f : Nat} {a : AdZ} (h : adIs ds f a = true) : fAof K ds f = adZ K a := by
  unfold adIs at h
  unfold fAof
  cases e : ds[f]? with
  | none => rw [e] at h; cases h
  | some d => rw [e] at h; rw [← of_decide_eq_true h]
theorem atN_eq {M : Nm} {a : Nat} {x : Str} (h : M.at_[a]? = some x) : atN M a = x := by unfold atN; rw [List.getD_eq_getElem?_getD, h]; rfl
theorem lookup_mem {β : Type} {l : List (Nat × β)} {z : Nat} {d : β} (h : l.lookup z = some d) : (z, d) ∈ l := by
  induction l with
  | nil => cases h
  | cons a l ih =>
    obtain ⟨k, v⟩ := a
    rw [List.lookup_cons] at h
    cases hz : z == k with
    | true =>
      rw [hz] at h
      cases h
      rw [show z = k from eq_of_beq hz]
      exact List.mem_cons_self ..
    | false => rw [hz] at h; exact List.mem_cons_of_mem _ (ih h)
abbrev txOf (P : Program) (w : World) (K : PySem.W.Frag) (mg : Str → Option Value) (base : Heap) (M : Nm) (T : Tb) (ds : List DZ) : Tx :=
  ⟨P, w, K, mg, base, T, fun c => He.ga K (M.cl.getD c ""), fAof K ds, fun c => He.ga K (M.er.getD c ""), fun c => [M.ef.getD c ""], atN M⟩
theorem txSt_of {P : Program} {w : World} {K : PySem.W.Frag} {mg : Str → Option Value} {base h : Heap} {M : Nm} {T : Tb} {ds : List DZ} (X : K.In h) (GN : h.Ns mainGlobals mg) (e : exB P M T K = true) (s : stB M T ds = true)
    (kp : ∀ (f : Nat) (d : DZ), ds[f]? = some d → PySem.W.keepIn K (.ref (adZ K d.ad)) = true)
    (kd : ∀ (g : Nat) (l : List (List Nat × D)) (x : Str) (p : Addr), T.globs[g]? = some (.kd l) → M.gl[g]? = some x → PySem.W.nsIn K mainGlobals x = some (some (.ref p)) → ∃ es n, KDict K w p es n) :
    TxSt (txOf P w K mg base M T ds) M := by
  unfold exB at e
  simp only [Bool.and_eq_true] at e
  obtain ⟨⟨⟨⟨⟨⟨e1, e2⟩, e3⟩, e4⟩, e5⟩, e6⟩, e7⟩ := e
  unfold errB at e7
  simp only [Bool.and_eq_true] at e7
  obtain ⟨⟨⟨r1, r2⟩, r3⟩, r4⟩ := e7
  unfold stB at s
  simp only [Bool.and_eq_true] at s
  obtain ⟨⟨⟨s1, s2⟩, s3⟩, s4⟩ := s
  have fnAd : ∀ (f : Nat) (x : Str), M.fn[f]? = some (some x) → adIs ds f (.glo x) = true := fun f x hx => by
    have hlt := (List.getElem?_eq_some_iff.mp hx).1
    have := List.all_eq_true.mp s1 f (List.mem_range.mpr hlt)
    rw [hx] at this
    exact this
  have clC : ∀ (c : Nat) (x : Str), M.cl[c]? = some x → M.cl.getD c "" = x := fun c x hx => by rw [List.getD_eq_getElem?_getD, hx]; rfl
  have e6' := e6
  unfold iscB at e6'
  simp only [Bool.and_eq_true] at e6'
  obtain ⟨⟨⟨i1, i2⟩, i3⟩, i4⟩ := e6'
  have hcl := of_decide_eq_true s3
  refine
    { glob := fun g d x hg hx => ?_
      fnm := fun f x hx => ?_
      fnn := fun f x hx => ?_
      clm := fun c x hx => ?_
      cls := fun c ci hc => ?_
      atn := fun a x hx => atN_eq hx
      blt := fun x hx => He.free_ok X GN (List.all_eq_true.mp e1 x hx)
      ncl := hcl
      isc := ?_
      erm := fun c x hx => by
        show mg x = some (.ref (He.ga K (M.er.getD c "")))
        rw [show M.er.getD c "" = x from by rw [List.getD_eq_getElem?_getD, hx]; rfl]
        exact He.glo_ok X GN (List.all_eq_true.mp r2 x (List.mem_of_getElem? hx))
      eff := fun c x _ hx => by
        show [M.ef.getD c ""] = [x]
        rw [List.getD_eq_getElem?_getD, hx]
        rfl
      erf := fun c h0 hc => by
        have q := List.all_eq_true.mp r3 c (List.mem_range.mpr hc)
        rw [Bool.or_eq_true] at q
        rcases q with q | q
        · exact absurd (of_decide_eq_true q) (Nat.pos_iff_ne_zero.mp h0)
        · refine erB_ok (fld := M.ef.getD c "") q rfl ?_
          rw [Bool.or_eq_true] at r1
          rcases r1 with q1 | q1
          · rw [List.isEmpty_iff] at q1
            rw [q1] at hc
            exact absurd hc (Nat.not_lt_zero _)
          · exact He.free_ok X GN q1
      exm := fun c c' h0 hc hc' => by
        have q := List.all_eq_true.mp r4 c (List.mem_range.mpr hc)
        rw [Bool.or_eq_true] at q
        rcases q with q | q
        · exact absurd (of_decide_eq_true q) (Nat.pos_iff_ne_zero.mp h0)
        · exact of_decide_eq_true (List.all_eq_true.mp q c' (List.mem_range.mpr hc')) }
  · have h4 : glF K x d = true := List.all_eq_true.mp e4 (x, d) (zipGetM hx hg)
    unfold glF at h4
    cases q : PySem.W.nsIn K mainGlobals x with
    | none => rw [q] at h4; cases h4
    | some r =>
      rw [q] at h4
      cases r with
      | none => cases h4
      | some u =>
        obtain ⟨v, r1, r2⟩ := conG_ok (G := txOf P w K mg base M T ds) (u := u) h4 fun l p hl hp => by
          subst hl hp
          exact kd g l x p hg hx q
        exact ⟨v, u, PySem.W.mg_of X GN q, r1, r2⟩
  · have h2 : (He.Fa.glo x).ok K = true := List.all_eq_true.mp e2 (some x) (List.mem_of_getElem? hx)
    show mg x = some (.ref (fAof K ds f))
    rw [adIs_eq (fnAd f x hx)]
    exact He.glo_ok X GN h2
  · have := fnAd f x hx
    unfold adIs at this
    show PySem.W.keepIn K (.ref (fAof K ds f)) = true
    unfold fAof
    cases q : ds[f]? with
    | none => rw [q] at this; cases this
    | some d => exact kp f d q
  · show mg x = some (.ref (He.ga K (M.cl.getD c "")))
    rw [clC c x hx]
    exact He.glo_ok X GN (List.all_eq_true.mp e3 x (List.mem_of_getElem? hx))
  · have hlt := (List.getElem?_eq_some_iff.mp hc).1
    have hM : M.cl[c]? = some (M.cl[c]'(by rw [hcl]; exact hlt)) := List.getElem?_eq_getElem _
    generalize M.cl[c]'(by rw [hcl]; exact hlt) = C at hM
    have hm := zipGetM hM hc
    have b : clB M K C ci = true := List.all_eq_true.mp e5 (C, ci) hm
    have sb : clS M ds C ci = true := List.all_eq_true.mp s2 (C, ci) hm
    unfold clB at b
    simp only [Bool.and_eq_true] at b
    obtain ⟨⟨⟨⟨⟨⟨b1, b2⟩, b3⟩, b4⟩, b5⟩, b6⟩, b7⟩ := b
    unfold clS at sb
    simp only [Bool.and_eq_true] at sb
    obtain ⟨⟨⟨⟨⟨⟨t1, t2⟩, t2'⟩, t3⟩, t4⟩, t5⟩, t6⟩ := sb
    have cA : He.ga K (M.cl.getD c "") = He.ga K C := by rw [clC c C hM]
    have fMeth : ∀ f m, adIs ds f (.meth C m) = true → fAof K ds f = He.ma K (He.ga K C) m := fun f m h => adIs_eq h
    refine
      { cls := ?_, make := ?_, na := ?_, nd := of_decide_eq_true t2, few := of_decide_eq_true t2', me := ?_, eq := ?_, len := ?_, pr := ?_ }
    · show Cls K (He.ga K (M.cl.getD c ""))
      rw [cA]
      exact He.cls_ok b1
    · show Mk K (He.ga K (M.cl.getD c "")) (fAof K ds ci.ini)
      rw [cA, fMeth _ _ t1]
      exact He.mkr_ok b2
    · intro a ha
      show NoAttr K (He.ga K (M.cl.getD c "")) (atN M a)
      rw [cA]
      exact He.noat_ok (List.all_eq_true.mp b3 a ha)
    · intro m f hf
      have hq := lookup_mem hf
      obtain ⟨t7, t8⟩ := bnd (List.all_eq_true.mp t3 (m, f) hq)
      refine ⟨?_, of_decide_eq_true t8⟩
      show Meth K (He.ga K (M.cl.getD c "")) (atN M m) (fAof K ds f)
      rw [cA, fMeth _ _ t7]
      exact He.meth_ok (List.all_eq_true.mp b4 (m, f) hq)
    · intro f hf
      rw [hf] at b6 t5
      have := He.meth_ok b6
      show PySem.W.findIn K (.ref (He.ga K (M.cl.getD c ""))) "__eq__" = some (some (.ref (fAof K ds f))) ∧ PySem.W.isFn K (.ref (fAof K ds f)) = true
      rw [cA, fMeth _ _ t5]
      exact ⟨this.at_, this.fn⟩
    · intro f hf
      rw [hf] at b7 t6
      have := He.meth_ok b7
      show PySem.W.findIn K (.ref (He.ga K (M.cl.getD c ""))) "__len__" = some (some (.ref (fAof K ds f))) ∧ PySem.W.isFn K (.ref (fAof K ds f)) = true
      rw [cA, fMeth _ _ t6]
      exact ⟨this.at_, this.fn⟩
    · intro a f hf _
      have hq := lookup_mem hf
      have t7 := List.all_eq_true.mp t4 (a, f) hq
      show ∃ p, PropOf K (He.ga K (M.cl.getD c "")) (atN M a) p (fAof K ds f)
      rw [cA, adIs_eq t7]
      exact propB_ok (List.all_eq_true.mp b5 (a, f) hq)
  · have get : ∀ c, c < T.cls.length → ∃ C, M.cl[c]? = some C ∧ M.cl.getD c "" = C := fun c hc => ⟨M.cl[c]'(by rw [hcl]; exact hc), List.getElem?_eq_getElem _, clC _ _ (List.getElem?_eq_getElem _)⟩
    refine ⟨fun c hc => ?_, fun c d hc hd => ?_, fun c t hc ht => ?_, fun c t hc ht => ?_⟩
    · obtain ⟨C, h1, h2⟩ := get c hc
      have := List.all_eq_true.mp i1 C (List.mem_of_getElem? h1)
      simp only [Bool.and_eq_true] at this
      obtain ⟨⟨⟨⟨j1, j2⟩, j3⟩, j4⟩, j5⟩ := this
      show Cls K (He.ga K (M.cl.getD c "")) ∧ PySem.W.findIn K (.ref (He.ga K (M.cl.getD c ""))) "__class__" = _ ∧ _ ∧ _ ∧ PySem.W.mroIn K (He.ga K (M.cl.getD c "")) (.type "object") = some true
      rw [h2]
      exact ⟨He.cls_ok j1, He.eqO_ok j2, He.eqO_ok i3, of_decide_eq_true i4, of_decide_eq_true j3⟩
    · have := List.all_eq_true.mp (List.all_eq_true.mp i2 c (List.mem_range.mpr (by rw [hcl]; exact hc))) d (List.mem_range.mpr (by rw [hcl]; exact hd))
      exact of_decide_eq_true this
    · obtain ⟨C, h1, h2⟩ := get c hc
      have := List.all_eq_true.mp i1 C (List.mem_of_getElem? h1)
      simp only [Bool.and_eq_true] at this
      obtain ⟨⟨⟨⟨j1, j2⟩, j3⟩, j4⟩, j5⟩ := this
      show PySem.W.kitOne K (.ref (He.ga K (M.cl.getD c ""))) (.type t) = some false
      rw [h2]
      have hk : t ∈ kitTs := by
        unfold kitTs
        simp only [List.mem_cons, List.not_mem_nil, or_false] at ht ⊢
        exact .inr ht
      have := List.all_eq_true.mp j4 t hk
      rw [Bool.or_eq_true] at this
      rcases this with h | h
      · exact of_decide_eq_true h
      · have e : t = "NoneType" := of_decide_eq_true h
        subst e
        exact absurd ht (by decide)
    · obtain ⟨C, h1, h2⟩ := get c hc
      have := List.all_eq_true.mp i1 C (List.mem_of_getElem? h1)
      simp only [Bool.and_eq_true] at this
      obtain ⟨⟨⟨⟨j1, j2⟩, j3⟩, j4⟩, j5⟩ := this
      show PySem.W.kitOne K (.type t) (.ref (He.ga K (M.cl.getD c ""))) = some false
      rw [h2]
      exact of_decide_eq_true (List.all_eq_true.mp j5 t ht)
end Z

end
section
set_option maxHeartbeats 4000000
set_option autoImplicit false
/-! Zend: a law's end. -/
namespace Z
open PySem PySem.Spec PyProof.Rows L2
/-- a def's text agrees with its ZAST -/
structure DOk (M : Nm) (d : DZ) (fi : FnI) : Prop where
  sc : FnScope d.N d.ps d.scope
  np : d.ps.length = fi.np
  ns : d.N.length = fi.ns
  ag : agSs M d.N d.scope fi.body d.body = true
  bd : ∀ (kV doc pm : Value) (an : Option Addr) (cdv ct : Value) (us : List Value), us.length = d.ps.length → bindArgs (PySem.W.fnOf d.x d.qual d.params d.body d.scope .none kV doc pm an cdv ct) ⟨us, []⟩ = pure (d.ps.zip us)
inductive AllOk (M : Nm) : List DZ → List FnI → Prop
  | nil : AllOk M [] []
  | cons {d : DZ} {fi : FnI} {ds : List DZ} {fs : List FnI} (h : DOk M d fi) (t : AllOk M ds fs) : AllOk M (d :: ds) (fi :: fs)
theorem AllOk.get {M : Nm} {ds : List DZ} {fs : List FnI} (h : AllOk M ds fs) : ∀ {f : Nat} {fi : FnI}, fs[f]? = some fi → ∃ d, ds[f]? = some d ∧ DOk M d fi := by
  induction h with
  | nil => intro f fi e; simp at e
  | cons h t ih =>
    intro f fi e
    cases f with
    | zero => cases e; exact ⟨_, rfl, h⟩
    | succ f => exact ih e
def kdS (M : Nm) (T : Tb) (ts : List TabZ) : Bool := (M.gl.zip T.globs).all fun q => match q.2 with
  | .kd _ => ts.any fun t => decide (t.1 = q.1)
  | _ => true
section
variable {M : Nm} {T : Tb} {ds : List DZ} {ts : List TabZ}
theorem txOk_of {P : Program} {w : World} {K : PySem.W.Frag} {mg : Str → Option Value} {h : Heap} (base : Heap) (X : K.In h) (GN : h.Ns mainGlobals mg) (c : SaysZ ds (exB P M T) ts w K) (s : stB M T ds = true) (s2 : kdS M T ts = true) (ok : AllOk M ds T.fns) (n : Nat) : TxOk (txOf P w K mg base M T ds) M n := by
  refine txOk (txSt_of X GN c.exOk s (fun f d hd => (c.fn hd).choose_spec.kp) fun g l x p hg hx hp => ?_) (fun f fi hf => ?_) n
  · have := List.all_eq_true.mp s2 (x, .kd l) (zipGetM hx hg)
    obtain ⟨t, ht, e⟩ := List.any_eq_true.mp this
    have e2 : t.1 = x := of_decide_eq_true e
    obtain ⟨es, n, k⟩ := c.tab ht
    have ep : He.ga K t.1 = p := by
      unfold He.ga
      rw [e2, hp]
    rw [ep] at k
    exact ⟨es, n, k⟩
  · obtain ⟨d, hd, o⟩ := ok.get hf
    obtain ⟨fd, F⟩ := c.fn hd
    have ef : (txOf P w K mg base M T ds).fA f = adZ K d.ad := by
      show fAof K ds f = _
      unfold fAof
      rw [hd]
    exact ⟨d.x, d.qual, d.params, d.body, d.scope, fd, d.N, d.ps, by rw [ef]; exact F, o.sc, o.np, o.ns, o.ag, F.bindsN o.bd⟩
/-- what the law's def gives -/
def lawR (T : Tb) (n iL : Nat) : Prop := ∀ ns : List Int, ns.length ≤ 63 → ∃ μ, callN T n iL [.flst (ns.map .int)] [] = .ok (.bl true) μ
theorem repInts' {G : Tx} {α : Al} {μ : Mu} {H : Hp} : ∀ ns : List Int, RepL G α μ H (ns.map V.int) (ns.map .int)
  | [] => .nil
  | n :: ns => .cons (.int n) (repInts' ns)
theorem law_at {l : PySem.W.OpenLaw} {w : World} {K : PySem.W.Frag} {mg : Str → Option Value} {fa : Addr} {h : Heap} (iL n : Nat) (d : DZ) (hd : ds[iL]? = some d) (hf : M.fn[iL]? = some (some ("law" : Str))) (hp : d.ps = [("_law_script" : Str)]) (fi : FnI) (hfi : T.fns[iL]? = some fi)
    (X : K.In h) (GN : h.Ns mainGlobals mg) (hmg : mg ("law" : Str) = some (.ref fa)) (c : SaysZ ds (exB l.prog M T) ts w K) (s : stB M T ds = true) (s2 : kdS M T ts = true) (ok : AllOk M ds T.fns) (L : lawR T (n + 1) iL) :
    LamX.LawAtS l w K (L2.CX l.prog w) (2 * (n + 1) + 2) 63 "_law_script" mg fa h := by
  obtain ⟨fd, F⟩ := c.fn hd
  obtain ⟨d', hd', o⟩ := ok.get hfi
  rw [hd] at hd'
  cases hd'
  have eA : adZ K d.ad = fa := by
    have hS := txSt_of (P := l.prog) (base := h) X GN c.exOk s (fun f d hd => (c.fn hd).choose_spec.kp) fun g l' x p hg hx hp => by
      have := List.all_eq_true.mp s2 (x, .kd l') (zipGetM hx hg)
      obtain ⟨t, ht, e⟩ := List.any_eq_true.mp this
      have e2 : t.1 = x := of_decide_eq_true e
      obtain ⟨es, n, k⟩ := c.tab ht
      have ep : He.ga K t.1 = p := by
        unfold He.ga
        rw [e2, hp]
      rw [ep] at k
      exact ⟨es, n, k⟩
    have := hS.fnm iL _ hf
    have e2 : mg ("law" : Str) = some (.ref (fAof K ds iL)) := this
    rw [hmg] at e2
    have e3 : fAof K ds iL = adZ K d.ad := by
      unfold fAof
      rw [hd]
    rw [e3] at e2
    cases e2
    rfl
  have bdA := F.bindsA (ps := d.ps) o.bd
  have hlen1 : fi.np = 1 := by rw [← o.np, hp]; rfl
  refine ⟨fd, [], fun vs H Q E => ∀ base : Heap, spZ (txOf l.prog w K mg base M T ds) (n + 1) iL vs H Q E, fun p hp => absurd hp (List.not_mem_nil), fun p hp => absurd hp (List.not_mem_nil), fun p hp => absurd hp (List.not_mem_nil), fun s v => ?_, fun H a ns hl h1 h2 hS base => ?_, fun base hb gb h1 => ?_⟩
  · have := bdA s [v] (by rw [hp]; rfl)
    rw [hp] at this
    exact this
  · obtain ⟨μ, hμ⟩ := L ns hl
    refine ⟨by show 1 = npOf _ _; unfold npOf; rw [hfi]; exact hlen1.symm, ⟨[], []⟩, [], [.flst (ns.map .int)], ⟨rfl, fun n p o h => by simp at h, fun n m p o q h => by simp at h, fun p hp => by cases hp⟩, .cons (.flst ?_ (repInts' ns)) .nil, ?_⟩
    · rcases hS with hS | hS
      · refine .inl ⟨hS, fun hl => ?_⟩
        rcases hl with ⟨n, o, h1, h2, h3⟩ | hl
        · simp at h1
        · cases hl
      · exact .inr hS
    · rw [hμ]
      intro α' H' v ex st r
      have r' : Rep (txOf l.prog w K mg base M T ds) α' μ H' v (.bl true) := r
      cases r'
      rfl
  · have t := txOk_of (P := l.prog) (w := w) (K := K) (mg := mg) base hb gb c s s2 ok n
    have ef : (txOf l.prog w K mg base M T ds).fA iL = fa := by
      show fAof K ds iL = fa
      unfold fAof
      rw [hd]
      exact eA
    have F' : FunD K d.x d.qual d.params d.body d.scope [] [] ((txOf l.prog w K mg base M T ds).fA iL) fd := by rw [ef, ← eA]; exact F
    have r := fn_succ_ok t hfi F' o.sc o.np o.ns o.ag
    rw [ef, hp] at r
    exact r.imp fun vs H Q E q => q base
end
end Z

end
section
set_option maxHeartbeats 4000000
namespace P01
open PySem Z
/-! 0 is_word: thing words -/
def N0 : List Str := ["thing", "words"]
def b0 : ZSs := (.cons (.ret (.and (.isi (.var 0) [.str]) (.cmp .isin (.var 0) (.var 1)))) .nil)
def f0 : FnI := ⟨b0, 2, 2⟩
/-! 1 Rule.__init__: self copying changing moving throwing counting clearing given part word -/
def N1 : List Str := ["self", "copying", "changing", "moving", "throwing", "counting", "clearing", "given", "part", "word"]
def b1 : ZSs := (.cons (.asg (.nm 7) (.tup (.cons (.var 1) (.cons (.var 2) (.cons (.var 3) (.cons (.var 4) (.cons (.var 5) (.cons (.var 6) .nil)))))))) (.cons (.for_ (.tp [(.nm 8), (.nm 9)]) .zip (.cons (.glob 0) (.cons (.var 7) .nil)) (.cons (.ite (.not (.call 0 (.cons (.var 9) (.cons (.sub (.glob 0) (.var 8)) .nil)))) (.cons (.rz 1 (.var 8)) .nil) .nil) .nil)) (.cons (.asg (.attr (.var 0) 0) (.dzip (.glob 0) (.var 7))) .nil)))
def f1 : FnI := ⟨b1, 7, 10⟩
/-! 2 Rule.copying: self -/
def N2 : List Str := ["self"]
def b2 : ZSs := (.cons (.ret (.sub (.attr (.var 0) 0) (.str [99, 111, 112, 121, 105, 110, 103]))) .nil)
def f2 : FnI := ⟨b2, 1, 1⟩
/-! 3 Rule.changing: self -/
def N3 : List Str := ["self"]
def b3 : ZSs := (.cons (.ret (.sub (.attr (.var 0) 0) (.str [99, 104, 97, 110, 103, 105, 110, 103]))) .nil)
def f3 : FnI := ⟨b3, 1, 1⟩
/-! 4 Rule.moving: self -/
def N4 : List Str := ["self"]
def b4 : ZSs := (.cons (.ret (.sub (.attr (.var 0) 0) (.str [109, 111, 118, 105, 110, 103]))) .nil)
def f4 : FnI := ⟨b4, 1, 1⟩
/-! 5 Rule.throwing: self -/
def N5 : List Str := ["self"]
def b5 : ZSs := (.cons (.ret (.sub (.attr (.var 0) 0) (.str [116, 104, 114, 111, 119, 105, 110, 103]))) .nil)
def f5 : FnI := ⟨b5, 1, 1⟩
/-! 6 Rule.counting: self -/
def N6 : List Str := ["self"]
def b6 : ZSs := (.cons (.ret (.sub (.attr (.var 0) 0) (.str [99, 111, 117, 110, 116, 105, 110, 103]))) .nil)
def f6 : FnI := ⟨b6, 1, 1⟩
/-! 7 Rule.clearing: self -/
def N7 : List Str := ["self"]
def b7 : ZSs := (.cons (.ret (.sub (.attr (.var 0) 0) (.str [99, 108, 101, 97, 114, 105, 110, 103]))) .nil)
def f7 : FnI := ⟨b7, 1, 1⟩
/-! 8 Rule.changed: self part word new -/
def N8 : List Str := ["self", "part", "word", "new"]
def b8 : ZSs := (.cons (.ite (.or (.not (.isi (.var 1) [.str])) (.cmp .notin (.var 1) (.glob 0))) (.cons (.rz 2 (.var 1)) .nil) .nil) (.cons (.asg (.nm 3) (.dstar (.attr (.var 0) 0) (.var 1) (.var 2))) (.cons (.ret (.make 0 (.cons (.sub (.var 3) (.str [99, 111, 112, 121, 105, 110, 103])) (.cons (.sub (.var 3) (.str [99, 104, 97, 110, 103, 105, 110, 103])) (.cons (.sub (.var 3) (.str [109, 111, 118, 105, 110, 103])) (.cons (.sub (.var 3) (.str [116, 104, 114, 111, 119, 105, 110, 103])) (.cons (.sub (.var 3) (.str [99, 111, 117, 110, 116, 105, 110, 103])) (.cons (.sub (.var 3) (.str [99, 108, 101, 97, 114, 105, 110, 103])) .nil)))))))) .nil)))
def f8 : FnI := ⟨b8, 3, 4⟩
/-! 9 Rule.__eq__: self other -/
def N9 : List Str := ["self", "other"]
def b9 : ZSs := (.cons (.ret (.and (.isi (.var 1) [.cls 0]) (.cmp .eq (.attr (.var 0) 0) (.attr (.var 1) 0)))) .nil)
def f9 : FnI := ⟨b9, 2, 2⟩
/-! 10 _law_mix: _law_script _law_seed _law_state _law_cell -/
def N10 : List Str := ["_law_script", "_law_seed", "_law_state", "_law_cell"]
def b10 : ZSs := (.cons (.asg (.nm 2) (.var 1)) (.cons (.for_ (.nm 3) .seq (.cons (.var 0) .nil) (.cons (.asg (.nm 2) (.bin .mod true (.b1 .int false (.bin .add true (.bin .add true (.bin .mul true (.var 2) (.int 48271)) (.bin .mod true (.b1 .int false (.var 3)) (.int 2147483629))) (.int 1))) (.int 2147483647))) .nil)) (.cons (.ret (.lst true (.cons (.var 2) (.cons (.b1 .list true (.var 0)) (.cons (.int 0) .nil))))) .nil)))
def f10 : FnI := ⟨b10, 2, 4⟩
/-! 11 _law_next: _law_h _law_cap _law_cell -/
def N11 : List Str := ["_law_h", "_law_cap", "_law_cell"]
def b11 : ZSs := (.cons (.asg (.nm 2) (.sub (.bin .add false (.sub (.var 0) (.int 1)) (.lst false (.cons (.int 0) .nil))) (.bin .mod false (.b1 .int false (.sub (.var 0) (.int 2))) (.max2 (.int 1) (.b1 .len false (.sub (.var 0) (.int 1))))))) (.cons (.ite (.cmp .ge (.var 2) (.bin .pow false (.int 10) (.int 18))) (.cons (.asg (.sub (.sub (.var 0) (.int 1)) (.bin .mod false (.b1 .int false (.sub (.var 0) (.int 2))) (.b1 .len false (.sub (.var 0) (.int 1))))) (.bin .fdiv false (.var 2) (.var 1))) (.cons (.ret (.bin .mod false (.b1 .int false (.var 2)) (.var 1))) .nil)) .nil) (.cons (.asg (.sub (.var 0) (.int 0)) (.bin .mod false (.b1 .int false (.bin .add false (.bin .add false (.bin .mul false (.sub (.var 0) (.int 0)) (.int 48271)) (.bin .mul false (.var 2) (.int 69621))) (.int 11))) (.int 2147483647))) (.cons (.asg (.sub (.var 0) (.int 2)) (.bin .add false (.sub (.var 0) (.int 2)) (.int 1))) (.cons (.ret (.bin .mod false (.b1 .int false (.bin .fdiv false (.sub (.var 0) (.int 0)) (.int 7))) (.var 1))) .nil)))))
def f11 : FnI := ⟨b11, 2, 3⟩
/-! 12 _law_alike: _law_found _law_due _law_k -/
def N12 : List Str := ["_law_found", "_law_due", "_law_k"]
def b12 : ZSs := (.cons (.ite (.isi (.var 1) [.dic]) (.cons (.ret (.and (.isi (.var 0) [.dic]) (.and (.call 12 (.cons (.b1 .list false (.var 0)) (.cons (.b1 .list false (.var 1)) .nil))) (.cmp .eq (.var 0) (.var 1))))) .nil) .nil) (.cons (.ite (.isi (.var 1) [.tup, .lst]) (.cons (.ite (.or (.not (.isi (.var 0) [.tup, .lst])) (.cmp .ne (.isi (.var 0) [.lst]) (.isi (.var 1) [.lst]))) (.cons (.ret (.bl false)) .nil) .nil) (.cons (.ite (.cmp .ne (.b1 .len false (.var 0)) (.b1 .len false (.var 1))) (.cons (.ret (.bl false)) .nil) .nil) (.cons (.ret (.cmp .eq (.lc false [2] (.nm 2) .rng (.cons (.b1 .len false (.var 1)) .nil) (.cons (.not (.call 12 (.cons (.sub (.var 0) (.var 2)) (.cons (.sub (.var 1) (.var 2)) .nil)))) .nil) (.var 2)) (.lst false .nil))) .nil))) .nil) (.cons (.ite (.or (.isN (.var 1)) (.isi (.var 1) [.str])) (.cons (.ret (.and (.cmp .eq (.var 0) (.var 1)) (.cmp .eq (.isi (.var 0) [.str]) (.isi (.var 1) [.str])))) .nil) .nil) (.cons (.ret (.and (.isi (.var 0) [.int]) (.and (.cmp .eq (.isi (.var 0) [.bl]) (.isi (.var 1) [.bl])) (.cmp .eq (.var 0) (.var 1))))) .nil))))
def f12 : FnI := ⟨b12, 2, 3⟩
/-! 13 _law_pick: _law_h _law_things -/
def N13 : List Str := ["_law_h", "_law_things"]
def b13 : ZSs := (.cons (.ret (.sub (.var 1) (.call 11 (.cons (.var 0) (.cons (.b1 .len false (.var 1)) .nil))))) .nil)
def f13 : FnI := ⟨b13, 2, 2⟩
/-! 14 _law_parts: _law_found -/
def N14 : List Str := ["_law_found"]
def b14 : ZSs := (.cons (.asg (.nm 0) (.lst false (.cons (.tup (.cons (.str [99, 111, 112, 121, 105, 110, 103]) (.cons (.lst false (.cons (.str [115, 104, 97, 114, 101]) (.cons (.str [110, 111, 119]) (.cons (.str [108, 101, 97, 118, 101]) .nil)))) .nil))) (.cons (.tup (.cons (.str [99, 104, 97, 110, 103, 105, 110, 103]) (.cons (.lst false (.cons (.str [105, 110]) (.cons (.str [97, 112, 97, 114, 116]) .nil))) .nil))) (.cons (.tup (.cons (.str [109, 111, 118, 105, 110, 103]) (.cons (.lst false (.cons (.str [107, 101, 101, 112]) (.cons (.str [110, 111, 119]) .nil))) .nil))) .nil))))) (.cons (.asg (.nm 0) (.bin .add false (.var 0) (.lst false (.cons (.tup (.cons (.str [116, 104, 114, 111, 119, 105, 110, 103]) (.cons (.lst false (.cons (.str [104, 111, 108, 100]) (.cons (.str [108, 101, 116]) .nil))) .nil))) (.cons (.tup (.cons (.str [99, 111, 117, 110, 116, 105, 110, 103]) (.cons (.lst false (.cons (.str [104, 101, 114, 101]) (.cons (.str [97, 108, 108]) .nil))) .nil))) .nil))))) (.cons (.ret (.bin .add false (.var 0) (.lst false (.cons (.tup (.cons (.str [99, 108, 101, 97, 114, 105, 110, 103]) (.cons (.lst false (.cons (.str [110, 111, 119]) (.cons (.str [97, 115, 107, 101, 100]) (.cons (.str [110, 101, 118, 101, 114]) .nil)))) .nil))) .nil)))) .nil)))
def f14 : FnI := ⟨b14, 0, 1⟩
/-! 15 _law_words: _law_h _law_part _law_words_here -/
def N15 : List Str := ["_law_h", "_law_part", "_law_words_here"]
def b15 : ZSs := (.cons (.ret (.lc true [1, 2] (.tp [(.nm 1), (.nm 2)]) .seq (.cons (.call 14 .nil) .nil) .nil (.call 13 (.cons (.var 0) (.cons (.var 2) .nil))))) .nil)
def f15 : FnI := ⟨b15, 1, 3⟩
/-! 16 _law_built: _law_words_here -/
def N16 : List Str := ["_law_words_here"]
def b16 : ZSs := (.cons (.ret (.make 0 (.cons (.sub (.var 0) (.int 0)) (.cons (.sub (.var 0) (.int 1)) (.cons (.sub (.var 0) (.int 2)) (.cons (.sub (.var 0) (.int 3)) (.cons (.sub (.var 0) (.int 4)) (.cons (.sub (.var 0) (.int 5)) .nil)))))))) .nil)
def f16 : FnI := ⟨b16, 1, 1⟩
/-! 17 _law_fault: _law_words_here _law_word _law_part _law_allowed -/
def N17 : List Str := ["_law_words_here", "_law_word", "_law_part", "_law_allowed"]
def b17 : ZSs := (.cons (.for_ (.tp [(.tp [(.nm 2), (.nm 3)]), (.nm 1)]) .zip (.cons (.call 14 .nil) (.cons (.var 0) .nil)) (.cons (.ite (.cmp .notin (.var 1) (.var 3)) (.cons (.ret (.var 2)) .nil) .nil) .nil)) (.cons (.ret .non) .nil))
def f17 : FnI := ⟨b17, 1, 4⟩
/-! 18 _law_tried: _law_rule _law_words_here _law_part _law_word _law_found error -/
def N18 : List Str := ["_law_rule", "_law_words_here", "_law_part", "_law_word", "_law_found", "error"]
def b18 : ZSs := (.cons (.asg (.nm 4) .non) (.cons (.try_ 3 (.cons (.asg (.nm 4) (.ite (.isN (.var 0)) (.call 16 (.cons (.var 1) .nil)) (.meth (.var 0) 1 (.cons (.var 2) (.cons (.var 3) .nil))))) .nil) [.as_ 1 5 4 (.tup [114, 117, 108, 101]), .as_ 2 5 4 (.tup [112, 97, 114, 116])]) (.cons (.ret (.var 4)) .nil)))
def f18 : FnI := ⟨b18, 4, 6⟩
/-! 19 _law_told: _law_rule -/
def N19 : List Str := ["_law_rule"]
def b19 : ZSs := (.cons (.ret (.lst false (.cons (.attr (.var 0) 2) (.cons (.attr (.var 0) 3) (.cons (.attr (.var 0) 4) (.cons (.attr (.var 0) 5) (.cons (.attr (.var 0) 6) (.cons (.attr (.var 0) 7) .nil)))))))) .nil)
def f19 : FnI := ⟨b19, 1, 1⟩
/-! 20 law: _law_script _law_h _law_odd _law_turn _law_words_here _law_change _law_found _law_fault_here _law_at _law_part _law_word _law_later -/
def N20 : List Str := ["_law_script", "_law_h", "_law_odd", "_law_turn", "_law_words_here", "_law_change", "_law_found", "_law_fault_here", "_law_at", "_law_part", "_law_word", "_law_later"]
def b20 : ZSs := (.cons (.asg (.nm 1) (.call 10 (.cons (.var 0) (.cons (.int 1) .nil)))) (.cons (.asg (.nm 2) (.lst false (.cons (.str [115, 104, 97, 114, 101]) (.cons (.str [110, 111, 119]) (.cons (.str [104, 101, 114, 101]) (.cons (.str [97, 112, 97, 114, 116]) (.cons (.str []) (.cons (.str [65, 108, 108]) (.cons .non (.cons (.int 5) (.cons (.lst false (.cons (.str [110, 111, 119]) .nil)) (.cons (.tup (.cons (.str [110, 111, 119]) .nil)) .nil)))))))))))) (.cons (.asg (.nm 2) (.bin .add false (.var 2) (.lst false (.cons (.str [108, 101, 116]) (.cons (.str [107, 101, 101, 112]) (.cons (.bl true) .nil)))))) (.cons (.for_ (.nm 3) .rng (.cons (.int 6) .nil) (.cons (.asg (.nm 4) (.call 15 (.cons (.var 1) .nil))) (.cons (.for_ (.nm 5) .rng (.cons (.call 11 (.cons (.var 1) (.cons (.int 3) .nil))) .nil) (.cons (.asg (.sub (.var 4) (.call 11 (.cons (.var 1) (.cons (.int 6) .nil)))) (.call 13 (.cons (.var 1) (.cons (.var 2) .nil)))) .nil)) (.cons (.frz 4) (.cons (.asg2 [(.nm 6), (.nm 7)] (.tup (.cons (.call 18 (.cons .non (.cons (.var 4) (.cons .non (.cons .non .nil))))) (.cons (.call 17 (.cons (.var 4) .nil)) .nil)))) (.cons (.ite (.notN (.var 7)) (.cons (.ite (.cmp .ne (.var 6) (.tup (.cons (.str [114, 117, 108, 101]) (.cons (.var 7) .nil)))) (.cons (.ret (.bl false)) .nil) .nil) .nil) (.cons (.ite (.or (.cmp .ne (.call 19 (.cons (.var 6) .nil)) (.var 4)) (.or (.not (.cmp .eq (.var 6) (.call 16 (.cons (.var 4) .nil)))) (.cmp .eq (.var 6) (.var 4)))) (.cons (.ret (.bl false)) .nil) .nil) (.cons (.asg (.nm 8) (.call 11 (.cons (.var 1) (.cons (.int 8) .nil)))) (.cons (.asg (.nm 9) (.ite (.cmp .lt (.var 8) (.int 6)) (.sub (.sub (.call 14 .nil) (.var 8)) (.int 0)) (.call 13 (.cons (.var 1) (.cons (.lst false (.cons (.str [67, 111, 112, 121, 105, 110, 103]) (.cons .non (.cons (.int 5) (.cons (.str []) (.cons (.lst false (.cons (.str [109, 111, 118, 105, 110, 103]) .nil)) (.cons (.str [110, 97, 109, 101, 115]) .nil))))))) .nil))))) (.cons (.asg (.nm 10) (.call 13 (.cons (.var 1) (.cons (.bin .add false (.sub (.sub (.call 14 .nil) (.bin .mod false (.var 8) (.int 6))) (.int 1)) (.slice false (.var 2) .nil (.cons (.int 5) .nil))) .nil)))) (.cons (.asg (.nm 11) (.call 18 (.cons (.var 6) (.cons .non (.cons (.var 9) (.cons (.var 10) .nil)))))) (.cons (.ite (.cmp .gt (.var 8) (.int 5)) (.cons (.ite (.not (.call 12 (.cons (.var 11) (.cons (.tup (.cons (.str [112, 97, 114, 116]) (.cons (.var 9) .nil))) .nil)))) (.cons (.ret (.bl false)) .nil) .nil) .nil) (.cons (.ite (.cmp .notin (.var 10) (.sub (.sub (.call 14 .nil) (.var 8)) (.int 1))) (.cons (.ite (.cmp .ne (.var 11) (.tup (.cons (.str [114, 117, 108, 101]) (.cons (.var 9) .nil)))) (.cons (.ret (.bl false)) .nil) .nil) .nil) (.cons (.ite (.or (.cmp .ne (.call 19 (.cons (.var 11) .nil)) (.bin .add false (.bin .add false (.slice false (.var 4) .nil (.cons (.var 8) .nil)) (.lst false (.cons (.var 10) .nil))) (.slice false (.var 4) (.cons (.bin .add false (.var 8) (.int 1)) .nil) .nil))) (.cmp .ne (.cmp .eq (.var 11) (.var 6)) (.cmp .eq (.var 10) (.sub (.var 4) (.var 8))))) (.cons (.ret (.bl false)) .nil) .nil) .nil)) .nil)) .nil))))))) .nil)))))) (.cons (.ret (.bl true)) .nil)))))
def f20 : FnI := ⟨b20, 1, 12⟩
def clss : List ClsI := [⟨[0], [(1, 8)], [(2, 2), (3, 3), (4, 4), (5, 5), (6, 6), (7, 7)], 1, true, some 9, none⟩]
def globs : List D := [(.kd [([99, 111, 112, 121, 105, 110, 103], (.tup [(.str [115, 104, 97, 114, 101]), (.str [110, 111, 119]), (.str [108, 101, 97, 118, 101])])), ([99, 104, 97, 110, 103, 105, 110, 103], (.tup [(.str [105, 110]), (.str [97, 112, 97, 114, 116])])), ([109, 111, 118, 105, 110, 103], (.tup [(.str [107, 101, 101, 112]), (.str [110, 111, 119])])), ([116, 104, 114, 111, 119, 105, 110, 103], (.tup [(.str [104, 111, 108, 100]), (.str [108, 101, 116])])), ([99, 111, 117, 110, 116, 105, 110, 103], (.tup [(.str [104, 101, 114, 101]), (.str [97, 108, 108])])), ([99, 108, 101, 97, 114, 105, 110, 103], (.tup [(.str [110, 111, 119]), (.str [97, 115, 107, 101, 100]), (.str [110, 101, 118, 101, 114])]))])]
def tb : Tb := ⟨clss, globs, 1000000, [f0, f1, f2, f3, f4, f5, f6, f7, f8, f9, f10, f11, f12, f13, f14, f15, f16, f17, f18, f19, f20]⟩
def nm : Nm := ⟨[some ("is_word" : Str), none, none, none, none, none, none, none, none, none, some ("_law_mix" : Str), some ("_law_next" : Str), some ("_law_alike" : Str), some ("_law_pick" : Str), some ("_law_parts" : Str), some ("_law_words" : Str), some ("_law_built" : Str), some ("_law_fault" : Str), some ("_law_tried" : Str), some ("_law_told" : Str), some ("law" : Str)], [("Rule" : Str)], [("PARTS" : Str)], [("words" : Str), ("changed" : Str), ("copying" : Str), ("changing" : Str), ("moving" : Str), ("throwing" : Str), ("counting" : Str), ("clearing" : Str)], [("FileError" : Str), ("InvalidRule" : Str), ("UnknownPart" : Str)], [("" : Str), ("part" : Str), ("part" : Str)]⟩
end P01

end
section
set_option maxHeartbeats 0
namespace H01
open PySem PySem.Spec PyProof.Rows L2 Z P01
def top (i : Nat) : Stmt := PySem.Challenge.pw_alongfiles_k01_rules_refused.main.body.getD i (.Pass ⟨0, 0, 0, 0⟩)
def inC (i j : Nat) : Stmt := match top i with
  | .ClassDef _ _ _ body .. => body.getD j (.Pass ⟨0, 0, 0, 0⟩)
  | _ => .Pass ⟨0, 0, 0, 0⟩
abbrev s0 : Stmt := top 6
def d0 : DZ := ⟨.glo "is_word", "is_word", "is_word", defArgs s0, defBody s0, defScope s0, N0, ["thing", "words"]⟩
theorem ok0 : DOk nm d0 f0 := ⟨⟨rfl, rfl, rfl, by decide +kernel, rfl, by decide +kernel, by decide +kernel⟩, rfl, rfl, by decide +kernel, fun _ _ _ _ _ _ us hl => match us, hl with | [_, _], _ => rfl⟩
abbrev s1 : Stmt := inC 7 0
def d1 : DZ := ⟨.meth "Rule" "__init__", "__init__", "Rule.__init__", defArgs s1, defBody s1, defScope s1, N1, ["self", "copying", "changing", "moving", "throwing", "counting", "clearing"]⟩
theorem ok1 : DOk nm d1 f1 := ⟨⟨rfl, rfl, rfl, by decide +kernel, rfl, by decide +kernel, by decide +kernel⟩, rfl, rfl, by decide +kernel, fun _ _ _ _ _ _ us hl => match us, hl with | [_, _, _, _, _, _, _], _ => rfl⟩
abbrev s2 : Stmt := inC 7 1
def d2 : DZ := ⟨.prop "Rule" "copying", "copying", "Rule.copying", defArgs s2, defBody s2, defScope s2, N2, ["self"]⟩
theorem ok2 : DOk nm d2 f2 := ⟨⟨rfl, rfl, rfl, by decide +kernel, rfl, by decide +kernel, by decide +kernel⟩, rfl, rfl, by decide +kernel, fun _ _ _ _ _ _ us hl => match us, hl with | [_], _ => rfl⟩
abbrev s3 : Stmt := inC 7 2
def d3 : DZ := ⟨.prop "Rule" "changing", "changing", "Rule.changing", defArgs s3, defBody s3, defScope s3, N3, ["self"]⟩
theorem ok3 : DOk nm d3 f3 := ⟨⟨rfl, rfl, rfl, by decide +kernel, rfl, by decide +kernel, by decide +kernel⟩, rfl, rfl, by decide +kernel, fun _ _ _ _ _ _ us hl => match us, hl with | [_], _ => rfl⟩
abbrev s4 : Stmt := inC 7 3
def d4 : DZ := ⟨.prop "Rule" "moving", "moving", "Rule.moving", defArgs s4, defBody s4, defScope s4, N4, ["self"]⟩
theorem ok4 : DOk nm d4 f4 := ⟨⟨rfl, rfl, rfl, by decide +kernel, rfl, by decide +kernel, by decide +kernel⟩, rfl, rfl, by decide +kernel, fun _ _ _ _ _ _ us hl => match us, hl with | [_], _ => rfl⟩
abbrev s5 : Stmt := inC 7 4
def d5 : DZ := ⟨.prop "Rule" "throwing", "throwing", "Rule.throwing", defArgs s5, defBody s5, defScope s5, N5, ["self"]⟩
theorem ok5 : DOk nm d5 f5 := ⟨⟨rfl, rfl, rfl, by decide +kernel, rfl, by decide +kernel, by decide +kernel⟩, rfl, rfl, by decide +kernel, fun _ _ _ _ _ _ us hl => match us, hl with | [_], _ => rfl⟩
abbrev s6 : Stmt := inC 7 5
def d6 : DZ := ⟨.prop "Rule" "counting", "counting", "Rule.counting", defArgs s6, defBody s6, defScope s6, N6, ["self"]⟩
theorem ok6 : DOk nm d6 f6 := ⟨⟨rfl, rfl, rfl, by decide +kernel, rfl, by decide +kernel, by decide +kernel⟩, rfl, rfl, by decide +kernel, fun _ _ _ _ _ _ us hl => match us, hl with | [_], _ => rfl⟩
abbrev s7 : Stmt := inC 7 6
def d7 : DZ := ⟨.prop "Rule" "clearing", "clearing", "Rule.clearing", defArgs s7, defBody s7, defScope s7, N7, ["self"]⟩
theorem ok7 : DOk nm d7 f7 := ⟨⟨rfl, rfl, rfl, by decide +kernel, rfl, by decide +kernel, by decide +kernel⟩, rfl, rfl, by decide +kernel, fun _ _ _ _ _ _ us hl => match us, hl with | [_], _ => rfl⟩
abbrev s8 : Stmt := inC 7 7
def d8 : DZ := ⟨.meth "Rule" "changed", "changed", "Rule.changed", defArgs s8, defBody s8, defScope s8, N8, ["self", "part", "word"]⟩
theorem ok8 : DOk nm d8 f8 := ⟨⟨rfl, rfl, rfl, by decide +kernel, rfl, by decide +kernel, by decide +kernel⟩, rfl, rfl, by decide +kernel, fun _ _ _ _ _ _ us hl => match us, hl with | [_, _, _], _ => rfl⟩
abbrev s9 : Stmt := inC 7 8
def d9 : DZ := ⟨.meth "Rule" "__eq__", "__eq__", "Rule.__eq__", defArgs s9, defBody s9, defScope s9, N9, ["self", "other"]⟩
theorem ok9 : DOk nm d9 f9 := ⟨⟨rfl, rfl, rfl, by decide +kernel, rfl, by decide +kernel, by decide +kernel⟩, rfl, rfl, by decide +kernel, fun _ _ _ _ _ _ us hl => match us, hl with | [_, _], _ => rfl⟩
abbrev s10 : Stmt := top 9
def d10 : DZ := ⟨.glo "_law_mix", "_law_mix", "_law_mix", defArgs s10, defBody s10, defScope s10, N10, ["_law_script", "_law_seed"]⟩
theorem ok10 : DOk nm d10 f10 := ⟨⟨rfl, rfl, rfl, by decide +kernel, rfl, by decide +kernel, by decide +kernel⟩, rfl, rfl, by decide +kernel, fun _ _ _ _ _ _ us hl => match us, hl with | [_, _], _ => rfl⟩
abbrev s11 : Stmt := top 10
def d11 : DZ := ⟨.glo "_law_next", "_law_next", "_law_next", defArgs s11, defBody s11, defScope s11, N11, ["_law_h", "_law_cap"]⟩
theorem ok11 : DOk nm d11 f11 := ⟨⟨rfl, rfl, rfl, by decide +kernel, rfl, by decide +kernel, by decide +kernel⟩, rfl, rfl, by decide +kernel, fun _ _ _ _ _ _ us hl => match us, hl with | [_, _], _ => rfl⟩
abbrev s12 : Stmt := top 11
def d12 : DZ := ⟨.glo "_law_alike", "_law_alike", "_law_alike", defArgs s12, defBody s12, defScope s12, N12, ["_law_found", "_law_due"]⟩
theorem ok12 : DOk nm d12 f12 := ⟨⟨rfl, rfl, rfl, by decide +kernel, rfl, by decide +kernel, by decide +kernel⟩, rfl, rfl, by decide +kernel, fun _ _ _ _ _ _ us hl => match us, hl with | [_, _], _ => rfl⟩
abbrev s13 : Stmt := top 12
def d13 : DZ := ⟨.glo "_law_pick", "_law_pick", "_law_pick", defArgs s13, defBody s13, defScope s13, N13, ["_law_h", "_law_things"]⟩
theorem ok13 : DOk nm d13 f13 := ⟨⟨rfl, rfl, rfl, by decide +kernel, rfl, by decide +kernel, by decide +kernel⟩, rfl, rfl, by decide +kernel, fun _ _ _ _ _ _ us hl => match us, hl with | [_, _], _ => rfl⟩
abbrev s14 : Stmt := top 13
def d14 : DZ := ⟨.glo "_law_parts", "_law_parts", "_law_parts", defArgs s14, defBody s14, defScope s14, N14, []⟩
theorem ok14 : DOk nm d14 f14 := ⟨⟨rfl, rfl, rfl, by decide +kernel, rfl, by decide +kernel, by decide +kernel⟩, rfl, rfl, by decide +kernel, fun _ _ _ _ _ _ us hl => match us, hl with | [], _ => rfl⟩
abbrev s15 : Stmt := top 14
def d15 : DZ := ⟨.glo "_law_words", "_law_words", "_law_words", defArgs s15, defBody s15, defScope s15, N15, ["_law_h"]⟩
theorem ok15 : DOk nm d15 f15 := ⟨⟨rfl, rfl, rfl, by decide +kernel, rfl, by decide +kernel, by decide +kernel⟩, rfl, rfl, by decide +kernel, fun _ _ _ _ _ _ us hl => match us, hl with | [_], _ => rfl⟩
abbrev s16 : Stmt := top 15
def d16 : DZ := ⟨.glo "_law_built", "_law_built", "_law_built", defArgs s16, defBody s16, defScope s16, N16, ["_law_words_here"]⟩
theorem ok16 : DOk nm d16 f16 := ⟨⟨rfl, rfl, rfl, by decide +kernel, rfl, by decide +kernel, by decide +kernel⟩, rfl, rfl, by decide +kernel, fun _ _ _ _ _ _ us hl => match us, hl with | [_], _ => rfl⟩
abbrev s17 : Stmt := top 16
def d17 : DZ := ⟨.glo "_law_fault", "_law_fault", "_law_fault", defArgs s17, defBody s17, defScope s17, N17, ["_law_words_here"]⟩
theorem ok17 : DOk nm d17 f17 := ⟨⟨rfl, rfl, rfl, by decide +kernel, rfl, by decide +kernel, by decide +kernel⟩, rfl, rfl, by decide +kernel, fun _ _ _ _ _ _ us hl => match us, hl with | [_], _ => rfl⟩
abbrev s18 : Stmt := top 17
def d18 : DZ := ⟨.glo "_law_tried", "_law_tried", "_law_tried", defArgs s18, defBody s18, defScope s18, N18, ["_law_rule", "_law_words_here", "_law_part", "_law_word"]⟩
theorem ok18 : DOk nm d18 f18 := ⟨⟨rfl, rfl, rfl, by decide +kernel, rfl, by decide +kernel, by decide +kernel⟩, rfl, rfl, by decide +kernel, fun _ _ _ _ _ _ us hl => match us, hl with | [_, _, _, _], _ => rfl⟩
abbrev s19 : Stmt := top 18
def d19 : DZ := ⟨.glo "_law_told", "_law_told", "_law_told", defArgs s19, defBody s19, defScope s19, N19, ["_law_rule"]⟩
theorem ok19 : DOk nm d19 f19 := ⟨⟨rfl, rfl, rfl, by decide +kernel, rfl, by decide +kernel, by decide +kernel⟩, rfl, rfl, by decide +kernel, fun _ _ _ _ _ _ us hl => match us, hl with | [_], _ => rfl⟩
abbrev s20 : Stmt := top 19
def d20 : DZ := ⟨.glo "law", "law", "law", defArgs s20, defBody s20, defScope s20, N20, ["_law_script"]⟩
theorem ok20 : DOk nm d20 f20 := ⟨⟨rfl, rfl, rfl, by decide +kernel, rfl, by decide +kernel, by decide +kernel⟩, rfl, rfl, by decide +kernel, fun _ _ _ _ _ _ us hl => match us, hl with | [_], _ => rfl⟩
def ds : List DZ := [d0, d1, d2, d3, d4, d5, d6, d7, d8, d9, d10, d11, d12, d13, d14, d15, d16, d17, d18, d19, d20]
theorem allOk : AllOk nm ds tb.fns := (.cons ok0 (.cons ok1 (.cons ok2 (.cons ok3 (.cons ok4 (.cons ok5 (.cons ok6 (.cons ok7 (.cons ok8 (.cons ok9 (.cons ok10 (.cons ok11 (.cons ok12 (.cons ok13 (.cons ok14 (.cons ok15 (.cons ok16 (.cons ok17 (.cons ok18 (.cons ok19 (.cons ok20 .nil)))))))))))))))))))))
def ts : List TabZ := [("PARTS", ["copying", "changing", "moving", "throwing", "counting", "clearing"])]
abbrev R : PySem.W.OpenRow := PySem.W.OpenLaw.row PySem.Challenge.rw_alongfiles_k01_rules_refused
abbrev hk : PySem.W.Hook := hookZ 5 ds (exB R.prog nm tb) ts
def ob (s : PySem.W.SharedT) : AlZ := obsZ 5 ds (exB R.prog nm tb) ts (HandSHeadRun.getT s)
theorem ob_eq (s : PySem.W.SharedT) : ob s = hk.obs s.abs := obsZ_eq (HandSHeadRun.getT_eq s)
def loose0 : List Str := ["__name__", "FileError", "InvalidRule", "UnknownPart", "PARTS", "is_word", "Rule", "_law_mix", "_law_next", "_law_alike", "_law_pick", "_law_parts", "_law_words", "_law_built", "_law_fault", "_law_tried", "_law_told"]
def loose : List Str := loose0
theorem run_false (w : World) : HandSHeadRun.RunEq R (PySem.W.view R.prog [19]) hk ob 12000 loose (w.withFollow "special-get-raises" false) := by
  intro os
  kernel_rfl
theorem run_true (w : World) : HandSHeadRun.RunEq R (PySem.W.view R.prog [19]) hk ob 12000 loose (w.withFollow "special-get-raises" true) := by
  intro os
  kernel_rfl
theorem run (w : World) : HandSHeadRun.RunEq R (PySem.W.view R.prog [19]) hk ob 12000 loose w :=
  PySem.W.byRow2 "special-get-raises" (P := fun w => HandSHeadRun.RunEq R (PySem.W.view R.prog [19]) hk ob 12000 loose w) run_false run_true w
theorem st1 : stB nm tb ds = true := by decide +kernel
theorem st2 : kdS nm tb ts = true := by decide +kernel
end H01
open PySem PySem.W PySem.Calls PyProof.Rows
theorem H01.holds (L : Z.lawR P01.tb (19 + 1) 20) : PySem.Challenge.rw_alongfiles_k01_rules_refused.Holds := by
  w_on; o_law
  refine HandSHeadRun.head_any (r := OpenLaw.row PySem.Challenge.rw_alongfiles_k01_rules_refused) (q := view (OpenLaw.row PySem.Challenge.rw_alongfiles_k01_rules_refused).prog [19]) (H := H01.hk) (ob := H01.ob) (M := 12000) (loose := H01.loose) (d := HandSHeadRun.topDef (OpenLaw.row PySem.Challenge.rw_alongfiles_k01_rules_refused).prog 19) (kwd := []) H01.ob_eq
    (by kernel_rfl) (fun s => by kernel_rfl) H01.run (by kernel_rfl) (by kernel_rfl) (by kernel_rfl) (by rfl) (by first | assumption | decide +kernel) (by decide +kernel) ⟨rfl, rfl, rfl, rfl, rfl, by decide +kernel⟩ ?hw ?hc
  case hw => w_witness2
  case hc =>
    refine LamX.walk_ofTsE (l := PySem.Challenge.rw_alongfiles_k01_rules_refused) (n := 63) (k := 2 * (19 + 1) + 2) (x := "_law_script") (CX := fun w => L2.CX PySem.Challenge.rw_alongfiles_k01_rules_refused.prog w) rfl (by decide) (by kernel_rfl) ⟨rfl, by decide, by decide⟩ ?F ?X
    case X =>
      intro w H s e s' h
      obtain ⟨a, B, H', cls, d, h1, h2, h3, h4, h5, h6, h7, h8⟩ := h
      exact h8
    intro w mg fa h Y G hmg0
    obtain ⟨K, KX, c⟩ := Y
    have hmg : mg ("law" : PySem.Str) = some (.ref fa) := by
      have e : (HandSHeadRun.topDef (OpenLaw.row PySem.Challenge.rw_alongfiles_k01_rules_refused).prog 19).name = ("law" : PySem.Str) := by kernel_rfl
      rw [← e]
      exact hmg0
    exact ⟨K, KX, Z.law_at (M := P01.nm) (T := P01.tb) (ds := H01.ds) (ts := H01.ts) 20 19 H01.d20 rfl rfl rfl P01.f20 rfl KX G hmg c H01.st1 H01.st2 H01.allOk L⟩

end
section
set_option maxHeartbeats 4000000
set_option autoImplicit false
/-! ZE0: the evaluator's equations, one a construct. -/
namespace ZQ
open L2 Z
section
variable {V : Ev} {ρ : Z.Env} {μ : Mu}
theorem ev_var {i : Nat} : evalE V (.var i) ρ μ = (match ρ[i]? with | some (some d) => .ok d μ | _ => .err) := rfl
theorem ev_var' {i : Nat} {d : D} (h : ρ[i]? = some (some d)) : evalE V (.var i) ρ μ = .ok d μ := by rw [ev_var, h]
theorem ev_int {i : Int} : evalE V (.int i) ρ μ = .ok (.int i) μ := rfl
theorem ev_str {i : List Nat} : evalE V (.str i) ρ μ = .ok (.str i) μ := rfl
theorem ev_bl {i : Bool} : evalE V (.bl i) ρ μ = .ok (.bl i) μ := rfl
theorem ev_non : evalE V .non ρ μ = .ok .non μ := rfl
theorem ev_bin {o : Bo} {m : Bool} {a b : ZE} : evalE V (.bin o m a b) ρ μ = (evalE V a ρ μ).bind fun x μ1 => (evalE V b ρ μ1).bind fun y μ2 => opB o m x y μ2 := rfl
theorem ev_cmp {o : Co} {a b : ZE} : evalE V (.cmp o a b) ρ μ = (evalE V a ρ μ).bind fun x μ1 => (evalE V b ρ μ1).bind fun y μ2 => opCI V o x y μ2 := rfl
theorem ev_sub {a b : ZE} : evalE V (.sub a b) ρ μ = (evalE V a ρ μ).bind fun x μ1 => (evalE V b ρ μ1).bind fun y μ2 => opI x y μ2 := rfl
theorem ev_b1 {k : B1} {m : Bool} {a : ZE} : evalE V (.b1 k m a) ρ μ = (evalE V a ρ μ).bind fun x μ1 => op1I V k m x μ1 := rfl
theorem ev_lst {m : Bool} {a : ZEs} : evalE V (.lst m a) ρ μ = (evalEs V a ρ μ).bind fun x μ1 => mkL m x μ1 := rfl
theorem ev_tup {a : ZEs} : evalE V (.tup a) ρ μ = (evalEs V a ρ μ).bind fun x μ1 => .ok (.tup x) μ1 := rfl
theorem ev_call {f : Nat} {a : ZEs} : evalE V (.call f a) ρ μ = (evalEs V a ρ μ).bind fun x μ1 => V.call f x μ1 := rfl
theorem ev_make {f : Nat} {a : ZEs} : evalE V (.make f a) ρ μ = (evalEs V a ρ μ).bind fun x μ1 => mkI V f x μ1 := rfl
theorem ev_attr {a : ZE} {n : Nat} : evalE V (.attr a n) ρ μ = (evalE V a ρ μ).bind fun x μ1 => getA V x n μ1 := rfl
theorem ev_nil : evalEs V .nil ρ μ = .ok [] μ := rfl
theorem ev_cons {e : ZE} {es : ZEs} : evalEs V (.cons e es) ρ μ = (evalE V e ρ μ).bind fun x μ1 => (evalEs V es ρ μ1).bind fun xs μ2 => .ok (x :: xs) μ2 := rfl
theorem ev_max2 {a b : ZE} : evalE V (.max2 a b) ρ μ = (evalE V a ρ μ).bind fun x μ1 => (evalE V b ρ μ1).bind fun y μ2 => match x, y with
    | .int i, .int j => .ok (.int (if j > i then j else i)) μ2
    | _, _ => .err := rfl
theorem ev_not {a : ZE} : evalE V (.not a) ρ μ = (evalE V a ρ μ).bind fun x μ1 => match x with
    | .bl b => .ok (.bl (!b)) μ1
    | _ => .err := rfl
theorem ev_neg {a : ZE} : evalE V (.neg a) ρ μ = (evalE V a ρ μ).bind fun x μ1 => match x with
    | .int b => .ok (.int (-b)) μ1
    | _ => .err := rfl
theorem ev_or {a b : ZE} : evalE V (.or a b) ρ μ = (evalE V a ρ μ).bind fun x μ1 => match x with
    | .bl true => .ok (.bl true) μ1
    | .bl false => (evalE V b ρ μ1).bind fun y μ2 => match y with
      | .bl c => .ok (.bl c) μ2
      | _ => .err
    | _ => .err := rfl
theorem ev_and {a b : ZE} : evalE V (.and a b) ρ μ = (evalE V a ρ μ).bind fun x μ1 => match x with
    | .bl true => (evalE V b ρ μ1).bind fun y μ2 => match y with
      | .bl c => .ok (.bl c) μ2
      | _ => .err
    | .bl false => .ok (.bl false) μ1
    | _ => .err := rfl
theorem ev_ite {c a b : ZE} : evalE V (.ite c a b) ρ μ = (evalE V c ρ μ).bind fun x μ1 => match x with
    | .bl true => evalE V a ρ μ1
    | .bl false => evalE V b ρ μ1
    | _ => .err := rfl
theorem ev_isN {a : ZE} : evalE V (.isN a) ρ μ = (evalE V a ρ μ).bind fun x μ1 => .ok (.bl (match x with | .non => true | _ => false)) μ1 := rfl
theorem ev_notN {a : ZE} : evalE V (.notN a) ρ μ = (evalE V a ρ μ).bind fun x μ1 => .ok (.bl (match x with | .non => false | _ => true)) μ1 := rfl
theorem ev_bm {k : BM} {o : ZE} {es : ZEs} : evalE V (.bm k o es) ρ μ = (evalE V o ρ μ).bind fun x μ1 => match bmTy k (look μ1 x) with
    | some t => (evalEs V es ρ μ1).bind fun ds μ2 => opBM k t x ds μ2
    | none => .err := rfl
theorem ev_slice {m : Bool} {a : ZE} {lo hi : ZEs} : evalE V (.slice m a lo hi) ρ μ = (evalE V a ρ μ).bind fun x μ1 => (evalEs V lo ρ μ1).bind fun ls μ2 => match partOf ls with
    | some l => (evalEs V hi ρ μ2).bind fun hs μ3 => (match partOf hs with
      | some h => opSl m x l h μ3
      | none => .err)
    | none => .err := rfl
theorem ev_isi {a : ZE} {ts : List Tag} : evalE V (.isi a ts) ρ μ = (evalE V a ρ μ).bind fun x μ1 => if isiOk V.cls.length (look μ1 x) = true then .ok (.bl (ts.any fun t => tagOk t (look μ1 x))) μ1 else .err := rfl
theorem ev_glob {g : Nat} : evalE V (.glob g) ρ μ = (match V.globs[g]? with | some d => .ok d μ | none => .err) := rfl
def lcFn (V : Ev) (own : List Nat) (t : ZT) (ifs : ZEs) (e : ZE) (ρ : Z.Env) : D → Mu → R (Option D) := fun d μ2 => match bindT t d (wipeE ρ own) with
        | some ρ1 => (evalEs V ifs ρ1 μ2).bind fun bs μ3 => (match bs with
          | [] => (evalE V e ρ1 μ3).bind fun y μ4 => .ok (some y) μ4
          | [.bl true] => (evalE V e ρ1 μ3).bind fun y μ4 => .ok (some y) μ4
          | [.bl false] => .ok none μ3
          | _ => .err)
        | none => .err
theorem lcFn_nil {own : List Nat} {t : ZT} {e : ZE} {d : D} {ρ1 : Z.Env} {y : D} {μ' : Mu} (h : bindT t d (wipeE ρ own) = some ρ1) (h2 : evalE V e ρ1 μ = .ok y μ') : lcFn V own t .nil e ρ d μ = .ok (some y) μ' := by
  unfold lcFn
  rw [h]
  show (evalE V e ρ1 μ).bind _ = _
  rw [h2] <;> rfl
theorem ev_lc {m : Bool} {own : List Nat} {t : ZT} {k : IK} {it ifs : ZEs} {e : ZE} : evalE V (.lc m own t k it ifs e) ρ μ = (evalEs V it ρ μ).bind fun xs μ1 => match itemsOf k xs μ1 with
    | some ds => (lcLoop (lcFn V own t ifs e ρ) ds [] μ1).pure1.bind fun l μ5 => mkL m l μ5
    | none => .err := rfl
theorem ev_lc1 {m : Bool} {own : List Nat} {t : ZT} {k : IK} {it ifs : ZEs} {e : ZE} {xs ds : List D} {μ1 : Mu} (h1 : evalEs V it ρ μ = .ok xs μ1) (h2 : itemsOf k xs μ1 = some ds) : evalE V (.lc m own t k it ifs e) ρ μ = (lcLoop (lcFn V own t ifs e ρ) ds [] μ1).pure1.bind fun l μ5 => mkL m l μ5 := by
  rw [ev_lc, h1]
  show (match itemsOf k xs μ1 with
    | some ds => (lcLoop (lcFn V own t ifs e ρ) ds [] μ1).pure1.bind fun l μ5 => mkL m l μ5
    | none => .err) = _
  rw [h2]
def forFn (V : Ev) (t : ZT) (b : ZSs) : D → Z.Env → Mu → R Fl := fun d ρ1 μ2 => match bindT t d ρ1 with
      | some ρ2 => evalSs V b ρ2 μ2
      | none => .err
theorem es_for1 {t : ZT} {k : IK} {it : ZEs} {b : ZSs} {xs ds : List D} {μ1 : Mu} (h1 : evalEs V it ρ μ = .ok xs μ1) (h2 : itemsOf k xs μ1 = some ds) : evalS V (.for_ t k it b) ρ μ = forLoop (forFn V t b) ds ρ μ1 := by
  show (evalEs V it ρ μ).bind _ = _
  rw [h1]
  show (match itemsOf k xs μ1 with
    | some ds => forLoop (forFn V t b) ds ρ μ1
    | none => .err) = _
  rw [h2]
theorem ess_nil : evalSs V .nil ρ μ = .ok (.nx ρ) μ := rfl
theorem es_cons {s : ZS} {r : ZSs} : evalSs V (.cons s r) ρ μ = (evalS V s ρ μ).bind fun f μ1 => match f with
    | .nx ρ1 => evalSs V r ρ1 μ1
    | .rt d => .ok (.rt d) μ1 := rfl
theorem es_asg {g : ZG} {e : ZE} : evalS V (.asg g e) ρ μ = (evalE V e ρ μ).bind fun d μ1 => (asgG V g d ρ μ1).bind fun ρ1 μ2 => .ok (.nx ρ1) μ2 := rfl
theorem es_asg2 {gs : List ZG} {e : ZE} : evalS V (.asg2 gs e) ρ μ = (evalE V e ρ μ).bind fun d μ1 => match d with
    | .tup ds => if ds.length = gs.length then (asgGs V gs ds ρ μ1).bind fun ρ1 μ2 => .ok (.nx ρ1) μ2 else .err
    | _ => .err := rfl
theorem es_ex {e : ZE} : evalS V (.ex e) ρ μ = (evalE V e ρ μ).bind fun _ μ1 => .ok (.nx ρ) μ1 := rfl
theorem es_ret {e : ZE} : evalS V (.ret e) ρ μ = (evalE V e ρ μ).bind fun d μ1 => .ok (.rt d) μ1 := rfl
theorem es_ite {c : ZE} {a b : ZSs} : evalS V (.ite c a b) ρ μ = (evalE V c ρ μ).bind fun x μ1 => match x with
    | .bl true => evalSs V a ρ μ1
    | .bl false => evalSs V b ρ μ1
    | _ => .err := rfl
theorem es_frz {i : Nat} : evalS V (.frz i) ρ μ = (match ρ[i]? with
    | some (some d) => (freeze d μ).bind fun x μ1 => .ok (.nx (ρ.set i (some x))) μ1
    | _ => .err) := rfl
theorem bd_ok {β γ : Type} {b : β} {k : β → Mu → R γ} : (R.ok b μ).bind k = k b μ := rfl
theorem p1_ok {β : Type} {b : β} : (R.ok b μ).pure1 = .ok b μ := rfl
theorem bind_bind {β γ δ : Type} {r : R β} {k : β → Mu → R γ} {j : γ → Mu → R δ} : (r.bind k).bind j = r.bind fun b μ => (k b μ).bind j := by cases r <;> rfl
theorem callN_succ {T : Tb} {n f : Nat} {ds : List D} {fi : FnI} (e : T.fns[f]? = some fi) (h : ds.length = fi.np) : callN T (n + 1) f ds μ = (evalSs ⟨T.cls, T.globs, T.wf, callN T n⟩ fi.body (ds.map some ++ List.replicate (fi.ns - fi.np) none) μ).bind fun r μ1 => match r with
        | .nx _ => .ok D.non μ1
        | .rt d => .ok d μ1 := by
  show (match T.fns[f]? with
    | some fi => if ds.length = fi.np then
        (evalSs ⟨T.cls, T.globs, T.wf, callN T n⟩ fi.body (ds.map some ++ List.replicate (fi.ns - fi.np) none) μ).bind fun r μ1 => match r with
        | .nx _ => .ok D.non μ1
        | .rt d => .ok d μ1
      else .err
    | none => .err) = _
  rw [e]
  dsimp only
  rw [if_pos h]
end
end ZQ

end
section
set_option maxHeartbeats 4000000
set_option autoImplicit false
/-! ZF: a run over other cells, deeper, by a larger table: the same run. -/
namespace Z
open PySem L2
mutual
def ren (σ : Nat → Nat) : D → D
  | .non => .non
  | .bl b => .bl b
  | .int i => .int i
  | .str s => .str s
  | .tup l => .tup (renL σ l)
  | .lst l => .lst (renL σ l)
  | .dic l => .dic (renK σ l)
  | .ins c l => .ins c (renL σ l)
  | .ref n => .ref (σ n)
  | .flst l => .flst (renL σ l)
  | .kd l => .kd (renS σ l)
def renL (σ : Nat → Nat) : List D → List D
  | [] => []
  | d :: l => ren σ d :: renL σ l
def renK (σ : Nat → Nat) : List (DK × D) → List (DK × D)
  | [] => []
  | (k, d) :: l => (k, ren σ d) :: renK σ l
def renS (σ : Nat → Nat) : List (List Nat × D) → List (List Nat × D)
  | [] => []
  | (k, d) :: l => (k, ren σ d) :: renS σ l
end
def renO (σ : Nat → Nat) : MO → MO
  | .gone => .gone
  | .lst l => .lst (renL σ l)
  | .dic l => .dic (renK σ l)
  | .ins c l => .ins c (renL σ l)
section
variable {σ : Nat → Nat}
theorem renL_map : ∀ l : List D, renL σ l = l.map (ren σ)
  | [] => rfl
  | d :: l => by show ren σ d :: renL σ l = _; rw [renL_map l]; rfl
theorem renK_map : ∀ l : List (DK × D), renK σ l = l.map fun q => (q.1, ren σ q.2)
  | [] => rfl
  | (k, d) :: l => by show (k, ren σ d) :: renK σ l = _; rw [renK_map l]; rfl
theorem renS_map : ∀ l : List (List Nat × D), renS σ l = l.map fun q => (q.1, ren σ q.2)
  | [] => rfl
  | (k, d) :: l => by show (k, ren σ d) :: renS σ l = _; rw [renS_map l]; rfl
/-- small store, large store -/
structure Fr (σ : Nat → Nat) (ν μ : Mu) : Prop where
  inj : ∀ a b, σ a = σ b → a = b
  at_ : ∀ n, μ[σ n]? = (ν[n]?).map (renO σ)
  len : ∀ i, σ (ν.length + i) = μ.length + i
def Out (σ : Nat → Nat) (μ μ' : Mu) : Prop := ∀ j, (∀ n, σ n ≠ j) → μ'[j]? = μ[j]?
theorem Out.refl {μ : Mu} : Out σ μ μ := fun _ _ => rfl
theorem Out.trans {μ μ1 μ2 : Mu} (a : Out σ μ μ1) (b : Out σ μ1 μ2) : Out σ μ μ2 := fun j h => (b j h).trans (a j h)
theorem Fr.push {ν μ : Mu} (F : Fr σ ν μ) (o : MO) : Fr σ (ν ++ [o]) (μ ++ [renO σ o]) := by
  refine ⟨F.inj, fun n => ?_, fun i => ?_⟩
  · by_cases h : n < ν.length
    · have hs : σ n < μ.length := by
        have := F.at_ n
        rw [List.getElem?_eq_getElem h] at this
        exact (List.getElem?_eq_some_iff.mp this).1
      rw [List.getElem?_append_left hs, List.getElem?_append_left h]
      exact F.at_ n
    · obtain ⟨i, rfl⟩ : ∃ i, n = ν.length + i := ⟨n - ν.length, by omega⟩
      rw [F.len, List.getElem?_append_right (by omega), List.getElem?_append_right (by omega), Nat.add_sub_cancel_left, Nat.add_sub_cancel_left]
      cases i with
      | zero => rfl
      | succ i => rfl
  · rw [List.length_append, List.length_append]
    show σ (ν.length + 1 + i) = μ.length + 1 + i
    rw [Nat.add_assoc, F.len, Nat.add_assoc]
theorem Out.push {ν μ : Mu} (F : Fr σ ν μ) (o : MO) : Out σ μ (μ ++ [o]) := fun j h => by
  have hj : μ.length ≠ j := by rw [← Nat.add_zero μ.length, ← F.len 0]; exact h _
  by_cases hl : j < μ.length
  · rw [List.getElem?_append_left hl]
  · rw [List.getElem?_eq_none (by rw [List.length_append]; show μ.length + 1 ≤ j; omega), List.getElem?_eq_none (by omega)]
theorem Fr.set {ν μ : Mu} (F : Fr σ ν μ) (n : Nat) (o : MO) : Fr σ (ν.set n o) (μ.set (σ n) (renO σ o)) := by
  refine ⟨F.inj, fun m => ?_, fun i => ?_⟩
  · by_cases e : n = m
    · subst e
      by_cases h : n < ν.length
      · have hs : σ n < μ.length := by
          have := F.at_ n
          rw [List.getElem?_eq_getElem h] at this
          exact (List.getElem?_eq_some_iff.mp this).1
        rw [List.getElem?_set_self hs, List.getElem?_set_self h]
        rfl
      · have h2 : μ.length ≤ σ n := by
          have := F.len (n - ν.length)
          rw [show ν.length + (n - ν.length) = n by omega] at this
          omega
        rw [List.getElem?_eq_none (by rw [List.length_set]; omega), List.getElem?_eq_none (by rw [List.length_set]; omega)]
        rfl
    · rw [List.getElem?_set_ne e, List.getElem?_set_ne fun z => e (F.inj _ _ z)]
      exact F.at_ m
  · rw [List.length_set, List.length_set]
    exact F.len i
theorem Out.set {μ : Mu} (n : Nat) (o : MO) : Out σ μ (μ.set (σ n) o) := fun j h => by rw [List.getElem?_set_ne (h n)]
/-! ### results -/
def RR {β γ : Type} (σ : Nat → Nat) (g : β → γ) (μ : Mu) (r : R β) (r' : R γ) : Prop := match r with
  | .ok b ν => ∃ μ', r' = .ok (g b) μ' ∧ Fr σ ν μ' ∧ Out σ μ μ'
  | .exc c pl ν => ∃ μ', r' = .exc c (renL σ pl) μ' ∧ Fr σ ν μ' ∧ Out σ μ μ'
  | .err => True
variable {β γ β' γ' : Type} {g : β → γ} {g' : β' → γ'} {ν μ : Mu}
theorem RR.ok {b : β} (F : Fr σ ν μ) : RR σ g μ (.ok b ν) (.ok (g b) μ) := ⟨μ, rfl, F, .refl⟩
theorem RR.ok' {b : β} {c : γ} (F : Fr σ ν μ) (e : c = g b) : RR σ g μ (.ok b ν) (.ok c μ) := ⟨μ, by rw [e], F, .refl⟩
theorem RR.err {r : R γ} : RR σ g μ .err r := trivial
theorem RR.out {r : R β} {r' : R γ} {μ1 : Mu} (o : Out σ μ μ1) (h : RR σ g μ1 r r') : RR σ g μ r r' := by
  cases r with
  | ok b ν => obtain ⟨μ', a, b, c⟩ := h; exact ⟨μ', a, b, o.trans c⟩
  | exc c pl ν => obtain ⟨μ', a, b, c⟩ := h; exact ⟨μ', a, b, o.trans c⟩
  | err => trivial
theorem RR.bind {r : R β} {r' : R γ} {k : β → Mu → R β'} {k' : γ → Mu → R γ'} (h : RR σ g μ r r') (hk : ∀ b ν1 μ1, Fr σ ν1 μ1 → RR σ g' μ1 (k b ν1) (k' (g b) μ1)) : RR σ g' μ (r.bind k) (r'.bind k') := by
  cases r with
  | ok b ν =>
    obtain ⟨μ', rfl, F, o⟩ := h
    exact (hk b ν μ' F).out o
  | exc c pl ν =>
    obtain ⟨μ', rfl, F, o⟩ := h
    exact ⟨μ', rfl, F, o⟩
  | err => trivial
theorem RR.pure1 {r : R β} {r' : R γ} (h : RR σ g μ r r') : RR σ g μ r.pure1 r'.pure1 := by
  cases r with
  | ok b ν => obtain ⟨μ', rfl, F, o⟩ := h; exact ⟨μ', rfl, F, o⟩
  | exc c pl ν => trivial
  | err => trivial
theorem RR.ite {c : Prop} [Decidable c] {a : R β} {a' : R γ} (h : c → RR σ g μ a a') : RR σ g μ (if c then a else .err) (if c then a' else .err) := by
  by_cases hc : c
  · rw [if_pos hc, if_pos hc]; exact h hc
  · rw [if_neg hc]; trivial
theorem RR.ite2 {c : Prop} [Decidable c] {a b : R β} {a' b' : R γ} (h : RR σ g μ a a') (h2 : RR σ g μ b b') : RR σ g μ (if c then a else b) (if c then a' else b') := by
  by_cases hc : c
  · rw [if_pos hc, if_pos hc]; exact h
  · rw [if_neg hc, if_neg hc]; exact h2
theorem RR.opt {α α' : Type} {o : Option α} {o' : Option α'} {j : α → α'} {k : α → R β} {k' : α' → R γ} (e : o' = o.map j) (h : ∀ a, o = some a → RR σ g μ (k a) (k' (j a))) :
    RR σ g μ (match (generalizing := false) o with | some a => k a | none => .err) (match (generalizing := false) o' with | some a => k' a | none => .err) := by
  subst e
  cases o with
  | none => trivial
  | some a => exact h a rfl
theorem RR.optId {α : Type} {o o' : Option α} {k : α → R β} {k' : α → R γ} (e : o' = o) (h : ∀ a, RR σ g μ (k a) (k' a)) :
    RR σ g μ (match (generalizing := false) o with | some a => k a | none => .err) (match (generalizing := false) o' with | some a => k' a | none => .err) := by
  subst e
  cases o' with
  | none => trivial
  | some a => exact h a
/-! ### cells, equality -/
theorem rr_mkL {m : Bool} {ds : List D} (F : Fr σ ν μ) : RR σ (ren σ) μ (mkL m ds ν) (mkL m (renL σ ds) μ) := by
  cases m with
  | false => exact .ok F
  | true => exact ⟨_, by show R.ok (D.ref μ.length) _ = R.ok (D.ref (σ ν.length)) _; rw [show σ ν.length = μ.length from F.len 0] <;> rfl, F.push _, .push F _⟩
theorem rr_mkD {m : Bool} {ds : List (DK × D)} (F : Fr σ ν μ) : RR σ (ren σ) μ (mkD m ds ν) (mkD m (renK σ ds) μ) := by
  cases m with
  | false => exact .ok F
  | true => exact ⟨_, by show R.ok (D.ref μ.length) _ = R.ok (D.ref (σ ν.length)) _; rw [show σ ν.length = μ.length from F.len 0] <;> rfl, F.push _, .push F _⟩
theorem look_ren (F : Fr σ ν μ) (d : D) : look μ (ren σ d) = ren σ (look ν d) := by
  cases d with
  | ref n =>
    show (match μ[σ n]? with | some (.lst l) => D.lst l | some (.dic l) => .dic l | some (.ins c l) => .ins c l | _ => .ref (σ n)) = ren σ (match ν[n]? with | some (.lst l) => D.lst l | some (.dic l) => .dic l | some (.ins c l) => .ins c l | _ => .ref n)
    rw [F.at_ n]
    cases ν[n]? with
    | none => rfl
    | some o => cases o <;> rfl
  | _ => rfl
theorem dget_ren (l : List (DK × D)) (k : DK) : dget (renK σ l) k = (dget l k).map (ren σ) := by
  unfold dget
  induction l with
  | nil => rfl
  | cons q l ih =>
    obtain ⟨a, d⟩ := q
    show (List.find? _ ((a, ren σ d) :: renK σ l)).map _ = _
    by_cases h : a = k
    · rw [List.find?_cons_of_pos (by simp [h]), List.find?_cons_of_pos (by simp [h])]
      rfl
    · rw [List.find?_cons_of_neg (by simp [h]), List.find?_cons_of_neg (by simp [h])]
      exact ih
theorem any_ren (l : List (DK × D)) (k : DK) : ((renK σ l).any fun q => decide (q.1 = k)) = l.any fun q => decide (q.1 = k) := by
  rw [renK_map, List.any_map]
  rfl
theorem dput_ren (l : List (DK × D)) (k : DK) (v : D) : dput (renK σ l) k (ren σ v) = renK σ (dput l k v) := by
  unfold dput
  rw [any_ren]
  by_cases h : (l.any fun q => decide (q.1 = k)) = true
  · rw [if_pos h, if_pos h]
    rw [renK_map, renK_map, List.map_map, List.map_map]
    refine List.map_congr_left fun q _ => ?_
    by_cases e : q.1 = k
    · simp [e]
    · simp [e]
  · rw [if_neg h, if_neg h, renK_map, renK_map, List.map_append]
    rfl
theorem ddrop_ren (l : List (DK × D)) (k : DK) : ddrop (renK σ l) k = renK σ (ddrop l k) := by
  unfold ddrop
  rw [renK_map, renK_map, List.filter_map]
  rfl
theorem lenL (l : List D) : (renL σ l).length = l.length := by rw [renL_map, List.length_map]
theorem lenK (l : List (DK × D)) : (renK σ l).length = l.length := by rw [renK_map, List.length_map]
theorem keyOf_ren (d : D) : keyOf? (ren σ d) = keyOf? d := by cases d <;> rfl
theorem optAll_congr {α β2 : Type} {f f' : α → Option β2} {l : List α} (h : ∀ d, d ∈ l → f d = f' d) : optAll f l = optAll f' l := by
  induction l with
  | nil => rfl
  | cons d l ih =>
    unfold optAll
    rw [h d (List.mem_cons_self ..), ih fun x hx => h x (List.mem_cons_of_mem _ hx)]
theorem optAll_map {α α' β2 : Type} {f : α' → Option β2} {j : α → α'} (l : List α) : optAll f (l.map j) = optAll (fun d => f (j d)) l := by
  induction l with
  | nil => rfl
  | cons d l ih =>
    show optAll f (j d :: l.map j) = _
    unfold optAll
    rw [ih]
theorem toPy_ren (F : Fr σ ν μ) : ∀ (n : Nat) (d : D), toPy μ n (ren σ d) = toPy ν n d
  | 0, d => by cases d <;> rfl
  | n + 1, d => by
    have hl : ∀ l : List D, optAll (toPy μ n) (renL σ l) = optAll (toPy ν n) l := fun l => by
      rw [renL_map, optAll_map]
      exact optAll_congr fun d _ => toPy_ren F n d
    cases d with
    | tup l => show (optAll (toPy μ n) (renL σ l)).map _ = (optAll (toPy ν n) l).map _; rw [hl]
    | lst l => show (optAll (toPy μ n) (renL σ l)).map _ = (optAll (toPy ν n) l).map _; rw [hl]
    | ref a =>
      show (match μ[σ a]? with | some (.lst l) => (optAll (toPy μ n) l).map _ | _ => none) = (match ν[a]? with | some (.lst l) => (optAll (toPy ν n) l).map _ | _ => none)
      rw [F.at_ a]
      cases ν[a]? with
      | none => rfl
      | some o =>
        cases o with
        | lst l => show (optAll (toPy μ n) (renL σ l)).map _ = (optAll (toPy ν n) l).map _; rw [hl]
        | _ => rfl
    | _ => rfl
theorem deq_ren (F : Fr σ ν μ) (a b : D) : deq μ (ren σ a) (ren σ b) = deq ν a b := by
  unfold deq
  rw [toPy_ren F, toPy_ren F]
theorem din_ren (F : Fr σ ν μ) (x : D) (l : List D) : din μ (ren σ x) (renL σ l) = din ν x l := by
  unfold din
  rw [toPy_ren F, show optAll (toPy μ 8) (renL σ l) = optAll (toPy ν 8) l by
    rw [renL_map, optAll_map]
    exact optAll_congr fun d _ => toPy_ren F 8 d]
theorem dicEq_ren (F : Fr σ ν μ) (r : List (DK × D)) : ∀ l, dicEq μ (renK σ r) (renK σ l) = dicEq ν r l
  | [] => rfl
  | (k, d) :: l => by
    show (match dget (renK σ r) k with | none => some false | some y => match deq μ (ren σ d) y, dicEq μ (renK σ r) (renK σ l) with | some e, some b => some (e && b) | _, _ => none) = _
    rw [dget_ren, dicEq_ren F r l]
    show _ = (match dget r k with | none => some false | some y => match deq ν d y, dicEq ν r l with | some e, some b => some (e && b) | _, _ => none)
    cases dget r k with
    | none => rfl
    | some y =>
      show (match deq μ (ren σ d) (ren σ y), _ with | some e, some b => some (e && b) | _, _ => none) = _
      rw [deq_ren F] <;> rfl
end
end Z

end
section
set_option maxHeartbeats 4000000
set_option autoImplicit false
/-! ZF2: operators over other cells. -/
namespace Z
open PySem L2
section
variable {σ : Nat → Nat} {ν μ : Mu}
theorem renL_append (l r : List D) : renL σ (l ++ r) = renL σ l ++ renL σ r := by rw [renL_map, renL_map, renL_map, List.map_append]
theorem renL_get (l : List D) (j : Nat) : (renL σ l)[j]? = (l[j]?).map (ren σ) := by rw [renL_map, List.getElem?_map]
theorem atI_ren (l : List D) (k : Int) : atI (renL σ l) k = (atI l k).map (ren σ) := by
  unfold atI
  rw [lenL]
  cases ixN l.length k with
  | none => rfl
  | some j => exact renL_get l j
theorem cut_ren (l : List D) (lo hi : Option Int) : cut (renL σ l) lo hi = renL σ (cut l lo hi) := by
  unfold cut
  rw [lenL, renL_map, renL_map, List.map_take, List.map_drop]
theorem flat_ren (l : List D) (k : Nat) : (List.replicate k (renL σ l)).flatten = renL σ (List.replicate k l).flatten := by
  induction k with
  | zero => rfl
  | succ k ih => rw [List.replicate_succ, List.replicate_succ, List.flatten_cons, List.flatten_cons, ih, renL_append]
def add2 (m : Bool) (X Y : D) (μ : Mu) : R D := match X, Y with
    | .lst l, .lst r => if l.length + r.length ≤ lim then mkL m (l ++ r) μ else .err
    | .tup l, .tup r => if l.length + r.length ≤ lim then .ok (.tup (l ++ r)) μ else .err
    | _, _ => .err
def mul2 (m : Bool) (X : D) (k : Int) (μ : Mu) : R D := match X with
    | .lst l => if 0 ≤ k ∧ k ≤ 1000 ∧ l.length * k.toNat ≤ lim then mkL m (List.replicate k.toNat l).flatten μ else .err
    | _ => .err
theorem rr_add2 {m : Bool} (X Y : D) (F : Fr σ ν μ) : RR σ (ren σ) μ (add2 m X Y ν) (add2 m (ren σ X) (ren σ Y) μ) := by
  cases X <;> first
    | exact RR.err
    | (cases Y <;> first
      | exact RR.err
      | (show RR σ (ren σ) μ (if _ then _ else _) (if _ then _ else _)
         rw [lenL, lenL, ← renL_append]
         exact .ite fun _ => by first | exact rr_mkL F | exact .ok' F rfl))
theorem rr_mul2 {m : Bool} (X : D) (k : Int) (F : Fr σ ν μ) : RR σ (ren σ) μ (mul2 m X k ν) (mul2 m (ren σ X) k μ) := by
  cases X <;> first
    | exact RR.err
    | (show RR σ (ren σ) μ (if _ then _ else _) (if _ then _ else _)
       rw [lenL, flat_ren]
       exact .ite fun _ => rr_mkL F)
theorem rr_opB (o : Bo) (m : Bool) (x y : D) (F : Fr σ ν μ) : RR σ (ren σ) μ (opB o m x y ν) (opB o m (ren σ x) (ren σ y) μ) := by
  have A : ∀ x y : D, RR σ (ren σ) μ (add2 m (look ν x) (look ν y) ν) (add2 m (look μ (ren σ x)) (look μ (ren σ y)) μ) := fun x y => by
    rw [look_ren F, look_ren F]
    exact rr_add2 _ _ F
  have B : ∀ (x : D) k, RR σ (ren σ) μ (mul2 m (look ν x) k ν) (mul2 m (look μ (ren σ x)) k μ) := fun x k => by
    rw [look_ren F]
    exact rr_mul2 _ _ F
  cases o with
  | add =>
    cases x <;> cases y <;> first
      | exact RR.err
      | exact A _ _
      | exact .ok F
      | exact .ite fun _ => .ok F
      | (rename_i l r; exact A (.tup l) (.tup r))
      | (rename_i l r; exact A (.lst l) (.lst r))
  | mul =>
    cases x <;> cases y <;> first
      | exact RR.err
      | exact B _ _
      | exact .ite fun _ => .ok F
      | (rename_i l r; exact B (.lst l) r)
  | _ =>
    cases x <;> first
      | exact RR.err
      | (cases y <;> first
        | exact RR.err
        | exact .ok F
        | exact .ite fun _ => .ok F)
/-! ### comparisons -/
def eq2 (x y : D) (μ : Mu) : R D := match deq μ x y with
      | some b => .ok (.bl b) μ
      | none => match look μ x, look μ y with
        | .dic l, .dic r => if l.length = r.length then (match dicEq μ r l with
          | some b => .ok (.bl b) μ
          | none => .err) else .ok (.bl false) μ
        | _, _ => .err
def ne2 (x y : D) (μ : Mu) : R D := match deq μ x y with
      | some b => .ok (.bl (!b)) μ
      | none => .err
theorem rr_dic2 (X Y : D) (F : Fr σ ν μ) : RR σ (ren σ) μ (match X, Y with
        | .dic l, .dic r => if l.length = r.length then (match dicEq ν r l with
          | some b => .ok (.bl b) ν
          | none => .err) else .ok (.bl false) ν
        | _, _ => .err) (match ren σ X, ren σ Y with
        | .dic l, .dic r => if l.length = r.length then (match dicEq μ r l with
          | some b => .ok (.bl b) μ
          | none => .err) else .ok (.bl false) μ
        | _, _ => .err) := by
  cases X <;> first
    | exact RR.err
    | (cases Y <;> first
      | exact RR.err
      | (rename_i l r
         show RR σ (ren σ) μ (if _ then _ else _) (if (renK σ l).length = (renK σ r).length then (match dicEq μ (renK σ r) (renK σ l) with | some b => R.ok (D.bl b) μ | none => .err) else .ok (.bl false) μ)
         rw [lenK, lenK, dicEq_ren F]
         refine .ite2 ?_ (.ok F)
         cases dicEq ν r l with
         | none => exact RR.err
         | some b => exact .ok F))
theorem rr_eq2 (x y : D) (F : Fr σ ν μ) : RR σ (ren σ) μ (eq2 x y ν) (eq2 (ren σ x) (ren σ y) μ) := by
  unfold eq2
  rw [deq_ren F]
  cases deq ν x y with
  | some b => exact .ok F
  | none =>
    show RR σ (ren σ) μ (match look ν x, look ν y with | .dic l, .dic r => _ | _, _ => _) (match look μ (ren σ x), look μ (ren σ y) with | .dic l, .dic r => _ | _, _ => _)
    rw [look_ren F, look_ren F]
    exact rr_dic2 _ _ F
theorem rr_ne2 (x y : D) (F : Fr σ ν μ) : RR σ (ren σ) μ (ne2 x y ν) (ne2 (ren σ x) (ren σ y) μ) := by
  unfold ne2
  rw [deq_ren F]
  cases deq ν x y with
  | none => exact RR.err
  | some b => exact .ok F
theorem lookup_ren (l : List (List Nat × D)) (z : List Nat) : (renS σ l).lookup z = (l.lookup z).map (ren σ) := by
  induction l with
  | nil => rfl
  | cons q l ih =>
    obtain ⟨a, d⟩ := q
    show List.lookup z ((a, ren σ d) :: renS σ l) = _
    rw [List.lookup_cons, List.lookup_cons]
    cases z == a with
    | true => rfl
    | false => exact ih
theorem rr_in2 (neg : Bool) (x Y : D) (F : Fr σ ν μ) : RR σ (ren σ) μ (match Y with
    | .lst l => match din ν x l with
      | some b => .ok (.bl (if neg then !b else b)) ν
      | none => .err
    | .tup l => match din ν x l with
      | some b => .ok (.bl (if neg then !b else b)) ν
      | none => .err
    | .dic l => match keyOf? x with
      | some k => .ok (.bl (if neg then !(dget l k).isSome else (dget l k).isSome)) ν
      | none => .err
    | .kd l => match x with
      | .str z => .ok (.bl (if neg then !(l.lookup z).isSome else (l.lookup z).isSome)) ν
      | _ => .err
    | .str t => match x with
      | .str [c] => .ok (.bl (if neg then !decide (c ∈ t) else decide (c ∈ t))) ν
      | _ => .err
    | _ => .err) (match ren σ Y with
    | .lst l => match din μ (ren σ x) l with
      | some b => .ok (.bl (if neg then !b else b)) μ
      | none => .err
    | .tup l => match din μ (ren σ x) l with
      | some b => .ok (.bl (if neg then !b else b)) μ
      | none => .err
    | .dic l => match keyOf? (ren σ x) with
      | some k => .ok (.bl (if neg then !(dget l k).isSome else (dget l k).isSome)) μ
      | none => .err
    | .kd l => match ren σ x with
      | .str z => .ok (.bl (if neg then !(l.lookup z).isSome else (l.lookup z).isSome)) μ
      | _ => .err
    | .str t => match ren σ x with
      | .str [c] => .ok (.bl (if neg then !decide (c ∈ t) else decide (c ∈ t))) μ
      | _ => .err
    | _ => .err) := by
  cases Y with
  | lst l =>
    show RR σ (ren σ) μ (match din ν x l with | some b => R.ok (D.bl (if neg then !b else b)) ν | none => .err) (match din μ (ren σ x) (renL σ l) with | some b => R.ok (D.bl (if neg then !b else b)) μ | none => .err)
    rw [din_ren F]
    cases din ν x l with
    | none => exact RR.err
    | some b => exact .ok F
  | tup l =>
    show RR σ (ren σ) μ (match din ν x l with | some b => R.ok (D.bl (if neg then !b else b)) ν | none => .err) (match din μ (ren σ x) (renL σ l) with | some b => R.ok (D.bl (if neg then !b else b)) μ | none => .err)
    rw [din_ren F]
    cases din ν x l with
    | none => exact RR.err
    | some b => exact .ok F
  | dic l =>
    show RR σ (ren σ) μ (match keyOf? x with | some k => R.ok (D.bl (if neg then !(dget l k).isSome else (dget l k).isSome)) ν | none => .err) (match keyOf? (ren σ x) with | some k => R.ok (D.bl (if neg then !(dget (renK σ l) k).isSome else (dget (renK σ l) k).isSome)) μ | none => .err)
    rw [keyOf_ren]
    cases keyOf? x with
    | none => exact RR.err
    | some k =>
      show RR σ (ren σ) μ (R.ok (D.bl (if neg then !(dget l k).isSome else (dget l k).isSome)) ν) (R.ok (D.bl (if neg then !(dget (renK σ l) k).isSome else (dget (renK σ l) k).isSome)) μ)
      rw [dget_ren, Option.isSome_map]
      exact .ok F
  | kd l =>
    cases x <;> first
      | exact RR.err
      | (rename_i z
         show RR σ (ren σ) μ (R.ok (D.bl (if neg then !(l.lookup z).isSome else (l.lookup z).isSome)) ν) (R.ok (D.bl (if neg then !((renS σ l).lookup z).isSome else ((renS σ l).lookup z).isSome)) μ)
         rw [lookup_ren, Option.isSome_map]
         exact .ok F)
  | str t =>
    cases x with
    | str s =>
      cases s with
      | nil => exact RR.err
      | cons c s => cases s with
        | nil => exact .ok F
        | cons _ _ => exact RR.err
    | _ => exact RR.err
  | _ => exact RR.err
theorem rr_opC (o : Co) (x y : D) (F : Fr σ ν μ) : RR σ (ren σ) μ (opC o x y ν) (opC o (ren σ x) (ren σ y) μ) := by
  have E := rr_eq2 x y F
  have N := rr_ne2 x y F
  have I : ∀ neg, RR σ (ren σ) μ (opC.opIn neg x y ν) (opC.opIn neg (ren σ x) (ren σ y) μ) := fun neg => by
    unfold opC.opIn
    rw [look_ren F]
    exact rr_in2 neg x (look ν y) F
  cases o with
  | eq => cases x <;> cases y <;> first
      | exact E
      | exact .ok F
  | ne => cases x <;> cases y <;> first
      | exact N
      | exact .ok F
  | isin => exact I false
  | notin => exact I true
  | _ => cases x <;> first
      | exact RR.err
      | (cases y <;> first
        | exact RR.err
        | exact .ok F)
theorem rr_opI (x i : D) (F : Fr σ ν μ) : RR σ (ren σ) μ (opI x i ν) (opI (ren σ x) (ren σ i) μ) := by
  unfold opI
  rw [look_ren F]
  cases look ν x with
  | lst l => cases i with
    | int k =>
      show RR σ (ren σ) μ (match atI l k with | some d => _ | none => _) (match atI (renL σ l) k with | some d => _ | none => _)
      rw [atI_ren]
      cases atI l k with
      | none => exact RR.err
      | some d => exact .ok F
    | _ => exact RR.err
  | tup l => cases i with
    | int k =>
      show RR σ (ren σ) μ (match atI l k with | some d => _ | none => _) (match atI (renL σ l) k with | some d => _ | none => _)
      rw [atI_ren]
      cases atI l k with
      | none => exact RR.err
      | some d => exact .ok F
    | _ => exact RR.err
  | str l => cases i with
    | int k =>
      show RR σ (ren σ) μ (match atI l k with | some d => _ | none => _) (match atI l k with | some d => _ | none => _)
      cases atI l k with
      | none => exact RR.err
      | some d => exact .ite fun _ => .ok F
    | _ => exact RR.err
  | kd l => cases i with
    | str z =>
      show RR σ (ren σ) μ (match l.lookup z with | some d => _ | none => _) (match (renS σ l).lookup z with | some d => _ | none => _)
      rw [lookup_ren]
      cases l.lookup z with
      | none => exact RR.err
      | some d => exact .ok F
    | _ => exact RR.err
  | dic l =>
    show RR σ (ren σ) μ (match keyOf? i with | some d => _ | none => _) (match keyOf? (ren σ i) with | some d => _ | none => _)
    rw [keyOf_ren]
    cases keyOf? i with
    | none => exact RR.err
    | some k =>
    show RR σ (ren σ) μ (match dget l k with | some d => _ | none => _) (match dget (renK σ l) k with | some d => _ | none => _)
    rw [dget_ren]
    cases dget l k with
    | none => exact RR.err
    | some d => exact .ok F
  | _ => cases i <;> exact RR.err
theorem rr_opSl (m : Bool) (x : D) (lo hi : Option Int) (F : Fr σ ν μ) : RR σ (ren σ) μ (opSl m x lo hi ν) (opSl m (ren σ x) lo hi μ) := by
  unfold opSl
  rw [look_ren F]
  cases look ν x with
  | lst l =>
    show RR σ (ren σ) μ (mkL m _ ν) (mkL m (cut (renL σ l) lo hi) μ)
    rw [cut_ren]
    exact rr_mkL F
  | tup l =>
    show RR σ (ren σ) μ (.ok _ ν) (.ok (.tup (cut (renL σ l) lo hi)) μ)
    rw [cut_ren]
    exact .ok' F rfl
  | str l => exact .ite fun _ => .ok F
  | _ => exact RR.err
theorem ints_ren (l : List D) : intsOf (renL σ l) = intsOf l := by
  unfold intsOf
  rw [renL_map, optAll_map]
  exact optAll_congr fun d _ => by cases d <;> rfl
theorem strs_ren (l : List D) : strsOf (renL σ l) = strsOf l := by
  unfold strsOf
  rw [renL_map, optAll_map]
  exact optAll_congr fun d _ => by cases d <;> rfl
theorem bls_ren (l : List D) : blsOf (renL σ l) = blsOf l := by
  unfold blsOf
  rw [renL_map, optAll_map]
  exact optAll_congr fun d _ => by cases d <;> rfl
theorem renL_int (l : List Int) : renL σ (l.map .int) = l.map .int := by rw [renL_map, List.map_map]; rfl
theorem renL_str (l : List (List Nat)) : renL σ (l.map .str) = l.map .str := by rw [renL_map, List.map_map]; rfl
theorem renL_keys (l : List (DK × D)) : renL σ (l.map fun q => ofKey q.1) = (renK σ l).map fun q => ofKey q.1 := by
  rw [renL_map, renK_map, List.map_map, List.map_map]
  refine List.map_congr_left fun q _ => ?_
  obtain ⟨k, d⟩ := q
  cases k <;> rfl
theorem rr_op1 (k : B1) (m : Bool) (x : D) (F : Fr σ ν μ) : RR σ (ren σ) μ (op1 k m x ν) (op1 k m (ren σ x) μ) := by
  cases k with
  | len =>
    unfold op1
    show RR σ (ren σ) μ (match look ν x with | .lst l => _ | .tup l => _ | .dic l => _ | .str s => _ | _ => _) (match look μ (ren σ x) with | .lst l => _ | .tup l => _ | .dic l => _ | .str s => _ | _ => _)
    rw [look_ren F]
    cases look ν x with
    | lst l => exact .ok' F (by rw [lenL] <;> rfl)
    | tup l => exact .ok' F (by rw [lenL] <;> rfl)
    | dic l => exact .ok' F (by rw [lenK] <;> rfl)
    | str l => exact .ite fun _ => .ok F
    | _ => exact RR.err
  | int => cases x with
    | int i => exact .ok F
    | bl b => exact .ok F
    | str s =>
      show RR σ (ren σ) μ (match PySem.intText? ⟨s.toArray⟩ with | some n => _ | none => _) (match PySem.intText? ⟨s.toArray⟩ with | some n => _ | none => _)
      cases PySem.intText? ⟨s.toArray⟩ with
      | none => exact RR.err
      | some d => exact .ite fun _ => .ok F
    | _ => exact RR.err
  | str => cases x with
    | int i => exact .ite fun _ => .ok F
    | str s => exact .ok F
    | _ => exact RR.err
  | list =>
    unfold op1
    show RR σ (ren σ) μ (match look ν x with | .lst l => _ | .tup l => _ | .dic l => _ | .flst l => _ | _ => _) (match look μ (ren σ x) with | .lst l => _ | .tup l => _ | .dic l => _ | .flst l => _ | _ => _)
    rw [look_ren F]
    cases look ν x with
    | lst l => exact rr_mkL F
    | tup l => exact rr_mkL F
    | dic l =>
      show RR σ (ren σ) μ (mkL m _ ν) (mkL m ((renK σ l).map fun q => ofKey q.1) μ)
      rw [← renL_keys]
      exact rr_mkL F
    | flst l => exact rr_mkL F
    | _ => exact RR.err
  | tuple =>
    unfold op1
    show RR σ (ren σ) μ (match look ν x with | .lst l => _ | .tup l => _ | _ => _) (match look μ (ren σ x) with | .lst l => _ | .tup l => _ | _ => _)
    rw [look_ren F]
    cases look ν x with
    | lst l => exact .ok F
    | tup l => exact .ok F
    | _ => exact RR.err
  | dict =>
    unfold op1
    show RR σ (ren σ) μ (match look ν x with | .dic l => _ | _ => _) (match look μ (ren σ x) with | .dic l => _ | _ => _)
    rw [look_ren F]
    cases look ν x with
    | dic l => exact rr_mkD F
    | _ => exact RR.err
  | any =>
    unfold op1
    show RR σ (ren σ) μ (match look ν x with | .lst l => _ | _ => _) (match look μ (ren σ x) with | .lst l => _ | _ => _)
    rw [look_ren F]
    cases look ν x with
    | lst l =>
      show RR σ (ren σ) μ (match blsOf l with | some bs => _ | none => _) (match blsOf (renL σ l) with | some bs => _ | none => _)
      rw [bls_ren]
      cases blsOf l with
      | none => exact RR.err
      | some bs => exact .ok F
    | _ => exact RR.err
  | all =>
    unfold op1
    show RR σ (ren σ) μ (match look ν x with | .lst l => _ | _ => _) (match look μ (ren σ x) with | .lst l => _ | _ => _)
    rw [look_ren F]
    cases look ν x with
    | lst l =>
      show RR σ (ren σ) μ (match blsOf l with | some bs => _ | none => _) (match blsOf (renL σ l) with | some bs => _ | none => _)
      rw [bls_ren]
      cases blsOf l with
      | none => exact RR.err
      | some bs => exact .ok F
    | _ => exact RR.err
  | sorted =>
    unfold op1
    show RR σ (ren σ) μ (match look ν x with | .lst l => _ | _ => _) (match look μ (ren σ x) with | .lst l => _ | _ => _)
    rw [look_ren F]
    cases look ν x with
    | lst l =>
      show RR σ (ren σ) μ (match intsOf l with | some bs => mkL m ((isort (fun a b => decide (a ≤ b)) bs).map .int) ν | none => _) (match intsOf (renL σ l) with | some bs => mkL m ((isort (fun a b => decide (a ≤ b)) bs).map .int) μ | none => _)
      rw [ints_ren]
      cases intsOf l with
      | none => exact RR.err
      | some bs =>
      have := rr_mkL (σ := σ) (m := m) (ds := (isort (fun a b => decide (a ≤ b)) bs).map .int) F
      rw [renL_int] at this
      exact this
    | _ => exact RR.err
  | max1 =>
    unfold op1
    show RR σ (ren σ) μ (match look ν x with | .lst l => _ | _ => _) (match look μ (ren σ x) with | .lst l => _ | _ => _)
    rw [look_ren F]
    cases look ν x with
    | lst l =>
      show RR σ (ren σ) μ (match intsOf l with | some (i :: ns) => R.ok (D.int (maxI i ns)) ν | _ => _) (match intsOf (renL σ l) with | some (i :: ns) => R.ok (D.int (maxI i ns)) μ | _ => _)
      rw [ints_ren]
      cases intsOf l with
      | none => exact RR.err
      | some bs => cases bs with
        | nil => exact RR.err
        | cons i ns => exact .ok F
    | _ => exact RR.err
  | _ => exact RR.err
end
end Z

end
section
set_option maxHeartbeats 4000000
set_option autoImplicit false
/-! ZF3: methods, stores, loops, all expressions and statements over other cells. -/
namespace Z
open PySem L2
section
variable {σ : Nat → Nat} {ν μ : Mu}
theorem rr_set {o o' : MO} {n : Nat} {d : D} (F : Fr σ ν μ) (e : o' = renO σ o) : RR σ (ren σ) μ (.ok d (ν.set n o)) (.ok (ren σ d) (μ.set (σ n) o')) := ⟨_, rfl, by rw [e]; exact F.set n o, by rw [e]; exact .set n _⟩
theorem rr_setU {o o' : MO} {n : Nat} (F : Fr σ ν μ) (e : o' = renO σ o) : RR σ (fun u : Unit => u) μ (.ok () (ν.set n o)) (.ok () (μ.set (σ n) o')) := ⟨_, rfl, by rw [e]; exact F.set n o, by rw [e]; exact .set n _⟩
theorem getLast_ren (l : List D) : (renL σ l).getLast? = (l.getLast?).map (ren σ) := by rw [renL_map, List.getLast?_map]
theorem dropLast_ren (l : List D) : (renL σ l).dropLast = renL σ l.dropLast := by rw [renL_map, renL_map, List.map_dropLast]
theorem erase_ren : ∀ (l : List D) (j : Nat), (renL σ l).eraseIdx j = renL σ (l.eraseIdx j)
  | [], _ => rfl
  | _ :: _, 0 => rfl
  | d :: l, j + 1 => by
    show ren σ d :: (renL σ l).eraseIdx j = _
    rw [erase_ren l j] <;> rfl
theorem setL_ren (l : List D) (j : Nat) (v : D) : (renL σ l).set j (ren σ v) = renL σ (l.set j v) := by rw [renL_map, renL_map, List.map_set]
theorem rr_freeze (x : D) (F : Fr σ ν μ) : RR σ (ren σ) μ (freeze x ν) (freeze (ren σ x) μ) := by
  cases x with
  | ref n =>
    unfold freeze
    show RR σ (ren σ) μ (match ν[n]? with | some (.lst l) => _ | some (.dic l) => _ | some (.ins c l) => _ | _ => _) (match μ[σ n]? with | some (.lst l) => _ | some (.dic l) => _ | some (.ins c l) => _ | _ => _)
    rw [F.at_ n]
    cases ν[n]? with
    | none => exact RR.err
    | some o => cases o with
      | gone => exact RR.err
      | lst l => exact rr_set F rfl
      | dic l => exact rr_set F rfl
      | ins c l => exact rr_set F rfl
  | _ => exact RR.err
theorem bmTy_ren (k : BM) (x : D) : bmTy k (ren σ x) = bmTy k x := by cases k <;> cases x <;> rfl
theorem rr_opBM (k : BM) (t : BT) (x : D) (as : List D) (F : Fr σ ν μ) : RR σ (ren σ) μ (opBM k t x as ν) (opBM k t (ren σ x) (renL σ as) μ) := by
  cases k with
  | append =>
    cases x <;> first | exact RR.err | skip
    rename_i n
    cases as with
    | nil => exact RR.err
    | cons d as => cases as with
      | cons _ _ => exact RR.err
      | nil =>
        show RR σ (ren σ) μ (match ν[n]? with | some (.lst l) => if l.length < lim then _ else _ | _ => _) (match μ[σ n]? with | some (.lst l) => if l.length < lim then R.ok .non (μ.set (σ n) (.lst (l ++ [ren σ d]))) else .err | _ => _)
        rw [F.at_ n]
        cases ν[n]? with
        | none => exact RR.err
        | some o => cases o with
          | lst l =>
            show RR σ (ren σ) μ _ (if (renL σ l).length < lim then R.ok .non (μ.set (σ n) (.lst (renL σ l ++ [ren σ d]))) else .err)
            rw [lenL]
            exact .ite fun _ => rr_set (d := .non) F (by show _ = MO.lst (renL σ (l ++ [d])); rw [renL_append] <;> rfl)
          | _ => exact RR.err
  | extend =>
    cases x <;> first | exact RR.err | skip
    rename_i n
    cases as with
    | nil => exact RR.err
    | cons d as => cases as with
      | cons _ _ => cases d <;> exact RR.err
      | nil =>
        cases d <;> first | exact RR.err | skip
        rename_i r
        show RR σ (ren σ) μ (match ν[n]? with | some (.lst l) => if l.length + r.length < lim then _ else _ | _ => _) (match μ[σ n]? with | some (.lst l) => if l.length + (renL σ r).length < lim then R.ok .non (μ.set (σ n) (.lst (l ++ renL σ r))) else .err | _ => _)
        rw [F.at_ n]
        cases ν[n]? with
        | none => exact RR.err
        | some o => cases o with
          | lst l =>
            show RR σ (ren σ) μ _ (if (renL σ l).length + (renL σ r).length < lim then R.ok .non (μ.set (σ n) (.lst (renL σ l ++ renL σ r))) else .err)
            rw [lenL, lenL]
            exact .ite fun _ => rr_set (d := .non) F (by show _ = MO.lst (renL σ (l ++ r)); rw [renL_append] <;> rfl)
          | _ => exact RR.err
  | pop0 =>
    cases x <;> first | exact RR.err | skip
    rename_i n
    cases as with
    | cons _ _ => exact RR.err
    | nil =>
      show RR σ (ren σ) μ (match ν[n]? with | some (.lst l) => (match l.getLast? with | some d => _ | none => _) | _ => _) (match μ[σ n]? with | some (.lst l) => (match l.getLast? with | some d => R.ok d (μ.set (σ n) (.lst l.dropLast)) | none => .err) | _ => _)
      rw [F.at_ n]
      cases ν[n]? with
      | none => exact RR.err
      | some o => cases o with
        | lst l =>
          show RR σ (ren σ) μ (match l.getLast? with | some d => R.ok d (ν.set n (.lst l.dropLast)) | none => .err) (match (renL σ l).getLast? with | some d => R.ok d (μ.set (σ n) (.lst (renL σ l).dropLast)) | none => .err)
          rw [getLast_ren, dropLast_ren]
          cases l.getLast? with
          | none => exact RR.err
          | some d => exact rr_set F rfl
        | _ => exact RR.err
  | pop1 =>
    cases x <;> first | exact RR.err | skip
    rename_i n
    cases as with
    | nil => exact RR.err
    | cons a as => cases as with
      | cons _ _ => exact RR.err
      | nil =>
        cases t with
        | s => exact RR.err
        | l =>
          show RR σ (ren σ) μ (match BT.l, ν[n]? with | .l, some (.lst l) => _ | .d, some (.dic l) => _ | _, _ => _) (match BT.l, μ[σ n]? with | .l, some (.lst l) => _ | .d, some (.dic l) => _ | _, _ => _)
          rw [F.at_ n]
          cases ν[n]? with
          | none => exact RR.err
          | some o => cases o with
            | lst l =>
              cases a <;> first | exact RR.err | skip
              rename_i i
              show RR σ (ren σ) μ (if 0 ≤ i ∧ i < 1000000 then (match l[i.toNat]? with | some d => R.ok d (ν.set n (.lst (l.eraseIdx i.toNat))) | none => .err) else .err)
                (if 0 ≤ i ∧ i < 1000000 then (match (renL σ l)[i.toNat]? with | some d => R.ok d (μ.set (σ n) (.lst ((renL σ l).eraseIdx i.toNat))) | none => .err) else .err)
              rw [renL_get, erase_ren]
              refine .ite fun _ => ?_
              cases l[i.toNat]? with
              | none => exact RR.err
              | some d => exact rr_set F rfl
            | _ => exact RR.err
        | d =>
          show RR σ (ren σ) μ (match BT.d, ν[n]? with | .l, some (.lst l) => _ | .d, some (.dic l) => _ | _, _ => _) (match BT.d, μ[σ n]? with | .l, some (.lst l) => _ | .d, some (.dic l) => _ | _, _ => _)
          rw [F.at_ n]
          cases ν[n]? with
          | none => exact RR.err
          | some o => cases o with
            | dic l =>
              show RR σ (ren σ) μ (match keyOf? a with | some k => (match dget l k with | some d => R.ok d (ν.set n (.dic (ddrop l k))) | none => .err) | none => .err)
                (match keyOf? (ren σ a) with | some k => (match dget (renK σ l) k with | some d => R.ok d (μ.set (σ n) (.dic (ddrop (renK σ l) k))) | none => .err) | none => .err)
              rw [keyOf_ren]
              cases keyOf? a with
              | none => exact RR.err
              | some k =>
                show RR σ (ren σ) μ (match dget l k with | some d => R.ok d (ν.set n (.dic (ddrop l k))) | none => .err) (match dget (renK σ l) k with | some d => R.ok d (μ.set (σ n) (.dic (ddrop (renK σ l) k))) | none => .err)
                rw [dget_ren, ddrop_ren]
                cases dget l k with
                | none => exact RR.err
                | some d => exact rr_set F rfl
            | _ => exact RR.err
  | get2 =>
    cases as with
    | nil => cases x <;> exact RR.err
    | cons a as => cases as with
      | nil => cases x <;> exact RR.err
      | cons b as => cases as with
        | cons _ _ => cases x <;> exact RR.err
        | nil =>
          have key : RR σ (ren σ) μ (match look ν x with | .dic l => (match keyOf? a with | some k => (match dget l k with | some d => R.ok d ν | none => .ok b ν) | none => .err) | _ => .err)
              (match look μ (ren σ x) with | .dic l => (match keyOf? (ren σ a) with | some k => (match dget l k with | some d => R.ok d μ | none => .ok (ren σ b) μ) | none => .err) | _ => .err) := by
            rw [look_ren F, keyOf_ren]
            cases look ν x <;> first | exact RR.err | skip
            rename_i l
            cases keyOf? a with
            | none => exact RR.err
            | some k =>
              show RR σ (ren σ) μ (match dget l k with | some d => R.ok d ν | none => .ok b ν) (match dget (renK σ l) k with | some d => R.ok d μ | none => .ok (ren σ b) μ)
              rw [dget_ren]
              cases dget l k with
              | none => exact .ok F
              | some d => exact .ok F
          cases x <;> exact key
  | split =>
    cases x <;> first | exact RR.err | skip
    rename_i s
    cases as with
    | nil => exact RR.err
    | cons a as => cases as with
      | cons _ _ => cases a <;> exact RR.err
      | nil =>
        cases a <;> first | exact RR.err | skip
        rename_i t
        show RR σ (ren σ) μ (if _ then R.ok (D.lst ((TL.spl t 0 [] s).map .str)) ν else _) (if _ then R.ok (D.lst ((TL.spl t 0 [] s).map .str)) μ else _)
        refine .ite fun _ => .ok' F ?_
        show _ = D.lst (renL σ _)
        rw [renL_str]
  | join =>
    cases x <;> first | exact RR.err | skip
    rename_i s
    cases as with
    | nil => exact RR.err
    | cons a as => cases as with
      | cons _ _ => exact RR.err
      | nil =>
        show RR σ (ren σ) μ (opBM .join t (.str s) [a] ν) (opBM .join t (.str s) [ren σ a] μ)
        unfold opBM
        dsimp only
        rw [look_ren F]
        cases look ν a <;> first | exact RR.err | skip
        dsimp only [ren]
        rw [strs_ren]
        cases strsOf _ with
        | none => exact RR.err
        | some ys => exact .ite fun _ => .ok F
  | _ => cases x <;> exact RR.err
theorem rr_setG (x i v : D) (F : Fr σ ν μ) : RR σ (fun u : Unit => u) μ (setG x i v ν) (setG (ren σ x) (ren σ i) (ren σ v) μ) := by
  cases x <;> first | exact RR.err | skip
  rename_i n
  show RR σ (fun u : Unit => u) μ (match ν[n]? with | some (.lst l) => _ | some (.dic l) => _ | _ => _) (match μ[σ n]? with | some (.lst l) => _ | some (.dic l) => _ | _ => _)
  rw [F.at_ n]
  cases ν[n]? with
  | none => exact RR.err
  | some o => cases o with
    | lst l =>
      cases i <;> first | exact RR.err | skip
      rename_i k
      show RR σ (fun u : Unit => u) μ (match ixN l.length k with | some j => R.ok () (ν.set n (.lst (l.set j v))) | none => .err) (match ixN (renL σ l).length k with | some j => R.ok () (μ.set (σ n) (.lst ((renL σ l).set j (ren σ v)))) | none => .err)
      rw [lenL]
      cases ixN l.length k with
      | none => exact RR.err
      | some j => exact rr_setU F (by rw [setL_ren] <;> rfl)
    | dic l =>
      show RR σ (fun u : Unit => u) μ (match keyOf? i with | some k => if l.length < lim then R.ok () (ν.set n (.dic (dput l k v))) else .err | none => .err) (match keyOf? (ren σ i) with | some k => if (renK σ l).length < lim then R.ok () (μ.set (σ n) (.dic (dput (renK σ l) k (ren σ v)))) else .err | none => .err)
      rw [keyOf_ren, lenK]
      cases keyOf? i with
      | none => exact RR.err
      | some k => exact .ite fun _ => rr_setU F (by rw [dput_ren] <;> rfl)
    | _ => exact RR.err
/-- two evaluators -/
structure EvR (σ : Nat → Nat) (V V' : Ev) : Prop where
  cls : V'.cls = V.cls
  globs : V'.globs = V.globs
  clo : ∀ (g : Nat) (d : D), V.globs[g]? = some d → ren σ d = d
  wf : V'.wf = V.wf
  call : ∀ (f : Nat) (ds : List D) (ν μ : Mu), Fr σ ν μ → RR σ (ren σ) μ (V.call f ds ν) (V'.call f (renL σ ds) μ)
variable {V V' : Ev}
theorem rr_setA (hv : EvR σ V V') (x : D) (a : Nat) (v : D) (F : Fr σ ν μ) : RR σ (fun u : Unit => u) μ (setA V x a v ν) (setA V' (ren σ x) a (ren σ v) μ) := by
  cases x <;> first | exact RR.err | skip
  rename_i n
  show RR σ (fun u : Unit => u) μ (match ν[n]? with | some (.ins c l) => _ | _ => _) (match μ[σ n]? with | some (.ins c l) => _ | _ => _)
  rw [F.at_ n, hv.cls]
  cases ν[n]? with
  | none => exact RR.err
  | some o => cases o with
    | ins c l =>
      show RR σ (fun u : Unit => u) μ (match V.cls[c]? with | some ci => (match ci.fields.idxOf? a with | some j => if j < l.length then R.ok () (ν.set n (.ins c (l.set j v))) else if j = l.length then R.ok () (ν.set n (.ins c (l ++ [v]))) else .err | none => .err) | none => .err)
        (match V.cls[c]? with | some ci => (match ci.fields.idxOf? a with | some j => if j < (renL σ l).length then R.ok () (μ.set (σ n) (.ins c ((renL σ l).set j (ren σ v)))) else if j = (renL σ l).length then R.ok () (μ.set (σ n) (.ins c (renL σ l ++ [ren σ v]))) else .err | none => .err) | none => .err)
      rw [lenL]
      cases V.cls[c]? with
      | none => exact RR.err
      | some ci =>
        dsimp only
        cases ci.fields.idxOf? a with
        | none => exact RR.err
        | some j =>
          refine .ite2 (rr_setU F (by rw [setL_ren] <;> rfl)) (.ite fun _ => rr_setU F ?_)
          show _ = MO.ins c (renL σ (l ++ [v]))
          rw [renL_append] <;> rfl
    | _ => exact RR.err
theorem rr_getA (hv : EvR σ V V') (x : D) (a : Nat) (F : Fr σ ν μ) : RR σ (ren σ) μ (getA V x a ν) (getA V' (ren σ x) a μ) := by
  unfold getA
  rw [look_ren F, hv.cls]
  cases look ν x with
  | ins c l =>
    dsimp only [ren]
    cases V.cls[c]? with
    | none => exact RR.err
    | some ci =>
      dsimp only
      cases ci.fields.idxOf? a with
      | some j =>
        dsimp only
        rw [renL_get]
        cases l[j]? with
        | none => exact RR.err
        | some d => exact .ok F
      | none =>
        dsimp only
        cases ci.props.lookup a with
        | none => exact RR.err
        | some f => exact (hv.call f [x] ν μ F).pure1
  | _ => exact RR.err
theorem methOf_ren (hv : EvR σ V V') (m : Nat) (x : D) : methOf V' m (ren σ x) = methOf V m x := by
  unfold methOf
  cases x with
  | ins c l => show (match V'.cls[c]? with | some ci => _ | none => _) = _; rw [hv.cls] <;> rfl
  | _ => rfl
theorem rr_mkI (hv : EvR σ V V') (c : Nat) (as : List D) (F : Fr σ ν μ) : RR σ (ren σ) μ (mkI V c as ν) (mkI V' c (renL σ as) μ) := by
  unfold mkI
  rw [hv.cls]
  have e : σ ν.length = μ.length := F.len 0
  cases V.cls[c]? with
  | none => exact RR.err
  | some ci =>
    dsimp only
    have h := hv.call ci.ini (.ref ν.length :: as) (ν ++ [.ins c []]) (μ ++ [.ins c []]) (F.push _)
    have e2 : renL σ (.ref ν.length :: as) = .ref μ.length :: renL σ as := by show D.ref (σ ν.length) :: _ = _; rw [e]
    rw [e2] at h
    refine (RR.bind h fun d ν1 μ1 F1 => ?_).out (.push F _)
    cases d with
    | non =>
      show RR σ (ren σ) μ1 (if ci.frz then freeze (.ref ν.length) ν1 else .ok (.ref ν.length) ν1) (if ci.frz then freeze (.ref μ.length) μ1 else .ok (.ref μ.length) μ1)
      rw [← e]
      exact .ite2 (rr_freeze (.ref ν.length) F1) (.ok F1)
    | _ => exact RR.err
theorem eqR_ren (c : Nat) (d : D) : eqR c (ren σ d) = eqR c d := by cases d <;> rfl
theorem rr_opCI (hv : EvR σ V V') (o : Co) (x y : D) (F : Fr σ ν μ) : RR σ (ren σ) μ (opCI V o x y ν) (opCI V' o (ren σ x) (ren σ y) μ) := by
  have C := rr_opC o x y F
  unfold opCI
  rw [look_ren F, look_ren F, hv.cls]
  cases look ν x with
  | ins c l =>
    dsimp only [ren]
    cases V.cls[c]? with
    | none => exact RR.err
    | some ci =>
      dsimp only
      cases ci.eqm with
      | none => cases o <;> exact RR.err
      | some f =>
        cases o <;> first | exact RR.err | skip
        dsimp only
        rw [eqR_ren]
        refine .ite fun _ => RR.bind (hv.call f [x, y] ν μ F).pure1 fun d ν1 μ1 F1 => ?_
        cases d <;> first | exact RR.err | exact .ok F1
  | _ => exact C
theorem rr_op1I (hv : EvR σ V V') (k : B1) (m : Bool) (x : D) (F : Fr σ ν μ) : RR σ (ren σ) μ (op1I V k m x ν) (op1I V' k m (ren σ x) μ) := by
  have C := rr_op1 k m x F
  unfold op1I
  rw [look_ren F, hv.cls]
  cases look ν x with
  | ins c l =>
    dsimp only [ren]
    cases k <;> first | (cases V.cls[c]? <;> exact RR.err) | skip
    cases V.cls[c]? with
    | none => exact RR.err
    | some ci =>
      dsimp only
      cases ci.lenm with
      | none => exact RR.err
      | some f =>
        dsimp only
        refine RR.bind (hv.call f [x] ν μ F).pure1 fun d ν1 μ1 F1 => ?_
        cases d <;> first | exact RR.err | exact .ite fun _ => .ok F1
  | _ => exact C
/-! ### slots, items -/
def renE (σ : Nat → Nat) (ρ : Env) : Env := ρ.map (Option.map (ren σ))
theorem renE_get (ρ : Env) (i : Nat) : (renE σ ρ)[i]? = (ρ[i]?).map (Option.map (ren σ)) := by unfold renE; rw [List.getElem?_map]
theorem renE_set (ρ : Env) (i : Nat) (d : Option D) : (renE σ ρ).set i (d.map (ren σ)) = renE σ (ρ.set i d) := by unfold renE; rw [List.map_set]
theorem wipe_ren (ρ : Env) : ∀ vs : List Nat, wipeE (renE σ ρ) vs = renE σ (wipeE ρ vs)
  | [] => rfl
  | v :: vs => by
    show (wipeE (renE σ ρ) vs).set v none = renE σ ((wipeE ρ vs).set v none)
    rw [wipe_ren ρ vs]
    exact renE_set _ v none
mutual
theorem bindT_ren : ∀ (t : ZT) (d : D) (ρ : Env), bindT t (ren σ d) (renE σ ρ) = (bindT t d ρ).map (renE σ)
  | .nm i, d, ρ => by
    show some ((renE σ ρ).set i ((some d).map (ren σ))) = _
    rw [renE_set] <;> rfl
  | .tp l, d, ρ => by
    cases d with
    | tup ds =>
      show (if l.length = (renL σ ds).length then bindTs l (renL σ ds) (renE σ ρ) else none) = (if l.length = ds.length then bindTs l ds ρ else none).map (renE σ)
      rw [lenL, bindTs_ren l ds ρ]
      by_cases h : l.length = ds.length
      · rw [if_pos h, if_pos h]
      · rw [if_neg h, if_neg h] <;> rfl
    | _ => rfl
theorem bindTs_ren : ∀ (t : List ZT) (d : List D) (ρ : Env), bindTs t (renL σ d) (renE σ ρ) = (bindTs t d ρ).map (renE σ)
  | [], [], ρ => rfl
  | [], _ :: _, ρ => rfl
  | _ :: _, [], ρ => rfl
  | t :: l, d :: ds, ρ => by
    show (match bindT t (ren σ d) (renE σ ρ) with | some ρ' => bindTs l (renL σ ds) ρ' | none => none) = (match bindT t d ρ with | some ρ' => bindTs l ds ρ' | none => none).map (renE σ)
    rw [bindT_ren t d ρ]
    cases bindT t d ρ with
    | none => rfl
    | some ρ1 => exact bindTs_ren l ds ρ1
end
theorem seqOf_ren (x : D) (ν μ : Mu) : seqOf (ren σ x) μ = (seqOf x ν).map (renL σ) := by
  cases x with
  | str s => show some _ = some (renL σ _); rw [renL_map, List.map_map]; rfl
  | kd l => show some ((renS σ l).map _) = some (renL σ _); rw [renL_map, List.map_map, renS_map, List.map_map]; rfl
  | dic l => show some ((renK σ l).map fun q => ofKey q.1) = some (renL σ (l.map fun q => ofKey q.1)); rw [renL_keys]
  | _ => rfl
theorem enum_ren : ∀ (l : List D) (k : Nat), enumFrom k (renL σ l) = renL σ (enumFrom k l)
  | [], _ => rfl
  | d :: l, k => by
    show D.tup [.int k, ren σ d] :: enumFrom (k + 1) (renL σ l) = _
    rw [enum_ren l (k + 1)] <;> rfl
theorem zip_ren : ∀ (l r : List D), zipD (renL σ l) (renL σ r) = renL σ (zipD l r)
  | [], [] => rfl
  | [], _ :: _ => rfl
  | _ :: _, [] => rfl
  | a :: l, b :: r => by
    show D.tup [ren σ a, ren σ b] :: zipD (renL σ l) (renL σ r) = _
    rw [zip_ren l r] <;> rfl
theorem range_ren (n : Nat) (f : Nat → Int) : renL σ ((List.range n).map fun i => .int (f i)) = (List.range n).map fun i => .int (f i) := by rw [renL_map, List.map_map]; rfl
theorem items_ren (k : IK) (xs : List D) : itemsOf k (renL σ xs) μ = (itemsOf k xs ν).map (renL σ) := by
  cases xs with
  | nil => cases k <;> rfl
  | cons x xs => cases xs with
    | nil =>
      cases k with
      | seq => exact seqOf_ren x ν μ
      | rng =>
        cases x <;> first | rfl | skip
        rename_i n
        show (if _ then some _ else none) = (if _ then some _ else none).map (renL σ)
        split
        · show _ = some (renL σ _); rw [range_ren]
        · rfl
      | enum => cases x <;> first | rfl | (show some (enumFrom 0 (renL σ _)) = _; rw [enum_ren]; rfl)
      | items =>
        cases x <;> first | rfl | skip
        rename_i l
        show some ((renK σ l).map fun q => D.tup [ofKey q.1, q.2]) = some (renL σ (l.map fun q => D.tup [ofKey q.1, q.2]))
        rw [renL_map, renK_map, List.map_map, List.map_map]
        refine congrArg some (List.map_congr_left fun q _ => ?_)
        obtain ⟨k, d⟩ := q
        cases k <;> rfl
      | vals =>
        cases x <;> first | rfl | skip
        rename_i l
        show some ((renK σ l).map (·.2)) = some (renL σ (l.map (·.2)))
        rw [renL_map, renK_map, List.map_map, List.map_map] <;> rfl
      | _ => cases x <;> rfl
    | cons y xs => cases xs with
      | nil =>
        cases k with
        | rng =>
          cases x <;> cases y <;> first | rfl | skip
          show (if _ then some _ else none) = (if _ then some _ else none).map (renL σ)
          split
          · show _ = some (renL σ _); rw [range_ren]
          · rfl
        | zip =>
          cases x <;> cases y <;> first
            | rfl
            | (show some (zipD (renL σ _) (renL σ _)) = _; rw [zip_ren]; rfl)
            | (rename_i l r
               show some (zipD ((renS σ l).map fun q => .str q.1) (renL σ r)) = some (renL σ (zipD (l.map fun q => .str q.1) r))
               have e : (renS σ l).map (fun q => D.str q.1) = renL σ (l.map fun q => D.str q.1) := by rw [renL_map, List.map_map, renS_map, List.map_map]; rfl
               rw [e, zip_ren])
        | _ => cases x <;> rfl
      | cons z xs => cases k <;> first | rfl | (cases x <;> cases y <;> rfl)
/-! ### loops -/
theorem rr_lc {f f' : D → Mu → R (Option D)} (h : ∀ d ν μ, Fr σ ν μ → RR σ (Option.map (ren σ)) μ (f d ν) (f' (ren σ d) μ)) : ∀ (ds acc : List D) (ν μ : Mu), Fr σ ν μ → RR σ (renL σ) μ (lcLoop f ds acc ν) (lcLoop f' (renL σ ds) (renL σ acc) μ)
  | [], acc, ν, μ, F => .ok F
  | d :: ds, acc, ν, μ, F => RR.bind (h d ν μ F) fun r ν1 μ1 F1 => by
    cases r with
    | none => exact rr_lc h ds acc ν1 μ1 F1
    | some x =>
      show RR σ (renL σ) μ1 (if acc.length < lim then _ else _) (if (renL σ acc).length < lim then lcLoop f' (renL σ ds) (renL σ acc ++ [ren σ x]) μ1 else .err)
      rw [lenL, show renL σ acc ++ [ren σ x] = renL σ (acc ++ [x]) by rw [renL_append] <;> rfl]
      exact .ite fun _ => rr_lc h ds _ ν1 μ1 F1
theorem rr_lc2 {f f' : D → Mu → R (List D)} (h : ∀ d ν μ, Fr σ ν μ → RR σ (renL σ) μ (f d ν) (f' (ren σ d) μ)) : ∀ (ds acc : List D) (ν μ : Mu), Fr σ ν μ → RR σ (renL σ) μ (lcLoop2 f ds acc ν) (lcLoop2 f' (renL σ ds) (renL σ acc) μ)
  | [], acc, ν, μ, F => .ok F
  | d :: ds, acc, ν, μ, F => RR.bind (h d ν μ F) fun r ν1 μ1 F1 => by
    show RR σ (renL σ) μ1 (if acc.length + r.length < lim then _ else _) (if (renL σ acc).length + (renL σ r).length < lim then lcLoop2 f' (renL σ ds) (renL σ acc ++ renL σ r) μ1 else .err)
    rw [lenL, lenL, ← renL_append]
    exact .ite fun _ => rr_lc2 h ds _ ν1 μ1 F1
def renKV (σ : Nat → Nat) (q : DK × D) : DK × D := (q.1, ren σ q.2)
theorem rr_dc {f f' : D → Mu → R (Option (DK × D))} (h : ∀ d ν μ, Fr σ ν μ → RR σ (Option.map (renKV σ)) μ (f d ν) (f' (ren σ d) μ)) : ∀ (ds : List D) (acc : List (DK × D)) (ν μ : Mu), Fr σ ν μ → RR σ (renK σ) μ (dcLoop f ds acc ν) (dcLoop f' (renL σ ds) (renK σ acc) μ)
  | [], acc, ν, μ, F => .ok F
  | d :: ds, acc, ν, μ, F => RR.bind (h d ν μ F) fun r ν1 μ1 F1 => by
    cases r with
    | none => exact rr_dc h ds acc ν1 μ1 F1
    | some x =>
      obtain ⟨k, x⟩ := x
      show RR σ (renK σ) μ1 (if acc.length < lim then _ else _) (if (renK σ acc).length < lim then dcLoop f' (renL σ ds) (dput (renK σ acc) k (ren σ x)) μ1 else .err)
      rw [lenK, dput_ren]
      exact .ite fun _ => rr_dc h ds _ ν1 μ1 F1
theorem tagOk_ren (t : Tag) (x : D) : tagOk t (ren σ x) = tagOk t x := by cases x <;> rfl
theorem isiOk_ren (k : Nat) (x : D) : isiOk k (ren σ x) = isiOk k x := by cases x <;> rfl
theorem partOf_ren (l : List D) : partOf (renL σ l) = partOf l := by
  cases l with
  | nil => rfl
  | cons d l => cases l with
    | nil => cases d <;> rfl
    | cons _ _ => cases d <;> rfl
theorem dshow_ren : ∀ (n : Nat) (l : List D) (acc : List (DK × D)), l.length < n → dshow (renL σ l) (renK σ acc) = (dshow l acc).map (renK σ)
  | 0, _, _, h => by omega
  | n + 1, [], acc, _ => rfl
  | n + 1, [a], acc, _ => rfl
  | n + 1, a :: b :: l, acc, h => by
    show (match keyOf? (ren σ a) with | some k => dshow (renL σ l) (dput (renK σ acc) k (ren σ b)) | none => none) = (match keyOf? a with | some k => dshow l (dput acc k b) | none => none).map (renK σ)
    rw [keyOf_ren]
    cases keyOf? a with
    | none => rfl
    | some k =>
      show dshow (renL σ l) (dput (renK σ acc) k (ren σ b)) = _
      rw [dput_ren]
      exact dshow_ren n l _ (by simp at h; omega)
theorem dzips_ren (l : List (List Nat × D)) (r : List D) : dzips (renS σ l) (renL σ r) = renK σ (dzips l r) := by
  have key : ∀ (ks : List DK) (r : List D) (acc : List (DK × D)), (ks.zip (renL σ r)).foldl (fun a q => dput a q.1 q.2) (renK σ acc) = renK σ ((ks.zip r).foldl (fun a q => dput a q.1 q.2) acc) := by
    intro ks
    induction ks with
    | nil => intro r acc; rfl
    | cons k ks ih =>
      intro r acc
      cases r with
      | nil => rfl
      | cons d r =>
        show (ks.zip (renL σ r)).foldl _ (dput (renK σ acc) k (ren σ d)) = _
        rw [dput_ren]
        exact ih r _
  unfold dzips
  rw [renS_map, List.map_map]
  exact key _ r []
end
end Z

end
section
set_option maxHeartbeats 4000000
set_option autoImplicit false
/-! ZF4: whole runs over other cells. -/
namespace Z
open PySem L2
section
variable {σ : Nat → Nat} {V V' : Ev}
theorem rr_ifs {β γ : Type} {g : β → γ} {μ : Mu} {bs : List D} {a c : R β} {a' c' : R γ} (h : RR σ g μ a a') (h2 : RR σ g μ c c') : RR σ g μ (match bs with | [] => a | [.bl true] => a | [.bl false] => c | _ => .err) (match renL σ bs with | [] => a' | [.bl true] => a' | [.bl false] => c' | _ => .err) := by
  cases bs with
  | nil => exact h
  | cons d bs => cases bs with
    | cons _ _ => cases d <;> first | exact RR.err | (rename_i b; cases b <;> exact RR.err)
    | nil => cases d <;> first | exact RR.err | (rename_i b; cases b <;> first | exact h | exact h2)
/-- slots: what the small one knows, the large one knows -/
def EnvR (σ : Nat → Nat) (ρ ρ' : Env) : Prop := ρ'.length = ρ.length ∧ ∀ (i : Nat) (d : D), ρ[i]? = some (some d) → ρ'[i]? = some (some (ren σ d))
theorem EnvR.refl (ρ : Env) : EnvR σ ρ (renE σ ρ) := ⟨by unfold renE; rw [List.length_map], fun i d h => by rw [renE_get, h]; rfl⟩
theorem EnvR.set {ρ ρ' : Env} (h : EnvR σ ρ ρ') (i : Nat) (d : D) : EnvR σ (ρ.set i (some d)) (ρ'.set i (some (ren σ d))) := by
  refine ⟨by rw [List.length_set, List.length_set]; exact h.1, fun j e hj => ?_⟩
  by_cases q : i = j
  · subst q
    by_cases hl : i < ρ.length
    · rw [List.getElem?_set_self hl] at hj
      cases hj
      rw [List.getElem?_set_self (by rw [h.1]; exact hl)]
    · rw [List.getElem?_eq_none (by rw [List.length_set]; omega)] at hj
      cases hj
  · rw [List.getElem?_set_ne q] at hj ⊢
    exact h.2 j e hj
theorem wipe_rel {ρ ρ' : Env} (vs : List Nat) (h : EnvR σ ρ ρ') : EnvR σ (wipeE ρ vs) (wipeE ρ' vs) := by
  induction vs with
  | nil => exact h
  | cons v vs ih =>
    refine ⟨by show ((wipeE ρ' vs).set v none).length = ((wipeE ρ vs).set v none).length; rw [List.length_set, List.length_set]; exact ih.1, fun j e hj => ?_⟩
    have hj' : ((wipeE ρ vs).set v none)[j]? = some (some e) := hj
    show ((wipeE ρ' vs).set v none)[j]? = _
    by_cases q : v = j
    · subst q
      by_cases hl : v < (wipeE ρ vs).length
      · rw [List.getElem?_set_self hl] at hj'
        cases hj'
      · rw [List.getElem?_eq_none (by rw [List.length_set]; omega)] at hj'
        cases hj'
    · rw [List.getElem?_set_ne q] at hj' ⊢
      exact ih.2 j e hj'
mutual
theorem bindT_rel : ∀ (t : ZT) (d : D) {ρ ρ' : Env}, EnvR σ ρ ρ' → match bindT t d ρ with
    | some ρ1 => ∃ ρ1', bindT t (ren σ d) ρ' = some ρ1' ∧ EnvR σ ρ1 ρ1'
    | none => True
  | .nm i, d, ρ, ρ', h => ⟨_, rfl, h.set i d⟩
  | .tp l, d, ρ, ρ', h => by
    cases d with
    | tup ds =>
      have hb := bindTs_rel l ds h
      show match (if l.length = ds.length then bindTs l ds ρ else none) with
        | some ρ1 => ∃ ρ1', (if l.length = (renL σ ds).length then bindTs l (renL σ ds) ρ' else none) = some ρ1' ∧ EnvR σ ρ1 ρ1'
        | none => True
      rw [lenL]
      by_cases e : l.length = ds.length
      · rw [if_pos e, if_pos e]; exact hb
      · rw [if_neg e]; trivial
    | _ => trivial
theorem bindTs_rel : ∀ (t : List ZT) (d : List D) {ρ ρ' : Env}, EnvR σ ρ ρ' → match bindTs t d ρ with
    | some ρ1 => ∃ ρ1', bindTs t (renL σ d) ρ' = some ρ1' ∧ EnvR σ ρ1 ρ1'
    | none => True
  | [], [], ρ, ρ', h => ⟨_, rfl, h⟩
  | [], _ :: _, ρ, ρ', h => trivial
  | _ :: _, [], ρ, ρ', h => trivial
  | t :: l, d :: ds, ρ, ρ', h => by
    have hb := bindT_rel t d h
    show match (match bindT t d ρ with | some ρ' => bindTs l ds ρ' | none => none) with
      | some ρ1 => ∃ ρ1', (match bindT t (ren σ d) ρ' with | some ρ' => bindTs l (renL σ ds) ρ' | none => none) = some ρ1' ∧ EnvR σ ρ1 ρ1'
      | none => True
    cases e : bindT t d ρ with
    | none => trivial
    | some ρ1 =>
      rw [e] at hb
      obtain ⟨ρ1', e1, h1⟩ := hb
      rw [e1]
      exact bindTs_rel l ds h1
end
theorem spread1_ren (d : D) : spread1 (ren σ d) = (spread1 d).map (renL σ) := by
  cases d with
  | dic l =>
    show some ((renK σ l).map fun q => ofKey q.1) = some (renL σ (l.map fun q => ofKey q.1))
    rw [renL_keys]
  | _ => rfl
theorem spread_ren : ∀ (st : List Bool) (ds : List D), spread st (renL σ ds) = (spread st ds).map (renL σ)
  | [], [] => rfl
  | [], _ :: _ => rfl
  | b :: _, [] => by cases b <;> rfl
  | false :: st, d :: ds => by
    show (match spread st (renL σ ds) with | some l => some (ren σ d :: l) | none => none) = (match spread st ds with | some l => some (d :: l) | none => none : Option (List D)).map (renL σ)
    rw [spread_ren st ds]
    cases spread st ds <;> rfl
  | true :: st, d :: ds => by
    show (match spread1 (ren σ d), spread st (renL σ ds) with | some l, some r => some (l ++ r) | _, _ => none) = (match spread1 d, spread st ds with | some l, some r => some (l ++ r) | _, _ => none : Option (List D)).map (renL σ)
    rw [spread_ren st ds, spread1_ren]
    cases spread1 d with
    | none => rfl
    | some l =>
      cases spread st ds with
      | none => rfl
      | some r => exact congrArg some (renL_append l r).symm
mutual
theorem frE1 (hv : EvR σ V V') : ∀ (z : ZE) (ρ ρ' : Env) (ν μ : Mu), EnvR σ ρ ρ' → Fr σ ν μ → RR σ (ren σ) μ (evalE V z ρ ν) (evalE V' z ρ' μ)
  | .var i, ρ, ρ', ν, μ, h, F => by
    show RR σ (ren σ) μ (match ρ[i]? with | some (some d) => R.ok d ν | _ => .err) (match ρ'[i]? with | some (some d) => R.ok d μ | _ => .err)
    cases e : ρ[i]? with
    | none => exact RR.err
    | some o => cases o with
      | none => exact RR.err
      | some d =>
        rw [h.2 i d e]
        exact .ok F
  | .int i, ρ, ρ', ν, μ, h, F => .ok F
  | .str l, ρ, ρ', ν, μ, h, F => .ok F
  | .bl b, ρ, ρ', ν, μ, h, F => .ok F
  | .non, ρ, ρ', ν, μ, h, F => .ok F
  | .glob g, ρ, ρ', ν, μ, h, F => by
    show RR σ (ren σ) μ (match V.globs[g]? with | some d => R.ok d ν | none => .err) (match V'.globs[g]? with | some d => R.ok d μ | none => .err)
    rw [hv.globs]
    cases e : V.globs[g]? with
    | none => exact RR.err
    | some d => exact .ok' F (hv.clo g d e).symm
  | .bin o m a b, ρ, ρ', ν, μ, h, F => RR.bind (frE1 hv a ρ ρ' ν μ h F) fun x ν1 μ1 F1 => RR.bind (frE1 hv b ρ ρ' ν1 μ1 h F1) fun y ν2 μ2 F2 => rr_opB o m x y F2
  | .neg a, ρ, ρ', ν, μ, h, F => RR.bind (frE1 hv a ρ ρ' ν μ h F) fun x ν1 μ1 F1 => by
    cases x <;> first | exact RR.err | exact .ok F1
  | .not a, ρ, ρ', ν, μ, h, F => RR.bind (frE1 hv a ρ ρ' ν μ h F) fun x ν1 μ1 F1 => by
    cases x <;> first | exact RR.err | exact .ok F1
  | .and a b, ρ, ρ', ν, μ, h, F => RR.bind (frE1 hv a ρ ρ' ν μ h F) fun x ν1 μ1 F1 => by
    cases x <;> first | exact RR.err | skip
    rename_i t
    cases t with
    | false => exact .ok F1
    | true => exact RR.bind (frE1 hv b ρ ρ' ν1 μ1 h F1) fun y ν2 μ2 F2 => by cases y <;> first | exact RR.err | exact .ok F2
  | .or a b, ρ, ρ', ν, μ, h, F => RR.bind (frE1 hv a ρ ρ' ν μ h F) fun x ν1 μ1 F1 => by
    cases x <;> first | exact RR.err | skip
    rename_i t
    cases t with
    | true => exact .ok F1
    | false => exact RR.bind (frE1 hv b ρ ρ' ν1 μ1 h F1) fun y ν2 μ2 F2 => by cases y <;> first | exact RR.err | exact .ok F2
  | .cmp o a b, ρ, ρ', ν, μ, h, F => RR.bind (frE1 hv a ρ ρ' ν μ h F) fun x ν1 μ1 F1 => RR.bind (frE1 hv b ρ ρ' ν1 μ1 h F1) fun y ν2 μ2 F2 => rr_opCI hv o x y F2
  | .chain o o' a b c, ρ, ρ', ν, μ, h, F => RR.bind (frE1 hv a ρ ρ' ν μ h F) fun x ν1 μ1 F1 => RR.bind (frE1 hv b ρ ρ' ν1 μ1 h F1) fun y ν2 μ2 F2 => RR.bind (rr_opC o x y F2) fun r ν3 μ3 F3 => by
    cases r <;> first | exact RR.err | skip
    rename_i t
    cases t with
    | false => exact .ok F3
    | true => exact RR.bind (frE1 hv c ρ ρ' ν3 μ3 h F3) fun z ν4 μ4 F4 => rr_opC o' y z F4
  | .isN a, ρ, ρ', ν, μ, h, F => RR.bind (frE1 hv a ρ ρ' ν μ h F) fun x ν1 μ1 F1 => by
    cases x <;> exact .ok F1
  | .notN a, ρ, ρ', ν, μ, h, F => RR.bind (frE1 hv a ρ ρ' ν μ h F) fun x ν1 μ1 F1 => by
    cases x <;> exact .ok F1
  | .ite c a b, ρ, ρ', ν, μ, h, F => RR.bind (frE1 hv c ρ ρ' ν μ h F) fun x ν1 μ1 F1 => by
    cases x <;> first | exact RR.err | skip
    rename_i t
    cases t with
    | false => exact frE1 hv b ρ ρ' ν1 μ1 h F1
    | true => exact frE1 hv a ρ ρ' ν1 μ1 h F1
  | .call f es, ρ, ρ', ν, μ, h, F => RR.bind (frEs1 hv es ρ ρ' ν μ h F) fun ds ν1 μ1 F1 => hv.call f ds ν1 μ1 F1
  | .make c es, ρ, ρ', ν, μ, h, F => RR.bind (frEs1 hv es ρ ρ' ν μ h F) fun ds ν1 μ1 F1 => rr_mkI hv c ds F1
  | .meth o m es, ρ, ρ', ν, μ, h, F => RR.bind (frE1 hv o ρ ρ' ν μ h F) fun x ν1 μ1 F1 => by
    show RR σ (ren σ) μ1 (match methOf V m (look ν1 x) with | some f => (evalEs V es ρ ν1).bind fun ds μ2 => V.call f (x :: ds) μ2 | none => .err) (match methOf V' m (look μ1 (ren σ x)) with | some f => (evalEs V' es ρ' μ1).bind fun ds μ2 => V'.call f (ren σ x :: ds) μ2 | none => .err)
    rw [look_ren F1, methOf_ren hv]
    cases methOf V m (look ν1 x) with
    | none => exact RR.err
    | some f => exact RR.bind (frEs1 hv es ρ ρ' ν1 μ1 h F1) fun ds ν2 μ2 F2 => hv.call f (x :: ds) ν2 μ2 F2
  | .attr o a, ρ, ρ', ν, μ, h, F => RR.bind (frE1 hv o ρ ρ' ν μ h F) fun x ν1 μ1 F1 => rr_getA hv x a F1
  | .b1 k m a, ρ, ρ', ν, μ, h, F => RR.bind (frE1 hv a ρ ρ' ν μ h F) fun x ν1 μ1 F1 => rr_op1I hv k m x F1
  | .max2 a b, ρ, ρ', ν, μ, h, F => RR.bind (frE1 hv a ρ ρ' ν μ h F) fun x ν1 μ1 F1 => RR.bind (frE1 hv b ρ ρ' ν1 μ1 h F1) fun y ν2 μ2 F2 => by
    cases x <;> cases y <;> first | exact RR.err | exact .ok F2
  | .isi a ts, ρ, ρ', ν, μ, h, F => RR.bind (frE1 hv a ρ ρ' ν μ h F) fun x ν1 μ1 F1 => by
    show RR σ (ren σ) μ1 (if isiOk V.cls.length (look ν1 x) = true then R.ok (.bl (ts.any fun t => tagOk t (look ν1 x))) ν1 else .err) (if isiOk V'.cls.length (look μ1 (ren σ x)) = true then R.ok (.bl (ts.any fun t => tagOk t (look μ1 (ren σ x)))) μ1 else .err)
    rw [hv.cls, look_ren F1, isiOk_ren, show (fun t => tagOk t (ren σ (look ν1 x))) = fun t => tagOk t (look ν1 x) from funext fun t => tagOk_ren t _]
    exact .ite fun _ => .ok F1
  | .dzip a b, ρ, ρ', ν, μ, h, F => RR.bind (frE1 hv a ρ ρ' ν μ h F) fun x ν1 μ1 F1 => RR.bind (frE1 hv b ρ ρ' ν1 μ1 h F1) fun y ν2 μ2 F2 => by
    cases x <;> first | exact RR.err | skip
    cases y <;> first | exact RR.err | skip
    rename_i l r
    exact .ok' F2 (by show D.dic (dzips (renS σ l) (renL σ r)) = D.dic (renK σ (dzips l r)); rw [dzips_ren])
  | .bm k o es, ρ, ρ', ν, μ, h, F => RR.bind (frE1 hv o ρ ρ' ν μ h F) fun x ν1 μ1 F1 => by
    show RR σ (ren σ) μ1 (match bmTy k (look ν1 x) with | some t => (evalEs V es ρ ν1).bind fun ds μ2 => opBM k t x ds μ2 | none => .err) (match bmTy k (look μ1 (ren σ x)) with | some t => (evalEs V' es ρ' μ1).bind fun ds μ2 => opBM k t (ren σ x) ds μ2 | none => .err)
    rw [look_ren F1, bmTy_ren]
    cases bmTy k (look ν1 x) with
    | none => exact RR.err
    | some t => exact RR.bind (frEs1 hv es ρ ρ' ν1 μ1 h F1) fun ds ν2 μ2 F2 => rr_opBM k t x ds F2
  | .sub a i, ρ, ρ', ν, μ, h, F => RR.bind (frE1 hv a ρ ρ' ν μ h F) fun x ν1 μ1 F1 => RR.bind (frE1 hv i ρ ρ' ν1 μ1 h F1) fun y ν2 μ2 F2 => rr_opI x y F2
  | .slice m a lo hi, ρ, ρ', ν, μ, h, F => RR.bind (frE1 hv a ρ ρ' ν μ h F) fun x ν1 μ1 F1 => RR.bind (frEs1 hv lo ρ ρ' ν1 μ1 h F1) fun ls ν2 μ2 F2 => by
    show RR σ (ren σ) μ2 (match partOf ls with | some l => (evalEs V hi ρ ν2).bind fun hs μ3 => (match partOf hs with | some h => opSl m x l h μ3 | none => .err) | none => .err)
      (match partOf (renL σ ls) with | some l => (evalEs V' hi ρ' μ2).bind fun hs μ3 => (match partOf hs with | some h => opSl m (ren σ x) l h μ3 | none => .err) | none => .err)
    rw [partOf_ren]
    cases partOf ls with
    | none => exact RR.err
    | some l =>
      refine RR.bind (frEs1 hv hi ρ ρ' ν2 μ2 h F2) fun hs ν3 μ3 F3 => ?_
      show RR σ (ren σ) μ3 (match partOf hs with | some h => opSl m x l h ν3 | none => .err) (match partOf (renL σ hs) with | some h => opSl m (ren σ x) l h μ3 | none => .err)
      rw [partOf_ren]
      cases partOf hs with
      | none => exact RR.err
      | some h => exact rr_opSl m x l h F3
  | .lst m es, ρ, ρ', ν, μ, h, F => RR.bind (frEs1 hv es ρ ρ' ν μ h F) fun ds ν1 μ1 F1 => rr_mkL F1
  | .tup es, ρ, ρ', ν, μ, h, F => RR.bind (frEs1 hv es ρ ρ' ν μ h F) fun ds ν1 μ1 F1 => .ok F1
  | .dic m es, ρ, ρ', ν, μ, h, F => RR.bind (frEs1 hv es ρ ρ' ν μ h F).pure1 fun ds ν1 μ1 F1 => by
    show RR σ (ren σ) μ1 (match dshow ds [] with | some l => mkD m l ν1 | none => .err) (match dshow (renL σ ds) (renK σ []) with | some l => mkD m l μ1 | none => .err)
    rw [dshow_ren _ ds [] (Nat.lt_succ_self _)]
    cases dshow ds [] with
    | none => exact RR.err
    | some l => exact rr_mkD F1
  | .dstar a k v, ρ, ρ', ν, μ, h, F => RR.bind (frE1 hv a ρ ρ' ν μ h F).pure1 fun x ν1 μ1 F1 => RR.bind (frE1 hv k ρ ρ' ν1 μ1 h F1).pure1 fun y ν2 μ2 F2 => RR.bind (frE1 hv v ρ ρ' ν2 μ2 h F2).pure1 fun z ν3 μ3 F3 => by
    unfold dstR
    cases x <;> first | exact RR.err | skip
    rename_i l
    rw [keyOf_ren]
    cases keyOf? y with
    | none => exact RR.err
    | some k =>
      dsimp only [ren]
      rw [lenK, dput_ren]
      exact .ite fun _ => .ok' F3 rfl
  | .lstS m st es, ρ, ρ', ν, μ, h, F => RR.bind (frEs1 hv es ρ ρ' ν μ h F).pure1 fun ds ν1 μ1 F1 => by
    show RR σ (ren σ) μ1 (match spread st ds with | some l => if l.length ≤ lim then mkL m l ν1 else .err | none => .err) (match spread st (renL σ ds) with | some l => if l.length ≤ lim then mkL m l μ1 else .err | none => .err)
    rw [spread_ren]
    cases spread st ds with
    | none => exact RR.err
    | some l =>
      dsimp only [Option.map]
      rw [lenL]
      exact .ite fun _ => rr_mkL F1
  | .tupS st es, ρ, ρ', ν, μ, h, F => RR.bind (frEs1 hv es ρ ρ' ν μ h F).pure1 fun ds ν1 μ1 F1 => by
    show RR σ (ren σ) μ1 (match spread st ds with | some l => if l.length ≤ lim then R.ok (D.tup l) ν1 else .err | none => .err) (match spread st (renL σ ds) with | some l => if l.length ≤ lim then R.ok (D.tup l) μ1 else .err | none => .err)
    rw [spread_ren]
    cases spread st ds with
    | none => exact RR.err
    | some l =>
      dsimp only [Option.map]
      rw [lenL]
      exact .ite fun _ => .ok F1
  | .lvals m a, ρ, ρ', ν, μ, h, F => RR.bind (frE1 hv a ρ ρ' ν μ h F) fun x ν1 μ1 F1 => by
    show RR σ (ren σ) μ1 (match look ν1 x with | .dic l => mkL m (l.map (·.2)) ν1 | _ => .err) (match look μ1 (ren σ x) with | .dic l => mkL m (l.map (·.2)) μ1 | _ => .err)
    rw [look_ren F1]
    cases look ν1 x with
    | dic l =>
      show RR σ (ren σ) μ1 (mkL m (l.map (·.2)) ν1) (mkL m ((renK σ l).map (·.2)) μ1)
      rw [show (renK σ l).map (·.2) = renL σ (l.map (·.2)) from by rw [renK_map, renL_map, List.map_map, List.map_map]; rfl]
      exact rr_mkL F1
    | _ => exact RR.err
  | .lc m own t k it ifs e, ρ, ρ', ν, μ, h, F => RR.bind (frEs1 hv it ρ ρ' ν μ h F) fun xs ν1 μ1 F1 => by
    try dsimp only
    rw [items_ren (ν := ν1)]
    cases itemsOf k xs ν1 with
    | none => exact RR.err
    | some ds =>
      refine RR.bind (rr_lc (fun d ν2 μ2 F2 => ?_) ds [] ν1 μ1 F1).pure1 fun l ν5 μ5 F5 => rr_mkL F5
      have hb := bindT_rel t d (wipe_rel own h)
      cases e0 : bindT t d (wipeE ρ own) with
      | none => exact RR.err
      | some ρ1 =>
        rw [e0] at hb
        obtain ⟨ρ1', e1, h1⟩ := hb
        rw [e1]
        exact RR.bind (frEs1 hv ifs ρ1 ρ1' ν2 μ2 h1 F2) fun bs ν3 μ3 F3 => rr_ifs (RR.bind (frE1 hv e ρ1 ρ1' ν3 μ3 h1 F3) fun y ν4 μ4 F4 => .ok F4) (.ok F3)
  | .lc2 m own t k it own2 t2 k2 it2 e, ρ, ρ', ν, μ, h, F => RR.bind (frEs1 hv it ρ ρ' ν μ h F) fun xs ν1 μ1 F1 => by
    try dsimp only
    rw [items_ren (ν := ν1)]
    cases itemsOf k xs ν1 with
    | none => exact RR.err
    | some ds =>
      refine RR.bind (rr_lc2 (fun d ν2 μ2 F2 => ?_) ds [] ν1 μ1 F1).pure1 fun l ν5 μ5 F5 => rr_mkL F5
      have hb := bindT_rel t d (wipe_rel own h)
      cases e0 : bindT t d (wipeE ρ own) with
      | none => exact RR.err
      | some ρ1 =>
        rw [e0] at hb
        obtain ⟨ρ1', e1, h1⟩ := hb
        rw [e1]
        refine RR.bind (frEs1 hv it2 ρ1 ρ1' ν2 μ2 h1 F2) fun xs2 ν3 μ3 F3 => ?_
        rw [items_ren (ν := ν3)]
        cases itemsOf k2 xs2 ν3 with
        | none => exact RR.err
        | some ds2 =>
          refine rr_lc (fun d2 ν4 μ4 F4 => ?_) ds2 [] ν3 μ3 F3
          have hb2 := bindT_rel t2 d2 (wipe_rel own2 h1)
          cases e2 : bindT t2 d2 (wipeE ρ1 own2) with
          | none => exact RR.err
          | some ρ2 =>
            rw [e2] at hb2
            obtain ⟨ρ2', e3, h2⟩ := hb2
            rw [e3]
            exact RR.bind (frE1 hv e ρ2 ρ2' ν4 μ4 h2 F4) fun y ν5 μ5 F5 => .ok F5
  | .dc m own t k it ifs ke ve, ρ, ρ', ν, μ, h, F => RR.bind (frEs1 hv it ρ ρ' ν μ h F) fun xs ν1 μ1 F1 => by
    try dsimp only
    rw [items_ren (ν := ν1)]
    cases itemsOf k xs ν1 with
    | none => exact RR.err
    | some ds =>
      refine RR.bind (rr_dc (fun d ν2 μ2 F2 => ?_) ds [] ν1 μ1 F1).pure1 fun l ν5 μ5 F5 => rr_mkD F5
      have hb := bindT_rel t d (wipe_rel own h)
      cases e0 : bindT t d (wipeE ρ own) with
      | none => exact RR.err
      | some ρ1 =>
        rw [e0] at hb
        obtain ⟨ρ1', e1, h1⟩ := hb
        rw [e1]
        refine RR.bind (frEs1 hv ifs ρ1 ρ1' ν2 μ2 h1 F2) fun bs ν3 μ3 F3 => ?_
        have go : RR σ (Option.map (renKV σ)) μ3 ((evalE V ke ρ1 ν3).bind fun y μ4 => (evalE V ve ρ1 μ4).bind fun z μ5 => match keyOf? y with | some k => .ok (some (k, z)) μ5 | none => .err)
            ((evalE V' ke ρ1' μ3).bind fun y μ4 => (evalE V' ve ρ1' μ4).bind fun z μ5 => match keyOf? y with | some k => .ok (some (k, z)) μ5 | none => .err) := by
          refine RR.bind (frE1 hv ke ρ1 ρ1' ν3 μ3 h1 F3) fun y ν4 μ4 F4 => RR.bind (frE1 hv ve ρ1 ρ1' ν4 μ4 h1 F4) fun z ν5 μ5 F5 => ?_
          rw [keyOf_ren]
          cases keyOf? y with
          | none => exact RR.err
          | some k => exact .ok F5
        exact rr_ifs go (.ok F3)
  | .frz a, ρ, ρ', ν, μ, h, F => RR.bind (frE1 hv a ρ ρ' ν μ h F) fun x ν1 μ1 F1 => rr_freeze x F1
theorem frEs1 (hv : EvR σ V V') : ∀ (z : ZEs) (ρ ρ' : Env) (ν μ : Mu), EnvR σ ρ ρ' → Fr σ ν μ → RR σ (renL σ) μ (evalEs V z ρ ν) (evalEs V' z ρ' μ)
  | .nil, ρ, ρ', ν, μ, h, F => .ok F
  | .cons e es, ρ, ρ', ν, μ, h, F => RR.bind (frE1 hv e ρ ρ' ν μ h F) fun x ν1 μ1 F1 => RR.bind (frEs1 hv es ρ ρ' ν1 μ1 h F1) fun xs ν2 μ2 F2 => .ok F2
end
theorem frE (hv : EvR σ V V') (z : ZE) (ρ : Env) (ν μ : Mu) (F : Fr σ ν μ) : RR σ (ren σ) μ (evalE V z ρ ν) (evalE V' z (renE σ ρ) μ) := frE1 hv z ρ _ ν μ (.refl ρ) F
theorem frEs (hv : EvR σ V V') (z : ZEs) (ρ : Env) (ν μ : Mu) (F : Fr σ ν μ) : RR σ (renL σ) μ (evalEs V z ρ ν) (evalEs V' z (renE σ ρ) μ) := frEs1 hv z ρ _ ν μ (.refl ρ) F
def renFl (σ : Nat → Nat) : Fl → Fl
  | .nx ρ => .nx (renE σ ρ)
  | .rt d => .rt (ren σ d)
theorem rr_for {f f' : D → Env → Mu → R Fl} (h : ∀ d ρ ν μ, Fr σ ν μ → RR σ (renFl σ) μ (f d ρ ν) (f' (ren σ d) (renE σ ρ) μ)) : ∀ (ds : List D) (ρ : Env) (ν μ : Mu), Fr σ ν μ → RR σ (renFl σ) μ (forLoop f ds ρ ν) (forLoop f' (renL σ ds) (renE σ ρ) μ)
  | [], ρ, ν, μ, F => .ok F
  | d :: ds, ρ, ν, μ, F => RR.bind (h d ρ ν μ F) fun r ν1 μ1 F1 => by
    cases r with
    | nx ρ1 => exact rr_for h ds ρ1 ν1 μ1 F1
    | rt x => exact .ok F1
theorem rr_while {c c' : Env → Mu → R D} {f f' : Env → Mu → R Fl} (hc : ∀ ρ ν μ, Fr σ ν μ → RR σ (ren σ) μ (c ρ ν) (c' (renE σ ρ) μ)) (h : ∀ ρ ν μ, Fr σ ν μ → RR σ (renFl σ) μ (f ρ ν) (f' (renE σ ρ) μ)) :
    ∀ (n : Nat) (ρ : Env) (ν μ : Mu), Fr σ ν μ → RR σ (renFl σ) μ (whileLoop c f n ρ ν) (whileLoop c' f' n (renE σ ρ) μ)
  | 0, ρ, ν, μ, F => RR.err
  | n + 1, ρ, ν, μ, F => by
    refine RR.bind (hc ρ ν μ F) fun b ν1 μ1 F1 => ?_
    cases b with
    | bl t =>
      cases t with
      | false => exact .ok F1
      | true =>
        refine RR.bind (h ρ ν1 μ1 F1) fun r ν2 μ2 F2 => ?_
        cases r with
        | nx ρ1 => exact rr_while hc h n ρ1 ν2 μ2 F2
        | rt x => exact .ok F2
    | _ => exact RR.err
theorem fr_asgG (hv : EvR σ V V') (g : ZG) (d : D) (ρ : Env) (ν μ : Mu) (F : Fr σ ν μ) : RR σ (renE σ) μ (asgG V g d ρ ν) (asgG V' g (ren σ d) (renE σ ρ) μ) := by
  cases g with
  | nm i => exact .ok' F (renE_set ρ i (some d))
  | attr o a => exact RR.bind (frE hv o ρ ν μ F) fun x ν1 μ1 F1 => RR.bind (rr_setA hv x a d F1) fun _ ν2 μ2 F2 => .ok F2
  | sub o i => exact RR.bind (frE hv o ρ ν μ F) fun x ν1 μ1 F1 => RR.bind (frE hv i ρ ν1 μ1 F1) fun y ν2 μ2 F2 => RR.bind (rr_setG x y d F2) fun _ ν3 μ3 F3 => .ok F3
theorem fr_asgGs (hv : EvR σ V V') : ∀ (gs : List ZG) (ds : List D) (ρ : Env) (ν μ : Mu), Fr σ ν μ → RR σ (renE σ) μ (asgGs V gs ds ρ ν) (asgGs V' gs (renL σ ds) (renE σ ρ) μ)
  | [], [], ρ, ν, μ, F => .ok F
  | [], _ :: _, ρ, ν, μ, F => RR.err
  | _ :: _, [], ρ, ν, μ, F => RR.err
  | g :: gs, d :: ds, ρ, ν, μ, F => RR.bind (fr_asgG hv g d ρ ν μ F) fun ρ1 ν1 μ1 F1 => fr_asgGs hv gs ds ρ1 ν1 μ1 F1
theorem renE_len (ρ : Env) : (renE σ ρ).length = ρ.length := by unfold renE; rw [List.length_map]
theorem rr_hdl {c : Nat} {pl : List D} {ρ : Env} {ν μ : Mu} (F : Fr σ ν μ) : ∀ hs : List ZHd, RR σ (renFl σ) μ (hdlZ hs c pl ρ ν) (hdlZ hs c (renL σ pl) (renE σ ρ) μ)
  | [] => ⟨μ, rfl, F, .refl⟩
  | h :: hs => by
    show RR σ (renFl σ) μ (if h.cls = 0 ∨ h.cls = c then _ else _) (if h.cls = 0 ∨ h.cls = c then _ else _)
    by_cases hc : h.cls = 0 ∨ h.cls = c
    · rw [if_pos hc, if_pos hc]
      cases h with
      | only c' t d =>
        have e : some (obD d) = (some (obD d)).map (ren σ) := by
          cases d with
          | none => rfl
          | some b => rfl
        refine RR.ok' F ?_
        show Fl.nx ((renE σ ρ).set t (some (obD d))) = .nx (renE σ (ρ.set t (some (obD d))))
        rw [← renE_set, ← e]
      | as_ c' e t k =>
        match pl with
        | [] => exact RR.err
        | _ :: _ :: _ => exact RR.err
        | [d] =>
          show RR σ (renFl σ) μ (if e < ρ.length then _ else _) (if e < (renE σ ρ).length then _ else _)
          rw [renE_len]
          by_cases hl : e < ρ.length
          · rw [if_pos hl, if_pos hl]
            refine RR.ok' F ?_
            have e2 : some (hbZ k (ren σ d)) = (some (hbZ k d)).map (ren σ) := by
              cases k <;> rfl
            show Fl.nx (((renE σ ρ).set t (some (hbZ k (ren σ d)))).set e none) = .nx (renE σ ((ρ.set t (some (hbZ k d))).set e none))
            rw [e2, renE_set]
            exact congrArg Fl.nx (renE_set _ e none)
          · rw [if_neg hl]
            exact RR.err
    · rw [if_neg hc, if_neg hc]
      exact rr_hdl F hs
mutual
theorem frS (hv : EvR σ V V') : ∀ (z : ZS) (ρ : Env) (ν μ : Mu), Fr σ ν μ → RR σ (renFl σ) μ (evalS V z ρ ν) (evalS V' z (renE σ ρ) μ)
  | .asg g e, ρ, ν, μ, F => RR.bind (frE hv e ρ ν μ F) fun d ν1 μ1 F1 => RR.bind (fr_asgG hv g d ρ ν1 μ1 F1) fun ρ1 ν2 μ2 F2 => .ok F2
  | .asg2 gs e, ρ, ν, μ, F => RR.bind (frE hv e ρ ν μ F) fun d ν1 μ1 F1 => by
    cases d <;> first | exact RR.err | skip
    dsimp only [ren]
    rw [lenL]
    exact .ite fun _ => RR.bind (fr_asgGs hv gs _ ρ ν1 μ1 F1) fun ρ1 ν2 μ2 F2 => .ok F2
  | .ex e, ρ, ν, μ, F => RR.bind (frE hv e ρ ν μ F) fun d ν1 μ1 F1 => .ok F1
  | .ret e, ρ, ν, μ, F => RR.bind (frE hv e ρ ν μ F) fun d ν1 μ1 F1 => .ok F1
  | .ite c a b, ρ, ν, μ, F => RR.bind (frE hv c ρ ν μ F) fun x ν1 μ1 F1 => by
    cases x <;> first | exact RR.err | skip
    rename_i t
    cases t with
    | false => exact frSs hv b ρ ν1 μ1 F1
    | true => exact frSs hv a ρ ν1 μ1 F1
  | .for_ t k it b, ρ, ν, μ, F => RR.bind (frEs hv it ρ ν μ F) fun xs ν1 μ1 F1 => by
    try dsimp only
    rw [items_ren (ν := ν1)]
    cases itemsOf k xs ν1 with
    | none => exact RR.err
    | some ds =>
      refine rr_for (fun d ρ1 ν2 μ2 F2 => ?_) ds ρ ν1 μ1 F1
      rw [bindT_ren]
      cases bindT t d ρ1 with
      | none => exact RR.err
      | some ρ2 => exact frSs hv b ρ2 ν2 μ2 F2
  | .while_ c b, ρ, ν, μ, F => by
    show RR σ (renFl σ) μ (whileLoop (evalE V c) (evalSs V b) V.wf ρ ν) (whileLoop (evalE V' c) (evalSs V' b) V'.wf (renE σ ρ) μ)
    rw [hv.wf]
    exact rr_while (fun ρ ν μ F => frE hv c ρ ν μ F) (fun ρ ν μ F => frSs hv b ρ ν μ F) V.wf ρ ν μ F
  | .raise, ρ, ν, μ, F => RR.err
  | .asgT t e, ρ, ν, μ, F => RR.bind (frE hv e ρ ν μ F) fun d ν1 μ1 F1 => by
    rw [bindT_ren]
    cases bindT t d ρ with
    | none => exact RR.err
    | some ρ1 => exact .ok F1
  | .rz c e, ρ, ν, μ, F => RR.bind (frE hv e ρ ν μ F) fun d ν1 μ1 F1 => ⟨μ1, rfl, F1, .refl⟩
  | .try_ ne b hs, ρ, ν, μ, F => by
    have h := frSs hv b ρ ν μ F
    show RR σ (renFl σ) μ (match evalSs V b ρ ν with
      | .exc c pl μ1 => if 0 < c ∧ c < ne then hdlZ hs c pl ρ μ1 else .err
      | r => r) (match evalSs V' b (renE σ ρ) μ with
      | .exc c pl μ1 => if 0 < c ∧ c < ne then hdlZ hs c pl (renE σ ρ) μ1 else .err
      | r => r)
    cases er : evalSs V b ρ ν with
    | ok fl m =>
      rw [er] at h
      obtain ⟨μ1, e1, F1, o1⟩ := h
      rw [e1]
      exact ⟨μ1, rfl, F1, o1⟩
    | err => exact RR.err
    | exc c pl m =>
      rw [er] at h
      obtain ⟨μ1, e1, F1, o1⟩ := h
      rw [e1]
      dsimp only
      by_cases hc : 0 < c ∧ c < ne
      · rw [if_pos hc, if_pos hc]
        exact (rr_hdl F1 hs).out o1
      · rw [if_neg hc]
        exact RR.err
  | .frz i, ρ, ν, μ, F => by
    show RR σ (renFl σ) μ (match ρ[i]? with | some (some d) => (freeze d ν).bind fun x μ1 => R.ok (Fl.nx (ρ.set i (some x))) μ1 | _ => .err) (match (renE σ ρ)[i]? with | some (some d) => (freeze d μ).bind fun x μ1 => R.ok (Fl.nx ((renE σ ρ).set i (some x))) μ1 | _ => .err)
    rw [renE_get]
    cases ρ[i]? with
    | none => exact RR.err
    | some o => cases o with
      | none => exact RR.err
      | some d => exact RR.bind (rr_freeze d F) fun x ν1 μ1 F1 => .ok' F1 (congrArg Fl.nx (renE_set ρ i (some x)))
  | .pass, ρ, ν, μ, F => .ok F
theorem frSs (hv : EvR σ V V') : ∀ (z : ZSs) (ρ : Env) (ν μ : Mu), Fr σ ν μ → RR σ (renFl σ) μ (evalSs V z ρ ν) (evalSs V' z (renE σ ρ) μ)
  | .nil, ρ, ν, μ, F => .ok F
  | .cons s r, ρ, ν, μ, F => RR.bind (frS hv s ρ ν μ F) fun f ν1 μ1 F1 => by
    cases f with
    | nx ρ1 => exact frSs hv r ρ1 ν1 μ1 F1
    | rt d => exact .ok F1
end
/-- a table within a table -/
structure TbR (σ : Nat → Nat) (T T' : Tb) : Prop where
  cls : T'.cls = T.cls
  globs : T'.globs = T.globs
  clo : ∀ (g : Nat) (d : D), T.globs[g]? = some d → ren σ d = d
  wf : T'.wf = T.wf
  fns : ∀ (f : Nat) (fi : FnI), T.fns[f]? = some fi → T'.fns[f]? = some fi ∨ ∀ n ds μ, callN T (n + 1) f ds μ = .err
theorem frN {T T' : Tb} (ht : TbR σ T T') : ∀ (n k : Nat), EvR σ ⟨T.cls, T.globs, T.wf, callN T n⟩ ⟨T'.cls, T'.globs, T'.wf, callN T' (n + k)⟩
  | 0, k => ⟨ht.cls, ht.globs, ht.clo, ht.wf, fun f ds ν μ F => trivial⟩
  | n + 1, k => by
    refine ⟨ht.cls, ht.globs, ht.clo, ht.wf, fun f ds ν μ F => ?_⟩
    show RR σ (ren σ) μ (callN T (n + 1) f ds ν) (callN T' (n + 1 + k) f (renL σ ds) μ)
    rw [show n + 1 + k = n + k + 1 by omega]
    have e0 : ∀ (T : Tb) n ds μ, callN T (n + 1) f ds μ = (match T.fns[f]? with
      | some fi => if ds.length = fi.np then
          (evalSs ⟨T.cls, T.globs, T.wf, callN T n⟩ fi.body (ds.map some ++ List.replicate (fi.ns - fi.np) none) μ).bind fun r μ1 => match r with
          | .nx _ => .ok .non μ1
          | .rt d => .ok d μ1
        else .err
      | none => .err) := fun _ _ _ _ => rfl
    cases e : T.fns[f]? with
    | none => rw [e0 T, e]; exact RR.err
    | some fi =>
      rcases ht.fns f fi e with h | h
      · rw [e0 T, e0 T', e, h]
        dsimp only
        rw [lenL]
        refine .ite fun _ => RR.bind (g := renFl σ) ?_ fun r ν1 μ1 F1 => ?_
        · have hr : (renL σ ds).map some ++ List.replicate (fi.ns - fi.np) none = renE σ (ds.map some ++ List.replicate (fi.ns - fi.np) none) := by
            unfold renE
            rw [List.map_append, List.map_replicate, renL_map, List.map_map, List.map_map]
            rfl
          rw [hr]
          exact frSs (frN ht n k) fi.body _ ν μ F
        · cases r with
          | nx ρ => exact .ok F1
          | rt d => exact .ok F1
      · rw [h n ds ν]
        exact RR.err
end
end Z

end
section
set_option maxHeartbeats 4000000
set_option autoImplicit false
/-! ZE1: closed runs, done at the empty store and carried over. -/
namespace ZQ
open L2 Z
/-! ### no cells in it; equality -/
mutual
def clD : D → Bool
  | .non => true
  | .bl _ => true
  | .int _ => true
  | .str _ => true
  | .tup l => clL l
  | .lst l => clL l
  | .dic l => clK l
  | .ins _ l => clL l
  | .ref _ => false
  | .flst l => clL l
  | .kd l => clS l
def clL : List D → Bool
  | [] => true
  | d :: l => clD d && clL l
def clK : List (DK × D) → Bool
  | [] => true
  | (_, d) :: l => clD d && clK l
def clS : List (List Nat × D) → Bool
  | [] => true
  | (_, d) :: l => clD d && clS l
end
section
variable {σ : Nat → Nat}
mutual
theorem ren_cl : ∀ {d : D}, clD d = true → ren σ d = d
  | .non, _ => rfl
  | .bl _, _ => rfl
  | .int _, _ => rfl
  | .str _, _ => rfl
  | .tup l, h => congrArg D.tup (renL_cl h)
  | .lst l, h => congrArg D.lst (renL_cl h)
  | .dic l, h => congrArg D.dic (renK_cl h)
  | .ins c l, h => congrArg (D.ins c) (renL_cl h)
  | .ref _, h => by cases h
  | .flst l, h => congrArg D.flst (renL_cl h)
  | .kd l, h => congrArg D.kd (renS_cl h)
theorem renL_cl : ∀ {l : List D}, clL l = true → renL σ l = l
  | [], _ => rfl
  | d :: l, h => by
    obtain ⟨h1, h2⟩ := Bool.and_eq_true_iff.mp (show (clD d && clL l) = true from h)
    show ren σ d :: renL σ l = _
    rw [ren_cl h1, renL_cl h2]
theorem renK_cl : ∀ {l : List (DK × D)}, clK l = true → renK σ l = l
  | [], _ => rfl
  | (k, d) :: l, h => by
    obtain ⟨h1, h2⟩ := Bool.and_eq_true_iff.mp (show (clD d && clK l) = true from h)
    show (k, ren σ d) :: renK σ l = _
    rw [ren_cl h1, renK_cl h2]
theorem renS_cl : ∀ {l : List (List Nat × D)}, clS l = true → renS σ l = l
  | [], _ => rfl
  | (k, d) :: l, h => by
    obtain ⟨h1, h2⟩ := Bool.and_eq_true_iff.mp (show (clD d && clS l) = true from h)
    show (k, ren σ d) :: renS σ l = _
    rw [ren_cl h1, renS_cl h2]
end
end
mutual
def beqD : D → D → Bool
  | .non, .non => true
  | .bl a, .bl b => decide (a = b)
  | .int a, .int b => decide (a = b)
  | .str a, .str b => decide (a = b)
  | .tup a, .tup b => beqL a b
  | .lst a, .lst b => beqL a b
  | .dic a, .dic b => beqK a b
  | .ins c a, .ins c' b => decide (c = c') && beqL a b
  | .flst a, .flst b => beqL a b
  | _, _ => false
def beqL : List D → List D → Bool
  | [], [] => true
  | a :: l, b :: r => beqD a b && beqL l r
  | _, _ => false
def beqK : List (DK × D) → List (DK × D) → Bool
  | [], [] => true
  | (k, a) :: l, (k', b) :: r => decide (k = k') && beqD a b && beqK l r
  | _, _ => false
end
mutual
theorem beqD_eq : ∀ {a b : D}, beqD a b = true → a = b
  | .non, b, h => by cases b <;> first | rfl | cases h
  | .bl a, b, h => by cases b <;> first | (rw [show a = _ from of_decide_eq_true h]) | cases h
  | .int a, b, h => by cases b <;> first | (rw [show a = _ from of_decide_eq_true h]) | cases h
  | .str a, b, h => by cases b <;> first | (rw [show a = _ from of_decide_eq_true h]) | cases h
  | .tup a, b, h => by cases b <;> first | (rw [beqL_eq (a := a) h]) | cases h
  | .lst a, b, h => by cases b <;> first | (rw [beqL_eq (a := a) h]) | cases h
  | .dic a, b, h => by cases b <;> first | (rw [beqK_eq (a := a) h]) | cases h
  | .ins c a, b, h => by
    cases b with
    | ins c' b =>
      obtain ⟨h1, h2⟩ := Bool.and_eq_true_iff.mp (show (decide (c = c') && beqL a b) = true from h)
      rw [show c = c' from of_decide_eq_true h1, beqL_eq h2]
    | _ => cases h
  | .ref n, b, h => by cases b <;> cases h
  | .flst a, b, h => by cases b <;> first | (rw [beqL_eq (a := a) h]) | cases h
  | .kd l, b, h => by cases b <;> cases h
theorem beqL_eq : ∀ {a b : List D}, beqL a b = true → a = b
  | [], b, h => by cases b <;> first | rfl | cases h
  | x :: l, b, h => by
    cases b with
    | nil => cases h
    | cons y r =>
      obtain ⟨h1, h2⟩ := Bool.and_eq_true_iff.mp (show (beqD x y && beqL l r) = true from h)
      rw [beqD_eq h1, beqL_eq h2]
theorem beqK_eq : ∀ {a b : List (DK × D)}, beqK a b = true → a = b
  | [], b, h => by cases b <;> first | rfl | cases h
  | (k, x) :: l, b, h => by
    cases b with
    | nil => cases h
    | cons y r =>
      obtain ⟨k', y⟩ := y
      obtain ⟨h1, h2⟩ := Bool.and_eq_true_iff.mp (show (decide (k = k') && beqD x y && beqK l r) = true from h)
      obtain ⟨h3, h4⟩ := Bool.and_eq_true_iff.mp h1
      rw [show k = k' from of_decide_eq_true h3, beqD_eq h4, beqK_eq h2]
end
theorem frNil (μ : Mu) : Fr (fun n => μ.length + n) [] μ :=
  ⟨fun a b h => by have h' : μ.length + a = μ.length + b := h; omega, fun n => by rw [List.getElem?_eq_none (show μ.length ≤ μ.length + n by omega)]; rfl, fun i => by show μ.length + (0 + i) = _; omega⟩
theorem din_cl {μ : Mu} {x : D} {l : List D} (hx : clD x = true) (hl : clL l = true) : din μ x l = din [] x l := by
  have h := din_ren (frNil μ) x l
  rw [ren_cl hx, renL_cl hl] at h
  exact h
theorem deq_cl {μ : Mu} {x y : D} (hx : clD x = true) (hy : clD y = true) : deq μ x y = deq [] x y := by
  have h := deq_ren (frNil μ) x y
  rw [ren_cl hx, ren_cl hy] at h
  exact h
def clT (T : Tb) : Bool := T.globs.all clD
def isOk (r : R D) (d : D) : Bool := match r with
  | .ok x _ => beqD x d
  | _ => false
theorem isOk_eq {r : R D} {d : D} (h : isOk r d = true) : ∃ m, r = .ok d m := by
  cases r with
  | ok x m => exact ⟨m, by rw [show x = d from beqD_eq h]⟩
  | exc c pl m => cases h
  | err => cases h
theorem out_pre {μ m : Mu} (o : Out (fun n => μ.length + n) μ m) : ∃ t, m = μ ++ t := by
  refine ⟨m.drop μ.length, List.ext_getElem? fun j => ?_⟩
  by_cases h : j < μ.length
  · rw [List.getElem?_append_left h]
    exact o j fun n e => by dsimp only at e; omega
  · rw [List.getElem?_append_right (by omega), List.getElem?_drop]
    congr 1
    omega
theorem tbR_cl {T : Tb} (h : clT T = true) (σ : Nat → Nat) : TbR σ T T := ⟨rfl, rfl, fun g d e => ren_cl (List.all_eq_true.mp h d (List.mem_of_getElem? e)), rfl, fun f fi e => .inl e⟩
/-- a call with closed arguments, done at the empty store -/
theorem call_cl {T : Tb} {n f : Nat} {ds : List D} {d : D} (hT : clT T = true) (h : isOk (callN T n f ds []) d = true) (hds : clL ds = true) (hd : clD d = true) (k : Nat) (μ : Mu) : ∃ t, callN T (n + k) f ds μ = .ok d (μ ++ t) := by
  obtain ⟨m, e⟩ := isOk_eq h
  have r := (frN (tbR_cl hT (fun n => μ.length + n)) n k).call f ds [] μ (frNil μ)
  dsimp only at r
  rw [e, renL_cl hds] at r
  obtain ⟨μ', e2, F, o⟩ := r
  rw [ren_cl hd] at e2
  obtain ⟨t, rfl⟩ := out_pre o
  exact ⟨t, e2⟩
/-- what one knows, the other knows -/
def leE : Z.Env → Z.Env → Prop
  | [], [] => True
  | none :: r, _ :: r' => leE r r'
  | some d :: r, some d' :: r' => d = d' ∧ leE r r'
  | _, _ => False
theorem leE_get : ∀ {ρ ρ' : Z.Env}, leE ρ ρ' → ρ'.length = ρ.length ∧ ∀ (i : Nat) (d : D), ρ[i]? = some (some d) → ρ'[i]? = some (some d)
  | [], [], _ => ⟨rfl, fun i d h => by simp at h⟩
  | none :: r, x :: r', h => by
    obtain ⟨h1, h2⟩ := leE_get (ρ := r) (ρ' := r') h
    refine ⟨by rw [List.length_cons, List.length_cons, h1], fun i d hi => ?_⟩
    cases i with
    | zero => cases hi
    | succ i => exact h2 i d hi
  | some d :: r, some d' :: r', h => by
    obtain ⟨h1, h2⟩ := leE_get (ρ := r) (ρ' := r') h.2
    refine ⟨by rw [List.length_cons, List.length_cons, h1], fun i e hi => ?_⟩
    cases i with
    | zero => cases hi; rw [h.1] <;> rfl
    | succ i => exact h2 i e hi
  | [], _ :: _, h => h.elim
  | none :: _, [], h => h.elim
  | some _ :: _, [], h => h.elim
  | some _ :: _, none :: _, h => h.elim
def clE (ρ : Z.Env) : Bool := ρ.all fun o => match o with | some d => clD d | none => true
theorem envR_cl {ρ ρ' : Z.Env} {σ : Nat → Nat} (hρ : clE ρ = true) (le : leE ρ ρ') : EnvR σ ρ ρ' := by
  obtain ⟨h1, h2⟩ := leE_get le
  refine ⟨h1, fun i d hi => ?_⟩
  rw [h2 i d hi, ren_cl (List.all_eq_true.mp hρ _ (List.mem_of_getElem? hi))]
/-- an expression over closed values -/
theorem eval_cl {T : Tb} {n : Nat} {z : ZE} {ρ ρ' : Z.Env} {d : D} (hT : clT T = true) (h : isOk (evalE ⟨T.cls, T.globs, T.wf, callN T n⟩ z ρ []) d = true) (hρ : clE ρ = true) (le : leE ρ ρ') (hd : clD d = true) (k : Nat) (μ : Mu) :
    ∃ t, evalE ⟨T.cls, T.globs, T.wf, callN T (n + k)⟩ z ρ' μ = .ok d (μ ++ t) := by
  obtain ⟨m, e⟩ := isOk_eq h
  have r := frE1 (frN (tbR_cl hT (fun n => μ.length + n)) n k) z ρ ρ' [] μ (envR_cl hρ le) (frNil μ)
  rw [e] at r
  obtain ⟨μ', e2, F, o⟩ := r
  rw [ren_cl hd] at e2
  obtain ⟨t, rfl⟩ := out_pre o
  exact ⟨t, e2⟩
theorem lc_cl {V : Ev} {own : List Nat} {t : ZT} {e : ZE} {ρ : Z.Env} {φ : D → D} : ∀ (ds acc : List D) (μ : Mu), (∀ d ∈ ds, ∀ μ, ∃ g, lcFn V own t .nil e ρ d μ = .ok (some (φ d)) (μ ++ g)) → acc.length + ds.length < lim → ∃ g, lcLoop (lcFn V own t .nil e ρ) ds acc μ = .ok (acc ++ ds.map φ) (μ ++ g)
  | [], acc, μ, _, _ => ⟨[], by rw [List.append_nil, List.map_nil, List.append_nil] <;> rfl⟩
  | d :: ds, acc, μ, h, hl => by
    obtain ⟨g1, e1⟩ := h d (List.mem_cons_self ..) μ
    obtain ⟨g2, e2⟩ := lc_cl ds (acc ++ [φ d]) (μ ++ g1) (fun d hd => h d (List.mem_cons_of_mem _ hd)) (by simp at hl ⊢; omega)
    refine ⟨g1 ++ g2, ?_⟩
    show (lcFn V own t .nil e ρ d μ).bind _ = _
    rw [e1, bd_ok]
    show (if acc.length < lim then lcLoop (lcFn V own t .nil e ρ) ds (acc ++ [φ d]) (μ ++ g1) else .err) = _
    rw [if_pos (by simp at hl; omega), e2, List.append_assoc, List.append_assoc]
    rfl
end ZQ

end
section
set_option maxHeartbeats 4000000
set_option autoImplicit false
namespace D01
open PySem L2 Z ZQ P01
inductive All2 {α β : Type} (P : α → β → Prop) : List α → List β → Prop
  | nil : All2 P [] []
  | cons {a : α} {b : β} {l : List α} {r : List β} (h : P a b) (t : All2 P l r) : All2 P (a :: l) (b :: r)
/-- a store whose first cells are the script's numbers and the source of draws -/
def hst (xs : List Int) (s i : Int) (g : Mu) : Mu := .lst (xs.map .int) :: .lst [.int s, .ref 0, .int i] :: g
theorem look0 {xs : List Int} {s i : Int} {g : Mu} : look (hst xs s i g) (.ref 0) = .lst (xs.map .int) := rfl
theorem look1 {xs : List Int} {s i : Int} {g : Mu} : look (hst xs s i g) (.ref 1) = .lst [.int s, .ref 0, .int i] := rfl
theorem opI_lst {x : D} {l : List D} {k : Int} {d : D} {μ : Mu} (h : look μ x = .lst l) (e : atI l k = some d) : opI x (.int k) μ = .ok d μ := by
  unfold Z.opI
  rw [h]
  dsimp only
  rw [e]
theorem opI_tup {x : D} {l : List D} {k : Int} {d : D} {μ : Mu} (h : look μ x = .tup l) (e : atI l k = some d) : opI x (.int k) μ = .ok d μ := by
  unfold Z.opI
  rw [h]
  dsimp only
  rw [e]
theorem h0 {xs : List Int} {s i : Int} {g : Mu} : opI (.ref 1) (.int 0) (hst xs s i g) = .ok (.int s) (hst xs s i g) := rfl
theorem h1 {xs : List Int} {s i : Int} {g : Mu} : opI (.ref 1) (.int 1) (hst xs s i g) = .ok (.ref 0) (hst xs s i g) := rfl
theorem h2 {xs : List Int} {s i : Int} {g : Mu} : opI (.ref 1) (.int 2) (hst xs s i g) = .ok (.int i) (hst xs s i g) := rfl
theorem atI_nat {α : Type} {l : List α} {k : Int} {d : α} (h0 : 0 ≤ k) (e : l[k.toNat]? = some d) : atI l k = some d := by
  have hl := (List.getElem?_eq_some_iff.mp e).1
  unfold atI ixN
  rw [if_pos h0, if_pos (by omega)]
  exact e
section
variable {n : Nat}
abbrev V (n : Nat) : Ev := ⟨tb.cls, tb.globs, tb.wf, callN tb n⟩
theorem next_ok {k : Int} (hk : 0 < k) (hk2 : k < 1073741824) (xs : List Int) (s i : Int) (g : Mu) (hx : xs.length ≤ 63) (hi : 0 ≤ i) : ∃ xs' s' i' v, xs'.length ≤ 63 ∧ 0 ≤ i' ∧ 0 ≤ v ∧ v < k ∧ callN tb (n + 1) 11 [.ref 1, .int k] (hst xs s i g) = .ok (.int v) (hst xs' s' i' g) := by
  have lmax : (if (((xs.map D.int).length : Nat) : Int) > 1 then (((xs.map D.int).length : Nat) : Int) else 1) = max 1 (xs.length : Int) := by
    rw [List.length_map]
    split <;> omega
  have hm : 0 < max 1 (xs.length : Int) := by omega
  have j0 : 0 ≤ i % max 1 (xs.length : Int) := Int.emod_nonneg _ (by omega)
  have j1 : i % max 1 (xs.length : Int) < max 1 (xs.length : Int) := Int.emod_lt_of_pos _ hm
  obtain ⟨c, hc, hcx⟩ : ∃ c : Int, (xs.map D.int ++ [D.int 0])[(i % max 1 (xs.length : Int)).toNat]? = some (.int c) ∧ (xs = [] → c = 0) := by
    by_cases hx : xs.length = 0
    · have : xs = [] := List.eq_nil_of_length_eq_zero hx
      subst this
      refine ⟨0, ?_, fun _ => rfl⟩
      have : (i % max 1 (([] : List Int).length : Int)).toNat = 0 := by
        simp at j1 j0 ⊢
        omega
      rw [this]
      rfl
    · have hj : (i % max 1 (xs.length : Int)).toNat < xs.length := by omega
      refine ⟨xs[(i % max 1 (xs.length : Int)).toNat], ?_, fun e => by rw [e] at hx; exact absurd rfl hx⟩
      rw [List.getElem?_append_left (by rw [List.length_map]; exact hj), List.getElem?_map, List.getElem?_eq_getElem hj]
      rfl
  have e1 : evalE (V n) (.sub (.bin .add false (.sub (.var 0) (.int 1)) (.lst false (.cons (.int 0) .nil))) (.bin .mod false (.b1 .int false (.sub (.var 0) (.int 2))) (.max2 (.int 1) (.b1 .len false (.sub (.var 0) (.int 1)))))) [some (.ref 1), some (.int k), none] (hst xs s i g) = .ok (.int c) (hst xs s i g) := by
    have a1 : opB .add false (.ref 0) (.lst [.int 0]) (hst xs s i g) = .ok (.lst (xs.map .int ++ [.int 0])) (hst xs s i g) := by
      show (if (xs.map D.int).length + 1 ≤ lim then mkL false (xs.map .int ++ [.int 0]) (hst xs s i g) else .err) = _
      rw [if_pos (by rw [List.length_map]; unfold lim; omega)]
      rfl
    have a2 : op1I (V n) .len false (.ref 0) (hst xs s i g) = .ok (.int (xs.map D.int).length) (hst xs s i g) := rfl
    have a3 : op1I (V n) .int false (.int i) (hst xs s i g) = .ok (.int i) (hst xs s i g) := rfl
    have a4 : opB .mod false (.int i) (.int (max 1 (xs.length : Int))) (hst xs s i g) = .ok (.int (i % max 1 (xs.length : Int))) (hst xs s i g) := by
      show (if 0 < max 1 (xs.length : Int) then R.ok (D.int _) _ else .err) = _
      rw [if_pos hm]
    have a5 : opI (.lst (xs.map .int ++ [.int 0])) (.int (i % max 1 (xs.length : Int))) (hst xs s i g) = .ok (.int c) (hst xs s i g) := opI_lst rfl (atI_nat j0 hc)
    simp only [ev_sub, ev_bin, ev_b1, ev_max2, ev_int, ev_lst, ev_cons, ev_nil, ev_var, List.getElem?_cons_zero, List.getElem?_cons_succ, bd_ok, h1, h2, mkL, a1, a2, a3, lmax, a4, a5, Bool.false_eq_true, if_false]
  rw [callN_succ (fi := f11) rfl rfl]
  have a6 : opB .pow false (.int 10) (.int 18) (hst xs s i g) = .ok (.int (10 ^ 18)) (hst xs s i g) := rfl
  have a7 : ∀ (x y : Int), opCI (V n) .ge (.int x) (.int y) (hst xs s i g) = .ok (.bl (decide (y ≤ x))) (hst xs s i g) := fun _ _ => rfl
  have a2 : op1I (V n) .len false (.ref 0) (hst xs s i g) = .ok (.int (xs.map D.int).length) (hst xs s i g) := rfl
  have a3 : ∀ i g, op1I (V n) .int false (.int i) g = .ok (.int i) g := fun _ _ => rfl
  by_cases hc10 : 10 ^ 18 ≤ c
  · have hl : 0 < (xs.length : Int) := by
      rcases Nat.eq_zero_or_pos xs.length with h | h
      · have := hcx (List.eq_nil_of_length_eq_zero h)
        subst this
        exact absurd hc10 (by decide)
      · omega
    have a4 : opB .mod false (.int i) (.int ((xs.map D.int).length : Nat)) (hst xs s i g) = .ok (.int (i % (xs.length : Int))) (hst xs s i g) := by
      rw [List.length_map]
      show (if 0 < (xs.length : Int) then R.ok (D.int _) _ else .err) = _
      rw [if_pos hl]
    have a8 : opB .fdiv false (.int c) (.int k) (hst xs s i g) = .ok (.int (c / k)) (hst xs s i g) := by
      show (if 0 < k ∧ k < 1073741824 then R.ok (D.int _) _ else .err) = _
      rw [if_pos ⟨hk, hk2⟩]
    have b0 : 0 ≤ i % (xs.length : Int) := Int.emod_nonneg _ (by omega)
    have b1 : i % (xs.length : Int) < xs.length := Int.emod_lt_of_pos _ hl
    have a9 : setG (.ref 0) (.int (i % (xs.length : Int))) (.int (c / k)) (hst xs s i g) = .ok () (hst (xs.set (i % (xs.length : Int)).toNat (c / k)) s i g) := by
      show (match ixN (xs.map D.int).length (i % (xs.length : Int)) with | some j => R.ok () (List.set _ 0 (.lst ((xs.map D.int).set j (.int (c / k))))) | none => .err) = _
      have e : ixN (xs.map D.int).length (i % (xs.length : Int)) = some (i % (xs.length : Int)).toNat := by
        unfold ixN
        rw [if_pos b0, if_pos (by rw [List.length_map]; exact b1)]
      rw [e]
      show R.ok () (MO.lst ((xs.map D.int).set _ (.int (c / k))) :: _) = R.ok () (MO.lst ((xs.set _ (c / k)).map D.int) :: _)
      rw [List.map_set]
    have a10 : ∀ g, opB .mod false (.int c) (.int k) g = .ok (.int (c % k)) g := fun g => by
      show (if 0 < k then R.ok (D.int _) _ else .err) = _
      rw [if_pos hk]
    refine ⟨xs.set (i % (xs.length : Int)).toNat (c / k), s, i, c % k, by rw [List.length_set]; exact hx, hi, Int.emod_nonneg _ (by omega), Int.emod_lt_of_pos _ hk, ?_⟩
    show ((evalSs (V n) b11 [some (.ref 1), some (.int k), none] (hst xs s i g)).bind _ = _)
    unfold b11
    rw [es_cons, es_asg, e1, bd_ok]
    simp only [asgG, bd_ok, es_cons, es_ite, es_asg, es_ret, ev_sub, ev_cmp, ev_bin, ev_b1, ev_int, ev_var, List.set_cons_zero, List.set_cons_succ, List.getElem?_cons_zero, List.getElem?_cons_succ, h0, h1, h2, a6, a7, decide_eq_true hc10, a2, a3, a4, a8, a9, a10]
  · have a8 : ∀ g, opB .mul false (.int s) (.int 48271) g = .ok (.int (s * 48271)) g := fun _ => rfl
    have a9 : ∀ g, opB .mul false (.int c) (.int 69621) g = .ok (.int (c * 69621)) g := fun _ => rfl
    have a10 : ∀ x y g, opB .add false (.int x) (.int y) g = .ok (.int (x + y)) g := fun _ _ _ => rfl
    have a11 : ∀ x g, opB .mod false (.int x) (.int 2147483647) g = .ok (.int (x % 2147483647)) g := fun _ _ => rfl
    have a12 : ∀ x g, opB .fdiv false (.int x) (.int 7) g = .ok (.int (x / 7)) g := fun _ _ => rfl
    have a13 : ∀ x g, opB .mod false (.int x) (.int k) g = .ok (.int (x % k)) g := fun x g => by
      show (if 0 < k then R.ok (D.int _) _ else .err) = _
      rw [if_pos hk]
    have a14 : ∀ x s, setG (.ref 1) (.int 0) (.int x) (hst xs s i g) = .ok () (hst xs x i g) := fun _ _ => rfl
    have a15 : ∀ x s i, setG (.ref 1) (.int 2) (.int x) (hst xs s i g) = .ok () (hst xs s x g) := fun _ _ _ => rfl
    refine ⟨xs, (s * 48271 + c * 69621 + 11) % 2147483647, i + 1, ((s * 48271 + c * 69621 + 11) % 2147483647 / 7) % k, hx, by omega, Int.emod_nonneg _ (by omega), Int.emod_lt_of_pos _ hk, ?_⟩
    show ((evalSs (V n) b11 [some (.ref 1), some (.int k), none] (hst xs s i g)).bind _ = _)
    unfold b11
    rw [es_cons, es_asg, e1, bd_ok]
    simp only [asgG, bd_ok, es_cons, ess_nil, es_ite, es_asg, es_ret, ev_sub, ev_cmp, ev_bin, ev_b1, ev_int, ev_var, List.set_cons_zero, List.set_cons_succ, List.getElem?_cons_zero, List.getElem?_cons_succ, h0, h1, h2, a6, a7, decide_eq_false hc10, a3, a8, a9, a10, a11, a12, a13, a14, a15]
def Dr (n f : Nat) (as : List D) (P : D → Prop) : Prop := ∀ (xs : List Int) (s i : Int) (g : Mu), xs.length ≤ 63 → 0 ≤ i → ∃ xs' s' i' v, xs'.length ≤ 63 ∧ 0 ≤ i' ∧ P v ∧ callN tb n f (.ref 1 :: as) (hst xs s i g) = .ok v (hst xs' s' i' g)
theorem next_dr {k : Int} (hk : 0 < k) (hk2 : k < 1073741824) : Dr (n + 1) 11 [.int k] fun v => ∃ j : Int, v = .int j ∧ 0 ≤ j ∧ j < k := fun xs s i g hx hi => by
  obtain ⟨xs', s', i', v, h1, h2, h3, h4, e⟩ := next_ok (n := n) hk hk2 xs s i g hx hi
  exact ⟨xs', s', i', .int v, h1, h2, ⟨v, rfl, h3, h4⟩, e⟩
theorem pick_dr {l : List D} (hl : l ≠ []) (h2 : l.length < 1000000) : Dr (n + 2) 13 [.lst l] (· ∈ l) := fun xs s i g hx hi => by
  have hp : 0 < l.length := List.length_pos_iff.mpr hl
  obtain ⟨xs', s', i', v, h1, h2', h3, h4, e⟩ := next_ok (n := n) (k := (l.length : Int)) (by omega) (by omega) xs s i g hx hi
  have hv : v.toNat < l.length := by omega
  refine ⟨xs', s', i', l[v.toNat], h1, h2', List.getElem_mem hv, ?_⟩
  rw [callN_succ (fi := f13) rfl rfl]
  show ((evalSs (V (n + 1)) b13 [some (.ref 1), some (.lst l)] (hst xs s i g)).bind _ = _)
  unfold b13
  have a2 : op1I (V (n + 1)) .len false (.lst l) (hst xs s i g) = .ok (.int (l.length : Nat)) (hst xs s i g) := rfl
  have a3 : opI (.lst l) (.int v) (hst xs' s' i' g) = .ok l[v.toNat] (hst xs' s' i' g) := opI_lst rfl (atI_nat h3 (List.getElem?_eq_getElem hv))
  simp only [es_cons, es_ret, ev_sub, ev_call, ev_cons, ev_nil, ev_b1, ev_var, List.getElem?_cons_zero, List.getElem?_cons_succ, bd_ok, a2, e, a3]
theorem lc_dr {f : D → Mu → R (Option D)} {P : D → D → Prop} (g : Mu) : ∀ (ds acc : List D) (xs : List Int) (s i : Int), xs.length ≤ 63 → 0 ≤ i → acc.length + ds.length < lim → (∀ d ∈ ds, ∀ (xs : List Int) (s i : Int), xs.length ≤ 63 → 0 ≤ i → ∃ xs' s' i' v, xs'.length ≤ 63 ∧ 0 ≤ i' ∧ P d v ∧ f d (hst xs s i g) = .ok (some v) (hst xs' s' i' g)) →
    ∃ xs' s' i' vs, xs'.length ≤ 63 ∧ 0 ≤ i' ∧ All2 P ds vs ∧ lcLoop f ds acc (hst xs s i g) = .ok (acc ++ vs) (hst xs' s' i' g)
  | [], acc, xs, s, i, hx, hi, _, _ => ⟨xs, s, i, [], hx, hi, .nil, by rw [List.append_nil] <;> rfl⟩
  | d :: ds, acc, xs, s, i, hx, hi, hl, h => by
    obtain ⟨x1, s1, i1, v, hx1, hi1, hp, e⟩ := h d (List.mem_cons_self ..) xs s i hx hi
    have hl' : (acc ++ [v]).length + ds.length < lim := by rw [List.length_append]; simp at hl ⊢; omega
    obtain ⟨x2, s2, i2, vs, hx2, hi2, hps, e2⟩ := lc_dr g ds (acc ++ [v]) x1 s1 i1 hx1 hi1 hl' fun d hd => h d (List.mem_cons_of_mem _ hd)
    refine ⟨x2, s2, i2, v :: vs, hx2, hi2, .cons hp hps, ?_⟩
    show (f d (hst xs s i g)).bind _ = _
    rw [e, bd_ok]
    show (if acc.length < lim then lcLoop f ds (acc ++ [v]) (hst x1 s1 i1 g) else .err) = _
    rw [if_pos (by simp at hl; omega), e2, List.append_assoc]
    rfl
def st (x : String) : D := .str (x.toList.map fun c => c.val.toNat)
def parts : List (D × List D) := [(st "copying", [st "share", st "now", st "leave"]), (st "changing", [st "in", st "apart"]), (st "moving", [st "keep", st "now"]), (st "throwing", [st "hold", st "let"]), (st "counting", [st "here", st "all"]), (st "clearing", [st "now", st "asked", st "never"])]
def partsD : D := .lst (parts.map fun q => .tup [q.1, .lst q.2])
theorem parts_ok (μ : Mu) : callN tb (n + 1) 14 [] μ = .ok partsD μ := rfl
/-- lists made of one thing of each list -/
def pickAll : List (List D) → List (List D)
  | [] => [[]]
  | l :: r => l.flatMap fun a => (pickAll r).map fun w => a :: w
theorem mem_pickAll : ∀ {ls : List (List D)} {vs : List D}, All2 (fun l v => v ∈ l) ls vs → vs ∈ pickAll ls
  | _, _, .nil => by show [] ∈ [[]]; exact List.mem_cons_self ..
  | _, _, .cons h t => List.mem_flatMap.mpr ⟨_, h, List.mem_map.mpr ⟨_, mem_pickAll t, rfl⟩⟩
def words : List D := (pickAll (parts.map (·.2))).map .lst
theorem parts_len (q : D × List D) (hq : q ∈ parts) : q.2 ≠ [] ∧ q.2.length < 1000000 := by
  unfold parts at hq
  simp only [List.mem_cons, List.not_mem_nil, or_false] at hq
  rcases hq with rfl | rfl | rfl | rfl | rfl | rfl <;> exact ⟨List.cons_ne_nil _ _, by decide⟩
theorem all2_map {α β γ : Type} {P : α → β → Prop} {f : γ → α} {Q : γ → β → Prop} (h : ∀ a b, P (f a) b → Q a b) {r : List β} : ∀ {l : List γ} , All2 P (l.map f) r → All2 Q l r := by
  induction r with
  | nil => intro l h1; cases l with
    | nil => exact .nil
    | cons a l => cases h1
  | cons b r ih => intro l h1; cases l with
    | nil => cases h1
    | cons a l => cases h1 with
      | cons h2 t => exact .cons (h _ _ h2) (ih t)
theorem all2_map' {α β γ : Type} {P : α → β → Prop} {f : γ → α} : ∀ {l : List γ} {r : List β}, All2 (fun a b => P (f a) b) l r → All2 P (l.map f) r
  | _, _, .nil => .nil
  | _, _, .cons h t => .cons h (all2_map' t)
theorem words1 (xs : List Int) (s i : Int) (g : Mu) (hx : xs.length ≤ 63) (hi : 0 ≤ i) : ∃ xs' s' i' vs, xs'.length ≤ 63 ∧ 0 ≤ i' ∧ All2 (fun (q : D × List D) v => v ∈ q.2) parts vs ∧ callN tb (n + 3) 15 [.ref 1] (hst xs s i g) = .ok (.ref (2 + g.length)) (hst xs' s' i' (g ++ [.lst vs])) := by
  obtain ⟨xs', s', i', vs, h1, h2, h3, e⟩ := lc_dr (f := lcFn (V (n + 2)) [1, 2] (.tp [(.nm 1), (.nm 2)]) .nil (.call 13 (.cons (.var 0) (.cons (.var 2) .nil))) [some (.ref 1), none, none]) (P := fun d v => ∃ q ∈ parts, d = .tup [q.1, .lst q.2] ∧ v ∈ q.2) g (parts.map fun q => .tup [q.1, .lst q.2]) [] xs s i hx hi (by decide) fun d hd xs s i hx hi => by
    obtain ⟨q, hq, rfl⟩ := List.mem_map.mp hd
    have hq2 : q.2 ≠ [] ∧ q.2.length < 1000000 := parts_len q hq
    obtain ⟨x1, s1, i1, v, a1, a2, a3, e⟩ := pick_dr (n := n) hq2.1 hq2.2 xs s i g hx hi
    refine ⟨x1, s1, i1, v, a1, a2, ⟨q, hq, rfl, a3⟩, ?_⟩
    refine lcFn_nil rfl ?_
    show callN tb (n + 2) 13 [.ref 1, .lst q.2] (hst xs s i g) = _
    exact e
  refine ⟨xs', s', i', vs, h1, h2, ?_, ?_⟩
  · refine all2_map (f := fun q : D × List D => D.tup [q.1, .lst q.2]) (fun q v h => ?_) h3
    obtain ⟨q', _, e, hv⟩ := h
    injection e with e
    injection e with _ e
    injection e with e _
    injection e with e
    rw [e]
    exact hv
  · rw [callN_succ (fi := f15) rfl rfl]
    show ((evalSs (V (n + 2)) b15 [some (.ref 1), none, none] (hst xs s i g)).bind _ = _)
    unfold b15
    have it : evalEs (V (n + 2)) (.cons (.call 14 .nil) .nil) [some (.ref 1), none, none] (hst xs s i g) = .ok [partsD] (hst xs s i g) := by
      show ((callN tb (n + 2) 14 [] (hst xs s i g)).bind _) = _
      rw [parts_ok] <;> rfl
    rw [es_cons, es_ret, ev_lc1 it rfl, e]
    have ln : (hst xs' s' i' g).length = 2 + g.length := by
      show g.length + 1 + 1 = _
      omega
    show ((((mkL true ([] ++ vs) (hst xs' s' i' g)).bind _).bind _).bind _) = _
    rw [List.nil_append]
    show (R.ok (D.ref (hst xs' s' i' g).length) (hst xs' s' i' g ++ [MO.lst vs])) = _
    rw [ln]
    rfl
end
end D01

end
section
set_option maxHeartbeats 4000000
set_option autoImplicit false
/-! WM: worlds in plain Lean, and how they stand in the interpreter. -/
namespace WM
open PySem Z ZQ L2
def sHere : List Nat := [104, 101, 114, 101]
def sThrown : List Nat := [116, 104, 114, 111, 119, 110]
def sAbsent : List Nat := [97, 98, 115, 101, 110, 116]
def sNarrow : List Nat := [110, 97, 114, 114, 111, 119]
def sWide : List Nat := [119, 105, 100, 101]
def sShare : List Nat := [115, 104, 97, 114, 101]
def sNow : List Nat := [110, 111, 119]
def sApart : List Nat := [97, 112, 97, 114, 116]
def sHold : List Nat := [104, 111, 108, 100]
def sAll : List Nat := [97, 108, 108]
def sAsked : List Nat := [97, 115, 107, 101, 100]
/-- a thing -/
structure It where
  here : Bool
  wide : Bool
  held : Option Int
  bare : Option Int
  deriving DecidableEq
/-- a world: things by names, contents of files by numbers -/
structure Wd where
  t : List (DK × It)
  f : List (Int × Int)
  lost : Bool
/-- a rule's words -/
structure Ru where
  cp : List Nat
  ch : List Nat
  mv : List Nat
  th : List Nat
  ct : List Nat
  cl : List Nat
def oD : Option Int → D
  | some i => .int i
  | none => .non
def hD (b : Bool) : D := .str (if b then sHere else sThrown)
def wD (b : Bool) : D := .str (if b then sWide else sNarrow)
def encI (i : It) : D := .ins 1 [hD i.here, wD i.wide, oD i.held, oD i.bare]
def encT (t : List (DK × It)) : List (DK × D) := t.map fun q => (q.1, encI q.2)
def encF (f : List (Int × Int)) : List (DK × D) := f.map fun q => (DK.i q.1, D.int q.2)
def encW (w : Wd) : D := .ins 2 [.dic (encT w.t), .dic (encF w.f), .bl w.lost]
def encRL (r : Ru) : List (DK × D) := [(.s [99, 111, 112, 121, 105, 110, 103], .str r.cp), (.s [99, 104, 97, 110, 103, 105, 110, 103], .str r.ch), (.s [109, 111, 118, 105, 110, 103], .str r.mv), (.s [116, 104, 114, 111, 119, 105, 110, 103], .str r.th), (.s [99, 111, 117, 110, 116, 105, 110, 103], .str r.ct), (.s [99, 108, 101, 97, 114, 105, 110, 103], .str r.cl)]
def encR (r : Ru) : D := .ins 0 [.dic (encRL r)]
/-! ### dicts with any values -/
section
variable {κ β γ : Type} [DecidableEq κ]
def kget (l : List (κ × β)) (k : κ) : Option β := (l.find? fun q => decide (q.1 = k)).map (·.2)
def kput (l : List (κ × β)) (k : κ) (v : β) : List (κ × β) :=
  if (l.any fun q => decide (q.1 = k)) = true then l.map (fun q => if q.1 = k then (q.1, v) else q) else l ++ [(k, v)]
theorem kget_cons (l : List (κ × β)) (q : κ × β) (k : κ) : kget (q :: l) k = if q.1 = k then some q.2 else kget l k := by
  unfold kget
  rw [List.find?_cons]
  by_cases h : q.1 = k
  · rw [if_pos h, decide_eq_true h]; rfl
  · rw [if_neg h, decide_eq_false h]
theorem kget_none (l : List (κ × β)) (k : κ) : kget l k = none ↔ ∀ q ∈ l, q.1 ≠ k := by
  induction l with
  | nil => exact ⟨fun _ q h => (by cases h), fun _ => rfl⟩
  | cons a l ih =>
    rw [kget_cons]
    by_cases h : a.1 = k
    · rw [if_pos h]
      exact ⟨fun e => (by cases e), fun e => absurd h (e a (List.mem_cons_self ..))⟩
    · rw [if_neg h, ih]
      exact ⟨fun e q hq => by
        rcases List.mem_cons.mp hq with rfl | hq
        · exact h
        · exact e q hq, fun e q hq => e q (List.mem_cons_of_mem _ hq)⟩
theorem any_get (l : List (κ × β)) (k : κ) : (l.any fun q => decide (q.1 = k)) = (kget l k).isSome := by
  induction l with
  | nil => rfl
  | cons a l ih =>
    rw [List.any_cons, kget_cons, ih]
    by_cases h : a.1 = k
    · rw [if_pos h, decide_eq_true h]; rfl
    · rw [if_neg h, decide_eq_false h]; rfl
theorem kget_mem {l : List (κ × β)} {k : κ} {v : β} (h : kget l k = some v) : (k, v) ∈ l := by
  induction l with
  | nil => cases h
  | cons a l ih =>
    rw [kget_cons] at h
    by_cases e : a.1 = k
    · rw [if_pos e] at h
      cases h
      rw [← e]
      exact List.mem_cons_self ..
    · rw [if_neg e] at h
      exact List.mem_cons_of_mem _ (ih h)
theorem kget_of_mem {l : List (κ × β)} (nd : (l.map (·.1)).Nodup) {k : κ} {v : β} (h : (k, v) ∈ l) : kget l k = some v := by
  induction l with
  | nil => cases h
  | cons a l ih =>
    rw [List.map_cons, List.nodup_cons] at nd
    rw [kget_cons]
    rcases List.mem_cons.mp h with e | h
    · rw [← e, if_pos rfl]
    · rw [if_neg fun e => nd.1 (by rw [e]; exact List.mem_map.mpr ⟨_, h, rfl⟩), ih nd.2 h]
theorem kput_new {l : List (κ × β)} {k : κ} {v : β} (h : kget l k = none) : kput l k v = l ++ [(k, v)] := by
  unfold kput
  rw [any_get, h]
  rfl
theorem kput_len (l : List (κ × β)) (k : κ) (v : β) : (kput l k v).length ≤ l.length + 1 := by
  unfold kput
  split
  · rw [List.length_map]; omega
  · rw [List.length_append]; exact Nat.le_refl _
theorem kput_keys (l : List (κ × β)) (k : κ) (v : β) : (kput l k v).map (·.1) = if (kget l k).isSome then l.map (·.1) else l.map (·.1) ++ [k] := by
  unfold kput
  rw [any_get]
  split
  · rw [List.map_map]
    refine List.map_congr_left fun q _ => ?_
    show (if q.1 = k then (q.1, v) else q).1 = q.1
    split <;> rfl
  · rw [List.map_append]
    rfl
theorem mem_keys {l : List (κ × β)} {k : κ} : k ∈ l.map (·.1) ↔ (kget l k).isSome = true := by
  rw [← any_get, List.any_eq_true, List.mem_map]
  exact ⟨fun ⟨q, h1, h2⟩ => ⟨q, h1, decide_eq_true h2⟩, fun ⟨q, h1, h2⟩ => ⟨q, h1, of_decide_eq_true h2⟩⟩
theorem kput_nodup {l : List (κ × β)} {k : κ} {v : β} (nd : (l.map (·.1)).Nodup) : ((kput l k v).map (·.1)).Nodup := by
  rw [kput_keys]
  split
  · exact nd
  · rename_i h
    refine List.nodup_append.mpr ⟨nd, by simp, fun a ha b hb => ?_⟩
    rw [List.mem_singleton.mp hb]
    intro e
    rw [e] at ha
    exact h (mem_keys.mp ha)
theorem kget_put (l : List (κ × β)) (k j : κ) (v : β) : kget (kput l k v) j = if k = j then some v else kget l j := by
  unfold kput
  rw [any_get]
  split
  · rename_i h
    induction l with
    | nil => cases h
    | cons a l ih =>
      rw [List.map_cons, kget_cons, kget_cons]
      rw [kget_cons] at h
      by_cases e : a.1 = k
      · rw [if_pos e]
        show (if a.1 = j then some v else kget (l.map _) j) = _
        by_cases e2 : k = j
        · rw [if_pos (e.trans e2), if_pos e2]
        · rw [if_neg (by rw [e]; exact e2), if_neg e2, if_neg (by rw [e]; exact e2)]
          -- behind it nothing is of that key that matters
          clear ih h
          induction l with
          | nil => rfl
          | cons b l ih2 =>
            rw [List.map_cons, kget_cons, kget_cons]
            by_cases e3 : b.1 = k
            · rw [if_pos e3]
              show (if b.1 = j then some v else _) = _
              rw [if_neg (by rw [e3]; exact e2), if_neg (by rw [e3]; exact e2), ih2]
            · rw [if_neg e3]
              rw [ih2]
      · rw [if_neg e]
        rw [if_neg e] at h
        rw [ih h]
        by_cases e2 : k = j
        · rw [if_pos e2, if_pos e2, if_neg (by rw [← e2]; exact e)]
        · rw [if_neg e2, if_neg e2]
  · rename_i h
    induction l with
    | nil =>
      show kget [(k, v)] j = _
      rw [kget_cons]
    | cons a l ih =>
      rw [kget_cons] at h
      rw [List.cons_append, kget_cons, kget_cons]
      by_cases e : a.1 = k
      · rw [if_pos e] at h
        exact absurd rfl h
      · rw [if_neg e] at h
        rw [ih h]
        by_cases e2 : k = j
        · rw [if_pos e2, if_pos e2, if_neg (by rw [← e2]; exact e)]
        · rw [if_neg e2, if_neg e2]
theorem kget_map (g : β → γ) (l : List (κ × β)) (k : κ) : kget (l.map fun q => (q.1, g q.2)) k = (kget l k).map g := by
  induction l with
  | nil => rfl
  | cons a l ih =>
    rw [List.map_cons, kget_cons, kget_cons, ih]
    split <;> rfl
theorem kput_map (g : β → γ) (l : List (κ × β)) (k : κ) (v : β) : (kput l k v).map (fun q => (q.1, g q.2)) = kput (l.map fun q => (q.1, g q.2)) k (g v) := by
  unfold kput
  rw [any_get, any_get, kget_map]
  have e : ((kget l k).map g).isSome = (kget l k).isSome := by cases kget l k <;> rfl
  rw [e]
  split
  · rw [List.map_map, List.map_map]
    refine List.map_congr_left fun q _ => ?_
    show ((if q.1 = k then (q.1, v) else q).1, g (if q.1 = k then (q.1, v) else q).2) = if q.1 = k then (q.1, g v) else (q.1, g q.2)
    split <;> rfl
  · rw [List.map_append]
    rfl
theorem kget_filter {p : κ × β → Bool} (l : List (κ × β)) (k : κ) (nd : (l.map (·.1)).Nodup) : kget (l.filter p) k = (kget l k).bind fun v => if p (k, v) then some v else none := by
  induction l with
  | nil => rfl
  | cons a l ih =>
    obtain ⟨a1, a2⟩ := a
    rw [List.map_cons, List.nodup_cons] at nd
    rw [List.filter_cons, kget_cons]
    by_cases h : a1 = k
    · subst h
      rw [if_pos rfl]
      show kget (if p (a1, a2) = true then _ else _) a1 = (if p (a1, a2) then some a2 else none)
      split
      · rw [kget_cons, if_pos rfl]
      · rw [ih nd.2]
        have : kget l a1 = none := by
          cases e : kget l a1 with
          | none => rfl
          | some v => exact absurd (List.mem_map.mpr ⟨_, kget_mem e, rfl⟩) nd.1
        rw [this]
        rfl
    · rw [if_neg h]
      split
      · rw [kget_cons, if_neg h, ih nd.2]
      · rw [ih nd.2]
end
theorem dget_eq {β : Type} (l : List (DK × β)) (k : DK) : dget l k = kget l k := rfl
theorem dput_eq {β : Type} (l : List (DK × β)) (k : DK) (v : β) : dput l k v = kput l k v := rfl
theorem get_encT (t : List (DK × It)) (k : DK) : dget (encT t) k = (kget t k).map encI := kget_map encI t k
theorem put_encT (t : List (DK × It)) (k : DK) (i : It) : dput (encT t) k (encI i) = encT (kput t k i) := (kput_map encI t k i).symm
theorem encF_eq (f : List (Int × Int)) : encF f = (f.map fun q => (q.1, D.int q.2)).map fun q => (DK.i q.1, q.2) := by
  unfold encF
  rw [List.map_map]
  rfl
theorem get_encF (f : List (Int × Int)) (n : Int) : dget (encF f) (.i n) = (kget f n).map .int := by
  induction f with
  | nil => rfl
  | cons a f ih =>
    show kget ((DK.i a.1, D.int a.2) :: encF f) (.i n) = _
    rw [kget_cons, kget_cons]
    by_cases h : a.1 = n
    · rw [if_pos h, if_pos (by rw [h])]; rfl
    · rw [if_neg h, if_neg (fun e => h (DK.i.inj e))]
      exact ih
theorem put_encF (f : List (Int × Int)) (n c : Int) : dput (encF f) (.i n) (.int c) = encF (kput f n c) := by
  show kput (encF f) (.i n) (.int c) = _
  unfold kput
  rw [any_get, any_get, show kget (encF f) (.i n) = _ from get_encF f n]
  have e : ((kget f n).map D.int).isSome = (kget f n).isSome := by cases kget f n <;> rfl
  rw [e]
  split
  · unfold encF
    rw [List.map_map, List.map_map]
    refine List.map_congr_left fun q _ => ?_
    show (if DK.i q.1 = DK.i n then (DK.i q.1, D.int c) else (DK.i q.1, D.int q.2)) = (DK.i (if q.1 = n then (q.1, c) else q).1, D.int (if q.1 = n then (q.1, c) else q).2)
    by_cases h : q.1 = n
    · rw [if_pos h, if_pos (by rw [h])]
    · rw [if_neg h, if_neg (fun e => h (DK.i.inj e))]
  · unfold encF
    rw [List.map_append]
    rfl
/-! ### closed -/
theorem cl_oD (o : Option Int) : clD (oD o) = true := by cases o <;> rfl
theorem cl_I (i : It) : clD (encI i) = true := by
  show (clD (hD i.here) && (clD (wD i.wide) && (clD (oD i.held) && (clD (oD i.bare) && true)))) = true
  rw [cl_oD, cl_oD]
  rfl
theorem cl_T : ∀ t : List (DK × It), clK (encT t) = true
  | [] => rfl
  | q :: t => by
    show (clD (encI q.2) && clK (encT t)) = true
    rw [cl_I, cl_T t]
    rfl
theorem cl_F : ∀ f : List (Int × Int), clK (encF f) = true
  | [] => rfl
  | q :: f => by
    show (true && clK (encF f)) = true
    rw [cl_F f]
    rfl
theorem cl_W (w : Wd) : clD (encW w) = true := by
  show (clK (encT w.t) && (clK (encF w.f) && (true && true))) = true
  rw [cl_T, cl_F]
  rfl
theorem cl_R (r : Ru) : clD (encR r) = true := rfl
theorem cl_K (k : DK) : clD (ofKey k) = true := by cases k <;> rfl
/-! ### what deeds make of worlds -/
def isHere (w : Wd) (k : DK) : Bool := match kget w.t k with
  | some i => i.here
  | none => false
def contentOf (w : Wd) (k : DK) : Option Int := match kget w.t k with
  | some i => (match i.held with
    | some n => kget w.f n
    | none => none)
  | none => none
def shown (w : Wd) (k : DK) : Option Int := if isHere w k then contentOf w k else none
def bareOf (w : Wd) (k : DK) : Option Int := match kget w.t k with
  | some i => i.bare
  | none => none
def withItem (w : Wd) (k : DK) (o : Option It) : Wd := ⟨(w.t.filter fun q : DK × It => decide (q.1 ≠ k)) ++ (match o with | some i => [(k, i)] | none => []), w.f, false⟩
def num (w : Wd) : Int := maxI 0 (w.f.map (·.1)) + 1
def withFile (w : Wd) (k : DK) (c : Int) : Wd := match kget w.t k with
  | some i => ⟨kput w.t k ⟨i.here, i.wide, some (num w), i.bare⟩, kput w.f (num w) c, false⟩
  | none => w
def withBare (w : Wd) (k : DK) (b : Option Int) : Wd := match kget w.t k with
  | some i => withItem w k (some ⟨i.here, i.wide, i.held, b⟩)
  | none => w
def counts (r : Ru) (i : It) : Bool := i.here || decide (r.ct = sAll)
def kept (r : Ru) (w : Wd) : List (Option Int) := (w.t.filter fun q => counts r q.2).map (·.2.held)
def clearF (r : Ru) (w : Wd) : List (Int × Int) := w.f.filter fun q => (kept r w).contains (some q.1)
def gone (F : List (Int × Int)) (i : It) : Bool := match i.held with
  | some n => (kget F n).isNone
  | none => false
def letGo (F : List (Int × Int)) (i : It) : It := ⟨i.here, i.wide, if gone F i then none else i.held, i.bare⟩
def cleared (r : Ru) (w : Wd) : Wd := ⟨w.t.map fun q => (q.1, letGo (clearF r w) q.2), clearF r w, w.t.any fun q => gone (clearF r w) q.2⟩
def made (w : Wd) (k : DK) (wide : Bool) : Wd := withItem w k (some ⟨true, wide, none, none⟩)
def put (w : Wd) (k : DK) (c : Int) : Wd := if isHere w k then withFile (withBare w k (some c)) k c else w
/-- who else counts and holds file n -/
def others (r : Ru) (w : Wd) (k : DK) (n : Int) : Bool := w.t.any fun q => decide (q.2.held = some n) && decide (q.1 ≠ k) && counts r q.2
def changed1 (w : Wd) (k : DK) (c : Int) : Wd := if (bareOf w k).isSome then withBare w k (some c) else w
def heldOf (w : Wd) (k : DK) : Option Int := match kget w.t k with
  | some i => i.held
  | none => none
def changed (r : Ru) (w : Wd) (k : DK) (c : Int) : Wd := if isHere w k then
    (match heldOf (changed1 w k c) k with
    | none => changed1 w k c
    | some n => if r.ch = sApart ∧ others r (changed1 w k c) k n = true then withFile (changed1 w k c) k c else ⟨(changed1 w k c).t, kput (changed1 w k c).f n c, false⟩)
  else w
def takenOff (w : Wd) (k : DK) : Wd := match kget w.t k with
  | some i => if i.here then withItem w k (some ⟨i.here, i.wide, none, none⟩) else w
  | none => w
def copied (r : Ru) (w : Wd) (k j : DK) : Wd := match kget w.t k with
  | some i => if i.here = true ∧ (kget w.t j).isNone = true then
      (match decide (r.cp = sNow), contentOf w k with
      | true, some c => withFile (withItem w j (some ⟨true, i.wide, if r.cp = sShare then i.held else none, i.bare⟩)) j c
      | _, _ => withItem w j (some ⟨true, i.wide, if r.cp = sShare then i.held else none, i.bare⟩)) else w
  | none => w
def moved (r : Ru) (w : Wd) (k : DK) : Wd := match kget w.t k with
  | some i => if i.here then
      (match decide (r.mv = sNow), contentOf w k with
      | true, some c => withFile (withItem w k (some ⟨true, !i.wide, i.held, i.bare⟩)) k c
      | _, _ => withItem w k (some ⟨true, !i.wide, i.held, i.bare⟩)) else w
  | none => w
def thrown (r : Ru) (w : Wd) (k : DK) : Wd := match kget w.t k with
  | some i => if i.here then withItem w k (some ⟨false, i.wide, if r.th = sHold then i.held else none, i.bare⟩) else w
  | none => w
def fetched (w : Wd) (k : DK) : Wd := match kget w.t k with
  | some i => if i.here then w else withItem w k (some ⟨true, i.wide, i.held, i.bare⟩)
  | none => w
def burnt (w : Wd) (k : DK) : Wd := match kget w.t k with
  | some i => if i.here then w else withItem w k none
  | none => w
def orO (a b : Option Int) : Option Int := match a with
  | some x => some x
  | none => b
def joined (w : Wd) (k j : DK) : Wd := match kget w.t k, kget w.t j with
  | some i, some g => if k ≠ j ∧ i.here = true ∧ g.here = true then withItem (withItem w j none) k (some ⟨true, i.wide, orO i.held g.held, orO i.bare g.bare⟩) else w
  | _, _ => w
def asked (r : Ru) (w : Wd) : Wd := if r.cl = sAsked then cleared r w else w
def behind (r : Ru) (w : Wd) : Wd := if r.cl = sNow then cleared r w else w
/-! ### what holds of worlds -/
def kindB : DK → Bool
  | .i _ => true
  | .s _ => false
structure Ok (K : Bool) (w : Wd) (a b : Nat) : Prop where
  kd : ∀ q ∈ w.t, kindB q.1 = K
  nt : (w.t.map (·.1)).Nodup
  nf : (w.f.map (·.1)).Nodup
  held : ∀ q ∈ w.t, ∀ n, q.2.held = some n → (kget w.f n).isSome = true
  lt : w.t.length ≤ a
  lf : w.f.length ≤ b
theorem Ok.content {K : Bool} {w : Wd} {a b : Nat} (h : Ok K w a b) {k : DK} {i : It} {n : Int} (e : kget w.t k = some i) (e2 : i.held = some n) : ∃ c, kget w.f n = some c := Option.isSome_iff_exists.mp (h.held _ (kget_mem e) n e2)
theorem Ok.mono {K : Bool} {w : Wd} {a b a' b' : Nat} (h : Ok K w a b) (ha : a ≤ a') (hb : b ≤ b') : Ok K w a' b' := ⟨h.kd, h.nt, h.nf, h.held, Nat.le_trans h.lt ha, Nat.le_trans h.lf hb⟩
theorem len_filter_ne {β : Type} (l : List (DK × β)) (k : DK) : (l.filter fun q => decide (q.1 ≠ k)).length ≤ l.length := List.length_filter_le ..
theorem nd_filter {β : Type} {l : List (DK × β)} {p : DK × β → Bool} (h : (l.map (·.1)).Nodup) : ((l.filter p).map (·.1)).Nodup := h.sublist ((List.filter_sublist).map _)
theorem len_filter_some {β : Type} : ∀ {l : List (DK × β)} {k : DK} {v : β}, kget l k = some v → (l.filter fun q => decide (q.1 ≠ k)).length + 1 ≤ l.length
  | a :: l, k, v, h => by
    rw [kget_cons] at h
    rw [List.filter_cons]
    by_cases e : a.1 = k
    · rw [if_neg (by simp [e])]
      have := List.length_filter_le (fun q : DK × β => decide (q.1 ≠ k)) l
      simp only [List.length_cons]
      omega
    · rw [if_neg e] at h
      rw [if_pos (by simp [e])]
      have := len_filter_some h
      simp only [List.length_cons]
      omega
/-- another thing of a name -/
theorem ok_item {K : Bool} {w : Wd} {a b : Nat} (h : Ok K w a b) (k : DK) (hk : kindB k = K) (i : It) (hi : ∀ n, i.held = some n → (kget w.f n).isSome = true) : Ok K (withItem w k (some i)) (if (kget w.t k).isSome then a else a + 1) b := by
  refine ⟨?_, ?_, h.nf, ?_, ?_, h.lf⟩
  · intro q hq
    rcases List.mem_append.mp (show q ∈ (w.t.filter fun q : DK × It => decide (q.1 ≠ k)) ++ [(k, i)] from hq) with hq | hq
    · exact h.kd q (List.mem_filter.mp hq).1
    · rw [List.mem_singleton.mp hq]
      exact hk
  · show (((w.t.filter fun q : DK × It => decide (q.1 ≠ k)) ++ [(k, i)]).map (fun q : DK × It => q.1)).Nodup
    rw [List.map_append]
    refine List.nodup_append.mpr ⟨nd_filter h.nt, by simp, fun x hx y hy => ?_⟩
    obtain ⟨q, hq, rfl⟩ := List.mem_map.mp hx
    have hq2 := (List.mem_filter.mp hq).2
    have hy' : y = k := List.mem_singleton.mp hy
    rw [hy']
    exact of_decide_eq_true hq2
  · intro q hq n e
    rcases List.mem_append.mp (show q ∈ (w.t.filter fun q : DK × It => decide (q.1 ≠ k)) ++ [(k, i)] from hq) with hq | hq
    · exact h.held q (List.mem_filter.mp hq).1 n e
    · have : q = (k, i) := List.mem_singleton.mp hq
      rw [this] at e
      exact hi n e
  · show ((w.t.filter fun q : DK × It => decide (q.1 ≠ k)) ++ [(k, i)]).length ≤ _
    rw [List.length_append]
    have h1 := h.lt
    cases e : kget w.t k with
    | some v =>
      have := len_filter_some e
      show _ + 1 ≤ a
      omega
    | none =>
      have := len_filter_ne w.t k
      show _ + 1 ≤ a + 1
      omega
theorem ok_drop {K : Bool} {w : Wd} {a b : Nat} (h : Ok K w a b) (k : DK) : Ok K (withItem w k none) a b := by
  refine ⟨?_, ?_, h.nf, ?_, ?_, h.lf⟩
  · intro q hq
    rw [show (withItem w k none).t = (w.t.filter fun q : DK × It => decide (q.1 ≠ k)) ++ [] from rfl, List.append_nil] at hq
    exact h.kd q (List.mem_filter.mp hq).1
  · show (((w.t.filter fun q : DK × It => decide (q.1 ≠ k)) ++ []).map (fun q : DK × It => q.1)).Nodup
    rw [List.append_nil]
    exact nd_filter h.nt
  · intro q hq n e
    rw [show (withItem w k none).t = (w.t.filter fun q : DK × It => decide (q.1 ≠ k)) ++ [] from rfl, List.append_nil] at hq
    exact h.held q (List.mem_filter.mp hq).1 n e
  · show ((w.t.filter fun q : DK × It => decide (q.1 ≠ k)) ++ []).length ≤ a
    rw [List.append_nil]
    exact Nat.le_trans (len_filter_ne _ _) h.lt
theorem maxI_ge : ∀ (ns : List Int) (m : Int), ∀ j ∈ m :: ns, j ≤ maxI m ns
  | [], m, j, h => by
    rw [List.mem_singleton.mp h]
    exact Int.le_refl _
  | i :: r, m, j, h => by
    have ih := maxI_ge r (if i > m then i else m)
    show j ≤ maxI (if i > m then i else m) r
    rcases List.mem_cons.mp h with rfl | h
    · refine Int.le_trans ?_ (ih _ (List.mem_cons_self ..))
      split <;> omega
    · rcases List.mem_cons.mp h with rfl | h
      · refine Int.le_trans ?_ (ih _ (List.mem_cons_self ..))
        split <;> omega
      · exact ih _ (List.mem_cons_of_mem _ h)
theorem num_new (w : Wd) : kget w.f (num w) = none := by
  rw [kget_none]
  intro q hq e
  have := maxI_ge (w.f.map (·.1)) 0 q.1 (List.mem_cons_of_mem _ (List.mem_map.mpr ⟨q, hq, rfl⟩))
  unfold num at e
  omega
theorem ok_file {K : Bool} {w : Wd} {a b : Nat} (h : Ok K w a b) (k : DK) (c : Int) : Ok K (withFile w k c) a (b + 1) := by
  unfold withFile
  cases e : kget w.t k with
  | none => exact h.mono (Nat.le_refl _) (Nat.le_succ _)
  | some i =>
    refine ⟨?_, kput_nodup h.nt, kput_nodup h.nf, ?_, ?_, ?_⟩
    · intro q hq
      have hk : q.1 ∈ (kput w.t k (⟨i.here, i.wide, some (num w), i.bare⟩ : It)).map (·.1) := List.mem_map.mpr ⟨q, hq, rfl⟩
      rw [kput_keys, e] at hk
      obtain ⟨p, hp, e2⟩ := List.mem_map.mp hk
      rw [← e2]
      exact h.kd p hp
    · intro q hq n e2
      show (kget (kput w.f (num w) c) n).isSome = true
      rw [kget_put]
      by_cases e3 : num w = n
      · rw [if_pos e3]; rfl
      · rw [if_neg e3]
        have hq' := kget_of_mem (kput_nodup h.nt) (show (q.1, q.2) ∈ kput w.t k _ from hq)
        rw [kget_put] at hq'
        by_cases e4 : k = q.1
        · rw [if_pos e4] at hq'
          have hq2 : q.2 = ⟨i.here, i.wide, some (num w), i.bare⟩ := (Option.some.inj hq').symm
          rw [hq2] at e2
          exact absurd (Option.some.inj e2) e3
        · rw [if_neg e4] at hq'
          exact h.held _ (kget_mem hq') n e2
    · show (kput w.t k _).length ≤ a
      have : ((kput w.t k ⟨i.here, i.wide, some (num w), i.bare⟩).map (·.1)).length = (w.t.map (·.1)).length := by
        rw [kput_keys, e]
        rfl
      rw [List.length_map, List.length_map] at this
      rw [this]
      exact h.lt
    · exact Nat.le_trans (kput_len ..) (Nat.succ_le_succ h.lf)
theorem ok_bare {K : Bool} {w : Wd} {a b : Nat} (h : Ok K w a b) (k : DK) (o : Option Int) : Ok K (withBare w k o) a b := by
  unfold withBare
  cases e : kget w.t k with
  | none => exact h
  | some i =>
    have := ok_item h k (h.kd _ (kget_mem e)) ⟨i.here, i.wide, i.held, o⟩ (fun n hn => h.held (k, i) (kget_mem e) n hn)
    rw [e] at this
    exact this
theorem ok_clear {K : Bool} {w : Wd} {a b : Nat} (h : Ok K w a b) (r : Ru) : Ok K (cleared r w) a b := by
  refine ⟨?_, ?_, ?_, ?_, ?_, ?_⟩
  · intro q hq
    obtain ⟨p, hp, rfl⟩ := List.mem_map.mp (show q ∈ w.t.map fun q => (q.1, letGo (clearF r w) q.2) from hq)
    exact h.kd p hp
  · show ((w.t.map fun q => (q.1, letGo (clearF r w) q.2)).map (·.1)).Nodup
    rw [List.map_map]
    exact h.nt
  · exact h.nf.sublist ((List.filter_sublist).map _)
  · intro q hq n e
    obtain ⟨p, hp, rfl⟩ := List.mem_map.mp (show q ∈ w.t.map fun q => (q.1, letGo (clearF r w) q.2) from hq)
    have e' : (if gone (clearF r w) p.2 then none else p.2.held) = some n := e
    split at e'
    · cases e'
    · rename_i hg
      unfold gone at hg
      rw [e'] at hg
      show (kget (clearF r w) n).isSome = true
      cases e3 : kget (clearF r w) n with
      | none => exact absurd (by show (kget (clearF r w) n).isNone = true; rw [e3]; rfl) hg
      | some v => rfl
  · show (w.t.map _).length ≤ a
    rw [List.length_map]
    exact h.lt
  · exact Nat.le_trans (List.length_filter_le ..) h.lf
/-! ### a list of flat things against [] -/
def flatD (d : D) : Bool := match d with
  | .int _ => true
  | .str s => PyData.canLay0 (.str ⟨s.toArray⟩)
  | _ => false
theorem flat_py {μ : Mu} (k : Nat) : ∀ ds : List D, (∀ d ∈ ds, flatD d = true) → ∃ ys, optAll (toPy μ k) ds = some ys ∧ PyData.canLayAll0 ys = true ∧ PyData.depthAll ys ≤ 2 ∧ ys.isEmpty = ds.isEmpty := by
  intro ds
  induction ds with
  | nil => intro _; exact ⟨[], rfl, rfl, Nat.zero_le _, rfl⟩
  | cons d ds ih =>
    intro h
    obtain ⟨ys, h1, h2, h3, h4⟩ := ih fun x hx => h x (List.mem_cons_of_mem _ hx)
    have hd := h d (List.mem_cons_self ..)
    cases d with
    | int i =>
      have e : toPy μ k (.int i) = some (.int i) := by cases k <;> rfl
      refine ⟨.int i :: ys, ?_, ?_, ?_, rfl⟩
      · unfold optAll
        rw [e, h1]
      · rw [PyData.canLayAll0, h2]; rfl
      · rw [PyData.depthAll]; exact Nat.max_le.mpr ⟨by simp [PyData.depth], h3⟩
    | str s =>
      have e : toPy μ k (.str s) = some (.str ⟨s.toArray⟩) := by cases k <;> rfl
      refine ⟨.str ⟨s.toArray⟩ :: ys, ?_, ?_, ?_, rfl⟩
      · unfold optAll
        rw [e, h1]
      · rw [PyData.canLayAll0, h2, show PyData.canLay0 (.str ⟨s.toArray⟩) = true from hd]; rfl
      · rw [PyData.depthAll]; exact Nat.max_le.mpr ⟨by simp [PyData.depth], h3⟩
    | _ => cases hd
theorem ne_nil {V : Ev} {ds : List D} {μ : Mu} (h : ∀ d ∈ ds, flatD d = true) : opCI V .ne (.lst ds) (.lst []) μ = .ok (.bl (!ds.isEmpty)) μ := by
  obtain ⟨ys, h1, h2, h3, h4⟩ := flat_py (μ := μ) 7 ds h
  have e1 : toPy μ 8 (.lst ds) = some (.list ys) := by
    show (optAll (toPy μ 7) ds).map PyData.list = _
    rw [h1]
    rfl
  have e2 : toPy μ 8 (.lst []) = some (.list []) := rfl
  have s1 : SeqAt.shaped (.list ys) = true := by
    unfold SeqAt.shaped
    rw [PyData.canLay0, h2, PyData.depth, decide_eq_true (by omega)]
    rfl
  have s2 : SeqAt.shaped (.list []) = true := by decide +kernel
  have q : PyData.eqv (.list ys) (.list []) = ds.isEmpty := by
    rw [← h4]
    cases ys with
    | nil => rfl
    | cons y ys => rfl
  have d : deq μ (.lst ds) (.lst []) = some ds.isEmpty := by
    unfold deq
    rw [e1, e2]
    show (if (SeqAt.shaped (.list ys) && SeqAt.shaped (.list [])) = true then some (PyData.eqv (.list ys) (.list [])) else none) = _
    rw [s1, s2, q]
    rfl
  show (match deq μ (.lst ds) (.lst []) with | some b => R.ok (D.bl (!b)) μ | none => .err) = _
  rw [d]
theorem mem_ins1 {α : Type} (le : α → α → Bool) (x y : α) : ∀ l : List α, y ∈ ins1 le x l ↔ y = x ∨ y ∈ l
  | [] => by simp [ins1]
  | z :: l => by
    unfold ins1
    split
    · simp
    · rw [List.mem_cons, mem_ins1 le x y l, List.mem_cons]
      exact ⟨fun h => h.elim (fun h => .inr (.inl h)) (fun h => h.elim .inl fun h => .inr (.inr h)), fun h => h.elim (fun h => .inr (.inl h)) (fun h => h.elim .inl fun h => .inr (.inr h))⟩
theorem mem_isort {α : Type} (le : α → α → Bool) (y : α) : ∀ l : List α, y ∈ isort le l ↔ y ∈ l
  | [] => Iff.rfl
  | z :: l => by
    show y ∈ ins1 le z (isort le l) ↔ _
    rw [mem_ins1, mem_isort le y l, List.mem_cons]
/-! ### deeds on two things -/
inductive Dd where
  | put (k c : Int) | change (k c : Int) | off (k : Int) | copy (k : Int) | move (k : Int) | throw (k : Int) | fetch (k : Int) | burn (k : Int) | join (k : Int) | clear
def encD : Dd → D
  | .put k c => .tup [.str [112, 117, 116], .int k, .int c]
  | .change k c => .tup [.str [99, 104, 97, 110, 103, 101], .int k, .int c]
  | .off k => .tup [.str [111, 102, 102], .int k]
  | .copy k => .tup [.str [99, 111, 112, 121], .int k]
  | .move k => .tup [.str [109, 111, 118, 101], .int k]
  | .throw k => .tup [.str [116, 104, 114, 111, 119], .int k]
  | .fetch k => .tup [.str [102, 101, 116, 99, 104], .int k]
  | .burn k => .tup [.str [98, 117, 114, 110], .int k]
  | .join k => .tup [.str [106, 111, 105, 110], .int k]
  | .clear => .tup [.str [99, 108, 101, 97, 114]]
theorem cl_D (d : Dd) : clD (encD d) = true := by cases d <;> rfl
/-- what a deed makes, ahead of the store's own clearing -/
def deedW (r : Ru) (w : Wd) : Dd → Wd
  | .put k c => put w (.i k) c
  | .change k c => changed r w (.i k) c
  | .off k => takenOff w (.i k)
  | .copy k => copied r w (.i k) (.i (1 - k))
  | .move k => moved r w (.i k)
  | .throw k => thrown r w (.i k)
  | .fetch k => fetched w (.i k)
  | .burn k => burnt w (.i k)
  | .join k => joined w (.i k) (.i (1 - k))
  | .clear => asked r w
def doneW (r : Ru) (w : Wd) (d : Dd) : Wd :=
  let l := deedW r ⟨w.t, w.f, false⟩ d
  let f := behind r l
  ⟨f.t, f.f, f.lost || l.lost⟩
def firstW : Wd := made ⟨[], [], false⟩ (.i 0) false
section
variable {K : Bool} {w : Wd} {a b : Nat} {r : Ru} {k j : DK}
theorem ok_lost (h : Ok K w a b) (x : Bool) : Ok K ⟨w.t, w.f, x⟩ a b := ⟨h.kd, h.nt, h.nf, h.held, h.lt, h.lf⟩
theorem ok_item' (h : Ok K w a b) (hk : kindB k = K) (i : It) (hi : ∀ n, i.held = some n → (kget w.f n).isSome = true) : Ok K (withItem w k (some i)) (a + 1) b := by
  refine (ok_item h k hk i hi).mono ?_ (Nat.le_refl _)
  split <;> omega
theorem ok_same {i : It} (h : Ok K w a b) (e : kget w.t k = some i) (j : It) (hj : ∀ n, j.held = some n → (kget w.f n).isSome = true) : Ok K (withItem w k (some j)) a b := by
  have := ok_item h k (h.kd _ (kget_mem e)) j hj
  rw [e] at this
  exact this
theorem held_of (h : Ok K w a b) {i : It} (e : kget w.t k = some i) : ∀ n, i.held = some n → (kget w.f n).isSome = true := fun n hn => h.held (k, i) (kget_mem e) n hn
theorem up1 (h : Ok K w a b) : Ok K w (a + 1) (b + 1) := h.mono (Nat.le_succ _) (Nat.le_succ _)
theorem ok_put (h : Ok K w a b) (c : Int) : Ok K (put w k c) (a + 1) (b + 1) := by
  unfold put
  split
  · exact (ok_file (ok_bare h k (some c)) k c).mono (Nat.le_succ _) (Nat.le_refl _)
  · exact up1 h
theorem ok_kputf (h : Ok K w a b) (n c : Int) (x : Bool) : Ok K ⟨w.t, kput w.f n c, x⟩ a (b + 1) := by
  refine ⟨h.kd, h.nt, kput_nodup h.nf, fun q hq m e => ?_, h.lt, Nat.le_trans (kput_len ..) (Nat.succ_le_succ h.lf)⟩
  show (kget (kput w.f n c) m).isSome = true
  rw [kget_put]
  split
  · rfl
  · exact h.held q hq m e
theorem ok_changed1 (h : Ok K w a b) (c : Int) : Ok K (changed1 w k c) a b := by
  unfold changed1
  split
  · exact ok_bare h k (some c)
  · exact h
theorem ok_changed (h : Ok K w a b) (c : Int) : Ok K (changed r w k c) (a + 1) (b + 1) := by
  unfold changed
  have h1 := ok_changed1 (k := k) h c
  split
  · split
    · exact up1 h1
    · split
      · exact (ok_file h1 k c).mono (Nat.le_succ _) (Nat.le_refl _)
      · exact (ok_kputf h1 _ c false).mono (Nat.le_succ _) (Nat.le_refl _)
  · exact up1 h
theorem ok_off (h : Ok K w a b) : Ok K (takenOff w k) (a + 1) (b + 1) := by
  unfold takenOff
  cases e : kget w.t k with
  | none => exact up1 h
  | some i =>
    dsimp only
    split
    · exact up1 (ok_same h e _ (fun n hn => by cases hn))
    · exact up1 h
theorem ok_copied (h : Ok K w a b) (hj : kindB j = K) : Ok K (copied r w k j) (a + 1) (b + 1) := by
  unfold copied
  cases e : kget w.t k with
  | none => exact up1 h
  | some i =>
    dsimp only
    split
    · have h1 : Ok K (withItem w j (some ⟨true, i.wide, if r.cp = sShare then i.held else none, i.bare⟩)) (a + 1) b := ok_item' h hj _ (fun n hn => by
        have hn' : (if r.cp = sShare then i.held else none) = some n := hn
        split at hn'
        · exact held_of h e n hn'
        · cases hn')
      split
      · exact ok_file h1 j _
      · exact h1.mono (Nat.le_refl _) (Nat.le_succ _)
    · exact up1 h
theorem ok_moved (h : Ok K w a b) : Ok K (moved r w k) (a + 1) (b + 1) := by
  unfold moved
  cases e : kget w.t k with
  | none => exact up1 h
  | some i =>
    dsimp only
    split
    · have h1 : Ok K (withItem w k (some ⟨true, !i.wide, i.held, i.bare⟩)) a b := ok_same h e _ (fun n hn => held_of h e n hn)
      split
      · exact (ok_file h1 k _).mono (Nat.le_succ _) (Nat.le_refl _)
      · exact up1 h1
    · exact up1 h
theorem ok_thrown (h : Ok K w a b) : Ok K (thrown r w k) (a + 1) (b + 1) := by
  unfold thrown
  cases e : kget w.t k with
  | none => exact up1 h
  | some i =>
    dsimp only
    split
    · exact up1 (ok_same h e _ (fun n hn => by
        have hn' : (if r.th = sHold then i.held else none) = some n := hn
        split at hn'
        · exact held_of h e n hn'
        · cases hn'))
    · exact up1 h
theorem ok_fetched (h : Ok K w a b) : Ok K (fetched w k) (a + 1) (b + 1) := by
  unfold fetched
  cases e : kget w.t k with
  | none => exact up1 h
  | some i =>
    dsimp only
    split
    · exact up1 h
    · exact up1 (ok_same h e _ (fun n hn => held_of h e n hn))
theorem ok_burnt (h : Ok K w a b) : Ok K (burnt w k) (a + 1) (b + 1) := by
  unfold burnt
  cases e : kget w.t k with
  | none => exact up1 h
  | some i =>
    dsimp only
    split
    · exact up1 h
    · exact up1 (ok_drop h k)
theorem ok_joined (h : Ok K w a b) : Ok K (joined w k j) (a + 1) (b + 1) := by
  unfold joined
  cases e : kget w.t k with
  | none => exact up1 h
  | some i =>
    cases e2 : kget w.t j with
    | none => exact up1 h
    | some g =>
      dsimp only
      split
      · refine (ok_item' (ok_drop h j) (h.kd _ (kget_mem e)) _ (fun n hn => ?_)).mono (Nat.le_refl _) (Nat.le_succ _)
        have hn' : orO i.held g.held = some n := hn
        show (kget w.f n).isSome = true
        cases hi : i.held with
        | some x =>
          rw [hi] at hn'
          exact held_of h e n (hi.trans hn')
        | none =>
          rw [hi] at hn'
          exact held_of h e2 n hn'
      · exact up1 h
theorem ok_asked (h : Ok K w a b) : Ok K (asked r w) a b := by
  unfold asked
  split
  · exact ok_clear h r
  · exact h
theorem ok_behind (h : Ok K w a b) : Ok K (behind r w) a b := by
  unfold behind
  split
  · exact ok_clear h r
  · exact h
end
theorem ok_deed {w : Wd} {a b : Nat} {r : Ru} (h : Ok true w a b) (d : Dd) : Ok true (deedW r w d) (a + 1) (b + 1) := by
  cases d with
  | put k c => exact ok_put h c
  | change k c => exact ok_changed h c
  | off k => exact ok_off h
  | copy k => exact ok_copied h rfl
  | move k => exact ok_moved h
  | throw k => exact ok_thrown h
  | fetch k => exact ok_fetched h
  | burn k => exact ok_burnt h
  | join k => exact ok_joined h
  | clear => exact up1 (ok_asked h)
theorem ok_done {w : Wd} {a b : Nat} {r : Ru} (h : Ok true w a b) (d : Dd) : Ok true (doneW r w d) (a + 1) (b + 1) := ok_lost (ok_behind (ok_deed (ok_lost h false) d)) _
theorem ok_first : Ok true firstW 1 0 := by
  refine ⟨fun q hq => ?_, by decide, by decide, fun q hq n e => ?_, by decide, by decide⟩
  · have : q = (DK.i 0, ⟨true, false, none, none⟩) := List.mem_singleton.mp hq
    rw [this]
    rfl
  · have : q = (DK.i 0, ⟨true, false, none, none⟩) := List.mem_singleton.mp hq
    rw [this] at e
    cases e
/-! ### who holds a file, by whole numbers; faults -/
def kInt : DK → Int
  | .i n => n
  | .s _ => 0
def holdL (w : Wd) (m : Int) : List Int := isort (fun a b => decide (a ≤ b)) ((w.t.filter fun q => decide (q.2.held = some m)).map fun q => kInt q.1)
def unheldW (w : Wd) : Bool := w.f.any fun q => !(w.t.map fun p => p.2.held).contains (some q.1)
def sCleared : List Nat := [99, 108, 101, 97, 114, 101, 100]
def sKept : List Nat := [107, 101, 112, 116]
def sLost : List Nat := [108, 111, 115, 116]
def sOther : List Nat := [111, 116, 104, 101, 114]
def sSeen : List Nat := [115, 101, 101, 110]
def isClear : Dd → Bool
  | .clear => true
  | _ => false
def hereL (w : Wd) : List Int := [0, 1].filter fun k => isHere w (.i k)
def lostW (w : Wd) : Bool := (hereL w).any fun k => (shown w (.i k)).isNone && (bareOf w (.i k)).isSome
def otherW (w : Wd) : Bool := (hereL w).any fun k => (shown w (.i k)).isSome && (bareOf w (.i k)).isSome && !decide (shown w (.i k) = bareOf w (.i k))
def wideOf (w : Wd) (k : DK) : Bool := match kget w.t k with
  | some i => i.wide
  | none => false
def seenW (b l : Wd) : Dd → Bool
  | .change k _ => isHere b (.i k) && isHere b (.i (1 - k)) && !wideOf b (.i k) && wideOf b (.i (1 - k)) && !decide (shown b (.i (1 - k)) = shown l (.i (1 - k)))
  | _ => false
def checksW (b l : Wd) (d : Dd) : List (List Nat × Bool) := [(sCleared, l.lost), (sKept, isClear d && unheldW l), (sLost, lostW l), (sOther, otherW l), (sSeen, seenW b l d)]
def faultsW (b l : Wd) (d : Dd) : List (List Nat) := ((checksW b l d).filter (·.2)).map (·.1)
/-- the worlds and faults of a row -/
def playW (r : Ru) : Wd → List Dd → Wd × List (List (List Nat))
  | w, [] => (w, [])
  | w, d :: ds => let q := playW r (doneW r w d) ds
    (q.1, faultsW w (doneW r w d) d :: q.2)
/-- (index, word) of all faults -/
def fRows : Nat → List (List (List Nat)) → List D
  | _, [] => []
  | i, f :: fs => f.map (fun z => D.tup [.int i, .str z]) ++ fRows (i + 1) fs
def encFs (fs : List (List (List Nat))) : D := .lst (fs.map fun f => .lst (f.map .str))
def encO (w : Wd) (fs : List (List (List Nat))) : D := .ins 3 [encW w, .lst (fRows 0 fs), encFs fs]
theorem cl_strs : ∀ l : List (List Nat), clL (l.map .str) = true
  | [] => rfl
  | _ :: l => cl_strs l
theorem cl_app : ∀ (a b : List D), clL a = true → clL b = true → clL (a ++ b) = true
  | [], b, _, h => h
  | x :: a, b, h, h2 => by
    obtain ⟨h3, h4⟩ := Bool.and_eq_true_iff.mp (show (clD x && clL a) = true from h)
    show (clD x && clL (a ++ b)) = true
    rw [h3, cl_app a b h4 h2]
    rfl
theorem cl_fR : ∀ (fs : List (List (List Nat))) (i : Nat), clL (fRows i fs) = true
  | [], _ => rfl
  | f :: fs, i => by
    refine cl_app _ _ ?_ (cl_fR fs (i + 1))
    induction f with
    | nil => rfl
    | cons z f ih => exact ih
theorem cl_Fs : ∀ fs : List (List (List Nat)), clL (fs.map fun f => D.lst (f.map .str)) = true
  | [] => rfl
  | f :: fs => by
    show (clL (f.map .str) && clL (fs.map fun f => D.lst (f.map .str))) = true
    rw [cl_strs, cl_Fs fs]
    rfl
theorem cl_O (w : Wd) (fs : List (List (List Nat))) : clD (encO w fs) = true := by
  show (clD (encW w) && (clL (fRows 0 fs) && (clL (fs.map fun f => D.lst (f.map .str)) && true))) = true
  rw [cl_W, cl_fR, cl_Fs]
  rfl
theorem get_mid {p g : Mu} {o : MO} : (p ++ o :: g)[p.length]? = some o := by rw [List.getElem?_append_right (Nat.le_refl _), Nat.sub_self]; rfl
theorem set_mid {p g : Mu} {o o' : MO} : (p ++ o :: g).set p.length o' = p ++ o' :: g := by rw [List.set_append_right _ _ (Nat.le_refl _), Nat.sub_self]; rfl
end WM

end
section
set_option maxHeartbeats 4000000
set_option autoImplicit false
/-! K01a: words at their places; a rule with a wrong word. -/
namespace K01
open PySem L2 Z ZQ P01 WM
open D01 (All2 hst st parts partsD pickAll mem_pickAll words next_ok pick_dr parts_ok V)
theorem clTb : clT tb = true := by decide +kernel
theorem clL2 {a b : D} (ha : clD a = true) (hb : clD b = true) : clL [a, b] = true := by show (clD a && (clD b && true)) = true; rw [ha, hb]; rfl
def oddL : List D := [st "share", st "now", st "here", st "apart", st "", st "All", .non, .int 5, .lst [st "now"], .tup [st "now"], st "let", st "keep", .bl true]
def okW (a : List D) (w : D) : Bool := (din [] w a).getD false
def pairB (q : D × List D) (w : D) : Bool := clD w && (clL q.2 && (isOk (callN tb 1 0 [w, .tup q.2] []) (.bl (okW q.2 w)) && ((din [] w q.2 == some (okW q.2 w)) && (!okW q.2 w || q.2.any (beqD w)))))
theorem pairs_ok : parts.all (fun q => (q.2 ++ oddL).all (pairB q)) = true := by decide +kernel
theorem pair_ok {q : D × List D} {w : D} (hq : q ∈ parts) (hw : w ∈ q.2 ++ oddL) : pairB q w = true := List.all_eq_true.mp (List.all_eq_true.mp pairs_ok q hq) w hw
section
variable {n : Nat}
structure PairF (q : D × List D) (w : D) : Prop where
  cl : clD w = true
  word : ∀ (n : Nat) (μ : Mu), ∃ t, callN tb (n + 1) 0 [w, .tup q.2] μ = .ok (.bl (okW q.2 w)) (μ ++ t)
  inn : ∀ (μ : Mu), din μ w q.2 = some (okW q.2 w)
  mem : okW q.2 w = true → w ∈ q.2
theorem pairF {q : D × List D} {w : D} (h : pairB q w = true) : PairF q w := by
  unfold pairB at h
  simp only [Bool.and_eq_true] at h
  obtain ⟨h1, h2, h3, h4, h5⟩ := h
  refine ⟨h1, fun n μ => ?_, fun μ => ?_, fun h => ?_⟩
  · obtain ⟨t, e⟩ := call_cl (n := 1) clTb h3 (clL2 h1 (show clD (.tup q.2) = true from h2)) rfl n μ
    rw [Nat.add_comm 1 n] at e
    exact ⟨t, e⟩
  · rw [din_cl h1 h2]
    exact eq_of_beq h4
  · rw [h] at h5
    obtain ⟨x, hx, e⟩ := List.any_eq_true.mp (show q.2.any (beqD w) = true from h5)
    rw [show w = x from beqD_eq e]
    exact hx
def fault : List (D × List D) → List D → Option D
  | q :: qs, w :: ws => if okW q.2 w then fault qs ws else some q.1
  | _, _ => none
/-- words of the alphabets -/
abbrev Al (ws : List D) : Prop := All2 (fun (q : D × List D) w => w ∈ q.2 ++ oddL) parts ws
theorem al_pairs : ∀ {qs : List (D × List D)} {ws : List D}, (∀ q ∈ qs, q ∈ parts) → All2 (fun (q : D × List D) w => w ∈ q.2 ++ oddL) qs ws → All2 (fun q w => q ∈ parts ∧ PairF q w) qs ws
  | _, _, _, .nil => .nil
  | _, _, hq, .cons h t => .cons ⟨hq _ (List.mem_cons_self ..), pairF (pair_ok (hq _ (List.mem_cons_self ..)) h)⟩ (al_pairs (fun q h => hq q (List.mem_cons_of_mem _ h)) t)
theorem al_set {P : D × List D → D → Prop} {v : D} : ∀ {qs : List (D × List D)} {ws : List D} (j : Nat), (∀ q ∈ qs, P q v) → All2 P qs ws → All2 P qs (ws.set j v)
  | _, _, _, _, .nil => .nil
  | _, _, 0, hv, .cons h t => .cons (hv _ (List.mem_cons_self ..)) t
  | _, _, j + 1, hv, .cons h t => .cons h (al_set j (fun q hq => hv q (List.mem_cons_of_mem _ hq)) t)
theorem al_len {P : D × List D → D → Prop} : ∀ {qs : List (D × List D)} {ws : List D}, All2 P qs ws → ws.length = qs.length
  | _, _, .nil => rfl
  | _, _, .cons _ t => congrArg (· + 1) (al_len t)
theorem al_six {ws : List D} (h : Al ws) : ∃ a b c d e f, ws = [a, b, c, d, e, f] := by
  have l := al_len h
  match ws, l with
  | [a, b, c, d, e, f], _ => exact ⟨a, b, c, d, e, f, rfl⟩
theorem al_good : ∀ {qs : List (D × List D)} {ws : List D}, All2 (fun q w => q ∈ parts ∧ PairF q w) qs ws → fault qs ws = none → All2 (fun (q : D × List D) w => w ∈ q.2) qs ws
  | _, _, .nil, _ => .nil
  | _, _, .cons (a := q) (b := w) (l := l) (r := r) h t, hf => by
    have e : fault (q :: l) (w :: r) = if okW q.2 w then fault l r else some q.1 := rfl
    rw [e] at hf
    cases ho : okW q.2 w with
    | true =>
      rw [ho, if_pos rfl] at hf
      exact .cons (h.2.mem ho) (al_good t hf)
    | false =>
      rw [ho] at hf
      cases hf
theorem al_words {ws : List D} (h : All2 (fun (q : D × List D) w => w ∈ q.2) parts ws) : .lst ws ∈ words := List.mem_map.mpr ⟨ws, mem_pickAll (D01.all2_map' (P := fun l v => v ∈ l) (f := fun q : D × List D => q.2) h), rfl⟩
/-! Rule(...) with a wrong word -/
def iB : ZSs := match b1 with
  | .cons _ (.cons (.for_ _ _ _ b) _) => b
  | _ => .nil
theorem look_part {q : D × List D} (hq : q ∈ parts) {ρ : Z.Env} (h : ρ[8]? = some (some q.1)) (μ : Mu) : evalE (V n) (.sub (.glob 0) (.var 8)) ρ μ = .ok (.tup q.2) μ := by
  rw [ev_sub]
  show ((evalE (V n) (.var 8) ρ μ).bind _) = _
  rw [ev_var' h, bd_ok]
  unfold parts at hq
  simp only [List.mem_cons, List.not_mem_nil, or_false] at hq
  rcases hq with rfl | rfl | rfl | rfl | rfl | rfl <;> rfl
theorem init_loop (e0 e1 e2 e3 e4 e5 e6 e7 : Option D) : ∀ (qs : List (D × List D)) (ws : List D) (x y : Option D) (μ : Mu), All2 (fun q w => q ∈ parts ∧ PairF q w) qs ws → ∀ p, fault qs ws = some p →
    ∃ t, forLoop (forFn (V (n + 1)) (.tp [.nm 8, .nm 9]) iB) (zipD (qs.map (·.1)) ws) [e0, e1, e2, e3, e4, e5, e6, e7, x, y] μ = .exc 1 [p] (μ ++ t)
  | _, _, x, y, μ, .nil, p, hp => by cases hp
  | _, _, x, y, μ, .cons (a := q) (b := w) (l := l) (r := r) h t, p, hp => by
    obtain ⟨g, e⟩ := h.2.word n μ
    have fe : fault (q :: l) (w :: r) = if okW q.2 w then fault l r else some q.1 := rfl
    have st1 : forFn (V (n + 1)) (.tp [.nm 8, .nm 9]) iB (.tup [q.1, w]) [e0, e1, e2, e3, e4, e5, e6, e7, x, y] μ = if okW q.2 w then .ok (.nx [e0, e1, e2, e3, e4, e5, e6, e7, some q.1, some w]) (μ ++ g) else .exc 1 [q.1] (μ ++ g) := by
      show evalSs (V (n + 1)) (.cons (.ite (.not (.call 0 (.cons (.var 9) (.cons (.sub (.glob 0) (.var 8)) .nil)))) (.cons (.rz 1 (.var 8)) .nil) .nil) .nil) [e0, e1, e2, e3, e4, e5, e6, e7, some q.1, some w] μ = _
      have c : evalE (V (n + 1)) (.not (.call 0 (.cons (.var 9) (.cons (.sub (.glob 0) (.var 8)) .nil)))) [e0, e1, e2, e3, e4, e5, e6, e7, some q.1, some w] μ = .ok (.bl (!okW q.2 w)) (μ ++ g) := by
        rw [ev_not, ev_call, ev_cons, ev_var' (d := w) rfl, bd_ok, ev_cons, look_part h.1 rfl, bd_ok, ev_nil, bd_ok, bd_ok, bd_ok]
        show ((callN tb (n + 1) 0 [w, .tup q.2] μ).bind _) = _
        rw [e]
        rfl
      rw [es_cons, es_ite, c, bd_ok]
      cases okW q.2 w <;> rfl
    show ∃ t, (forFn (V (n + 1)) (.tp [.nm 8, .nm 9]) iB (.tup [q.1, w]) _ μ).bind _ = _
    rw [fe] at hp
    rw [st1]
    cases ho : okW q.2 w with
    | true =>
      rw [ho, if_pos rfl] at hp
      obtain ⟨t2, e2⟩ := init_loop e0 e1 e2 e3 e4 e5 e6 e7 l r (some q.1) (some w) (μ ++ g) t p hp
      exact ⟨g ++ t2, by rw [if_pos rfl, bd_ok, ← List.append_assoc]; exact e2⟩
    | false =>
      rw [ho] at hp
      injection hp with hp
      subst hp
      exact ⟨g, rfl⟩
theorem init_bad {ws : List D} (h : Al ws) {p self : D} (hp : fault parts ws = some p) (μ : Mu) : ∃ t, callN tb (n + 2) 1 (self :: ws) μ = .exc 1 [p] (μ ++ t) := by
  have q := al_pairs (fun _ h => h) h
  obtain ⟨a, b, c, d, e, f, rfl⟩ := al_six h
  obtain ⟨t, e1⟩ := init_loop (n := n) (some self) (some a) (some b) (some c) (some d) (some e) (some f) (some (.tup [a, b, c, d, e, f])) parts _ none none μ q p hp
  refine ⟨t, ?_⟩
  rw [callN_succ (fi := f1) rfl rfl]
  show ((evalSs (V (n + 1)) b1 [some self, some a, some b, some c, some d, some e, some f, none, none, none] μ).bind _ = _)
  have s1 : evalS (V (n + 1)) (.asg (.nm 7) (.tup (.cons (.var 1) (.cons (.var 2) (.cons (.var 3) (.cons (.var 4) (.cons (.var 5) (.cons (.var 6) .nil)))))))) [some self, some a, some b, some c, some d, some e, some f, none, none, none] μ = .ok (.nx [some self, some a, some b, some c, some d, some e, some f, some (.tup [a, b, c, d, e, f]), none, none]) μ := rfl
  show ((evalSs (V (n + 1)) (.cons (.asg (.nm 7) (.tup (.cons (.var 1) (.cons (.var 2) (.cons (.var 3) (.cons (.var 4) (.cons (.var 5) (.cons (.var 6) .nil)))))))) (.cons (.for_ (.tp [(.nm 8), (.nm 9)]) .zip (.cons (.glob 0) (.cons (.var 7) .nil)) iB) (.cons (.asg (.attr (.var 0) 0) (.dzip (.glob 0) (.var 7))) .nil))) [some self, some a, some b, some c, some d, some e, some f, none, none, none] μ).bind _ = _)
  rw [es_cons, s1, bd_ok]
  dsimp only
  rw [es_cons, es_for1 (xs := [globs.headD .non, .tup [a, b, c, d, e, f]]) (ds := zipD (parts.map (·.1)) [a, b, c, d, e, f]) (μ1 := μ) rfl rfl, show forLoop _ _ _ _ = _ from e1]
  rfl
theorem mk_bad {ws : List D} (h : Al ws) {p : D} (hp : fault parts ws = some p) (μ : Mu) : ∃ t, mkI (V (n + 2)) 0 ws μ = .exc 1 [p] (μ ++ t) := by
  obtain ⟨t, e⟩ := init_bad (n := n) h hp (self := .ref μ.length) (μ ++ [.ins 0 []])
  refine ⟨.ins 0 [] :: t, ?_⟩
  show ((callN tb (n + 2) 1 (.ref μ.length :: ws) (μ ++ [.ins 0 []])).bind _) = _
  rw [e, List.append_assoc]
  rfl
theorem built_bad {ws : List D} (h : Al ws) {p : D} (hp : fault parts ws = some p) (μ : Mu) : ∃ t, callN tb (n + 3) 16 [.lst ws] μ = .exc 1 [p] (μ ++ t) := by
  obtain ⟨t, e⟩ := mk_bad (n := n) h hp μ
  refine ⟨t, ?_⟩
  rw [callN_succ (fi := f16) rfl rfl]
  obtain ⟨a, b, c, d, x, y, rfl⟩ := al_six h
  show (((mkI (V (n + 2)) 0 [a, b, c, d, x, y] μ).bind _).bind _).bind _ = _
  rw [e]
  rfl
/-! tried -/
def trE : ZE := .ite (.isN (.var 0)) (.call 16 (.cons (.var 1) .nil)) (.meth (.var 0) 1 (.cons (.var 2) (.cons (.var 3) .nil)))
theorem es_try {V : Ev} {ne : Nat} {b : ZSs} {hs : List ZHd} {ρ : Z.Env} {μ : Mu} : evalS V (.try_ ne b hs) ρ μ = (match evalSs V b ρ μ with
    | .exc c pl μ1 => if 0 < c ∧ c < ne then hdlZ hs c pl ρ μ1 else .err
    | r => r) := rfl
theorem tried_exc {a b c d p : D} {k : Nat} {μ m : Mu} (hk : k = 1 ∨ k = 2) (h : evalE (V n) trE [some a, some b, some c, some d, some .non, none] μ = .exc k [p] m) : callN tb (n + 1) 18 [a, b, c, d] μ = .ok (.tup [st (if k = 1 then "rule" else "part"), p]) m := by
  rw [callN_succ (fi := f18) rfl rfl]
  have e : evalSs (V n) (.cons (.asg (.nm 4) trE) .nil) [some a, some b, some c, some d, some .non, none] μ = .exc k [p] m := by
    rw [es_cons, es_asg, h]
    rfl
  show (((evalS (V n) (.try_ 3 (.cons (.asg (.nm 4) trE) .nil) [.as_ 1 5 4 (.tup [114, 117, 108, 101]), .as_ 2 5 4 (.tup [112, 97, 114, 116])]) [some a, some b, some c, some d, some .non, none] μ).bind _).bind _) = _
  rw [es_try, e]
  rcases hk with rfl | rfl <;> rfl
theorem tried_ok {a b c d r : D} {μ m : Mu} (h : evalE (V n) trE [some a, some b, some c, some d, some .non, none] μ = .ok r m) : callN tb (n + 1) 18 [a, b, c, d] μ = .ok r m := by
  rw [callN_succ (fi := f18) rfl rfl]
  have e : evalSs (V n) (.cons (.asg (.nm 4) trE) .nil) [some a, some b, some c, some d, some .non, none] μ = .ok (.nx [some a, some b, some c, some d, some r, none]) m := by
    rw [es_cons, es_asg, h]
    rfl
  show (((evalS (V n) (.try_ 3 (.cons (.asg (.nm 4) trE) .nil) [.as_ 1 5 4 (.tup [114, 117, 108, 101]), .as_ 2 5 4 (.tup [112, 97, 114, 116])]) [some a, some b, some c, some d, some .non, none] μ).bind _).bind _) = _
  rw [es_try, e]
  rfl
theorem tried_bad {ws : List D} (h : Al ws) {p : D} (hp : fault parts ws = some p) (μ : Mu) : ∃ t, callN tb (n + 4) 18 [.non, .lst ws, .non, .non] μ = .ok (.tup [st "rule", p]) (μ ++ t) := by
  obtain ⟨t, e⟩ := built_bad (n := n) h hp μ
  refine ⟨t, tried_exc (.inl rfl) ?_⟩
  show (callN tb (n + 3) 16 [.lst ws] μ) = _
  exact e
/-! the law's fault -/
def faultD (ws : List D) : D := match fault parts ws with | some p => p | none => .non
def ftB : ZSs := match b17 with
  | .cons (.for_ _ _ _ b) _ => b
  | _ => .nil
theorem fault_loop (e0 : Option D) : ∀ (qs : List (D × List D)) (ws : List D) (x y z : Option D) (μ : Mu), All2 (fun q w => q ∈ parts ∧ PairF q w) qs ws →
    ∃ x' y' z', forLoop (forFn (V n) (.tp [.tp [.nm 2, .nm 3], .nm 1]) ftB) (zipD (qs.map fun q => .tup [q.1, .lst q.2]) ws) [e0, x, y, z] μ = .ok (match fault qs ws with | some p => .rt p | none => .nx [e0, x', y', z']) μ
  | _, _, x, y, z, μ, .nil => ⟨x, y, z, rfl⟩
  | _, _, x, y, z, μ, .cons (a := q) (b := w) (l := l) (r := r) h t => by
    have fe : fault (q :: l) (w :: r) = if okW q.2 w then fault l r else some q.1 := rfl
    have clw := h.2.cl
    have nin : opCI (V n) .notin w (.lst q.2) μ = .ok (.bl (!okW q.2 w)) μ := by
      have e : opC .notin w (.lst q.2) μ = .ok (.bl (!okW q.2 w)) μ := by
        show (match din μ w q.2 with | some b => R.ok (D.bl (if true then !b else b)) μ | none => .err) = _
        rw [h.2.inn μ]
        rfl
      cases w <;> first | exact e | cases clw | skip
      all_goals exact absurd (h.2.inn []) (by intro hh; cases hh)
    have st1 : forFn (V n) (.tp [.tp [.nm 2, .nm 3], .nm 1]) ftB (.tup [.tup [q.1, .lst q.2], w]) [e0, x, y, z] μ = .ok (if okW q.2 w then .nx [e0, some w, some q.1, some (.lst q.2)] else .rt q.1) μ := by
      show evalSs (V n) (.cons (.ite (.cmp .notin (.var 1) (.var 3)) (.cons (.ret (.var 2)) .nil) .nil) .nil) [e0, some w, some q.1, some (.lst q.2)] μ = _
      rw [es_cons, es_ite, ev_cmp, ev_var' (d := w) rfl, bd_ok, ev_var' (d := .lst q.2) rfl, bd_ok, nin, bd_ok]
      cases okW q.2 w <;> rfl
    obtain ⟨x', y', z', e⟩ := fault_loop e0 l r (some w) (some q.1) (some (.lst q.2)) μ t
    refine ⟨x', y', z', ?_⟩
    show (forFn (V n) (.tp [.tp [.nm 2, .nm 3], .nm 1]) ftB (.tup [.tup [q.1, .lst q.2], w]) _ μ).bind _ = _
    rw [st1, bd_ok, fe]
    cases ho : okW q.2 w with
    | true => exact e
    | false => rfl
theorem fault_ok {ws : List D} (h : Al ws) (μ : Mu) : callN tb (n + 2) 17 [.lst ws] μ = .ok (faultD ws) μ := by
  obtain ⟨x, y, z, e⟩ := fault_loop (n := n + 1) (some (.lst ws)) parts ws none none none μ (al_pairs (fun _ h => h) h)
  rw [callN_succ (fi := f17) rfl rfl]
  show ((evalSs (V (n + 1)) (.cons (.for_ (.tp [.tp [.nm 2, .nm 3], .nm 1]) .zip (.cons (.call 14 .nil) (.cons (.var 0) .nil)) ftB) (.cons (.ret .non) .nil)) [some (.lst ws), none, none, none] μ).bind _ = _)
  have it : evalEs (V (n + 1)) (.cons (.call 14 .nil) (.cons (.var 0) .nil)) [some (.lst ws), none, none, none] μ = .ok [partsD, .lst ws] μ := by
    show ((callN tb (n + 1) 14 [] μ).bind _) = _
    rw [parts_ok] <;> rfl
  rw [es_cons, es_for1 (ds := zipD (parts.map fun q => .tup [q.1, .lst q.2]) ws) it rfl, e]
  unfold faultD
  cases fault parts ws <;> rfl
end
end K01

end
section
set_option maxHeartbeats 4000000
set_option autoImplicit false
/-! K01b: right rules; changed; equal rules. -/
namespace K01
open PySem L2 Z ZQ P01 WM
open D01 (All2 hst st parts partsD pickAll mem_pickAll words next_ok pick_dr parts_ok V)
def sok (a : List Nat) : Bool := PyData.strOk ⟨a.toArray⟩
theorem deq_str (μ : Mu) {a b : List Nat} (ha : sok a = true) (hb : sok b = true) : deq μ (.str a) (.str b) = some (decide (a = b)) := by
  have tp : ∀ a, toPy μ 8 (.str a) = some (.str ⟨a.toArray⟩) := fun a => by unfold toPy; rfl
  have e : PyData.eqv (.str ⟨a.toArray⟩) (.str ⟨b.toArray⟩) = decide (a = b) := by
    by_cases h : a = b
    · subst h
      simp [PyData.eqv]
    · rw [decide_eq_false h]
      simp only [PyData.eqv]
      exact beq_eq_false_iff_ne.mpr fun e => h (by injection e with e; exact congrArg Array.toList e)
  have s : ∀ a : List Nat, sok a = true → SeqAt.shaped (.str ⟨a.toArray⟩) = true := fun a h => by
    simp [SeqAt.shaped, PyData.canLay0, PyData.depth]
    exact h
  unfold deq
  rw [tp, tp]
  dsimp only
  rw [s a ha, s b hb, e]
  rfl
def wsR (r : Ru) : List D := [.str r.cp, .str r.ch, .str r.mv, .str r.th, .str r.ct, .str r.cl]
def wsL (d : D) : List (List Nat) := match d with
  | .lst l => l.map fun x => match x with | .str s => s | _ => []
  | _ => []
def ruOf (w : D) : Ru := ⟨(wsL w).getD 0 [], (wsL w).getD 1 [], (wsL w).getD 2 [], (wsL w).getD 3 [], (wsL w).getD 4 [], (wsL w).getD 5 []⟩
def cond1 : ZE := (.or (.cmp .ne (.call 19 (.cons (.var 6) .nil)) (.var 4)) (.or (.not (.cmp .eq (.var 6) (.call 16 (.cons (.var 4) .nil)))) (.cmp .eq (.var 6) (.var 4))))
def goodB (w : D) : Bool := clD w && (beqD w (.lst (wsR (ruOf w))) && (isOk (callN tb 3 16 [w] []) (encR (ruOf w)) && (isOk (callN tb 3 19 [encR (ruOf w)] []) w && (isOk (evalE (V 5) cond1 [none, none, none, none, some w, none, some (encR (ruOf w)), none, none, none, none, none] []) (.bl false) && ((deq [] w w == some true) && (wsL w).all sok)))))
theorem go_0 : ((words.drop 0).take 24).all goodB = true := by decide +kernel
theorem go_1 : ((words.drop 24).take 24).all goodB = true := by decide +kernel
theorem go_2 : ((words.drop 48).take 24).all goodB = true := by decide +kernel
theorem go_3 : ((words.drop 72).take 24).all goodB = true := by decide +kernel
theorem go_4 : ((words.drop 96).take 24).all goodB = true := by decide +kernel
theorem go_5 : ((words.drop 120).take 24).all goodB = true := by decide +kernel
theorem go_6 : (words.drop 144).all goodB = true := by decide +kernel
theorem all_split {α : Type} {f : α → Bool} (l : List α) (k : Nat) : l.all f = ((l.take k).all f && (l.drop k).all f) := by rw [← List.all_append, List.take_append_drop]
theorem go_all : words.all goodB = true := by
  rw [all_split words 24, show (words.take 24).all goodB = true from go_0, all_split (words.drop 24) 24, go_1, List.drop_drop, all_split (words.drop (24 + 24)) 24, show ((words.drop (24 + 24)).take 24).all goodB = true from go_2, List.drop_drop,
    all_split (words.drop (24 + 24 + 24)) 24, show ((words.drop (24 + 24 + 24)).take 24).all goodB = true from go_3, List.drop_drop, all_split (words.drop (24 + 24 + 24 + 24)) 24, show ((words.drop (24 + 24 + 24 + 24)).take 24).all goodB = true from go_4, List.drop_drop,
    all_split (words.drop (24 + 24 + 24 + 24 + 24)) 24, show ((words.drop (24 + 24 + 24 + 24 + 24)).take 24).all goodB = true from go_5, List.drop_drop, show (words.drop (24 + 24 + 24 + 24 + 24 + 24)).all goodB = true from go_6]
  rfl
theorem cl_R (r : Ru) : clD (encR r) = true := rfl
theorem cl_W (r : Ru) : clD (.lst (wsR r)) = true := rfl
section
variable {n : Nat}
/-- a rule that may be -/
structure Good (r : Ru) : Prop where
  built : ∀ (n : Nat) (μ : Mu), ∃ t, callN tb (n + 3) 16 [.lst (wsR r)] μ = .ok (encR r) (μ ++ t)
  told : ∀ (n : Nat) (μ : Mu), ∃ t, callN tb (n + 3) 19 [encR r] μ = .ok (.lst (wsR r)) (μ ++ t)
  cond : ∀ (n : Nat) (μ : Mu) (ρ : Z.Env), leE [none, none, none, none, some (.lst (wsR r)), none, some (encR r), none, none, none, none, none] ρ → ∃ t, evalE (V (n + 5)) cond1 ρ μ = .ok (.bl false) (μ ++ t)
  same : ∀ μ, deq μ (.lst (wsR r)) (.lst (wsR r)) = some true
  sk : (wsL (.lst (wsR r))).all sok = true
theorem good {w : D} (hw : w ∈ words) : w = .lst (wsR (ruOf w)) ∧ Good (ruOf w) := by
  have h := List.all_eq_true.mp go_all w hw
  unfold goodB at h
  simp only [Bool.and_eq_true] at h
  obtain ⟨h1, h2, h3, h4, h5, h6, h7⟩ := h
  have e := beqD_eq h2
  generalize ruOf w = r at *
  subst e
  refine ⟨rfl, fun n μ => ?_, fun n μ => ?_, fun n μ ρ le => ?_, fun μ => ?_, h7⟩
  · obtain ⟨t, e⟩ := call_cl (n := 3) clTb h3 rfl (cl_R _) n μ
    rw [Nat.add_comm 3 n] at e
    exact ⟨t, e⟩
  · obtain ⟨t, e⟩ := call_cl (n := 3) clTb h4 rfl (cl_W _) n μ
    rw [Nat.add_comm 3 n] at e
    exact ⟨t, e⟩
  · obtain ⟨t, e⟩ := eval_cl (n := 5) clTb h5 rfl le rfl n μ
    rw [Nat.add_comm 5 n] at e
    exact ⟨t, e⟩
  · rw [deq_cl (cl_W _) (cl_W _)]
    exact eq_of_beq h6
/-- words right at their places are those of a rule -/
theorem good_ws {ws : List D} (h : Al ws) (hf : fault parts ws = none) : ∃ r, ws = wsR r ∧ Good r := by
  obtain ⟨e, g⟩ := good (al_words (al_good (al_pairs (fun _ h => h) h) hf))
  injection e with e
  exact ⟨_, e, g⟩
theorem mk_good {r : Ru} (g : Good r) (μ : Mu) : ∃ t, mkI (V (n + 2)) 0 (wsR r) μ = .ok (encR r) (μ ++ t) := by
  obtain ⟨t, e⟩ := g.built n μ
  refine ⟨t, ?_⟩
  rw [callN_succ (fi := f16) rfl rfl] at e
  have e : (((mkI (V (n + 2)) 0 (wsR r) μ).bind fun d μ1 => R.ok (Fl.rt d) μ1).bind fun f μ1 => match f with
    | .nx ρ1 => evalSs (V (n + 2)) .nil ρ1 μ1
    | .rt d => .ok (.rt d) μ1).bind (fun r μ1 => match r with
      | .nx _ => .ok D.non μ1
      | .rt d => .ok d μ1) = .ok (encR r) (μ ++ t) := e
  cases h : mkI (V (n + 2)) 0 (wsR r) μ with
  | ok x m =>
    rw [h] at e
    exact e
  | exc c pl m =>
    rw [h] at e
    cases e
  | err =>
    rw [h] at e
    cases e
theorem tried_good {r : Ru} (g : Good r) (μ : Mu) : ∃ t, callN tb (n + 4) 18 [.non, .lst (wsR r), .non, .non] μ = .ok (encR r) (μ ++ t) := by
  obtain ⟨t, e⟩ := g.built n μ
  exact ⟨t, tried_ok (show evalE (V (n + 3)) trE _ μ = _ from e)⟩
/-! equal rules -/
theorem rule_eq {a b : Ru} (ga : Good a) (gb : Good b) (μ : Mu) : opCI (V (n + 1)) .eq (encR a) (encR b) μ = .ok (.bl (decide (a.cp = b.cp) && (decide (a.ch = b.ch) && (decide (a.mv = b.mv) && (decide (a.th = b.th) && (decide (a.ct = b.ct) && (decide (a.cl = b.cl) && true))))))) μ := by
  have q : dicEq μ (encRL b) (encRL a) = some (decide (a.cp = b.cp) && (decide (a.ch = b.ch) && (decide (a.mv = b.mv) && (decide (a.th = b.th) && (decide (a.ct = b.ct) && (decide (a.cl = b.cl) && true)))))) := by
    have sa := ga.sk
    have sb := gb.sk
    simp only [wsL, wsR, List.map_cons, List.map_nil, List.all_cons, List.all_nil, Bool.and_eq_true] at sa sb
    obtain ⟨a1, a2, a3, a4, a5, a6, _⟩ := sa
    obtain ⟨b1, b2, b3, b4, b5, b6, _⟩ := sb
    unfold encRL
    simp only [dicEq]
    rw [show dget _ (DK.s [99, 111, 112, 121, 105, 110, 103]) = some (D.str b.cp) from rfl, show dget _ (DK.s [99, 104, 97, 110, 103, 105, 110, 103]) = some (D.str b.ch) from rfl, show dget _ (DK.s [109, 111, 118, 105, 110, 103]) = some (D.str b.mv) from rfl, show dget _ (DK.s [116, 104, 114, 111, 119, 105, 110, 103]) = some (D.str b.th) from rfl, show dget _ (DK.s [99, 111, 117, 110, 116, 105, 110, 103]) = some (D.str b.ct) from rfl, show dget _ (DK.s [99, 108, 101, 97, 114, 105, 110, 103]) = some (D.str b.cl) from rfl]
    simp only [deq_str, a1, a2, a3, a4, a5, a6, b1, b2, b3, b4, b5, b6]
  have op : opCI (V n) .eq (.dic (encRL a)) (.dic (encRL b)) μ = .ok (.bl (decide (a.cp = b.cp) && (decide (a.ch = b.ch) && (decide (a.mv = b.mv) && (decide (a.th = b.th) && (decide (a.ct = b.ct) && (decide (a.cl = b.cl) && true))))))) μ := by
    show (match dicEq μ (encRL b) (encRL a) with
      | some b => R.ok (D.bl b) μ
      | none => .err) = _
    rw [q]
  show ((callN tb (n + 1) 9 [encR a, encR b] μ).pure1.bind _) = _
  rw [callN_succ (fi := f9) rfl rfl]
  show ((((((opCI (V n) .eq (.dic (encRL a)) (.dic (encRL b)) μ).bind _).bind _).bind _).bind _).pure1.bind _) = _
  rw [op]
  rfl
/-! changed -/
theorem changed_mk (r : Ru) (k : Nat) (p : D) (hk : (parts.map (·.1))[k]? = some p) (v : D) (μ : Mu) : callN tb (n + 1) 8 [encR r, p, v] μ = mkI (V n) 0 ((wsR r).set k v) μ := by
  have fin : ∀ (μ : Mu) (R0 : R D), ((R0.bind fun d μ1 => R.ok (Fl.rt d) μ1).bind fun f μ1 => match f with
    | .nx ρ1 => evalSs (V n) .nil ρ1 μ1
    | .rt d => .ok (.rt d) μ1).bind (fun r μ1 => match r with
      | .nx _ => .ok D.non μ1
      | .rt d => .ok d μ1) = R0 := fun μ R0 => by cases R0 <;> rfl
  rw [callN_succ (fi := f8) rfl rfl]
  match k, hk with
  | 0, hk => injection hk with hk; subst hk; exact fin μ _
  | 1, hk => injection hk with hk; subst hk; exact fin μ _
  | 2, hk => injection hk with hk; subst hk; exact fin μ _
  | 3, hk => injection hk with hk; subst hk; exact fin μ _
  | 4, hk => injection hk with hk; subst hk; exact fin μ _
  | 5, hk => injection hk with hk; subst hk; exact fin μ _
  | k + 6, hk => cases hk
theorem trE_meth (r : Ru) (p v : D) (μ : Mu) : evalE (V n) trE [some (encR r), some .non, some p, some v, some .non, none] μ = callN tb n 8 [encR r, p, v] μ := rfl
def oddP : List D := [st "Copying", .non, .int 5, st "", .lst [st "moving"], st "names"]
theorem changed_odd (r : Ru) {p : D} (hp : p ∈ oddP) (v : D) (μ : Mu) : callN tb (n + 1) 8 [encR r, p, v] μ = .exc 2 [p] μ := by
  rw [callN_succ (fi := f8) rfl rfl]
  unfold oddP at hp
  simp only [List.mem_cons, List.not_mem_nil, or_false] at hp
  rcases hp with rfl | rfl | rfl | rfl | rfl | rfl <;> rfl
end
end K01

end
section
set_option maxHeartbeats 4000000
set_option autoImplicit false
/-! K01c: the law of rules refused. -/
namespace K01
open PySem L2 Z ZQ P01 WM
open D01 (All2 hst st parts partsD pickAll mem_pickAll words next_ok pick_dr parts_ok V)
section
variable {n : Nat}
theorem hst_len {xs : List Int} {s i : Int} {g : Mu} : (hst xs s i g).length = 2 + g.length := by
  show g.length + 1 + 1 = _
  omega
theorem hst_app {xs : List Int} {s i : Int} {g t : Mu} : hst xs s i g ++ t = hst xs s i (g ++ t) := rfl
theorem hst_get {xs : List Int} {s i : Int} {g : Mu} {o : MO} : (hst xs s i (g ++ [o]))[2 + g.length]? = some o := by
  show (.lst (xs.map .int) :: .lst [.int s, .ref 0, .int i] :: (g ++ [o]))[2 + g.length]? = _
  rw [show 2 + g.length = g.length + 1 + 1 by omega, List.getElem?_cons_succ, List.getElem?_cons_succ, List.getElem?_append_right (Nat.le_refl _), Nat.sub_self]
  rfl
theorem hst_set {xs : List Int} {s i : Int} {g : Mu} {o o' : MO} : (hst xs s i (g ++ [o])).set (2 + g.length) o' = hst xs s i (g ++ [o']) := by
  show (MO.lst (xs.map .int) :: .lst [.int s, .ref 0, .int i] :: (g ++ [o])).set (2 + g.length) o' = _
  rw [show 2 + g.length = g.length + 1 + 1 by omega, List.set_cons_succ, List.set_cons_succ, List.set_append_right _ _ (Nat.le_refl _), Nat.sub_self]
  rfl
def turnB : ZSs := match b20 with
  | .cons _ (.cons _ (.cons _ (.cons (.for_ _ _ _ b) _))) => b
  | _ => .nil
def chB : ZSs := match turnB with
  | .cons _ (.cons (.for_ _ _ _ b) _) => b
  | _ => .nil
theorem setW {xs : List Int} {s i : Int} {g : Mu} {ws : List D} (hl : ws.length = 6) {j : Int} (h0 : 0 ≤ j) (h1 : j < 6) (v : D) : setG (.ref (2 + g.length)) (.int j) v (hst xs s i (g ++ [.lst ws])) = .ok () (hst xs s i (g ++ [.lst (ws.set j.toNat v)])) := by
  have ix : ixN 6 j = some j.toNat := by
    have : j = 0 ∨ j = 1 ∨ j = 2 ∨ j = 3 ∨ j = 4 ∨ j = 5 := by omega
    rcases this with rfl | rfl | rfl | rfl | rfl | rfl <;> rfl
  unfold setG
  dsimp only
  rw [hst_get]
  dsimp only
  rw [hl, ix]
  dsimp only
  rw [hst_set]
theorem ch_loop (sc k a6 a7 a8 a9 a10 a11 : Option D) (g : Mu) : ∀ (its : List D) (ws : List D) (x5 : Option D) (xs : List Int) (s i : Int), Al ws → xs.length ≤ 63 → 0 ≤ i → ∃ xs' s' i' ws' x5', Al ws' ∧ xs'.length ≤ 63 ∧ 0 ≤ i' ∧
    forLoop (forFn (V (n + 19)) (.nm 5) chB) its [sc, some (.ref 1), some (.lst oddL), k, some (.ref (2 + g.length)), x5, a6, a7, a8, a9, a10, a11] (hst xs s i (g ++ [.lst ws])) = .ok (.nx [sc, some (.ref 1), some (.lst oddL), k, some (.ref (2 + g.length)), x5', a6, a7, a8, a9, a10, a11]) (hst xs' s' i' (g ++ [.lst ws']))
  | [], ws, x5, xs, s, i, h, hx, hi => ⟨xs, s, i, ws, x5, h, hx, hi, rfl⟩
  | it :: its, ws, x5, xs, s, i, h, hx, hi => by
    obtain ⟨x1, s1, i1, v, a1, a2, a3, e1⟩ := pick_dr (n := n + 17) (l := oddL) (List.cons_ne_nil _ _) (by decide) xs s i (g ++ [.lst ws]) hx hi
    obtain ⟨x2, s2, i2, j, b1, b2, b3, b4, e2⟩ := next_ok (n := n + 18) (k := 6) (by decide) (by decide) x1 s1 i1 (g ++ [.lst ws]) a1 a2
    have h' : Al (ws.set j.toNat v) := al_set j.toNat (fun q hq => List.mem_append_right _ a3) h
    obtain ⟨x3, s3, i3, ws', x5', c1, c2, c3, e3⟩ := ch_loop sc k a6 a7 a8 a9 a10 a11 g its (ws.set j.toNat v) (some it) x2 s2 i2 h' b1 b2
    refine ⟨x3, s3, i3, ws', x5', c1, c2, c3, ?_⟩
    have e1' : callN tb (n + 19) 13 [.ref 1, .lst oddL] (hst xs s i (g ++ [.lst ws])) = .ok v (hst x1 s1 i1 (g ++ [.lst ws])) := e1
    have e2' : callN tb (n + 19) 11 [.ref 1, .int 6] (hst x1 s1 i1 (g ++ [.lst ws])) = .ok (.int j) (hst x2 s2 i2 (g ++ [.lst ws])) := e2
    have e4 := setW (xs := x2) (s := s2) (i := i2) (g := g) (al_len h) b3 b4 v
    have st1 : forFn (V (n + 19)) (.nm 5) chB it [sc, some (.ref 1), some (.lst oddL), k, some (.ref (2 + g.length)), x5, a6, a7, a8, a9, a10, a11] (hst xs s i (g ++ [.lst ws])) = .ok (.nx [sc, some (.ref 1), some (.lst oddL), k, some (.ref (2 + g.length)), some it, a6, a7, a8, a9, a10, a11]) (hst x2 s2 i2 (g ++ [.lst (ws.set j.toNat v)])) := by
      show evalSs (V (n + 19)) (.cons (.asg (.sub (.var 4) (.call 11 (.cons (.var 1) (.cons (.int 6) .nil)))) (.call 13 (.cons (.var 1) (.cons (.var 2) .nil)))) .nil) [sc, some (.ref 1), some (.lst oddL), k, some (.ref (2 + g.length)), some it, a6, a7, a8, a9, a10, a11] _ = _
      simp only [es_cons, ess_nil, es_asg, asgG, ev_call, ev_cons, ev_nil, ev_int, ev_var, bd_ok, List.getElem?_cons_zero, List.getElem?_cons_succ, e1', e2', e4]
    show (forFn (V (n + 19)) (.nm 5) chB it _ _).bind _ = _
    rw [st1, bd_ok]
    exact e3
/-! a wrong part -/
theorem fault_name : ∀ {qs : List (D × List D)} {ws : List D} {p : D}, fault qs ws = some p → p ∈ qs.map (·.1)
  | q :: qs, w :: ws, p, h => by
    have fe : fault (q :: qs) (w :: ws) = if okW q.2 w then fault qs ws else some q.1 := rfl
    rw [fe] at h
    cases ho : okW q.2 w with
    | true =>
      rw [ho, if_pos rfl] at h
      exact List.mem_cons_of_mem _ (fault_name h)
    | false =>
      rw [ho] at h
      injection h with h
      rw [← h]
      exact List.mem_cons_self ..
theorem fault_set {w : D} : ∀ {qs : List (D × List D)} {ws : List D} {k : Nat} {q : D × List D}, fault qs ws = none → ws.length = qs.length → qs[k]? = some q → fault qs (ws.set k w) = if okW q.2 w then none else some q.1
  | [], [], k, q, _, _, h => by cases h
  | q0 :: qs, w0 :: ws, 0, q, h, hl, hk => by
    injection hk with hk
    subst hk
    have fe : ∀ w, fault (q0 :: qs) (w :: ws) = if okW q0.2 w then fault qs ws else some q0.1 := fun _ => rfl
    rw [fe] at h
    rw [List.set_cons_zero, fe]
    cases ho : okW q0.2 w0 with
    | true =>
      rw [ho, if_pos rfl] at h
      rw [h]
    | false =>
      rw [ho] at h
      cases h
  | q0 :: qs, w0 :: ws, k + 1, q, h, hl, hk => by
    have fe : ∀ ws, fault (q0 :: qs) (w0 :: ws) = if okW q0.2 w0 then fault qs ws else some q0.1 := fun _ => rfl
    rw [fe] at h
    rw [List.set_cons_succ, fe]
    cases ho : okW q0.2 w0 with
    | true =>
      rw [ho, if_pos rfl] at h
      rw [if_pos rfl]
      exact fault_set h (by simpa using hl) hk
    | false =>
      rw [ho] at h
      cases h
def noN : D → Bool
  | .non => false
  | _ => true
def twoB (p : D) : Bool := (deq [] (.tup [st "rule", p]) (.tup [st "rule", p]) == some true) && clD p && noN p
theorem two_ok : (parts.map (·.1)).all twoB = true := by decide +kernel
theorem ne_two {p : D} (hp : p ∈ parts.map (·.1)) (V : Ev) (μ : Mu) : opCI V .ne (.tup [st "rule", p]) (.tup [st "rule", p]) μ = .ok (.bl false) μ := by
  have h := List.all_eq_true.mp two_ok p hp
  unfold twoB at h
  simp only [Bool.and_eq_true] at h
  have c : clD (.tup [st "rule", p]) = true := by
    show (clD (st "rule") && (clD p && true)) = true
    rw [h.1.2]
    rfl
  show (match deq μ (.tup [st "rule", p]) (.tup [st "rule", p]) with | some b => R.ok (D.bl (!b)) μ | none => .err) = _
  rw [deq_cl c c, eq_of_beq h.1.1]
  rfl
theorem ne_same {r : Ru} (g : Good r) (V : Ev) (μ : Mu) : opCI V .ne (.lst (wsR r)) (.lst (wsR r)) μ = .ok (.bl false) μ := by
  show (match deq μ (.lst (wsR r)) (.lst (wsR r)) with | some b => R.ok (D.bl (!b)) μ | none => .err) = _
  rw [g.same]
  rfl
theorem notN_name {p : D} (hp : p ∈ parts.map (·.1)) : noN p = true := by
  have h := List.all_eq_true.mp two_ok p hp
  unfold twoB at h
  simp only [Bool.and_eq_true] at h
  exact h.2
theorem alike_odd : oddP.all (fun p => clD p && isOk (callN tb 4 12 [.tup [st "part", p], .tup [st "part", p]] []) (.bl true)) = true := by decide +kernel
theorem alike_ok {p : D} (hp : p ∈ oddP) (μ : Mu) : ∃ t, callN tb (n + 4) 12 [.tup [st "part", p], .tup [st "part", p]] μ = .ok (.bl true) (μ ++ t) := by
  obtain ⟨h1, h2⟩ := Bool.and_eq_true_iff.mp (List.all_eq_true.mp alike_odd p hp)
  have c : clD (.tup [st "part", p]) = true := by
    show (clD (st "part") && (clD p && true)) = true
    rw [h1]
    rfl
  obtain ⟨t, e⟩ := call_cl (n := 4) clTb h2 (clL2 c c) rfl n μ
  rw [Nat.add_comm 4 n] at e
  exact ⟨t, e⟩
/-! what is asked of a part changed -/
def wl (k : Nat) : List D := (parts.getD k (.non, [])).2 ++ oddL.take 5
def partE : ZE := (.ite (.cmp .lt (.var 8) (.int 6)) (.sub (.sub (.call 14 .nil) (.var 8)) (.int 0)) (.call 13 (.cons (.var 1) (.cons (.lst false (.cons (.str [67, 111, 112, 121, 105, 110, 103]) (.cons .non (.cons (.int 5) (.cons (.str []) (.cons (.lst false (.cons (.str [109, 111, 118, 105, 110, 103]) .nil)) (.cons (.str [110, 97, 109, 101, 115]) .nil))))))) .nil))))
def wordE : ZE := (.bin .add false (.sub (.sub (.call 14 .nil) (.bin .mod false (.var 8) (.int 6))) (.int 1)) (.slice false (.var 2) .nil (.cons (.int 5) .nil)))
def askA : ZS := (.ite (.not (.call 12 (.cons (.var 11) (.cons (.tup (.cons (.str [112, 97, 114, 116]) (.cons (.var 9) .nil))) .nil)))) (.cons (.ret (.bl false)) .nil) .nil)
def askC : ZE := (.or (.cmp .ne (.call 19 (.cons (.var 11) .nil)) (.bin .add false (.bin .add false (.slice false (.var 4) .nil (.cons (.var 8) .nil)) (.lst false (.cons (.var 10) .nil))) (.slice false (.var 4) (.cons (.bin .add false (.var 8) (.int 1)) .nil) .nil))) (.cmp .ne (.cmp .eq (.var 11) (.var 6)) (.cmp .eq (.var 10) (.sub (.var 4) (.var 8)))))
def askB : ZS := (.ite (.cmp .notin (.var 10) (.sub (.sub (.call 14 .nil) (.var 8)) (.int 1))) (.cons (.ite (.cmp .ne (.var 11) (.tup (.cons (.str [114, 117, 108, 101]) (.cons (.var 9) .nil)))) (.cons (.ret (.bl false)) .nil) .nil) .nil) (.cons (.ite askC (.cons (.ret (.bl false)) .nil) .nil) .nil))
theorem ne_bl (b : Bool) (V : Ev) (μ : Mu) : opCI V .ne (.bl b) (.bl b) μ = .ok (.bl false) μ := by cases b <;> rfl
theorem bl_ne {q : D × List D} {w : D} (F : PairF q w) (V : Ev) (μ : Mu) : opCI V .notin w (.lst q.2) μ = .ok (.bl (!okW q.2 w)) μ := by
  have e : opC .notin w (.lst q.2) μ = .ok (.bl (!okW q.2 w)) μ := by
    show (match din μ w q.2 with | some b => R.ok (D.bl (if true then !b else b)) μ | none => .err) = _
    rw [F.inn μ]
    rfl
  have clw := F.cl
  cases w <;> first | exact e | cases clw | skip
  all_goals exact absurd (F.inn []) (by intro hh; cases hh)
theorem askC_ok {r r' : Ru} (g : Good r) (g' : Good r') {k : Nat} (hk : k < 6) {w : D} (hw : wsR r' = (wsR r).set k w) (sc a1 a2 a3 a5 a7 a9 : Option D) (μ : Mu) :
    ∃ t, evalE (V (n + 19)) askC [sc, a1, a2, a3, some (.lst (wsR r)), a5, some (encR r), a7, some (.int k), a9, some w, some (encR r')] μ = .ok (.bl false) (μ ++ t) := by
  obtain ⟨t, e⟩ := g'.told (n + 16) μ
  refine ⟨t, ?_⟩
  have e' : evalE (V (n + 19)) (.call 19 (.cons (.var 11) .nil)) [sc, a1, a2, a3, some (.lst (wsR r)), a5, some (encR r), a7, some (.int k), a9, some w, some (encR r')] μ = .ok (.lst (wsR r')) (μ ++ t) := by
    rw [ev_call, ev_cons, ev_var' (d := encR r') rfl, bd_ok, ev_nil, bd_ok, bd_ok]
    exact e
  have q := rule_eq (n := n + 18) g' g (μ ++ t)
  have rest : ∀ (M : Mu), evalE (V (n + 19)) (.bin .add false (.bin .add false (.slice false (.var 4) .nil (.cons (.var 8) .nil)) (.lst false (.cons (.var 10) .nil))) (.slice false (.var 4) (.cons (.bin .add false (.var 8) (.int 1)) .nil) .nil)) [sc, a1, a2, a3, some (.lst (wsR r)), a5, some (encR r), a7, some (.int k), a9, some w, some (encR r')] M = .ok (.lst ((wsR r).set k w)) M := fun M => by
    have : k = 0 ∨ k = 1 ∨ k = 2 ∨ k = 3 ∨ k = 4 ∨ k = 5 := by omega
    rcases this with rfl | rfl | rfl | rfl | rfl | rfl <;> rfl
  have one : ∃ b, opCI (V (n + 19)) .eq (encR r') (encR r) (μ ++ t) = .ok (.bl b) (μ ++ t) ∧ evalE (V (n + 19)) (.cmp .eq (.var 10) (.sub (.var 4) (.var 8))) [sc, a1, a2, a3, some (.lst (wsR r)), a5, some (encR r), a7, some (.int k), a9, some w, some (encR r')] (μ ++ t) = .ok (.bl b) (μ ++ t) := by
    refine ⟨_, q, ?_⟩
    have : k = 0 ∨ k = 1 ∨ k = 2 ∨ k = 3 ∨ k = 4 ∨ k = 5 := by omega
    obtain ⟨x0, x1, x2, x3, x4, x5⟩ := r'
    obtain ⟨y0, y1, y2, y3, y4, y5⟩ := r
    rcases this with rfl | rfl | rfl | rfl | rfl | rfl
    all_goals
      simp only [wsR, List.set_cons_zero, List.set_cons_succ, List.cons.injEq, D.str.injEq] at hw
      obtain ⟨h0, h1, h2, h3, h4, h5, _⟩ := hw
      subst h0 h1 h2 h3 h4 h5
      simp only [decide_true, Bool.and_true, Bool.true_and]
      rfl
  obtain ⟨b, o1, o2⟩ := one
  have m1 : evalE (V (n + 19)) (.cmp .ne (.call 19 (.cons (.var 11) .nil)) (.bin .add false (.bin .add false (.slice false (.var 4) .nil (.cons (.var 8) .nil)) (.lst false (.cons (.var 10) .nil))) (.slice false (.var 4) (.cons (.bin .add false (.var 8) (.int 1)) .nil) .nil))) [sc, a1, a2, a3, some (.lst (wsR r)), a5, some (encR r), a7, some (.int k), a9, some w, some (encR r')] μ = .ok (.bl false) (μ ++ t) := by
    rw [ev_cmp, e', bd_ok, rest, bd_ok, ← hw, ne_same g']
  have m2 : evalE (V (n + 19)) (.cmp .ne (.cmp .eq (.var 11) (.var 6)) (.cmp .eq (.var 10) (.sub (.var 4) (.var 8)))) [sc, a1, a2, a3, some (.lst (wsR r)), a5, some (encR r), a7, some (.int k), a9, some w, some (encR r')] (μ ++ t) = .ok (.bl false) (μ ++ t) := by
    have l : evalE (V (n + 19)) (.cmp .eq (.var 11) (.var 6)) [sc, a1, a2, a3, some (.lst (wsR r)), a5, some (encR r), a7, some (.int k), a9, some w, some (encR r')] (μ ++ t) = .ok (.bl b) (μ ++ t) := by
      rw [ev_cmp, ev_var' (d := encR r') rfl, bd_ok, ev_var' (d := encR r) rfl, bd_ok, o1]
    rw [ev_cmp, l, bd_ok, o2, bd_ok, ne_bl]
  unfold askC
  rw [ev_or, m1, bd_ok]
  dsimp only
  rw [m2]
  rfl
end
end K01

end
section
set_option maxHeartbeats 4000000
set_option autoImplicit false
/-! K01d: one turn; the law. -/
namespace K01
open PySem L2 Z ZQ P01 WM
open D01 (All2 hst st parts partsD pickAll mem_pickAll words next_ok pick_dr parts_ok V)
section
variable {n : Nat}
theorem al_set1 {P : D × List D → D → Prop} {w : D} : ∀ {qs : List (D × List D)} {ws : List D} {k : Nat} {q : D × List D}, qs[k]? = some q → P q w → All2 P qs ws → All2 P qs (ws.set k w)
  | _, _, _, _, hk, _, .nil => .nil
  | _, _, 0, q, hk, hp, .cons h t => by
    injection hk with hk
    subst hk
    exact .cons hp t
  | _, _, k + 1, q, hk, hp, .cons h t => .cons h (al_set1 hk hp t)
theorem al_mono {P Q : D × List D → D → Prop} (h : ∀ q w, P q w → Q q w) : ∀ {qs : List (D × List D)} {ws : List D}, All2 P qs ws → All2 Q qs ws
  | _, _, .nil => .nil
  | _, _, .cons a t => .cons (h _ _ a) (al_mono h t)
theorem part_lo {k : Nat} {q : D × List D} (hq : parts[k]? = some q) (sc a1 a3 a4 a5 a6 a7 a9 a10 a11 : Option D) (μ : Mu) : evalE (V (n + 19)) partE [sc, a1, some (.lst oddL), a3, a4, a5, a6, a7, some (.int k), a9, a10, a11] μ = .ok q.1 μ := by
  match k, hq with
  | 0, hq => injection hq with hq; subst hq; rfl
  | 1, hq => injection hq with hq; subst hq; rfl
  | 2, hq => injection hq with hq; subst hq; rfl
  | 3, hq => injection hq with hq; subst hq; rfl
  | 4, hq => injection hq with hq; subst hq; rfl
  | 5, hq => injection hq with hq; subst hq; rfl
  | k + 6, hq => cases hq
theorem word_lo {k : Nat} {q : D × List D} (hq : parts[k]? = some q) (sc a1 a3 a4 a5 a6 a7 a9 a10 a11 : Option D) (μ : Mu) : evalE (V (n + 19)) wordE [sc, a1, some (.lst oddL), a3, a4, a5, a6, a7, some (.int k), a9, a10, a11] μ = .ok (.lst (q.2 ++ oddL.take 5)) μ := by
  match k, hq with
  | 0, hq => injection hq with hq; subst hq; rfl
  | 1, hq => injection hq with hq; subst hq; rfl
  | 2, hq => injection hq with hq; subst hq; rfl
  | 3, hq => injection hq with hq; subst hq; rfl
  | 4, hq => injection hq with hq; subst hq; rfl
  | 5, hq => injection hq with hq; subst hq; rfl
  | k + 6, hq => cases hq
theorem allow_lo {k : Nat} {q : D × List D} (hq : parts[k]? = some q) (sc a1 a3 a4 a5 a6 a7 a9 a10 a11 : Option D) (μ : Mu) : evalE (V (n + 19)) (.sub (.sub (.call 14 .nil) (.var 8)) (.int 1)) [sc, a1, some (.lst oddL), a3, a4, a5, a6, a7, some (.int k), a9, a10, a11] μ = .ok (.lst q.2) μ := by
  match k, hq with
  | 0, hq => injection hq with hq; subst hq; rfl
  | 1, hq => injection hq with hq; subst hq; rfl
  | 2, hq => injection hq with hq; subst hq; rfl
  | 3, hq => injection hq with hq; subst hq; rfl
  | 4, hq => injection hq with hq; subst hq; rfl
  | 5, hq => injection hq with hq; subst hq; rfl
  | k + 6, hq => cases hq
theorem take5 {q : D × List D} {w : D} (h : w ∈ q.2 ++ oddL.take 5) : w ∈ q.2 ++ oddL := by
  rcases List.mem_append.mp h with h | h
  · exact List.mem_append_left _ h
  · exact List.mem_append_right _ (List.mem_of_mem_take h)
/-- the last question -/
def askS : ZS := .ite (.cmp .gt (.var 8) (.int 5)) (.cons askA .nil) (.cons askB .nil)
def laterS : ZS := .asg (.nm 11) (.call 18 (.cons (.var 6) (.cons .non (.cons (.var 9) (.cons (.var 10) .nil)))))
theorem ask_lo {r : Ru} (g : Good r) (ha : Al (wsR r)) (hf : fault parts (wsR r) = none) {k : Nat} {q : D × List D} (hq : parts[k]? = some q) {w : D} (hw : w ∈ q.2 ++ oddL) (sc a1 a3 a5 a7 a11 : Option D) (μ : Mu) :
    ∃ b11 t, evalSs (V (n + 19)) (.cons laterS (.cons askS .nil)) [sc, a1, some (.lst oddL), a3, some (.lst (wsR r)), a5, some (encR r), a7, some (.int k), some q.1, some w, a11] μ =
      .ok (.nx [sc, a1, some (.lst oddL), a3, some (.lst (wsR r)), a5, some (encR r), a7, some (.int k), some q.1, some w, b11]) (μ ++ t) := by
  have hqm : q ∈ parts := List.mem_of_getElem? hq
  have hk : k < 6 := by
    have : k < parts.length := (List.getElem?_eq_some_iff.mp hq).1
    exact this
  have hk5 : opCI (V (n + 19)) .gt (.int k) (.int 5) = fun μ => .ok (.bl false) μ := by
    funext μ
    show R.ok (D.bl (decide ((5 : Int) < k))) μ = _
    rw [decide_eq_false (by omega)]
  have F := pairF (pair_ok hqm hw)
  have ha' : Al ((wsR r).set k w) := al_set1 hq hw ha
  have fs := fault_set (w := w) hf (al_len ha) hq
  have hn : (parts.map (·.1))[k]? = some q.1 := by rw [List.getElem?_map, hq]; rfl
  have hnm : q.1 ∈ parts.map (·.1) := List.mem_map.mpr ⟨q, hqm, rfl⟩
  have gt : ∀ (b11 : Option D) (m : Mu), evalS (V (n + 19)) askS [sc, a1, some (.lst oddL), a3, some (.lst (wsR r)), a5, some (encR r), a7, some (.int k), some q.1, some w, b11] m = evalSs (V (n + 19)) (.cons askB .nil) [sc, a1, some (.lst oddL), a3, some (.lst (wsR r)), a5, some (encR r), a7, some (.int k), some q.1, some w, b11] m := fun b11 m => by
    unfold askS
    rw [es_ite, ev_cmp, ev_var' (d := .int k) rfl, bd_ok, ev_int, bd_ok, hk5]
    rfl
  cases ho : okW q.2 w with
  | false =>
    rw [ho, if_neg (by decide)] at fs
    obtain ⟨t, e⟩ := mk_bad (n := n + 15) ha' fs μ
    have e1 : callN tb (n + 19) 18 [encR r, .non, q.1, w] μ = .ok (.tup [st "rule", q.1]) (μ ++ t) := tried_exc (n := n + 18) (.inl rfl) (by
      rw [trE_meth, changed_mk (n := n + 17) r k q.1 hn w μ]
      exact e)
    refine ⟨some (.tup [st "rule", q.1]), t, ?_⟩
    have s1 : evalS (V (n + 19)) laterS [sc, a1, some (.lst oddL), a3, some (.lst (wsR r)), a5, some (encR r), a7, some (.int k), some q.1, some w, a11] μ = .ok (.nx [sc, a1, some (.lst oddL), a3, some (.lst (wsR r)), a5, some (encR r), a7, some (.int k), some q.1, some w, some (.tup [st "rule", q.1])]) (μ ++ t) := by
      unfold laterS
      simp only [es_asg, asgG, ev_call, ev_cons, ev_nil, ev_non, ev_var, bd_ok, List.getElem?_cons_zero, List.getElem?_cons_succ, List.set_cons_zero, List.set_cons_succ, e1]
    rw [es_cons, s1, bd_ok]
    dsimp only
    rw [es_cons, gt]
    unfold askB
    have ni := bl_ne F (V (n + 19)) (μ ++ t)
    rw [ho] at ni
    have c : evalE (V (n + 19)) (.cmp .notin (.var 10) (.sub (.sub (.call 14 .nil) (.var 8)) (.int 1))) [sc, a1, some (.lst oddL), a3, some (.lst (wsR r)), a5, some (encR r), a7, some (.int k), some q.1, some w, some (.tup [st "rule", q.1])] (μ ++ t) = .ok (.bl true) (μ ++ t) := by
      rw [ev_cmp, ev_var' (d := w) rfl, bd_ok, allow_lo hq, bd_ok, ni]
      rfl
    have c2 : evalE (V (n + 19)) (.cmp .ne (.var 11) (.tup (.cons (.str [114, 117, 108, 101]) (.cons (.var 9) .nil)))) [sc, a1, some (.lst oddL), a3, some (.lst (wsR r)), a5, some (encR r), a7, some (.int k), some q.1, some w, some (.tup [st "rule", q.1])] (μ ++ t) = .ok (.bl false) (μ ++ t) := by
      rw [ev_cmp, ev_var' (d := .tup [st "rule", q.1]) rfl, bd_ok]
      show opCI (V (n + 19)) .ne (.tup [st "rule", q.1]) (.tup [st "rule", q.1]) (μ ++ t) = _
      rw [ne_two hnm]
    rw [es_cons, es_ite, c, bd_ok]
    dsimp only
    rw [es_cons, es_ite, c2, bd_ok]
    rfl
  | true =>
    rw [ho, if_pos rfl] at fs
    obtain ⟨r', hr, g'⟩ := good_ws ha' fs
    obtain ⟨t, e⟩ := mk_good (n := n + 15) g' μ
    have e1 : callN tb (n + 19) 18 [encR r, .non, q.1, w] μ = .ok (encR r') (μ ++ t) := tried_ok (n := n + 18) (by
      rw [trE_meth, changed_mk (n := n + 17) r k q.1 hn w μ, hr]
      exact e)
    obtain ⟨t2, e2⟩ := askC_ok (n := n) g g' hk hr.symm sc a1 (some (.lst oddL)) a3 a5 a7 (some q.1) (μ ++ t)
    refine ⟨some (encR r'), t ++ t2, ?_⟩
    have s1 : evalS (V (n + 19)) laterS [sc, a1, some (.lst oddL), a3, some (.lst (wsR r)), a5, some (encR r), a7, some (.int k), some q.1, some w, a11] μ = .ok (.nx [sc, a1, some (.lst oddL), a3, some (.lst (wsR r)), a5, some (encR r), a7, some (.int k), some q.1, some w, some (encR r')]) (μ ++ t) := by
      unfold laterS
      simp only [es_asg, asgG, ev_call, ev_cons, ev_nil, ev_non, ev_var, bd_ok, List.getElem?_cons_zero, List.getElem?_cons_succ, List.set_cons_zero, List.set_cons_succ, e1]
    rw [es_cons, s1, bd_ok]
    dsimp only
    rw [es_cons, gt]
    unfold askB
    have ni := bl_ne F (V (n + 19)) (μ ++ t)
    rw [ho] at ni
    have c : evalE (V (n + 19)) (.cmp .notin (.var 10) (.sub (.sub (.call 14 .nil) (.var 8)) (.int 1))) [sc, a1, some (.lst oddL), a3, some (.lst (wsR r)), a5, some (encR r), a7, some (.int k), some q.1, some w, some (encR r')] (μ ++ t) = .ok (.bl false) (μ ++ t) := by
      rw [ev_cmp, ev_var' (d := w) rfl, bd_ok, allow_lo hq, bd_ok, ni]
      rfl
    rw [es_cons, es_ite, c, bd_ok]
    dsimp only
    rw [es_cons, es_ite, e2, bd_ok, ← List.append_assoc]
    rfl
theorem ask_hi {r : Ru} {k : Nat} (hk : k = 6 ∨ k = 7) {p w : D} (hp : p ∈ oddP) (sc a1 a2 a3 a4 a5 a7 a11 : Option D) (μ : Mu) :
    ∃ b11 t, evalSs (V (n + 19)) (.cons laterS (.cons askS .nil)) [sc, a1, a2, a3, a4, a5, some (encR r), a7, some (.int k), some p, some w, a11] μ =
      .ok (.nx [sc, a1, a2, a3, a4, a5, some (encR r), a7, some (.int k), some p, some w, b11]) (μ ++ t) := by
  have e1 : callN tb (n + 19) 18 [encR r, .non, p, w] μ = .ok (.tup [st "part", p]) μ := tried_exc (n := n + 18) (.inr rfl) (by
    rw [trE_meth]
    exact changed_odd (n := n + 17) r hp w μ)
  obtain ⟨t, e2⟩ := alike_ok (n := n + 15) hp μ
  refine ⟨some (.tup [st "part", p]), t, ?_⟩
  have s1 : evalS (V (n + 19)) laterS [sc, a1, a2, a3, a4, a5, some (encR r), a7, some (.int k), some p, some w, a11] μ = .ok (.nx [sc, a1, a2, a3, a4, a5, some (encR r), a7, some (.int k), some p, some w, some (.tup [st "part", p])]) μ := by
    unfold laterS
    simp only [es_asg, asgG, ev_call, ev_cons, ev_nil, ev_non, ev_var, bd_ok, List.getElem?_cons_zero, List.getElem?_cons_succ, List.set_cons_zero, List.set_cons_succ, e1]
  have gt : opCI (V (n + 19)) .gt (.int k) (.int 5) μ = .ok (.bl true) μ := by rcases hk with rfl | rfl <;> rfl
  rw [es_cons, s1, bd_ok]
  dsimp only
  unfold askS
  have c : evalE (V (n + 19)) (.not (.call 12 (.cons (.var 11) (.cons (.tup (.cons (.str [112, 97, 114, 116]) (.cons (.var 9) .nil))) .nil)))) [sc, a1, a2, a3, a4, a5, some (encR r), a7, some (.int k), some p, some w, some (.tup [st "part", p])] μ = .ok (.bl false) (μ ++ t) := by
    have p1 : D.str [112, 97, 114, 116] = st "part" := rfl
    have e2' : callN tb (n + 19) 12 [.tup [st "part", p], .tup [st "part", p]] μ = .ok (.bl true) (μ ++ t) := e2
    have vc : ∀ (ds : List D) (μ : Mu), (V (n + 19)).call 12 ds μ = callN tb (n + 19) 12 ds μ := fun _ _ => rfl
    rw [ev_not, ev_call, ev_cons, ev_var' (d := .tup [st "part", p]) rfl, bd_ok, ev_cons, ev_tup, ev_cons, ev_str, bd_ok, ev_cons, ev_var' (d := p) rfl, bd_ok, ev_nil, bd_ok, bd_ok, bd_ok, bd_ok, ev_nil, bd_ok, bd_ok, bd_ok, p1, vc, e2']
    rfl
  rw [es_cons, es_ite, ev_cmp, ev_var' (d := .int k) rfl, bd_ok, ev_int, bd_ok, gt, bd_ok]
  dsimp only
  unfold askA
  rw [es_cons, es_ite, c, bd_ok]
  rfl
def goodS : ZSs := match turnB with
  | .cons _ (.cons _ (.cons _ (.cons _ (.cons (.ite _ _ b) _)))) => b
  | _ => .nil
theorem turnG {r : Ru} (gd : Good r) (ha : Al (wsR r)) (hf : fault parts (wsR r) = none) (sc k a5 a8 a9 a10 a11 : Option D) (xs : List Int) (s i : Int) (g : Mu) (hx : xs.length ≤ 63) (hi : 0 ≤ i) :
    ∃ xs' s' i' g' b8 b9 b10 b11, xs'.length ≤ 63 ∧ 0 ≤ i' ∧ evalSs (V (n + 19)) goodS [sc, some (.ref 1), some (.lst oddL), k, some (.lst (wsR r)), a5, some (encR r), some .non, a8, a9, a10, a11] (hst xs s i g) =
      .ok (.nx [sc, some (.ref 1), some (.lst oddL), k, some (.lst (wsR r)), a5, some (encR r), some .non, b8, b9, b10, b11]) (hst xs' s' i' g') := by
  obtain ⟨t, e0⟩ := gd.cond (n + 14) (hst xs s i g) [sc, some (.ref 1), some (.lst oddL), k, some (.lst (wsR r)), a5, some (encR r), some .non, a8, a9, a10, a11] ⟨rfl, rfl, trivial⟩
  obtain ⟨x1, s1, i1, v, b1, b2, b3, b4, e1⟩ := next_ok (n := n + 18) (k := 8) (by decide) (by decide) xs s i (g ++ t) hx hi
  obtain ⟨j, rfl⟩ : ∃ j : Nat, v = j := ⟨v.toNat, by omega⟩
  have e1' : callN tb (n + 19) 11 [.ref 1, .int 8] (hst xs s i (g ++ t)) = .ok (.int j) (hst x1 s1 i1 (g ++ t)) := e1
  have c0 : evalS (V (n + 19)) (.ite cond1 (.cons (.ret (.bl false)) .nil) .nil) [sc, some (.ref 1), some (.lst oddL), k, some (.lst (wsR r)), a5, some (encR r), some .non, a8, a9, a10, a11] (hst xs s i g) = .ok (.nx [sc, some (.ref 1), some (.lst oddL), k, some (.lst (wsR r)), a5, some (encR r), some .non, a8, a9, a10, a11]) (hst xs s i (g ++ t)) := by
    rw [es_ite, show evalE (V (n + 19)) cond1 _ _ = _ from e0, bd_ok]
    rfl
  have c1 : evalS (V (n + 19)) (.asg (.nm 8) (.call 11 (.cons (.var 1) (.cons (.int 8) .nil)))) [sc, some (.ref 1), some (.lst oddL), k, some (.lst (wsR r)), a5, some (encR r), some .non, a8, a9, a10, a11] (hst xs s i (g ++ t)) = .ok (.nx [sc, some (.ref 1), some (.lst oddL), k, some (.lst (wsR r)), a5, some (encR r), some .non, some (.int j), a9, a10, a11]) (hst x1 s1 i1 (g ++ t)) := by
    simp only [es_asg, asgG, ev_call, ev_cons, ev_nil, ev_int, ev_var, bd_ok, List.getElem?_cons_zero, List.getElem?_cons_succ, List.set_cons_zero, List.set_cons_succ, e1']
  have gs : goodS = .cons (.ite cond1 (.cons (.ret (.bl false)) .nil) .nil) (.cons (.asg (.nm 8) (.call 11 (.cons (.var 1) (.cons (.int 8) .nil)))) (.cons (.asg (.nm 9) partE) (.cons (.asg (.nm 10) (.call 13 (.cons (.var 1) (.cons wordE .nil)))) (.cons laterS (.cons askS .nil))))) := rfl
  rw [gs, es_cons, c0, bd_ok]
  dsimp only
  rw [es_cons, c1, bd_ok]
  dsimp only
  by_cases hj : j < 6
  · obtain ⟨q, hq⟩ : ∃ q, parts[j]? = some q := ⟨_, List.getElem?_eq_getElem (show j < parts.length from hj)⟩
    have hqm : q ∈ parts := List.mem_of_getElem? hq
    have hl := D01.parts_len q hqm
    obtain ⟨x2, s2, i2, w, d1, d2, d3, e2⟩ := pick_dr (n := n + 17) (l := q.2 ++ oddL.take 5) (by intro h; exact hl.1 (List.append_eq_nil_iff.mp h).1) (by rw [List.length_append]; have : q.2.length ≤ 3 := by { unfold parts at hqm; simp only [List.mem_cons, List.not_mem_nil, or_false] at hqm; rcases hqm with rfl | rfl | rfl | rfl | rfl | rfl <;> decide }; have : (oddL.take 5).length = 5 := rfl; omega) x1 s1 i1 (g ++ t) b1 b2
    have e2' : callN tb (n + 19) 13 [.ref 1, .lst (q.2 ++ oddL.take 5)] (hst x1 s1 i1 (g ++ t)) = .ok w (hst x2 s2 i2 (g ++ t)) := e2
    obtain ⟨b11, t2, e3⟩ := ask_lo (n := n) gd ha hf hq (take5 d3) sc (some (.ref 1)) k a5 (some .non) a11 (hst x2 s2 i2 (g ++ t))
    refine ⟨x2, s2, i2, g ++ t ++ t2, some (.int j), some q.1, some w, b11, d1, d2, ?_⟩
    have c2 : evalS (V (n + 19)) (.asg (.nm 9) partE) [sc, some (.ref 1), some (.lst oddL), k, some (.lst (wsR r)), a5, some (encR r), some .non, some (.int j), a9, a10, a11] (hst x1 s1 i1 (g ++ t)) = .ok (.nx [sc, some (.ref 1), some (.lst oddL), k, some (.lst (wsR r)), a5, some (encR r), some .non, some (.int j), some q.1, a10, a11]) (hst x1 s1 i1 (g ++ t)) := by
      rw [es_asg, part_lo hq, bd_ok]
      rfl
    have c3 : evalS (V (n + 19)) (.asg (.nm 10) (.call 13 (.cons (.var 1) (.cons wordE .nil)))) [sc, some (.ref 1), some (.lst oddL), k, some (.lst (wsR r)), a5, some (encR r), some .non, some (.int j), some q.1, a10, a11] (hst x1 s1 i1 (g ++ t)) = .ok (.nx [sc, some (.ref 1), some (.lst oddL), k, some (.lst (wsR r)), a5, some (encR r), some .non, some (.int j), some q.1, some w, a11]) (hst x2 s2 i2 (g ++ t)) := by
      rw [es_asg, ev_call, ev_cons, ev_var' (d := .ref 1) rfl, bd_ok, ev_cons, word_lo hq, bd_ok, ev_nil, bd_ok, bd_ok, bd_ok]
      show ((callN tb (n + 19) 13 [.ref 1, .lst (q.2 ++ oddL.take 5)] _).bind _) = _
      rw [e2']
      rfl
    rw [es_cons, c2, bd_ok]
    dsimp only
    rw [es_cons, c3, bd_ok]
    dsimp only
    rw [e3]
    rfl
  · have hj2 : j = 6 ∨ j = 7 := by omega
    obtain ⟨x2, s2, i2, p, d1, d2, d3, e2⟩ := pick_dr (n := n + 17) (l := oddP) (List.cons_ne_nil _ _) (by decide) x1 s1 i1 (g ++ t) b1 b2
    have e2' : callN tb (n + 19) 13 [.ref 1, .lst oddP] (hst x1 s1 i1 (g ++ t)) = .ok p (hst x2 s2 i2 (g ++ t)) := e2
    obtain ⟨x3, s3, i3, w, f1, f2, f3, e4⟩ := pick_dr (n := n + 17) (l := wl (j % 6)) (by rcases hj2 with rfl | rfl <;> exact List.cons_ne_nil _ _) (by rcases hj2 with rfl | rfl <;> decide) x2 s2 i2 (g ++ t) d1 d2
    have e4' : callN tb (n + 19) 13 [.ref 1, .lst (wl (j % 6))] (hst x2 s2 i2 (g ++ t)) = .ok w (hst x3 s3 i3 (g ++ t)) := e4
    obtain ⟨b11, t2, e3⟩ := ask_hi (n := n) (r := r) (w := w) hj2 d3 sc (some (.ref 1)) (some (.lst oddL)) k (some (.lst (wsR r))) a5 (some .non) a11 (hst x3 s3 i3 (g ++ t))
    refine ⟨x3, s3, i3, g ++ t ++ t2, some (.int j), some p, some w, b11, f1, f2, ?_⟩
    have c2 : evalS (V (n + 19)) (.asg (.nm 9) partE) [sc, some (.ref 1), some (.lst oddL), k, some (.lst (wsR r)), a5, some (encR r), some .non, some (.int j), a9, a10, a11] (hst x1 s1 i1 (g ++ t)) = .ok (.nx [sc, some (.ref 1), some (.lst oddL), k, some (.lst (wsR r)), a5, some (encR r), some .non, some (.int j), some p, a10, a11]) (hst x2 s2 i2 (g ++ t)) := by
      have l : opCI (V (n + 19)) .lt (.int j) (.int 6) (hst x1 s1 i1 (g ++ t)) = .ok (.bl false) (hst x1 s1 i1 (g ++ t)) := by rcases hj2 with rfl | rfl <;> rfl
      unfold partE
      rw [es_asg, ev_ite, ev_cmp, ev_var' (d := .int j) rfl, bd_ok, ev_int, bd_ok, l, bd_ok]
      show (((callN tb (n + 19) 13 [.ref 1, .lst oddP] (hst x1 s1 i1 (g ++ t))).bind _)) = _
      rw [e2']
      rfl
    have c3 : evalS (V (n + 19)) (.asg (.nm 10) (.call 13 (.cons (.var 1) (.cons wordE .nil)))) [sc, some (.ref 1), some (.lst oddL), k, some (.lst (wsR r)), a5, some (encR r), some .non, some (.int j), some p, a10, a11] (hst x2 s2 i2 (g ++ t)) = .ok (.nx [sc, some (.ref 1), some (.lst oddL), k, some (.lst (wsR r)), a5, some (encR r), some .non, some (.int j), some p, some w, a11]) (hst x3 s3 i3 (g ++ t)) := by
      have wd : evalE (V (n + 19)) wordE [sc, some (.ref 1), some (.lst oddL), k, some (.lst (wsR r)), a5, some (encR r), some .non, some (.int j), some p, a10, a11] (hst x2 s2 i2 (g ++ t)) = .ok (.lst (wl (j % 6))) (hst x2 s2 i2 (g ++ t)) := by rcases hj2 with rfl | rfl <;> rfl
      rw [es_asg, ev_call, ev_cons, ev_var' (d := .ref 1) rfl, bd_ok, ev_cons, wd, bd_ok, ev_nil, bd_ok, bd_ok, bd_ok]
      show ((callN tb (n + 19) 13 [.ref 1, .lst (wl (j % 6))] _).bind _) = _
      rw [e4']
      rfl
    rw [es_cons, c2, bd_ok]
    dsimp only
    rw [es_cons, c3, bd_ok]
    dsimp only
    rw [e3]
    rfl
theorem turn_ok (sc k a4 a5 a6 a7 a8 a9 a10 a11 : Option D) (xs : List Int) (s i : Int) (g : Mu) (hx : xs.length ≤ 63) (hi : 0 ≤ i) :
    ∃ xs' s' i' g' b4 b5 b6 b7 b8 b9 b10 b11, xs'.length ≤ 63 ∧ 0 ≤ i' ∧ evalSs (V (n + 19)) turnB [sc, some (.ref 1), some (.lst oddL), k, a4, a5, a6, a7, a8, a9, a10, a11] (hst xs s i g) =
      .ok (.nx [sc, some (.ref 1), some (.lst oddL), k, b4, b5, b6, b7, b8, b9, b10, b11]) (hst xs' s' i' g') := by
  obtain ⟨x1, s1, i1, ws0, h1, h2, h3, e1⟩ := D01.words1 (n := n + 16) xs s i g hx hi
  have h0 : Al ws0 := al_mono (fun q w h => List.mem_append_left _ h) h3
  obtain ⟨x2, s2, i2, v, c1, c2, c3, c4, e2⟩ := next_ok (n := n + 18) (k := 3) (by decide) (by decide) x1 s1 i1 (g ++ [.lst ws0]) h1 h2
  obtain ⟨x3, s3, i3, ws, x5, ha, d1, d2, e3⟩ := ch_loop (n := n) sc k a6 a7 a8 a9 a10 a11 g ((List.range v.toNat).map fun i => .int (i : Nat)) ws0 a5 x2 s2 i2 h0 c1 c2
  have e1' : callN tb (n + 19) 15 [.ref 1] (hst xs s i g) = .ok (.ref (2 + g.length)) (hst x1 s1 i1 (g ++ [.lst ws0])) := e1
  have e2' : callN tb (n + 19) 11 [.ref 1, .int 3] (hst x1 s1 i1 (g ++ [.lst ws0])) = .ok (.int v) (hst x2 s2 i2 (g ++ [.lst ws0])) := e2
  have t1 : evalS (V (n + 19)) (.asg (.nm 4) (.call 15 (.cons (.var 1) .nil))) [sc, some (.ref 1), some (.lst oddL), k, a4, a5, a6, a7, a8, a9, a10, a11] (hst xs s i g) = .ok (.nx [sc, some (.ref 1), some (.lst oddL), k, some (.ref (2 + g.length)), a5, a6, a7, a8, a9, a10, a11]) (hst x1 s1 i1 (g ++ [.lst ws0])) := by
    simp only [es_asg, asgG, ev_call, ev_cons, ev_nil, ev_var, bd_ok, List.getElem?_cons_zero, List.getElem?_cons_succ, List.set_cons_zero, List.set_cons_succ, e1']
  have t2 : evalS (V (n + 19)) (.for_ (.nm 5) .rng (.cons (.call 11 (.cons (.var 1) (.cons (.int 3) .nil))) .nil) chB) [sc, some (.ref 1), some (.lst oddL), k, some (.ref (2 + g.length)), a5, a6, a7, a8, a9, a10, a11] (hst x1 s1 i1 (g ++ [.lst ws0])) = .ok (.nx [sc, some (.ref 1), some (.lst oddL), k, some (.ref (2 + g.length)), x5, a6, a7, a8, a9, a10, a11]) (hst x3 s3 i3 (g ++ [.lst ws])) := by
    have ar : evalEs (V (n + 19)) (.cons (.call 11 (.cons (.var 1) (.cons (.int 3) .nil))) .nil) [sc, some (.ref 1), some (.lst oddL), k, some (.ref (2 + g.length)), a5, a6, a7, a8, a9, a10, a11] (hst x1 s1 i1 (g ++ [.lst ws0])) = .ok [.int v] (hst x2 s2 i2 (g ++ [.lst ws0])) := by
      simp only [ev_call, ev_cons, ev_nil, ev_int, ev_var, bd_ok, List.getElem?_cons_zero, List.getElem?_cons_succ, e2']
    have it : itemsOf .rng [.int v] (hst x2 s2 i2 (g ++ [.lst ws0])) = some ((List.range v.toNat).map fun i => .int (i : Nat)) := by
      show (if -1000000 ≤ v ∧ v ≤ 1000000 then _ else _) = _
      rw [if_pos (by omega)]
    rw [es_for1 ar it]
    exact e3
  have t3 : evalS (V (n + 19)) (.frz 4) [sc, some (.ref 1), some (.lst oddL), k, some (.ref (2 + g.length)), x5, a6, a7, a8, a9, a10, a11] (hst x3 s3 i3 (g ++ [.lst ws])) = .ok (.nx [sc, some (.ref 1), some (.lst oddL), k, some (.lst ws), x5, a6, a7, a8, a9, a10, a11]) (hst x3 s3 i3 (g ++ [.gone])) := by
    have fz : freeze (.ref (2 + g.length)) (hst x3 s3 i3 (g ++ [.lst ws])) = .ok (.lst ws) (hst x3 s3 i3 (g ++ [.gone])) := by
      unfold freeze
      dsimp only
      rw [hst_get]
      dsimp only
      rw [hst_set]
    show (freeze (.ref (2 + g.length)) (hst x3 s3 i3 (g ++ [.lst ws]))).bind _ = _
    rw [fz]
    rfl
  have ft := fault_ok (n := n + 17) ha
  have go : ∀ (fd : D) (t : Mu), callN tb (n + 19) 18 [.non, .lst ws, .non, .non] (hst x3 s3 i3 (g ++ [.gone])) = .ok fd (hst x3 s3 i3 (g ++ [.gone] ++ t)) → evalS (V (n + 19)) (.asg2 [(.nm 6), (.nm 7)] (.tup (.cons (.call 18 (.cons .non (.cons (.var 4) (.cons .non (.cons .non .nil))))) (.cons (.call 17 (.cons (.var 4) .nil)) .nil)))) [sc, some (.ref 1), some (.lst oddL), k, some (.lst ws), x5, a6, a7, a8, a9, a10, a11] (hst x3 s3 i3 (g ++ [.gone])) =
      .ok (.nx [sc, some (.ref 1), some (.lst oddL), k, some (.lst ws), x5, some fd, some (faultD ws), a8, a9, a10, a11]) (hst x3 s3 i3 (g ++ [.gone] ++ t)) := fun fd t e => by
    have ft' : callN tb (n + 19) 17 [.lst ws] (hst x3 s3 i3 (g ++ [.gone] ++ t)) = .ok (faultD ws) (hst x3 s3 i3 (g ++ [.gone] ++ t)) := ft _
    simp only [es_asg2, ev_tup, ev_call, ev_cons, ev_nil, ev_non, ev_var, bd_ok, List.getElem?_cons_zero, List.getElem?_cons_succ, e, ft']
    rfl
  have tb1 : turnB = .cons (.asg (.nm 4) (.call 15 (.cons (.var 1) .nil))) (.cons (.for_ (.nm 5) .rng (.cons (.call 11 (.cons (.var 1) (.cons (.int 3) .nil))) .nil) chB) (.cons (.frz 4) (.cons (.asg2 [(.nm 6), (.nm 7)] (.tup (.cons (.call 18 (.cons .non (.cons (.var 4) (.cons .non (.cons .non .nil))))) (.cons (.call 17 (.cons (.var 4) .nil)) .nil)))) (.cons (.ite (.notN (.var 7)) (.cons (.ite (.cmp .ne (.var 6) (.tup (.cons (.str [114, 117, 108, 101]) (.cons (.var 7) .nil)))) (.cons (.ret (.bl false)) .nil) .nil) .nil) goodS) .nil)))) := rfl
  rw [tb1, es_cons, t1, bd_ok]
  dsimp only
  rw [es_cons, t2, bd_ok]
  dsimp only
  rw [es_cons, t3, bd_ok]
  dsimp only
  cases hf : fault parts ws with
  | some p =>
    obtain ⟨t, e4⟩ := tried_bad (n := n + 15) ha hf (hst x3 s3 i3 (g ++ [.gone]))
    have hp := fault_name hf
    refine ⟨x3, s3, i3, g ++ [.gone] ++ t, some (.lst ws), x5, some (.tup [st "rule", p]), some p, a8, a9, a10, a11, d1, d2, ?_⟩
    have s4 := go (.tup [st "rule", p]) t e4
    rw [show faultD ws = p by unfold faultD; rw [hf]] at s4
    rw [es_cons, s4, bd_ok]
    dsimp only
    have nn : evalE (V (n + 19)) (.notN (.var 7)) [sc, some (.ref 1), some (.lst oddL), k, some (.lst ws), x5, some (.tup [st "rule", p]), some p, a8, a9, a10, a11] (hst x3 s3 i3 (g ++ [.gone] ++ t)) = .ok (.bl true) (hst x3 s3 i3 (g ++ [.gone] ++ t)) := by
      have q := notN_name hp
      rw [ev_notN, ev_var' (d := p) rfl, bd_ok]
      cases p <;> first | rfl | cases q
    have c : evalE (V (n + 19)) (.cmp .ne (.var 6) (.tup (.cons (.str [114, 117, 108, 101]) (.cons (.var 7) .nil)))) [sc, some (.ref 1), some (.lst oddL), k, some (.lst ws), x5, some (.tup [st "rule", p]), some p, a8, a9, a10, a11] (hst x3 s3 i3 (g ++ [.gone] ++ t)) = .ok (.bl false) (hst x3 s3 i3 (g ++ [.gone] ++ t)) := by
      show opCI (V (n + 19)) .ne (.tup [st "rule", p]) (.tup [st "rule", p]) _ = _
      rw [ne_two hp]
    rw [es_cons, es_ite, nn, bd_ok]
    dsimp only
    rw [es_cons, es_ite, c, bd_ok]
    rfl
  | none =>
    obtain ⟨r, hr, gd⟩ := good_ws ha hf
    subst hr
    obtain ⟨t, e4⟩ := tried_good (n := n + 15) gd (hst x3 s3 i3 (g ++ [.gone]))
    have s4 := go (encR r) t e4
    rw [show faultD (wsR r) = .non by unfold faultD; rw [hf]] at s4
    obtain ⟨x4, s4', i4, g4, b8, b9, b10, b11, f1, f2, e5⟩ := turnG (n := n) gd ha hf sc k x5 a8 a9 a10 a11 x3 s3 i3 (g ++ [.gone] ++ t) d1 d2
    refine ⟨x4, s4', i4, g4, some (.lst (wsR r)), x5, some (encR r), some .non, b8, b9, b10, b11, f1, f2, ?_⟩
    rw [es_cons, s4, bd_ok]
    dsimp only
    have nn : evalE (V (n + 19)) (.notN (.var 7)) [sc, some (.ref 1), some (.lst oddL), k, some (.lst (wsR r)), x5, some (encR r), some .non, a8, a9, a10, a11] (hst x3 s3 i3 (g ++ [.gone] ++ t)) = .ok (.bl false) (hst x3 s3 i3 (g ++ [.gone] ++ t)) := rfl
    rw [es_cons, es_ite, nn, bd_ok]
    dsimp only
    rw [e5]
    rfl
theorem turns (sc : Option D) : ∀ (its : List D) (k a4 a5 a6 a7 a8 a9 a10 a11 : Option D) (xs : List Int) (s i : Int) (g : Mu), xs.length ≤ 63 → 0 ≤ i → ∃ xs' s' i' g' k' b4 b5 b6 b7 b8 b9 b10 b11, xs'.length ≤ 63 ∧ 0 ≤ i' ∧
    forLoop (forFn (V (n + 19)) (.nm 3) turnB) its [sc, some (.ref 1), some (.lst oddL), k, a4, a5, a6, a7, a8, a9, a10, a11] (hst xs s i g) = .ok (.nx [sc, some (.ref 1), some (.lst oddL), k', b4, b5, b6, b7, b8, b9, b10, b11]) (hst xs' s' i' g')
  | [], k, a4, a5, a6, a7, a8, a9, a10, a11, xs, s, i, g, hx, hi => ⟨xs, s, i, g, k, a4, a5, a6, a7, a8, a9, a10, a11, hx, hi, rfl⟩
  | it :: its, k, a4, a5, a6, a7, a8, a9, a10, a11, xs, s, i, g, hx, hi => by
    obtain ⟨x1, s1, i1, g1, b4, b5, b6, b7, b8, b9, b10, b11, h1, h2, e1⟩ := turn_ok (n := n) sc (some it) a4 a5 a6 a7 a8 a9 a10 a11 xs s i g hx hi
    obtain ⟨x2, s2, i2, g2, k2, c4, c5, c6, c7, c8, c9, c10, c11, h3, h4, e2⟩ := turns sc its (some it) b4 b5 b6 b7 b8 b9 b10 b11 x1 s1 i1 g1 h1 h2
    refine ⟨x2, s2, i2, g2, k2, c4, c5, c6, c7, c8, c9, c10, c11, h3, h4, ?_⟩
    show (evalSs (V (n + 19)) turnB [sc, some (.ref 1), some (.lst oddL), some it, a4, a5, a6, a7, a8, a9, a10, a11] (hst xs s i g)).bind _ = _
    rw [e1, bd_ok]
    exact e2
/-! the source of draws -/
def mixB : ZSs := match b10 with
  | .cons _ (.cons (.for_ _ _ _ b) _) => b
  | _ => .nil
theorem mix_loop (sc sd : Option D) : ∀ (ns : List Int) (s : Int) (c : Option D) (μ : Mu), ∃ s' c', forLoop (forFn (V n) (.nm 3) mixB) (ns.map .int) [sc, sd, some (.int s), c] μ = .ok (.nx [sc, sd, some (.int s'), c']) μ
  | [], s, c, μ => ⟨s, c, rfl⟩
  | x :: ns, s, c, μ => by
    obtain ⟨s', c', e⟩ := mix_loop sc sd ns ((s * 48271 + x % 2147483629 + 1) % 2147483647) (some (.int x)) μ
    refine ⟨s', c', ?_⟩
    have step : forFn (V n) (.nm 3) mixB (.int x) [sc, sd, some (.int s), c] μ = .ok (.nx [sc, sd, some (.int ((s * 48271 + x % 2147483629 + 1) % 2147483647)), some (.int x)]) μ := by
      have a8 : ∀ g, opB .mul true (.int s) (.int 48271) g = .ok (.int (s * 48271)) g := fun _ => rfl
      have a10 : ∀ x y g, opB .add true (.int x) (.int y) g = .ok (.int (x + y)) g := fun _ _ _ => rfl
      have a11 : ∀ x g, opB .mod true (.int x) (.int 2147483647) g = .ok (.int (x % 2147483647)) g := fun _ _ => rfl
      have a12 : ∀ x g, opB .mod true (.int x) (.int 2147483629) g = .ok (.int (x % 2147483629)) g := fun _ _ => rfl
      have a3 : ∀ i g, op1I (V n) .int false (.int i) g = .ok (.int i) g := fun _ _ => rfl
      show evalSs (V n) mixB [sc, sd, some (.int s), some (.int x)] μ = _
      unfold mixB b10
      simp only [es_cons, ess_nil, es_asg, asgG, ev_bin, ev_b1, ev_int, ev_var, bd_ok, List.getElem?_cons_zero, List.getElem?_cons_succ, List.set_cons_zero, List.set_cons_succ, a3, a8, a10, a11, a12]
    show (forFn (V n) (.nm 3) mixB (.int x) _ _).bind _ = _
    rw [step, bd_ok]
    exact e
theorem mix_ok (ns : List Int) (k : Int) : ∃ s, callN tb (n + 1) 10 [.flst (ns.map .int), .int k] [] = .ok (.ref 1) (hst ns s 0 []) := by
  obtain ⟨s', c', e⟩ := mix_loop (n := n) (some (.flst (ns.map .int))) (some (.int k)) ns k none []
  refine ⟨s', ?_⟩
  rw [callN_succ (fi := f10) rfl rfl]
  show ((evalSs (V n) b10 [some (.flst (ns.map .int)), some (.int k), none, none] []).bind _ = _)
  unfold b10
  rw [es_cons, es_asg, ev_var' (d := .int k) rfl, bd_ok]
  show ((evalSs (V n) (.cons (.for_ (.nm 3) .seq (.cons (.var 0) .nil) mixB) _) [some (.flst (ns.map .int)), some (.int k), some (.int k), none] []).bind _ = _)
  rw [es_cons, es_for1 (xs := [.flst (ns.map .int)]) (ds := ns.map .int) (μ1 := []) rfl rfl, e, bd_ok]
  rfl
theorem lawR01 : lawR tb (19 + 1) 20 := by
  intro ns hl
  obtain ⟨s0, e0⟩ := mix_ok (n := 18) ns 1
  obtain ⟨xs, s, i, g, k, a4, a5, a6, a7, a8, a9, a10, a11, h1, h2, e1⟩ := turns (n := 0) (some (.flst (ns.map .int))) ((List.range 6).map fun i => .int (i : Nat)) none none none none none none none none none ns s0 0 [] hl (by decide)
  refine ⟨hst xs s i g, ?_⟩
  rw [callN_succ (fi := f20) rfl rfl]
  show ((evalSs (V 19) b20 [some (.flst (ns.map .int)), none, none, none, none, none, none, none, none, none, none, none] []).bind _ = _)
  have s1 : evalSs (V 19) b20 [some (.flst (ns.map .int)), none, none, none, none, none, none, none, none, none, none, none] [] = evalSs (V 19) (match b20 with | .cons _ (.cons _ (.cons _ r)) => r | _ => .nil) [some (.flst (ns.map .int)), some (.ref 1), some (.lst oddL), none, none, none, none, none, none, none, none, none] (hst ns s0 0 []) := by
    have e : evalS (V 19) (.asg (.nm 1) (.call 10 (.cons (.var 0) (.cons (.int 1) .nil)))) [some (.flst (ns.map .int)), none, none, none, none, none, none, none, none, none, none, none] [] = .ok (.nx [some (.flst (ns.map .int)), some (.ref 1), none, none, none, none, none, none, none, none, none, none]) (hst ns s0 0 []) := by
      simp only [es_asg, asgG, ev_call, ev_cons, ev_nil, ev_int, ev_var, bd_ok, List.getElem?_cons_zero, List.set_cons_zero, List.set_cons_succ, e0]
    unfold b20
    rw [es_cons, e, bd_ok]
    rfl
  rw [s1]
  show ((evalSs (V 19) (.cons (.for_ (.nm 3) .rng (.cons (.int 6) .nil) turnB) (.cons (.ret (.bl true)) .nil)) [some (.flst (ns.map .int)), some (.ref 1), some (.lst oddL), none, none, none, none, none, none, none, none, none] (hst ns s0 0 [])).bind _ = _)
  rw [es_cons, es_for1 (xs := [.int 6]) (ds := (List.range 6).map fun i => .int (i : Nat)) (μ1 := hst ns s0 0 []) rfl rfl, e1, bd_ok]
  rfl
end
end K01

end
theorem PySem.Challenge.cw_alongfiles_k01_rules_refused_holds : PySem.Challenge.rw_alongfiles_k01_rules_refused.Holds :=
  H01.holds K01.lawR01

