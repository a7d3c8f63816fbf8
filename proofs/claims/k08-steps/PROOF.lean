import PyProof.Rows.All
import HandS.ForMost
import HandS.Wide
import KE.DataEq
import KE.SortData
import HandS.ForExc
import HandS.Style
import HandS.TupAny
import HandS.TupMul
import HandS.Flow
import HandS.IsInst
import KE.GoesEnum
import KE.GoesNew
import HandS.TryOnly
import HandS.Walk
import HandS.Small
import HandS.Defaults
import HandS.DictComp
import HandS.Conv
import HandS.Deep
import HandS.Rev
import KE.SortKeyHeap
import HandS.SortKw
import HandS.Keys
import HandS.HeadEnd
import HandS.WordsExc
import KE.KStateDown
import HandS.More
import HandS.Head0
import HandS.Head1
import HandS.Head2
import HandS.HeadHook1
import HandS.HeadHook2
import PySem.Challenge.RW_fringes_k08_steps
set_option Elab.async false
set_option linter.all false
set_option maxRecDepth 100000
set_option maxHeartbeats 0
/-! My own layer (Ly), part A: pure data, outcomes, the small language and its evaluator. -/
namespace Ly
open PySem PySem.Spec L2

/-- pure data; lists and dicts bear a mark: true where their holder may still change them -/
inductive D where
  | non | bl (b : Bool) | int (i : Int) | str (x : Str)
  | tup (xs : List D)
  | lst (o : Bool) (xs : List D)
  | dk (o : Bool) (ks : List Key) (vs : List D)
  | dt (o : Bool) (ks : List (List Key)) (vs : List D)
  | exc (c : Str) (fs : List D)
  /-- the script -/
  | scr (ns : List Int)

abbrev Ev := List (Option D)
inductive Out (α : Type) where
  | ok (a : α) (ρ : Ev)
  | exc (x : D) (ρ : Ev)
  | bad
def Out.bind {α β : Type} : Out α → (α → Ev → Out β) → Out β
  | .ok a ρ, f => f a ρ
  | .exc x ρ, _ => .exc x ρ
  | .bad, _ => .bad
/-- what a def gives: its value (or error) and the data behind it of the parameters that it may change -/
inductive FOut where
  | ret (d : D) (outs : List D)
  | exc (x : D) (outs : List D)
  | bad
abbrev FSem := List D → FOut
/-- the defs that may be called -/
class Fns where
  F : Nat → FSem
  G : Nat → D

/-- nothing in it may be changed any more -/
def frzD : D → Bool
  | .lst true _ => false
  | .dk true _ _ => false
  | .dt true _ _ => false
  | _ => true
mutual
/-- the same, given up for change -/
def fzD : D → D
  | .lst true xs => .lst false (fzDs xs)
  | .dk true ks vs => .dk false ks (fzDs vs)
  | .dt true ks vs => .dt false ks (fzDs vs)
  | .non => .non
  | .bl b => .bl b
  | .int i => .int i
  | .str x => .str x
  | .tup xs => .tup xs
  | .lst false xs => .lst false xs
  | .dk false ks vs => .dk false ks vs
  | .dt false ks vs => .dt false ks vs
  | .exc c fs => .exc c fs
  | .scr ns => .scr ns
def fzDs : List D → List D
  | [] => []
  | d :: ds => fzD d :: fzDs ds
end

/-! ### operations by values -/
inductive Ty where
  | int | str | bool | tuple | list | dict
  deriving DecidableEq
inductive O2 where
  | add | sub | mul | fdiv | mod | pow | eq | ne | lt | le | gt | ge | isN | notN | isIn | notIn | idx | min2 | max2
  deriving DecidableEq
inductive O1 where
  | neg | notO | len | tuple | list | int | str | abs | sum | minL | maxL | isT (t : Ty) | srt | rev
  deriving DecidableEq


mutual
def toP : D → PyData
  | .non => .none
  | .bl b => .bool b
  | .int i => .int i
  | .str x => .str x
  | .tup xs => .tuple (toPs xs)
  | .lst _ xs => .list (toPs xs)
  | .dk _ _ _ => .dict []
  | .dt _ _ _ => .dict []
  | .exc _ _ => .dict []
  | .scr _ => .dict []
def toPs : List D → List PyData
  | [] => []
  | d :: ds => toP d :: toPs ds
end
def eqG (d e : D) : Option D :=
  if (toP d).plain = true ∧ (toP e).plain = true ∧ min (toP d).depth (toP e).depth ≤ 64 then some (.bl (PyData.eqv (toP d) (toP e))) else none
def eqS : D → D → Option D
  | .int i, .int j => some (.bl (decide (i = j)))
  | .str x, .str y => some (.bl (decide (x = y)))
  | d, e => eqG d e
def notS : Option D → Option D
  | some (.bl b) => some (.bl (!b))
  | _ => none
def keyD : D → Option Key
  | .int i => some (.inl i)
  | .str x => some (.inr x)
  | _ => none
def keysD : List D → Option (List Key)
  | [] => some []
  | d :: ds => match keyD d, keysD ds with
    | some k, some ks => some (k :: ks)
    | _, _ => none
def look {κ : Type} [DecidableEq κ] (k : κ) : List κ → List D → Option D
  | j :: ks, v :: vs => if j = k then some v else look k ks vs
  | _, _ => none
def flatD : D → Bool
  | .non => true
  | .bl _ => true
  | .int _ => true
  | .str _ => true
  | _ => false
/-- items that may be read out of it and kept -/
def kids : D → Option (List D)
  | .tup xs => some xs
  | .lst false xs => some xs
  | .lst true xs => if xs.all frzD = true then some xs else none
  | _ => none
def lim : Nat := 16777216
def addS : D → D → Option D
  | .int i, .int j => some (.int (i + j))
  | .str x, .str y => if x.length + y.length ≤ lim then some (.str (x ++ y)) else none
  | .tup xs, .tup ys => if xs.length + ys.length ≤ lim then some (.tup (xs ++ ys)) else none
  | .lst o xs, .lst p ys => if ((o = false ∨ xs.all frzD = true) ∧ (p = false ∨ ys.all frzD = true)) ∧ xs.length + ys.length ≤ lim then some (.lst true (xs ++ ys)) else none
  | _, _ => none
/-- a text some times -/
def repS (x : Str) (k : Int) : Str := ⟨(List.replicate k.toNat x.cps.toList).flatten.toArray⟩
def mulS : D → D → Option D
  | .int i, .int j => if ((-18446744073709551616 < i ∧ i < 18446744073709551616) ∨ (-18446744073709551616 < j ∧ j < 18446744073709551616)) ∨ (i.natAbs.log2 < 2000 ∧ j.natAbs.log2 < 2000) then some (.int (i * j)) else none
  | .str x, .int k => if (-9223372036854775808 ≤ k ∧ k < 9223372036854775808) ∧ x.length * k.toNat ≤ lim ∧ x.length ≤ lim then some (.str (repS x k)) else none
  | .lst true xs, .int k => if xs.all frzD = true ∧ (-9223372036854775808 ≤ k ∧ k < 9223372036854775808) ∧ xs.length * k.toNat ≤ lim then some (.lst true (List.replicate k.toNat xs).flatten) else none
  | .tup xs, .int k => if (xs.isEmpty = false ∧ (2 ≤ k ∧ k ≤ 1000)) ∧ xs.length ≤ 1000 then some (.tup (List.replicate k.toNat xs).flatten) else none
  | _, _ => none
def I2 (f : Int → Int → D) : D → D → Option D
  | .int i, .int j => some (f i j)
  | _, _ => none
def inS (d : D) : D → Option D
  | .tup xs => if (toP d).plain = true ∧ PyData.plainAll (toPs xs) = true ∧ min (PyData.depthAll (toPs xs)) (toP d).depth ≤ 64 then some (.bl ((toPs xs).any fun y => PyData.eqv y (toP d))) else none
  | .lst _ xs => if (toP d).plain = true ∧ PyData.plainAll (toPs xs) = true ∧ min (PyData.depthAll (toPs xs)) (toP d).depth ≤ 64 then some (.bl ((toPs xs).any fun y => PyData.eqv y (toP d))) else none
  | .str y => (match d with
    | .str x => some (.bl (!(Builtin.Str.occurrences y x 0 y.length 1).isEmpty))
    | _ => none)
  | .dk _ ks vs => (match keyD d with
    | some k => some (.bl (look k ks vs).isSome)
    | none => none)
  | _ => none
def idxS : D → D → Option D
  | .tup xs, .int i => atI xs i
  | .lst _ xs, .int i => atI xs i
  | .scr ns, .int i => (match atI ns i with
    | some n => some (.int n)
    | none => none)
  | .str x, .int i => if x.length ≤ lim then (match atI x.cps.toList i with
    | some c => some (.str ⟨#[c]⟩)
    | none => none) else none
  | .dk _ ks vs, d => (match keyD d with
    | some k => look k ks vs
    | none => none)
  | _, _ => none
def isNon : D → Bool
  | .non => true
  | _ => false
def isS (x y : D) : Option D := match y with
  | .non => some (.bl (isNon x))
  | .bl b => (match x with
    | .bl a => some (.bl (decide (a = b)))
    | _ => none)
  | _ => none
def ltS : D → D → Option D
  | .int i, .int j => some (.bl (decide (i < j)))
  | .str x, .str y => some (.bl (decide (x.cps.toList < y.cps.toList)))
  | _, _ => none
def gtS : D → D → Option D
  | .int i, .int j => some (.bl (decide (j < i)))
  | .str x, .str y => some (.bl (decide (y.cps.toList < x.cps.toList)))
  | _, _ => none
def O2.sem : O2 → D → D → Option D
  | .add, x, y => addS x y
  | .sub, x, y => I2 (fun i j => .int (i - j)) x y
  | .mul, x, y => mulS x y
  | .fdiv, .int i, .int j => if 0 < j ∧ j < 18446744073709551616 then some (.int (i / j)) else none
  | .fdiv, _, _ => none
  | .mod, .int i, .int j => if 0 < j then some (.int (i % j)) else none
  | .mod, _, _ => none
  | .pow, .int i, .int j => if (0 ≤ j ∧ j ≤ 1000000) ∧ (-18446744073709551616 < i ∧ i < 18446744073709551616) then some (.int (i ^ j.toNat)) else none
  | .pow, _, _ => none
  | .eq, x, y => eqS x y
  | .ne, x, y => notS (eqS x y)
  | .lt, x, y => ltS x y
  | .le, x, y => I2 (fun i j => .bl (decide (i ≤ j))) x y
  | .gt, x, y => gtS x y
  | .ge, x, y => I2 (fun i j => .bl (decide (j ≤ i))) x y
  | .isN, x, y => isS x y
  | .notN, x, y => notS (isS x y)
  | .isIn, x, y => inS x y
  | .notIn, x, y => notS (inS x y)
  | .idx, x, y => idxS x y
  | .min2, x, y => I2 (fun i j => .int (if j < i then j else i)) x y
  | .max2, x, y => I2 (fun i j => .int (if j > i then j else i)) x y
def ints? : List D → Option (List Int)
  | [] => some []
  | .int i :: ds => (match ints? ds with
    | some r => some (i :: r)
    | none => none)
  | _ :: _ => none
def Ty.is : Ty → D → Bool
  | .int, .int _ => true
  | .int, .bl _ => true
  | .str, .str _ => true
  | .bool, .bl _ => true
  | .tuple, .tup _ => true
  | .list, .lst _ _ => true
  | .dict, .dk _ _ _ => true
  | .dict, .dt _ _ _ => true
  | _, _ => false
/-- isinstance of one class -/
def isTS (T : Ty) (d : D) : Option D := match d with
  | .scr _ => none
  | .dt _ _ _ => none
  | .exc _ _ => none
  | _ => some (.bl (T.is d))
/-- a slice's part -/
def partS : List D → Option (Option Int)
  | [] => some none
  | [.int i] => some (some i)
  | _ => none
def truth : D → Option Bool
  | .non => some false
  | .bl b => some b
  | .int i => some (i != 0)
  | .str x => if x.length ≤ lim then some (x.length != 0) else none
  | .tup xs => some (!xs.isEmpty)
  | .lst _ xs => some (!xs.isEmpty)
  | .dk true ks _ => some (!ks.isEmpty)
  | _ => none
def tupB : D → Bool
  | .tup (_ :: _) => true
  | _ => false
def atmB : D → Bool
  | .int _ => true
  | .str _ => true
  | .bl _ => true
  | _ => false
/-- may be put in order: all alike -/
def ordB (xs : List D) : Bool := xs.all fun x => xs.all fun y => PySem.W.alike (toP x) (toP y)
def srtL (xs : List D) : List D := xs.mergeSort (PySem.W.dataLe false toP)
def sortS (xs : List D) : Option D :=
  if ((ordB xs = true ∧ (xs.all tupB = true ∨ xs.all atmB = true)) ∧ xs.all frzD = true) ∧ xs.length ≤ lim ∧ (xs.all fun x => (toP x).plain && decide ((toP x).depth ≤ 32)) = true then some (.lst true (srtL xs)) else none
def intKs : List Key → Option (List Int)
  | [] => some []
  | .inl i :: r => (match intKs r with
    | some l => some (i :: l)
    | none => none)
  | .inr _ :: _ => none
/-- a dict's keys in order, whole numbers -/
def srtDk (ks : List Key) : Option D := match intKs ks with
  | some l => if l.length < 64 then some (.lst true ((l.mergeSort fun x y => decide (x ≤ y)).map D.int)) else none
  | none => none
def recvD : D → Bool
  | .dk _ _ _ => true
  | _ => false
/-- d.get(k, e) -/
def getS (x y z : D) : Option D := match x with
  | .dk _ ks vs => (match keyD y with
    | some k => some ((look k ks vs).getD z)
    | none => none)
  | _ => none
/-- the def's texts of the items -/
def keyL (F : FSem) : List D → Option (List Str)
  | [] => some []
  | d :: ds => (match F [d], keyL F ds with
    | .ret (.str x) [], some l => some (x :: l)
    | _, _ => none)
def byKeys {α : Type} (xs : List α) (ks : List Str) : List α := ((xs.zip ks).mergeSort fun p q => decide (p.2.cps.toList ≤ q.2.cps.toList)).map (·.1)
def srtKS (F : FSem) (x : D) : Option D := match x with
  | .lst _ xs => if xs.all frzD = true ∧ xs.length ≤ lim then (match keyL F xs with
    | some ks => some (.lst true (byKeys xs ks))
    | none => none) else none
  | _ => none
def O1.sem : O1 → D → Option D
  | .neg, .int i => some (.int (-i))
  | .notO, d => (match truth d with
    | some b => some (.bl (!b))
    | none => none)
  | .len, .tup xs => some (.int xs.length)
  | .len, .lst _ xs => some (.int xs.length)
  | .len, .scr ns => some (.int ns.length)
  | .len, .str x => if x.length ≤ lim then some (.int x.length) else none
  | .len, .dk true ks _ => some (.int ks.length)
  | .tuple, d => (match kids d with
    | some xs => some (.tup xs)
    | none => none)
  | .list, d => (match kids d with
    | some xs => some (.lst true xs)
    | none => none)
  | .int, .int i => some (.int i)
  | .int, .bl b => some (.int (if b then 1 else 0))
  | .str, .int i => if -1000000000000000000 < i ∧ i < 1000000000000000000 then some (.str (toString i)) else none
  | .abs, .int i => some (.int (if i < 0 then -i else i))
  | .sum, .lst _ xs => (match ints? xs with
    | some r => some (.int r.sum)
    | none => none)
  | .minL, .lst _ xs => (match ints? xs with
    | some (i :: r) => some (.int (r.foldl min i))
    | _ => none)
  | .maxL, .lst _ xs => (match ints? xs with
    | some (i :: r) => some (.int (r.foldl max i))
    | _ => none)
  | .isT t, d => isTS t d
  | .srt, .lst _ xs => sortS xs
  | .srt, .dk _ ks _ => srtDk ks
  | .rev, .tup xs => some (.tup xs.reverse)
  | _, _ => none
def slcS (d : D) (lo hi : Option Int) : Option D :=
  match d with
  | .tup xs => some (.tup ((xs.drop (HT.sIx xs.length 0 lo)).take (HT.sIx xs.length xs.length hi - HT.sIx xs.length 0 lo)))
  | .str x => if x.length ≤ lim then some (.str (cutS x lo hi)) else none
  | .scr ns => some (.lst true (((ns.drop (HT.sIx ns.length 0 lo)).take (HT.sIx ns.length ns.length hi - HT.sIx ns.length 0 lo)).map D.int))
  | .lst o xs => if o = false ∨ xs.all frzD = true then some (.lst true ((xs.drop (HT.sIx xs.length 0 lo)).take (HT.sIx xs.length xs.length hi - HT.sIx xs.length 0 lo))) else none
  | _ => none

/-- the first place of an equal one -/
def idxOf (d : PyData) : List PyData → Nat → Option Nat
  | [], _ => none
  | z :: zs, n => if PyData.eqv z d = true then some n else idxOf d zs (n + 1)
def indexS (x y : D) : Option D := match x with
  | .lst _ xs => if (flatD y = true ∧ xs.all flatD = true) ∨ (SeqAt.shaped (.list (toPs xs)) = true ∧ SeqAt.shaped (toP y) = true ∧ (toP y).plain = true ∧ PyData.plainAll (toPs xs) = true) then (match idxOf (toP y) (toPs xs) 0 with
    | some n => some (.int (n : Nat))
    | none => none) else none
  | _ => none
/-- methods that change nothing -/
inductive Mth where
  | index
  deriving DecidableEq
/-- what may be asked so -/
def Mth.recv : Mth → D → Bool
  | .index, .lst _ _ => true
  | _, _ => false
def Mth.sem : Mth → D → List D → Option D
  | .index, x, [y] => indexS x y
  | _, _, _ => none

/-! ### the small language -/
mutual
inductive Tg where
  | nm (i : Nat)
  | tp (ts : Tgs)
inductive Tgs where
  | nil
  | cons (t : Tg) (ts : Tgs)
end
mutual
inductive E where
  /-- a name's value, borrowed -/
  | var (i : Nat)
  /-- .. given up for change -/
  | mv (i : Nat)
  /-- .. moved out: the name has no value behind it -/
  | mvo (i : Nat)
  | cst (d : D)
  /-- a constant of the module -/
  | glo (k : Nat)
  /-- must be frozen -/
  | ck (e : E)
  /-- made frozen -/
  | fz (e : E)
  | o2 (op : O2) (a b : E)
  | o1 (op : O1) (a : E)
  | and (a b : E)
  | or (a b : E)
  | ite (c a b : E)
  | tup (es : Es)
  | lst (es : Es)
  | slc (a : E) (lo hi : Es)
  /-- a call of the def k, with the names that it may change -/
  | call (slots : List (Option Nat)) (k : Nat) (es : Es)
  /-- x.pop(), x.pop(i) of the list of the name -/
  | pop (i : Nat)
  | popAt (i : Nat) (at_ : E)
  /-- [elt for tg in it if c]: own slots, target, iterable, tests, element -/
  | lc (own : List Nat) (tg : Tg) (it : It) (c : Es) (elt : E)
  /-- {} -/
  | dnil
  /-- list(range(..)) -/
  | lrg (es : Es)
  /-- a.m(..) -/
  | me (m : Mth) (a : E) (es : Es)
  /-- x[p].pop(a) -/
  | popP (i : Nat) (p a : E)
  /-- a call by keywords: where the parameters stand among them -/
  | callK (k : Nat) (perm : List Nat) (es : Es)
  /-- x[b], x read behind b -/
  | ixL (i : Nat) (b : E)
  /-- a.get(k, d) -/
  | get (a k d : E)
  /-- sorted(a, key=the def k) -/
  | srtK (k : Nat) (a : E)
  /-- a < b < c -/
  | cmp2 (o1 o2 : O2) (a b c : E)
  /-- {k: e for tg in it if c} -/
  | dc (own : List Nat) (tg : Tg) (it : It) (c : Es) (k e : E)
inductive Es where
  | nil
  | cons (e : E) (es : Es)
  /-- the name i is handed to a def that may change it -/
  | io (i : Nat) (es : Es)
inductive It where
  | seq (e : E)
  | rng (es : Es)
  | enum (e : E)
  | zip (a b : E)
  | revd (e : E)
end
mutual
inductive S where
  | pass
  | expr (e : E)
  | asg (i : Nat) (e : E)
  | asgT (tg : Tg) (e : E)
  | asgP (i j : Nat) (a b : E)
  | aug (i : Nat) (op : O2) (e : E)
  | setI (i : Nat) (ix e : E)
  | app (i : Nat) (e : E)
  /-- x[p].append(e), x[p][ix] = e, x[ix] op= e -/
  | appP (i : Nat) (p e : E)
  | setP (i : Nat) (p ix e : E)
  | augI (i : Nat) (ix : E) (op : O2) (e : E)
  | iff (c : E) (a b : Ss)
  | whl (c : E) (b : Ss)
  | forr (tg : Tg) (it : It) (b : Ss)
  | ret (e : E)
  | retN
  | brk
  | cnt
inductive Ss where
  | nil
  | cons (s : S) (ss : Ss)
end

/-! ### what it does -/
mutual
def bindT : Tg → D → Ev → Option Ev
  | .nm i, d, ρ => some (ρ.set i (some d))
  | .tp ts, d, ρ => (match d with
    | .tup xs => bindTs ts xs ρ
    | .lst false xs => bindTs ts xs ρ
    | _ => none)
def bindTs : Tgs → List D → Ev → Option Ev
  | .nil, [], ρ => some ρ
  | .cons t ts, d :: ds, ρ => (match bindT t d ρ with
    | some ρ' => bindTs ts ds ρ'
    | none => none)
  | _, _, _ => none
end
def getV (ρ : Ev) (i : Nat) : Option D := ρ.getD i none
/-- the data at a path of places within lists -/
def fill : List (Option Nat) → List D → Ev → Option (List D)
  | [], [], _ => some []
  | none :: r, d :: ds, ρ => if frzD d = true then (match fill r ds ρ with
    | some l => some (d :: l)
    | none => none) else none
  | some i :: r, _ :: ds, ρ => (match getV ρ i, fill r ds ρ with
    | some d, some l => some (d :: l)
    | _, _ => none)
  | _, _, _ => none
def wb : List (Option Nat) → List D → Ev → Option Ev
  | [], [], ρ => some ρ
  | none :: r, os, ρ => wb r os ρ
  | some i :: r, o :: os, ρ => wb r os (ρ.set i (some o))
  | _, _, _ => none
def callOut (slots : List (Option Nat)) (sem : FSem) (ds : List D) (ρ : Ev) : Out D :=
  match fill slots ds ρ with
  | none => .bad
  | some ds' => match sem ds' with
    | .ret d outs => (match wb slots outs ρ with
      | some ρ' => .ok d ρ'
      | none => .bad)
    | .exc x outs => (match wb slots outs ρ with
      | some ρ' => .exc x ρ'
      | none => .bad)
    | .bad => .bad
def popF (xs : List D) : Option (D × List D) := match xs[xs.length - 1]? with
  | some d => if frzD d = true then some (d, xs.dropLast) else none
  | none => none
def popAtF (i : Int) (xs : List D) : Option (D × List D) := match ixN xs.length i with
  | some j => (match xs[j]? with
    | some d => if frzD d = true ∧ xs.length ≤ lim then some (d, xs.eraseIdx j) else none
    | none => none)
  | none => none
/-- the list of the name, changed by f -/
def onL {α : Type} (f : List D → Option (α × List D)) (i : Nat) (ρ : Ev) : Out α :=
  match getV ρ i with
  | some (.lst true xs) => (match f xs with
    | some (a, ys) => .ok a (ρ.set i (some (.lst true ys)))
    | none => .bad)
  | _ => .bad
def isL (ρ : Ev) (i : Nat) : Bool := match getV ρ i with
  | some (.lst true _) => true
  | _ => false
/-- the list within the list of the name, at k, changed by f: of frozen things -/
def onP {α : Type} (f : List D → Option (α × List D)) (i : Nat) (k : Int) (ρ : Ev) : Out α :=
  match getV ρ i with
  | some (.lst true xs) => (match ixN xs.length k with
    | some n => (match xs[n]? with
      | some (.lst true ys) => if ys.all frzD = true then (match f ys with
        | some (a, zs) => if zs.all frzD = true then .ok a (ρ.set i (some (.lst true (xs.set n (.lst true zs))))) else .bad
        | none => .bad) else .bad
      | _ => .bad)
    | none => .bad)
  | _ => .bad
def isP (ρ : Ev) (i : Nat) (k : Int) : Bool := match getV ρ i with
  | some (.lst true xs) => (match ixN xs.length k with
    | some n => (match xs[n]? with
      | some (.lst true _) => true
      | _ => false)
    | none => false)
  | _ => false
def setF (j : Int) (d : D) (ys : List D) : Option (Unit × List D) := match ixN ys.length j with
  | some n => some ((), ys.set n d)
  | none => none
def appF (d : D) (xs : List D) : Option (Unit × List D) := if xs.length < lim then some ((), xs ++ [d]) else none
def permD (perm : List Nat) (ds : List D) : List D := perm.map fun n => ds.getD n .non
def wipeE (ρ : Ev) : List Nat → Ev
  | [] => ρ
  | v :: vs => (wipeE ρ vs).set v none
def lcLoop (f : D → Ev → Out (List D)) : List D → Ev → Out (List D)
  | [], ρ => .ok [] ρ
  | d :: ds, ρ => (f d ρ).bind fun x ρ1 => (lcLoop f ds ρ1).bind fun r ρ2 => .ok (x ++ r) ρ2
/-- d[k] = v -/
def put {κ : Type} [DecidableEq κ] (k : κ) (v : D) (ks : List κ) (vs : List D) : List κ × List D :=
  if (ks.any fun j => decide (j = k)) = true then (ks, List.zipWith (fun j w => if j = k then v else w) ks vs) else (ks ++ [k], vs ++ [v])
def dcLoop (f : D → Ev → Out (Option (Key × D))) : List D → List Key × List D → Ev → Out (List Key × List D)
  | [], acc, ρ => .ok acc ρ
  | d :: ds, acc, ρ => (f d ρ).bind fun x ρ1 => dcLoop f ds (match x with
    | some (k, v) => put k v acc.1 acc.2
    | none => acc) ρ1
def enumD : Nat → List D → List D
  | _, [] => []
  | n, d :: ds => .tup [.int n, d] :: enumD (n + 1) ds
def zipD : List D → List D → List D
  | x :: xs, y :: ys => .tup [x, y] :: zipD xs ys
  | _, _ => []
def rngD (lo : Int) : Nat → List D
  | 0 => []
  | n + 1 => .int lo :: rngD (lo + 1) n
def rngOf : List D → Option (List D)
  | [.int j] => if -4611686018427387904 ≤ j ∧ j < 4611686018427387904 then some (rngD 0 j.toNat) else none
  | [.int i, .int j] => if (-4611686018427387904 ≤ i ∧ i < 4611686018427387904) ∧ (-4611686018427387904 ≤ j ∧ j < 4611686018427387904) then some (rngD i (j - i).toNat) else none
  | _ => none
def lrgS (ds : List D) : Option D := match rngOf ds with
  | some l => if l.length ≤ lim then some (.lst true l) else none
  | none => none
def seqOf : D → Option (List D)
  | .tup xs => some xs
  | .lst false xs => some xs
  | .scr ns => some (ns.map D.int)
  | .str x => some (x.cps.toList.map fun c => .str ⟨#[c]⟩)
  | _ => none
def revOf : D → Option (List D)
  | .str _ => none
  | d => (seqOf d).map List.reverse
def liftO {α : Type} (o : Option α) (ρ : Ev) : Out α := match o with
  | some a => .ok a ρ
  | none => .bad
variable [Fns]
mutual
def ev : E → Ev → Out D
  | .var i, ρ => liftO (getV ρ i) ρ
  | .mv i, ρ => (match getV ρ i with
    | some d => .ok (fzD d) (ρ.set i (some (fzD d)))
    | none => .bad)
  | .mvo i, ρ => (match getV ρ i with
    | some d => .ok d (ρ.set i none)
    | none => .bad)
  | .cst d, ρ => .ok d ρ
  | .glo k, ρ => .ok (Fns.G k) ρ
  | .ck e, ρ => (ev e ρ).bind fun d ρ => if frzD d = true then .ok d ρ else .bad
  | .fz e, ρ => (ev e ρ).bind fun d ρ => .ok (fzD d) ρ
  | .o2 op a b, ρ => (ev a ρ).bind fun x ρ => (ev b ρ).bind fun y ρ => liftO (op.sem x y) ρ
  | .o1 op a, ρ => (ev a ρ).bind fun x ρ => liftO (op.sem x) ρ
  | .and a b, ρ => (ev a ρ).bind fun x ρ => (match truth x with
    | some true => ev b ρ
    | some false => .ok x ρ
    | none => .bad)
  | .or a b, ρ => (ev a ρ).bind fun x ρ => (match truth x with
    | some true => .ok x ρ
    | some false => ev b ρ
    | none => .bad)
  | .ite c a b, ρ => (ev c ρ).bind fun x ρ => (match truth x with
    | some true => ev a ρ
    | some false => ev b ρ
    | none => .bad)
  | .tup es, ρ => (evs es ρ).bind fun ds ρ => if ds.all frzD = true ∧ ds.length ≤ lim then .ok (.tup ds) ρ else .bad
  | .lst es, ρ => (evs es ρ).bind fun ds ρ => if ds.length ≤ lim then .ok (.lst true ds) ρ else .bad
  | .slc a lo hi, ρ => (ev a ρ).bind fun x ρ => (evs lo ρ).bind fun l ρ => (match partS l with
    | some l' => (evs hi ρ).bind fun h ρ => (match partS h with
      | some h' => liftO (slcS x l' h') ρ
      | none => .bad)
    | none => .bad)
  | .call slots k es, ρ => (evs es ρ).bind fun ds ρ => callOut slots (Fns.F k) ds ρ
  | .pop i, ρ => onL popF i ρ
  | .popAt i a, ρ => if isL ρ i = true then (ev a ρ).bind fun x ρ => (match x with
    | .int k => onL (popAtF k) i ρ
    | _ => .bad) else .bad
  | .lc own tg it c elt, ρ => (evIt it ρ).bind fun items ρ1 =>
    match lcLoop (fun d ρ => match bindT tg d ρ with
      | some ρ => (evC c ρ).bind fun b ρ => if b = true then (ev elt ρ).bind fun y ρ => .ok [y] (wipeE ρ own) else .ok [] (wipeE ρ own)
      | none => .bad) items (wipeE ρ1 own) with
    | .ok ys ρ2 => if ys.length ≤ lim then .ok (.lst true ys) ρ2 else .bad
    | .exc _ _ => .bad
    | .bad => .bad
  | .dnil, ρ => .ok (.dk true [] []) ρ
  | .lrg es, ρ => (evs es ρ).bind fun ds ρ => liftO (lrgS ds) ρ
  | .popP i p a, ρ => if isL ρ i = true then (ev p ρ).bind fun k ρ => (match k with
    | .int k => if isP ρ i k = true then (ev a ρ).bind fun x ρ => (match x with
      | .int j => onP (popAtF j) i k ρ
      | _ => .bad) else .bad
    | _ => .bad) else .bad
  | .callK k perm es, ρ => (evs es ρ).bind fun ds ρ => if ds.all frzD = true then (match Fns.F k (permD perm ds) with
    | .ret d [] => .ok d ρ
    | .exc x [] => .exc x ρ
    | _ => .bad) else .bad
  | .ixL i b, ρ => if (getV ρ i).isSome = true then (ev b ρ).bind fun y ρ => liftO ((getV ρ i).bind fun d => idxS d y) ρ else .bad
  | .get a k d, ρ => (ev a ρ).bind fun x ρ => if recvD x = true then (ev k ρ).bind fun y ρ => (ev d ρ).bind fun z ρ => liftO (getS x y z) ρ else .bad
  | .srtK k a, ρ => (ev a ρ).bind fun x ρ => liftO (srtKS (Fns.F k) x) ρ
  | .cmp2 o1 o2 a b c, ρ => (ev a ρ).bind fun x ρ => (ev b ρ).bind fun y ρ => (match o1.sem x y with
    | some (.bl true) => (ev c ρ).bind fun z ρ => (match o2.sem y z with
      | some (.bl r) => .ok (.bl r) ρ
      | _ => .bad)
    | some (.bl false) => .ok (.bl false) ρ
    | _ => .bad)
  | .me m a es, ρ => (ev a ρ).bind fun x ρ => if m.recv x = true then (evs es ρ).bind fun ds ρ => liftO (m.sem x ds) ρ else .bad
  | .dc own tg it c k e, ρ => (evIt it ρ).bind fun items ρ1 =>
    match dcLoop (fun d ρ => match bindT tg d ρ with
      | some ρ => (evC c ρ).bind fun b ρ => if b = true then (ev k ρ).bind fun x ρ => (ev e ρ).bind fun y ρ => (match keyD x with
        | some j => if frzD y = true then .ok (some (j, y)) (wipeE ρ own) else .bad
        | none => .bad) else .ok none (wipeE ρ own)
      | none => .bad) items ([], []) (wipeE ρ1 own) with
    | .ok ks ρ2 => if ks.1.length < lim then .ok (.dk true ks.1 ks.2) ρ2 else .bad
    | .exc _ _ => .bad
    | .bad => .bad
def evs : Es → Ev → Out (List D)
  | .nil, ρ => .ok [] ρ
  | .cons e es, ρ => (ev e ρ).bind fun d ρ => (evs es ρ).bind fun ds ρ => .ok (d :: ds) ρ
  | .io i es, ρ => (match getV ρ i with
    | some _ => (evs es ρ).bind fun ds ρ => .ok (.non :: ds) ρ
    | none => .bad)
/-- the tests of a comprehension: none or one -/
def evC : Es → Ev → Out Bool
  | .nil, ρ => .ok true ρ
  | .cons e _, ρ => (ev e ρ).bind fun d ρ => liftO (truth d) ρ
  | .io _ _, _ => .bad
def evIt : It → Ev → Out (List D)
  | .seq e, ρ => (ev e ρ).bind fun d ρ => liftO (seqOf d) ρ
  | .rng es, ρ => (evs es ρ).bind fun ds ρ => liftO (rngOf ds) ρ
  | .enum e, ρ => (ev e ρ).bind fun d ρ => liftO ((seqOf d).map (enumD 0)) ρ
  | .zip a b, ρ => (ev a ρ).bind fun x ρ => (ev b ρ).bind fun y ρ => (match seqOf x, seqOf y with
    | some xs, some ys => .ok (zipD xs ys) ρ
    | _, _ => .bad)
  | .revd e, ρ => (ev e ρ).bind fun d ρ => liftO (revOf d) ρ
end
def lcF (own : List Nat) (tg : Tg) (c : Es) (elt : E) : D → Ev → Out (List D) := fun d ρ => match bindT tg d ρ with
  | some ρ => (evC c ρ).bind fun b ρ => if b = true then (ev elt ρ).bind fun y ρ => .ok [y] (wipeE ρ own) else .ok [] (wipeE ρ own)
  | none => .bad
def dcF (own : List Nat) (tg : Tg) (c : Es) (k e : E) : D → Ev → Out (Option (Key × D)) := fun d ρ => match bindT tg d ρ with
  | some ρ => (evC c ρ).bind fun b ρ => if b = true then (ev k ρ).bind fun x ρ => (ev e ρ).bind fun y ρ => (match keyD x with
    | some j => if frzD y = true then .ok (some (j, y)) (wipeE ρ own) else .bad
    | none => .bad) else .ok none (wipeE ρ own)
  | none => .bad
inductive Fl where
  | nx | bk | ct | rt (d : D)
def FUEL : Nat := 1099511627776
def forLoop (tg : Tg) (body : Ev → Out Fl) : List D → Ev → Out Fl
  | [], ρ => .ok .nx ρ
  | d :: ds, ρ => match bindT tg d ρ with
    | none => .bad
    | some ρ1 => match body ρ1 with
      | .ok .nx ρ2 => forLoop tg body ds ρ2
      | .ok .ct ρ2 => forLoop tg body ds ρ2
      | .ok .bk ρ2 => .ok .nx ρ2
      | .ok (.rt v) ρ2 => .ok (.rt v) ρ2
      | .exc x ρ2 => .exc x ρ2
      | .bad => .bad
def whLoop (c : Ev → Out D) (body : Ev → Out Fl) : Nat → Ev → Out Fl
  | 0, _ => .bad
  | n + 1, ρ => match c ρ with
    | .ok d ρ1 => (match truth d with
      | some true => (match body ρ1 with
        | .ok .nx ρ2 => whLoop c body n ρ2
        | .ok .ct ρ2 => whLoop c body n ρ2
        | .ok .bk ρ2 => .ok .nx ρ2
        | .ok (.rt v) ρ2 => .ok (.rt v) ρ2
        | .exc x ρ2 => .exc x ρ2
        | .bad => .bad)
      | some false => .ok .nx ρ1
      | none => .bad)
    | .exc x ρ1 => .exc x ρ1
    | .bad => .bad
mutual
def ex : S → Ev → Out Fl
  | .pass, ρ => .ok .nx ρ
  | .expr e, ρ => (ev e ρ).bind fun _ ρ => .ok .nx ρ
  | .asg i e, ρ => (ev e ρ).bind fun d ρ => .ok .nx (ρ.set i (some d))
  | .asgT tg e, ρ => (ev e ρ).bind fun d ρ => (match bindT tg d ρ with
    | some ρ' => .ok .nx ρ'
    | none => .bad)
  | .asgP i j a b, ρ => (ev a ρ).bind fun x ρ => (ev b ρ).bind fun y ρ => .ok .nx ((ρ.set i (some x)).set j (some y))
  | .aug i op e, ρ => (match getV ρ i with
    | some (.int m) => (ev e ρ).bind fun y ρ => (match y with
      | .int n => (match op.sem (.int m) (.int n) with
        | some z => .ok .nx (ρ.set i (some z))
        | none => .bad)
      | _ => .bad)
    | _ => .bad)
  | .setI i ix e, ρ => (ev e ρ).bind fun d ρ => (match getV ρ i with
    | some x => (ev ix ρ).bind fun k ρ => (match x, k with
      | .lst true xs, .int j => (match ixN xs.length j with
        | some n => .ok .nx (ρ.set i (some (.lst true (xs.set n d))))
        | none => .bad)
      | .dk true ks vs, k => (match keyD k with
        | some j => if frzD d = true ∧ ks.length < lim then .ok .nx (ρ.set i (some (.dk true (put j d ks vs).1 (put j d ks vs).2))) else .bad
        | none => .bad)
      | _, _ => .bad)
    | none => .bad)
  | .app i e, ρ => if isL ρ i = true then (ev e ρ).bind fun d ρ => (onL (appF d) i ρ).bind fun _ ρ => .ok .nx ρ else .bad
  | .appP i p e, ρ => if isL ρ i = true then (ev p ρ).bind fun k ρ => (match k with
    | .int k => if isP ρ i k = true then (ev e ρ).bind fun d ρ => (onP (appF d) i k ρ).bind fun _ ρ => .ok .nx ρ else .bad
    | _ => .bad) else .bad
  | .setP i p ix e, ρ => (ev e ρ).bind fun d ρ => if isL ρ i = true then (ev p ρ).bind fun k ρ => (match k with
    | .int k => if isP ρ i k = true then (ev ix ρ).bind fun j ρ => (match j with
      | .int j => (onP (setF j d) i k ρ).bind fun _ ρ => .ok .nx ρ
      | _ => .bad) else .bad
    | _ => .bad) else .bad
  | .augI i ix op e, ρ => if isL ρ i = true then (ev ix ρ).bind fun k ρ => (match k, getV ρ i with
    | .int k, some (.lst true xs) => (match idxS (.lst true xs) (.int k) with
      | some (.int m) => (ev e ρ).bind fun y ρ => (match y, getV ρ i with
        | .int j, some (.lst true ys) => (match op.sem (.int m) (.int j), ixN ys.length k with
          | some z, some n => .ok .nx (ρ.set i (some (.lst true (ys.set n z))))
          | _, _ => .bad)
        | _, _ => .bad)
      | _ => .bad)
    | _, _ => .bad) else .bad
  | .iff c a b, ρ => (ev c ρ).bind fun x ρ => (match truth x with
    | some true => exs a ρ
    | some false => exs b ρ
    | none => .bad)
  | .whl c b, ρ => whLoop (ev c) (exs b) FUEL ρ
  | .forr tg it b, ρ => (evIt it ρ).bind fun items ρ => forLoop tg (exs b) items ρ
  | .ret e, ρ => (ev e ρ).bind fun d ρ => .ok (.rt d) ρ
  | .retN, ρ => .ok (.rt .non) ρ
  | .brk, ρ => .ok .bk ρ
  | .cnt, ρ => .ok .ct ρ
def exs : Ss → Ev → Out Fl
  | .nil, ρ => .ok .nx ρ
  | .cons s ss, ρ => match ex s ρ with
    | .ok .nx ρ' => exs ss ρ'
    | r => r
end
/-- where the names that a def may change stand -/
def ixs : List Bool → List Nat
  | [] => []
  | true :: r => 0 :: (ixs r).map (· + 1)
  | false :: r => (ixs r).map (· + 1)
def outsOf : List Nat → Ev → Option (List D)
  | [], _ => some []
  | i :: r, ρ => match getV ρ i, outsOf r ρ with
    | some d, some l => some (d :: l)
    | _, _ => none
/-- a def: how many names, the parameters that it may change, its body -/
def runFn (n : Nat) (io : List Bool) (b : Ss) : FSem := fun ds =>
  match exs b (ds.map some ++ List.replicate (n - ds.length) none) with
  | .ok .nx ρ => (match outsOf (ixs io) ρ with
    | some l => .ret .non l
    | none => .bad)
  | .ok (.rt d) ρ => (match outsOf (ixs io) ρ with
    | some l => .ret d l
    | none => .bad)
  | .exc x ρ => (match outsOf (ixs io) ρ with
    | some l => .exc x l
    | none => .bad)
  | _ => .bad
abbrev tabF (l : List FSem) : Fns := ⟨fun k => l.getD k (fun _ => .bad), fun _ => .non⟩
/-- a def that calls itself, so deep -/
def recF (n : Nat) (io : List Bool) (b : Ss) (t : List FSem) : Nat → FSem
  | 0 => fun _ => .bad
  | m + 1 => @runFn (tabF (t ++ [recF n io b t m])) n io b
end Ly

namespace Ly
open PySem PySem.Spec L2

/-- what may be changed -/
def Mb : HO → Prop
  | .lst _ => True
  | .dK _ => True
  | .dT _ => True
  | _ => False
/-- a list that stands still for good -/
def SqF (H : Hp) (a : Addr) (xs : List V) : Prop := ∃ o, H a = some (.frz o (.lst xs))
/-- the script: known to the object, or an object of the module -/
def SqS (K : PySem.W.Frag) (H : Hp) (a : Addr) (xs : List V) : Prop :=
  (∃ o, H a = some (.frz o (.lst xs))) ∨
    ∃ (o : Obj) (its : Array Value) (n : Nat), K.lookup a = some o ∧ o.cls = .type "list" ∧ o.dict = none ∧ o.data = .seq its n ∧ its.size ≤ sizeLine ∧ Vals xs its.toList
theorem SqS.sq {K : PySem.W.Frag} {H : Hp} {a : Addr} {xs : List V} (h : SqS K H a xs) : SqL K H a xs := by
  rcases h with h | h
  · exact .inl (.inr h)
  · exact .inr h
theorem SqF.sq {K : PySem.W.Frag} {H : Hp} {a : Addr} {xs : List V} (h : SqF H a xs) : SqL K H a xs := .inl (.inr h)
mutual
/-- v stands for d in H; S: the addresses that its holder may change -/
def Rep (K : PySem.W.Frag) (H : Hp) : D → V → List Addr → Prop
  | .non, v, S => v = .non ∧ S = []
  | .bl b, v, S => v = .bl b ∧ S = []
  | .int i, v, S => v = .int i ∧ S = []
  | .str x, v, S => v = .str x ∧ S = []
  | .tup ds, v, S => S = [] ∧ ∃ a vs, v = .ref a ∧ SqT K H a vs ∧ Reps K H ds vs []
  | .lst false ds, v, S => S = [] ∧ ∃ a vs, v = .ref a ∧ SqF H a vs ∧ Reps K H ds vs []
  | .lst true ds, v, S => ∃ a vs S', v = .ref a ∧ H a = some (.lst vs) ∧ Reps K H ds vs S' ∧ S = a :: S'
  | .dk false ks ds, v, S => S = [] ∧ ∃ a vs o, v = .ref a ∧ H a = some (.frz o (.dK (ks.zip vs))) ∧ ks.length = vs.length ∧ Reps K H ds vs []
  | .dk true ks ds, v, S => ∃ a vs S', v = .ref a ∧ H a = some (.dK (ks.zip vs)) ∧ ks.length = vs.length ∧ Reps K H ds vs S' ∧ S = a :: S'
  | .dt false ks ds, v, S => S = [] ∧ ∃ a vs o, v = .ref a ∧ H a = some (.frz o (.dT (ks.zip vs))) ∧ ks.length = vs.length ∧ Reps K H ds vs []
  | .dt true ks ds, v, S => ∃ a vs S', v = .ref a ∧ H a = some (.dT (ks.zip vs)) ∧ ks.length = vs.length ∧ Reps K H ds vs S' ∧ S = a :: S'
  | .exc _ _, _, _ => False
  | .scr ns, v, S => S = [] ∧ ∃ a, v = .ref a ∧ SqS K H a (ns.map V.int)
def Reps (K : PySem.W.Frag) (H : Hp) : List D → List V → List Addr → Prop
  | [], vs, S => vs = [] ∧ S = []
  | d :: ds, vs, S => ∃ v r S1 S2, vs = v :: r ∧ Rep K H d v S1 ∧ Reps K H ds r S2 ∧ S = S1 ++ S2
end
/-- all of S and all that cannot be changed stays -/
def Kp (S : List Addr) (H H' : Hp) : Prop := ∀ a o, H a = some o → (a ∈ S ∨ ¬ Mb o) → H' a = some o
theorem Kp.sub {S T : List Addr} {H H' : Hp} (k : Kp S H H') (h : ∀ a ∈ T, a ∈ S) : Kp T H H' := fun a o e q => k a o e (q.imp (h a) id)
theorem Kp.refl {S : List Addr} {H : Hp} : Kp S H H := fun _ _ e _ => e
theorem Kp.trans {S : List Addr} {H H1 H2 : Hp} (k : Kp S H H1) (k' : Kp S H1 H2) : Kp S H H2 := fun a o e q => k' a o (k a o e q) q
section
variable {K : PySem.W.Frag} {H H' : Hp}
theorem SqT.kp {S : List Addr} {a : Addr} {vs : List V} (h : SqT K H a vs) (k : Kp S H H') : SqT K H' a vs := by
  rcases h with (h | ⟨o, h⟩) | h
  · exact .inl (.inl (k a _ h (.inr fun z => z)))
  · exact .inl (.inr ⟨o, k a _ h (.inr fun z => z)⟩)
  · exact .inr h
theorem SqF.kp {S : List Addr} {a : Addr} {vs : List V} (h : SqF H a vs) (k : Kp S H H') : SqF H' a vs := by
  obtain ⟨o, h⟩ := h
  exact ⟨o, k a _ h (.inr fun z => z)⟩
mutual
theorem Rep.kp : ∀ (d : D) {v : V} {S : List Addr}, Rep K H d v S → Kp S H H' → Rep K H' d v S
  | .non, _, _, h, _ => h
  | .bl _, _, _, h, _ => h
  | .int _, _, _, h, _ => h
  | .str _, _, _, h, _ => h
  | .tup ds, _, _, h, k => by
    obtain ⟨rfl, a, vs, rfl, q, r⟩ := h
    exact ⟨rfl, a, vs, rfl, SqT.kp q k, Reps.kp ds r k⟩
  | .lst false ds, _, _, h, k => by
    obtain ⟨rfl, a, vs, rfl, q, r⟩ := h
    exact ⟨rfl, a, vs, rfl, SqF.kp q k, Reps.kp ds r k⟩
  | .lst true ds, _, _, h, k => by
    obtain ⟨a, vs, S', rfl, q, r, rfl⟩ := h
    exact ⟨a, vs, S', rfl, k a _ q (.inl List.mem_cons_self), Reps.kp ds r (k.sub fun b hb => List.mem_cons_of_mem _ hb), rfl⟩
  | .dk false ks ds, _, _, h, k => by
    obtain ⟨rfl, a, vs, o, rfl, q, l, r⟩ := h
    exact ⟨rfl, a, vs, o, rfl, k a _ q (.inr fun z => z), l, Reps.kp ds r k⟩
  | .dk true ks ds, _, _, h, k => by
    obtain ⟨a, vs, S', rfl, q, l, r, rfl⟩ := h
    exact ⟨a, vs, S', rfl, k a _ q (.inl List.mem_cons_self), l, Reps.kp ds r (k.sub fun b hb => List.mem_cons_of_mem _ hb), rfl⟩
  | .dt false ks ds, _, _, h, k => by
    obtain ⟨rfl, a, vs, o, rfl, q, l, r⟩ := h
    exact ⟨rfl, a, vs, o, rfl, k a _ q (.inr fun z => z), l, Reps.kp ds r k⟩
  | .dt true ks ds, _, _, h, k => by
    obtain ⟨a, vs, S', rfl, q, l, r, rfl⟩ := h
    exact ⟨a, vs, S', rfl, k a _ q (.inl List.mem_cons_self), l, Reps.kp ds r (k.sub fun b hb => List.mem_cons_of_mem _ hb), rfl⟩
  | .exc _ _, _, _, h, _ => h
  | .scr ns, _, _, h, k => by
    obtain ⟨rfl, a, rfl, q⟩ := h
    exact ⟨rfl, a, rfl, q.imp (fun ⟨o, q⟩ => ⟨o, k a _ q (.inr fun z => z)⟩) id⟩
theorem Reps.kp : ∀ (ds : List D) {vs : List V} {S : List Addr}, Reps K H ds vs S → Kp S H H' → Reps K H' ds vs S
  | [], _, _, h, _ => h
  | d :: ds, _, _, h, k => by
    obtain ⟨v, r, S1, S2, rfl, q1, q2, rfl⟩ := h
    exact ⟨v, r, S1, S2, rfl, Rep.kp d q1 (k.sub fun b hb => List.mem_append_left _ hb), Reps.kp ds q2 (k.sub fun b hb => List.mem_append_right _ hb), rfl⟩
end
/-- what may be changed is there, and is of a kind that may -/
def Owns (H : Hp) (S : List Addr) : Prop := ∀ a ∈ S, ∃ o, H a = some o ∧ Mb o
theorem Owns.app {S T : List Addr} (h : Owns H S) (h' : Owns H T) : Owns H (S ++ T) := fun a ha => (List.mem_append.mp ha).elim (h a) (h' a)
mutual
theorem Rep.owns : ∀ (d : D) {v : V} {S : List Addr}, Rep K H d v S → Owns H S
  | .non, _, _, h => by obtain ⟨_, rfl⟩ := h; exact fun a ha => absurd ha List.not_mem_nil
  | .bl _, _, _, h => by obtain ⟨_, rfl⟩ := h; exact fun a ha => absurd ha List.not_mem_nil
  | .int _, _, _, h => by obtain ⟨_, rfl⟩ := h; exact fun a ha => absurd ha List.not_mem_nil
  | .str _, _, _, h => by obtain ⟨_, rfl⟩ := h; exact fun a ha => absurd ha List.not_mem_nil
  | .tup ds, _, _, h => by obtain ⟨rfl, _⟩ := h; exact fun a ha => absurd ha List.not_mem_nil
  | .lst false ds, _, _, h => by obtain ⟨rfl, _⟩ := h; exact fun a ha => absurd ha List.not_mem_nil
  | .lst true ds, _, _, h => by
    obtain ⟨a, vs, S', rfl, q, r, rfl⟩ := h
    exact fun b hb => (List.mem_cons.mp hb).elim (fun e => ⟨.lst vs, e ▸ q, show Mb (.lst vs) from True.intro⟩) (Reps.owns ds r b)
  | .dk false ks ds, _, _, h => by obtain ⟨rfl, _⟩ := h; exact fun a ha => absurd ha List.not_mem_nil
  | .dk true ks ds, _, _, h => by
    obtain ⟨a, vs, S', rfl, q, l, r, rfl⟩ := h
    exact fun b hb => (List.mem_cons.mp hb).elim (fun e => ⟨.dK (ks.zip vs), e ▸ q, show Mb (.dK (ks.zip vs)) from True.intro⟩) (Reps.owns ds r b)
  | .dt false ks ds, _, _, h => by obtain ⟨rfl, _⟩ := h; exact fun a ha => absurd ha List.not_mem_nil
  | .dt true ks ds, _, _, h => by
    obtain ⟨a, vs, S', rfl, q, l, r, rfl⟩ := h
    exact fun b hb => (List.mem_cons.mp hb).elim (fun e => ⟨.dT (ks.zip vs), e ▸ q, show Mb (.dT (ks.zip vs)) from True.intro⟩) (Reps.owns ds r b)
  | .exc _ _, _, _, h => h.elim
  | .scr ns, _, _, h => by obtain ⟨rfl, _⟩ := h; exact fun a ha => absurd ha List.not_mem_nil
theorem Reps.owns : ∀ (ds : List D) {vs : List V} {S : List Addr}, Reps K H ds vs S → Owns H S
  | [], _, _, h => by obtain ⟨_, rfl⟩ := h; exact fun a ha => absurd ha List.not_mem_nil
  | d :: ds, _, _, h => by
    obtain ⟨v, r, S1, S2, rfl, q1, q2, rfl⟩ := h
    exact (Rep.owns d q1).app (Reps.owns ds q2)
end
theorem Rep.frz {d : D} {v : V} {S : List Addr} (h : Rep K H d v S) (hf : frzD d = true) : S = [] := by
  cases d with
  | non => exact h.2
  | bl _ => exact h.2
  | int _ => exact h.2
  | str _ => exact h.2
  | tup _ => exact h.1
  | lst o _ =>
    cases o with
    | false => exact h.1
    | true => cases hf
  | dk o _ _ =>
    cases o with
    | false => exact h.1
    | true => cases hf
  | dt o _ _ =>
    cases o with
    | false => exact h.1
    | true => cases hf
  | exc _ _ => exact h.elim
  | scr _ => exact h.1
theorem Reps.frz : ∀ {ds : List D} {vs : List V} {S : List Addr}, Reps K H ds vs S → ds.all frzD = true → S = []
  | [], _, _, h, _ => h.2
  | d :: ds, _, _, h, hf => by
    obtain ⟨v, r, S1, S2, rfl, q1, q2, rfl⟩ := h
    rw [List.all_cons, Bool.and_eq_true] at hf
    rw [q1.frz hf.1, Reps.frz q2 hf.2]
    rfl
theorem Reps.length : ∀ {ds : List D} {vs : List V} {S : List Addr}, Reps K H ds vs S → ds.length = vs.length
  | [], _, _, h => by rw [h.1]; rfl
  | d :: ds, _, _, h => by
    obtain ⟨v, r, S1, S2, rfl, q1, q2, rfl⟩ := h
    rw [List.length_cons, List.length_cons, Reps.length q2]
/-- one item -/
theorem Reps.get : ∀ {ds : List D} {vs : List V} {S : List Addr} {i : Nat} {d : D}, Reps K H ds vs S → ds[i]? = some d → ∃ v T, vs[i]? = some v ∧ Rep K H d v T ∧ ∀ a ∈ T, a ∈ S
  | [], _, _, _, _, _, e => by simp at e
  | d :: ds, _, _, 0, _, h, e => by
    obtain ⟨v, r, S1, S2, rfl, q1, q2, rfl⟩ := h
    simp at e
    subst e
    exact ⟨v, S1, rfl, q1, fun a ha => List.mem_append_left _ ha⟩
  | d :: ds, _, _, i + 1, _, h, e => by
    obtain ⟨v, r, S1, S2, rfl, q1, q2, rfl⟩ := h
    obtain ⟨v', T, e1, e2, e3⟩ := Reps.get (i := i) q2 (by simpa using e)
    exact ⟨v', T, by simpa using e1, e2, fun a ha => List.mem_append_right _ (e3 a ha)⟩
theorem Reps.get0 {ds : List D} {vs : List V} {i : Nat} {d : D} (h : Reps K H ds vs []) (e : ds[i]? = some d) : ∃ v, vs[i]? = some v ∧ Rep K H d v [] := by
  obtain ⟨v, T, e1, e2, e3⟩ := h.get e
  have : T = [] := List.eq_nil_iff_forall_not_mem.mpr fun a ha => absurd (e3 a ha) List.not_mem_nil
  subst this
  exact ⟨v, e1, e2⟩
theorem Reps.of_get : ∀ {ds : List D} {vs : List V} {i : Nat} {v : V} {S : List Addr}, Reps K H ds vs S → vs[i]? = some v → ∃ d T, ds[i]? = some d ∧ Rep K H d v T ∧ ∀ a ∈ T, a ∈ S := fun {ds vs i v S} h e => by
  have hl := h.length
  obtain ⟨hi, e1⟩ := List.getElem?_eq_some_iff.mp e
  have hi' : i < ds.length := by omega
  obtain ⟨v', T, e1', e2, e3⟩ := h.get (List.getElem?_eq_getElem hi')
  rw [e] at e1'
  cases e1'
  exact ⟨_, T, List.getElem?_eq_getElem hi', e2, e3⟩
theorem Reps.nil : Reps K H [] [] [] := ⟨rfl, rfl⟩
theorem Reps.cons {d : D} {v : V} {S1 S2 : List Addr} {ds : List D} {vs : List V} (h : Rep K H d v S1) (h' : Reps K H ds vs S2) : Reps K H (d :: ds) (v :: vs) (S1 ++ S2) := ⟨v, vs, S1, S2, rfl, h, h', rfl⟩
theorem Reps.app : ∀ {ds es : List D} {vs ws : List V} {S T : List Addr}, Reps K H ds vs S → Reps K H es ws T → Reps K H (ds ++ es) (vs ++ ws) (S ++ T)
  | [], _, _, _, _, _, h, h' => by
    obtain ⟨rfl, rfl⟩ := h
    exact h'
  | d :: ds, _, _, _, _, _, h, h' => by
    obtain ⟨v, r, S1, S2, rfl, q1, q2, rfl⟩ := h
    rw [List.append_assoc]
    exact Reps.cons q1 (Reps.app q2 h')
theorem Reps.take0 : ∀ {ds : List D} {vs : List V} (n : Nat), Reps K H ds vs [] → Reps K H (ds.take n) (vs.take n) []
  | [], _, n, h => by
    obtain ⟨rfl, _⟩ := h
    rw [List.take_nil, List.take_nil]
    exact Reps.nil
  | d :: ds, _, 0, h => Reps.nil
  | d :: ds, _, n + 1, h => by
    obtain ⟨v, r, S1, S2, rfl, q1, q2, e⟩ := h
    obtain ⟨rfl, rfl⟩ := List.append_eq_nil_iff.mp e.symm
    exact Reps.cons (S1 := []) (S2 := []) q1 (Reps.take0 n q2)
theorem Reps.drop0 : ∀ {ds : List D} {vs : List V} (n : Nat), Reps K H ds vs [] → Reps K H (ds.drop n) (vs.drop n) []
  | [], _, n, h => by
    obtain ⟨rfl, _⟩ := h
    rw [List.drop_nil, List.drop_nil]
    exact Reps.nil
  | d :: ds, _, 0, h => h
  | d :: ds, _, n + 1, h => by
    obtain ⟨v, r, S1, S2, rfl, q1, q2, e⟩ := h
    obtain ⟨rfl, rfl⟩ := List.append_eq_nil_iff.mp e.symm
    exact Reps.drop0 n q2

/-! ### a def's names -/
def Vars (K : PySem.W.Frag) (H : Hp) : Ev → St → List Addr → Prop
  | [], [], SV => SV = []
  | none :: ρ, _ :: σ, SV => Vars K H ρ σ SV
  | some d :: ρ, some v :: σ, SV => ∃ S R, Rep K H d v S ∧ Vars K H ρ σ R ∧ SV = S ++ R
  | _, _, _ => False
theorem Vars.length : ∀ {ρ : Ev} {σ : St} {SV : List Addr}, Vars K H ρ σ SV → ρ.length = σ.length
  | [], [], _, _ => rfl
  | none :: ρ, _ :: σ, _, h => congrArg (· + 1) (Vars.length (ρ := ρ) (σ := σ) h)
  | some d :: ρ, some v :: σ, _, h => by
    obtain ⟨S, R, _, h, _⟩ := h
    exact congrArg (· + 1) (Vars.length h)
  | some d :: ρ, none :: σ, _, h => h.elim
  | [], _ :: _, _, h => h.elim
  | none :: _, [], _, h => h.elim
  | some _ :: _, [], _, h => h.elim
theorem Vars.owns : ∀ {ρ : Ev} {σ : St} {SV : List Addr}, Vars K H ρ σ SV → Owns H SV
  | [], [], _, h => by
    have h : _ = [] := h
    subst h
    exact fun a ha => absurd ha List.not_mem_nil
  | none :: ρ, _ :: σ, _, h => Vars.owns (ρ := ρ) (σ := σ) h
  | some d :: ρ, some v :: σ, _, h => by
    obtain ⟨S, R, q, h, rfl⟩ := h
    exact (q.owns).app (Vars.owns h)
  | some d :: ρ, none :: σ, _, h => h.elim
  | [], _ :: _, _, h => h.elim
  | none :: _, [], _, h => h.elim
  | some _ :: _, [], _, h => h.elim
theorem Vars.kp : ∀ {ρ : Ev} {σ : St} {SV : List Addr}, Vars K H ρ σ SV → Kp SV H H' → Vars K H' ρ σ SV
  | [], [], _, h, _ => h
  | none :: ρ, _ :: σ, _, h, k => Vars.kp (ρ := ρ) (σ := σ) h k
  | some d :: ρ, some v :: σ, _, h, k => by
    obtain ⟨S, R, q, h, rfl⟩ := h
    exact ⟨S, R, q.kp d (k.sub fun a ha => List.mem_append_left _ ha), Vars.kp h (k.sub fun a ha => List.mem_append_right _ ha), rfl⟩
  | some d :: ρ, none :: σ, _, h, _ => h.elim
  | [], _ :: _, _, h, _ => h.elim
  | none :: _, [], _, h, _ => h.elim
  | some _ :: _, [], _, h, _ => h.elim
/-- one name apart from the others -/
structure Foc (K : PySem.W.Frag) (H : Hp) (ρ : Ev) (σ : St) (SV : List Addr) (i : Nat) (S R : List Addr) : Prop where
  perm : SV.Perm (S ++ R)
  here : ∀ d, ρ[i]? = some (some d) → ∃ v, σ[i]? = some (some v) ∧ Rep K H d v S
  nil : ρ[i]? = some none → S = []
  set : ∀ H' d' v' S', Kp R H H' → Rep K H' d' v' S' → ∃ SV', Vars K H' (ρ.set i (some d')) (σ.set i (some v')) SV' ∧ SV'.Perm (S' ++ R)
  out : ∀ H' σ', Kp R H H' → (∀ j, j ≠ i → σ'[j]? = σ[j]?) → σ'.length = σ.length → ∃ SV', Vars K H' (ρ.set i none) σ' SV' ∧ SV'.Perm R
theorem tail_eq {o o' : Option V} {σ σ' : List (Option V)} (h : ∀ j, j ≠ 0 → (o' :: σ')[j]? = (o :: σ)[j]?) : σ' = σ := by
  apply List.ext_getElem?
  intro j
  simpa using h (j + 1) (by omega)
theorem Vars.foc : ∀ {ρ : Ev} {σ : St} {SV : List Addr} (i : Nat), Vars K H ρ σ SV → i < ρ.length → ∃ S R, Foc K H ρ σ SV i S R
  | [], _, _, _, _, hi => absurd hi (Nat.not_lt_zero _)
  | none :: ρ, x :: σ, SV, 0, h, _ => by
    refine ⟨[], SV, .refl _, fun d e => by simp at e, fun _ => rfl, fun H' d' v' S' k r => ⟨S' ++ SV, ⟨S', SV, r, Vars.kp (ρ := ρ) (σ := σ) h k, rfl⟩, .refl _⟩, fun H' σ' k hs hl => ?_⟩
    cases σ' with
    | nil => simp at hl
    | cons y σ' =>
      have := tail_eq hs
      subst this
      exact ⟨SV, Vars.kp (ρ := ρ) (σ := σ') h k, .refl _⟩
  | some d :: ρ, some v :: σ, SV, 0, h, _ => by
    obtain ⟨S, R, q, h, rfl⟩ := h
    refine ⟨S, R, .refl _, fun d' e => by simp at e; subst e; exact ⟨v, rfl, q⟩, fun e => by simp at e, fun H' d' v' S' k r => ⟨S' ++ R, ⟨S', R, r, Vars.kp h k, rfl⟩, .refl _⟩, fun H' σ' k hs hl => ?_⟩
    cases σ' with
    | nil => simp at hl
    | cons y σ' =>
      have := tail_eq hs
      subst this
      exact ⟨R, Vars.kp h k, .refl _⟩
  | none :: ρ, x :: σ, SV, i + 1, h, hi => by
    obtain ⟨S, R, f⟩ := Vars.foc (ρ := ρ) (σ := σ) i h (by simpa using hi)
    refine ⟨S, R, f.perm, fun d e => by obtain ⟨v, e1, e2⟩ := f.here d (by simpa using e); exact ⟨v, by simpa using e1, e2⟩, fun e => f.nil (by simpa using e), fun H' d' v' S' k r => ?_, fun H' σ' k hs hl => ?_⟩
    · obtain ⟨SV', a, b⟩ := f.set H' d' v' S' k r
      exact ⟨SV', a, b⟩
    · cases σ' with
      | nil => simp at hl
      | cons y σ' =>
        obtain ⟨SV', a, b⟩ := f.out H' σ' k (fun j hj => by simpa using hs (j + 1) (by omega)) (by simpa using hl)
        exact ⟨SV', a, b⟩
  | some d :: ρ, some v :: σ, SV, i + 1, h, hi => by
    obtain ⟨S0, R0, q, h, rfl⟩ := h
    obtain ⟨S, R, f⟩ := Vars.foc i h (by simpa using hi)
    refine ⟨S, S0 ++ R, ?_, fun d e => by obtain ⟨v, e1, e2⟩ := f.here d (by simpa using e); exact ⟨v, by simpa using e1, e2⟩, fun e => f.nil (by simpa using e), fun H' d' v' S' k r => ?_, fun H' σ' k hs hl => ?_⟩
    · refine (f.perm.append_left S0).trans ?_
      rw [← List.append_assoc, ← List.append_assoc]
      exact (List.perm_append_comm).append_right R
    · obtain ⟨SV', a, b⟩ := f.set H' d' v' S' (k.sub fun a ha => List.mem_append_right _ ha) r
      refine ⟨S0 ++ SV', ⟨S0, SV', q.kp d (k.sub fun a ha => List.mem_append_left _ ha), a, rfl⟩, (b.append_left S0).trans ?_⟩
      rw [← List.append_assoc, ← List.append_assoc]
      exact (List.perm_append_comm).append_right R
    · cases σ' with
      | nil => simp at hl
      | cons y σ' =>
        obtain ⟨SV', a, b⟩ := f.out H' σ' (k.sub fun a ha => List.mem_append_right _ ha) (fun j hj => by simpa using hs (j + 1) (by omega)) (by simpa using hl)
        have hy : y = some v := by simpa using hs 0 (by omega)
        subst hy
        exact ⟨S0 ++ SV', ⟨S0, SV', q.kp d (k.sub fun a ha => List.mem_append_left _ ha), a, rfl⟩, b.append_left S0⟩
  | some d :: ρ, none :: σ, _, _, h, _ => h.elim
  | none :: _, [], _, _, h, _ => h.elim
  | some _ :: _, [], _, _, h, _ => h.elim
theorem getV_some {ρ : Ev} {i : Nat} {d : D} (h : getV ρ i = some d) : ρ[i]? = some (some d) ∧ i < ρ.length := by
  unfold getV at h
  by_cases hi : i < ρ.length
  · rw [List.getD_eq_getElem?_getD, List.getElem?_eq_getElem hi] at h
    rw [List.getElem?_eq_getElem hi]
    exact ⟨congrArg some h, hi⟩
  · rw [List.getD_eq_getElem?_getD, List.getElem?_eq_none (by omega)] at h
    cases h
theorem set_same {α : Type} : ∀ {l : List α} {i : Nat} {x : α}, l[i]? = some x → l.set i x = l
  | [], _, _, h => by simp at h
  | y :: l, 0, x, h => by simp at h; subst h; rfl
  | y :: l, i + 1, x, h => by
    rw [List.set_cons_succ, set_same (l := l) (by simpa using h)]
end
end Ly

namespace Ly
open PySem PySem.Spec L2
variable [Fns]

mutual
/-- its value is nobody else's to change -/
def own : E → Bool
  | .var _ => false
  | .o2 op _ _ => (match op with
    | .idx => false
    | _ => true)
  | .ixL _ _ => false
  | .get _ _ _ => false
  | .and a b => own a && own b
  | .or a b => own a && own b
  | .ite _ a b => own a && own b
  | _ => true
end
mutual
/-- it changes nothing -/
def quiet : E → Bool
  | .var _ => true
  | .mv _ => false
  | .mvo _ => false
  | .cst _ => true
  | .glo _ => true
  | .ck e => quiet e
  | .fz e => false
  | .o2 _ a b => quiet a && quiet b
  | .o1 _ a => quiet a
  | .and a b => quiet a && quiet b
  | .or a b => quiet a && quiet b
  | .ite c a b => quiet c && (quiet a && quiet b)
  | .tup es => quiets es
  | .lst es => quiets es
  | .slc a lo hi => quiet a && (quiets lo && quiets hi)
  | .call slots _ es => slots.all (·.isNone) && quiets es
  | .pop _ => false
  | .popAt _ _ => false
  | .lc _ _ _ _ _ => false
  | .dnil => true
  | .lrg es => quiets es
  | .me _ a es => quiet a && quiets es
  | .popP _ _ _ => false
  | .callK _ _ es => quiets es
  | .ixL _ b => quiet b
  | .get a k d => quiet a && (quiet k && quiet d)
  | .srtK _ a => quiet a
  | .cmp2 _ _ a b c => quiet a && (quiet b && quiet c)
  | .dc _ _ _ _ _ _ => false
def quiets : Es → Bool
  | .nil => true
  | .cons e es => quiet e && quiets es
  | .io _ es => quiets es
end
def owns : Es → Bool
  | .nil => true
  | .cons e es => own e && owns es
  | .io _ es => owns es

def Ext (SV : List Addr) (H H' : Hp) : Prop := ∀ a o, H a = some o → a ∉ SV → H' a = some o
theorem Ext.refl {SV : List Addr} {H : Hp} : Ext SV H H := fun _ _ e _ => e
theorem Ext.kp {SV S : List Addr} {H H' : Hp} (x : Ext SV H H') (ow : Owns H SV) (d : ∀ a ∈ S, a ∉ SV) : Kp S H H' := fun a o e q => by
  refine x a o e fun ha => ?_
  rcases q with q | q
  · exact d a q ha
  · obtain ⟨o', e', m⟩ := ow a ha
    rw [e] at e'
    cases e'
    exact q m
theorem Ext.all {H H' : Hp} (x : Ext [] H H') (S : List Addr) : Kp S H H' := fun a o e _ => x a o e List.not_mem_nil
theorem Ext.weak {H H' : Hp} (x : Ext [] H H') (S : List Addr) : Ext S H H' := fun a o e _ => x a o e List.not_mem_nil
theorem Ext.new {SV : List Addr} {H : Hp} {p : Addr} {o : HO} (h : H p = none) : Ext SV H (upd H p o) := fun a u e _ => by
  rw [upd_ne (ne_of_none e h)]
  exact e

/-- the names behind a step -/
structure EnvP (K : PySem.W.Frag) (SV : List Addr) (H : Hp) (σ : St) (ρ' : Ev) (H' : Hp) (SV' : List Addr) : Prop where
  vars : Vars K H' ρ' σ SV'
  nd : SV'.Nodup
  src : ∀ a ∈ SV', a ∈ SV ∨ H a = none
  ext : Ext SV H H'
section
variable {K : PySem.W.Frag} {SV SV1 SV2 : List Addr} {H H1 H2 : Hp} {σ : St} {ρ ρ1 ρ2 : Ev}
theorem EnvP.refl (v : Vars K H ρ σ SV) (nd : SV.Nodup) : EnvP K SV H σ ρ H SV := ⟨v, nd, fun _ h => .inl h, .refl⟩
theorem src_trans {S : List Addr} (e1 : EnvP K SV H σ ρ1 H1 SV1) (h : ∀ a ∈ S, a ∈ SV1 ∨ H1 a = none) : ∀ a ∈ S, a ∈ SV ∨ H a = none := fun a ha => by
  rcases h a ha with h | h
  · exact e1.src a h
  · by_cases hs : a ∈ SV
    · exact .inl hs
    · cases q : H a with
      | none => exact .inr rfl
      | some o =>
        have := e1.ext a o q hs
        rw [h] at this
        cases this
theorem EnvP.trans (e1 : EnvP K SV H σ ρ1 H1 SV1) (e2 : EnvP K SV1 H1 σ ρ2 H2 SV2) : EnvP K SV H σ ρ2 H2 SV2 :=
  ⟨e2.vars, e2.nd, src_trans e1 e2.src, fun a o e hs => e2.ext a o (e1.ext a o e hs) fun h1 => by
    rcases e1.src a h1 with h | h
    · exact hs h
    · rw [e] at h; cases h⟩
/-- a value -/
structure ResP (K : PySem.W.Frag) (SV : List Addr) (H : Hp) (SV' : List Addr) (H' : Hp) (o : Bool) (d : D) (v : V) (S : List Addr) : Prop where
  rep : Rep K H' d v S
  src : o = true → ∀ a ∈ S, a ∈ SV ∨ H a = none
  sep : o = true → (S ++ SV').Nodup
/-- nothing has been changed -/
def Qt (SV : List Addr) (H : Hp) (ρ ρ' : Ev) (H' : Hp) (SV' : List Addr) : Prop := ρ' = ρ ∧ SV' = SV ∧ Ext [] H H'
theorem ResP.carry {o q : Bool} {d : D} {v : V} {S : List Addr} (r : ResP K SV H SV1 H1 o d v S) (e2 : EnvP K SV1 H1 σ ρ2 H2 SV2) (e1 : EnvP K SV H σ ρ1 H1 SV1) (hq : q = true → Qt SV1 H1 ρ1 ρ2 H2 SV2) (h : o = true ∨ q = true) :
    Rep K H2 d v S ∧ (o = true → (S ++ SV2).Nodup) := by
  have sep : o = true → (∀ a ∈ S, a ∉ SV1) := fun ho a ha hb => by
    have := (List.nodup_append.mp (r.sep ho)).2.2 a ha a hb
    exact this rfl
  have kp : Kp S H1 H2 := by
    rcases h with h | h
    · exact e2.ext.kp e1.vars.owns (sep h)
    · exact (hq h).2.2.all S
  refine ⟨r.rep.kp d kp, fun ho => ?_⟩
  refine List.nodup_append.mpr ⟨(List.nodup_append.mp (r.sep ho)).1, e2.nd, fun a ha b hb e => ?_⟩
  subst e
  rcases e2.src a hb with z | z
  · exact sep ho a ha z
  · obtain ⟨o', e', _⟩ := r.rep.owns d a ha
    rw [z] at e'
    cases e'
end

/-- what an error's datum lies as -/
structure Cfg where
  K : PySem.W.Frag
  ER : D → Value → Option Addr → Hp → Prop
/-- what is asked of an outcome, begun at SV, H -/
def tK {α β : Type} (C : Cfg) (W : WX) (σ : St) (SV : List Addr) (H : Hp) (R : α → Ev → List Addr → Hp → β → Prop) (m : Out α) (Q : β → Hp → Prop) : Prop :=
  match m with
  | .ok d ρ' => ∀ v H' SV', EnvP C.K SV H σ ρ' H' SV' → R d ρ' SV' H' v → Q v H'
  | .exc x ρ' => ∀ cls dd H' SV', EnvP C.K SV H σ ρ' H' SV' → C.ER x cls dd H' → W cls dd σ H'
  | .bad => False
/-- an expression's value, begun at SV, H, ρ -/
def RD (K : PySem.W.Frag) (SV : List Addr) (H : Hp) (ρ : Ev) (o q : Bool) (d : D) (ρ' : Ev) (SV' : List Addr) (H' : Hp) (v : V) : Prop := (∃ S, ResP K SV H SV' H' o d v S) ∧ (q = true → Qt SV H ρ ρ' H' SV')
def tD (C : Cfg) (W : WX) (e : E) : TE := fun σ H Q => ∃ ρ SV, Vars C.K H ρ σ SV ∧ SV.Nodup ∧ tK C W σ SV H (RD C.K SV H ρ (own e) (quiet e)) (ev e ρ) Q
theorem tK_bind {α β γ δ : Type} {C : Cfg} {W : WX} {σ : St} {SV : List Addr} {H : Hp} {R : α → Ev → List Addr → Hp → β → Prop} {R' : γ → Ev → List Addr → Hp → δ → Prop} {m : Out α} {f : α → Ev → Out γ} {Q : δ → Hp → Prop} {Q1 : β → Hp → Prop}
    (h : tK C W σ SV H R' (m.bind f) Q)
    (k : ∀ d ρ1 v H1 SV1, EnvP C.K SV H σ ρ1 H1 SV1 → R d ρ1 SV1 H1 v → tK C W σ SV1 H1 (fun z ρ2 SV2 H2 w => EnvP C.K SV H σ ρ2 H2 SV2 ∧ R' z ρ2 SV2 H2 w) (f d ρ1) Q → Q1 v H1) : tK C W σ SV H R m Q1 := by
  cases m with
  | bad => exact h
  | exc x ρ' => exact h
  | ok d ρ1 =>
    intro v H1 SV1 e1 r1
    have h : tK C W σ SV H R' (f d ρ1) Q := h
    refine k d ρ1 v H1 SV1 e1 r1 ?_
    cases hf : f d ρ1 with
    | bad => rw [hf] at h; exact h
    | exc x ρ2 =>
      rw [hf] at h
      exact fun cls dd H2 SV2 e2 er => h cls dd H2 SV2 (e1.trans e2) er
    | ok z ρ2 =>
      rw [hf] at h
      exact fun w H2 SV2 e2 ⟨p1, p2⟩ => h w H2 SV2 p1 p2
/-- .. with what is asked as from the first beginning -/
theorem tK_bind0 {α β γ δ : Type} {C : Cfg} {W : WX} {σ : St} {SV : List Addr} {H : Hp} {R : α → Ev → List Addr → Hp → β → Prop} {R' : γ → Ev → List Addr → Hp → δ → Prop} {m : Out α} {f : α → Ev → Out γ} {Q : δ → Hp → Prop} {Q1 : β → Hp → Prop}
    (h : tK C W σ SV H R' (m.bind f) Q)
    (k : ∀ d ρ1 v H1 SV1, EnvP C.K SV H σ ρ1 H1 SV1 → R d ρ1 SV1 H1 v → tK C W σ SV H R' (f d ρ1) Q → Q1 v H1) : tK C W σ SV H R m Q1 := by
  cases m with
  | bad => exact h
  | exc x ρ' => exact h
  | ok d ρ1 => exact fun v H1 SV1 e1 r1 => k d ρ1 v H1 SV1 e1 r1 h
theorem tK_bindE {α β γ δ : Type} {C : Cfg} {W : WX} {σ : St} {SV : List Addr} {H : Hp} {R : α → Ev → List Addr → Hp → β → Prop} {R' : γ → Ev → List Addr → Hp → δ → Prop} {m : Out α} {f : α → Ev → Out γ} {Q : δ → Hp → Prop} {Q1 : β → Hp → Prop}
    (h : tK C W σ SV H R' (m.bind f) Q)
    (k : ∀ d ρ1 v H1 SV1, m = .ok d ρ1 → EnvP C.K SV H σ ρ1 H1 SV1 → R d ρ1 SV1 H1 v → tK C W σ SV H R' (f d ρ1) Q → Q1 v H1) : tK C W σ SV H R m Q1 := by
  cases m with
  | bad => exact h
  | exc x ρ' => exact h
  | ok d ρ1 => exact fun v H1 SV1 e1 r1 => k d ρ1 v H1 SV1 rfl e1 r1 h
theorem tK_lift {α β : Type} {C : Cfg} {W : WX} {σ : St} {SV : List Addr} {H : Hp} {R : α → Ev → List Addr → Hp → β → Prop} {o : Option α} {ρ : Ev} {Q : β → Hp → Prop} (h : tK C W σ SV H R (liftO o ρ) Q) :
    ∃ z, o = some z ∧ ∀ v H' SV', EnvP C.K SV H σ ρ H' SV' → R z ρ SV' H' v → Q v H' := by
  cases o with
  | none => exact h.elim
  | some z => exact ⟨z, rfl, h⟩

theorem pemono {X : Cx} {e : Expr} {t t' : TE} (h : PE X e t) (k : ∀ σ H Q, t' σ H Q → t σ H Q) : PE X e t' := ⟨fun pins s σ H Q I q => h.run pins s σ H Q I (k σ H Q q)⟩
theorem ptmono {X : Cx} {e : Expr} {t t' : TT} (h : PT X e t) (k : ∀ σ H Q, t' σ H Q → t σ H Q) : PT X e t' := ⟨fun pins s σ H Q I q => h.run pins s σ H Q I (k σ H Q q)⟩

/-! ### two values -/
/-- an operation whose result is new, or frozen -/
def rD (K : PySem.W.Frag) (g : D → D → Option D) : R2 := fun x y H Q => ∃ d e z S T, Rep K H d x S ∧ Rep K H e y T ∧ g d e = some z ∧ ∀ w H' S', Ext [] H H' → Rep K H' z w S' → S'.Nodup → (∀ a ∈ S', H a = none) → Q w H'
section
variable {K : PySem.W.Frag} {SV SV1 SV2 : List Addr} {H H1 H2 H' : Hp} {σ : St} {ρ ρ1 ρ2 : Ev}
/-- behind a new value -/
theorem EnvP.ext0 (e : EnvP K SV H σ ρ H1 SV1) (x : Ext [] H1 H') : EnvP K SV1 H1 σ ρ H' SV1 := ⟨e.vars.kp (x.all _), e.nd, fun a h => .inl h, x.weak _⟩
theorem fresh_sep {S' : List Addr} (e : EnvP K SV H σ ρ H1 SV1) (nd : S'.Nodup) (h : ∀ a ∈ S', H1 a = none) : (∀ a ∈ S', a ∈ SV ∨ H a = none) ∧ (S' ++ SV1).Nodup :=
  ⟨src_trans e fun a ha => .inr (h a ha), List.nodup_append.mpr ⟨nd, e.nd, fun a ha b hb q => by
    subst q
    obtain ⟨o, e1, _⟩ := e.vars.owns a hb
    rw [h a ha] at e1
    cases e1⟩⟩
theorem Qt.trans (a : Qt SV H ρ ρ1 H1 SV1) (b : Qt SV1 H1 ρ1 ρ2 H2 SV2) : Qt SV H ρ ρ2 H2 SV2 := by
  obtain ⟨rfl, rfl, x⟩ := a
  obtain ⟨rfl, rfl, y⟩ := b
  exact ⟨rfl, rfl, fun a o e h => y a o (x a o e h) h⟩
theorem Qt.ext (a : Qt SV H ρ ρ1 H1 SV1) (x : Ext [] H1 H') : Qt SV H ρ ρ1 H' SV1 := ⟨a.1, a.2.1, fun b o e h => x b o (a.2.2 b o e h) h⟩
end
/-- a value is at hand: go on -/
theorem tD_o2 {C : Cfg} {W : WX} {a b : E} {op : O2} {σ : St} {H : Hp} {Q : VK} (hop : own (.o2 op a b) = true) (hs : (own a || quiet b) = true) (h : tD C W (.o2 op a b) σ H Q) :
    tOp (rD C.K op.sem) (tD C W a) (tD C W b) σ H Q := by
  obtain ⟨ρ, SV, hv, nd, h⟩ := h
  have h : tK C W σ SV H (RD C.K SV H ρ (own (.o2 op a b)) (quiet a && quiet b)) ((ev a ρ).bind fun x ρ => (ev b ρ).bind fun y ρ => liftO (op.sem x y) ρ) Q := h
  refine ⟨ρ, SV, hv, nd, tK_bind h fun d ρ1 v H1 SV1 e1 r1 h1 => ⟨ρ1, SV1, e1.vars, e1.nd, tK_bind h1 fun e ρ2 u H2 SV2 e2 r2 h2 => ?_⟩⟩
  obtain ⟨z, hz, h2⟩ := tK_lift h2
  obtain ⟨⟨S, r1⟩, q1⟩ := r1
  obtain ⟨⟨T, r2⟩, q2⟩ := r2
  have hs' : own a = true ∨ quiet b = true := by simpa using hs
  obtain ⟨rep1, sep1⟩ := r1.carry e2 e1 q2 hs'
  have et := e1.trans e2
  refine ⟨d, e, z, S, T, rep1, r2.rep, hz, fun w H' S' x rep nd' new => ?_⟩
  have en := et.ext0 x
  obtain ⟨f1, f2⟩ := fresh_sep et nd' new
  refine h2 w H' SV2 en ⟨e2.trans en, et.trans en, ⟨S', rep, fun _ => f1, fun _ => f2⟩, fun q => ?_⟩
  rw [Bool.and_eq_true] at q
  exact ((q1 q.1).trans (q2 q.2)).ext x
theorem se_bin {X : Cx} {C : Cfg} {W : WX} {a b : Expr} {a' b' : E} {op : Operator} {o : O2} {pos : Pos} (ho : OpR X (binaryOp op) (rD C.K o.sem)) (ha : PE X a (tD C W a')) (hb : PE X b (tD C W b')) (hop : own (.o2 o a' b') = true) (hs : (own a' || quiet b') = true) :
    PE X (.BinOp a op b pos) (tD C W (.o2 o a' b')) := pemono (pe_op ho ha hb) fun _ _ _ h => tD_o2 hop hs h
end Ly

namespace Ly
open PySem PySem.Spec L2
variable [Fns]
section
variable {X : Cx} {K : PySem.W.Frag} {H : Hp}
theorem lim_eq : lim = sizeLine := sizeLine_eq.symm
/-- a value without parts that may be changed -/
theorem k0 {d : D} {v : V} {Q : VK} (k : ∀ w H' S', Ext [] H H' → Rep K H' d w S' → S'.Nodup → (∀ a ∈ S', H a = none) → Q w H') (r : Rep K H d v []) : Q v H := k v H [] .refl r .nil fun a ha => absurd ha List.not_mem_nil
theorem kInt {i : Int} {Q : VK} (k : ∀ w H' S', Ext [] H H' → Rep K H' (.int i) w S' → S'.Nodup → (∀ a ∈ S', H a = none) → Q w H') : Q (.int i) H := k0 k ⟨rfl, rfl⟩
theorem kBl {b : Bool} {Q : VK} (k : ∀ w H' S', Ext [] H H' → Rep K H' (.bl b) w S' → S'.Nodup → (∀ a ∈ S', H a = none) → Q w H') : Q (.bl b) H := k0 k ⟨rfl, rfl⟩
theorem kStr {x : Str} {Q : VK} (k : ∀ w H' S', Ext [] H H' → Rep K H' (.str x) w S' → S'.Nodup → (∀ a ∈ S', H a = none) → Q w H') : Q (.str x) H := k0 k ⟨rfl, rfl⟩
/-- a new tuple, a new list -/
theorem kTup {ds : List D} {vs : List V} {Q : VK} (k : ∀ w H' S', Ext [] H H' → Rep K H' (.tup ds) w S' → S'.Nodup → (∀ a ∈ S', H a = none) → Q w H') (r : Reps K H ds vs []) : ∀ p, H p = none → Q (.ref p) (upd H p (.tup vs)) := fun p hp =>
  k (.ref p) _ [] (Ext.new hp) ⟨rfl, p, vs, rfl, .inl (.inl upd_same), r.kp ds ((Ext.new (SV := []) hp).all _)⟩ .nil fun a ha => absurd ha List.not_mem_nil
theorem kLst {ds : List D} {vs : List V} {Q : VK} (k : ∀ w H' S', Ext [] H H' → Rep K H' (.lst true ds) w S' → S'.Nodup → (∀ a ∈ S', H a = none) → Q w H') (r : Reps K H ds vs []) : ∀ p, H p = none → Q (.ref p) (upd H p (.lst vs)) := fun p hp =>
  k (.ref p) _ [p] (Ext.new hp) ⟨p, vs, [], rfl, upd_same, r.kp ds ((Ext.new (SV := []) hp).all _), rfl⟩ (by simp) fun a ha => by
    have : a = p := by simpa using ha
    subst this
    exact hp
/-- a list's or tuple's items, frozen -/
theorem lst_sq {o : Bool} {ds : List D} {v : V} {S : List Addr} (r : Rep K H (.lst o ds) v S) : ∃ a vs T, v = .ref a ∧ Rd H a (.lst vs) ∧ Reps K H ds vs T ∧ ((o = false ∨ ds.all frzD = true) → T = []) := by
  cases o with
  | false =>
    obtain ⟨rfl, a, vs, rfl, q, r⟩ := r
    exact ⟨a, vs, [], rfl, .inr q, r, fun _ => rfl⟩
  | true =>
    obtain ⟨a, vs, S', rfl, q, r, rfl⟩ := r
    refine ⟨a, vs, S', rfl, .inl q, r, fun h => ?_⟩
    rcases h with h | h
    · cases h
    · exact r.frz h

/-! ### as the library's data -/
mutual
theorem rep_dp : ∀ (d : D) {v : V} {S : List Addr}, Rep K H d v S → (toP d).plain = true → Dp K H v (toP d)
  | .non, _, _, h, _ => by obtain ⟨rfl, _⟩ := h; exact .non
  | .bl b, _, _, h, _ => by obtain ⟨rfl, _⟩ := h; exact .bl b
  | .int i, _, _, h, _ => by obtain ⟨rfl, _⟩ := h; exact .int i
  | .str x, _, _, h, _ => by obtain ⟨rfl, _⟩ := h; exact .str x
  | .tup ds, _, _, h, p => by
    obtain ⟨rfl, a, vs, rfl, q, r⟩ := h
    exact .tup q (reps_dp ds r p)
  | .lst o ds, _, _, h, p => by
    obtain ⟨a, vs, T, rfl, q, r, _⟩ := lst_sq h
    exact .lst (.inl q) (reps_dp ds r p)
  | .dk _ _ _, _, _, _, p => by cases p
  | .dt _ _ _, _, _, _, p => by cases p
  | .exc _ _, _, _, _, p => by cases p
  | .scr _, _, _, _, p => by cases p
theorem reps_dp : ∀ (ds : List D) {vs : List V} {S : List Addr}, Reps K H ds vs S → PyData.plainAll (toPs ds) = true → DpAll K H vs (toPs ds)
  | [], _, _, h, _ => by obtain ⟨rfl, _⟩ := h; exact .nil
  | d :: ds, _, _, h, p => by
    obtain ⟨v, r, S1, S2, rfl, q1, q2, rfl⟩ := h
    have p : ((toP d).plain && PyData.plainAll (toPs ds)) = true := p
    rw [Bool.and_eq_true] at p
    exact .cons (rep_dp d q1 p.1) (reps_dp ds q2 p.2)
end

/-! ### arithmetic -/
theorem I2_some {f : Int → Int → D} {d e z : D} (h : I2 f d e = some z) : ∃ i j, d = .int i ∧ e = .int j ∧ z = f i j := by
  cases d <;> cases e <;> first | (cases h; exact ⟨_, _, rfl, rfl, rfl⟩) | cases h
theorem rI2 {f : Value → Value → Sem Value} {g : Int → Int → V} {gd : Int → Int → D} (hg : ∀ i j H, Rep K H (gd i j) (g i j) []) (ho : OpR X f (rI0 g)) : OpR X f (rD K (I2 gd)) := by
  intro pins s σ H x y v u Q I rx ry h
  obtain ⟨d, e, z, S, T, r1, r2, hz, k⟩ := h
  obtain ⟨i, j, rfl, rfl, rfl⟩ := I2_some hz
  exact ho pins s σ H x y v u Q I rx ry ⟨i, j, r1.1, r2.1, k0 k (hg i j H)⟩
theorem od_sub : OpR X (binaryOp .Sub) (rD X.K O2.sub.sem) := rI2 (gd := fun i j => .int (i - j)) (fun _ _ _ => ⟨rfl, rfl⟩) op_sub
theorem rS2 {f : Value → Value → Sem Value} {gi : Int → Int → Bool} {gs : Str → Str → Bool} {h : D → D → Option D} (hi : ∀ i j, h (.int i) (.int j) = some (.bl (gi i j))) (hs : ∀ x y, h (.str x) (.str y) = some (.bl (gs x y))) (hn : ∀ d e z, h d e = some z → (∃ i j, d = .int i ∧ e = .int j) ∨ ∃ x y, d = .str x ∧ e = .str y)
    (oi : OpR X f (rI0 fun i j => .bl (gi i j))) (os : OpR X f (fun x y H Q => ∃ i j, x = .str i ∧ y = .str j ∧ Q (.bl (gs i j)) H)) : OpR X f (rD K h) := by
  intro pins s σ H x y v u Q I rx ry q
  obtain ⟨d, e, z, S, T, r1, r2, hz, k⟩ := q
  rcases hn d e z hz with ⟨i, j, rfl, rfl⟩ | ⟨i, j, rfl, rfl⟩
  · rw [hi] at hz
    cases hz
    exact oi pins s σ H x y v u Q I rx ry ⟨i, j, r1.1, r2.1, k0 k ⟨rfl, rfl⟩⟩
  · rw [hs] at hz
    cases hz
    exact os pins s σ H x y v u Q I rx ry ⟨i, j, r1.1, r2.1, k0 k ⟨rfl, rfl⟩⟩
theorem ltS_in : ∀ d e z, ltS d e = some z → (∃ i j, d = .int i ∧ e = .int j) ∨ ∃ x y, d = .str x ∧ e = .str y := fun d e z h => by
  cases d <;> cases e <;> first
    | (cases h; done)
    | exact .inl ⟨_, _, rfl, rfl⟩
    | exact .inr ⟨_, _, rfl, rfl⟩
theorem gtS_in : ∀ d e z, gtS d e = some z → (∃ i j, d = .int i ∧ e = .int j) ∨ ∃ x y, d = .str x ∧ e = .str y := fun d e z h => by
  cases d <;> cases e <;> first
    | (cases h; done)
    | exact .inl ⟨_, _, rfl, rfl⟩
    | exact .inr ⟨_, _, rfl, rfl⟩
theorem od_lt : OpR X (compareOp .Lt) (rD X.K O2.lt.sem) := rS2 (gi := fun i j => decide (i < j)) (gs := fun x y => decide (x.cps.toList < y.cps.toList)) (h := ltS) (fun _ _ => rfl) (fun _ _ => rfl) ltS_in op_lt op_lt_str
theorem od_le : OpR X (compareOp .LtE) (rD X.K O2.le.sem) := rI2 (gd := fun i j => .bl (decide (i ≤ j))) (fun _ _ _ => ⟨rfl, rfl⟩) op_le
theorem od_gt : OpR X (compareOp .Gt) (rD X.K O2.gt.sem) := rS2 (gi := fun i j => decide (j < i)) (gs := fun x y => decide (y.cps.toList < x.cps.toList)) (h := gtS) (fun _ _ => rfl) (fun _ _ => rfl) gtS_in op_gt op_gt_str
theorem od_ge : OpR X (compareOp .GtE) (rD X.K O2.ge.sem) := rI2 (gd := fun i j => .bl (decide (j ≤ i))) (fun _ _ _ => ⟨rfl, rfl⟩) op_ge
theorem od_mod : OpR X (binaryOp .Mod) (rD X.K O2.mod.sem) := by
  intro pins s σ H x y v u Q I rx ry h
  obtain ⟨d, e, z, S, T, r1, r2, hz, k⟩ := h
  cases d with
  | int i =>
    cases e with
    | int j =>
      change (if 0 < j then some (D.int (i % j)) else none) = some z at hz
      split at hz
      · rename_i hc
        cases hz
        exact op_mod pins s σ H x y v u Q I rx ry ⟨i, j, r1.1, r2.1, hc, kInt k⟩
      · cases hz
    | _ => cases hz
  | _ => cases e <;> cases hz
theorem log2_lt64 {j : Nat} (h : j < 18446744073709551616) : j.log2 < 9000 := by
  have : j.log2 < 64 := PySem.Flt.log2_lt_of (k := 64) (by decide) (by simpa using h)
  omega
theorem od_fdiv : OpR X (binaryOp .FloorDiv) (rD X.K O2.fdiv.sem) := by
  intro pins s σ H x y v u Q I rx ry h
  obtain ⟨d, e, z, S, T, r1, r2, hz, k⟩ := h
  cases d with
  | int i =>
    cases e with
    | int j =>
      change (if 0 < j ∧ j < 18446744073709551616 then some (D.int (i / j)) else none) = some z at hz
      split at hz
      · rename_i hc
        cases hz
        exact op_fdivW pins s σ H x y v u Q I rx ry ⟨i, j, r1.1, r2.1, ⟨hc.1, log2_lt64 (by omega)⟩, kInt k⟩
      · cases hz
    | _ => cases hz
  | _ => cases e <;> cases hz
theorem od_pow : OpR X (binaryOp .Pow) (rD X.K O2.pow.sem) := by
  intro pins s σ H x y v u Q I rx ry h
  obtain ⟨d, e, z, S, T, r1, r2, hz, k⟩ := h
  cases d with
  | int i =>
    cases e with
    | int j =>
      change (if (0 ≤ j ∧ j ≤ 1000000) ∧ (-18446744073709551616 < i ∧ i < 18446744073709551616) then some (D.int (i ^ j.toNat)) else none) = some z at hz
      split at hz
      · rename_i hc
        cases hz
        exact op_pow pins s σ H x y v u Q I rx ry ⟨i, j, r1.1, r2.1, ⟨hc.1.1, hc.1.2, by have := hc.2; omega⟩, kInt k⟩
      · cases hz
    | _ => cases hz
  | _ => cases e <;> cases hz
theorem rd_list {pins : List (Addr × Obj)} {s : Shared} {σ : St} {H : Hp} {a : Addr} {xs : List V} (I : Inv X pins σ H s) (h : Rd H a (.lst xs)) : xs.length ≤ sizeLine ∧ ∃ (its : List Value) (n : Nat), Vals xs its ∧ s.heap.get? a = some { cls := .type "list", data := .seq its.toArray n } := h.ok I.hok
/-- lists that are read, put together -/
theorem cat_any {pins : List (Addr × Obj)} {s : Shared} {σ : St} {H : Hp} {Q : VK} {a b : Addr} {xs ys : List V} (I : Inv X pins σ H s) (ha : Rd H a (.lst xs)) (hb : Rd H b (.lst ys)) (hz : xs.length + ys.length ≤ sizeLine)
    (q : ∀ p, H p = none → Q (.ref p) (upd H p (.lst (xs ++ ys)))) : wpAny (model X.prog X.w) X.A (binaryOp .Add (.ref a) (.ref b)) (EP X pins σ Q) X.xe s := by
  obtain ⟨z, its, n, r, e⟩ := rd_list I ha
  obtain ⟨z2, its2, n2, r2, e2⟩ := rd_list I hb
  have l1 := r.length
  have l2 := r2.length
  refine PySem.P.add_list e e2 ?_ (by rw [List.size_toArray, List.size_toArray]; omega)
  have ea : its.toArray ++ its2.toArray = (its ++ its2).toArray := by simp
  rw [ea]
  exact ⟨.ref _, _, I.lnew (t' := s.toks) (r.append r2) (by rw [List.length_append]; omega), rfl, q _ I.fresh⟩
theorem od_add : OpR X (binaryOp .Add) (rD X.K O2.add.sem) := by
  intro pins s σ H x y v u Q I rx ry h
  obtain ⟨d, e, z, S, T, r1, r2, hz, k⟩ := h
  cases d with
  | int i =>
    cases e with
    | int j =>
      cases hz
      exact op_add pins s σ H x y v u Q I rx ry ⟨i, j, r1.1, r2.1, kInt k⟩
    | _ => cases hz
  | str a =>
    cases e with
    | str b =>
      change (if a.length + b.length ≤ lim then some (D.str (a ++ b)) else none) = some z at hz
      split at hz
      · rename_i hc
        cases hz
        exact op_add_str pins s σ H x y v u Q I rx ry ⟨a, b, r1.1, r2.1, by rw [← lim_eq]; exact hc, kStr k⟩
      · cases hz
    | _ => cases hz
  | tup xs =>
    cases e with
    | tup ys =>
      change (if xs.length + ys.length ≤ lim then some (D.tup (xs ++ ys)) else none) = some z at hz
      split at hz
      · rename_i hc
        cases hz
        obtain ⟨_, a, vs, rfl, q1, rr1⟩ := r1
        obtain ⟨_, b, ws, rfl, q2, rr2⟩ := r2
        have l1 := rr1.length
        have l2 := rr2.length
        refine op_catA pins s σ H (.ref a) (.ref b) v u Q I rx ry ⟨a, b, vs, ws, rfl, rfl, q1, q2, by rw [← lim_eq, ← l1, ← l2]; exact hc, fun z => ?_, fun _ z => ?_, fun _ _ => ?_⟩
        · subst z
          have : xs = [] := List.length_eq_zero_iff.mp (by simpa using l1)
          subst this
          exact k0 k ⟨rfl, b, ws, rfl, q2, rr2⟩
        · subst z
          have : ys = [] := List.length_eq_zero_iff.mp (by simpa using l2)
          subst this
          rw [List.append_nil] at k
          exact k0 k ⟨rfl, a, vs, rfl, q1, rr1⟩
        · exact kTup k (rr1.app rr2)
      · cases hz
    | _ => cases hz
  | lst o xs =>
    cases e with
    | lst p ys =>
      change (if ((o = false ∨ xs.all frzD = true) ∧ (p = false ∨ ys.all frzD = true)) ∧ xs.length + ys.length ≤ lim then some (D.lst true (xs ++ ys)) else none) = some z at hz
      split at hz
      · rename_i hc
        cases hz
        obtain ⟨a, vs, T1, rfl, q1, rr1, f1⟩ := lst_sq r1
        obtain ⟨b, ws, T2, rfl, q2, rr2, f2⟩ := lst_sq r2
        have e1 := f1 hc.1.1
        have e2 := f2 hc.1.2
        subst e1 e2
        cases rx
        cases ry
        refine cat_any I q1 q2 (by rw [← lim_eq, ← rr1.length, ← rr2.length]; exact hc.2) (kLst k (rr1.app rr2))
      · cases hz
    | _ => cases hz
  | _ => cases e <;> cases hz
theorem rep_fold : ∀ (n : Nat) (x : Array Nat) (a : Array Nat), ((List.replicate n x).foldl (· ++ ·) a).toList = a.toList ++ (List.replicate n x.toList).flatten
  | 0, x, a => by simp
  | n + 1, x, a => by
    rw [List.replicate_succ, List.foldl_cons, rep_fold n x (a ++ x), List.replicate_succ, List.flatten_cons, Array.toList_append, List.append_assoc]
theorem op_smul : OpR X (binaryOp .Mult) (fun x y H Q => ∃ (a : Str) (n : Int), x = .str a ∧ y = .int n ∧ (-9223372036854775808 ≤ n ∧ n < 9223372036854775808) ∧ a.length * n.toNat ≤ 16777216 ∧ a.length ≤ 16777216 ∧ Q (.str (repS a n)) H) := by
  intro pins s σ H x y v u Q I rx ry h
  obtain ⟨a, n, rfl, rfl, ⟨h1, h2⟩, h3, h4, q⟩ := h
  obtain ⟨t, rfl⟩ := rx
  obtain ⟨t', rfl⟩ := ry
  have hsl : sizeLine = 16777216 := sizeLine_eq
  refine PySem.P.mul_str (by rw [decide_eq_false (by omega), decide_eq_false (by omega)]; rfl) (fun g1 g2 => ?_) (fun _ _ => ?_) ?_
  · have hn : 1 ≤ n := by omega
    have e : (a.length : Int) * n ≤ 16777216 := by
      have : ((a.length * n.toNat : Nat) : Int) ≤ 16777216 := by omega
      rw [Int.natCast_mul, Int.toNat_of_nonneg (by omega)] at this
      exact this
    have : (a.length : Int) ≤ (2 ^ 63 - 1) / n := by
      rw [Int.le_ediv_iff_mul_le (by omega)]
      omega
    omega
  · unfold PySem.Builtin.Str.tooLong
    exact decide_eq_false (by omega)
  · by_cases c1 : n < 1
    · rw [if_pos c1]
      have e : repS a n = Str.empty := by
        unfold repS
        rw [show n.toNat = 0 by omega]
        rfl
      exact ⟨by decide, ⟨.str (repS a n), H, I.tok _, ⟨_, by rw [e]⟩, q⟩⟩
    · rw [if_neg c1]
      by_cases c2 : (n == 1 || a.length == 0) = true
      · rw [if_pos c2]
        have e : repS a n = a := by
          unfold repS
          rw [Bool.or_eq_true, beq_iff_eq, beq_iff_eq] at c2
          rcases c2 with c2 | c2
          · subst c2
            show (⟨(List.replicate 1 a.cps.toList).flatten.toArray⟩ : Str) = a
            simp
          · have c2 : a.cps.size = 0 := c2
            have : a.cps.toList = [] := by
              apply List.eq_nil_of_length_eq_zero
              rw [Array.length_toList]
              exact c2
            rw [this]
            have e2 : (List.replicate n.toNat ([] : List Nat)).flatten = [] := by simp
            rw [e2]
            cases a with
            | mk cps =>
              have : cps = #[] := Array.toList_inj.mp this
              rw [this]
        exact ⟨.str (repS a n), H, I, ⟨t, by rw [e]⟩, q⟩
      · rw [if_neg c2]
        have e : (⟨(List.replicate n.toNat a.cps).foldl (· ++ ·) #[]⟩ : Str) = repS a n := by
          unfold repS
          congr 1
          apply Array.toList_inj.mp
          rw [rep_fold]
          simp
        rw [e]
        have hlen : (repS a n).length ≤ sizeLine := by
          show (repS a n).cps.size ≤ _
          unfold repS
          rw [List.size_toArray, List.length_flatten]
          simp only [List.map_replicate, List.sum_replicate_nat, Array.length_toList]
          rw [Nat.mul_comm]
          show a.length * n.toNat ≤ _
          omega
        exact ⟨by first | exact hlen | exact decide_eq_true hlen, ⟨.str (repS a n), H, I.tok _, ⟨_, rfl⟩, q⟩⟩
theorem od_mul : OpR X (binaryOp .Mult) (rD X.K O2.mul.sem) := by
  intro pins s σ H x y v u Q I rx ry h
  obtain ⟨d, e, z, S, T, r1, r2, hz, k⟩ := h
  cases d with
  | int i =>
    cases e with
    | int j =>
      change (if ((-18446744073709551616 < i ∧ i < 18446744073709551616) ∨ (-18446744073709551616 < j ∧ j < 18446744073709551616)) ∨ (i.natAbs.log2 < 2000 ∧ j.natAbs.log2 < 2000) then some (D.int (i * j)) else none) = some z at hz
      split at hz
      · rename_i hc
        cases hz
        rcases hc with hc | hc
        · exact op_mul pins s σ H x y v u Q I rx ry ⟨i, j, r1.1, r2.1, hc.imp (fun h => ⟨by omega, by omega⟩) (fun h => ⟨by omega, by omega⟩), kInt k⟩
        · exact op_mulW pins s σ H x y v u Q I rx ry ⟨i, j, r1.1, r2.1, show i.natAbs.log2 + j.natAbs.log2 < 1000000 by omega, kInt k⟩
      · cases hz
    | _ => cases hz
  | tup xs =>
    cases e with
    | int n =>
      change (if (xs.isEmpty = false ∧ (2 ≤ n ∧ n ≤ 1000)) ∧ xs.length ≤ 1000 then some (D.tup (List.replicate n.toNat xs).flatten) else none) = some z at hz
      split at hz
      · rename_i hc
        cases hz
        obtain ⟨_, a, vs, rfl, q, r⟩ := r1
        have l1 := r.length
        refine op_repT pins s σ H (.ref a) y v u Q I rx ry ⟨a, n, vs, rfl, r2.1, q, fun z => ?_, hc.1.2.1, hc.1.2.2, by omega, kTup k ?_⟩
        · subst z
          have : xs = [] := List.length_eq_zero_iff.mp (by simpa using l1)
          rw [this] at hc
          exact absurd hc.1.1 (by decide)
        · generalize n.toNat = m
          induction m with
          | zero => exact Reps.nil
          | succ m ih =>
            rw [List.replicate_succ, List.replicate_succ, List.flatten_cons, List.flatten_cons]
            exact r.app ih
      · cases hz
    | _ => cases hz
  | str a =>
    cases e with
    | int n =>
      change (if (-9223372036854775808 ≤ n ∧ n < 9223372036854775808) ∧ a.length * n.toNat ≤ lim ∧ a.length ≤ lim then some (D.str (repS a n)) else none) = some z at hz
      split at hz
      · rename_i hc
        cases hz
        exact op_smul pins s σ H x y v u Q I rx ry ⟨a, n, r1.1, r2.1, hc.1, hc.2.1, hc.2.2, kStr k⟩
      · cases hz
    | _ => cases hz
  | lst o xs =>
    cases o with
    | false => cases e <;> cases hz
    | true =>
      cases e with
      | int n =>
        change (if xs.all frzD = true ∧ (-9223372036854775808 ≤ n ∧ n < 9223372036854775808) ∧ xs.length * n.toNat ≤ lim then some (D.lst true (List.replicate n.toNat xs).flatten) else none) = some z at hz
        split at hz
        · rename_i hc
          cases hz
          obtain ⟨a, vs, S', rfl, q, r, rfl⟩ := r1
          have e1 := r.frz hc.1
          subst e1
          refine op_rep pins s σ H (.ref a) y v u Q I rx ry ⟨a, n, vs, rfl, r2.1, q, by omega, by omega, by rw [← lim_eq, ← r.length]; exact hc.2.2, kLst k ?_⟩
          generalize n.toNat = m
          induction m with
          | zero => exact Reps.nil
          | succ m ih =>
            rw [List.replicate_succ, List.replicate_succ, List.flatten_cons, List.flatten_cons]
            exact r.app ih
        · cases hz
      | _ => cases hz
  | _ => cases e <;> cases hz
theorem non_dec {d : D} {x : V} {S : List Addr} (r : Rep K H d x S) : decide (x = .non) = isNon d := by
  cases d with
  | non => rw [r.1]; rfl
  | bl _ => rw [r.1]; rfl
  | int _ => rw [r.1]; rfl
  | str _ => rw [r.1]; rfl
  | tup _ => obtain ⟨_, a, vs, rfl, _⟩ := r; rfl
  | lst o _ => obtain ⟨a, vs, T, rfl, _⟩ := lst_sq r; rfl
  | dk o _ _ =>
    cases o with
    | false => obtain ⟨_, a, vs, o, rfl, _⟩ := r; rfl
    | true => obtain ⟨a, vs, S', rfl, _⟩ := r; rfl
  | dt o _ _ =>
    cases o with
    | false => obtain ⟨_, a, vs, o, rfl, _⟩ := r; rfl
    | true => obtain ⟨a, vs, S', rfl, _⟩ := r; rfl
  | exc _ _ => exact r.elim
  | scr _ => obtain ⟨_, a, rfl, _⟩ := r; rfl
theorem isS_some {d e z : D} (h : isS d e = some z) : (e = .non ∧ z = .bl (isNon d)) ∨ ∃ a b, d = .bl a ∧ e = .bl b ∧ z = .bl (decide (a = b)) := by
  cases e with
  | non => cases h; exact .inl ⟨rfl, rfl⟩
  | bl b =>
    cases d with
    | bl a => cases h; exact .inr ⟨a, b, rfl, rfl, rfl⟩
    | _ => cases h
  | _ => cases h
theorem od_isN : OpR X (compareOp .Is) (rD X.K O2.isN.sem) := by
  intro pins s σ H x y v u Q I rx ry h
  obtain ⟨d, e, z, S, T, r1, r2, hz, k⟩ := h
  rcases isS_some hz with ⟨rfl, rfl⟩ | ⟨a, b, rfl, rfl, rfl⟩
  · exact op_isN pins s σ H x y v u Q I rx ry ⟨r2.1, by rw [non_dec r1]; exact kBl k⟩
  · exact op_isBl pins s σ H x y v u Q I rx ry ⟨a, b, r1.1, r2.1, kBl k⟩
theorem notS_some {o : Option D} {z : D} (h : notS o = some z) : ∃ b, o = some (.bl b) ∧ z = .bl (!b) := by
  unfold notS at h
  split at h
  · cases h; exact ⟨_, rfl, rfl⟩
  · cases h
theorem od_notN : OpR X (compareOp .IsNot) (rD X.K O2.notN.sem) := by
  intro pins s σ H x y v u Q I rx ry h
  obtain ⟨d, e, z, S, T, r1, r2, hz, k⟩ := h
  obtain ⟨b, hb, rfl⟩ := notS_some (show notS (isS d e) = some z from hz)
  rcases isS_some hb with ⟨rfl, e2⟩ | ⟨a, b', rfl, rfl, e2⟩
  · cases e2
    exact op_notN pins s σ H x y v u Q I rx ry ⟨r2.1, by rw [non_dec r1]; exact kBl k⟩
  · cases e2
    exact op_notBl pins s σ H x y v u Q I rx ry ⟨a, b', r1.1, r2.1, kBl k⟩

/-! ### equality of data, membership -/
theorem eqG_some {d e z : D} (h : eqG d e = some z) : (toP d).plain = true ∧ (toP e).plain = true ∧ min (toP d).depth (toP e).depth ≤ 64 ∧ z = .bl (PyData.eqv (toP d) (toP e)) := by
  unfold eqG at h
  split at h
  · rename_i hc
    cases h
    exact ⟨hc.1, hc.2.1, hc.2.2, rfl⟩
  · cases h
theorem eqS_some {d e z : D} (h : eqS d e = some z) : (toP d).plain = true ∧ (toP e).plain = true ∧ min (toP d).depth (toP e).depth ≤ 64 ∧ z = .bl (PyData.eqv (toP d) (toP e)) := by
  unfold eqS at h
  split at h
  · rename_i i j
    cases h
    exact ⟨rfl, rfl, by simp [toP, PyData.depth], by simp only [toP, PyData.eqv]; rw [Bool.beq_eq_decide_eq]⟩
  · rename_i i j
    cases h
    exact ⟨rfl, rfl, by simp [toP, PyData.depth], by simp only [toP, PyData.eqv]; rw [Bool.beq_eq_decide_eq]⟩
  · exact eqG_some h
theorem od_eq (hu : X.A.units + 64 < cLine) : OpR X (compareOp .Eq) (rD X.K O2.eq.sem) := by
  intro pins s σ H x y v u Q I rx ry h
  obtain ⟨d, e, z, S, T, r1, r2, hz, k⟩ := h
  obtain ⟨p1, p2, hd, rfl⟩ := eqS_some hz
  obtain ⟨as, ra⟩ := (rep_dp d r1 p1).reads I _ _ _ rx
  obtain ⟨bs, rb⟩ := (rep_dp e r2 p2).reads I _ _ _ ry
  exact SeqAt.eq_plain ra rb p1 p2 (by omega) ⟨.bl _, H, I, rfl, kBl k⟩
theorem od_ne (hu : X.A.units + 64 < cLine) : OpR X (compareOp .NotEq) (rD X.K O2.ne.sem) := by
  intro pins s σ H x y v u Q I rx ry h
  obtain ⟨d, e, z, S, T, r1, r2, hz, k⟩ := h
  obtain ⟨b, hb, rfl⟩ := notS_some (show notS (eqS d e) = some z from hz)
  obtain ⟨p1, p2, hd, e2⟩ := eqS_some hb
  cases e2
  obtain ⟨as, ra⟩ := (rep_dp d r1 p1).reads I _ _ _ rx
  obtain ⟨bs, rb⟩ := (rep_dp e r2 p2).reads I _ _ _ ry
  exact SeqAt.ne_plain ra rb p1 p2 (by omega) ⟨.bl _, H, I, rfl, kBl k⟩
theorem inS_seq {d : D} {xs : List D} {z : D} (h : (if (toP d).plain = true ∧ PyData.plainAll (toPs xs) = true ∧ min (PyData.depthAll (toPs xs)) (toP d).depth ≤ 64 then some (D.bl ((toPs xs).any fun y => PyData.eqv y (toP d))) else none) = some z) :
    (toP d).plain = true ∧ PyData.plainAll (toPs xs) = true ∧ min (PyData.depthAll (toPs xs)) (toP d).depth ≤ 64 ∧ z = D.bl ((toPs xs).any fun y => PyData.eqv y (toP d)) := by
  split at h
  · rename_i hc
    cases h
    exact ⟨hc.1, hc.2.1, hc.2.2, rfl⟩
  · cases h
/-- a dict with number and text keys, read -/
theorem dk_rd' {o : Bool} {ks : List Key} {ds : List D} {v : V} {S : List Addr} (r : Rep K H (.dk o ks ds) v S) : ∃ a vs T, v = .ref a ∧ Rd H a (.dK (ks.zip vs)) ∧ ks.length = vs.length ∧ Reps K H ds vs T ∧ (o = false → T = []) := by
  cases o with
  | false =>
    obtain ⟨rfl, a, vs, o, rfl, q, l, r⟩ := r
    exact ⟨a, vs, [], rfl, .inr ⟨o, q⟩, l, r, fun _ => rfl⟩
  | true =>
    obtain ⟨a, vs, S', rfl, q, l, r, rfl⟩ := r
    exact ⟨a, vs, S', rfl, .inl q, l, r, fun z => nomatch z⟩
theorem keyD_some {d : D} {k : Key} {v : V} {S : List Addr} (h : keyD d = some k) (r : Rep K H d v S) : v = kV k := by
  cases d with
  | int i => cases h; exact r.1
  | str x => cases h; exact r.1
  | _ => cases h
/-- what a dict holds: by data, by values -/
theorem look_val {κ : Type} [DecidableEq κ] (k : κ) : ∀ {ks : List κ} {ds : List D} {vs : List V} {S : List Addr}, Reps K H ds vs S → ks.length = vs.length →
    (∀ d, look k ks ds = some d → ∃ v T, valV (ks.zip vs) k = some v ∧ Rep K H d v T) ∧ (look k ks ds = none → valV (ks.zip vs) k = none)
  | [], [], vs, _, h, l => by
    obtain ⟨rfl, _⟩ := h
    refine ⟨fun d e => ?_, fun _ => rfl⟩
    have e : (none : Option D) = some d := e
    cases e
  | [], d :: ds, vs, _, h, l => by
    have := h.length
    have l : 0 = vs.length := l
    rw [← l] at this
    simp at this
  | j :: ks, [], vs, _, h, l => by
    obtain ⟨rfl, _⟩ := h
    simp at l
  | j :: ks, d :: ds, _, _, h, l => by
    obtain ⟨v, r, S1, S2, rfl, q1, q2, rfl⟩ := h
    obtain ⟨ih1, ih2⟩ := look_val k q2 (by simpa using l)
    have e : look k (j :: ks) (d :: ds) = if j = k then some d else look k ks ds := rfl
    rw [e, List.zip_cons_cons]
    by_cases hj : j = k
    · rw [if_pos hj, valV_pos (p := (j, v)) hj]
      exact ⟨fun d' e' => by cases e'; exact ⟨v, S1, rfl, q1⟩, fun e' => by cases e'⟩
    · rw [if_neg hj, valV_neg (p := (j, v)) hj]
      exact ⟨ih1, ih2⟩
theorem od_in (hu : X.A.units + 66 < cLine) : OpR X (compareOp .In) (rD X.K O2.isIn.sem) := by
  intro pins s σ H x y v u Q I rx ry h
  obtain ⟨d, e, z, S, T, r1, r2, hz, k⟩ := h
  replace hz : inS d e = some z := hz
  cases e with
  | tup xs =>
    obtain ⟨p1, p2, hd, rfl⟩ := inS_seq hz
    obtain ⟨as, ra⟩ := (rep_dp d r1 p1).reads I _ _ _ rx
    obtain ⟨bs, rb⟩ := (rep_dp (.tup xs) r2 p2).reads I _ _ _ ry
    exact SeqAt.in_tuple_data rb ra p2 p1 (by omega) ⟨.bl _, H, I, rfl, kBl k⟩
  | lst o xs =>
    obtain ⟨p1, p2, hd, rfl⟩ := inS_seq hz
    obtain ⟨as, ra⟩ := (rep_dp d r1 p1).reads I _ _ _ rx
    obtain ⟨bs, rb⟩ := (rep_dp (.lst o xs) r2 p2).reads I _ _ _ ry
    exact SeqAt.in_list_data rb ra p2 p1 (by omega) ⟨.bl _, H, I, rfl, kBl k⟩
  | str b =>
    cases d with
    | str a =>
      cases hz
      exact op_in_str pins s σ H x y v u Q I rx ry ⟨a, b, r1.1, r2.1, kBl k⟩
    | _ => cases hz
  | dk o ks vs =>
    change (match keyD d with | some k => some (D.bl (look k ks vs).isSome) | none => none) = some z at hz
    cases hk : keyD d with
    | none => rw [hk] at hz; cases hz
    | some key =>
      rw [hk] at hz
      cases hz
      have ex := keyD_some hk r1
      obtain ⟨a, ws, T', rfl, q, l, r, _⟩ := dk_rd' r2
      cases ry
      have g : DGet H a x (valV (ks.zip ws) key) := .inl ⟨_, key, q, ex, rfl⟩
      have es : (valV (ks.zip ws) key).isSome = (look key ks vs).isSome := by
        obtain ⟨h1, h2⟩ := look_val key r l
        cases e : look key ks vs with
        | none => rw [h2 e]; rfl
        | some d' =>
          obtain ⟨v', T, e1, _⟩ := h1 d' e
          rw [e1]
          rfl
      exact d_in (by omega) I g rx fun s3 I3 => ⟨.bl _, H, I3, rfl, by rw [es]; exact kBl k⟩
  | _ => cases hz
theorem od_notIn (hu : X.A.units + 66 < cLine) : OpR X (compareOp .NotIn) (rD X.K O2.notIn.sem) := by
  intro pins s σ H x y v u Q I rx ry h
  obtain ⟨d, e, z, S, T, r1, r2, hz, k⟩ := h
  obtain ⟨b, hb, rfl⟩ := notS_some (show notS (inS d e) = some z from hz)
  clear hz
  rename inS d e = some (.bl b) => hz
  cases e with
  | tup xs =>
    obtain ⟨p1, p2, hd, e2⟩ := inS_seq hz
    cases e2
    obtain ⟨as, ra⟩ := (rep_dp d r1 p1).reads I _ _ _ rx
    obtain ⟨bs, rb⟩ := (rep_dp (.tup xs) r2 p2).reads I _ _ _ ry
    exact SeqAt.notIn_tuple_data rb ra p2 p1 (by omega) ⟨.bl _, H, I, rfl, kBl k⟩
  | lst o xs =>
    obtain ⟨p1, p2, hd, e2⟩ := inS_seq hz
    cases e2
    obtain ⟨as, ra⟩ := (rep_dp d r1 p1).reads I _ _ _ rx
    obtain ⟨bs, rb⟩ := (rep_dp (.lst o xs) r2 p2).reads I _ _ _ ry
    exact SeqAt.notIn_list_data rb ra p2 p1 (by omega) ⟨.bl _, H, I, rfl, kBl k⟩
  | str b' =>
    cases d with
    | str a =>
      cases hz
      exact op_notIn_str pins s σ H x y v u Q I rx ry ⟨a, b', r1.1, r2.1, kBl k⟩
    | _ => cases hz
  | dk o ks vs =>
    change (match keyD d with | some k => some (D.bl (look k ks vs).isSome) | none => none) = some (.bl b) at hz
    cases hk : keyD d with
    | none => rw [hk] at hz; cases hz
    | some key =>
      rw [hk] at hz
      cases hz
      have ex := keyD_some hk r1
      obtain ⟨a, ws, T', rfl, q, l, r, _⟩ := dk_rd' r2
      cases ry
      have g : DGet H a x (valV (ks.zip ws) key) := .inl ⟨_, key, q, ex, rfl⟩
      have es : (valV (ks.zip ws) key).isSome = (look key ks vs).isSome := by
        obtain ⟨h1, h2⟩ := look_val key r l
        cases e : look key ks vs with
        | none => rw [h2 e]; rfl
        | some d' =>
          obtain ⟨v', T, e1, _⟩ := h1 d' e
          rw [e1]
          rfl
      exact d_notIn (by omega) I g rx fun s3 I3 => ⟨.bl _, H, I3, rfl, by rw [es]; exact kBl k⟩
  | _ => cases hz

/-! ### an item -/
theorem atI_rep {ds : List D} {vs : List V} {S : List Addr} {i : Int} {d : D} (r : Reps K H ds vs S) (h : atI ds i = some d) : ∃ v T, atI vs i = some v ∧ Rep K H d v T := by
  unfold atI at h ⊢
  rw [← r.length]
  cases e : ixN ds.length i with
  | none => rw [e] at h; cases h
  | some j =>
    rw [e] at h
    obtain ⟨v, T, e1, e2, _⟩ := r.get (show ds[j]? = some d from h)
    exact ⟨v, T, e1, e2⟩
/-- x[i]: nothing changes, the item is some part -/
def rIdxD (K : PySem.W.Frag) : R2 := fun x y H Q => ∃ d e z S T, Rep K H d x S ∧ Rep K H e y T ∧ idxS d e = some z ∧ ∀ w S', Rep K H z w S' → Q w H
theorem ix_any (hu : X.A.units + 1 < cLine) : IxR X (rIdxD X.K) := by
  intro value slice pins s σ H x y v u Q I rx ry h hs
  obtain ⟨d, e, z, S, T, r1, r2, hz, k⟩ := h
  cases d with
  | tup xs =>
    cases e with
    | int i =>
      obtain ⟨_, a, vs, rfl, q, r⟩ := r1
      obtain ⟨w, T', e1, e2⟩ := atI_rep r hz
      exact ix_tup value slice pins s σ H (.ref a) y v u Q I rx ry ⟨a, vs, i, w, rfl, r2.1, q, e1, k w T' e2⟩ hs
    | _ => cases hz
  | lst o xs =>
    cases e with
    | int i =>
      obtain ⟨a, vs, T1, rfl, q, r, _⟩ := lst_sq r1
      obtain ⟨w, T', e1, e2⟩ := atI_rep r hz
      exact ix_list value slice pins s σ H (.ref a) y v u Q I rx ry ⟨a, vs, i, w, rfl, r2.1, .inl q, e1, k w T' e2⟩ hs
    | _ => cases hz
  | scr ns =>
    cases e with
    | int i =>
      obtain ⟨_, a, rfl, q⟩ := r1
      change (match atI ns i with | some n => some (D.int n) | none => none) = some z at hz
      cases hn : atI ns i with
      | none => rw [hn] at hz; cases hz
      | some n =>
        rw [hn] at hz
        cases hz
        have e1 : atI (ns.map V.int) i = some (.int n) := by
          unfold atI at hn ⊢
          rw [List.length_map]
          cases e : ixN ns.length i with
          | none => rw [e] at hn; cases hn
          | some j =>
            rw [e] at hn
            show (ns.map V.int)[j]? = some (V.int n)
            rw [List.getElem?_map, show ns[j]? = some n from hn]
            rfl
        exact ix_list value slice pins s σ H (.ref a) y v u Q I rx ry ⟨a, _, i, _, rfl, r2.1, q.sq, e1, k _ [] ⟨rfl, rfl⟩⟩ hs
    | _ => cases hz
  | str a =>
    cases e with
    | int i =>
      change (if a.length ≤ lim then (match atI a.cps.toList i with | some c => some (D.str ⟨#[c]⟩) | none => none) else none) = some z at hz
      split at hz
      · rename_i hc
        cases e1 : atI a.cps.toList i with
        | none => rw [e1] at hz; cases hz
        | some c =>
          rw [e1] at hz
          cases hz
          exact ix_str value slice pins s σ H x y v u Q I rx ry ⟨a, i, c, r1.1, r2.1, by rw [← lim_eq]; exact hc, e1, k _ [] ⟨rfl, rfl⟩⟩ hs
      · cases hz
    | _ => cases hz
  | dk o ks vs =>
    change (match keyD e with | some k => look k ks vs | none => none) = some z at hz
    cases hk : keyD e with
    | none => rw [hk] at hz; cases hz
    | some key =>
      rw [hk] at hz
      have ey := keyD_some hk r2
      obtain ⟨a, ws, T', rfl, q, l, r, _⟩ := dk_rd' r1
      cases rx
      obtain ⟨w, T1, e1, e2⟩ := (look_val key r l).1 z hz
      have g : DGet H a y (some w) := .inl ⟨_, key, q, ey, e1.symm⟩
      exact PyProof.Rows.tail_any (dict_typeIs I g) PySem.F.slot_dict_getitem.lookup (d_getItem hu I g ry fun w' s3 I3 rw' => ⟨w, H, I3, rw', k w T1 e2⟩) hs
  | _ => cases e <;> cases hz
end
end Ly

namespace Ly
open PySem PySem.Spec L2
variable [Fns]
section
variable {X : Cx} {C : Cfg} {W : WX} {pos : Pos}

/-- reading a name -/
theorem var_at {K : PySem.W.Frag} {H : Hp} {ρ : Ev} {σ : St} {SV : List Addr} {i : Nat} {d : D} (hv : Vars K H ρ σ SV) (h : getV ρ i = some d) : ∃ v S R, σ[i]? = some (some v) ∧ Rep K H d v S ∧ Foc K H ρ σ SV i S R := by
  obtain ⟨e, hi⟩ := getV_some h
  obtain ⟨S, R, f⟩ := hv.foc i hi
  obtain ⟨v, e1, e2⟩ := f.here d e
  exact ⟨v, S, R, e1, e2, f⟩
theorem se_var {i : Nat} {x : Str} (hN : X.N[i]? = some x) (hv : Vis X.env.scope x) (hd : (x == ("__debug__" : Str)) = false) (hcd : (x == ("__classdict__" : Str)) = false) : PE X (.Name x pos) (tD C W (.var i)) := by
  refine pemono (pe_var hN hv hd hcd) fun σ H Q h => ?_
  obtain ⟨ρ, SV, hv, nd, h⟩ := h
  obtain ⟨d, hd, h⟩ := tK_lift (show tK C W σ SV H (RD C.K SV H ρ false true) (liftO (getV ρ i) ρ) Q from h)
  obtain ⟨v, S, R, e1, e2, f⟩ := var_at hv hd
  exact ⟨v, e1, h v H SV (.refl hv nd) ⟨⟨S, e2, (fun z => nomatch z), (fun z => nomatch z)⟩, fun _ => ⟨rfl, rfl, .refl⟩⟩⟩
/-- a constant -/
theorem tD_cst {d : D} {v : V} {e : E} {σ : St} {H : Hp} {Q : VK} (he : ∀ ρ, ev e ρ = .ok d ρ) (ho : own e = true) (hr : ∀ H, Rep C.K H d v []) (h : tD C W e σ H Q) : Q v H := by
  obtain ⟨ρ, SV, hv, nd, h⟩ := h
  rw [he] at h
  exact h v H SV (.refl hv nd) ⟨⟨[], hr H, (fun _ a ha => absurd ha List.not_mem_nil), (fun _ => nd)⟩, fun _ => ⟨rfl, rfl, .refl⟩⟩
theorem se_int {i : Int} {j : Nat} : PE X (.Constant (.int i) j pos) (tD C W (.cst (.int i))) := pemono pe_int fun _ _ _ h => tD_cst (d := .int i) (fun _ => rfl) rfl (fun _ => ⟨rfl, rfl⟩) h
theorem se_bl {i : Bool} {j : Nat} : PE X (.Constant (.bool i) j pos) (tD C W (.cst (.bl i))) := pemono pe_bl fun _ _ _ h => tD_cst (d := .bl i) (fun _ => rfl) rfl (fun _ => ⟨rfl, rfl⟩) h
theorem se_non {j : Nat} : PE X (.Constant .none j pos) (tD C W (.cst .non)) := pemono pe_non fun _ _ _ h => tD_cst (d := .non) (fun _ => rfl) rfl (fun _ => ⟨rfl, rfl⟩) h
theorem se_str {x : Str} {j : Nat} : PE X (.Constant (.str x) j pos) (tD C W (.cst (.str x))) := pemono pe_str fun _ _ _ h => tD_cst (d := .str x) (fun _ => rfl) rfl (fun _ => ⟨rfl, rfl⟩) h
theorem se_glo {x : Str} {k : Nat} {v : V} {u : Value} (hg : Gl X x) (hm : X.mg x = some u) (r : RelV v u) (hr : ∀ H, Rep C.K H (Fns.G k) v []) (hd : (x == ("__debug__" : Str)) = false) : PE X (.Name x pos) (tD C W (.glo k)) :=
  pemono (pe_glob hg hm r hd) fun _ _ _ h => tD_cst (d := Fns.G k) (fun _ => rfl) rfl hr h

/-! ### freezing -/
theorem upd_none' {H : Hp} {a b : Addr} {o : HO} (h : H a = none) (hb : H b ≠ none) : upd H b o a = none := by
  rw [upd_ne (fun e => hb (by rw [← e]; exact h))]
  exact h
/-- H' is H with what lies at S given up -/
def Fz (S : List Addr) (H H' : Hp) : Prop := Ext S H H' ∧ ∀ a, H a = none → H' a = none
theorem Fz.refl {S : List Addr} {H : Hp} : Fz S H H := ⟨.refl, fun _ h => h⟩
theorem lock_fz {pins : List (Addr × Obj)} {σ : St} {H : Hp} {s : Shared} {a : Addr} {u : HO} (I : Inv X pins σ H s) (h : H a = some u) (m : Mb u) : ∃ od, Inv X pins σ (upd H a (.frz od u)) s ∧ Fz [a] H (upd H a (.frz od u)) := by
  have mu : Mut (some u) := by cases u <;> first | exact True.intro | exact m.elim
  obtain ⟨od, I1⟩ := I.lock h mu
  refine ⟨od, I1, fun b o e hb => ?_, fun b hb => upd_none' hb (by rw [h]; simp)⟩
  rw [upd_ne (fun e => hb (by simp [e]))]
  exact e
theorem Fz.trans {S T : List Addr} {H H1 H2 : Hp} (f : Fz S H H1) (g : Fz T H1 H2) : Fz (S ++ T) H H2 :=
  ⟨fun a o e h => g.1 a o (f.1 a o e fun z => h (List.mem_append_left _ z)) fun z => h (List.mem_append_right _ z), fun a h => g.2 a (f.2 a h)⟩
theorem Fz.kp {S T : List Addr} {K : PySem.W.Frag} {H H' : Hp} (f : Fz S H H') (ow : Owns H S) (d : ∀ a ∈ T, a ∉ S) : Kp T H H' := f.1.kp ow d
theorem Fz.sub {S T : List Addr} {H H' : Hp} (f : Fz S H H') (h : ∀ a ∈ S, a ∈ T) : Fz T H H' := ⟨fun a o e hn => f.1 a o e fun z => hn (h a z), f.2⟩
theorem own1 {H : Hp} {a : Addr} {o : HO} (h : H a = some o) (m : Mb o) : Owns H [a] := fun b hb => by
  have e : b = a := by simpa using hb
  rw [e]
  exact ⟨o, h, m⟩
mutual
theorem frz_rep {pins : List (Addr × Obj)} {σ : St} {s : Shared} : ∀ (d : D) {H : Hp} {v : V} {S : List Addr}, Inv X pins σ H s → Rep X.K H d v S → S.Nodup → ∃ H', Inv X pins σ H' s ∧ Rep X.K H' (fzD d) v [] ∧ Fz S H H'
  | .non, H, v, S, I, r, _ => by obtain ⟨rfl, rfl⟩ := r; exact ⟨H, I, ⟨rfl, rfl⟩, .refl⟩
  | .bl b, H, v, S, I, r, _ => by obtain ⟨rfl, rfl⟩ := r; exact ⟨H, I, ⟨rfl, rfl⟩, .refl⟩
  | .int b, H, v, S, I, r, _ => by obtain ⟨rfl, rfl⟩ := r; exact ⟨H, I, ⟨rfl, rfl⟩, .refl⟩
  | .str b, H, v, S, I, r, _ => by obtain ⟨rfl, rfl⟩ := r; exact ⟨H, I, ⟨rfl, rfl⟩, .refl⟩
  | .tup ds, H, v, S, I, r, _ => by obtain ⟨rfl, r⟩ := r; exact ⟨H, I, ⟨rfl, r⟩, .refl⟩
  | .lst false ds, H, v, S, I, r, _ => by obtain ⟨rfl, r⟩ := r; exact ⟨H, I, ⟨rfl, r⟩, .refl⟩
  | .dk false ks ds, H, v, S, I, r, _ => by obtain ⟨rfl, r⟩ := r; exact ⟨H, I, ⟨rfl, r⟩, .refl⟩
  | .dt false ks ds, H, v, S, I, r, _ => by obtain ⟨rfl, r⟩ := r; exact ⟨H, I, ⟨rfl, r⟩, .refl⟩
  | .lst true ds, H, v, S, I, r, nd => by
    obtain ⟨a, vs, S', rfl, q, r, rfl⟩ := r
    obtain ⟨na, nd'⟩ := List.nodup_cons.mp nd
    obtain ⟨H1, I1, r1, f1⟩ := frz_reps ds I r nd'
    obtain ⟨od, I2, f2⟩ := lock_fz I1 (f1.1 a _ q na) (show Mb (.lst vs) from True.intro)
    refine ⟨_, I2, ⟨rfl, a, vs, rfl, ⟨od, upd_same⟩, r1.kp _ (f2.1.kp (own1 (f1.1 a _ q na) (show Mb (.lst vs) from True.intro)) fun b hb => absurd hb List.not_mem_nil)⟩, (f1.trans f2).sub fun b hb => ?_⟩
    rcases List.mem_append.mp hb with h | h
    · exact List.mem_cons_of_mem _ h
    · rw [show b = a by simpa using h]; exact List.mem_cons_self
  | .dk true ks ds, H, v, S, I, r, nd => by
    obtain ⟨a, vs, S', rfl, q, l, r, rfl⟩ := r
    obtain ⟨na, nd'⟩ := List.nodup_cons.mp nd
    obtain ⟨H1, I1, r1, f1⟩ := frz_reps ds I r nd'
    obtain ⟨od, I2, f2⟩ := lock_fz I1 (f1.1 a _ q na) (show Mb (.dK (ks.zip vs)) from True.intro)
    refine ⟨_, I2, ⟨rfl, a, vs, od, rfl, upd_same, l, r1.kp _ (f2.1.kp (own1 (f1.1 a _ q na) (show Mb (.dK (ks.zip vs)) from True.intro)) fun b hb => absurd hb List.not_mem_nil)⟩, (f1.trans f2).sub fun b hb => ?_⟩
    rcases List.mem_append.mp hb with h | h
    · exact List.mem_cons_of_mem _ h
    · rw [show b = a by simpa using h]; exact List.mem_cons_self
  | .dt true ks ds, H, v, S, I, r, nd => by
    obtain ⟨a, vs, S', rfl, q, l, r, rfl⟩ := r
    obtain ⟨na, nd'⟩ := List.nodup_cons.mp nd
    obtain ⟨H1, I1, r1, f1⟩ := frz_reps ds I r nd'
    obtain ⟨od, I2, f2⟩ := lock_fz I1 (f1.1 a _ q na) (show Mb (.dT (ks.zip vs)) from True.intro)
    refine ⟨_, I2, ⟨rfl, a, vs, od, rfl, upd_same, l, r1.kp _ (f2.1.kp (own1 (f1.1 a _ q na) (show Mb (.dT (ks.zip vs)) from True.intro)) fun b hb => absurd hb List.not_mem_nil)⟩, (f1.trans f2).sub fun b hb => ?_⟩
    rcases List.mem_append.mp hb with h | h
    · exact List.mem_cons_of_mem _ h
    · rw [show b = a by simpa using h]; exact List.mem_cons_self
  | .exc _ _, _, _, _, _, r, _ => r.elim
  | .scr _, H, v, S, I, r, _ => by obtain ⟨rfl, r⟩ := r; exact ⟨H, I, ⟨rfl, r⟩, .refl⟩
theorem frz_reps {pins : List (Addr × Obj)} {σ : St} {s : Shared} : ∀ (ds : List D) {H : Hp} {vs : List V} {S : List Addr}, Inv X pins σ H s → Reps X.K H ds vs S → S.Nodup → ∃ H', Inv X pins σ H' s ∧ Reps X.K H' (fzDs ds) vs [] ∧ Fz S H H'
  | [], H, vs, S, I, r, _ => by obtain ⟨rfl, rfl⟩ := r; exact ⟨H, I, ⟨rfl, rfl⟩, .refl⟩
  | d :: ds, H, _, _, I, r, nd => by
    obtain ⟨v, vs, S1, S2, rfl, q1, q2, rfl⟩ := r
    obtain ⟨n1, n2, n3⟩ := List.nodup_append.mp nd
    obtain ⟨H1, I1, r1, f1⟩ := frz_rep d I q1 n1
    have q2' : Reps X.K H1 ds vs S2 := q2.kp ds (f1.1.kp (q1.owns d) fun a ha hb => n3 a hb a ha rfl)
    obtain ⟨H2, I2, r2, f2⟩ := frz_reps ds I1 q2' n2
    exact ⟨H2, I2, Reps.cons (S1 := []) (S2 := []) (r1.kp _ (f2.1.kp (q2'.owns ds) fun a ha => absurd ha List.not_mem_nil)) r2, f1.trans f2⟩
end
/-- behind giving up S, which is no name's -/
theorem EnvP.fz {K : PySem.W.Frag} {SV SV1 S : List Addr} {H H1 H2 : Hp} {σ : St} {ρ : Ev} (e : EnvP K SV H σ ρ H1 SV1) (ow : Owns H1 S) (nd : (S ++ SV1).Nodup) (src : ∀ a ∈ S, a ∈ SV ∨ H a = none) (f : Fz S H1 H2) : EnvP K SV H σ ρ H2 SV1 := by
  have dis : ∀ a ∈ SV1, a ∉ S := fun a ha hb => (List.nodup_append.mp nd).2.2 a hb a ha rfl
  refine ⟨e.vars.kp (f.1.kp ow dis), e.nd, e.src, fun a o h hs => f.1 a o (e.ext a o h hs) fun z => ?_⟩
  rcases src a z with q | q
  · exact hs q
  · rw [h] at q; cases q
theorem fz_frz (d : D) : frzD (fzD d) = true := by
  cases d with
  | lst o _ => cases o <;> rfl
  | dk o _ _ => cases o <;> rfl
  | dt o _ _ => cases o <;> rfl
  | _ => rfl
theorem se_fz {e : Expr} {a : E} (hK : X.K = C.K) (ho : own a = true) (ha : PE X e (tD C W a)) : PE X e (tD C W (.fz a)) := by
  refine ⟨fun pins s σ H Q I h => ?_⟩
  obtain ⟨ρ, SV, hv, nd, h⟩ := h
  have h : tK C W σ SV H (RD C.K SV H ρ true false) ((ev a ρ).bind fun d ρ => .ok (fzD d) ρ) Q := h
  refine thn (ha.run pins s σ H (fun v H1 => ∃ d S, Rep X.K H1 d v S ∧ S.Nodup ∧ ∀ H2, Rep X.K H2 (fzD d) v [] → Fz S H1 H2 → Q v H2) I ⟨ρ, SV, hv, nd, tK_bind0 h fun d ρ1 v H1 SV1 e1 ⟨⟨S, r1⟩, _⟩ h1 => ?_⟩) fun u s1 ⟨v, H1, I1, rv, d, S, r, n, k⟩ => ?_
  · refine ⟨d, S, by rw [hK]; exact r1.rep, (List.nodup_append.mp (r1.sep ho)).1, fun H2 r2 f => ?_⟩
    have e2 : EnvP C.K SV H σ ρ1 H2 SV1 := e1.fz (r1.rep.owns d) (r1.sep ho) (r1.src ho) f
    exact h1 v H2 SV1 e2 ⟨⟨[], by rw [← hK]; exact r2, (fun _ a ha => absurd ha List.not_mem_nil), (fun _ => e1.nd)⟩, (fun z => nomatch z)⟩
  · obtain ⟨H2, I2, r2, f⟩ := frz_rep d I1 r n
    exact ⟨v, H2, I2, rv, k H2 r2 f⟩
theorem se_ck {e : Expr} {a : E} (ha : PE X e (tD C W a)) : PE X e (tD C W (.ck a)) := by
  refine pemono ha fun σ H Q h => ?_
  obtain ⟨ρ, SV, hv, nd, h⟩ := h
  have h : tK C W σ SV H (RD C.K SV H ρ true (quiet a)) ((ev a ρ).bind fun d ρ => if frzD d = true then .ok d ρ else .bad) Q := h
  refine ⟨ρ, SV, hv, nd, tK_bind0 h fun d ρ1 v H1 SV1 e1 ⟨⟨S, r1⟩, q1⟩ h1 => ?_⟩
  by_cases hf : frzD d = true
  · rw [if_pos hf] at h1
    have := r1.rep.frz hf
    subst this
    exact h1 v H1 SV1 e1 ⟨⟨[], r1.rep, (fun _ a ha => absurd ha List.not_mem_nil), (fun _ => e1.nd)⟩, q1⟩
  · rw [if_neg hf] at h1
    exact h1.elim
/-- a name given up -/
theorem se_mv {i : Nat} {x : Str} (hK : X.K = C.K) (hN : X.N[i]? = some x) (hv : Vis X.env.scope x) (hd : (x == ("__debug__" : Str)) = false) (hcd : (x == ("__classdict__" : Str)) = false) : PE X (.Name x pos) (tD C W (.mv i)) := by
  refine ⟨fun pins s σ H Q I h => ?_⟩
  obtain ⟨ρ, SV, hv', nd, h⟩ := h
  cases hg : getV ρ i with
  | none =>
    have h : tK C W σ SV H (RD C.K SV H ρ true false) (match getV ρ i with | some d => .ok (fzD d) (ρ.set i (some (fzD d))) | none => .bad) Q := h
    rw [hg] at h
    exact h.elim
  | some d =>
    have h : tK C W σ SV H (RD C.K SV H ρ true false) (match getV ρ i with | some d => .ok (fzD d) (ρ.set i (some (fzD d))) | none => .bad) Q := h
    rw [hg] at h
    obtain ⟨v, S, R, e1, e2, f⟩ := var_at hv' hg
    have ndp : (S ++ R).Nodup := f.perm.nodup_iff.mp nd
    refine thn ((pe_var hN hv hd hcd).run pins s σ H (fun w H1 => w = v ∧ H1 = H) I ⟨v, e1, rfl, rfl⟩) fun u s1 ⟨w, H1, I1, rv, ew, eH⟩ => ?_
    subst ew eH
    obtain ⟨H2, I2, r2, fz⟩ := frz_rep d I1 (by rw [hK]; exact e2) (List.nodup_append.mp ndp).1
    refine ⟨w, H2, I2, rv, ?_⟩
    have ow : Owns H1 S := e2.owns d
    have kR : Kp R H1 H2 := Fz.kp (K := C.K) fz ow fun a ha hb => (List.nodup_append.mp ndp).2.2 a hb a ha rfl
    rw [hK] at r2
    obtain ⟨SV', v1, p1⟩ := f.set H2 (fzD d) w [] kR r2
    rw [set_same e1] at v1
    have mem : ∀ a, a ∈ SV' → a ∈ SV := fun a ha => f.perm.mem_iff.mpr (List.mem_append_right _ (p1.mem_iff.mp ha))
    refine h w H2 SV' ⟨v1, p1.nodup_iff.mpr (List.nodup_append.mp ndp).2.1, fun a ha => .inl (mem a ha), fun a o e hs => fz.1 a o e fun z => hs (f.perm.mem_iff.mpr (List.mem_append_left _ z))⟩
      ⟨⟨[], r2, (fun _ a ha => absurd ha List.not_mem_nil), (fun _ => p1.nodup_iff.mpr (List.nodup_append.mp ndp).2.1)⟩, (fun z => nomatch z)⟩
theorem se_mvo {i : Nat} {x : Str} (hN : X.N[i]? = some x) (hv : Vis X.env.scope x) (hd : (x == ("__debug__" : Str)) = false) (hcd : (x == ("__classdict__" : Str)) = false) : PE X (.Name x pos) (tD C W (.mvo i)) := by
  refine pemono (pe_var hN hv hd hcd) fun σ H Q h => ?_
  obtain ⟨ρ, SV, hv', nd, h⟩ := h
  have h : tK C W σ SV H (RD C.K SV H ρ true false) (match getV ρ i with | some d => .ok d (ρ.set i none) | none => .bad) Q := h
  cases hg : getV ρ i with
  | none => rw [hg] at h; exact h.elim
  | some d =>
    rw [hg] at h
    obtain ⟨v, S, R, e1, e2, f⟩ := var_at hv' hg
    have ndp : (S ++ R).Nodup := f.perm.nodup_iff.mp nd
    obtain ⟨SV', v1, p1⟩ := f.out H σ .refl (fun _ _ => rfl) rfl
    refine ⟨v, e1, h v H SV' ⟨v1, p1.nodup_iff.mpr (List.nodup_append.mp ndp).2.1, fun a ha => .inl (f.perm.mem_iff.mpr (List.mem_append_right _ (p1.mem_iff.mp ha))), .refl⟩
      ⟨⟨S, e2, (fun _ a ha => .inl (f.perm.mem_iff.mpr (List.mem_append_left _ ha))), (fun _ => (p1.append_left S).nodup_iff.mpr ndp)⟩, (fun z => nomatch z)⟩⟩
end
end Ly

namespace Ly
open PySem PySem.Spec L2
variable [Fns]
section
variable {X : Cx} {C : Cfg} {W : WX} {pos : Pos} {a b c : Expr} {a' b' c' : E}
theorem se_bin' {op : Operator} {o : O2} (hK : X.K = C.K) (ho : OpR X (binaryOp op) (rD X.K o.sem)) (ha : PE X a (tD C W a')) (hb : PE X b (tD C W b')) (hop : own (.o2 o a' b') = true) (hs : (own a' || quiet b') = true) :
    PE X (.BinOp a op b pos) (tD C W (.o2 o a' b')) := se_bin (by rw [← hK]; exact ho) ha hb hop hs
theorem se_cmp {op : CmpOp} {o : O2} (hK : X.K = C.K) (ho : OpR X (compareOp op) (rD X.K o.sem)) (ha : PE X a (tD C W a')) (hb : PE X b (tD C W b')) (hop : own (.o2 o a' b') = true) (hs : (own a' || quiet b') = true) (hm : behindInMarks op b = false) :
    PE X (.Compare a [op] [b] pos) (tD C W (.o2 o a' b')) := pemono (pe_cmpR (by rw [← hK]; exact ho) ha hb hm) fun _ _ _ h => tD_o2 hop hs h
theorem se_idx (hK : X.K = C.K) (hu : X.A.units + 1 < cLine) (ha : PE X a (tD C W a')) (hb : PE X b (tD C W b')) (hs : (own a' || quiet b') = true) (hp : PlainIx b) : PE X (.Subscript a b pos) (tD C W (.o2 .idx a' b')) := by
  refine pemono (pe_ix (by rw [← hK]; exact ix_any hu : IxR X (rIdxD C.K)) ha hb hp) fun σ H Q h => ?_
  obtain ⟨ρ, SV, hv, nd, h⟩ := h
  have h : tK C W σ SV H (RD C.K SV H ρ false (quiet a' && quiet b')) ((ev a' ρ).bind fun x ρ => (ev b' ρ).bind fun y ρ => liftO (idxS x y) ρ) Q := h
  refine ⟨ρ, SV, hv, nd, tK_bind h fun d ρ1 v H1 SV1 e1 r1 h1 => ⟨ρ1, SV1, e1.vars, e1.nd, tK_bind h1 fun e ρ2 u H2 SV2 e2 r2 h2 => ?_⟩⟩
  obtain ⟨z, hz, h2⟩ := tK_lift h2
  obtain ⟨⟨S, r1⟩, q1⟩ := r1
  obtain ⟨⟨T, r2⟩, q2⟩ := r2
  have hs' : own a' = true ∨ quiet b' = true := by simpa using hs
  obtain ⟨rep1, sep1⟩ := r1.carry e2 e1 q2 hs'
  refine ⟨d, e, z, S, T, rep1, r2.rep, hz, fun w S' rep => ?_⟩
  have en : EnvP C.K SV2 H2 σ ρ2 H2 SV2 := .refl e2.vars e2.nd
  refine h2 w H2 SV2 en ⟨e2.trans en, (e1.trans e2).trans en, ⟨S', rep, (fun z => nomatch z), (fun z => nomatch z)⟩, fun q => ?_⟩
  rw [Bool.and_eq_true] at q
  exact (q1 q.1).trans (q2 q.2)

/-! ### one value -/
def rD1 (K : PySem.W.Frag) (g : D → Option D) : V → Hp → VK → Prop := fun x H Q => ∃ d z S, Rep K H d x S ∧ g d = some z ∧ ∀ w H' S', Ext [] H H' → Rep K H' z w S' → S'.Nodup → (∀ a ∈ S', H a = none) → Q w H'
theorem tD_o1 {o : O1} {σ : St} {H : Hp} {Q : VK} (h : tD C W (.o1 o a') σ H Q) : tUn (rD1 C.K o.sem) (tD C W a') σ H Q := by
  obtain ⟨ρ, SV, hv, nd, h⟩ := h
  have h : tK C W σ SV H (RD C.K SV H ρ true (quiet a')) ((ev a' ρ).bind fun x ρ => liftO (o.sem x) ρ) Q := h
  refine ⟨ρ, SV, hv, nd, tK_bind h fun d ρ1 v H1 SV1 e1 r1 h1 => ?_⟩
  obtain ⟨z, hz, h1⟩ := tK_lift h1
  obtain ⟨⟨S, r1⟩, q1⟩ := r1
  refine ⟨d, z, S, r1.rep, hz, fun w H' S' x rep nd' new => ?_⟩
  have en := e1.ext0 x
  obtain ⟨f1, f2⟩ := fresh_sep e1 nd' new
  exact h1 w H' SV1 en ⟨e1.trans en, ⟨S', rep, (fun _ => f1), (fun _ => f2)⟩, fun q => (q1 q).ext x⟩
theorem un_neg' : UnR X (unaryOp .USub) (rD1 X.K O1.neg.sem) := by
  intro pins s σ H x v Q I rx h
  obtain ⟨d, z, S, r1, hz, k⟩ := h
  cases d with
  | int i =>
    cases hz
    exact un_neg pins s σ H x v Q I rx ⟨i, r1.1, kInt k⟩
  | _ => cases hz
theorem se_neg (hK : X.K = C.K) (ha : PE X a (tD C W a')) : PE X (.UnaryOp .USub a pos) (tD C W (.o1 .neg a')) := pemono (pe_un (by rw [← hK]; exact un_neg' : UnR X (unaryOp .USub) (rD1 C.K O1.neg.sem)) ha) fun _ _ _ h => tD_o1 h
/-- truth by data -/
theorem tru_rep {K : PySem.W.Frag} {H : Hp} {d : D} {x : V} {S : List Addr} {k : Bool} (r : Rep K H d x S) (h : truth d = some k) : TruV K x H k := by
  cases d with
  | non => cases h; rw [r.1]; rfl
  | bl b => cases h; rw [r.1]; rfl
  | int i => cases h; rw [r.1]; rfl
  | str y =>
    rw [r.1]
    change (if y.length ≤ lim then some (y.length != 0) else none) = some k at h
    split at h
    · rename_i hc
      cases h
      refine ⟨by rw [← lim_eq]; exact hc, ?_⟩
      cases y.length <;> rfl
    · cases h
  | tup ds =>
    cases h
    obtain ⟨_, a, vs, rfl, q, r⟩ := r
    refine .inr (.inl ⟨vs, q, ?_⟩)
    have := r.length
    cases ds <;> cases vs <;> first | rfl | simp at this
  | lst o ds =>
    cases h
    obtain ⟨a, vs, T, rfl, q, r, _⟩ := lst_sq r
    refine .inl ⟨vs, .inl q, ?_⟩
    have := r.length
    cases ds <;> cases vs <;> first | rfl | simp at this
  | dk o ks ds =>
    cases o with
    | false => cases h
    | true =>
      cases h
      obtain ⟨a, vs, S', rfl, q, l, r, _⟩ := r
      refine .inr (.inr ⟨_, q, ?_⟩)
      cases ks <;> cases vs <;> first | rfl | simp at l
  | _ => cases h
/-- not x -/
theorem se_not (hK : X.K = C.K) (ha : PE X a (tD C W a')) : PE X (.UnaryOp .Not a pos) (tD C W (.o1 .notO a')) := by
  refine pemono (pe_notT ha) fun σ H Q h => ?_
  obtain ⟨ρ, SV, hv, nd, h⟩ := tD_o1 h
  refine ⟨ρ, SV, hv, nd, ?_⟩
  cases m : ev a' ρ with
  | bad => rw [m] at h; exact h
  | exc x ρ' => rw [m] at h; exact h
  | ok d ρ1 =>
    rw [m] at h
    intro v H1 SV1 e1 r1
    obtain ⟨d, z, S, r, hz, k⟩ := h v H1 SV1 e1 r1
    change (match truth d with | some b => some (D.bl (!b)) | none => none) = some z at hz
    cases ht : truth d with
    | none => rw [ht] at hz; cases hz
    | some t =>
      rw [ht] at hz
      cases hz
      exact ⟨t, by rw [hK]; exact tru_rep r ht, kBl k⟩
/-- x and y, x or y, by truth -/
theorem qt_and {SV SV1 SV2 : List Addr} {H H1 H2 : Hp} {ρ ρ1 ρ2 : Ev} {p q : Bool} (h1 : p = true → Qt SV H ρ ρ1 H1 SV1) (h2 : q = true → Qt SV1 H1 ρ1 ρ2 H2 SV2) : (p && q) = true → Qt SV H ρ ρ2 H2 SV2 := fun h => by
  rw [Bool.and_eq_true] at h
  exact (h1 h.1).trans (h2 h.2)
/-- the value of a second part is the value of the whole -/
theorem RD.next {K : PySem.W.Frag} {SV SV1 SV2 : List Addr} {H H1 H2 : Hp} {σ : St} {ρ ρ1 ρ2 : Ev} {o o' p q : Bool} {d : D} {v : V} (e1 : EnvP K SV H σ ρ1 H1 SV1) (h1 : p = true → Qt SV H ρ ρ1 H1 SV1) (r : RD K SV1 H1 ρ1 o q d ρ2 SV2 H2 v) (ho : o' = true → o = true) (q' : Bool) (hq : q' = true → p = true ∧ q = true) : RD K SV H ρ o' q' d ρ2 SV2 H2 v := by
  obtain ⟨⟨S, r⟩, r2⟩ := r
  exact ⟨⟨S, r.rep, (fun z => src_trans e1 (r.src (ho z))), (fun z => r.sep (ho z))⟩, fun z => (h1 (hq z).1).trans (r2 (hq z).2)⟩
theorem tK_next {σ : St} {SV SV1 : List Addr} {H H1 : Hp} {ρ ρ1 : Ev} {o o' p q q' : Bool} {m : Out D} {Q : VK} (e1 : EnvP C.K SV H σ ρ1 H1 SV1) (h1 : p = true → Qt SV H ρ ρ1 H1 SV1) (ho : o' = true → o = true) (hq : q' = true → p = true ∧ q = true)
    (h : tK C W σ SV1 H1 (fun z ρ2 SV2 H2 w => EnvP C.K SV H σ ρ2 H2 SV2 ∧ RD C.K SV H ρ o' q' z ρ2 SV2 H2 w) m Q) : tK C W σ SV1 H1 (RD C.K SV1 H1 ρ1 o q) m Q := by
  cases m with
  | bad => exact h
  | exc x ρ' => exact h
  | ok d ρ2 => exact fun v H2 SV2 e2 r2 => h v H2 SV2 e2 ⟨e1.trans e2, r2.next e1 h1 ho q' hq⟩
theorem se_and {rest : List Expr} (hK : X.K = C.K) (ha : PE X a (tD C W a')) (hb : PE X (.BoolOp .And (b :: rest) pos) (tD C W b')) : PE X (.BoolOp .And (a :: b :: rest) pos) (tD C W (.and a' b')) := by
  refine pemono (pe_andT ha hb) fun σ H Q h => ?_
  obtain ⟨ρ, SV, hv, nd, h⟩ := h
  have h : tK C W σ SV H (RD C.K SV H ρ (own a' && own b') (quiet a' && quiet b')) ((ev a' ρ).bind fun x ρ => (match truth x with | some true => ev b' ρ | some false => .ok x ρ | none => .bad)) Q := h
  refine ⟨ρ, SV, hv, nd, tK_bind h fun d ρ1 v H1 SV1 e1 ⟨⟨S, r1⟩, q1⟩ h1 => ?_⟩
  cases ht : truth d with
  | none => rw [ht] at h1; exact h1.elim
  | some t =>
    rw [ht] at h1
    refine ⟨t, by rw [hK]; exact tru_rep r1.rep ht, ?_⟩
    cases t with
    | true =>
      rw [if_pos rfl]
      exact ⟨ρ1, SV1, e1.vars, e1.nd, tK_next e1 q1 (fun z => (Bool.and_eq_true_iff.mp z).2) (fun z => Bool.and_eq_true_iff.mp z) h1⟩
    | false =>
      rw [if_neg Bool.false_ne_true]
      exact h1 v H1 SV1 (.refl e1.vars e1.nd) ⟨e1, ⟨S, r1.rep, (fun z => r1.src (Bool.and_eq_true_iff.mp z).1), (fun z => r1.sep (Bool.and_eq_true_iff.mp z).1)⟩, fun z => q1 (Bool.and_eq_true_iff.mp z).1⟩
theorem se_or {rest : List Expr} (hK : X.K = C.K) (ha : PE X a (tD C W a')) (hb : PE X (.BoolOp .Or (b :: rest) pos) (tD C W b')) : PE X (.BoolOp .Or (a :: b :: rest) pos) (tD C W (.or a' b')) := by
  refine pemono (pe_orT ha hb) fun σ H Q h => ?_
  obtain ⟨ρ, SV, hv, nd, h⟩ := h
  have h : tK C W σ SV H (RD C.K SV H ρ (own a' && own b') (quiet a' && quiet b')) ((ev a' ρ).bind fun x ρ => (match truth x with | some true => .ok x ρ | some false => ev b' ρ | none => .bad)) Q := h
  refine ⟨ρ, SV, hv, nd, tK_bind h fun d ρ1 v H1 SV1 e1 ⟨⟨S, r1⟩, q1⟩ h1 => ?_⟩
  cases ht : truth d with
  | none => rw [ht] at h1; exact h1.elim
  | some t =>
    rw [ht] at h1
    refine ⟨t, by rw [hK]; exact tru_rep r1.rep ht, ?_⟩
    cases t with
    | false =>
      rw [if_neg Bool.false_ne_true]
      exact ⟨ρ1, SV1, e1.vars, e1.nd, tK_next e1 q1 (fun z => (Bool.and_eq_true_iff.mp z).2) (fun z => Bool.and_eq_true_iff.mp z) h1⟩
    | true =>
      rw [if_pos rfl]
      exact h1 v H1 SV1 (.refl e1.vars e1.nd) ⟨e1, ⟨S, r1.rep, (fun z => r1.src (Bool.and_eq_true_iff.mp z).1), (fun z => r1.sep (Bool.and_eq_true_iff.mp z).1)⟩, fun z => q1 (Bool.and_eq_true_iff.mp z).1⟩

/-! ### tests -/
def evT (e : E) (ρ : Ev) : Out Bool := (ev e ρ).bind fun d ρ => liftO (truth d) ρ
def RB (SV : List Addr) (H : Hp) (ρ : Ev) (q : Bool) (b : Bool) (ρ' : Ev) (SV' : List Addr) (H' : Hp) (v : Bool) : Prop := v = b ∧ (q = true → Qt SV H ρ ρ' H' SV')
def tT (C : Cfg) (W : WX) (e : E) : TT := fun σ H Q => ∃ ρ SV, Vars C.K H ρ σ SV ∧ SV.Nodup ∧ tK C W σ SV H (RB SV H ρ (quiet e)) (evT e ρ) Q
theorem st_truth (hK : X.K = C.K) (ha : PE X a (tD C W a')) (he : ∀ whole, isTrue a X.env whole = (do let v ← whole; standAt a.pos; holding [v] (truthy v))) : PT X a (tT C W a') := by
  refine ptmono (pt_truth ha he) fun σ H Q h => ?_
  obtain ⟨ρ, SV, hv, nd, h⟩ := h
  refine ⟨ρ, SV, hv, nd, tK_bind h fun d ρ1 v H1 SV1 e1 ⟨⟨S, r1⟩, q1⟩ h1 => ?_⟩
  obtain ⟨t, ht, h1⟩ := tK_lift h1
  exact ⟨t, by rw [hK]; exact tru_rep r1.rep ht, h1 t H1 SV1 (.refl e1.vars e1.nd) ⟨e1, rfl, q1⟩⟩
def isCmp : O2 → Bool
  | .eq => true
  | .ne => true
  | .lt => true
  | .le => true
  | .gt => true
  | .ge => true
  | .isN => true
  | .notN => true
  | .isIn => true
  | .notIn => true
  | _ => false
theorem inS_bl {d e z : D} (hz : inS d e = some z) : ∃ b, z = .bl b := by
  cases e with
  | tup xs => exact ⟨_, (inS_seq hz).2.2.2⟩
  | lst o xs => exact ⟨_, (inS_seq hz).2.2.2⟩
  | str y => cases d <;> first | (cases hz; exact ⟨_, rfl⟩) | cases hz
  | dk o ks vs =>
    change (match keyD d with | some k => some (D.bl (look k ks vs).isSome) | none => none) = some z at hz
    cases hk : keyD d with
    | none => rw [hk] at hz; cases hz
    | some k => rw [hk] at hz; cases hz; exact ⟨_, rfl⟩
  | _ => cases hz
theorem cmp_bl {o : O2} (h : isCmp o = true) {d e z : D} (hz : o.sem d e = some z) : ∃ b, z = .bl b := by
  cases o with
  | eq => exact ⟨_, (eqS_some hz).2.2.2⟩
  | ne =>
    obtain ⟨b, _, e⟩ := notS_some (show notS (eqS d e) = some z from hz)
    exact ⟨_, e⟩
  | lt =>
    have hz : ltS d e = some z := hz
    rcases ltS_in d e z hz with ⟨i, j, rfl, rfl⟩ | ⟨i, j, rfl, rfl⟩ <;> cases hz <;> exact ⟨_, rfl⟩
  | le => obtain ⟨_, _, _, _, e⟩ := I2_some hz; exact ⟨_, e⟩
  | gt =>
    have hz : gtS d e = some z := hz
    rcases gtS_in d e z hz with ⟨i, j, rfl, rfl⟩ | ⟨i, j, rfl, rfl⟩ <;> cases hz <;> exact ⟨_, rfl⟩
  | ge => obtain ⟨_, _, _, _, e⟩ := I2_some hz; exact ⟨_, e⟩
  | isN => rcases isS_some hz with ⟨_, h2⟩ | ⟨_, _, _, _, h2⟩ <;> exact ⟨_, h2⟩
  | notN =>
    obtain ⟨b, _, e⟩ := notS_some (show notS (isS d e) = some z from hz)
    exact ⟨_, e⟩
  | isIn => exact inS_bl hz
  | notIn =>
    obtain ⟨b, _, e⟩ := notS_some (show notS (inS d e) = some z from hz)
    exact ⟨_, e⟩
  | _ => cases h
theorem ev_o2_ok {o : O2} {a b : E} {ρ ρ1 : Ev} {d : D} (h : ev (.o2 o a b) ρ = .ok d ρ1) : ∃ x y, o.sem x y = some d := by
  have h : ((ev a ρ).bind fun x ρ => (ev b ρ).bind fun y ρ => liftO (o.sem x y) ρ) = .ok d ρ1 := h
  cases ha : ev a ρ with
  | bad => rw [ha] at h; cases h
  | exc x ρ' => rw [ha] at h; cases h
  | ok x ρ' =>
    rw [ha] at h
    have h : ((ev b ρ').bind fun y ρ => liftO (o.sem x y) ρ) = .ok d ρ1 := h
    cases hb : ev b ρ' with
    | bad => rw [hb] at h; cases h
    | exc x ρ' => rw [hb] at h; cases h
    | ok y ρ'' =>
      rw [hb] at h
      have h : liftO (o.sem x y) ρ'' = .ok d ρ1 := h
      cases hs : o.sem x y with
      | none => rw [hs] at h; cases h
      | some z => rw [hs] at h; cases h; exact ⟨x, y, hs⟩
theorem st_cmp {op : CmpOp} {o : O2} (hK : X.K = C.K) (hc : isCmp o = true) (ho : OpR X (compareOp op) (rD X.K o.sem)) (ha : PE X a (tD C W a')) (hb : PE X b (tD C W b')) (hs : (own a' || quiet b') = true) (hm : behindInMarks op b = false) :
    PT X (.Compare a [op] [b] pos) (tT C W (.o2 o a' b')) := by
  refine ptmono (pt_cmpR (by rw [← hK]; exact ho : OpR X (compareOp op) (rD C.K o.sem)) ha hb hm) fun σ H Q h => ?_
  obtain ⟨ρ, SV, hv, nd, h⟩ := h
  have hop : own (.o2 o a' b') = true := by cases o <;> first | rfl | cases hc
  refine tD_o2 hop hs ⟨ρ, SV, hv, nd, tK_bindE (R := RD C.K SV H ρ (own (.o2 o a' b')) (quiet (.o2 o a' b'))) h fun d ρ1 v H1 SV1 hm e1 ⟨⟨S, r1⟩, q1⟩ h1 => ?_⟩
  obtain ⟨x, y, hz⟩ := ev_o2_ok hm
  obtain ⟨b, rfl⟩ := cmp_bl hc hz
  have h1 : ∀ v H' SV', EnvP C.K SV H σ ρ1 H' SV' → RB SV H ρ (quiet (.o2 o a' b')) b ρ1 SV' H' v → Q v H' := h1
  exact ⟨b, r1.rep.1, h1 b H1 SV1 e1 ⟨rfl, q1⟩⟩
/-- tests joined -/
theorem evT_and {a b : E} {ρ : Ev} : evT (.and a b) ρ = (evT a ρ).bind fun c ρ => if c = true then evT b ρ else .ok false ρ := by
  have e : evT (.and a b) ρ = ((ev a ρ).bind fun x ρ => (match truth x with | some true => ev b ρ | some false => .ok x ρ | none => .bad)).bind fun d ρ => liftO (truth d) ρ := rfl
  rw [e]
  unfold evT
  cases ev a ρ with
  | bad => rfl
  | exc x ρ' => rfl
  | ok x ρ' =>
    show Out.bind (match truth x with | some true => ev b ρ' | some false => .ok x ρ' | none => .bad) _ = Out.bind (liftO (truth x) ρ') _
    cases ht : truth x with
    | none => rfl
    | some t =>
      cases t with
      | true => rfl
      | false => show liftO (truth x) ρ' = _; rw [ht]; rfl
theorem evT_or {a b : E} {ρ : Ev} : evT (.or a b) ρ = (evT a ρ).bind fun c ρ => if c = true then .ok true ρ else evT b ρ := by
  have e : evT (.or a b) ρ = ((ev a ρ).bind fun x ρ => (match truth x with | some true => .ok x ρ | some false => ev b ρ | none => .bad)).bind fun d ρ => liftO (truth d) ρ := rfl
  rw [e]
  unfold evT
  cases ev a ρ with
  | bad => rfl
  | exc x ρ' => rfl
  | ok x ρ' =>
    show Out.bind (match truth x with | some true => .ok x ρ' | some false => ev b ρ' | none => .bad) _ = Out.bind (liftO (truth x) ρ') _
    cases ht : truth x with
    | none => rfl
    | some t =>
      cases t with
      | true => show liftO (truth x) ρ' = _; rw [ht]; rfl
      | false => rfl
theorem evT_not {a : E} {ρ : Ev} : evT (.o1 .notO a) ρ = (evT a ρ).bind fun c ρ => .ok (!c) ρ := by
  have e : evT (.o1 .notO a) ρ = ((ev a ρ).bind fun x ρ => liftO (match truth x with | some b => some (D.bl (!b)) | none => none) ρ).bind fun d ρ => liftO (truth d) ρ := by
    unfold evT
    have e : ∀ x, O1.notO.sem x = (match truth x with | some b => some (D.bl (!b)) | none => none) := fun x => by cases x <;> rfl
    show ((ev a ρ).bind fun x ρ => liftO (O1.notO.sem x) ρ).bind _ = _
    simp only [e]
  rw [e]
  unfold evT
  cases ev a ρ with
  | bad => rfl
  | exc x ρ' => rfl
  | ok x ρ' =>
    show Out.bind (liftO (match truth x with | some b => some (D.bl (!b)) | none => none) ρ') _ = Out.bind (liftO (truth x) ρ') _
    cases truth x <;> rfl
theorem tKB_next {σ : St} {SV SV1 : List Addr} {H H1 : Hp} {ρ ρ1 : Ev} {p q q' : Bool} {m : Out Bool} {Q : Bool → Hp → Prop} (e1 : EnvP C.K SV H σ ρ1 H1 SV1) (h1 : p = true → Qt SV H ρ ρ1 H1 SV1) (hq : q' = true → p = true ∧ q = true)
    (h : tK C W σ SV1 H1 (fun z ρ2 SV2 H2 w => EnvP C.K SV H σ ρ2 H2 SV2 ∧ RB SV H ρ q' z ρ2 SV2 H2 w) m Q) : tK C W σ SV1 H1 (RB SV1 H1 ρ1 q) m Q := by
  cases m with
  | bad => exact h
  | exc x ρ' => exact h
  | ok d ρ2 => exact fun v H2 SV2 e2 r2 => h v H2 SV2 e2 ⟨e1.trans e2, r2.1, fun z => (h1 (hq z).1).trans (r2.2 (hq z).2)⟩
theorem sw_and {rest : List Expr} (ha : PT X a (tT C W a')) (hb : PW X (.BoolOp .And (b :: rest) pos) (tT C W b')) : PW X (.BoolOp .And (a :: b :: rest) pos) (tT C W (.and a' b')) := by
  refine ⟨fun wh pins s σ H Q I h => (pw_and ha hb).run wh pins s σ H Q I ?_⟩
  obtain ⟨ρ, SV, hv, nd, h⟩ := h
  rw [evT_and] at h
  refine ⟨ρ, SV, hv, nd, tK_bind h fun d ρ1 v H1 SV1 e1 ⟨ed, q1⟩ h1 => ?_⟩
  subst ed
  cases v with
  | true =>
    rw [if_pos rfl] at h1 ⊢
    exact ⟨ρ1, SV1, e1.vars, e1.nd, tKB_next e1 q1 (fun z => Bool.and_eq_true_iff.mp z) h1⟩
  | false =>
    rw [if_neg Bool.false_ne_true] at h1 ⊢
    exact h1 false H1 SV1 (.refl e1.vars e1.nd) ⟨e1, rfl, fun z => q1 (Bool.and_eq_true_iff.mp z).1⟩
theorem sw_or {rest : List Expr} (ha : PT X a (tT C W a')) (hb : PW X (.BoolOp .Or (b :: rest) pos) (tT C W b')) : PW X (.BoolOp .Or (a :: b :: rest) pos) (tT C W (.or a' b')) := by
  refine ⟨fun wh pins s σ H Q I h => (pw_or ha hb).run wh pins s σ H Q I ?_⟩
  obtain ⟨ρ, SV, hv, nd, h⟩ := h
  rw [evT_or] at h
  refine ⟨ρ, SV, hv, nd, tK_bind h fun d ρ1 v H1 SV1 e1 ⟨ed, q1⟩ h1 => ?_⟩
  subst ed
  cases v with
  | false =>
    rw [if_neg Bool.false_ne_true] at h1 ⊢
    exact ⟨ρ1, SV1, e1.vars, e1.nd, tKB_next e1 q1 (fun z => Bool.and_eq_true_iff.mp z) h1⟩
  | true =>
    rw [if_pos rfl] at h1 ⊢
    exact h1 true H1 SV1 (.refl e1.vars e1.nd) ⟨e1, rfl, fun z => q1 (Bool.and_eq_true_iff.mp z).1⟩
theorem st_not (ha : PT X a (tT C W a')) : PT X (.UnaryOp .Not a pos) (tT C W (.o1 .notO a')) := by
  refine ptmono (pt_not ha) fun σ H Q h => ?_
  obtain ⟨ρ, SV, hv, nd, h⟩ := h
  rw [evT_not] at h
  refine ⟨ρ, SV, hv, nd, tK_bind0 h fun d ρ1 v H1 SV1 e1 ⟨ed, q1⟩ h1 => ?_⟩
  subst ed
  exact h1 (!v) H1 SV1 e1 ⟨rfl, q1⟩
/-- a if c else b -/
theorem se_ite (hc : PT X c (tT C W c')) (ha : PE X a (tD C W a')) (hb : PE X b (tD C W b')) : PE X (.IfExp c a b pos) (tD C W (.ite c' a' b')) := by
  refine pemono (pe_ifExp hc ha hb) fun σ H Q h => ?_
  obtain ⟨ρ, SV, hv, nd, h⟩ := h
  have e : ev (.ite c' a' b') ρ = (evT c' ρ).bind fun t ρ => if t = true then ev a' ρ else ev b' ρ := by
    have e : ev (.ite c' a' b') ρ = (ev c' ρ).bind fun x ρ => (match truth x with | some true => ev a' ρ | some false => ev b' ρ | none => .bad) := rfl
    rw [e]
    unfold evT
    cases ev c' ρ with
    | bad => rfl
    | exc x ρ' => rfl
    | ok x ρ' =>
      show (match truth x with | some true => ev a' ρ' | some false => ev b' ρ' | none => .bad) = Out.bind (liftO (truth x) ρ') _
      cases truth x with
      | none => rfl
      | some t => cases t <;> rfl
  rw [e] at h
  have h : tK C W σ SV H (RD C.K SV H ρ (own a' && own b') (quiet c' && (quiet a' && quiet b'))) ((evT c' ρ).bind fun t ρ => if t = true then ev a' ρ else ev b' ρ) Q := h
  refine ⟨ρ, SV, hv, nd, tK_bind h fun d ρ1 v H1 SV1 e1 ⟨ed, q1⟩ h1 => ?_⟩
  subst ed
  cases v with
  | true =>
    rw [if_pos rfl] at h1 ⊢
    exact ⟨ρ1, SV1, e1.vars, e1.nd, tK_next e1 q1 (fun z => (Bool.and_eq_true_iff.mp z).1) (fun z => ⟨(Bool.and_eq_true_iff.mp z).1, (Bool.and_eq_true_iff.mp (Bool.and_eq_true_iff.mp z).2).1⟩) h1⟩
  | false =>
    rw [if_neg Bool.false_ne_true] at h1 ⊢
    exact ⟨ρ1, SV1, e1.vars, e1.nd, tK_next e1 q1 (fun z => (Bool.and_eq_true_iff.mp z).2) (fun z => ⟨(Bool.and_eq_true_iff.mp z).1, (Bool.and_eq_true_iff.mp (Bool.and_eq_true_iff.mp z).2).2⟩) h1⟩
theorem sw_and1 (ha : PT X a (tT C W a')) : PW X (.BoolOp .And [a] pos) (tT C W a') := pw_and1 ha
theorem sw_or1 (ha : PT X a (tT C W a')) : PW X (.BoolOp .Or [a] pos) (tT C W a') := pw_or1 ha
end
end Ly

namespace Ly
open PySem PySem.Spec L2
variable [Fns]
/-- arguments: values for those that are expressions, the names' own values for those that are handed over -/
inductive AR (K : PySem.W.Frag) (H : Hp) (σ : St) : Es → List D → List V → List Addr → Prop
  | nil : AR K H σ .nil [] [] []
  | cons {e : E} {es : Es} {d : D} {ds : List D} {v : V} {vs : List V} {S T : List Addr} : Rep K H d v S → AR K H σ es ds vs T → AR K H σ (.cons e es) (d :: ds) (v :: vs) (S ++ T)
  | io {i : Nat} {es : Es} {ds : List D} {v : V} {vs : List V} {T : List Addr} : σ[i]? = some (some v) → AR K H σ es ds vs T → AR K H σ (.io i es) (.non :: ds) (v :: vs) T
theorem AR.kp {K : PySem.W.Frag} {H H' : Hp} {σ : St} : ∀ {es : Es} {ds : List D} {vs : List V} {S : List Addr}, AR K H σ es ds vs S → Kp S H H' → AR K H' σ es ds vs S
  | _, _, _, _, .nil, _ => .nil
  | _, _, _, _, .cons r t, k => .cons (r.kp _ (k.sub fun a ha => List.mem_append_left _ ha)) (AR.kp t (k.sub fun a ha => List.mem_append_right _ ha))
  | _, _, _, _, .io e t, k => .io e (AR.kp t k)
theorem AR.owns {K : PySem.W.Frag} {H : Hp} {σ : St} : ∀ {es : Es} {ds : List D} {vs : List V} {S : List Addr}, AR K H σ es ds vs S → Owns H S
  | _, _, _, _, .nil => fun a ha => absurd ha List.not_mem_nil
  | _, _, _, _, .cons r t => (r.owns _).app (AR.owns t)
  | _, _, _, _, .io e t => AR.owns t
/-- no name is handed over -/
def plainEs : Es → Bool
  | .nil => true
  | .cons _ es => plainEs es
  | .io _ _ => false
theorem AR.reps {K : PySem.W.Frag} {H : Hp} {σ : St} : ∀ {es : Es} {ds : List D} {vs : List V} {S : List Addr}, AR K H σ es ds vs S → plainEs es = true → Reps K H ds vs S
  | _, _, _, _, .nil, _ => Reps.nil
  | _, _, _, _, .cons r t, p => Reps.cons r (AR.reps t p)
  | _, _, _, _, .io _ _, p => by cases p
structure ResA (K : PySem.W.Frag) (SV : List Addr) (H : Hp) (σ : St) (SV' : List Addr) (H' : Hp) (es : Es) (ds : List D) (vs : List V) (S : List Addr) : Prop where
  rep : AR K H' σ es ds vs S
  src : ∀ a ∈ S, a ∈ SV ∨ H a = none
  sep : (S ++ SV').Nodup
def RA (K : PySem.W.Frag) (SV : List Addr) (H : Hp) (σ : St) (ρ : Ev) (es : Es) (ds : List D) (ρ' : Ev) (SV' : List Addr) (H' : Hp) (vs : List V) : Prop := (∃ S, ResA K SV H σ SV' H' es ds vs S) ∧ (quiets es = true → Qt SV H ρ ρ' H' SV')
def tA (C : Cfg) (W : WX) (es : Es) : TA := fun σ H Q => ∃ ρ SV, Vars C.K H ρ σ SV ∧ SV.Nodup ∧ tK C W σ SV H (RA C.K SV H σ ρ es) (evs es ρ) Q
theorem pamono {X : Cx} {es : List Expr} {t t' : TA} (h : PA X es t) (k : ∀ σ H Q, t' σ H Q → t σ H Q) : PA X es t' := ⟨fun pos pins s σ H Q I q => h.run pos pins s σ H Q I (k σ H Q q)⟩
section
variable {X : Cx} {C : Cfg} {W : WX} {pos : Pos} {e : Expr} {es : List Expr} {e' : E} {es' : Es}
theorem sa_nil : PA X [] (tA C W .nil) := by
  refine pamono pa_nil fun σ H Q h => ?_
  obtain ⟨ρ, SV, hv, nd, h⟩ := h
  exact h [] H SV (.refl hv nd) ⟨⟨[], .nil, fun a ha => absurd ha List.not_mem_nil, nd⟩, fun _ => ⟨rfl, rfl, .refl⟩⟩
theorem ta_cons_read {σ : St} {H : Hp} {Q : List V → Hp → Prop} (ho : own e' = true) (h : tA C W (.cons e' es') σ H Q) : tCons (tD C W e') (tA C W es') σ H Q := by
  obtain ⟨ρ, SV, hv, nd, h⟩ := h
  have h : tK C W σ SV H (RA C.K SV H σ ρ (.cons e' es')) ((ev e' ρ).bind fun d ρ => (evs es' ρ).bind fun ds ρ => .ok (d :: ds) ρ) Q := h
  refine ⟨ρ, SV, hv, nd, tK_bind h fun d ρ1 v H1 SV1 e1 ⟨⟨S, r1⟩, q1⟩ h1 => ⟨ρ1, SV1, e1.vars, e1.nd, tK_bind0 h1 fun ds ρ2 vs H2 SV2 e2 ⟨⟨T, r2⟩, q2⟩ h2 => ?_⟩⟩
  have hsep := r1.sep ho
  have sep1 : ∀ a ∈ S, a ∉ SV1 := fun a ha hb => (List.nodup_append.mp hsep).2.2 a ha a hb rfl
  have kS : Kp S H1 H2 := e2.ext.kp e1.vars.owns sep1
  have ow := r1.rep.owns d
  have et := e1.trans e2
  refine h2 (v :: vs) H2 SV2 e2 ⟨et, ⟨S ++ T, .cons (r1.rep.kp d kS) r2.rep, fun a ha => ?_, ?_⟩, fun q => ?_⟩
  · rcases List.mem_append.mp ha with h | h
    · exact r1.src ho a h
    · exact src_trans e1 r2.src a h
  · rw [List.append_assoc]
    refine List.nodup_append.mpr ⟨(List.nodup_append.mp hsep).1, r2.sep, fun a ha b hb e => ?_⟩
    subst e
    have bad : ¬ (a ∈ SV1 ∨ H1 a = none) := fun z => by
      rcases z with z | z
      · exact sep1 a ha z
      · obtain ⟨o, eo, _⟩ := ow a ha
        rw [z] at eo
        cases eo
    rcases List.mem_append.mp hb with h | h
    · exact bad (r2.src a h)
    · exact bad (e2.src a h)
  · have q : (quiet e' && quiets es') = true := q
    rw [Bool.and_eq_true] at q
    exact (q1 q.1).trans (q2 q.2)
theorem sa_cons (ho : own e' = true) (ha : PE X e (tD C W e')) (hr : PA X es (tA C W es')) (hs : starEach (e :: es) X.env = (false, eval e X.env) :: starEach es X.env) : PA X (e :: es) (tA C W (.cons e' es')) := by
  exact pamono (pa_cons ha hr hs) fun σ H Q h => ta_cons_read ho h
theorem sa_io {i : Nat} {x : Str} (hN : X.N[i]? = some x) (hv : Vis X.env.scope x) (hd : (x == ("__debug__" : Str)) = false) (hcd : (x == ("__classdict__" : Str)) = false) (hr : PA X es (tA C W es'))
    (hs : starEach (.Name x pos :: es) X.env = (false, eval (.Name x pos) X.env) :: starEach es X.env) : PA X (.Name x pos :: es) (tA C W (.io i es')) := by
  refine pamono (pa_cons (pe_var hN hv hd hcd) hr hs) fun σ H Q h => ?_
  obtain ⟨ρ, SV, hv, nd, h⟩ := h
  have h : tK C W σ SV H (RA C.K SV H σ ρ (.io i es')) (match getV ρ i with | some _ => (evs es' ρ).bind fun ds ρ => .ok (.non :: ds) ρ | none => .bad) Q := h
  cases hg : getV ρ i with
  | none => rw [hg] at h; exact h.elim
  | some d =>
    rw [hg] at h
    obtain ⟨v, S, R, ev, _, _⟩ := var_at hv hg
    refine ⟨v, ev, ρ, SV, hv, nd, tK_bind0 h fun ds ρ2 vs H2 SV2 e2 ⟨⟨T, r2⟩, q2⟩ h2 => ?_⟩
    exact h2 (v :: vs) H2 SV2 e2 ⟨⟨T, .io ev r2.rep, r2.src, r2.sep⟩, q2⟩
/-! ### displays -/
theorem se_tup {k : Nat} (hp : plainEs es' = true) (h : PA X es (tA C W es')) : PE X (.Tuple es k pos) (tD C W (.tup es')) := by
  refine pemono (pe_tup h) fun σ H Q h => ?_
  obtain ⟨ρ, SV, hv, nd, h⟩ := h
  have h : tK C W σ SV H (RD C.K SV H ρ true (quiets es')) ((evs es' ρ).bind fun ds ρ => if ds.all frzD = true ∧ ds.length ≤ lim then .ok (.tup ds) ρ else .bad) Q := h
  refine ⟨ρ, SV, hv, nd, tK_bind0 h fun ds ρ1 vs H1 SV1 e1 ⟨⟨S, r1⟩, q1⟩ h1 => ?_⟩
  by_cases hc : ds.all frzD = true ∧ ds.length ≤ lim
  · rw [if_pos hc] at h1
    have r := r1.rep.reps hp
    have := r.frz hc.1
    subst this
    refine ⟨by rw [← lim_eq, ← r.length]; exact hc.2, kTup (K := C.K) (fun w H' S' x rep nd' new => ?_) r⟩
    have en := e1.ext0 x
    obtain ⟨f1, f2⟩ := fresh_sep e1 nd' new
    exact h1 w H' SV1 (e1.trans en) ⟨⟨S', rep, (fun _ => f1), (fun _ => f2)⟩, fun q => (q1 q).ext x⟩
  · rw [if_neg hc] at h1
    exact h1.elim
theorem se_lst (hp : plainEs es' = true) (h : PA X es (tA C W es')) : PE X (.List es pos) (tD C W (.lst es')) := by
  refine pemono (pe_lst h) fun σ H Q h => ?_
  obtain ⟨ρ, SV, hv, nd, h⟩ := h
  have h : tK C W σ SV H (RD C.K SV H ρ true (quiets es')) ((evs es' ρ).bind fun ds ρ => if ds.length ≤ lim then .ok (.lst true ds) ρ else .bad) Q := h
  refine ⟨ρ, SV, hv, nd, tK_bind0 h fun ds ρ1 vs H1 SV1 e1 ⟨⟨S, r1⟩, q1⟩ h1 => ?_⟩
  by_cases hc : ds.length ≤ lim
  · rw [if_pos hc] at h1
    have r := r1.rep.reps hp
    refine ⟨by rw [← lim_eq, ← r.length]; exact hc, fun p hp => ?_⟩
    have x : Ext [] H1 (upd H1 p (.lst vs)) := Ext.new hp
    have en := e1.ext0 x
    have pS : p ∉ S := fun z => by
      obtain ⟨o, eo, _⟩ := r.owns ds p z
      rw [hp] at eo
      cases eo
    have pV : p ∉ SV1 := fun z => by
      obtain ⟨o, eo, _⟩ := e1.vars.owns p z
      rw [hp] at eo
      cases eo
    refine h1 (.ref p) _ SV1 (e1.trans en) ⟨⟨p :: S, ⟨p, vs, S, rfl, upd_same, r.kp ds (x.all _), rfl⟩, (fun _ a ha => ?_), (fun _ => ?_)⟩, fun q => (q1 q).ext x⟩
    · rcases List.mem_cons.mp ha with e | h
      · subst e
        exact src_trans e1 (S := [a]) (fun b hb => .inr (by rw [show b = a by simpa using hb]; exact hp)) a (by simp)
      · exact r1.src a h
    · rw [List.cons_append]
      exact List.nodup_cons.mpr ⟨fun z => (List.mem_append.mp z).elim pS pV, r1.sep⟩
  · rw [if_neg hc] at h1
    exact h1.elim

/-! ### one-argument built-ins -/
def rC1 (K : PySem.W.Frag) (g : D → Option D) : List V → Hp → VK → Prop := fun xs H Q => ∃ x, xs = [x] ∧ rD1 K g x H Q
theorem tD_c1 {o : O1} {a' : E} {σ : St} {H : Hp} {Q : VK} (h : tD C W (.o1 o a') σ H Q) : tCB (rC1 C.K o.sem) (tCons (tD C W a') tNil) σ H Q := by
  obtain ⟨ρ, SV, hv, nd, h⟩ := tD_o1 h
  refine ⟨ρ, SV, hv, nd, ?_⟩
  cases m : ev a' ρ with
  | bad => rw [m] at h; exact h
  | exc x ρ' => rw [m] at h; exact h
  | ok d ρ1 => rw [m] at h; exact fun v H1 SV1 e1 r1 => ⟨v, rfl, h v H1 SV1 e1 r1⟩
theorem se_cb {a : Expr} {a' : E} {o : O1} {x : Str} {id : String} {p : Pos} (hK : X.K = C.K) (hc : CallR X (.builtin id) (rC1 X.K o.sem)) (hg : Gl X x) (hm : X.mg x = none) (hv : bootBuiltins x = some (.builtin id)) (ha : PE X a (tD C W a')) (hn : x ≠ "__name__") (hdb : (x == ("__debug__" : Str)) = false)
    (he : starEach [a] X.env = (false, eval a X.env) :: starEach [] X.env) : PE X (.Call (.Name x p) [a] [] pos) (tD C W (.o1 o a')) :=
  pemono (pe_callB (by rw [← hK]; exact hc : CallR X (.builtin id) (rC1 C.K o.sem)) hg hm hv (pa_cons ha pa_nil he) hn hdb he) fun _ _ _ h => tD_c1 h
theorem se_ct {a : Expr} {a' : E} {o : O1} {x : Str} {T : String} {p : Pos} (hK : X.K = C.K) (hc : CallR X (.type T) (rC1 X.K o.sem)) (hg : Gl X x) (hm : X.mg x = none) (hv : bootBuiltins x = some (.type T)) (ha : PE X a (tD C W a')) (hn : x ≠ "__name__") (hdb : (x == ("__debug__" : Str)) = false)
    (he : starEach [a] X.env = (false, eval a X.env) :: starEach [] X.env) : PE X (.Call (.Name x p) [a] [] pos) (tD C W (.o1 o a')) :=
  pemono (pe_callTy (by rw [← hK]; exact hc : CallR X (.type T) (rC1 C.K o.sem)) hg hm hv (pa_cons ha pa_nil he) hn hdb he) fun _ _ _ h => tD_c1 h
end

/-! ### a def's promise -/
def AF (K : PySem.W.Frag) (H : Hp) : List Bool → List D → List V → List Addr → Prop
  | [], [], [], S => S = []
  | io :: r, d :: ds, v :: vs, S => ∃ S1 S2, Rep K H d v S1 ∧ (io = false → S1 = []) ∧ AF K H r ds vs S2 ∧ S = S1 ++ S2
  | _, _, _, _ => False
def OF (K : PySem.W.Frag) (H : Hp) : List Bool → List D → List V → List Addr → Prop
  | [], [], [], S => S = []
  | false :: r, os, _ :: vs, S => OF K H r os vs S
  | true :: r, o :: os, v :: vs, S => ∃ S1 S2, Rep K H o v S1 ∧ OF K H r os vs S2 ∧ S = S1 ++ S2
  | _, _, _, _ => False
def spD (C : Cfg) (io : List Bool) (sem : FSem) : Sp := fun vs H Q E => ∃ ds S, AF C.K H io ds vs S ∧ S.Nodup ∧
  match sem ds with
  | .ret d outs => ∀ v H' T U, Ext S H H' → Rep C.K H' d v T → OF C.K H' io outs vs U → (T ++ U).Nodup → (∀ a ∈ T ++ U, a ∈ S ∨ H a = none) → Q v H'
  | .exc x outs => ∀ cls dd H' U, Ext S H H' → OF C.K H' io outs vs U → U.Nodup → (∀ a ∈ U, a ∈ S ∨ H a = none) → C.ER x cls dd H' → E cls dd H'
  | .bad => False
theorem AF.length {K : PySem.W.Frag} {H : Hp} : ∀ {io : List Bool} {ds : List D} {vs : List V} {S : List Addr}, AF K H io ds vs S → vs.length = io.length
  | [], [], [], _, _ => rfl
  | _ :: _, _ :: _, _ :: _, _, h => by
    obtain ⟨S1, S2, _, _, h, _⟩ := h
    exact congrArg (· + 1) (AF.length h)
  | [], [], _ :: _, _, h => h.elim
  | [], _ :: _, _, _, h => h.elim
  | _ :: _, [], _, _, h => h.elim
  | _ :: _, _ :: _, [], _, h => h.elim
theorem AF.owns {K : PySem.W.Frag} {H : Hp} : ∀ {io : List Bool} {ds : List D} {vs : List V} {S : List Addr}, AF K H io ds vs S → Owns H S
  | [], [], [], _, h => by
    have h : _ = [] := h
    subst h
    exact fun a ha => absurd ha List.not_mem_nil
  | _ :: _, _ :: _, _ :: _, _, h => by
    obtain ⟨S1, S2, r, _, h, rfl⟩ := h
    exact (r.owns _).app (AF.owns h)
  | [], [], _ :: _, _, h => h.elim
  | [], _ :: _, _, _, h => h.elim
  | _ :: _, [], _, _, h => h.elim
  | _ :: _, _ :: _, [], _, h => h.elim

/-! ### the names handed over -/
def align : List (Option Nat) → Es → Bool
  | [], .nil => true
  | none :: r, .cons _ es => align r es
  | some i :: r, .io j es => i == j && align r es
  | _, _ => false
def ios (slots : List (Option Nat)) : List Nat := slots.filterMap id
theorem wb_set : ∀ {slots : List (Option Nat)} {os : List D} {ρ : Ev} {i : Nat} {x : Option D}, i ∉ ios slots → wb slots os (ρ.set i x) = (wb slots os ρ).map fun ρ' => ρ'.set i x
  | [], [], _, _, _, _ => rfl
  | [], _ :: _, _, _, _, _ => rfl
  | none :: r, os, ρ, i, x, h => wb_set (slots := r) (os := os) h
  | some j :: r, [], _, _, _, _ => rfl
  | some j :: r, o :: os, ρ, i, x, h => by
    have h1 : i ≠ j := fun e => h (by simp [ios, e])
    have h2 : i ∉ ios r := fun e => h (by simp [ios] at e ⊢; exact .inr e)
    show wb r os ((ρ.set i x).set j (some o)) = (wb r os (ρ.set j (some o))).map fun ρ' => ρ'.set i x
    rw [List.set_comm _ _ h1]
    exact wb_set h2
theorem fill_set : ∀ {slots : List (Option Nat)} {ds : List D} {ρ : Ev} {i : Nat} {x : Option D}, i ∉ ios slots → fill slots ds (ρ.set i x) = fill slots ds ρ
  | [], [], _, _, _, _ => rfl
  | [], _ :: _, _, _, _, _ => rfl
  | none :: r, [], _, _, _, _ => rfl
  | none :: r, d :: ds, ρ, i, x, h => by
    show (if frzD d = true then _ else _) = (if frzD d = true then _ else _)
    rw [fill_set (slots := r) (ds := ds) (show i ∉ ios r from h)]
  | some j :: r, [], _, _, _, _ => rfl
  | some j :: r, d :: ds, ρ, i, x, h => by
    have h1 : i ≠ j := fun e => h (by simp [ios, e])
    have h2 : i ∉ ios r := fun e => h (by simp [ios] at e ⊢; exact .inr e)
    have e : getV (ρ.set i x) j = getV ρ j := by
      unfold getV
      rw [List.getD_eq_getElem?_getD, List.getD_eq_getElem?_getD, List.getElem?_set_ne h1]
    show (match getV (ρ.set i x) j, fill r ds (ρ.set i x) with | some d, some l => some (d :: l) | _, _ => none) = (match getV ρ j, fill r ds ρ with | some d, some l => some (d :: l) | _, _ => none)
    rw [e, fill_set h2]
theorem call_args {K : PySem.W.Frag} {H : Hp} {σ : St} : ∀ {slots : List (Option Nat)} {es : Es} {ds ds' : List D} {vs : List V} {S SV : List Addr} {ρ : Ev}, AR K H σ es ds vs S → align slots es = true → (ios slots).Nodup → fill slots ds ρ = some ds' → Vars K H ρ σ SV →
    ∃ T R, AF K H (slots.map (·.isSome)) ds' vs T ∧ SV.Perm (T ++ R) ∧ S = [] ∧ ∀ H' outs U, Kp R H H' → OF K H' (slots.map (·.isSome)) outs vs U → ∃ ρ' SV', wb slots outs ρ = some ρ' ∧ Vars K H' ρ' σ SV' ∧ SV'.Perm (U ++ R)
  | [], _, _, _, _, _, SV, ρ, .nil, _, _, hf, hv => by
    cases hf
    refine ⟨[], SV, rfl, .refl _, rfl, fun H' outs U k h => ?_⟩
    cases outs with
    | nil =>
      have h : U = [] := h
      subst h
      exact ⟨ρ, SV, rfl, hv.kp k, .refl _⟩
    | cons _ _ => exact h.elim
  | none :: r, _, _, _, _, _, SV, ρ, @AR.cons _ _ _ e es d ds v vs S T rd t, ha, hn, hf, hv => by
    have hf : (if frzD d = true then (match fill r ds ρ with | some l => some (d :: l) | none => none) else none) = some _ := hf
    split at hf
    · rename_i hz
      cases hfl : fill r ds ρ with
      | none => rw [hfl] at hf; cases hf
      | some l =>
        rw [hfl] at hf
        cases hf
        obtain ⟨T', R, a1, a2, a3, a4⟩ := call_args t ha hn hfl hv
        have := rd.frz hz
        subst this a3
        exact ⟨T', R, ⟨[], T', rd, fun _ => rfl, a1, rfl⟩, a2, rfl, a4⟩
    · cases hf
  | some i :: r, _, _, _, _, _, SV, ρ, @AR.io _ _ _ j es ds v vs T hs t, ha, hn, hf, hv => by
    have ha : (i == j && align r es) = true := ha
    rw [Bool.and_eq_true] at ha
    have hij : i = j := by simpa using ha.1
    subst hij
    have hn : (i :: ios r).Nodup := hn
    obtain ⟨hi, hn⟩ := List.nodup_cons.mp hn
    have hf : (match getV ρ i, fill r ds ρ with | some d, some l => some (d :: l) | _, _ => none) = some _ := hf
    cases hg : getV ρ i with
    | none => rw [hg] at hf; cases hf
    | some d =>
      cases hfl : fill r ds ρ with
      | none => rw [hg, hfl] at hf; cases hf
      | some l =>
        rw [hg, hfl] at hf
        cases hf
        obtain ⟨v', S1, R1, e1, e2, f⟩ := var_at hv hg
        rw [hs] at e1
        cases e1
        obtain ⟨SV2, v2, p2⟩ := f.out H σ .refl (fun _ _ => rfl) rfl
        obtain ⟨T', R, a1, a2, a3, a4⟩ := call_args t ha.2 hn ((fill_set hi).trans hfl) v2
        refine ⟨S1 ++ T', R, ⟨S1, T', e2, (fun z => by cases z), a1, rfl⟩, ?_, a3, fun H' outs U k h => ?_⟩
        · refine f.perm.trans ?_
          rw [List.append_assoc]
          exact (p2.symm.trans a2).append_left S1
        · cases outs with
          | nil => exact h.elim
          | cons o os =>
            obtain ⟨U1, U2, h1, h2, rfl⟩ := h
            obtain ⟨ρ', SV', b1, b2, b3⟩ := a4 H' os U2 k h2
            have hlen : i < ρ'.length := by
              have l1 := b2.length
              have l2 := hv.length
              have := (getV_some hg).2
              omega
            rw [wb_set hi] at b1
            cases hw : wb r os ρ with
            | none => rw [hw] at b1; cases b1
            | some ρ2 =>
              rw [hw] at b1
              cases b1
              obtain ⟨S3, R3, f3⟩ := b2.foc i hlen
              have n3 : S3 = [] := f3.nil (by rw [List.getElem?_set_self (by simpa using hlen)])
              subst n3
              obtain ⟨SV4, c1, c2⟩ := f3.set H' o v U1 .refl h1
              rw [List.set_set, set_same hs] at c1
              refine ⟨_, SV4, by rw [show wb (some i :: r) (o :: os) ρ = wb r os (ρ.set i (some o)) from rfl, wb_set hi, hw]; rfl, c1, c2.trans ?_⟩
              rw [List.append_assoc]
              exact (f3.perm.symm.trans b3).append_left U1
  | [], _, _, _, _, _, _, _, .cons _ _, ha, _, _, _ => by cases ha
  | [], _, _, _, _, _, _, _, .io _ _, ha, _, _, _ => by cases ha
  | none :: _, _, _, _, _, _, _, _, .nil, ha, _, _, _ => by cases ha
  | none :: _, _, _, _, _, _, _, _, .io _ _, ha, _, _, _ => by cases ha
  | some _ :: _, _, _, _, _, _, _, _, .nil, ha, _, _, _ => by cases ha
  | some _ :: _, _, _, _, _, _, _, _, .cons _ _, ha, _, _, _ => by cases ha
end Ly

namespace Ly
open PySem PySem.Spec L2
variable [Fns]
theorem AF_no {K : PySem.W.Frag} {H : Hp} : ∀ {slots : List (Option Nat)} {ds : List D} {vs : List V} {T : List Addr}, slots.all (·.isNone) = true → AF K H (slots.map (·.isSome)) ds vs T → T = []
  | [], [], [], _, _, h => h
  | none :: r, _ :: _, _ :: _, _, hs, h => by
    obtain ⟨S1, S2, _, e1, h, rfl⟩ := h
    rw [e1 rfl, AF_no (slots := r) (by simpa using hs) h]
    rfl
  | some _ :: _, _, _, _, hs, _ => by simp at hs
  | [], [], _ :: _, _, _, h => h.elim
  | [], _ :: _, _, _, _, h => h.elim
  | none :: _, [], _, _, _, h => h.elim
  | none :: _, _ :: _, [], _, _, h => h.elim
theorem OF_no {K : PySem.W.Frag} {H : Hp} : ∀ {slots : List (Option Nat)} {os : List D} {vs : List V} {T : List Addr} {ρ ρ' : Ev}, slots.all (·.isNone) = true → OF K H (slots.map (·.isSome)) os vs T → wb slots os ρ = some ρ' → T = [] ∧ ρ' = ρ
  | [], [], [], _, _, _, _, h, e => ⟨h, by cases e; rfl⟩
  | none :: r, os, _ :: vs, _, ρ, ρ', hs, h, e => OF_no (slots := r) (os := os) (vs := vs) (by simpa using hs) h e
  | some _ :: _, _, _, _, _, _, hs, _, _ => by simp at hs
  | [], [], _ :: _, _, _, _, _, h, _ => h.elim
  | [], _ :: _, _, _, _, _, _, h, _ => h.elim
  | none :: _, [], [], _, _, _, _, h, _ => h.elim
  | none :: _, _ :: _, [], _, _, _, _, h, _ => h.elim
section
variable {X : Cx} {C : Cfg} {W : WX} {pos : Pos} {e : Expr} {es : List Expr} {es' : Es}
/-- a def that may be called here, by its name -/
def FnG (C : Cfg) (X : Cx) (k : Nat) (x : Str) (io : List Bool) (sem : FSem) : Prop :=
  ∃ (f : Addr) (fd : FuncData) (ps : List Str), X.mg x = some (.ref f) ∧ FnOk X.prog X.w X.K X.mg X.base (L2.CX X.prog X.w) k f fd ps (spD C io sem) ∧ PySem.W.keepIn X.K (.ref f) = true ∧ Binds X.K fd ps []
theorem call_post {K : PySem.W.Frag} {SV SV1 SV' T R U : List Addr} {H H1 H' : Hp} {σ : St} {ρ1 ρ' : Ev} (e1 : EnvP K SV H σ ρ1 H1 SV1) (p : SV1.Perm (T ++ R)) (x : Ext T H1 H') (src : ∀ a ∈ U, a ∈ T ∨ H1 a = none) (nd : U.Nodup) (v : Vars K H' ρ' σ SV') (p' : SV'.Perm (U ++ R)) :
    EnvP K SV1 H1 σ ρ' H' SV' := by
  have ndp := p.nodup_iff.mp e1.nd
  have ow : Owns H1 SV1 := e1.vars.owns
  refine ⟨v, p'.nodup_iff.mpr (List.nodup_append.mpr ⟨nd, (List.nodup_append.mp ndp).2.1, fun a ha b hb e => ?_⟩), fun a ha => ?_, fun a o e hs => x a o e fun z => hs (p.mem_iff.mpr (List.mem_append_left _ z))⟩
  · subst e
    rcases src a ha with z | z
    · exact (List.nodup_append.mp ndp).2.2 a z a hb rfl
    · obtain ⟨o, eo, _⟩ := ow a (p.mem_iff.mpr (List.mem_append_right _ hb))
      rw [z] at eo
      cases eo
  · rcases List.mem_append.mp (p'.mem_iff.mp ha) with h | h
    · exact (src a h).imp (fun z => p.mem_iff.mpr (List.mem_append_left _ z)) id
    · exact .inl (p.mem_iff.mpr (List.mem_append_right _ h))
theorem sp_call {slots : List (Option Nat)} {sem : FSem} {SV SV1 S : List Addr} {H H1 : Hp} {σ : St} {ρ ρ1 : Ev} {ds : List D} {vs : List V} {Q : VK} (hal : align slots es' = true) (hnd : (ios slots).Nodup) (e1 : EnvP C.K SV H σ ρ1 H1 SV1) (r1 : ResA C.K SV H σ SV1 H1 es' ds vs S) (q1 : quiets es' = true → Qt SV H ρ ρ1 H1 SV1)
    (h : tK C W σ SV H (RD C.K SV H ρ true (slots.all (·.isNone) && quiets es')) (callOut slots sem ds ρ1) Q) : spD C (slots.map (·.isSome)) sem vs H1 Q (WE W σ) := by
  cases hf : fill slots ds ρ1 with
  | none =>
    unfold callOut at h
    rw [hf] at h
    exact h.elim
  | some ds' =>
    obtain ⟨T, R, a1, a2, a3, a4⟩ := call_args r1.rep hal hnd hf e1.vars
    have ndp := a2.nodup_iff.mp e1.nd
    have kR : ∀ {H' : Hp}, Ext T H1 H' → Kp R H1 H' := fun x => x.kp a1.owns fun a ha hb => (List.nodup_append.mp ndp).2.2 a hb a ha rfl
    refine ⟨ds', T, a1, (List.nodup_append.mp ndp).1, ?_⟩
    have h : tK C W σ SV H (RD C.K SV H ρ true (slots.all (·.isNone) && quiets es')) (match sem ds' with
      | .ret d outs => (match wb slots outs ρ1 with
        | some ρ' => .ok d ρ'
        | none => .bad)
      | .exc x outs => (match wb slots outs ρ1 with
        | some ρ' => .exc x ρ'
        | none => .bad)
      | .bad => .bad) Q := by
      unfold callOut at h
      rw [hf] at h
      exact h
    cases hs : sem ds' with
    | bad =>
      rw [hs] at h
      exact h
    | exc x outs =>
      rw [hs] at h
      intro cls dd H' U xt hO nd src er
      obtain ⟨ρ', SV', w1, v', p'⟩ := a4 H' outs U (kR xt) hO
      have h : tK C W σ SV H (RD C.K SV H ρ true (slots.all (·.isNone) && quiets es')) (match wb slots outs ρ1 with | some ρ' => .exc x ρ' | none => .bad) Q := h
      rw [w1] at h
      exact h cls dd H' SV' (e1.trans (call_post e1 a2 xt src nd v' p')) er
    | ret d outs =>
      rw [hs] at h
      intro v H' T' U xt rep hO nd src
      obtain ⟨ρ', SV', w1, v', p'⟩ := a4 H' outs U (kR xt) hO
      have h9 : tK C W σ SV H (RD C.K SV H ρ true (slots.all (·.isNone) && quiets es')) (match wb slots outs ρ1 with | some ρ' => .ok d ρ' | none => .bad) Q := h
      rw [w1] at h9
      obtain ⟨n1, n2, n3⟩ := List.nodup_append.mp nd
      have srcT : ∀ a ∈ T', a ∈ SV1 ∨ H1 a = none := fun a ha => (src a (List.mem_append_left _ ha)).imp (fun z => a2.mem_iff.mpr (List.mem_append_left _ z)) id
      by_cases hq : slots.all (·.isNone) = true
      · obtain ⟨rfl, rfl⟩ := OF_no hq hO w1
        have := AF_no hq a1
        subst this
        have en := e1.ext0 xt
        have fr : ∀ a ∈ T', H1 a = none := fun a ha => by
          rcases src a (List.mem_append_left _ ha) with z | z
          · exact absurd z List.not_mem_nil
          · exact z
        obtain ⟨f1, f2⟩ := fresh_sep e1 n1 fr
        exact h9 v H' SV1 (e1.trans en) ⟨⟨T', rep, (fun _ => f1), (fun _ => f2)⟩, fun q => (q1 (Bool.and_eq_true_iff.mp q).2).ext xt⟩
      · have cp := call_post e1 a2 xt (fun a ha => src a (List.mem_append_right _ ha)) n2 v' p'
        refine h9 v H' SV' (e1.trans cp) ⟨⟨T', rep, (fun _ => src_trans e1 srcT), (fun _ => ?_)⟩, fun q => absurd (Bool.and_eq_true_iff.mp q).1 hq⟩
        refine List.nodup_append.mpr ⟨n1, cp.nd, fun a ha b hb e => ?_⟩
        subst e
        rcases List.mem_append.mp (p'.mem_iff.mp hb) with z | z
        · exact n3 a ha a z rfl
        · rcases src a (List.mem_append_left _ ha) with y | y
          · exact (List.nodup_append.mp ndp).2.2 a y a z rfl
          · obtain ⟨o, eo, _⟩ := e1.vars.owns a (a2.mem_iff.mpr (List.mem_append_right _ z))
            rw [y] at eo
            cases eo
theorem se_call {slots : List (Option Nat)} {j k : Nat} {x : Str} {p : Pos} (tk : Takes X W) (G : FnG C X k x (slots.map (·.isSome)) (Fns.F j)) (hr : Room k X.A) (hg : Gl X x) (hal : align slots es' = true) (hnd : (ios slots).Nodup) (ha : PA X (e :: es) (tA C W es')) (hdb : (x == ("__debug__" : Str)) = false)
    (he : starEach (e :: es) X.env = (false, eval e X.env) :: starEach es X.env) (hpl : (backTo pos (starEach es X.env)).any (·.1) = false) : PE X (.Call (.Name x p) (e :: es) [] pos) (tD C W (.call slots j es')) := by
  obtain ⟨f, fd, ps, hm, F, hk, hb⟩ := G
  refine pemono (pe_callS F hr hg hm hk hb (fun σ => passAt tk σ) ha hdb he hpl) fun σ H Q h => ?_
  obtain ⟨ρ, SV, hv, nd, h⟩ := h
  have h : tK C W σ SV H (RD C.K SV H ρ true (slots.all (·.isNone) && quiets es')) ((evs es' ρ).bind fun ds ρ => callOut slots (Fns.F j) ds ρ) Q := h
  exact ⟨ρ, SV, hv, nd, tK_bind0 h fun ds ρ1 vs H1 SV1 e1 ⟨⟨S, r1⟩, q1⟩ h1 => sp_call hal hnd e1 r1 q1 h1⟩
end
end Ly

namespace Ly
open PySem PySem.Spec L2
variable [Fns]
section
variable {X : Cx}
theorem cd_len : CallR X (.builtin "len") (rC1 X.K O1.len.sem) := by
  intro pins s σ H xs us Q I rx h
  obtain ⟨x, rfl, d, z, S, r, hz, k⟩ := h
  cases d with
  | tup ds =>
    cases hz
    obtain ⟨_, a, vs, rfl, q, r⟩ := r
    exact call_len_seq pins s σ H _ us Q I rx ⟨a, vs, rfl, .inr q, by rw [← r.length]; exact kInt k⟩
  | lst o ds =>
    cases hz
    obtain ⟨a, vs, T, rfl, q, r, _⟩ := lst_sq r
    exact call_len_seq pins s σ H _ us Q I rx ⟨a, vs, rfl, .inl (.inl q), by rw [← r.length]; exact kInt k⟩
  | scr ns =>
    cases hz
    obtain ⟨_, a, rfl, q⟩ := r
    exact call_len_seq pins s σ H _ us Q I rx ⟨a, _, rfl, .inl q.sq, by rw [List.length_map]; exact kInt k⟩
  | str y =>
    change (if y.length ≤ lim then some (D.int y.length) else none) = some z at hz
    split at hz
    · rename_i hc
      cases hz
      exact call_len_str pins s σ H _ us Q I rx ⟨y, by rw [r.1], by rw [← lim_eq]; exact hc, kInt k⟩
    · cases hz
  | dk o ks ds =>
    cases o with
    | false => cases hz
    | true =>
      cases hz
      obtain ⟨a, vs, S', rfl, q, l, r, _⟩ := r
      exact call_lenD pins s σ H _ us Q I rx ⟨a, _, rfl, q, by rw [List.length_zip, ← l, Nat.min_self]; exact kInt k⟩
  | _ => cases hz
theorem kids_some {d : D} {xs : List D} (h : kids d = some xs) : d = .tup xs ∨ ∃ o, d = .lst o xs ∧ (o = false ∨ xs.all frzD = true) := by
  cases d with
  | tup ys => cases h; exact .inl rfl
  | lst o ys =>
    cases o with
    | false => cases h; exact .inr ⟨_, rfl, .inl rfl⟩
    | true =>
      change (if ys.all frzD = true then some ys else none) = some xs at h
      split at h
      · rename_i hc; cases h; exact .inr ⟨_, rfl, .inr hc⟩
      · cases h
  | _ => cases h
theorem cd_tuple : CallR X (.type "tuple") (rC1 X.K O1.tuple.sem) := by
  intro pins s σ H xs us Q I rx h
  obtain ⟨x, rfl, d, z, S, r, hz, k⟩ := h
  change (match kids d with | some xs => some (D.tup xs) | none => none) = some z at hz
  cases hk : kids d with
  | none => rw [hk] at hz; cases hz
  | some ds =>
    rw [hk] at hz
    cases hz
    rcases kids_some hk with rfl | ⟨o, rfl, hc⟩
    · obtain ⟨_, a, vs, rfl, q, r⟩ := r
      exact call_tuple_of pins s σ H _ us Q I rx ⟨a, vs, rfl, .inr ⟨q, k0 k ⟨rfl, a, vs, rfl, q, r⟩⟩⟩
    · obtain ⟨a, vs, T, rfl, q, r, f⟩ := lst_sq r
      have := f hc
      subst this
      exact call_tuple_of pins s σ H _ us Q I rx ⟨a, vs, rfl, .inl ⟨.inl q, kTup k r⟩⟩
theorem cd_list : CallR X (.type "list") (rC1 X.K O1.list.sem) := by
  intro pins s σ H xs us Q I rx h
  obtain ⟨x, rfl, d, z, S, r, hz, k⟩ := h
  change (match kids d with | some xs => some (D.lst true xs) | none => none) = some z at hz
  cases hk : kids d with
  | none => rw [hk] at hz; cases hz
  | some ds =>
    rw [hk] at hz
    cases hz
    rcases kids_some hk with rfl | ⟨o, rfl, hc⟩
    · obtain ⟨_, a, vs, rfl, q, r⟩ := r
      exact call_list_of pins s σ H _ us Q I rx ⟨a, vs, rfl, .inr q, kLst k r⟩
    · obtain ⟨a, vs, T, rfl, q, r, f⟩ := lst_sq r
      have := f hc
      subst this
      exact call_list_of pins s σ H _ us Q I rx ⟨a, vs, rfl, .inl (.inl q), kLst k r⟩
theorem cd_int : CallR X (.type "int") (rC1 X.K O1.int.sem) := by
  intro pins s σ H xs us Q I rx h
  obtain ⟨x, rfl, d, z, S, r, hz, k⟩ := h
  cases d with
  | int i => cases hz; exact call_int1 pins s σ H _ us Q I rx (.inl ⟨i, by rw [r.1], kInt k⟩)
  | bl b => cases hz; exact call_int1 pins s σ H _ us Q I rx (.inr ⟨b, by rw [r.1], kInt k⟩)
  | _ => cases hz
theorem cd_abs : CallR X (.builtin "abs") (rC1 X.K O1.abs.sem) := by
  intro pins s σ H xs us Q I rx h
  obtain ⟨x, rfl, d, z, S, r, hz, k⟩ := h
  cases d with
  | int i => cases hz; exact call_abs pins s σ H _ us Q I rx ⟨i, by rw [r.1], kInt k⟩
  | _ => cases hz
theorem cd_str : CallR X (.type "str") (rC1 X.K O1.str.sem) := by
  intro pins s σ H xs us Q I rx h
  obtain ⟨x, rfl, d, z, S, r, hz, k⟩ := h
  cases d with
  | int i =>
    change (if -1000000000000000000 < i ∧ i < 1000000000000000000 then some (D.str (toString i)) else none) = some z at hz
    split at hz
    · rename_i hc
      cases hz
      refine call_str_int pins s σ H _ us Q I rx ⟨i, by rw [r.1], ?_, kStr k⟩
      have : i.natAbs.log2 < 64 := PySem.Flt.log2_lt_of (k := 64) (by decide) (by omega)
      omega
    · cases hz
  | _ => cases hz
theorem ints_rep {K : PySem.W.Frag} {H : Hp} : ∀ {ds : List D} {vs : List V} {S : List Addr} {r : List Int}, Reps K H ds vs S → ints? ds = some r → vs = r.map V.int
  | [], _, _, _, h, e => by
    obtain ⟨rfl, _⟩ := h
    cases e
    rfl
  | d :: ds, _, _, r, h, e => by
    obtain ⟨v, t, S1, S2, rfl, q1, q2, rfl⟩ := h
    cases d with
    | int i =>
      change (match ints? ds with | some r => some (i :: r) | none => none) = some r at e
      cases hi : ints? ds with
      | none => rw [hi] at e; cases e
      | some l =>
        rw [hi] at e
        cases e
        rw [ints_rep q2 hi, q1.1]
        rfl
    | _ => cases e
theorem cd_sum (hc : X.calm = true) : CallR X (.builtin "sum") (rC1 X.K O1.sum.sem) := by
  intro pins s σ H xs us Q I rx h
  obtain ⟨x, rfl, d, z, S, r, hz, k⟩ := h
  cases d with
  | lst o ds =>
    change (match ints? ds with | some r => some (D.int r.sum) | none => none) = some z at hz
    cases hi : ints? ds with
    | none => rw [hi] at hz; cases hz
    | some l =>
      rw [hi] at hz
      cases hz
      obtain ⟨a, vs, T, rfl, q, r, _⟩ := lst_sq r
      have := ints_rep r hi
      subst this
      exact cr_sum hc pins s σ H _ us Q I rx ⟨a, l, rfl, .inl q, kInt k⟩
  | _ => cases hz
theorem foldl_min (i : Int) : ∀ r : List Int, r.foldl min i ∈ i :: r ∧ ∀ y ∈ i :: r, r.foldl min i ≤ y := fun r => by
  induction r generalizing i with
  | nil => simp
  | cons j r ih =>
    obtain ⟨h1, h2⟩ := ih (min i j)
    rw [List.foldl_cons]
    refine ⟨?_, fun y hy => ?_⟩
    · rcases List.mem_cons.mp h1 with h | h
      · rw [h]
        by_cases c : i ≤ j
        · rw [Int.min_def, if_pos c]; simp
        · rw [Int.min_def, if_neg c]; simp
      · exact List.mem_cons_of_mem _ (List.mem_cons_of_mem _ h)
    · have hm := h2 (min i j) List.mem_cons_self
      rcases List.mem_cons.mp hy with h | h
      · omega
      · rcases List.mem_cons.mp h with h | h
        · omega
        · exact h2 y (List.mem_cons_of_mem _ h)
theorem foldl_max (i : Int) : ∀ r : List Int, r.foldl max i ∈ i :: r ∧ ∀ y ∈ i :: r, y ≤ r.foldl max i := fun r => by
  induction r generalizing i with
  | nil => simp
  | cons j r ih =>
    obtain ⟨h1, h2⟩ := ih (max i j)
    rw [List.foldl_cons]
    refine ⟨?_, fun y hy => ?_⟩
    · rcases List.mem_cons.mp h1 with h | h
      · rw [h]
        by_cases c : i ≤ j
        · rw [Int.max_def, if_pos c]; simp
        · rw [Int.max_def, if_neg c]; simp
      · exact List.mem_cons_of_mem _ (List.mem_cons_of_mem _ h)
    · have hm := h2 (max i j) List.mem_cons_self
      rcases List.mem_cons.mp hy with h | h
      · omega
      · rcases List.mem_cons.mp h with h | h
        · omega
        · exact h2 y (List.mem_cons_of_mem _ h)
theorem cd_min (hc : X.calm = true) : CallR X (.builtin "min") (rC1 X.K O1.minL.sem) := by
  intro pins s σ H xs us Q I rx h
  obtain ⟨x, rfl, d, z, S, r, hz, k⟩ := h
  cases d with
  | lst o ds =>
    change (match ints? ds with | some (i :: r) => some (D.int (r.foldl min i)) | _ => none) = some z at hz
    cases hi : ints? ds with
    | none => rw [hi] at hz; cases hz
    | some l =>
      rw [hi] at hz
      cases l with
      | nil => cases hz
      | cons i l =>
        cases hz
        obtain ⟨a, vs, T, rfl, q, r, _⟩ := lst_sq r
        have := ints_rep r hi
        subst this
        refine cr_min hc pins s σ H _ us Q I rx ⟨a, i :: l, rfl, .inl q, by simp, fun m hm hy => ?_⟩
        obtain ⟨h1, h2⟩ := foldl_min i l
        have := hy _ h1
        have := h2 m hm
        rw [show m = l.foldl min i by omega]
        exact kInt k
  | _ => cases hz
theorem cd_max (hc : X.calm = true) : CallR X (.builtin "max") (rC1 X.K O1.maxL.sem) := by
  intro pins s σ H xs us Q I rx h
  obtain ⟨x, rfl, d, z, S, r, hz, k⟩ := h
  cases d with
  | lst o ds =>
    change (match ints? ds with | some (i :: r) => some (D.int (r.foldl max i)) | _ => none) = some z at hz
    cases hi : ints? ds with
    | none => rw [hi] at hz; cases hz
    | some l =>
      rw [hi] at hz
      cases l with
      | nil => cases hz
      | cons i l =>
        cases hz
        obtain ⟨a, vs, T, rfl, q, r, _⟩ := lst_sq r
        have := ints_rep r hi
        subst this
        refine cr_max hc pins s σ H _ us Q I rx ⟨a, i :: l, rfl, .inl q, by simp, fun m hm hy => ?_⟩
        obtain ⟨h1, h2⟩ := foldl_max i l
        have := hy _ h1
        have := h2 m hm
        rw [show m = l.foldl max i by omega]
        exact kInt k
  | _ => cases hz

/-! ### two arguments -/
def rC2 (K : PySem.W.Frag) (g : D → D → Option D) : List V → Hp → VK → Prop := fun xs H Q => ∃ x y, xs = [x, y] ∧ rD K g x y H Q
variable {C : Cfg} {W : WX} {pos : Pos}
theorem se_cb2 {a b : Expr} {a' b' : E} {o : O2} {x : Str} {id : String} {p : Pos} (hK : X.K = C.K) (hc : CallR X (.builtin id) (rC2 X.K o.sem)) (hg : Gl X x) (hm : X.mg x = none) (hv : bootBuiltins x = some (.builtin id)) (ha : PE X a (tD C W a')) (hb : PE X b (tD C W b')) (hop : own (.o2 o a' b') = true) (hs : (own a' || quiet b') = true)
    (hn : x ≠ "__name__") (hdb : (x == ("__debug__" : Str)) = false) (he : starEach [a, b] X.env = (false, eval a X.env) :: starEach [b] X.env) (he2 : starEach [b] X.env = (false, eval b X.env) :: starEach [] X.env) (hpl : (backTo pos (starEach [b] X.env)).any (·.1) = false) : PE X (.Call (.Name x p) [a, b] [] pos) (tD C W (.o2 o a' b')) := by
  refine pemono (pe_callB (by rw [← hK]; exact hc : CallR X (.builtin id) (rC2 C.K o.sem)) hg hm hv (pa_cons ha (pa_cons hb pa_nil he2) he) hn hdb he hpl) fun σ H Q h => ?_
  obtain ⟨ρ, SV, hv, nd, h⟩ := tD_o2 hop hs h
  refine ⟨ρ, SV, hv, nd, ?_⟩
  cases m : ev a' ρ with
  | bad => rw [m] at h; exact h
  | exc x ρ' => rw [m] at h; exact h
  | ok d ρ1 =>
    rw [m] at h
    intro v H1 SV1 e1 r1
    obtain ⟨ρ2, SV2, hv2, nd2, h2⟩ := h v H1 SV1 e1 r1
    refine ⟨ρ2, SV2, hv2, nd2, ?_⟩
    cases m2 : ev b' ρ2 with
    | bad => rw [m2] at h2; exact h2
    | exc x ρ' => rw [m2] at h2; exact h2
    | ok d2 ρ3 => rw [m2] at h2; exact fun w H2 SV3 e2 r2 => ⟨v, w, rfl, h2 w H2 SV3 e2 r2⟩
theorem cd_min2 (hc : X.calm = true) : CallR X (.builtin "min") (rC2 X.K O2.min2.sem) := by
  intro pins s σ H xs us Q I rx h
  obtain ⟨x, y, rfl, d, e, z, S, T, r1, r2, hz, k⟩ := h
  obtain ⟨i, j, rfl, rfl, rfl⟩ := I2_some hz
  exact call_min2 hc pins s σ H _ us Q I rx ⟨i, j, by rw [r1.1, r2.1], kInt k⟩
theorem cd_max2 (hc : X.calm = true) : CallR X (.builtin "max") (rC2 X.K O2.max2.sem) := by
  intro pins s σ H xs us Q I rx h
  obtain ⟨x, y, rfl, d, e, z, S, T, r1, r2, hz, k⟩ := h
  obtain ⟨i, j, rfl, rfl, rfl⟩ := I2_some hz
  exact call_max2 hc pins s σ H _ us Q I rx ⟨i, j, by rw [r1.1, r2.1], kInt k⟩
end
end Ly

namespace Ly
open PySem PySem.Spec L2
variable [Fns]

/-- an iterator that hands out new tuples; Js: what stands of its sources; It i vs: its i-th tuple -/
def JT (n : Nat) (Js : Hp → Prop) (Itm : Nat → List V → Prop) : L2.It :=
  ⟨fun i H => Js H ∧ i < n, fun i H v H' => ∃ T vs, v = .ref T ∧ H T = none ∧ H' = upd H T (.tup vs) ∧ Itm i vs, fun i H => Js H ∧ i = n⟩
theorem turn_T {P : Program} {w : World} {K : PySem.W.Frag} {elts : List Expr} {kk : Nat} {tpos : Pos} {I : Addr} {fpT wr : List Addr} {n : Nat} {Js : Hp → Prop} {Itm : Nat → List V → Prop} {tn : Nat → Heap → Prop}
    (mem : I ∈ fpT) (hwr : ∀ b ∈ wr, b ∈ fpT) (obj : ∀ i h, tn i h → ∀ b ∈ fpT, ∃ o, h.get? b = some o ∧ ∀ v, o.data ≠ .cell v) (keep : ∀ i h h', tn i h → (∀ b ∈ fpT, ∀ o, h.get? b = some o → h'.get? b = some o) → tn i h')
    (slf : ∀ (A : Around) (i : Nat) (s : Shared) (Q : Value → Shared → Prop) (E : Value → Shared → Prop), tn i s.heap → Q (.ref I) s → wpAny (model P w) A (pyIter (.ref I)) Q E s) (small : ∀ i vs, Itm i vs → vs.length ≤ sizeLine)
    (src : ∀ (X : Cx), X.prog = P → X.w = w → X.K = K → X.calm = true → ∀ (i : Nat) (pins : List (Addr × Obj)) (s : Shared) (σ : St) (H : Hp), Inv X pins σ H s → (∀ b ∈ fpT, FpOk X pins H b) → tn i s.heap → Js H →
      ∃ (fp : List Addr) (Pt : Nat → Array Value → Prop) (St' : Nat → Heap → Prop) (Mid : Nat → Addr → Heap → Prop), WalksT P w X.A I fp wr n Pt St' Mid ∧ St' i s.heap ∧ (∀ h', St' (i + 1) h' → tn (i + 1) h') ∧ ∀ vals, Pt i vals → ∃ vs, Vals vs vals.toList ∧ Itm i vs) :
    Turn P w K (.Tuple elts kk tpos) (JT n Js Itm) fpT I tn where
  mem := mem
  obj := obj
  keep := keep
  item := by
    intro X hP hw hK hc i pins s σ H E Iv hf st hg
    obtain ⟨fp, Pt, St', Mid, W, st', up, itm⟩ := src X hP hw hK hc i pins s σ H Iv hf st hg.1
    subst hP hw hK
    have lt : ∀ b ∈ wr, b < s.heap.objs.size := fun b hb => by
      obtain ⟨o, ho, _⟩ := obj i s.heap st b (hwr b hb)
      exact Heap.lt_size ho
    refine W.item i s _ _ hg.2 st' fun T vals h' tk hPt hT htup hmid hk => ?_
    refine ⟨.ref T, rfl, W.go elts kk tpos i T { s with heap := h', toks := tk } _ _ hmid fun h'' hst'' hk'' => ?_⟩
    obtain ⟨vs, rv, im⟩ := itm vals hPt
    have hTw : T ∉ wr := W.apart i T h' hmid
    have htup2 : h''.IsTuple T vals := htup.at fun o e => hk'' T o hTw e
    have new : ObjOk X.prog X.w (upd H T (.tup vs)) h'' T (.tup vs) := ⟨small i vs im, vals.toList, rv, by rw [Array.toArray_toList]; exact htup2⟩
    have I1 : Inv X pins σ (upd H T (.tup vs)) { s with heap := h'', toks := tk } := Iv.turnedNew (ch := wr) (fun b o hb e => hk'' b o hb (hk b o hb e)) (fun b hb => hf b (hwr b hb)) hT new
    refine ⟨.ref T, _, I1, rfl, ⟨T, vs, rfl, Iv.hok.fresh hT, rfl, im⟩, up h'' hst'', fun b hb => ?_⟩
    obtain ⟨o, ho, _⟩ := obj i s.heap st b hb
    rw [upd_ne (Nat.ne_of_lt (Nat.lt_of_lt_of_le (Heap.lt_size ho) hT))]
    exact (hf b hb).1
  done := by
    intro X hP hw hK hc i pins s σ H E Iv hf st hg
    obtain ⟨fp, Pt, St', Mid, W, st', up, itm⟩ := src X hP hw hK hc i pins s σ H Iv hf st hg.1
    subst hP hw hK
    have st'' : St' n s.heap := by rw [← hg.2]; exact st'
    exact W.done s _ _ st'' fun h' tk hk => ⟨rfl, Iv.turnedL (ch := wr) (fun b o hb e => hk b o hb e) (fun b hb => hf b (hwr b hb))⟩
  self := slf

/-! ### a source by itself -/
/-- a value that is walked, as it stands: a list, a tuple, a text -/
inductive Sr where
  | L (a : Addr)
  | T (a : Addr)
  | S (x : Str) (t : Tok)
def Sr.val : Sr → Value
  | .L a => .ref a
  | .T a => .ref a
  | .S x t => .str x t
def Sr.obj : Sr → Obj
  | .L a => { cls := .type "list_iterator", data := .fields #[.ref a, .int 0 0] }
  | .T a => { cls := .type "tuple_iterator", data := .fields #[.ref a, .int 0 0] }
  | .S x t => { cls := .type (strIterType x), data := .fields #[.str x t, .int 0 0] }
/-- its items, in the abstract heap -/
def Sr.ok (K : PySem.W.Frag) (H : Hp) (vs : List V) : Sr → Prop
  | .L a => SqL K H a vs
  | .T a => SqT K H a vs
  | .S x _ => vs = x.cps.toList.map fun c => .str ⟨#[c]⟩
/-- its iterator at it, ahead of turn i -/
def Sr.at_ (it : Addr) (i : Nat) (h : Heap) : Sr → Prop
  | .L a => h.IsListIter it a i
  | .T a => h.IsTupleIter it a i
  | .S x t => h.IsStrIter it (strIterType x) x t i
def Sr.fp (it : Addr) : Sr → List Addr
  | .L a => [it, a]
  | .T a => [it, a]
  | .S _ _ => [it]
def Sr.st (h : Heap) (its : Array Value) : Sr → Prop
  | .L a => h.IsList a its
  | .T a => h.IsTuple a its
  | .S _ _ => True
def Sr.item (i : Nat) (its : Array Value) (v : Value) : Sr → Prop
  | .S x _ => ∃ c u, x.cps[i]? = some c ∧ v = .str ⟨#[c]⟩ u
  | _ => its[i]? = some v
theorem Sr.obj0 {it : Addr} {h : Heap} : ∀ s : Sr, h.get? it = some s.obj → s.at_ it 0 h
  | .L a, e => ⟨_, e, rfl, rfl⟩
  | .T a, e => ⟨_, e, rfl, rfl⟩
  | .S x t, e => ⟨_, e, rfl, rfl⟩
theorem Sr.atObj {it : Addr} {i : Nat} {h : Heap} : ∀ s : Sr, s.at_ it i h → ∃ o, h.get? it = some o ∧ (∃ c vs, o.cls = .type c ∧ o.data = .fields vs ∧ c ≠ "list" ∧ c ≠ "tuple")
  | .L a, ⟨o, e, c, d⟩ => ⟨o, e, _, _, c, d, by decide, by decide⟩
  | .T a, ⟨o, e, c, d⟩ => ⟨o, e, _, _, c, d, by decide, by decide⟩
  | .S x t, ⟨o, e, c, d⟩ => ⟨o, e, _, _, c, d, by unfold strIterType; split <;> decide, by unfold strIterType; split <;> decide⟩
theorem Sr.keep {it : Addr} {i : Nat} {h h' : Heap} (k : ∀ o, h.get? it = some o → h'.get? it = some o) : ∀ s : Sr, s.at_ it i h → s.at_ it i h'
  | .L a, e => e.at k
  | .T a, e => e.at k
  | .S x t, ⟨o, e, c, d⟩ => ⟨o, k o e, c, d⟩
section
variable {X : Cx} {pins : List (Addr × Obj)} {σ : St} {H : Hp} {s : Shared}
/-- a source in the machine -/
theorem Sr.there (I : Inv X pins σ H s) {vs : List V} : ∀ sr : Sr, sr.ok X.K H vs → ∃ its : Array Value, sr.st s.heap its ∧ Begins sr.val sr.obj (fun h => sr.st h its) ∧ (∀ i v, sr.item i its v → ∃ x, vs[i]? = some x ∧ RelV x v) ∧
    (match sr with | .S x _ => x.cps.size | _ => its.size) = vs.length
  | .L a, h => by
    obtain ⟨its, r, p, hz⟩ := I.list h
    refine ⟨its.toArray, p.isList, begins_list a its.toArray, fun i v e => ?_, by simp [r.length]⟩
    have e : its[i]? = some v := by simpa [Sr.item] using e
    obtain ⟨hi, ei⟩ := List.getElem?_eq_some_iff.mp e
    obtain ⟨u, e1, e2⟩ := r.get (List.getElem?_eq_getElem (show i < vs.length by rw [r.length]; exact hi))
    rw [e] at e1
    cases e1
    exact ⟨_, List.getElem?_eq_getElem _, e2⟩
  | .T a, h => by
    obtain ⟨its, r, p, hz⟩ := I.tuple h
    refine ⟨its.toArray, p, begins_tuple a its.toArray, fun i v e => ?_, by simp [r.length]⟩
    have e : its[i]? = some v := by simpa [Sr.item] using e
    obtain ⟨hi, ei⟩ := List.getElem?_eq_some_iff.mp e
    obtain ⟨u, e1, e2⟩ := r.get (List.getElem?_eq_getElem (show i < vs.length by rw [r.length]; exact hi))
    rw [e] at e1
    cases e1
    exact ⟨_, List.getElem?_eq_getElem _, e2⟩
  | .S x t, h => by
    have h : vs = x.cps.toList.map fun c => V.str ⟨#[c]⟩ := h
    subst h
    refine ⟨#[], trivial, begins_text x t, fun i v e => ?_, by simp⟩
    obtain ⟨c, u, ec, rfl⟩ := e
    refine ⟨.str ⟨#[c]⟩, ?_, u, rfl⟩
    rw [List.getElem?_map, Array.getElem?_toList, ec]
    rfl
theorem Sr.draws (hh : X.A.in1.handled = none) {its : Array Value} {it : Addr} {vs : List V} (hn : ∀ sr : Sr, (match sr with | .S x _ => x.cps.size | _ => its.size) = (match sr with | .S x _ => x.cps.size | _ => its.size)) : ∀ sr : Sr, (∀ a, sr = .L a ∨ sr = .T a → a ≠ it) →
    Draws X.prog X.w X.A.in1 it (sr.fp it) (match sr with | .S x _ => x.cps.size | _ => its.size) (fun i v => sr.item i its v) (fun i h => sr.at_ it i h ∧ sr.st h its)
  | .L a, h => Draws.list hh it a (h a (.inl rfl)) its
  | .T a, h => Draws.tuple hh it a (h a (.inr rfl)) its
  | .S x t, _ => by
    have D := Draws.text (prog := X.prog) (w := X.w) hh it x t
    exact ⟨fun i h st => D.live i h st.1, fun i h h' st k => ⟨D.frame i h h' st.1 k, trivial⟩, fun i s Q E hi st hQ => D.item i s Q E hi st.1 fun x h' tk p st' sb => hQ x h' tk p ⟨st', trivial⟩ sb, fun s Q E st hE => D.done s Q E st.1 hE⟩
theorem Sr.ne {sr : Sr} {its : Array Value} {it : Addr} {h : Heap} (st : sr.st h its) (at_ : ∃ o, h.get? it = some o ∧ (∃ c vs, o.cls = .type c ∧ o.data = .fields vs ∧ c ≠ "list" ∧ c ≠ "tuple")) : ∀ a, sr = .L a ∨ sr = .T a → a ≠ it := fun a e q => by
  subst q
  obtain ⟨o, ho, c, vs, hc, _, h1, h2⟩ := at_
  rcases e with rfl | rfl
  · obtain ⟨o', ho', hc', _⟩ := (show h.IsList a its from st)
    rw [ho] at ho'
    cases ho'
    rw [hc] at hc'
    exact h1 (by simpa using hc')
  · obtain ⟨o', ho', hc', _⟩ := (show h.IsTuple a its from st)
    rw [ho] at ho'
    cases ho'
    rw [hc] at hc'
    exact h2 (by simpa using hc')
theorem handled_in1 {A : Around} (h : A.handled = none) : A.in1.handled = none := h
end
end Ly

namespace Ly
open PySem PySem.Spec L2
variable [Fns]
open Sem (wp)
theorem meets_enum1 {v : Value} {o : Obj} {H : Heap → Prop} (B : Begins v o H) :
    Meets (Builtin.«enumerate.__new__» ⟨[.type "enumerate", v], []⟩) (fun _ R s => H s.heap ∧
      R (.ok (.ret (.ref (s.heap.push o).objs.size))) { s with heap := (s.heap.push o).push { cls := .type "enumerate", data := .fields #[.none, .bool false, .ref s.heap.objs.size, rawInt 0, .none, .none] } }) :=
  .of_wp fun prog w A R s h => by
    obtain ⟨hp, g, d, tk, os⟩ := s; obtain ⟨h1, h⟩ := h
    have hsub := sub_enumerate
    have q1 : ∀ {A' : Around} {E : Value → Shared → Prop} {Q : Value → Shared → Prop}, Q (.ref hp.objs.size) ⟨hp.push o, g, d, tk, os⟩ → wpAny (model prog w) A' (pyIter v) Q E ⟨hp, g, d, tk, os⟩ :=
      fun q => B.iter prog w _ _ ⟨hp, g, d, tk, os⟩ _ h1 q
    wp_walk using q1
    refine wpAny_stack_any fun st => wpAny_pure ?_
    split
    · rename_i c _ _ _ _ _
      cases (c == Value.type "enumerate")
      · wp_walk using q1
        exact ⟨_, rfl, h⟩
      · wp_walk using q1
        exact ⟨_, rfl, h⟩
    · wp_walk using q1
      exact ⟨_, rfl, h⟩
theorem enum_begins1 {prog : Program} {w : World} {A : Around} {E : Value → Shared → Prop} {s : Shared} {v : Value} {o : Obj} {H : Heap → Prop} {Q : Value → Shared → Prop} (B : Begins v o H) (h1 : H s.heap)
    (h : ∀ h', IsEnum h' (s.heap.objs.size + 1) s.heap.objs.size 0 .none → h'.get? s.heap.objs.size = some o → h'.objs.size = s.heap.objs.size + 2 →
      (∀ b o, s.heap.get? b = some o → h'.get? b = some o) → Q (.ref (s.heap.objs.size + 1)) { s with heap := h' }) :
    wpAny (model prog w) A (call (.type "enumerate") [v]) Q E s := by
  refine callType_new F.called_enumerate (by decide) (F.typeCall_enumerate_1 _) (F.newCall_enumerate_1 _) (fun obj => F.args_object_init_2 obj _) F.entry_enumerate_new (meets_enum1 B) ⟨h1, ?_⟩
  have hz : (s.heap.push o).objs.size = s.heap.objs.size + 1 := Heap.size_push ..
  show _ ∧ _
  rw [hz]
  have he : IsEnum ((s.heap.push o).push { cls := .type "enumerate", data := .fields #[.none, .bool false, .ref s.heap.objs.size, rawInt 0, .none, .none] }) (s.heap.objs.size + 1) s.heap.objs.size 0 .none := by
    have := Heap.get?_push_size (s.heap.push o) (o := { cls := .type "enumerate", data := .fields #[.none, .bool false, .ref s.heap.objs.size, rawInt 0, .none, .none] }) rfl
    rw [hz] at this; exact this
  refine ⟨⟨_, he, rfl⟩, h _ he (Heap.get?_push_of_some _ (Heap.get?_push_size _ B.free)) (by rw [Heap.size_push, hz]) fun b o x => Heap.get?_push_of_some _ (Heap.get?_push_of_some _ x)⟩

/-- the pairs of enumerate -/
def enumItm (vs : List V) (i : Nat) (ws : List V) : Prop := ∃ x, vs[i]? = some x ∧ ws = [.int (i : Nat), x]
theorem turn_enumS {P : Program} {w : World} {K : PySem.W.Frag} {elts : List Expr} {kk : Nat} {tpos : Pos} {sr : Sr} {vs : List V} {e it : Addr} :
    Turn P w K (.Tuple elts kk tpos) (JT vs.length (fun H => sr.ok K H vs) (enumItm vs)) [e, it] e (fun i h => (∃ old, IsEnum h e it ((i : Nat) : Int) old) ∧ sr.at_ it i h ∧ e ≠ it) := by
  refine turn_T (wr := [e, it]) (by simp) (fun b hb => hb) (fun i h st b hb => ?_) (fun i h h' st k => ?_) (fun A i s Q E st h => ?_) (fun i ws h => ?_) (fun X hP hw hK hc i pins s σ H Iv hf st hg => ?_)
  · obtain ⟨⟨old, he⟩, ha, _⟩ := st
    have e' : b = e ∨ b = it := by simpa using hb
    rcases e' with z | z
    · rw [z]; exact ⟨_, he, fun v q => nomatch q⟩
    · obtain ⟨o, ho, c, vs, _, hd, _⟩ := sr.atObj ha
      rw [z]; exact ⟨o, ho, fun v q => by rw [hd] at q; cases q⟩
  · obtain ⟨⟨old, he⟩, ha, hne⟩ := st
    exact ⟨⟨old, k e (by simp) _ he⟩, sr.keep (fun o q => k it (by simp) o q) ha, hne⟩
  · obtain ⟨⟨_, he⟩, _⟩ := st
    exact wpAny_pyIter_enum he h
  · obtain ⟨x, _, rfl⟩ := h
    show 2 ≤ sizeLine
    decide
  · subst hP hw hK
    obtain ⟨⟨old, he⟩, ha, hne⟩ := st
    obtain ⟨its, hst, B, itm, hlen⟩ := Sr.there Iv sr hg
    have hdi := Sr.ne hst (sr.atObj ha)
    have hde := Sr.ne hst (it := e) ⟨_, he, "enumerate", _, rfl, rfl, by decide, by decide⟩
    have D := Sr.draws (X := X) (its := its) (it := it) (vs := vs) (handled_in1 (Iv.ok.hd hc)) (fun _ => rfl) sr hdi
    rw [hlen] at D
    have hef : e ∉ sr.fp it := by
      cases sr with
      | L a => intro q; have q : e = it ∨ e = a := by simpa [Sr.fp] using q
               exact q.elim hne fun z => hde a (.inl rfl) z.symm
      | T a => intro q; have q : e = it ∨ e = a := by simpa [Sr.fp] using q
               exact q.elim hne fun z => hde a (.inr rfl) z.symm
      | S x t => intro q; have q : e = it := by simpa [Sr.fp] using q
                 exact hne q
    have hif : it ∈ sr.fp it := by cases sr <;> simp [Sr.fp]
    refine ⟨_, _, _, _, WalksT.enumerateD D e hne hef hif, ⟨⟨old, he⟩, ha, hst⟩, fun h' z => ⟨z.1, z.2.1, hne⟩, fun vals hp => ?_⟩
    obtain ⟨t, x, hx, rfl⟩ := hp
    obtain ⟨y, hy, ry⟩ := itm i x hx
    exact ⟨[.int i, y], .cons ⟨t, rfl⟩ (.cons ry .nil), y, hy, rfl⟩
section
variable {X : Cx}
/-- what a value is as a source -/
def srcOf (sr : Sr) (x : V) (u : Value) : Prop := RelV x u ∧ u = sr.val
def iEnumS (K : PySem.W.Frag) (ta : TA) : TI := fun σ H R => ta σ H fun ws H1 => ∃ x, ws = [x] ∧ ∀ u, RelV x u → ∃ (sr : Sr) (vs : List V), u = sr.val ∧ sr.ok K H1 vs ∧ R (JT vs.length (fun H => sr.ok K H vs) (enumItm vs)) H1
theorem pi_enumS {e : Expr} {ta : TA} {p pos tpos : Pos} {elts : List Expr} {kk : Nat} (hg : Gl X "enumerate") (hm : X.mg "enumerate" = none) (ha : PA X [e] ta) (hs : starEach [e] X.env = [(false, eval e X.env)]) :
    PI X (.Tuple elts kk tpos) (.Call (.Name "enumerate" p) [e] [] pos) (iEnumS X.K ta) := by
  refine ⟨fun pins s σ H R I h => ?_⟩
  refine PyProof.Rows.Call_ (ld_blt I hg hm PyProof.Rows.boot_enumerate (PyProof.Rows.callWith_type1 (thn (ha.run pos pins s σ H _ I h) fun us s1 ⟨ws, H1, I1, r1, q1⟩ => ?_) hs rfl))
  obtain ⟨x, ex, q⟩ := q1
  subst ex
  cases r1 with
  | cons r rr =>
    cases rr
    obtain ⟨sr, vs, rfl, hok, q⟩ := q _ r
    obtain ⟨its, hst, B, itm, hlen⟩ := Sr.there I1 sr hok
    refine enum_begins1 B hst fun h' he hit hsz hk => wpAny_pyIter_enum he ?_
    have I2 : Inv X pins σ H1 { s1 with heap := h' } := I1.kept (t' := s1.toks) hk
    refine ⟨s1.heap.objs.size + 1, [s1.heap.objs.size + 1, s1.heap.objs.size], _, _, H1, rfl, I2, turn_enumS (sr := sr) (vs := vs) (e := s1.heap.objs.size + 1) (it := s1.heap.objs.size), ⟨⟨.none, he⟩, sr.obj0 hit, Nat.succ_ne_self _⟩, fun b hb => ?_, q⟩
    have e' : b = s1.heap.objs.size + 1 ∨ b = s1.heap.objs.size := by simpa using hb
    have hle : s1.heap.objs.size ≤ b := by
      rcases e' with z | z
      · rw [z]; exact Nat.le_add_right _ _
      · rw [z]; exact Nat.le_refl _
    exact I1.fpOk hle (I1.hok.fresh hle)
end

/-! ### zip of two -/
def zipItm (vs ws : List V) (i : Nat) (us : List V) : Prop := ∃ x y, vs[i]? = some x ∧ ws[i]? = some y ∧ us = [x, y]
theorem Sr.notfp {sr : Sr} {its : Array Value} {it c : Addr} {h : Heap} (st : sr.st h its) (hne : c ≠ it) (hc : ∀ a, sr = .L a ∨ sr = .T a → a ≠ c) : c ∉ sr.fp it := by
  cases sr with
  | L a => intro q; have q : c = it ∨ c = a := by simpa [Sr.fp] using q
           exact q.elim hne fun z => hc a (.inl rfl) z.symm
  | T a => intro q; have q : c = it ∨ c = a := by simpa [Sr.fp] using q
           exact q.elim hne fun z => hc a (.inr rfl) z.symm
  | S x t => intro q; have q : c = it := by simpa [Sr.fp] using q
             exact hne q
theorem Sr.infp {sr : Sr} {it : Addr} : it ∈ sr.fp it := by cases sr <;> simp [Sr.fp]
/-- the source's own object is tracked, or one of the module: none of the iterators' cells -/
theorem Sr.notT {X : Cx} {pins : List (Addr × Obj)} {σ : St} {H : Hp} {s : Shared} {sr : Sr} {vs : List V} {c : Addr} (I : Inv X pins σ H s) (hok : sr.ok X.K H vs) (hc : FpOk X pins H c) : ∀ a, sr = .L a ∨ sr = .T a → a ≠ c := fun a e q => by
  subst q
  have base : ∀ o, X.K.lookup a = some o → False := fun o ho => by
    have hb : X.base.get? a = some o := I.ok.mod.kin a o ho
    rcases hc.2.2.2.1 with z | z
    · exact I.ok.noex a o hb z
    · have := (I.ok.bs a o hb).1
      exact absurd (Nat.lt_of_lt_of_le (Heap.lt_size this) z) (Nat.lt_irrefl _)
  have track : ∀ u, Rd H a u → False := fun u hu => by
    rcases hu with hu | ⟨o, hu⟩
    · rw [hc.1] at hu; cases hu
    · rw [hc.1] at hu; cases hu
  rcases e with rfl | rfl
  · rcases (show SqL X.K H a vs from hok) with z | ⟨o, _, _, z, _⟩
    · exact track _ z
    · exact base o z
  · rcases (show SqT X.K H a vs from hok) with z | ⟨o, _, _, z, _⟩
    · exact track _ z
    · exact base o z
theorem turn_zipS {P : Program} {w : World} {K : PySem.W.Frag} {elts : List Expr} {kk : Nat} {tpos : Pos} {sr1 sr2 : Sr} {vs ws : List V} {z TI TO i1 i2 : Addr} (nd : [z, TI, TO, i1, i2].Nodup) :
    Turn P w K (.Tuple elts kk tpos) (JT (min vs.length ws.length) (fun H => sr1.ok K H vs ∧ sr2.ok K H ws) (zipItm vs ws)) [z, TI, TO, i1, i2] z
      (fun i h => IsZip h z TI TO .none ∧ IsTupOf2 h TI (.ref i1) (.ref i2) ∧ (∃ a1 a2, IsTupOf2 h TO a1 a2) ∧ sr1.at_ i1 i h ∧ sr2.at_ i2 i h) := by
  simp only [List.nodup_cons, List.mem_cons, List.not_mem_nil, not_or, not_false_eq_true, and_true, List.nodup_nil, or_false] at nd
  obtain ⟨⟨n1, n2, n3, n4⟩, ⟨n5, n6, n7⟩, ⟨n8, n9⟩, n10⟩ := nd
  refine turn_T (wr := [z, TO, i1, i2]) (by simp) (fun b hb => ?_) (fun i h st b hb => ?_) (fun i h h' st k => ?_) (fun A i s Q E st h => ?_) (fun i us h => ?_) (fun X hP hw hK hc i pins s σ H Iv hf st hg => ?_)
  · have e' : b = z ∨ b = TO ∨ b = i1 ∨ b = i2 := by simpa using hb
    rcases e' with q | q | q | q <;> simp [q]
  · obtain ⟨hz, hTI, ⟨x, y, hTO⟩, h1, h2⟩ := st
    have e' : b = z ∨ b = TI ∨ b = TO ∨ b = i1 ∨ b = i2 := by simpa using hb
    rcases e' with q | q | q | q | q
    · rw [q]; exact ⟨_, hz, fun v q => nomatch q⟩
    · rw [q]; exact ⟨_, hTI, fun v q => nomatch q⟩
    · rw [q]; exact ⟨_, hTO, fun v q => nomatch q⟩
    · obtain ⟨o, ho, c, vs, _, hd, _⟩ := sr1.atObj h1
      rw [q]; exact ⟨o, ho, fun v q => by rw [hd] at q; cases q⟩
    · obtain ⟨o, ho, c, vs, _, hd, _⟩ := sr2.atObj h2
      rw [q]; exact ⟨o, ho, fun v q => by rw [hd] at q; cases q⟩
  · obtain ⟨hz, hTI, ⟨x, y, hTO⟩, h1, h2⟩ := st
    exact ⟨k z (by simp) _ hz, k TI (by simp) _ hTI, ⟨x, y, k TO (by simp) _ hTO⟩, sr1.keep (fun o q => k i1 (by simp) o q) h1, sr2.keep (fun o q => k i2 (by simp) o q) h2⟩
  · exact wpAny_pyIter_zip st.1 h
  · obtain ⟨x, y, _, _, rfl⟩ := h
    show 2 ≤ sizeLine
    decide
  · subst hP hw hK
    obtain ⟨hz, hTI, ⟨x, y, hTO⟩, h1, h2⟩ := st
    obtain ⟨its1, st1, B1, itm1, len1⟩ := Sr.there Iv sr1 hg.1
    obtain ⟨its2, st2, B2, itm2, len2⟩ := Sr.there Iv sr2 hg.2
    have m1 : ∀ c, c ∈ [z, TI, TO, i1, i2] → ∀ a, sr1 = .L a ∨ sr1 = .T a → a ≠ c := fun c hc => Sr.notT Iv hg.1 (hf c hc)
    have m2 : ∀ c, c ∈ [z, TI, TO, i1, i2] → ∀ a, sr2 = .L a ∨ sr2 = .T a → a ≠ c := fun c hc => Sr.notT Iv hg.2 (hf c hc)
    have D1 := Sr.draws (X := X) (its := its1) (it := i1) (vs := vs) (handled_in1 (Iv.ok.hd hc)) (fun _ => rfl) sr1 (m1 i1 (by simp))
    have D2 := Sr.draws (X := X) (its := its2) (it := i2) (vs := ws) (handled_in1 (Iv.ok.hd hc)) (fun _ => rfl) sr2 (m2 i2 (by simp))
    rw [len1] at D1
    rw [len2] at D2
    have S : ZipSep2 z TI TO i1 i2 (sr1.fp i1) (sr2.fp i2) :=
      { TIz := Ne.symm n1, TOz := Ne.symm n2, TITO := n5, TIi1 := n6, mem1 := Sr.infp, zf1 := Sr.notfp st1 n3 (m1 z (by simp)), Tf1 := Sr.notfp st1 n8 (m1 TO (by simp)),
        TIi2 := n7, mem2 := Sr.infp, zf2 := Sr.notfp st2 n4 (m2 z (by simp)), Tf2 := Sr.notfp st2 n9 (m2 TO (by simp)),
        sep1_2 := Sr.notfp st2 n10 (m2 i1 (by simp)), sep2_1 := Sr.notfp st1 (Ne.symm n10) (m1 i2 (by simp)) }
    refine ⟨_, _, _, _, WalksT.zipD2 S D1 D2, ⟨hz, hTI, ⟨x, y, hTO⟩, ⟨h1, st1⟩, ⟨h2, st2⟩⟩, fun h' q => ⟨q.1, q.2.1, q.2.2.1, q.2.2.2.1.1, q.2.2.2.2.1⟩, fun vals hp => ?_⟩
    obtain ⟨x1, x2, p1, p2, rfl⟩ := hp
    obtain ⟨y1, e1, r1⟩ := itm1 i x1 p1
    obtain ⟨y2, e2, r2⟩ := itm2 i x2 p2
    exact ⟨[y1, y2], .cons r1 (.cons r2 .nil), y1, y2, e1, e2, rfl⟩
section
variable {X : Cx}
def iZipS (K : PySem.W.Frag) (ta : TA) : TI := fun σ H R => ta σ H fun xs H1 => ∃ x y, xs = [x, y] ∧ ∀ u v, RelV x u → RelV y v → ∃ (sr1 sr2 : Sr) (vs ws : List V), u = sr1.val ∧ v = sr2.val ∧ sr1.ok K H1 vs ∧ sr2.ok K H1 ws ∧
  R (JT (min vs.length ws.length) (fun H => sr1.ok K H vs ∧ sr2.ok K H ws) (zipItm vs ws)) H1
theorem pi_zipS {e e2 : Expr} {ta : TA} {p pos tpos : Pos} {elts : List Expr} {kk : Nat} (hg : Gl X "zip") (hm : X.mg "zip" = none) (ha : PA X [e, e2] ta) (hs : starEach [e, e2] X.env = (false, eval e X.env) :: starEach [e2] X.env) (hpl : (backTo pos (starEach [e2] X.env)).any (·.1) = false) :
    PI X (.Tuple elts kk tpos) (.Call (.Name "zip" p) [e, e2] [] pos) (iZipS X.K ta) := by
  refine ⟨fun pins s σ H R I h => ?_⟩
  refine PyProof.Rows.Call_ (ld_blt I hg hm PyProof.Rows.boot_zip (PyProof.Rows.callWith_type1 (thn (ha.run pos pins s σ H _ I h) fun us s1 ⟨xs, H1, I1, r1, q1⟩ => ?_) hs hpl))
  obtain ⟨x, y, ex, q⟩ := q1
  subst ex
  cases r1 with
  | cons r rr =>
    cases rr with
    | cons r' rr =>
      cases rr
      obtain ⟨sr1, sr2, vs, ws, rfl, rfl, ok1, ok2, q⟩ := q _ _ r r'
      obtain ⟨its1, st1, B1, itm1, len1⟩ := Sr.there I1 sr1 ok1
      obtain ⟨its2, st2, B2, itm2, len2⟩ := Sr.there I1 sr2 ok2
      refine zip_begins2 B1 B2 st1 st2 fun h' hz hTI hTO h1 h2 hsz hk => wpAny_pyIter_zip hz ?_
      have I2 : Inv X pins σ H1 { s1 with heap := h' } := I1.kept (t' := s1.toks) hk
      refine ⟨s1.heap.objs.size + 4, [s1.heap.objs.size + 4, s1.heap.objs.size + 2, s1.heap.objs.size + 3, s1.heap.objs.size, s1.heap.objs.size + 1], _, _, H1, rfl, I2, turn_zipS (sr1 := sr1) (sr2 := sr2) (vs := vs) (ws := ws) ?_, ⟨hz, hTI, ⟨_, _, hTO⟩, sr1.obj0 h1, sr2.obj0 h2⟩, fun c hcm => ?_, q⟩
      · generalize s1.heap.objs.size = n
        have ne : ∀ a b : Nat, a ≠ b → n + a ≠ n + b := fun a b h e => h (Nat.add_left_cancel e)
        have ne0 : ∀ a : Nat, a ≠ 0 → n + a ≠ n := fun a h e => h (by have e : n + a = n + 0 := e; exact Nat.add_left_cancel e)
        simp only [List.nodup_cons, List.mem_cons, List.not_mem_nil, not_or, not_false_eq_true, and_true, List.nodup_nil, or_false]
        exact ⟨⟨ne 4 2 (by decide), ne 4 3 (by decide), ne0 4 (by decide), ne 4 1 (by decide)⟩, ⟨ne 2 3 (by decide), ne0 2 (by decide), ne 2 1 (by decide)⟩, ⟨ne0 3 (by decide), ne 3 1 (by decide)⟩, fun e => ne0 1 (by decide) e.symm⟩
      · have e' : c = s1.heap.objs.size + 4 ∨ c = s1.heap.objs.size + 2 ∨ c = s1.heap.objs.size + 3 ∨ c = s1.heap.objs.size ∨ c = s1.heap.objs.size + 1 := by simpa using hcm
        have hle : s1.heap.objs.size ≤ c := by
          rcases e' with z | z | z | z | z
          · rw [z]; exact Nat.le_add_right _ _
          · rw [z]; exact Nat.le_add_right _ _
          · rw [z]; exact Nat.le_add_right _ _
          · rw [z]; exact Nat.le_refl _
          · rw [z]; exact Nat.le_add_right _ _
        exact I1.fpOk hle (I1.hok.fresh hle)
end
end Ly

namespace Ly
open PySem PySem.Spec L2
variable [Fns]
/-- what is walked: ds, frozen, as long as what is frozen in H0 stands -/
structure Wk (K : PySem.W.Frag) (J : L2.It) (H0 : Hp) (ds : List D) : Prop where
  goes : ∀ i H, i < ds.length → Kp [] H0 H → J.go i H
  stops : ∀ H, Kp [] H0 H → J.stop ds.length H
  yields : ∀ i H x H' d, ds[i]? = some d → Kp [] H0 H → J.yld i H x H' → Ext [] H H' ∧ Rep K H' d x []
def tI (C : Cfg) (W : WX) (it : It) : TI := fun σ H R => ∃ ρ SV, Vars C.K H ρ σ SV ∧ SV.Nodup ∧ tK C W σ SV H (fun ds _ _ H' (J : L2.It) => Wk C.K J H' ds) (evIt it ρ) R
theorem wk_of {K : PySem.W.Frag} {J : L2.It} {H0 : Hp} {ds : List D} {vs : List V} {G : Hp → Prop} (w : L2.Walk J vs.length G (YAt vs)) (g : ∀ H, Kp [] H0 H → G H) (r : Reps K H0 ds vs []) : Wk K J H0 ds := by
  have l := r.length
  refine ⟨fun i H hi k => w.goes i H (by omega) (g H k), fun H k => by rw [l]; exact w.stops H (g H k), fun i H x H' d hd k y => ?_⟩
  have hi : i < vs.length := by
    obtain ⟨h, _⟩ := List.getElem?_eq_some_iff.mp hd
    omega
  obtain ⟨rfl, hx⟩ := w.yields i H x H' hi (g H k) y
  obtain ⟨v, e, rv⟩ := r.get0 hd
  rw [hx] at e
  cases e
  exact ⟨.refl, rv.kp d k⟩
section
variable {K : PySem.W.Frag} {H H' : Hp}
theorem SqS.kp {S : List Addr} {a : Addr} {vs : List V} (h : SqS K H a vs) (k : Kp S H H') : SqS K H' a vs := h.imp (fun ⟨o, q⟩ => ⟨o, k a _ q (.inr fun z => z)⟩) id
theorem reps_ints : ∀ ns : List Int, Reps K H (ns.map D.int) (ns.map V.int) []
  | [] => Reps.nil
  | n :: ns => Reps.cons (S1 := []) (S2 := []) (show Rep K H (.int n) (.int n) [] from ⟨rfl, rfl⟩) (reps_ints ns)
theorem reps_strs : ∀ cs : List Nat, Reps K H (cs.map fun c => D.str ⟨#[c]⟩) (cs.map fun c => V.str ⟨#[c]⟩) []
  | [] => Reps.nil
  | c :: cs => Reps.cons (S1 := []) (S2 := []) (show Rep K H (.str ⟨#[c]⟩) (.str ⟨#[c]⟩) [] from ⟨rfl, rfl⟩) (reps_strs cs)
/-- what a sequence lies as -/
theorem seq_cases {d : D} {x : V} {S : List Addr} {ds : List D} (r : Rep K H d x S) (h : seqOf d = some ds) :
    (∃ a vs, x = .ref a ∧ SqT K H a vs ∧ Reps K H ds vs []) ∨ (∃ a vs, x = .ref a ∧ SqS K H a vs ∧ Reps K H ds vs []) ∨ ∃ z, x = .str z ∧ d = .str z ∧ ds = z.cps.toList.map fun c => .str ⟨#[c]⟩ := by
  cases d with
  | tup xs =>
    cases h
    obtain ⟨_, a, vs, rfl, q, r⟩ := r
    exact .inl ⟨a, vs, rfl, q, r⟩
  | lst o xs =>
    cases o with
    | true => cases h
    | false =>
      cases h
      obtain ⟨_, a, vs, rfl, q, r⟩ := r
      exact .inr (.inl ⟨a, vs, rfl, .inl q, r⟩)
  | scr ns =>
    cases h
    obtain ⟨_, a, rfl, q⟩ := r
    exact .inr (.inl ⟨a, _, rfl, q, reps_ints ns⟩)
  | str z =>
    cases h
    exact .inr (.inr ⟨z, r.1, rfl, rfl⟩)
  | _ => cases h
theorem src_of {d : D} {x : V} {S : List Addr} {ds : List D} {u : Value} (r : Rep K H d x S) (h : seqOf d = some ds) (rx : RelV x u) : ∃ sr vs, u = Sr.val sr ∧ (∀ H', Kp [] H H' → sr.ok K H' vs) ∧ Reps K H ds vs [] := by
  rcases seq_cases r h with ⟨a, vs, rfl, q, r⟩ | ⟨a, vs, rfl, q, r⟩ | ⟨z, rfl, rfl, rfl⟩
  · cases rx
    exact ⟨.T a, vs, rfl, fun H' k => SqT.kp q k, r⟩
  · cases rx
    exact ⟨.L a, vs, rfl, fun H' k => (q.kp k).sq, r⟩
  · obtain ⟨t, rfl⟩ := rx
    exact ⟨.S z t, _, rfl, fun H' k => rfl, reps_strs _⟩
theorem wk_range {lo : Int} {n : Nat} : Wk K (Itr lo n) H (rngD lo n) := by
  have len : ∀ (n : Nat) (lo : Int), (rngD lo n).length = n := by
    intro n
    induction n with
    | zero => intro lo; rfl
    | succ n ih => intro lo; show (rngD (lo + 1) n).length + 1 = _; rw [ih]
  have get : ∀ (n : Nat) (lo : Int) (i : Nat) (d : D), (rngD lo n)[i]? = some d → d = .int (lo + i) := by
    intro n
    induction n with
    | zero => intro lo i d h; cases h
    | succ n ih =>
      intro lo i d h
      cases i with
      | zero => cases h; simp
      | succ i =>
        have := ih (lo + 1) i d (by simpa [rngD] using h)
        rw [this]
        congr 1
        push_cast
        omega
  refine ⟨fun i H hi _ => by rw [len] at hi; exact hi, fun H _ => by rw [len]; exact Nat.le_refl n, fun i H x H' d hd _ y => ?_⟩
  obtain ⟨rfl, rfl⟩ := y
  rw [get n lo i d hd]
  exact ⟨.refl, rfl, rfl⟩
theorem enumD_len : ∀ (ds : List D) (n : Nat), (enumD n ds).length = ds.length
  | [], _ => rfl
  | d :: ds, n => congrArg (· + 1) (enumD_len ds (n + 1))
theorem enumD_get : ∀ (ds : List D) (n i : Nat), (enumD n ds)[i]? = ds[i]?.map fun d => .tup [.int ((n + i : Nat) : Int), d]
  | [], _, _ => rfl
  | d :: ds, n, 0 => rfl
  | d :: ds, n, i + 1 => by
    show (enumD (n + 1) ds)[i]? = ds[i]?.map _
    rw [enumD_get ds (n + 1) i, show n + 1 + i = n + (i + 1) by omega]
theorem zipD_len : ∀ (xs ys : List D), (zipD xs ys).length = min xs.length ys.length
  | [], _ => by simp [zipD]
  | _ :: _, [] => by simp [zipD]
  | x :: xs, y :: ys => by
    show (zipD xs ys).length + 1 = _
    rw [zipD_len xs ys, List.length_cons, List.length_cons, Nat.succ_min_succ]
theorem zipD_get : ∀ (xs ys : List D) (i : Nat) (d : D), (zipD xs ys)[i]? = some d → ∃ x y, xs[i]? = some x ∧ ys[i]? = some y ∧ d = .tup [x, y]
  | [], _, _, _, h => by simp [zipD] at h
  | _ :: _, [], _, _, h => by simp [zipD] at h
  | x :: xs, y :: ys, 0, d, h => by cases h; exact ⟨x, y, rfl, rfl, rfl⟩
  | x :: xs, y :: ys, i + 1, d, h => zipD_get xs ys i d h
theorem rep_pair {T : Addr} {d e : D} {x y : V} (hT : H T = none) (r1 : Rep K H d x []) (r2 : Rep K H e y []) : Ext [] H (upd H T (.tup [x, y])) ∧ Rep K (upd H T (.tup [x, y])) (.tup [d, e]) (.ref T) [] := by
  have ex : Ext [] H (upd H T (.tup [x, y])) := Ext.new hT
  exact ⟨ex, rfl, T, _, rfl, .inl (.inl upd_same), Reps.cons (S1 := []) (S2 := []) (r1.kp _ (ex.all _)) (Reps.cons (S1 := []) (S2 := []) (r2.kp _ (ex.all _)) Reps.nil)⟩
theorem wk_enum {sr : Sr} {vs : List V} {ds : List D} (h : ∀ H', Kp [] H H' → sr.ok K H' vs) (r : Reps K H ds vs []) : Wk K (JT vs.length (fun H => sr.ok K H vs) (enumItm vs)) H (enumD 0 ds) := by
  have l := r.length
  refine ⟨fun i H hi k => ⟨h H k, by rw [enumD_len, l] at hi; exact hi⟩, fun H k => ⟨h H k, by rw [enumD_len, l]⟩, fun i H x H' d hd k y => ?_⟩
  obtain ⟨T, ws, rfl, hT, rfl, v, hv, rfl⟩ := y
  rw [enumD_get] at hd
  cases hi : ds[i]? with
  | none => rw [hi] at hd; cases hd
  | some e =>
    rw [hi] at hd
    cases hd
    obtain ⟨v', e1, rv⟩ := r.get0 hi
    rw [hv] at e1
    cases e1
    rw [Nat.zero_add]
    exact rep_pair hT ⟨rfl, rfl⟩ (rv.kp _ k)
theorem wk_zip {s1 s2 : Sr} {vs ws : List V} {ds es : List D} (h1 : ∀ H', Kp [] H H' → s1.ok K H' vs) (h2 : ∀ H', Kp [] H H' → s2.ok K H' ws) (r1 : Reps K H ds vs []) (r2 : Reps K H es ws []) : Wk K (JT (min vs.length ws.length) (fun H => s1.ok K H vs ∧ s2.ok K H ws) (zipItm vs ws)) H (zipD ds es) := by
  have l1 := r1.length
  have l2 := r2.length
  refine ⟨fun i H hi k => ⟨⟨h1 H k, h2 H k⟩, by rw [zipD_len, l1, l2] at hi; exact hi⟩, fun H k => ⟨⟨h1 H k, h2 H k⟩, by rw [zipD_len, l1, l2]⟩, fun i H x H' d hd k y => ?_⟩
  obtain ⟨T, us, rfl, hT, rfl, x, y, hx, hy, rfl⟩ := y
  obtain ⟨d1, d2, e1, e2, rfl⟩ := zipD_get ds es i d hd
  obtain ⟨x', q1, p1⟩ := r1.get0 e1
  obtain ⟨y', q2, p2⟩ := r2.get0 e2
  rw [hx] at q1
  rw [hy] at q2
  cases q1
  cases q2
  exact rep_pair hT (p1.kp _ k) (p2.kp _ k)
end
section
variable {X : Cx} {C : Cfg} {W : WX} {pos : Pos} {tg e : Expr} {e' : E}
/-- a sequence walked -/
theorem pi_seq (hK : X.K = C.K) (he : PE X e (tD C W e')) : PI X tg e (tI C W (.seq e')) := by
  refine ⟨fun pins s σ H R I h => ?_⟩
  obtain ⟨ρ, SV, hv, nd, h⟩ := h
  have h : tK C W σ SV H (fun ds _ _ H' (J : L2.It) => Wk C.K J H' ds) ((ev e' ρ).bind fun d ρ => liftO (seqOf d) ρ) R := h
  cases hev : ev e' ρ with
  | bad => rw [hev] at h; exact h.elim
  | exc x ρ1 =>
    rw [hev] at h
    refine (pi_tup he).run pins s σ H R I ⟨ρ, SV, hv, nd, ?_⟩
    rw [hev]
    exact h
  | ok d ρ1 =>
    rw [hev] at h
    obtain ⟨ds, hds, h⟩ := tK_lift (show tK C W σ SV H (fun ds _ _ H' (J : L2.It) => Wk C.K J H' ds) (liftO (seqOf d) ρ1) R from h)
    cases d with
    | tup xs =>
      cases hds
      refine (pi_tup he).run pins s σ H R I ⟨ρ, SV, hv, nd, ?_⟩
      rw [hev]
      rintro v H1 SV1 e1 ⟨⟨S, r⟩, _⟩
      obtain ⟨_, a, vs, rfl, q, r⟩ := r.rep
      rw [hK]
      exact ⟨a, rfl, ⟨vs, q⟩, h _ H1 SV1 e1 (wk_of walk_tup (fun H k => SqT.kp q k) r)⟩
    | lst o xs =>
      cases o with
      | true => cases hds
      | false =>
        cases hds
        refine (pi_list he).run pins s σ H R I ⟨ρ, SV, hv, nd, ?_⟩
        rw [hev]
        rintro v H1 SV1 e1 ⟨⟨S, r⟩, _⟩
        obtain ⟨_, a, vs, rfl, q, r⟩ := r.rep
        rw [hK]
        exact ⟨a, rfl, ⟨vs, q.sq⟩, h _ H1 SV1 e1 (wk_of walk_list (fun H k => (q.kp k).sq) r)⟩
    | scr ns =>
      cases hds
      refine (pi_list he).run pins s σ H R I ⟨ρ, SV, hv, nd, ?_⟩
      rw [hev]
      rintro v H1 SV1 e1 ⟨⟨S, r⟩, _⟩
      obtain ⟨_, a, rfl, q⟩ := r.rep
      rw [hK]
      exact ⟨a, rfl, ⟨_, q.sq⟩, h _ H1 SV1 e1 (wk_of walk_list (fun H k => (q.kp k).sq) (reps_ints ns))⟩
    | str z =>
      cases hds
      refine (pi_str he).run pins s σ H R I ⟨ρ, SV, hv, nd, ?_⟩
      rw [hev]
      rintro v H1 SV1 e1 ⟨⟨S, r⟩, _⟩
      refine ⟨z, r.rep.1, h _ H1 SV1 e1 (wk_of (vs := z.cps.toList.map fun c => V.str ⟨#[c]⟩) (G := fun _ => True) ?_ (fun _ _ => trivial) (reps_strs _))⟩
      have l : (z.cps.toList.map fun c => V.str ⟨#[c]⟩).length = z.cps.size := by simp
      rw [l]
      refine walk_str.mono (fun _ h => h) fun i H x H' _ _ ⟨e, c, hc, hx⟩ => ⟨e, ?_⟩
      rw [List.getElem?_map, Array.getElem?_toList, hc, hx]
      rfl
    | _ => cases hds
theorem pi_rng1 {a : Expr} {a' : E} {p : Pos} (hg : Gl X "range") (hm : X.mg "range" = none) (ha : PA X [a] (tA C W (.cons a' .nil))) (hs : starEach [a] X.env = [(false, eval a X.env)]) : PI X tg (.Call (.Name "range" p) [a] [] pos) (tI C W (.rng (.cons a' .nil))) := by
  refine ⟨fun pins s σ H R I h => (pi_range1 hg hm ha hs).run pins s σ H R I ?_⟩
  obtain ⟨ρ, SV, hv, nd, h⟩ := h
  have h : tK C W σ SV H (fun ds _ _ H' (J : L2.It) => Wk C.K J H' ds) ((evs (.cons a' .nil) ρ).bind fun ds ρ => liftO (rngOf ds) ρ) R := h
  refine ⟨ρ, SV, hv, nd, tK_bind0 h fun ds ρ1 vs H1 SV1 e1 ⟨⟨S, r1⟩, q1⟩ h1 => ?_⟩
  obtain ⟨l, hl, h1⟩ := tK_lift h1
  have r := r1.rep.reps rfl
  match ds, hl, r with
  | [.int j], hl, r =>
    change (if -4611686018427387904 ≤ j ∧ j < 4611686018427387904 then some (rngD 0 j.toNat) else none) = some l at hl
    split at hl
    · rename_i hc
      cases hl
      obtain ⟨v, vs', S1, S2, rfl, rd, rn, _⟩ := r
      obtain ⟨rfl, _⟩ := rn
      exact ⟨j, by rw [rd.1], hc.1, hc.2, h1 _ H1 SV1 e1 wk_range⟩
    · cases hl
  | [.int i, .int j], hl, r => cases r1.rep with | cons _ t => cases t
theorem pi_rng2 {a b : Expr} {a' b' : E} {p : Pos} (hg : Gl X "range") (hm : X.mg "range" = none) (ha : PA X [a, b] (tA C W (.cons a' (.cons b' .nil)))) (hs : starEach [a, b] X.env = [(false, eval a X.env), (false, eval b X.env)]) (hs2 : starEach [b] X.env = [(false, eval b X.env)]) : PI X tg (.Call (.Name "range" p) [a, b] [] pos) (tI C W (.rng (.cons a' (.cons b' .nil)))) := by
  refine ⟨fun pins s σ H R I h => (pi_range2 hg hm ha hs hs2).run pins s σ H R I ?_⟩
  obtain ⟨ρ, SV, hv, nd, h⟩ := h
  have h : tK C W σ SV H (fun ds _ _ H' (J : L2.It) => Wk C.K J H' ds) ((evs (.cons a' (.cons b' .nil)) ρ).bind fun ds ρ => liftO (rngOf ds) ρ) R := h
  refine ⟨ρ, SV, hv, nd, tK_bind0 h fun ds ρ1 vs H1 SV1 e1 ⟨⟨S, r1⟩, q1⟩ h1 => ?_⟩
  obtain ⟨l, hl, h1⟩ := tK_lift h1
  have r := r1.rep.reps rfl
  match ds, hl, r with
  | [.int i, .int j], hl, r =>
    change (if (-4611686018427387904 ≤ i ∧ i < 4611686018427387904) ∧ (-4611686018427387904 ≤ j ∧ j < 4611686018427387904) then some (rngD i (j - i).toNat) else none) = some l at hl
    split at hl
    · rename_i hc
      cases hl
      obtain ⟨v, vs', S1, S2, rfl, rd, ⟨w, vs2, S3, S4, rfl, rd2, rn, _⟩, _⟩ := r
      obtain ⟨rfl, _⟩ := rn
      exact ⟨i, j, by rw [rd.1, rd2.1], ⟨hc.1.1, hc.1.2, hc.2.1, hc.2.2⟩, h1 _ H1 SV1 e1 wk_range⟩
    · cases hl
  | [.int j], hl, r => cases r1.rep with | cons _ t => cases t
theorem pi_enum' {p tpos : Pos} {elts : List Expr} {kk : Nat} (hK : X.K = C.K) (hg : Gl X "enumerate") (hm : X.mg "enumerate" = none) (ha : PA X [e] (tA C W (.cons e' .nil))) (hs : starEach [e] X.env = [(false, eval e X.env)]) : PI X (.Tuple elts kk tpos) (.Call (.Name "enumerate" p) [e] [] pos) (tI C W (.enum e')) := by
  refine ⟨fun pins s σ H R I h => (pi_enumS hg hm ha hs).run pins s σ H R I ?_⟩
  obtain ⟨ρ, SV, hv, nd, h⟩ := h
  have h : tK C W σ SV H (fun ds _ _ H' (J : L2.It) => Wk C.K J H' ds) ((ev e' ρ).bind fun d ρ => liftO ((seqOf d).map (enumD 0)) ρ) R := h
  have h2 : tK C W σ SV H (fun ds _ _ H' (J : L2.It) => Wk C.K J H' ds) ((evs (.cons e' .nil) ρ).bind fun ds ρ => match ds with | [d] => liftO ((seqOf d).map (enumD 0)) ρ | _ => .bad) R := by
    have e : evs (.cons e' .nil) ρ = (ev e' ρ).bind fun d ρ => .ok [d] ρ := rfl
    rw [e]
    cases hev : ev e' ρ <;> rw [hev] at h <;> exact h
  refine ⟨ρ, SV, hv, nd, tK_bind0 h2 fun ds ρ1 vs H1 SV1 e1 ⟨⟨S, r1⟩, q1⟩ h1 => ?_⟩
  cases r1.rep with
  | @cons _ _ d ds v vs S T rd t =>
    cases t
    obtain ⟨l, hl, h1⟩ := tK_lift (show tK C W σ SV H (fun ds _ _ H' (J : L2.It) => Wk C.K J H' ds) (liftO ((seqOf d).map (enumD 0)) ρ1) R from h1)
    cases hsq : seqOf d with
    | none => rw [hsq] at hl; cases hl
    | some es =>
      rw [hsq] at hl
      cases hl
      refine ⟨v, rfl, fun u ru => ?_⟩
      obtain ⟨sr, ws, eu, ok, r⟩ := src_of rd hsq ru
      rw [hK]
      exact ⟨sr, ws, eu, ok H1 .refl, h1 _ H1 SV1 e1 (wk_enum ok r)⟩
theorem pi_zip' {a b : Expr} {a' b' : E} {p tpos : Pos} {elts : List Expr} {kk : Nat} (hK : X.K = C.K) (hg : Gl X "zip") (hm : X.mg "zip" = none) (ha : PA X [a, b] (tA C W (.cons a' (.cons b' .nil)))) (hs : starEach [a, b] X.env = (false, eval a X.env) :: starEach [b] X.env) (hpl : (backTo pos (starEach [b] X.env)).any (·.1) = false) :
    PI X (.Tuple elts kk tpos) (.Call (.Name "zip" p) [a, b] [] pos) (tI C W (.zip a' b')) := by
  refine ⟨fun pins s σ H R I h => (pi_zipS hg hm ha hs hpl).run pins s σ H R I ?_⟩
  obtain ⟨ρ, SV, hv, nd, h⟩ := h
  have h : tK C W σ SV H (fun ds _ _ H' (J : L2.It) => Wk C.K J H' ds) ((ev a' ρ).bind fun x ρ => (ev b' ρ).bind fun y ρ => (match seqOf x, seqOf y with | some xs, some ys => .ok (zipD xs ys) ρ | _, _ => .bad)) R := h
  have h2 : tK C W σ SV H (fun ds _ _ H' (J : L2.It) => Wk C.K J H' ds) ((evs (.cons a' (.cons b' .nil)) ρ).bind fun ds ρ => match ds with | [x, y] => (match seqOf x, seqOf y with | some xs, some ys => .ok (zipD xs ys) ρ | _, _ => .bad) | _ => .bad) R := by
    have e : evs (.cons a' (.cons b' .nil)) ρ = (ev a' ρ).bind fun d ρ => ((ev b' ρ).bind fun d ρ => .ok [d] ρ).bind fun ds ρ => .ok (d :: ds) ρ := rfl
    rw [e]
    cases hev : ev a' ρ with
    | bad => rw [hev] at h; exact h
    | exc x ρ1 => rw [hev] at h; exact h
    | ok d ρ1 =>
      rw [hev] at h
      have h : tK C W σ SV H (fun ds _ _ H' (J : L2.It) => Wk C.K J H' ds) ((ev b' ρ1).bind fun y ρ => (match seqOf d, seqOf y with | some xs, some ys => .ok (zipD xs ys) ρ | _, _ => .bad)) R := h
      show tK C W σ SV H _ ((((ev b' ρ1).bind fun d ρ => .ok [d] ρ).bind fun ds ρ => .ok (d :: ds) ρ).bind _) R
      cases hev2 : ev b' ρ1 <;> rw [hev2] at h <;> exact h
  refine ⟨ρ, SV, hv, nd, tK_bind0 h2 fun ds ρ1 vs H1 SV1 e1 ⟨⟨S, r1⟩, q1⟩ h1 => ?_⟩
  cases r1.rep with
  | @cons _ _ d ds v vs S T rd t =>
    cases t with
    | @cons _ _ d2 ds v2 vs S2 T2 rd2 t =>
      cases t
      have h1 : tK C W σ SV H (fun ds _ _ H' (J : L2.It) => Wk C.K J H' ds) (match seqOf d, seqOf d2 with | some xs, some ys => .ok (zipD xs ys) ρ1 | _, _ => .bad) R := h1
      cases hs1 : seqOf d with
      | none => rw [hs1] at h1; exact h1.elim
      | some xs =>
        cases hs2 : seqOf d2 with
        | none => rw [hs1, hs2] at h1; exact h1.elim
        | some ys =>
          rw [hs1, hs2] at h1
          refine ⟨v, v2, rfl, fun u u2 ru ru2 => ?_⟩
          obtain ⟨sr, ws, eu, ok, r⟩ := src_of rd hs1 ru
          obtain ⟨sr2, ws2, eu2, ok2, r2⟩ := src_of rd2 hs2 ru2
          rw [hK]
          exact ⟨sr, sr2, ws, ws2, eu, eu2, ok H1 .refl, ok2 H1 .refl, h1 _ H1 SV1 e1 (wk_zip ok ok2 r r2)⟩
end
end Ly

namespace Ly
open PySem PySem.Spec L2
variable [Fns]
section
variable {K : PySem.W.Frag} {SV SV1 SV2 : List Addr} {H H1 H2 : Hp} {σ τ : St} {ρ ρ1 ρ2 : Ev}
/-- a name set to an owned value -/
theorem vars_set {d : D} {v : V} {S : List Addr} (i : Nat) (hv : Vars K H ρ σ SV) (r : Rep K H d v S) (nd : (S ++ SV).Nodup) : ∃ SV', Vars K H (ρ.set i (some d)) (σ.set i (some v)) SV' ∧ SV'.Nodup ∧ ∀ a ∈ SV', a ∈ S ++ SV := by
  have l := hv.length
  by_cases hi : i < ρ.length
  · obtain ⟨S0, R, f⟩ := hv.foc i hi
    obtain ⟨SV', v', p⟩ := f.set H d v S .refl r
    refine ⟨SV', v', p.nodup_iff.mpr ?_, fun a ha => ?_⟩
    · refine List.nodup_append.mpr ⟨(List.nodup_append.mp nd).1, (List.nodup_append.mp (f.perm.nodup_iff.mp (List.nodup_append.mp nd).2.1)).2.1, fun a ha b hb e => ?_⟩
      exact (List.nodup_append.mp nd).2.2 a ha b (f.perm.mem_iff.mpr (List.mem_append_right _ hb)) e
    · rcases List.mem_append.mp (p.mem_iff.mp ha) with h | h
      · exact List.mem_append_left _ h
      · exact List.mem_append_right _ (f.perm.mem_iff.mpr (List.mem_append_right _ h))
  · rw [List.set_eq_of_length_le (by omega), List.set_eq_of_length_le (by omega)]
    exact ⟨SV, hv, (List.nodup_append.mp nd).2.1, fun a ha => List.mem_append_right _ ha⟩
theorem vars_set0 {d : D} {v : V} (i : Nat) (hv : Vars K H ρ σ SV) (r : Rep K H d v []) (nd : SV.Nodup) : ∃ SV', Vars K H (ρ.set i (some d)) (σ.set i (some v)) SV' ∧ SV'.Nodup ∧ ∀ a ∈ SV', a ∈ SV := vars_set i hv r nd
/-- a name without a value -/
theorem vars_out (i : Nat) (x : Option V) (hv : Vars K H ρ σ SV) (nd : SV.Nodup) : ∃ SV', Vars K H (ρ.set i none) (σ.set i x) SV' ∧ SV'.Nodup ∧ ∀ a ∈ SV', a ∈ SV := by
  have l := hv.length
  by_cases hi : i < ρ.length
  · obtain ⟨S0, R, f⟩ := hv.foc i hi
    obtain ⟨SV', v', p⟩ := f.out H (σ.set i x) .refl (fun j hj => List.getElem?_set_ne (Ne.symm hj)) (by simp)
    exact ⟨SV', v', p.nodup_iff.mpr (List.nodup_append.mp (f.perm.nodup_iff.mp nd)).2.1, fun a ha => f.perm.mem_iff.mpr (List.mem_append_right _ (p.mem_iff.mp ha))⟩
  · rw [List.set_eq_of_length_le (by omega), List.set_eq_of_length_le (by omega)]
    exact ⟨SV, hv, nd, fun a ha => ha⟩
theorem vars_wipe (hv : Vars K H ρ σ SV) (nd : SV.Nodup) : ∀ vs : List Nat, ∃ SV', Vars K H (wipeE ρ vs) (wipe σ vs) SV' ∧ SV'.Nodup ∧ ∀ a ∈ SV', a ∈ SV
  | [] => ⟨SV, hv, nd, fun _ h => h⟩
  | v :: vs => by
    obtain ⟨SV1, v1, n1, s1⟩ := vars_wipe hv nd vs
    obtain ⟨SV2, v2, n2, s2⟩ := vars_out v none v1 n1
    exact ⟨SV2, v2, n2, fun a ha => s1 a (s2 a ha)⟩
theorem vars_agree : ∀ {ρ : Ev} {σ τ : St} {SV : List Addr}, Vars K H ρ σ SV → τ.length = σ.length → (∀ (i : Nat) d, ρ[i]? = some (some d) → τ[i]? = σ[i]?) → Vars K H ρ τ SV
  | [], [], [], _, h, _, _ => h
  | [], [], _ :: _, _, _, h, _ => by simp at h
  | none :: ρ, _ :: σ, x :: τ, SV, h, l, ag => vars_agree (ρ := ρ) (σ := σ) (τ := τ) (SV := SV) h (by simpa using l) fun i d e => by simpa using ag (i + 1) d (by simpa using e)
  | none :: ρ, _ :: σ, [], _, _, l, _ => by simp at l
  | some d :: ρ, some v :: σ, x :: τ, _, h, l, ag => by
    obtain ⟨S, R, r, h, rfl⟩ := h
    have e : x = some v := by simpa using ag 0 d rfl
    subst e
    exact ⟨S, R, r, vars_agree h (by simpa using l) fun i d e => by simpa using ag (i + 1) d (by simpa using e), rfl⟩
  | some d :: ρ, some v :: σ, [], _, _, l, _ => by simp at l
  | some d :: ρ, none :: σ, _, _, h, _, _ => h.elim
  | [], _ :: _, _, _, h, _, _ => h.elim
  | none :: _, [], _, _, h, _, _ => h.elim
  | some _ :: _, [], _, _, h, _, _ => h.elim
theorem wipeE_not {i : Nat} {d : D} : ∀ {vs : List Nat}, (wipeE ρ vs)[i]? = some (some d) → i ∉ vs
  | [], _ => List.not_mem_nil
  | v :: vs, h => by
    have h : ((wipeE ρ vs).set v none)[i]? = some (some d) := h
    by_cases e : v = i
    · subst e
      by_cases hl : v < (wipeE ρ vs).length
      · rw [List.getElem?_set_self hl] at h; cases h
      · rw [List.getElem?_eq_none (by simpa using hl)] at h; cases h
    · rw [List.getElem?_set_ne e] at h
      exact fun z => (List.mem_cons.mp z).elim (fun q => e q.symm) (wipeE_not h)
theorem wipe_get {i : Nat} : ∀ {vs : List Nat}, i ∉ vs → (wipe σ vs)[i]? = σ[i]?
  | [], _ => rfl
  | v :: vs, h => by
    show ((wipe σ vs).set v none)[i]? = σ[i]?
    rw [List.getElem?_set_ne (fun e => h (by rw [e]; exact List.mem_cons_self))]
    exact wipe_get fun z => h (List.mem_cons_of_mem _ z)
theorem wipe_none {i : Nat} {vs : List Nat} (h : i ∈ vs) (hi : i < σ.length) : (wipe σ vs)[i]? = some none := by
  induction vs with
  | nil => cases h
  | cons v vs ih =>
    show ((wipe σ vs).set v none)[i]? = some none
    by_cases e : v = i
    · subst e
      rw [List.getElem?_set_self (by rw [wipe_length]; exact hi)]
    · rw [List.getElem?_set_ne e]
      rcases List.mem_cons.mp h with z | z
      · exact absurd z.symm e
      · exact ih z
theorem wipe_eq {vs : List Nat} (l : τ.length = σ.length) (h : ∀ i, i ∉ vs → τ[i]? = (wipe σ vs)[i]?) : wipe τ vs = wipe σ vs := by
  apply List.ext_getElem?
  intro i
  by_cases hi : i ∈ vs
  · by_cases hl : i < σ.length
    · rw [wipe_none hi (by omega), wipe_none hi hl]
    · rw [List.getElem?_eq_none (by rw [wipe_length]; omega), List.getElem?_eq_none (by rw [wipe_length]; omega)]
  · rw [wipe_get hi, h i hi]
theorem EnvP.tr (e1 : EnvP K SV H τ ρ1 H1 SV1) (e2 : EnvP K SV1 H1 σ ρ2 H2 SV2) : EnvP K SV H σ ρ2 H2 SV2 :=
  ⟨e2.vars, e2.nd, src_trans e1 e2.src, fun a o e hs => e2.ext a o (e1.ext a o e hs) fun h1 => by
    rcases e1.src a h1 with h | h
    · exact hs h
    · rw [e] at h; cases h⟩
theorem EnvP.apart (e : EnvP K SV H σ ρ1 H1 SV1) {a : Addr} {o : HO} (h : a ∉ SV) (ho : H a = some o) : a ∉ SV1 ∧ H1 a = some o := ⟨fun z => (e.src a z).elim h fun q => (by rw [ho] at q; cases q), e.ext a o ho h⟩
theorem EnvP.sub {SV' : List Addr} (v : Vars K H ρ σ SV') (nd : SV'.Nodup) (h : ∀ a ∈ SV', a ∈ SV) : EnvP K SV H σ ρ H SV' := ⟨v, nd, fun a ha => .inl (h a ha), .refl⟩
theorem kp_upd {S : List Addr} {a : Addr} {o o' : HO} (h : H a = some o) (m : Mb o) (n : a ∉ S) : Kp S H (upd H a o') := fun b u e q => by
  rw [upd_ne (fun z => ?_)]
  · exact e
  · subst z
    rw [h] at e
    cases e
    exact q.elim n fun z => z m
end

/-! ### targets -/
mutual
def tns : Tg → List Nat
  | .nm i => [i]
  | .tp ts => tnss ts
def tnss : Tgs → List Nat
  | .nil => []
  | .cons t ts => tns t ++ tnss ts
end
def tG (K : PySem.W.Frag) (tg : Tg) : TG := fun v σ H Q => ∃ d ρ SV ρ', Rep K H d v [] ∧ Vars K H ρ σ SV ∧ SV.Nodup ∧ bindT tg d ρ = some ρ' ∧
  ∀ σ' SV', Vars K H ρ' σ' SV' → SV'.Nodup → (∀ a ∈ SV', a ∈ SV) → (∀ i, i ∉ tns tg → σ'[i]? = σ[i]?) → σ'.length = σ.length → Q σ' H
def tGs (K : PySem.W.Frag) (tg : Tgs) : TGs := fun vs σ H Q => ∃ ds ρ SV ρ', Reps K H ds vs [] ∧ Vars K H ρ σ SV ∧ SV.Nodup ∧ bindTs tg ds ρ = some ρ' ∧
  ∀ σ' SV', Vars K H ρ' σ' SV' → SV'.Nodup → (∀ a ∈ SV', a ∈ SV) → (∀ i, i ∉ tnss tg → σ'[i]? = σ[i]?) → σ'.length = σ.length → Q σ' H
section
variable {X : Cx} {K : PySem.W.Frag} {pos : Pos}
theorem sg_name {i : Nat} {x : Str} (hN : X.N.Nodup) (hi : X.N[i]? = some x) (hx : Loc X.env.scope x) (hf : X.fn x = true ∨ X.env.scope.names.lookup x = some .local) : PG X (.Name x pos) (tG K (.nm i)) := by
  refine ⟨fun pins s σ H v u Q I r h => (pg_name hN hi hx hf).run pins s σ H v u Q I r ?_⟩
  obtain ⟨d, ρ, SV, ρ', rd, hv, nd, hb, k⟩ := h
  cases hb
  obtain ⟨SV', v', n', s'⟩ := vars_set0 i hv rd nd
  exact k _ SV' v' n' s' (fun j hj => List.getElem?_set_ne (fun e => hj (by rw [e]; exact List.mem_singleton_self _))) (by simp)
theorem sgs_nil : PGs X [] (tGs K .nil) := by
  refine ⟨fun pins s σ H vs us Q I r h => pgs_nil.run pins s σ H vs us Q I r ?_⟩
  obtain ⟨ds, ρ, SV, ρ', rd, hv, nd, hb, k⟩ := h
  cases ds with
  | cons _ _ => cases hb
  | nil =>
    cases hb
    exact ⟨rd.1, k σ SV hv nd (fun _ h => h) (fun _ _ => rfl) rfl⟩
theorem sgs_cons {e : Expr} {es : List Expr} {t : Tg} {ts : Tgs} (h1 : PG X e (tG K t)) (h2 : PGs X es (tGs K ts)) (hs : (assignEach (e :: es) X.env).map (·.2) = assign e X.env :: (assignEach es X.env).map (·.2)) : PGs X (e :: es) (tGs K (.cons t ts)) := by
  refine ⟨fun pins s σ H vs us Q I r h => (pgs_cons h1 h2 hs).run pins s σ H vs us Q I r ?_⟩
  obtain ⟨ds, ρ, SV, ρ', rd, hv, nd, hb, k⟩ := h
  cases ds with
  | nil => cases hb
  | cons d ds =>
    change (match bindT t d ρ with | some ρ' => bindTs ts ds ρ' | none => none) = some ρ' at hb
    cases ht : bindT t d ρ with
    | none => rw [ht] at hb; cases hb
    | some ρ1 =>
      rw [ht] at hb
      obtain ⟨v, vs', S1, S2, rfl, r1, r2, e⟩ := rd
      obtain ⟨rfl, rfl⟩ := List.append_eq_nil_iff.mp e.symm
      refine ⟨v, vs', rfl, d, ρ, SV, ρ1, r1, hv, nd, ht, fun σ1 SV1 v1 n1 s1 a1 l1 => ?_⟩
      exact ⟨ds, ρ1, SV1, ρ', r2, v1, n1, hb, fun σ2 SV2 v2 n2 s2 a2 l2 => k σ2 SV2 v2 n2 (fun a ha => s1 a (s2 a ha)) (fun j hj => by
        have hj : j ∉ tns t ++ tnss ts := hj
        rw [List.mem_append, not_or] at hj
        rw [a2 j hj.2, a1 j hj.1]) (by omega)⟩
def tlen : Tgs → Nat
  | .nil => 0
  | .cons _ ts => tlen ts + 1
theorem bindTs_tlen : ∀ {ts : Tgs} {ds : List D} {ρ ρ' : Ev}, bindTs ts ds ρ = some ρ' → ds.length = tlen ts
  | .nil, [], _, _, _ => rfl
  | .nil, _ :: _, _, _, h => by cases h
  | .cons t ts, [], _, _, h => by cases h
  | .cons t ts, d :: ds, ρ, ρ', h => by
    change (match bindT t d ρ with | some ρ' => bindTs ts ds ρ' | none => none) = some ρ' at h
    cases ht : bindT t d ρ with
    | none => rw [ht] at h; cases h
    | some ρ1 => rw [ht] at h; exact congrArg (· + 1) (bindTs_tlen h)
theorem sg_tup {es : List Expr} {k : Nat} {ts : Tgs} (hK : X.K = K) (hc : X.calm = true) (h : PGs X es (tGs K ts)) (hn : (assignEach es X.env).length = tlen ts) (hst : (assignEach es X.env).findIdx? (·.1) = none) : PG X (.Tuple es k pos) (tG K (.tp ts)) := by
  refine ⟨fun pins s σ H v u Q I r hw => ?_⟩
  obtain ⟨d, ρ, SV, ρ', rd, hv, nd, hb, kk⟩ := hw
  cases d with
  | tup xs =>
    obtain ⟨_, a, vs, rfl, q, rs⟩ := rd
    refine (pg_tup hc h hn hst).run pins s σ H _ u Q I r ?_
    rw [hK]
    exact ⟨a, vs, rfl, q, by rw [← rs.length]; exact bindTs_tlen hb, xs, ρ, SV, ρ', rs, hv, nd, hb, kk⟩
  | lst o xs =>
    cases o with
    | true => cases hb
    | false =>
      obtain ⟨_, a, vs, rfl, q, rs⟩ := rd
      refine (pg_lst hc h hn hst).run pins s σ H _ u Q I r ?_
      rw [hK]
      exact ⟨a, vs, rfl, q.sq, by rw [← rs.length]; exact bindTs_tlen hb, xs, ρ, SV, ρ', rs, hv, nd, hb, kk⟩
  | _ => cases hb
end

/-! ### comprehensions -/
theorem Wk.walk {K : PySem.W.Frag} {J : L2.It} {H0 : Hp} {ds : List D} (w : Wk K J H0 ds) : L2.Walk J ds.length (fun H => Kp [] H0 H) (fun i H x H' => ∀ d, ds[i]? = some d → Ext [] H H' ∧ Rep K H' d x []) :=
  ⟨fun i H hi k => w.goes i H hi k, fun H k => w.stops H k, fun i H x H' _ k y d hd => w.yields i H x H' d hd k y⟩
/-- the tests of a comprehension -/
def tCs (C : Cfg) (W : WX) (c : Es) : TT := fun σ H Q => ∃ ρ SV, Vars C.K H ρ σ SV ∧ SV.Nodup ∧ tK C W σ SV H (fun b _ _ _ v => v = b) (evC c ρ) Q
theorem tcs_nil {X : Cx} {C : Cfg} {W : WX} : PTs X [] (tCs C W .nil) := ⟨fun pins s σ H Q I ⟨ρ, SV, hv, nd, h⟩ => pts_nil.run pins s σ H Q I (h true H SV (.refl hv nd) rfl)⟩
theorem tcs_one {X : Cx} {C : Cfg} {W : WX} {c : Expr} {c' : E} (h : PT X c (tT C W c')) : PTs X [c] (tCs C W (.cons c' .nil)) :=
  ⟨fun pins s σ H Q I ⟨ρ, SV, hv, nd, hq⟩ => (pts_one h).run pins s σ H Q I ⟨ρ, SV, hv, nd, by
    have hq : tK C W σ SV H (fun b _ _ _ v => v = b) (evT c' ρ) Q := hq
    cases he : evT c' ρ with
    | bad => rw [he] at hq; exact hq
    | exc x ρ' => rw [he] at hq; exact hq
    | ok b ρ' => rw [he] at hq; exact fun v H' SV' e r => hq v H' SV' e r.1⟩⟩
def WF : WX := fun _ _ _ _ => False
theorem bind_ok {α β : Type} {m : Out α} {f : α → Ev → Out β} {z : β} {ρ : Ev} (h : m.bind f = .ok z ρ) : ∃ a ρ1, m = .ok a ρ1 ∧ f a ρ1 = .ok z ρ := by
  cases m with
  | bad => cases h
  | exc x ρ' => cases h
  | ok a ρ1 => exact ⟨a, ρ1, rfl, h⟩
theorem lcF_ok {ow : List Nat} {tg : Tg} {c : Es} {elt : E} {d : D} {ρ ρa : Ev} {x : List D} (h : lcF ow tg c elt d ρ = .ok x ρa) : ∃ ρb b ρc, bindT tg d ρ = some ρb ∧ evC c ρb = .ok b ρc ∧
    ((b = true ∧ ∃ y ρd, ev elt ρc = .ok y ρd ∧ x = [y] ∧ ρa = wipeE ρd ow) ∨ (b = false ∧ x = [] ∧ ρa = wipeE ρc ow)) := by
  unfold lcF at h
  cases hb : bindT tg d ρ with
  | none => rw [hb] at h; cases h
  | some ρb =>
    rw [hb] at h
    obtain ⟨b, ρc, h1, h⟩ := bind_ok h
    refine ⟨ρb, b, ρc, rfl, h1, ?_⟩
    cases b with
    | true =>
      rw [if_pos rfl] at h
      obtain ⟨y, ρd, h2, h⟩ := bind_ok h
      cases h
      exact .inl ⟨rfl, y, ρd, h2, rfl, rfl⟩
    | false =>
      rw [if_neg Bool.false_ne_true] at h
      cases h
      exact .inr ⟨rfl, rfl, rfl⟩
theorem nodup_mid {S T U : List Addr} {a : Addr} (h : (a :: (S ++ U)).Nodup) (ht : (T ++ U).Nodup) (hd : ∀ b ∈ T, b ≠ a ∧ b ∉ S) : (a :: ((S ++ T) ++ U)).Nodup := by
  obtain ⟨h1, h2⟩ := List.nodup_cons.mp h
  obtain ⟨n1, n2, n3⟩ := List.nodup_append.mp h2
  obtain ⟨m1, m2, m3⟩ := List.nodup_append.mp ht
  refine List.nodup_cons.mpr ⟨fun z => ?_, ?_⟩
  · rcases List.mem_append.mp z with z | z
    · rcases List.mem_append.mp z with z | z
      · exact h1 (List.mem_append_left _ z)
      · exact (hd a z).1 rfl
    · exact h1 (List.mem_append_right _ z)
  · rw [List.append_assoc]
    refine List.nodup_append.mpr ⟨n1, ht, fun x hx y hy e => ?_⟩
    subst e
    rcases List.mem_append.mp hy with z | z
    · exact (hd x z).2 hx
    · exact n3 x hx x z rfl
theorem lc_read {C : Cfg} {W : WX} {ow : List Nat} {tg : Tg} {it : It} {c : Es} {elt : E} {σ : St} {H : Hp} {Q : VK} (ho : own elt = true) (ht : ∀ i ∈ tns tg, i ∈ ow) (h : tD C W (.lc ow tg it c elt) σ H Q) :
    tLc (tI C W it) (tG C.K tg) (tCs C WF c) (tD C WF elt) ow σ H Q := by
  obtain ⟨ρ, SV, hv, nd, h⟩ := h
  have h : tK C W σ SV H (RD C.K SV H ρ true false) ((evIt it ρ).bind fun items ρ1 =>
    match lcLoop (lcF ow tg c elt) items (wipeE ρ1 ow) with
    | .ok ys ρ2 => if ys.length ≤ lim then .ok (.lst true ys) ρ2 else .bad
    | .exc _ _ => .bad
    | .bad => .bad) Q := h
  refine ⟨ρ, SV, hv, nd, tK_bind0 h fun ds ρ1 J H1 SV1 e1 wk h1 Dn hD => ?_⟩
  cases hl : lcLoop (lcF ow tg c elt) ds (wipeE ρ1 ow) with
  | bad => rw [hl] at h1; exact h1.elim
  | exc x ρ' => rw [hl] at h1; exact h1.elim
  | ok YS ρE =>
    rw [hl] at h1
    have h1 : tK C W σ SV H (RD C.K SV H ρ true false) (if YS.length ≤ lim then .ok (.lst true YS) ρE else .bad) Q := h1
    by_cases hlim : YS.length ≤ lim
    case neg => rw [if_neg hlim] at h1; exact h1.elim
    rw [if_pos hlim] at h1
    have dV : Dn ∉ SV1 := fun z => by
      obtain ⟨o, eo, _⟩ := e1.vars.owns Dn z
      rw [hD] at eo; cases eo
    refine L2.lc_it wk.walk (fun i H' => ∃ ρi SVi acc accV S, EnvP C.K SV1 H1 (wipe σ ow) ρi H' SVi ∧ (∀ (j : Nat) d, ρi[j]? = some (some d) → j ∉ ow) ∧ H' Dn = some (.lst accV) ∧ Reps C.K H' acc accV S ∧ (Dn :: (S ++ SVi)).Nodup ∧ (∀ a ∈ S, a ∈ SV1 ∨ H1 a = none) ∧ ∃ ys, lcLoop (lcF ow tg c elt) (ds.drop i) ρi = .ok ys ρE ∧ acc ++ ys = YS) ?_ ?_ ?_ ?_
    · obtain ⟨SV2, v2, n2, s2⟩ := vars_wipe e1.vars e1.nd ow
      have x : Ext [] H1 (upd H1 Dn (.lst [])) := Ext.new hD
      exact ⟨wipeE ρ1 ow, SV2, [], [], [], ⟨v2.kp (x.all _), n2, fun a ha => .inl (s2 a ha), x.weak _⟩, fun j d e => wipeE_not e, upd_same, Reps.nil, List.nodup_cons.mpr ⟨fun z => dV (s2 _ z), n2⟩, fun a ha => absurd ha List.not_mem_nil, YS, hl, rfl⟩
    · rintro i H' _ ⟨ρi, SVi, acc, accV, S, e, _⟩
      exact e.ext.kp e1.vars.owns fun a ha => absurd ha List.not_mem_nil
    · rintro i x Ha Hb hi ⟨ρi, SVi, acc, accV, S, e, nov, hDa, ra, ndp, srcS, ys, hys, hacc⟩ y
      obtain ⟨x1, rd⟩ := y ds[i] (by simp [hi])
      rw [List.drop_eq_getElem_cons hi] at hys
      obtain ⟨xs, ρa, hf, hys⟩ := bind_ok (show ((lcF ow tg c elt ds[i] ρi).bind fun x ρ1 => (lcLoop (lcF ow tg c elt) (ds.drop (i + 1)) ρ1).bind fun r ρ2 => .ok (x ++ r) ρ2) = .ok ys ρE from hys)
      obtain ⟨r, ρ2, hr, hys⟩ := bind_ok hys
      cases hys
      obtain ⟨ρb, b, ρc, hb1, hb2, hb3⟩ := lcF_ok hf
      have eb : EnvP C.K SV1 H1 (wipe σ ow) ρi Hb SVi := e.tr (e.ext0 x1)
      obtain ⟨nD, ndS⟩ := List.nodup_cons.mp ndp
      refine ⟨ds[i], ρi, SVi, ρb, rd, eb.vars, eb.nd, hb1, fun σ2 SV2 v2 n2 s2 ag len => ?_⟩
      have e2 : EnvP C.K SV1 H1 σ2 ρb Hb SV2 := eb.tr (EnvP.sub v2 n2 s2)
      have hw : wipe σ2 ow = wipe σ ow := wipe_eq (by rw [len, wipe_length]) fun j hj => ag j fun z => hj (ht j z)
      refine ⟨hw, ρb, SV2, v2, n2, ?_⟩
      rw [hb2]
      rintro v Hc SV3 e3 rfl
      -- what the list holds stays apart
      have own : ∀ a ∈ Dn :: S, ∃ o, Hb a = some o := fun a ha => by
        rcases List.mem_cons.mp ha with z | z
        · rw [z]; exact ⟨_, x1 _ _ hDa List.not_mem_nil⟩
        · obtain ⟨o, ho, _⟩ := ra.owns acc a z
          exact ⟨o, x1 _ _ ho List.not_mem_nil⟩
      have ap2 : ∀ a ∈ Dn :: S, a ∉ SV2 := fun a ha z => by
        rcases List.mem_cons.mp ha with q | q
        · exact nD (List.mem_append_right _ (by rw [← q]; exact s2 a z))
        · exact (List.nodup_append.mp ndS).2.2 a q a (s2 a z) rfl
      have ap3 : ∀ a ∈ Dn :: S, a ∉ SV3 := fun a ha => by
        obtain ⟨o, ho⟩ := own a ha
        exact (e3.apart (ap2 a ha) ho).1
      have k3 : Kp (Dn :: S) Hb Hc := e3.ext.kp v2.owns ap2
      have hDb : Hb Dn = some (.lst accV) := x1 _ _ hDa List.not_mem_nil
      have hDc : Hc Dn = some (.lst accV) := k3 _ _ hDb (.inl List.mem_cons_self)
      have rb : Reps C.K Hb acc accV S := ra.kp acc (x1.all _)
      have rc : Reps C.K Hc acc accV S := rb.kp acc (k3.sub fun a ha => List.mem_cons_of_mem _ ha)
      have ec : EnvP C.K SV1 H1 σ2 ρc Hc SV3 := e2.tr e3
      rcases hb3 with ⟨rfl, y, ρd, he, rfl, rfl⟩ | ⟨rfl, rfl, rfl⟩
      · rw [if_pos rfl]
        refine ⟨ρc, SV3, e3.vars, e3.nd, ?_⟩
        rw [he]
        rintro v Hd SV4 e4 ⟨⟨T, rT⟩, _⟩
        have k4 : Kp (Dn :: S) Hc Hd := e4.ext.kp e3.vars.owns ap3
        have hDd : Hd Dn = some (.lst accV) := k4 _ _ hDc (.inl List.mem_cons_self)
        have rd' : Reps C.K Hd acc accV S := rc.kp acc (k4.sub fun a ha => List.mem_cons_of_mem _ ha)
        have srcT : ∀ a ∈ T, a ∈ SV1 ∨ H1 a = none := src_trans ec (rT.src ho)
        have apT : ∀ a ∈ T, a ≠ Dn ∧ a ∉ S := fun a ha => by
          have bad : a ∉ Dn :: S := fun z => by
            obtain ⟨o, hoz⟩ := own a z
            rcases rT.src ho a ha with q | q
            · exact ap3 a z q
            · have := k3 a o hoz (.inl z)
              rw [q] at this; cases this
          exact ⟨fun z => bad (by rw [z]; exact List.mem_cons_self), fun z => bad (List.mem_cons_of_mem _ z)⟩
        have ap4 : ∀ a ∈ Dn :: S, a ∉ SV4 := fun a ha => by
          obtain ⟨o, hoz⟩ := own a ha
          exact (e4.apart (ap3 a ha) (k3 a o hoz (.inl ha))).1
        have ed : EnvP C.K SV1 H1 σ2 ρd Hd SV4 := ec.tr e4
        obtain ⟨SV5, v5, n5, s5⟩ := vars_wipe e4.vars e4.nd ow
        rw [hw] at v5
        have nT := rT.sep ho
        have n4 : (Dn :: (S ++ SV4)).Nodup := by
          refine List.nodup_cons.mpr ⟨fun z => ?_, List.nodup_append.mpr ⟨(List.nodup_append.mp ndS).1, e4.nd, fun a ha b hb q => ap4 a (List.mem_cons_of_mem _ ha) (by rw [q]; exact hb)⟩⟩
          rcases List.mem_append.mp z with z | z
          · exact nD (List.mem_append_left _ z)
          · exact ap4 Dn List.mem_cons_self z
        have n9 := nodup_mid n4 nT apT
        have n10 : (Dn :: ((S ++ T) ++ SV5)).Nodup := by
          obtain ⟨q1, q2⟩ := List.nodup_cons.mp n9
          obtain ⟨q3, q4, q5⟩ := List.nodup_append.mp q2
          refine List.nodup_cons.mpr ⟨fun z => q1 ?_, List.nodup_append.mpr ⟨q3, n5, fun a ha b hb => q5 a ha b (s5 b hb)⟩⟩
          rcases List.mem_append.mp z with z | z
          · exact List.mem_append_left _ z
          · exact List.mem_append_right _ (s5 _ z)
        obtain ⟨q1, q2⟩ := List.nodup_cons.mp n10
        refine ⟨accV, hDd, ?_, ?_⟩
        · rw [← rd'.length]
          have : acc.length + 1 ≤ YS.length := by rw [← hacc]; simp
          have := lim_eq
          omega
        have mb : Mb (.lst accV) := True.intro
        have kU : Kp ((S ++ T) ++ SV5) Hd (upd Hd Dn (.lst (accV ++ [v]))) := kp_upd hDd mb q1
        refine ⟨wipeE ρd ow, SV5, acc ++ [y], accV ++ [v], S ++ T, ⟨v5.kp (kU.sub fun a ha => List.mem_append_right _ ha), n5, fun a ha => ed.src a (s5 a ha), fun a o ha hs => ?_⟩, fun j d e => wipeE_not e, upd_same, ?_, n10, fun a ha => ?_, r, hr, by rw [← hacc]; simp⟩
        · rw [upd_ne (fun z => by rw [z, hD] at ha; cases ha)]
          exact ed.ext a o ha hs
        · have r9 := rd'.app (Reps.cons (S2 := []) rT.rep Reps.nil)
          rw [List.append_nil] at r9
          exact r9.kp _ (kU.sub fun a ha => List.mem_append_left _ ha)
        · rcases List.mem_append.mp ha with z | z
          · exact srcS a z
          · exact srcT a z
      · rw [if_neg Bool.false_ne_true]
        obtain ⟨SV5, v5, n5, s5⟩ := vars_wipe e3.vars e3.nd ow
        rw [hw] at v5
        refine ⟨wipeE ρc ow, SV5, acc, accV, S, ⟨v5, n5, fun a ha => ec.src a (s5 a ha), ec.ext⟩, fun j d e => wipeE_not e, hDc, rc, ?_, srcS, r, hr, by rw [← hacc]; rfl⟩
        refine List.nodup_cons.mpr ⟨fun z => ?_, List.nodup_append.mpr ⟨(List.nodup_append.mp ndS).1, n5, fun a ha b hb q => ap3 a (List.mem_cons_of_mem _ ha) (by rw [q]; exact s5 b hb)⟩⟩
        rcases List.mem_append.mp z with z | z
        · exact nD (List.mem_append_left _ z)
        · exact ap3 Dn List.mem_cons_self (s5 _ z)
    · rintro H' ⟨ρi, SVi, acc, accV, S, e, nov, hDa, ra, ndp, srcS, ys, hys, hacc⟩
      rw [List.drop_length] at hys
      cases hys
      rw [List.append_nil] at hacc
      subst hacc
      have l1 := e1.vars.length
      have vv : Vars C.K H' ρE σ SVi := vars_agree e.vars (by rw [wipe_length]) fun j d hj => (wipe_get (nov j d hj)).symm
      have es : EnvP C.K SV1 H1 σ ρE H' SVi := ⟨vv, e.nd, e.src, e.ext⟩
      refine h1 (.ref Dn) H' SVi (e1.trans es) ⟨⟨Dn :: S, ⟨Dn, accV, S, rfl, hDa, ra, rfl⟩, (fun _ => src_trans e1 fun a ha => ?_), (fun _ => ndp)⟩, (fun z => nomatch z)⟩
      rcases List.mem_cons.mp ha with z | z
      · rw [z]; exact .inr hD
      · exact srcS a z
end Ly

namespace Ly
open PySem PySem.Spec L2
variable [Fns]
/-- the names P stand as they stood -/
structure Kept (P : List Nat) (σ σ' : St) : Prop where
  at_ : ∀ i ∈ P, σ'[i]? = σ[i]?
  len : σ'.length = σ.length
theorem Kept.refl {P : List Nat} {σ : St} : Kept P σ σ := ⟨fun _ _ => rfl, rfl⟩
theorem Kept.trans {P : List Nat} {σ σ1 σ2 : St} (a : Kept P σ σ1) (b : Kept P σ1 σ2) : Kept P σ σ2 := ⟨fun i h => (b.at_ i h).trans (a.at_ i h), b.len.trans a.len⟩
/-- a value is given back -/
def RtP (K : PySem.W.Frag) (SV : List Addr) (H : Hp) (d : D) (SV' : List Addr) (H' : Hp) (v : V) : Prop := ∃ S, Rep K H' d v S ∧ (∀ a ∈ S, a ∈ SV ∨ H a = none) ∧ (S ++ SV').Nodup
/-- what is asked of a statement's outcome -/
def sK (C : Cfg) (W : WX) (P : List Nat) (σ : St) (SV : List Addr) (H : Hp) (D : Ends) (m : Out Fl) : Prop :=
  match m with
  | .ok .nx ρ' => ∀ σ' H' SV', EnvP C.K SV H σ' ρ' H' SV' → Kept P σ σ' → D.nx σ' H'
  | .ok .bk ρ' => ∀ σ' H' SV', EnvP C.K SV H σ' ρ' H' SV' → Kept P σ σ' → D.bk σ' H'
  | .ok .ct ρ' => ∀ σ' H' SV', EnvP C.K SV H σ' ρ' H' SV' → Kept P σ σ' → D.ct σ' H'
  | .ok (.rt d) ρ' => ∀ v σ' H' SV', EnvP C.K SV H σ' ρ' H' SV' → Kept P σ σ' → RtP C.K SV H d SV' H' v → D.rt v H'
  | .exc x ρ' => ∀ cls dd σ' H' SV', EnvP C.K SV H σ' ρ' H' SV' → Kept P σ σ' → C.ER x cls dd H' → W cls dd σ' H'
  | .bad => False
section
variable {C : Cfg} {W : WX} {P : List Nat} {SV SV1 : List Addr} {H H1 : Hp} {σ σ1 : St} {ρ ρ1 : Ev} {D : Ends} {m : Out Fl}
theorem RtP.re {d : _} {SV' : List Addr} {H' : Hp} {v : V} (e1 : EnvP C.K SV H σ1 ρ1 H1 SV1) (r : RtP C.K SV1 H1 d SV' H' v) : RtP C.K SV H d SV' H' v := by
  obtain ⟨S, a, b, c⟩ := r
  exact ⟨S, a, src_trans e1 b, c⟩
/-- begun again behind a part -/
theorem sK_re (e1 : EnvP C.K SV H σ1 ρ1 H1 SV1) (k : Kept P σ σ1) (h : sK C W P σ SV H D m) : sK C W P σ1 SV1 H1 D m := by
  cases m with
  | bad => exact h
  | exc x ρ' => exact fun cls dd σ' H' SV' e k' er => h cls dd σ' H' SV' (e1.tr e) (k.trans k') er
  | ok f ρ' =>
    cases f with
    | nx => exact fun σ' H' SV' e k' => h σ' H' SV' (e1.tr e) (k.trans k')
    | bk => exact fun σ' H' SV' e k' => h σ' H' SV' (e1.tr e) (k.trans k')
    | ct => exact fun σ' H' SV' e k' => h σ' H' SV' (e1.tr e) (k.trans k')
    | rt d => exact fun v σ' H' SV' e k' r => h v σ' H' SV' (e1.tr e) (k.trans k') (r.re e1)
theorem sK_bind {α β : Type} {R : α → Ev → List Addr → Hp → β → Prop} {m : Out α} {f : α → Ev → Out Fl} {Q1 : β → Hp → Prop}
    (h : sK C W P σ SV H D (m.bind f)) (k : ∀ d ρ1 v H1 SV1, EnvP C.K SV H σ ρ1 H1 SV1 → R d ρ1 SV1 H1 v → sK C W P σ SV H D (f d ρ1) → Q1 v H1) : tK C W σ SV H R m Q1 := by
  cases m with
  | bad => exact h
  | exc x ρ' => exact fun cls dd H' SV' e er => h cls dd σ H' SV' e .refl er
  | ok d ρ1 => exact fun v H1 SV1 e1 r1 => k d ρ1 v H1 SV1 e1 r1 h
theorem sK_lift {α : Type} {o : Option α} {f : α → Ev → Out Fl} (h : sK C W P σ SV H D ((liftO o ρ).bind f)) : ∃ z, o = some z ∧ sK C W P σ SV H D (f z ρ) := by
  cases o with
  | none => exact h.elim
  | some z => exact ⟨z, rfl, h⟩
end
def tS (C : Cfg) (W : WX) (P : List Nat) (b : S) : TS := fun D σ H => ∃ ρ SV, Vars C.K H ρ σ SV ∧ SV.Nodup ∧ sK C W P σ SV H D (ex b ρ)
def tSs (C : Cfg) (W : WX) (P : List Nat) (b : Ss) : TS := fun D σ H => ∃ ρ SV, Vars C.K H ρ σ SV ∧ SV.Nodup ∧ sK C W P σ SV H D (exs b ρ)
theorem psmono {X : Cx} {st : Stmt} {t t' : TS} (h : PS X st t) (k : ∀ D σ H, t' D σ H → t D σ H) : PS X st t' := ⟨fun pins s σ H D I q => h.run pins s σ H D I (k D σ H q)⟩
theorem pssmono {X : Cx} {st : List Stmt} {t t' : TS} (h : PSs X st t) (k : ∀ D σ H, t' D σ H → t D σ H) : PSs X st t' := ⟨fun pins s σ H D I q => h.run pins s σ H D I (k D σ H q)⟩
section
variable {X : Cx} {C : Cfg} {W : WX} {P : List Nat} {st : Stmt} {sts : List Stmt} {pos : Pos} {e : Expr} {e' : E} {b : S} {bs : Ss}
theorem ss_nil : PSs X [] (tSs C W P .nil) := pssmono pss_nil fun D σ H ⟨ρ, SV, hv, nd, h⟩ => h σ H SV (.refl hv nd) .refl
theorem ss_cons (h1 : PS X st (tS C W P b)) (h2 : PSs X sts (tSs C W P bs)) : PSs X (st :: sts) (tSs C W P (.cons b bs)) := by
  refine pssmono (pss_cons h1 h2) fun D σ H ⟨ρ, SV, hv, nd, h⟩ => ⟨ρ, SV, hv, nd, ?_⟩
  have h : sK C W P σ SV H D (match ex b ρ with | .ok .nx ρ' => exs bs ρ' | r => r) := h
  cases hx : ex b ρ with
  | bad => rw [hx] at h; exact h
  | exc x ρ' => rw [hx] at h; exact h
  | ok f ρ' =>
    rw [hx] at h
    cases f with
    | nx => exact fun σ' H' SV' e k => ⟨ρ', SV', e.vars, e.nd, sK_re e k h⟩
    | bk => exact h
    | ct => exact h
    | rt d => exact h
theorem s_pass : PS X (.Pass pos) (tS C W P .pass) := psmono ps_pass fun D σ H ⟨ρ, SV, hv, nd, h⟩ => h σ H SV (.refl hv nd) .refl
theorem s_doc {x j pos'} : PS X (.Expr (.Constant (.str x) j pos) pos') (tS C W P .pass) := psmono ps_doc fun D σ H ⟨ρ, SV, hv, nd, h⟩ => h σ H SV (.refl hv nd) .refl
theorem s_brk : PS X (.Break pos) (tS C W P .brk) := psmono ps_break fun D σ H ⟨ρ, SV, hv, nd, h⟩ => h σ H SV (.refl hv nd) .refl
theorem s_cnt : PS X (.Continue pos) (tS C W P .cnt) := psmono ps_continue fun D σ H ⟨ρ, SV, hv, nd, h⟩ => h σ H SV (.refl hv nd) .refl
theorem s_retN : PS X (.Return none pos) (tS C W P .retN) := psmono ps_retN fun D σ H ⟨ρ, SV, hv, nd, h⟩ => h .non σ H SV (.refl hv nd) .refl ⟨[], ⟨rfl, rfl⟩, (fun a ha => absurd ha List.not_mem_nil), nd⟩
theorem s_expr (he : PE X e (tD C W e')) (hs : swapsWith e none pos.line X.env = pure false) : PS X (.Expr e pos) (tS C W P (.expr e')) := by
  refine psmono (ps_expr he hs) fun D σ H ⟨ρ, SV, hv, nd, h⟩ => ⟨ρ, SV, hv, nd, ?_⟩
  exact sK_bind (show sK C W P σ SV H D ((ev e' ρ).bind fun _ ρ => .ok .nx ρ) from h) fun d ρ1 v H1 SV1 e1 _ h1 => h1 σ H1 SV1 e1 .refl
theorem s_ret (ho : own e' = true) (he : PE X e (tD C W e')) : PS X (.Return (some e) pos) (tS C W P (.ret e')) := by
  refine psmono (ps_ret he) fun D σ H ⟨ρ, SV, hv, nd, h⟩ => ⟨ρ, SV, hv, nd, ?_⟩
  exact sK_bind (show sK C W P σ SV H D ((ev e' ρ).bind fun d ρ => .ok (.rt d) ρ) from h) fun d ρ1 v H1 SV1 e1 ⟨⟨S, r⟩, _⟩ h1 => h1 v σ H1 SV1 e1 .refl ⟨S, r.rep, r.src ho, r.sep ho⟩
/-- a name set -/
theorem envp_set {K : PySem.W.Frag} {SV SV1 S : List Addr} {H H1 : Hp} {σ : St} {ρ1 : Ev} {d : D} {v : V} (i : Nat) (e1 : EnvP K SV H σ ρ1 H1 SV1) (rep : Rep K H1 d v S) (src : ∀ a ∈ S, a ∈ SV ∨ H a = none) (sep : (S ++ SV1).Nodup) : ∃ SV2, EnvP K SV H (σ.set i (some v)) (ρ1.set i (some d)) H1 SV2 ∧ ∀ a ∈ SV2, a ∈ S ++ SV1 := by
  obtain ⟨SV2, v2, n2, s2⟩ := vars_set i e1.vars rep sep
  refine ⟨SV2, ⟨v2, n2, fun a ha => ?_, e1.ext⟩, s2⟩
  rcases List.mem_append.mp (s2 a ha) with h | h
  · exact src a h
  · exact e1.src a h
theorem kept_set {σ : St} {i : Nat} {x : Option V} (h : i ∉ P) : Kept P σ (σ.set i x) := ⟨fun j hj => List.getElem?_set_ne (fun e => h (by rw [e]; exact hj)), by simp⟩
theorem s_asg {i : Nat} {x : Str} {pos' : Pos} (ho : own e' = true) (hP : i ∉ P) (hN : X.N.Nodup) (hi : X.N[i]? = some x) (hx : Loc X.env.scope x) (hf : X.fn x = true ∨ X.env.scope.names.lookup x = some .local) (he : PE X e (tD C W e')) (hs : swapsWith e (some (.Name x pos')) pos.line X.env = pure false) :
    PS X (.Assign [.Name x pos'] e pos) (tS C W P (.asg i e')) := by
  refine psmono (ps_set hN hi hx he hs hf) fun D σ H ⟨ρ, SV, hv, nd, h⟩ => ⟨ρ, SV, hv, nd, ?_⟩
  exact sK_bind (show sK C W P σ SV H D ((ev e' ρ).bind fun d ρ => .ok .nx (ρ.set i (some d))) from h) fun d ρ1 v H1 SV1 e1 ⟨⟨S, r⟩, _⟩ h1 => by
    obtain ⟨SV2, e2, _⟩ := envp_set i e1 r.rep (r.src ho) (r.sep ho)
    exact h1 _ H1 SV2 e2 (kept_set hP)
/-- y = [..] on one line -/
theorem s_asgLc {i : Nat} {y : Str} {py : Pos} {elt tg iter : Expr} {ifs : List Expr} {scope : Scope} {ow : List (Str × Nat)} {spos : Pos} {tg' : Tg} {it : It} {c : Es} {elt' : E} (ho : own elt' = true) (ht : ∀ i ∈ tns tg', i ∈ ow.map (·.2)) (hP : i ∉ P) (hc : X.calm = true) (hN : X.N.Nodup) (hy : X.N[i]? = some y) (hyl : X.env.scope.names.lookup y = some .local)
    (hsw : swapsWith (.ListComp elt [⟨tg, iter, ifs, 0⟩] scope pos) (some (.Name y py)) spos.line X.env = pure true) (hi : PI X tg iter (tI C W it)) (ok : BlkOk X.N X.env.scope scope ow)
    (hg : ∀ (s : Shared) (H : Hp) (Cc : Addr) (cl : List (Str × Addr)) (fp : List Addr), PG (X.blk s H scope (compEnvC scope cl Cc X.env) fp) tg (tG C.K tg')) (htt : ∀ (s : Shared) (H : Hp) (Cc : Addr) (cl : List (Str × Addr)) (fp : List Addr), PTs (X.blk s H scope (compEnvC scope cl Cc X.env) fp) ifs (tCs C WF c))
    (he : ∀ (s : Shared) (H : Hp) (Cc : Addr) (cl : List (Str × Addr)) (fp : List Addr), PE (X.blk s H scope (compEnvC scope cl Cc X.env) fp) elt (tD C WF elt')) (hs : ∀ x, foldedSetIterable iter X.env x = pure x) :
    PS X (.Assign [.Name y py] (.ListComp elt [⟨tg, iter, ifs, 0⟩] scope pos) spos) (tS C W P (.asg i (.lc (ow.map (·.2)) tg' it c elt'))) := by
  refine psmono (ps_setLc hc hN hy hyl hsw hi ok hg htt he hs) fun D σ H ⟨ρ, SV, hv, nd, h⟩ => lc_read ho ht ⟨ρ, SV, hv, nd, ?_⟩
  exact sK_bind (R := RD C.K SV H ρ true false) (show sK C W P σ SV H D ((ev (.lc (ow.map (·.2)) tg' it c elt') ρ).bind fun d ρ => .ok .nx (ρ.set i (some d))) from h) fun d ρ1 v H1 SV1 e1 ⟨⟨S, r⟩, _⟩ h1 => by
    obtain ⟨SV2, e2, _⟩ := envp_set i e1 r.rep (r.src rfl) (r.sep rfl)
    exact h1 _ H1 SV2 e2 (kept_set hP)
theorem se_lc {elt tg iter : Expr} {ifs : List Expr} {scope : Scope} {ow : List (Str × Nat)} {tg' : Tg} {it : It} {c : Es} {elt' : E} (ho : own elt' = true) (ht : ∀ i ∈ tns tg', i ∈ ow.map (·.2)) (hc : X.calm = true) (hN : X.N.Nodup) (hi : PI X tg iter (tI C W it)) (ok : BlkOk X.N X.env.scope scope ow)
    (hg : ∀ (s : Shared) (H : Hp) (Cc : Addr) (cl : List (Str × Addr)) (fp : List Addr), PG (X.blk s H scope (compEnvC scope cl Cc X.env) fp) tg (tG C.K tg')) (htt : ∀ (s : Shared) (H : Hp) (Cc : Addr) (cl : List (Str × Addr)) (fp : List Addr), PTs (X.blk s H scope (compEnvC scope cl Cc X.env) fp) ifs (tCs C WF c))
    (he : ∀ (s : Shared) (H : Hp) (Cc : Addr) (cl : List (Str × Addr)) (fp : List Addr), PE (X.blk s H scope (compEnvC scope cl Cc X.env) fp) elt (tD C WF elt')) (hs : ∀ x, foldedSetIterable iter X.env x = pure x) :
    PE X (.ListComp elt [⟨tg, iter, ifs, 0⟩] scope pos) (tD C W (.lc (ow.map (·.2)) tg' it c elt')) := pemono (pe_lc hc hN hi ok hg htt he hs) fun σ H Q h => lc_read ho ht h
/-- (a, b) = e -/
theorem s_asgT {tg : Expr} {ts : Tgs} (hP : ∀ i ∈ tnss ts, i ∉ P) (he : PE X e (tD C W e')) (hg : PG X tg (tG C.K (.tp ts))) (hs : swapsWithSole [tg] e pos.line X.env = pure false) (hw : swappedStores [tg] e X.env = pure none) (h1 : (assignEach [tg] X.env).map (·.2) = [assign tg X.env]) :
    PS X (.Assign [tg] e pos) (tS C W P (.asgT (.tp ts) e')) := by
  refine psmono (ps_asg he hg hs hw h1) fun D σ H ⟨ρ, SV, hv, nd, h⟩ => ⟨ρ, SV, hv, nd, ?_⟩
  refine sK_bind (show sK C W P σ SV H D ((ev e' ρ).bind fun d ρ => (match bindT (.tp ts) d ρ with | some ρ' => .ok .nx ρ' | none => .bad)) from h) fun d ρ1 v H1 SV1 e1 ⟨⟨S, r⟩, _⟩ h1 => ?_
  cases hb : bindT (.tp ts) d ρ1 with
  | none => rw [hb] at h1; exact h1.elim
  | some ρ2 =>
    rw [hb] at h1
    have hf : frzD d = true := by
      cases d with
      | tup _ => rfl
      | lst o _ => cases o with | true => cases hb | false => rfl
      | _ => cases hb
    have := r.rep.frz hf
    subst this
    refine ⟨d, ρ1, SV1, ρ2, r.rep, e1.vars, e1.nd, hb, fun σ' SV' v' n' s' ag l => ?_⟩
    exact h1 σ' H1 SV' (e1.tr (EnvP.sub v' n' s')) ⟨fun i hi => ag i fun z => hP i z hi, l⟩
/-- a, b = x, y -/
theorem s_asgP {i j : Nat} {x y : Str} {a b : Expr} {a' b' : E} {px py pt : Pos} {kt k2 pt2} (hPi : i ∉ P) (hPj : j ∉ P) (hc : X.calm = true) (hN : X.N.Nodup) (hi : X.N[i]? = some x) (hj : X.N[j]? = some y) (hij : i ≠ j)
    (hx : X.env.scope.names.lookup x = some .local) (hy : X.env.scope.names.lookup y = some .local) (ha : PA X [a, b] (tA C W (.cons a' (.cons b' .nil))))
    (hw : swappedStores [.Tuple [.Name x px, .Name y py] kt pt] (.Tuple [a, b] k2 pt2) X.env = pure (some [x, y]))
    (hs : swapsWithSole [.Tuple [.Name x px, .Name y py] kt pt] (.Tuple [a, b] k2 pt2) pos.line X.env = pure false) :
    PS X (.Assign [.Tuple [.Name x px, .Name y py] kt pt] (.Tuple [a, b] k2 pt2) pos) (tS C W P (.asgP i j a' b')) := by
  refine psmono (ps_par hc hN hi hj hij hx hy ha hw hs) fun D σ H ⟨ρ, SV, hv, nd, h⟩ => ⟨ρ, SV, hv, nd, ?_⟩
  have h : sK C W P σ SV H D ((ev a' ρ).bind fun x ρ => (ev b' ρ).bind fun y ρ => .ok .nx ((ρ.set i (some x)).set j (some y))) := h
  have h2 : sK C W P σ SV H D ((evs (.cons a' (.cons b' .nil)) ρ).bind fun ds ρ => match ds with | [x, y] => .ok .nx ((ρ.set i (some x)).set j (some y)) | _ => .bad) := by
    have e : evs (.cons a' (.cons b' .nil)) ρ = (ev a' ρ).bind fun d ρ => ((ev b' ρ).bind fun d ρ => .ok [d] ρ).bind fun ds ρ => .ok (d :: ds) ρ := rfl
    rw [e]
    cases hev : ev a' ρ with
    | bad => rw [hev] at h; exact h
    | exc x ρ1 => rw [hev] at h; exact h
    | ok d ρ1 =>
      rw [hev] at h
      have h : sK C W P σ SV H D ((ev b' ρ1).bind fun y ρ => .ok .nx ((ρ.set i (some d)).set j (some y))) := h
      show sK C W P σ SV H D ((((ev b' ρ1).bind fun d ρ => .ok [d] ρ).bind fun ds ρ => .ok (d :: ds) ρ).bind _)
      cases hev2 : ev b' ρ1 <;> rw [hev2] at h <;> exact h
  refine sK_bind h2 fun ds ρ1 vs H1 SV1 e1 ⟨⟨S, r1⟩, _⟩ h1 => ?_
  have hsep := r1.sep
  have hsrc := r1.src
  cases r1.rep with
  | @cons _ _ d ds v vs S T rd t =>
    cases t with
    | @cons _ _ d2 ds v2 vs S2 T2 rd2 t =>
      cases t
      rw [List.append_nil] at hsep hsrc
      rw [List.append_assoc] at hsep
      obtain ⟨n1, n2, n3⟩ := List.nodup_append.mp hsep
      refine ⟨v, v2, rfl, ?_⟩
      have sepA : (S ++ SV1).Nodup := List.nodup_append.mpr ⟨n1, e1.nd, fun a ha b hb => n3 a ha b (List.mem_append_right _ hb)⟩
      obtain ⟨SV2, e2, m2⟩ := envp_set i e1 rd (fun a ha => hsrc a (List.mem_append_left _ ha)) sepA
      have sepB : (S2 ++ SV2).Nodup := List.nodup_append.mpr ⟨(List.nodup_append.mp n2).1, e2.nd, fun a ha b hb q => by
        subst q
        rcases List.mem_append.mp (m2 a hb) with z | z
        · exact n3 a z a (List.mem_append_left _ ha) rfl
        · exact (List.nodup_append.mp n2).2.2 a ha a z rfl⟩
      obtain ⟨SV3, e3, m3⟩ := envp_set j e2 rd2 (fun a ha => hsrc a (List.mem_append_right _ ha)) sepB
      exact h1 _ H1 SV3 e3 ((kept_set hPi).trans (kept_set hPj))
/-- x op= e, numbers -/
def ipOp : Operator → Option O2
  | .Add => some .add
  | .Sub => some .sub
  | _ => none
theorem s_aug {i : Nat} {x : Str} {op : Operator} {o : O2} {pos' : Pos} (hop : ipOp op = some o) (hP : i ∉ P) (hN : X.N.Nodup) (hi : X.N[i]? = some x) (hx : Loc X.env.scope x) (hf : X.fn x = true ∨ X.env.scope.names.lookup x = some .local) (he : PE X e (tD C W e')) :
    PS X (.AugAssign (.Name x pos') op e pos) (tS C W P (.aug i o e')) := by
  have key : ∃ f : Int → Int → Int, PIp X op (ipI f) ∧ (∀ m n, o.sem (.int m) (.int n) = some (.int (f m n))) := by
    cases op <;> first | (cases hop; exact ⟨_, ip_add, fun _ _ => rfl⟩) | (cases hop; exact ⟨_, ip_sub, fun _ _ => rfl⟩) | cases hop
  obtain ⟨f, hip, hsem⟩ := key
  refine psmono (ps_aug hN hi hx he hip hf) fun D σ H ⟨ρ, SV, hv, nd, h⟩ => ?_
  have h : sK C W P σ SV H D (match getV ρ i with
    | some (.int m) => (ev e' ρ).bind fun y ρ => (match y with | .int n => (match o.sem (.int m) (.int n) with | some z => .ok .nx (ρ.set i (some z)) | none => .bad) | _ => .bad)
    | _ => .bad) := h
  cases hg : getV ρ i with
  | none => rw [hg] at h; exact h.elim
  | some d =>
    rw [hg] at h
    cases d with
    | int m =>
      obtain ⟨v, S, R, ev1, rv, _⟩ := var_at hv hg
      refine ⟨v, ev1, ρ, SV, hv, nd, sK_bind h fun y ρ1 w H1 SV1 e1 ⟨⟨T, r⟩, _⟩ h1 => ?_⟩
      cases y with
      | int n =>
        have h1 : sK C W P σ SV H D (match o.sem (.int m) (.int n) with | some z => .ok .nx (ρ1.set i (some z)) | none => .bad) := h1
        rw [hsem] at h1
        refine ⟨m, n, rv.1, r.rep.1, ?_⟩
        obtain ⟨SV2, e2, _⟩ := envp_set (d := .int (f m n)) (v := .int (f m n)) (S := []) i e1 ⟨rfl, rfl⟩ (fun a ha => absurd ha List.not_mem_nil) e1.nd
        exact h1 _ H1 SV2 e2 (kept_set hP)
      | _ => exact h1.elim
    | _ => exact h.elim
/-- if -/
theorem s_iff {c : Expr} {c' : E} {as bs : List Stmt} {as' bs' : Ss} (hc : PT X c (tT C W c')) (ha : PSs X as (tSs C W P as')) (hb : PSs X bs (tSs C W P bs')) : PS X (.If c as bs pos) (tS C W P (.iff c' as' bs')) := by
  refine psmono (ps_if hc ha hb) fun D σ H ⟨ρ, SV, hv, nd, h⟩ => ⟨ρ, SV, hv, nd, ?_⟩
  have h : sK C W P σ SV H D ((ev c' ρ).bind fun x ρ => (match truth x with | some true => exs as' ρ | some false => exs bs' ρ | none => .bad)) := h
  have h2 : sK C W P σ SV H D ((evT c' ρ).bind fun x ρ => if x = true then exs as' ρ else exs bs' ρ) := by
    unfold evT
    cases hx : ev c' ρ with
    | bad => rw [hx] at h; exact h
    | exc x ρ' => rw [hx] at h; exact h
    | ok x ρ' =>
      rw [hx] at h
      have h : sK C W P σ SV H D (match truth x with | some true => exs as' ρ' | some false => exs bs' ρ' | none => .bad) := h
      show sK C W P σ SV H D ((liftO (truth x) ρ').bind _)
      cases ht : truth x with
      | none => rw [ht] at h; exact h
      | some t => rw [ht] at h; cases t <;> exact h
  refine sK_bind h2 fun t ρ1 v H1 SV1 e1 ⟨r, _⟩ h1 => ?_
  subst r
  cases v with
  | true => rw [if_pos rfl] at h1 ⊢; exact ⟨ρ1, SV1, e1.vars, e1.nd, sK_re e1 .refl h1⟩
  | false => rw [if_neg Bool.false_ne_true] at h1 ⊢; exact ⟨ρ1, SV1, e1.vars, e1.nd, sK_re e1 .refl h1⟩
/-- while -/
theorem s_whl {c : Expr} {c' : E} {bs : List Stmt} {bs' : Ss} (hp : PassesOwn (model X.prog X.w) X.A X.env X.xe) (hc : PT X c (tT C W c')) (hb : PSs X bs (tSs C W P bs')) : PS X (.While c bs [] pos) (tS C W P (.whl c' bs')) := by
  refine psmono (ps_while hp hc hb) fun D σ H ⟨ρ, SV, hv, nd, h⟩ => ?_
  refine ⟨fun m σ H => ∃ ρ SV, Vars C.K H ρ σ SV ∧ SV.Nodup ∧ sK C W P σ SV H D (whLoop (ev c') (exs bs') m ρ), ⟨FUEL, ρ, SV, hv, nd, h⟩, ?_⟩
  rintro m σ H ⟨ρ, SV, hv, nd, h⟩
  cases m with
  | zero => exact h.elim
  | succ m =>
    have h2 : sK C W P σ SV H D ((evT c' ρ).bind fun t ρ1 => if t = true then (match exs bs' ρ1 with
        | .ok .nx ρ2 => whLoop (ev c') (exs bs') m ρ2
        | .ok .ct ρ2 => whLoop (ev c') (exs bs') m ρ2
        | .ok .bk ρ2 => .ok .nx ρ2
        | .ok (.rt v) ρ2 => .ok (.rt v) ρ2
        | .exc x ρ2 => .exc x ρ2
        | .bad => .bad) else .ok .nx ρ1) := by
      unfold whLoop at h
      unfold evT
      cases hx : ev c' ρ with
      | bad => rw [hx] at h; exact h
      | exc x ρ' => rw [hx] at h; exact h
      | ok x ρ' =>
        rw [hx] at h
        show sK C W P σ SV H D ((liftO (truth x) ρ').bind _)
        cases ht : truth x with
        | none => simp only [ht] at h; exact h
        | some t => simp only [ht] at h; cases t <;> exact h
    refine ⟨ρ, SV, hv, nd, sK_bind h2 fun t ρ1 v H1 SV1 e1 ⟨r, _⟩ h1 => ?_⟩
    subst r
    cases v with
    | false => rw [if_neg Bool.false_ne_true] at h1 ⊢; exact h1 σ H1 SV1 e1 .refl
    | true =>
      rw [if_pos rfl] at h1 ⊢
      refine ⟨fun σ H => ∃ ρ SV, Vars C.K H ρ σ SV ∧ SV.Nodup ∧ sK C W P σ SV H D (whLoop (ev c') (exs bs') m ρ), fun σ' H' q => ⟨m, Nat.lt_succ_self m, q⟩, ρ1, SV1, e1.vars, e1.nd, ?_⟩
      have h1 := sK_re e1 .refl h1
      cases hx : exs bs' ρ1 with
      | bad => rw [hx] at h1; exact h1
      | exc x ρ' => rw [hx] at h1; exact h1
      | ok f ρ2 =>
        rw [hx] at h1
        cases f with
        | nx => exact fun σ' H' SV' e k => ⟨ρ2, SV', e.vars, e.nd, sK_re e k h1⟩
        | ct => exact fun σ' H' SV' e k => ⟨ρ2, SV', e.vars, e.nd, sK_re e k h1⟩
        | bk => exact h1
        | rt d => exact h1
/-- for -/
theorem s_for {tg iter : Expr} {tg' : Tg} {it : It} {bs : List Stmt} {bs' : Ss} (hP : ∀ i ∈ tns tg', i ∉ P) (hp : PassesOwn (model X.prog X.w) X.A X.env X.xe) (hc : X.calm = true) (hi : PI X tg iter (tI C W it)) (hg : PG X tg (tG C.K tg')) (hb : PSs X bs (tSs C W P bs')) (hs : ∀ x, foldedSetIterable iter X.env x = pure x) :
    PS X (.For tg iter bs [] pos) (tS C W P (.forr tg' it bs')) := by
  refine psmono (ps_for hp hc hi hg hb hs) fun D σ H ⟨ρ, SV, hv, nd, h⟩ => ?_
  have h : sK C W P σ SV H D ((evIt it ρ).bind fun items ρ => forLoop tg' (exs bs') items ρ) := h
  refine ⟨ρ, SV, hv, nd, sK_bind h fun ds ρ1 J H1 SV1 e1 wk h1 => ?_⟩
  have h1 := sK_re e1 .refl h1
  refine L2.for_it wk.walk (fun i σ' H' => ∃ ρ' SV', EnvP C.K SV1 H1 σ' ρ' H' SV' ∧ sK C W P σ' SV' H' D (forLoop tg' (exs bs') (ds.drop i) ρ')) ⟨ρ1, SV1, .refl e1.vars e1.nd, h1⟩ ?_ ?_ ?_
  · rintro i σ' H' _ ⟨ρ', SV', e, _⟩
    exact e.ext.kp e1.vars.owns fun a ha => absurd ha List.not_mem_nil
  · rintro i x σ' Ha Hb hi' ⟨ρi, SVi, e, hk⟩ y
    obtain ⟨x1, rd⟩ := y ds[i] (by simp [hi'])
    rw [List.drop_eq_getElem_cons hi'] at hk
    have ei : EnvP C.K SVi Ha σ' ρi Hb SVi := (EnvP.refl e.vars e.nd).ext0 x1
    have hk : sK C W P σ' SVi Ha D (match bindT tg' ds[i] ρi with
      | none => .bad
      | some ρ1 => match exs bs' ρ1 with
        | .ok .nx ρ2 => forLoop tg' (exs bs') (ds.drop (i + 1)) ρ2
        | .ok .ct ρ2 => forLoop tg' (exs bs') (ds.drop (i + 1)) ρ2
        | .ok .bk ρ2 => .ok .nx ρ2
        | .ok (.rt v) ρ2 => .ok (.rt v) ρ2
        | .exc x ρ2 => .exc x ρ2
        | .bad => .bad) := hk
    cases hbd : bindT tg' ds[i] ρi with
    | none => rw [hbd] at hk; exact hk.elim
    | some ρb =>
      rw [hbd] at hk
      refine ⟨ds[i], ρi, SVi, ρb, rd, ei.vars, ei.nd, hbd, fun σ2 SV2 v2 n2 s2 ag len => ⟨ρb, SV2, v2, n2, ?_⟩⟩
      have e2 : EnvP C.K SVi Ha σ2 ρb Hb SV2 := ei.tr (EnvP.sub v2 n2 s2)
      have k2 : Kept P σ' σ2 := ⟨fun j hj => ag j fun z => hP j z hj, len⟩
      have hk := sK_re e2 k2 hk
      dsimp only at hk
      have e3 : EnvP C.K SV1 H1 σ2 ρb Hb SV2 := e.tr e2
      cases hx : exs bs' ρb with
      | bad => rw [hx] at hk; exact hk
      | exc x ρ' => rw [hx] at hk; exact hk
      | ok f ρ2 =>
        rw [hx] at hk
        cases f with
        | nx => exact fun σ' H' SV' e k => ⟨ρ2, SV', e3.tr e, sK_re e k hk⟩
        | ct => exact fun σ' H' SV' e k => ⟨ρ2, SV', e3.tr e, sK_re e k hk⟩
        | bk => exact hk
        | rt d => exact hk
  · rintro σ' H' ⟨ρi, SVi, e, hk⟩
    rw [List.drop_length] at hk
    exact hk σ' H' SVi (.refl e.vars e.nd) .refl
end
end Ly

namespace Ly
open PySem PySem.Spec L2
variable [Fns]
section
variable {K : PySem.W.Frag} {SV SV1 : List Addr} {H H1 : Hp} {σ : St} {ρ ρ1 : Ev}
/-- the object at a of the name i is written -/
theorem obj_write {i : Nat} {a : Addr} {S' S2 R : List Addr} {o o2 : HO} {d2 : D} (e1 : EnvP K SV H σ ρ1 H1 SV1) (f : Foc K H1 ρ1 σ SV1 i (a :: S') R) (hσ : σ[i]? = some (some (.ref a))) (ho : H1 a = some o) (m : Mb o)
    (rep : Rep K (upd H1 a o2) d2 (.ref a) (a :: S2)) (nd : (a :: (S2 ++ R)).Nodup) (src : ∀ b ∈ S2, b ∈ SV ∨ H b = none) :
    ∃ SV2, EnvP K SV H σ (ρ1.set i (some d2)) (upd H1 a o2) SV2 ∧ SV2.Perm (a :: (S2 ++ R)) := by
  have aR : a ∉ R := fun z => (List.nodup_cons.mp nd).1 (List.mem_append_right _ z)
  have kR : Kp R H1 (upd H1 a o2) := kp_upd ho m aR
  obtain ⟨SV2, v2, p2⟩ := f.set _ d2 _ _ kR rep
  rw [set_same hσ] at v2
  have p2' : SV2.Perm (a :: (S2 ++ R)) := p2
  have a1 : a ∈ SV1 := f.perm.mem_iff.mpr (List.mem_append_left _ List.mem_cons_self)
  refine ⟨SV2, ⟨v2, p2'.nodup_iff.mpr nd, fun b hb => ?_, fun b u hb hs => ?_⟩, p2'⟩
  · rcases List.mem_cons.mp (p2'.mem_iff.mp hb) with z | z
    · rw [z]; exact e1.src a a1
    · rcases List.mem_append.mp z with z | z
      · exact src b z
      · exact e1.src b (f.perm.mem_iff.mpr (List.mem_append_right _ z))
  · rw [upd_ne (fun z => ?_)]
    · exact e1.ext b u hb hs
    · subst z
      rcases e1.src b a1 with q | q
      · exact hs q
      · rw [hb] at q; cases q
/-- an own list of a name -/
theorem lst_at {i : Nat} {xs : List D} (hv : Vars K H ρ σ SV) (h : getV ρ i = some (.lst true xs)) : ∃ a vs S' R, σ[i]? = some (some (.ref a)) ∧ H a = some (.lst vs) ∧ Reps K H xs vs S' ∧ Foc K H ρ σ SV i (a :: S') R := by
  obtain ⟨v, S, R, e1, r, f⟩ := var_at hv h
  obtain ⟨a, vs, S', rfl, q, rs, rfl⟩ := r
  exact ⟨a, vs, S', R, e1, q, rs, f⟩
theorem isL_some {i : Nat} (h : isL ρ i = true) : ∃ xs, getV ρ i = some (.lst true xs) := by
  unfold isL at h
  split at h
  · rename_i xs e; exact ⟨xs, e⟩
  · cases h
theorem Reps.split : ∀ {ds : List D} {vs : List V} {S : List Addr} {k : Nat} {d : D}, Reps K H ds vs S → ds[k]? = some d → ∃ v T R, vs[k]? = some v ∧ Rep K H d v T ∧ S.Perm (T ++ R) ∧ Reps K H (ds.eraseIdx k) (vs.eraseIdx k) R ∧ ∀ d' v' T', Rep K H d' v' T' → ∃ S2, Reps K H (ds.set k d') (vs.set k v') S2 ∧ S2.Perm (T' ++ R)
  | [], _, _, _, _, _, h => by simp at h
  | e :: ds, _, _, 0, d, h, hk => by
    obtain ⟨v, r, S1, S2, rfl, q1, q2, rfl⟩ := h
    cases (show e = d by simpa using hk)
    exact ⟨v, S1, S2, rfl, q1, .refl _, q2, fun d' v' T' r' => ⟨T' ++ S2, Reps.cons r' q2, .refl _⟩⟩
  | e :: ds, _, _, k + 1, d, h, hk => by
    obtain ⟨v, r, S1, S2, rfl, q1, q2, rfl⟩ := h
    obtain ⟨v1, T, R, h1, h2, h3, h4, h5⟩ := Reps.split (k := k) q2 (by simpa using hk)
    refine ⟨v1, T, S1 ++ R, by simpa using h1, h2, ?_, Reps.cons q1 h4, fun d' v' T' r' => ?_⟩
    · refine (h3.append_left S1).trans ?_
      rw [← List.append_assoc, ← List.append_assoc]
      exact (List.perm_append_comm).append_right R
    · obtain ⟨S3, h6, h7⟩ := h5 d' v' T' r'
      refine ⟨S1 ++ S3, Reps.cons q1 h6, (h7.append_left S1).trans ?_⟩
      rw [← List.append_assoc, ← List.append_assoc]
      exact (List.perm_append_comm).append_right R
end
section
variable {X : Cx} {C : Cfg} {W : WX} {P : List Nat} {pos : Pos} {e : Expr} {e' : E}
theorem sK_bind2 {α β : Type} {SV SV1 : List Addr} {H H1 : Hp} {σ : St} {ρ1 : Ev} {D : Ends} {R : α → Ev → List Addr → Hp → β → Prop} {m : Out α} {f : α → Ev → Out Fl} {Q1 : β → Hp → Prop} (e1 : EnvP C.K SV H σ ρ1 H1 SV1)
    (h : sK C W P σ SV H D (m.bind f)) (k : ∀ d ρ2 v H2 SV2, EnvP C.K SV1 H1 σ ρ2 H2 SV2 → R d ρ2 SV2 H2 v → sK C W P σ SV H D (f d ρ2) → Q1 v H2) : tK C W σ SV1 H1 R m Q1 := by
  cases m with
  | bad => exact h
  | exc x ρ' => exact fun cls dd H' SV' e er => h cls dd σ H' SV' (e1.trans e) .refl er
  | ok d ρ2 => exact fun v H2 SV2 e2 r2 => k d ρ2 v H2 SV2 e2 r2 h
/-- x.append(e) -/
theorem s_app {i : Nat} {x : Str} {p apos cpos pos : Pos} (hK : X.K = C.K) (ho : own e' = true) (hN : X.N[i]? = some x) (hv : Vis X.env.scope x) (hd : (x == ("__debug__" : Str)) = false) (hcd : (x == ("__classdict__" : Str)) = false) (ha : PA X [e] (tA C W (.cons e' .nil)))
    (hbase : attributeBase (.Name x p) "append" X.env (eval (.Name x p) X.env) = eval (.Name x p) X.env)
    (hfew : ((backTo cpos (starEach [e] X.env)).all (fun x => !x.1) && (backToKw cpos (keywordEach [] X.env)).all (fun x => x.1.isSome)
      && decide (([e] : List Expr).length + ([] : List Keyword).length + (if ([] : List Keyword).isEmpty then 0 else 1) < 30)) = true)
    (hline : (apos.endLine == cpos.line) = true) (hs : starEach [e] X.env = (false, eval e X.env) :: starEach [] X.env) (hplain : (backTo cpos (starEach [] X.env)).any (·.1) = false) (hsw : swapsWith (.Call (.Attribute (.Name x p) "append" apos) [e] [] cpos) none pos.line X.env = pure false) :
    PS X (.Expr (.Call (.Attribute (.Name x p) "append" apos) [e] [] cpos) pos) (tS C W P (.app i e')) := by
  refine psmono (ps_expr (pe_bm PySem.F.plainAttrs_list PySem.F.slot_list_append PySem.F.type_list_append mt_append (pe_var hN hv hd hcd) ha hbase hfew hline hs hplain) hsw) fun D σ H ⟨ρ, SV, hv', nd, h⟩ => ?_
  have h : sK C W P σ SV H D (if isL ρ i = true then (ev e' ρ).bind fun d ρ => (onL (appF d) i ρ).bind fun _ ρ => .ok .nx ρ else .bad) := h
  by_cases hl : isL ρ i = true
  case neg => rw [if_neg hl] at h; exact h.elim
  rw [if_pos hl] at h
  obtain ⟨xs0, h0⟩ := isL_some hl
  obtain ⟨a, vs0, S0, R0, hσ, hH0, _, _⟩ := lst_at hv' h0
  refine ⟨.ref a, hσ, .inl ⟨rfl, vs0, .inl (.inl hH0)⟩, ρ, SV, hv', nd, ?_⟩
  have e3 : evs (.cons e' .nil) ρ = (ev e' ρ).bind fun d ρ => .ok [d] ρ := rfl
  have h2 : sK C W P σ SV H D ((evs (.cons e' .nil) ρ).bind fun ds ρ => match ds with | [d] => (onL (appF d) i ρ).bind fun _ ρ => .ok .nx ρ | _ => .bad) := by
    rw [e3]
    cases hev : ev e' ρ <;> rw [hev] at h <;> exact h
  refine sK_bind h2 fun ds ρ1 vs H1 SV1 e1 ⟨⟨S, r1⟩, _⟩ h1 => ?_
  have hsep := r1.sep
  have hsrc := r1.src
  cases r1.rep with
  | @cons _ _ d ds v vs T T' rd t =>
    cases t
    rw [List.append_nil] at hsep hsrc
    have h1 : sK C W P σ SV H D ((onL (appF d) i ρ1).bind fun _ ρ => .ok .nx ρ) := h1
    unfold onL at h1
    cases hg : getV ρ1 i with
    | none => rw [hg] at h1; exact h1.elim
    | some z =>
      rw [hg] at h1
      match z, hg, h1 with
      | .lst true xs, hg, h1 =>
        obtain ⟨a', vs1, S', R, hσ', hH1, rs, f⟩ := lst_at e1.vars hg
        rw [hσ] at hσ'
        cases hσ'
        dsimp only at h1
        unfold appF at h1
        by_cases hlim : xs.length < lim
        case neg => rw [if_neg hlim] at h1; exact h1.elim
        rw [if_pos hlim] at h1
        have h1 : sK C W P σ SV H D (.ok .nx (ρ1.set i (some (.lst true (xs ++ [d]))))) := h1
        refine ⟨a, vs1, v, rfl, rfl, hH1, by rw [← rs.length]; have := lim_eq; omega, ?_⟩
        have ndf : ((a :: S') ++ R).Nodup := f.perm.nodup_iff.mp e1.nd
        obtain ⟨na, ndf'⟩ := List.nodup_cons.mp (show (a :: (S' ++ R)).Nodup from ndf)
        have mem1 : ∀ b ∈ a :: (S' ++ R), b ∈ SV1 := fun b hb => f.perm.mem_iff.mpr hb
        have tdis : ∀ b ∈ T, b ≠ a ∧ b ∉ S' := fun b hb => ⟨fun q => (List.nodup_append.mp hsep).2.2 b hb a (mem1 a List.mem_cons_self) q, fun q => (List.nodup_append.mp hsep).2.2 b hb b (mem1 b (List.mem_cons_of_mem _ (List.mem_append_left _ q))) rfl⟩
        have ndT : (T ++ R).Nodup := List.nodup_append.mpr ⟨(List.nodup_append.mp hsep).1, (List.nodup_append.mp ndf').2.1, fun b hb c hc q => (List.nodup_append.mp hsep).2.2 b hb c (mem1 c (List.mem_cons_of_mem _ (List.mem_append_right _ hc))) q⟩
        have nd2 := nodup_mid (S := S') (T := T) (U := R) (a := a) ndf ndT tdis
        have kU : Kp (S' ++ T) H1 (upd H1 a (.lst (vs1 ++ [v]))) := kp_upd hH1 (show Mb (.lst vs1) from True.intro) fun z => (List.nodup_cons.mp nd2).1 (List.mem_append_left _ z)
        have rall := (rs.app (Reps.cons (S2 := []) rd Reps.nil))
        rw [List.append_nil] at rall
        have rep2 : Rep C.K (upd H1 a (.lst (vs1 ++ [v]))) (.lst true (xs ++ [d])) (.ref a) (a :: (S' ++ T)) := ⟨a, _, _, rfl, upd_same, rall.kp _ kU, rfl⟩
        obtain ⟨SV2, e2, _⟩ := obj_write e1 f hσ hH1 (show Mb (.lst vs1) from True.intro) rep2 nd2 (fun b hb => by
          rcases List.mem_append.mp hb with q | q
          · exact e1.src b (mem1 b (List.mem_cons_of_mem _ (List.mem_append_left _ q)))
          · exact hsrc b q)
        exact h1 σ _ SV2 e2 .refl
      | .lst false _, _, h1 => exact h1.elim
      | .non, _, h1 => exact h1.elim
      | .bl _, _, h1 => exact h1.elim
      | .int _, _, h1 => exact h1.elim
      | .str _, _, h1 => exact h1.elim
      | .tup _, _, h1 => exact h1.elim
      | .dk _ _ _, _, h1 => exact h1.elim
      | .dt _ _ _, _, h1 => exact h1.elim
      | .exc _ _, _, h1 => exact h1.elim
      | .scr _, _, h1 => exact h1.elim
/-- x[i] = e -/
def rSetZ : TSet := fun o i v H Q => rSetL o i v H Q ∨ rSetD o i v H Q
theorem set_any (hu : X.A.units + 1 < cLine) : PSet X rSetZ := fun pins s σ H o i v ov iv u Q I r1 r2 r3 h => h.elim (set_list pins s σ H o i v ov iv u Q I r1 r2 r3) (set_dict hu pins s σ H o i v ov iv u Q I r1 r2 r3)
end
theorem keyD_kV {K : PySem.W.Frag} {H : Hp} {d : D} {u : V} {S : List Addr} {k : Key} (r : Rep K H d u S) (h : keyD d = some k) : u = kV k := by
  cases d with
  | int i => cases h; exact r.1
  | str x => cases h; exact r.1
  | _ => cases h
theorem any_zip {κ : Type} [DecidableEq κ] {k : κ} : ∀ {ks : List κ} {vs : List V}, ks.length = vs.length → ((ks.zip vs).any fun kv => decide (kv.1 = k)) = ks.any fun j => decide (j = k)
  | [], _, _ => rfl
  | _ :: _, [], h => by simp at h
  | j :: ks, v :: vs, h => by
    rw [List.zip_cons_cons, List.any_cons, List.any_cons, any_zip (by simpa using h)]
theorem map_zip {κ : Type} [DecidableEq κ] {k : κ} {z : V} : ∀ {ks : List κ} {vs : List V}, (ks.zip vs).map (fun kv => if kv.1 = k then (kv.1, z) else kv) = ks.zip (List.zipWith (fun j w => if j = k then z else w) ks vs)
  | [], _ => by simp
  | _ :: _, [] => by simp
  | j :: ks, v :: vs => by
    rw [List.zip_cons_cons, List.map_cons, map_zip, List.zipWith_cons_cons, List.zip_cons_cons]
    congr 1
    by_cases e : j = k <;> simp [e]
theorem reps_zipWith {κ : Type} [DecidableEq κ] {K : PySem.W.Frag} {H : Hp} {k : κ} {d : D} {z : V} (r : Rep K H d z []) : ∀ {ks : List κ} {ds : List D} {vs : List V} {S : List Addr}, ks.length = ds.length → Reps K H ds vs S →
    ∃ S2, Reps K H (List.zipWith (fun j w => if j = k then d else w) ks ds) (List.zipWith (fun j w => if j = k then z else w) ks vs) S2 ∧ S2.Sublist S
  | [], [], _, S, _, h => by obtain ⟨rfl, rfl⟩ := h; exact ⟨[], Reps.nil, .refl _⟩
  | [], _ :: _, _, _, h, _ => by simp at h
  | _ :: _, [], _, _, h, _ => by simp at h
  | j :: ks, e :: ds, _, _, hl, h => by
    obtain ⟨v, vs, S1, S2, rfl, q1, q2, rfl⟩ := h
    obtain ⟨S3, h1, h2⟩ := reps_zipWith r (by simpa using hl) q2
    rw [List.zipWith_cons_cons, List.zipWith_cons_cons]
    by_cases e : j = k
    · rw [if_pos e, if_pos e]
      exact ⟨S3, Reps.cons (S1 := []) r h1, h2.trans (List.sublist_append_right _ _)⟩
    · rw [if_neg e, if_neg e]
      exact ⟨S1 ++ S3, Reps.cons q1 h1, h2.append_left _⟩
/-- a dict's entries behind d[k] = v -/
theorem put_rep {κ : Type} [DecidableEq κ] {K : PySem.W.Frag} {H : Hp} {k : κ} {d : D} {z : V} {ks : List κ} {ds : List D} {vs : List V} {S : List Addr} (hl : ks.length = vs.length) (rs : Reps K H ds vs S) (r : Rep K H d z []) :
    ∃ vs2 S2, putK (ks.zip vs) k z = (put k d ks ds).1.zip vs2 ∧ (put k d ks ds).1.length = vs2.length ∧ Reps K H (put k d ks ds).2 vs2 S2 ∧ S2.Sublist S := by
  have hl2 := rs.length
  unfold putK put
  rw [any_zip hl]
  by_cases h : (ks.any fun j => decide (j = k)) = true
  · rw [if_pos h, if_pos h]
    obtain ⟨S2, h1, h2⟩ := reps_zipWith (k := k) r (ks := ks) (by omega) rs
    exact ⟨_, S2, map_zip, by show ks.length = _; rw [List.length_zipWith]; omega, h1, h2⟩
  · rw [if_neg h, if_neg h]
    have := rs.app (Reps.cons (S1 := []) (S2 := []) r Reps.nil)
    exact ⟨vs ++ [z], S ++ [], (by have := List.zip_append (l₁ := ks) (l₂ := vs) (r₁ := [k]) (r₂ := [z]) hl; exact this.symm), by simp [hl], this, by rw [List.append_nil]; exact .refl _⟩
theorem dk_at {K : PySem.W.Frag} {H : Hp} {ρ : Ev} {σ : St} {SV : List Addr} {i : Nat} {ks : List Key} {ds : List D} (hv : Vars K H ρ σ SV) (h : getV ρ i = some (.dk true ks ds)) : ∃ a vs S' R, σ[i]? = some (some (.ref a)) ∧ H a = some (.dK (ks.zip vs)) ∧ ks.length = vs.length ∧ Reps K H ds vs S' ∧ Foc K H ρ σ SV i (a :: S') R := by
  obtain ⟨v, S, R, e1, r, f⟩ := var_at hv h
  obtain ⟨a, vs, S', rfl, q, l, rs, rfl⟩ := r
  exact ⟨a, vs, S', R, e1, q, l, rs, f⟩
section
variable {X : Cx} {C : Cfg} {W : WX} {P : List Nat} {pos : Pos} {e : Expr} {e' : E}
theorem s_setI {i : Nat} {x : Str} {p tpos : Pos} {ix : Expr} {ix' : E} (hK : X.K = C.K) (hu : X.A.units + 1 < cLine) (ho : own e' = true) (hN : X.N[i]? = some x) (hv : Vis X.env.scope x) (hd : (x == ("__debug__" : Str)) = false) (hcd : (x == ("__classdict__" : Str)) = false) (he : PE X e (tD C W e')) (hix : PE X ix (tD C W ix'))
    (hq : quiet ix' = true)
    (ha : ∀ v, assign (.Subscript (.Name x p) ix tpos) X.env v = (do
      let ov ← holding [v] (eval (.Name x p) X.env)
      let iv ← holding [v, ov] (eval ix X.env)
      standAt tpos
      holding [v, ov, iv] (setItem ov iv v)
      release [v, ov, iv] []))
    (hs : swapsWithSole [.Subscript (.Name x p) ix tpos] e pos.line X.env = pure false) (hw : swappedStores [.Subscript (.Name x p) ix tpos] e X.env = pure none) (h1 : (assignEach [.Subscript (.Name x p) ix tpos] X.env).map (·.2) = [assign (.Subscript (.Name x p) ix tpos) X.env]) :
    PS X (.Assign [.Subscript (.Name x p) ix tpos] e pos) (tS C W P (.setI i ix' e')) := by
  refine psmono (ps_asg he (pg_sub (pe_var hN hv hd hcd) hix (set_any hu) ha) hs hw h1) fun D σ H ⟨ρ, SV, hv', nd, h⟩ => ⟨ρ, SV, hv', nd, ?_⟩
  refine sK_bind (show sK C W P σ SV H D ((ev e' ρ).bind fun d ρ => (match getV ρ i with
    | some x => (ev ix' ρ).bind fun k ρ => (match x, k with
      | .lst true xs, .int j => (match ixN xs.length j with
        | some n => .ok .nx (ρ.set i (some (.lst true (xs.set n d))))
        | none => .bad)
      | .dk true ks vs, k => (match keyD k with
        | some j => if frzD d = true ∧ ks.length < lim then .ok .nx (ρ.set i (some (.dk true (put j d ks vs).1 (put j d ks vs).2))) else .bad
        | none => .bad)
      | _, _ => .bad)
    | none => .bad)) from h) fun d ρ1 v H1 SV1 e1 ⟨⟨T, r1⟩, _⟩ h1 => ?_
  cases hg : getV ρ1 i with
  | none => rw [hg] at h1; exact h1.elim
  | some x0 =>
    rw [hg] at h1
    obtain ⟨w, S0, R0, hσ, _, _⟩ := var_at e1.vars hg
    have hsep := r1.sep ho
    have hsrc := r1.src ho
    refine ⟨w, hσ, ρ1, SV1, e1.vars, e1.nd, sK_bind2 e1 h1 fun k ρ2 u H2 SV2 e2 ⟨⟨Sk, rk⟩, q2⟩ h2 => ?_⟩
    obtain ⟨rfl, rfl, x2⟩ := q2 hq
    have rd : Rep C.K H2 d v T := r1.rep.kp d (x2.all _)
    have e12 : EnvP C.K SV H σ ρ2 H2 SV2 := e1.trans e2
    match x0, k, hg, h2 with
    | .lst true xs, .int j, hg, h2 =>
      dsimp only at h2
      obtain ⟨a, vs1, S', R, hσ', hH2, rs, f⟩ := lst_at e12.vars hg
      rw [hσ] at hσ'
      cases hσ'
      cases hj : ixN xs.length j with
      | none => rw [hj] at h2; exact h2.elim
      | some n =>
        rw [hj] at h2
        have hn : n < xs.length := (ixN_seq hj).2.2.2 |> fun _ => by
          have := (ixN_seq hj).2.1
          omega
        obtain ⟨v0, T0, R0, g1, g2, g3, g4, g5⟩ := Reps.split rs (List.getElem?_eq_getElem hn)
        have ndf : ((a :: S') ++ R).Nodup := f.perm.nodup_iff.mp e12.nd
        obtain ⟨na, ndf'⟩ := List.nodup_cons.mp (show (a :: (S' ++ R)).Nodup from ndf)
        have mem1 : ∀ b ∈ a :: (S' ++ R), b ∈ SV2 := fun b hb => f.perm.mem_iff.mpr hb
        have memR : ∀ b ∈ R0, b ∈ S' := fun b hb => g3.mem_iff.mpr (List.mem_append_right _ hb)
        have ndR0 : R0.Nodup := (List.nodup_append.mp (g3.nodup_iff.mp (List.nodup_append.mp ndf').1)).2.1
        have tdis : ∀ b ∈ T, ∀ c ∈ a :: (S' ++ R), b ≠ c := fun b hb c hc q => (List.nodup_append.mp hsep).2.2 b hb c (mem1 c hc) q
        have nd2 : (a :: ((T ++ R0) ++ R)).Nodup := by
          refine List.nodup_cons.mpr ⟨fun z => ?_, List.nodup_append.mpr ⟨List.nodup_append.mpr ⟨(List.nodup_append.mp hsep).1, ndR0, fun b hb c hc => tdis b hb c (List.mem_cons_of_mem _ (List.mem_append_left _ (memR c hc)))⟩, (List.nodup_append.mp ndf').2.1, fun b hb c hc => ?_⟩⟩
          · rcases List.mem_append.mp z with z | z
            · rcases List.mem_append.mp z with z | z
              · exact tdis a z a List.mem_cons_self rfl
              · exact na (List.mem_append_left _ (memR a z))
            · exact na (List.mem_append_right _ z)
          · rcases List.mem_append.mp hb with z | z
            · exact tdis b z c (List.mem_cons_of_mem _ (List.mem_append_right _ hc))
            · exact (List.nodup_append.mp ndf').2.2 b (memR b z) c hc
        have kU : Kp (T ++ R0) H2 (upd H2 a (.lst (vs1.set n v))) := kp_upd hH2 (show Mb (.lst vs1) from True.intro) fun z => (List.nodup_cons.mp nd2).1 (List.mem_append_left _ z)
        obtain ⟨S2, h5, h6⟩ := g5 d v T rd
        have rep2 : Rep C.K (upd H2 a (.lst (vs1.set n v))) (.lst true (xs.set n d)) (.ref a) (a :: S2) := ⟨a, _, _, rfl, upd_same, h5.kp _ (kU.sub fun b hb => h6.mem_iff.mp hb), rfl⟩
        obtain ⟨SV3, e3, _⟩ := obj_write e12 f hσ hH2 (show Mb (.lst vs1) from True.intro) rep2 (((h6.append_right R).cons a).nodup_iff.mpr nd2) (fun b hb => by
          rcases List.mem_append.mp (h6.mem_iff.mp hb) with q | q
          · exact hsrc b q
          · exact e12.src b (mem1 b (List.mem_cons_of_mem _ (List.mem_append_left _ (memR b q)))))
        refine .inl ⟨a, vs1, j, n, rfl, rk.rep.1, hH2, by rw [← rs.length]; exact hj, h2 σ _ SV3 e3 .refl⟩
    | .dk true ks ds, k, hg, h2 =>
      obtain ⟨a, vs1, S', R, hσ', hH2, hl, rs, f⟩ := dk_at e12.vars hg
      rw [hσ] at hσ'
      cases hσ'
      have h2 : sK C W P σ SV H D (match keyD k with
        | some j => if frzD d = true ∧ ks.length < lim then .ok .nx (ρ2.set i (some (.dk true (put j d ks ds).1 (put j d ks ds).2))) else .bad
        | none => .bad) := by cases k <;> exact h2
      cases hk : keyD k with
      | none => rw [hk] at h2; exact h2.elim
      | some j =>
        rw [hk] at h2
        dsimp only at h2
        by_cases hc : frzD d = true ∧ ks.length < lim
        case neg => rw [if_neg hc] at h2; exact h2.elim
        rw [if_pos hc] at h2
        have := rd.frz hc.1
        subst this
        obtain ⟨vs2, S2, p1, p2, p3, p4⟩ := put_rep (k := j) hl rs rd
        have ndf : ((a :: S') ++ R).Nodup := f.perm.nodup_iff.mp e12.nd
        obtain ⟨na, ndf'⟩ := List.nodup_cons.mp (show (a :: (S' ++ R)).Nodup from ndf)
        have mem1 : ∀ b ∈ a :: (S' ++ R), b ∈ SV2 := fun b hb => f.perm.mem_iff.mpr hb
        have nd2 : (a :: (S2 ++ R)).Nodup := List.Nodup.sublist ((p4.append_right R).cons_cons a) ndf
        have kU : Kp S2 H2 (upd H2 a (.dK ((put j d ks ds).1.zip vs2))) := kp_upd hH2 (show Mb (.dK (ks.zip vs1)) from True.intro) fun z => (List.nodup_cons.mp nd2).1 (List.mem_append_left _ z)
        have rep2 : Rep C.K (upd H2 a (.dK ((put j d ks ds).1.zip vs2))) (.dk true (put j d ks ds).1 (put j d ks ds).2) (.ref a) (a :: S2) := ⟨a, vs2, S2, rfl, upd_same, p2, p3.kp _ kU, rfl⟩
        obtain ⟨SV3, e3, _⟩ := obj_write e12 f hσ hH2 (show Mb (.dK (ks.zip vs1)) from True.intro) rep2 nd2 (fun b hb => e12.src b (mem1 b (List.mem_cons_of_mem _ (List.mem_append_left _ (p4.subset hb)))))
        refine .inr ⟨a, _, rfl, .inl ⟨_, j, hH2, keyD_kV rk.rep hk, ?_, by rw [p1]⟩, h2 σ _ SV3 e3 .refl⟩
        rw [List.length_zip, ← hl, Nat.min_self]
        have := lim_eq
        omega
    | .lst true xs, .non, _, h2 => exact h2.elim
    | .lst true xs, .bl _, _, h2 => exact h2.elim
    | .lst true xs, .str _, _, h2 => exact h2.elim
    | .lst true xs, .tup _, _, h2 => exact h2.elim
    | .lst true xs, .lst _ _, _, h2 => exact h2.elim
    | .lst true xs, .dk _ _ _, _, h2 => exact h2.elim
    | .lst true xs, .dt _ _ _, _, h2 => exact h2.elim
    | .lst true xs, .exc _ _, _, h2 => exact h2.elim
    | .lst true xs, .scr _, _, h2 => exact h2.elim
    | .lst false _, k, _, h2 => cases k <;> exact h2.elim
    | .dk false _ _, k, _, h2 => cases k <;> exact h2.elim
    | .non, k, _, h2 => cases k <;> exact h2.elim
    | .bl _, k, _, h2 => cases k <;> exact h2.elim
    | .int _, k, _, h2 => cases k <;> exact h2.elim
    | .str _, k, _, h2 => cases k <;> exact h2.elim
    | .tup _, k, _, h2 => cases k <;> exact h2.elim
    | .dt _ _ _, k, _, h2 => cases k <;> exact h2.elim
    | .exc _ _, k, _, h2 => cases k <;> exact h2.elim
    | .scr _, k, _, h2 => cases k <;> exact h2.elim
end
end Ly

namespace Ly
open PySem PySem.Spec L2
variable [Fns]
section
variable {K : PySem.W.Frag} {H : Hp}
theorem vars_none {m : Nat} : Vars K H (List.replicate m none) (List.replicate m none) [] := by
  induction m with
  | zero => exact rfl
  | succ m ih => exact ih
theorem vars_start {m : Nat} : ∀ {io : List Bool} {ds : List D} {vs : List V} {S : List Addr}, AF K H io ds vs S → Vars K H (ds.map some ++ List.replicate m none) (vs.map some ++ List.replicate m none) S
  | [], [], [], _, h => by
    have h : _ = [] := h
    subst h
    exact vars_none
  | b :: io, d :: ds, v :: vs, _, h => by
    obtain ⟨S1, S2, r, _, h, rfl⟩ := h
    exact ⟨S1, S2, r, vars_start h, rfl⟩
  | [], [], _ :: _, _, h => h.elim
  | [], _ :: _, _, _, h => h.elim
  | _ :: _, [], _, _, h => h.elim
  | _ :: _, _ :: _, [], _, h => h.elim
theorem AF.len {io : List Bool} {ds : List D} {vs : List V} {S : List Addr} : AF K H io ds vs S → ds.length = io.length := by
  induction io generalizing ds vs S with
  | nil =>
    intro h
    cases ds with
    | nil => rfl
    | cons _ _ => exact h.elim
  | cons b io ih =>
    intro h
    cases ds with
    | nil => exact h.elim
    | cons d ds =>
      cases vs with
      | nil => exact h.elim
      | cons v vs =>
        obtain ⟨S1, S2, _, _, h, _⟩ := h
        exact congrArg (· + 1) (ih h)
theorem outsOf_map {x : Option D} : ∀ {is : List Nat} {ρ : Ev}, outsOf (is.map (· + 1)) (x :: ρ) = outsOf is ρ
  | [], _ => rfl
  | i :: is, ρ => by
    show (match getV (x :: ρ) (i + 1), outsOf (is.map (· + 1)) (x :: ρ) with | some d, some l => some (d :: l) | _, _ => none) = _
    rw [outsOf_map]
    rfl
theorem of_vars : ∀ {io : List Bool} {vs : List V} {outs : List D} {ρ : Ev} {σ : St} {SV : List Addr}, Vars K H ρ σ SV → io.length ≤ ρ.length → io.length = vs.length → (∀ (i : Nat) v, io[i]? = some true → vs[i]? = some v → σ[i]? = some (some v)) → outsOf (ixs io) ρ = some outs →
    ∃ U, OF K H io outs vs U ∧ U.Sublist SV
  | [], [], _, _, _, _, _, _, _, _, h => by cases h; exact ⟨[], rfl, List.nil_sublist _⟩
  | [], _ :: _, _, _, _, _, _, _, h, _, _ => by simp at h
  | _ :: _, [], _, _, _, _, _, _, h, _, _ => by simp at h
  | b :: io, v :: vs, outs, [], _, _, _, h, _, _, _ => by simp at h
  | b :: io, v :: vs, outs, none :: ρ, [], _, hv, _, _, _, _ => hv.elim
  | b :: io, v :: vs, outs, some _ :: ρ, [], _, hv, _, _, _, _ => hv.elim
  | false :: io, v :: vs, outs, none :: ρ, x :: σ, SV, hv, h1, h2, h3, h4 => by
    have h4 : outsOf ((ixs io).map (· + 1)) (none :: ρ) = some outs := h4
    rw [outsOf_map] at h4
    exact of_vars (io := io) (vs := vs) (σ := σ) (SV := SV) hv (by simpa using h1) (by simpa using h2) (fun i w e1 e2 => by simpa using h3 (i + 1) w (by simpa using e1) (by simpa using e2)) h4
  | false :: io, v :: vs, outs, some d :: ρ, some y :: σ, _, hv, h1, h2, h3, h4 => by
    obtain ⟨S, R, r, hv, rfl⟩ := hv
    have h4 : outsOf ((ixs io).map (· + 1)) (some d :: ρ) = some outs := h4
    rw [outsOf_map] at h4
    obtain ⟨U, a1, a2⟩ := of_vars (io := io) (vs := vs) hv (by simpa using h1) (by simpa using h2) (fun i w e1 e2 => by simpa using h3 (i + 1) w (by simpa using e1) (by simpa using e2)) h4
    exact ⟨U, a1, a2.trans (List.sublist_append_right _ _)⟩
  | b :: io, v :: vs, outs, some d :: ρ, none :: σ, _, hv, _, _, _, _ => hv.elim
  | true :: io, v :: vs, outs, none :: ρ, x :: σ, SV, hv, h1, h2, h3, h4 => by cases h4
  | true :: io, v :: vs, outs, some d :: ρ, some y :: σ, _, hv, h1, h2, h3, h4 => by
    obtain ⟨S, R, r, hv, rfl⟩ := hv
    have h4 : (match some d, outsOf ((ixs io).map (· + 1)) (some d :: ρ) with | some d, some l => some (d :: l) | _, _ => none) = some outs := h4
    rw [outsOf_map] at h4
    cases h5 : outsOf (ixs io) ρ with
    | none => rw [h5] at h4; cases h4
    | some l =>
      rw [h5] at h4
      cases h4
      obtain ⟨U, a1, a2⟩ := of_vars (io := io) (vs := vs) hv (by simpa using h1) (by simpa using h2) (fun i w e1 e2 => by simpa using h3 (i + 1) w (by simpa using e1) (by simpa using e2)) h5
      have : some y = some v := by simpa using h3 0 v rfl rfl
      cases this
      exact ⟨S ++ U, ⟨S, U, r, a1, rfl⟩, a2.append_left _⟩
theorem ixs_mem {io : List Bool} : ∀ {i : Nat}, i ∈ ixs io ↔ io[i]? = some true := by
  induction io with
  | nil => intro i; simp [ixs]
  | cons b io ih =>
    intro i
    cases b with
    | true =>
      show i ∈ 0 :: (ixs io).map (· + 1) ↔ _
      cases i with
      | zero => simp
      | succ i => simp [ih]
    | false =>
      show i ∈ (ixs io).map (· + 1) ↔ _
      cases i with
      | zero => simp
      | succ i => simp [ih]
end
/-- the body's run, against the promise -/
theorem body_ok {C : Cfg} {N ps : List Str} {io : List Bool} {sem : FSem} {bs : Ss} {vs : List V} {H : Hp} {Q : VK} {E : XK} (hio : io.length = ps.length) (hps : ps.length ≤ N.length) (hsem : ∀ ds, sem ds ≠ .bad → runFn N.length io bs ds = sem ds)
    (h : spD C io sem vs H Q E) : tSs C (fun cls d _ H => E cls d H) (ixs io) bs { nx := fun _ H' => Q .non H', rt := Q } (L2.start N vs) H := by
  obtain ⟨ds, S, haf, nd, h⟩ := h
  have l1 := haf.length
  have l2 := haf.len
  have hv : Vars C.K H (ds.map some ++ List.replicate (N.length - ds.length) none) (L2.start N vs) S := by
    unfold L2.start
    rw [show N.length - vs.length = N.length - ds.length by omega]
    exact vars_start haf
  refine ⟨_, S, hv, nd, ?_⟩
  have hs := hsem ds (fun z => by rw [z] at h; exact h)
  rw [← hs] at h
  unfold runFn at h
  have σio : ∀ {σ' : St}, Kept (ixs io) (L2.start N vs) σ' → ∀ (i : Nat) v, io[i]? = some true → vs[i]? = some v → σ'[i]? = some (some v) := fun {σ'} k i v e1 e2 => by
    rw [k.at_ i (ixs_mem.mpr e1)]
    unfold L2.start
    have hi : i < vs.length := (List.getElem?_eq_some_iff.mp e2).1
    rw [List.getElem?_append_left (by simpa using hi), List.getElem?_map, e2]
    rfl
  have lenE : ∀ {ρ' : Ev} {σ' : St} {H' : Hp} {SV' : List Addr}, EnvP C.K S H σ' ρ' H' SV' → Kept (ixs io) (L2.start N vs) σ' → io.length ≤ ρ'.length := fun e k => by
    rw [e.vars.length, k.len]
    unfold L2.start
    rw [List.length_append, List.length_map, List.length_replicate]
    omega
  cases hx : exs bs (ds.map some ++ List.replicate (N.length - ds.length) none) with
  | bad => rw [hx] at h; exact h
  | exc x ρ' =>
    rw [hx] at h
    intro cls dd σ' H' SV' e k er
    dsimp only at h
    cases ho : outsOf (ixs io) ρ' with
    | none => rw [ho] at h; exact h.elim
    | some outs =>
      rw [ho] at h
      obtain ⟨U, u1, u2⟩ := of_vars e.vars (lenE e k) (by omega) (σio k) ho
      exact h cls dd H' U e.ext u1 (e.nd.sublist u2) (fun a ha => e.src a (u2.subset ha)) er
  | ok f ρ' =>
    rw [hx] at h
    cases f with
    | bk => exact h.elim
    | ct => exact h.elim
    | nx =>
      intro σ' H' SV' e k
      dsimp only at h
      cases ho : outsOf (ixs io) ρ' with
      | none => rw [ho] at h; exact h.elim
      | some outs =>
        rw [ho] at h
        obtain ⟨U, u1, u2⟩ := of_vars e.vars (lenE e k) (by omega) (σio k) ho
        exact h .non H' [] U e.ext ⟨rfl, rfl⟩ u1 (e.nd.sublist u2) (fun a ha => e.src a (u2.subset ha))
    | rt d =>
      rintro v σ' H' SV' e k ⟨T, r1, r2, r3⟩
      dsimp only at h
      cases ho : outsOf (ixs io) ρ' with
      | none => rw [ho] at h; exact h.elim
      | some outs =>
        rw [ho] at h
        obtain ⟨U, u1, u2⟩ := of_vars e.vars (lenE e k) (by omega) (σio k) ho
        refine h v H' T U e.ext r1 u1 (r3.sublist (u2.append_left T)) fun a ha => ?_
        rcases List.mem_append.mp ha with z | z
        · exact r2 a z
        · exact e.src a (u2.subset z)
section
variable {C : Cfg} {P : Program} {w : World} {mg : Str → Option Value} {base : Heap} {x qual : Str} {params : Arguments} {body : List Stmt} {scope : Scope} {dvs : List V} {kws : List (Str × V)} {f : Addr} {fd : FuncData}
/-- THE RULE: a def -/
theorem fn_ok {N ps : List Str} {io : List Bool} {k : Nat} {sem : FSem} {bs : Ss} (F : FunD C.K x qual params body scope dvs kws f fd) (S : FnScope N ps scope) (hio : io.length = ps.length) (hsem : ∀ ds, sem ds ≠ .bad → runFn N.length io bs ds = sem ds)
    (hb : ∀ (cdv : Value) (A : Around) (outer : List Env) (s : Shared) (H : Hp) (E : XK), Room k (A.deeper (PyProof.Rows.envOfC qual scope s.heap.objs.size f cdv)) →
      PSs (cxOf (L2.CX P w) P w C.K mg base N qual scope f cdv A outer s H E) body (tSs C (fun cls d _ H => E cls d H) (ixs io) bs)) :
    FnOk P w C.K mg base (L2.CX P w) (k + 1) f fd ps (spD C io sem) := by
  have hps : ps.length ≤ N.length := by have := congrArg List.length S.pre; rw [List.length_take] at this; omega
  refine F.ok S (fun vs H Q E h => ?_) fun cdv A outer s H vs Q E hr h => ⟨_, hb cdv A outer s H E hr, body_ok hio hps hsem h⟩
  obtain ⟨ds, S', haf, _⟩ := h
  rw [haf.length, hio]
end
end Ly

namespace Ly
open PySem PySem.Spec L2
variable [Fns]
section
variable {X : Cx} {C : Cfg} {W : WX} {pos : Pos} {a : Expr} {a' : E}
theorem se_dnil : PE X (.Dict [] [] pos) (tD C W .dnil) := by
  refine pemono pe_dnewK fun σ H Q h => ?_
  obtain ⟨ρ, SV, hv, nd, h⟩ := h
  have h : ∀ v H' SV', EnvP C.K SV H σ ρ H' SV' → RD C.K SV H ρ true true (.dk true [] []) ρ SV' H' v → Q v H' := h
  intro p hp
  have x : Ext [] H (upd H p (.dK [])) := Ext.new hp
  have en : EnvP C.K SV H σ ρ (upd H p (.dK [])) SV := (EnvP.refl hv nd).ext0 x
  have pV : p ∉ SV := fun z => by
    obtain ⟨o, eo, _⟩ := hv.owns p z
    rw [hp] at eo
    cases eo
  refine h (.ref p) _ SV en ⟨⟨[p], ⟨p, [], [], rfl, upd_same, rfl, Reps.nil, rfl⟩, (fun _ b hb => ?_), (fun _ => List.nodup_cons.mpr ⟨pV, nd⟩)⟩, fun _ => ⟨rfl, rfl, x⟩⟩
  rw [show b = p by simpa using hb]
  exact .inr hp
/-! ### isinstance -/
def tyN : Ty → String
  | .int => "int"
  | .str => "str"
  | .bool => "bool"
  | .tuple => "tuple"
  | .list => "list"
  | .dict => "dict"
def dTy : D → String
  | .non => "NoneType"
  | .bl _ => "bool"
  | .int _ => "int"
  | .str _ => "str"
  | .tup _ => "tuple"
  | .lst _ _ => "list"
  | .scr _ => "list"
  | .dk _ _ _ => "dict"
  | .dt _ _ _ => "dict"
  | .exc _ _ => ""
def noScr : D → Bool
  | .scr _ => false
  | _ => true
/-- plain data, of which the kind is asked -/
def isSome' : D → Bool
  | .dt _ _ _ => false
  | .exc _ _ => false
  | _ => true
theorem ty_rep {K : PySem.W.Frag} {H : Hp} {d : D} {v : V} {S : List Addr} (r : Rep K H d v S) (h : isSome' d = true) : TyX K H v (.type (dTy d)) := by
  cases d with
  | non => rw [r.1]; exact .base .non
  | bl b => rw [r.1]; exact .base (.bl b)
  | int i => rw [r.1]; exact .base (.int i)
  | str x => rw [r.1]; exact .base (.str x)
  | tup xs =>
    obtain ⟨_, a, vs, rfl, q, _⟩ := r
    rcases q with (q | ⟨o, q⟩) | ⟨o, its, n, q, c, _⟩
    · exact .base (.tup q)
    · exact .fTuple q
    · exact .kTuple q c
  | lst o xs =>
    obtain ⟨a, vs, T, rfl, q, _⟩ := lst_sq r
    rcases q with q | ⟨o, q⟩
    · exact .base (.lst q)
    · exact .base (.frz q)
  | scr ns =>
    obtain ⟨_, a, rfl, q⟩ := r
    rcases q with ⟨o, q⟩ | ⟨o, its, n, q, c, _⟩
    · exact .base (.frz q)
    · exact .kList q c
  | dk o ks ds =>
    cases o with
    | true =>
      obtain ⟨a, vs, S', rfl, q, _⟩ := r
      exact .base (.dK q)
    | false =>
      obtain ⟨_, a, vs, o, rfl, q, _⟩ := r
      exact .fDict q
  | _ => cases h
theorem kit_tab (K : PySem.W.Frag) (d : D) (h : isSome' d = true) (T : Ty) : PySem.W.kitOne K (.type (dTy d)) (.type (tyN T)) = some (T.is d || (match T, d with | .list, .scr _ => true | _, _ => false)) := by
  cases T <;> cases d <;> first
    | (cases h; done)
    | kernel_rfl
theorem kit_tab' (K : PySem.W.Frag) (d : D) (h : isSome' d = true) (T : Ty) (hs : noScr d = true) : PySem.W.kitOne K (.type (dTy d)) (.type (tyN T)) = some (T.is d) := by
  rw [kit_tab K d h T]
  cases T <;> cases d <;> first
    | rfl
    | (cases hs; done)
    | (rw [Bool.or_false])
theorem isTS_some {T : Ty} {d z : D} (h : isTS T d = some z) : isSome' d = true ∧ noScr d = true ∧ z = .bl (T.is d) := by
  cases d <;> first
    | (cases h; done)
    | (cases h; exact ⟨rfl, rfl, rfl⟩)
theorem se_isT {p q : Pos} {T : Ty} {g h : Str} (hK : X.K = C.K) (hv : bootBuiltins g = some (.builtin "isinstance")) (hb : bootBuiltins h = some (.type (tyN T))) (hg : Gl X g) (hm : X.mg g = none) (hng : g ≠ "__name__") (hdg : (g == ("__debug__" : Str)) = false) (hg2 : Gl X h) (hm2 : X.mg h = none) (hn : h ≠ "__name__") (hd : (h == ("__debug__" : Str)) = false) (ha : PE X a (tD C W a')) (hs : starEach [a, .Name h q] X.env = (false, eval a X.env) :: starEach [.Name h q] X.env) : PE X (.Call (.Name g p) [a, .Name h q] [] pos) (tD C W (.o1 (.isT T) a')) := by
  refine pemono (pe_callB call_isi hg hm hv (pa_cons ha (pa_cons (pe_bltn (v := .ty (tyN T)) hg2 hm2 hb rfl hn hd) pa_nil rfl) hs) hng hdg hs rfl) fun σ H Q h => ?_
  obtain ⟨ρ, SV, hv, nd, h⟩ := tD_o1 h
  refine ⟨ρ, SV, hv, nd, ?_⟩
  cases m : ev a' ρ with
  | bad => rw [m] at h; exact h
  | exc x ρ' => rw [m] at h; exact h
  | ok d ρ1 =>
    rw [m] at h
    intro v H1 SV1 e1 r1
    obtain ⟨d, z, S, r, hz, k⟩ := h v H1 SV1 e1 r1
    obtain ⟨h1, h2, rfl⟩ := isTS_some (show isTS T d = some z from hz)
    exact ⟨v, .ty (tyN T), .type (dTy d), .type (tyN T), T.is d, rfl, .ty _, by rw [hK]; exact ty_rep r h1, kit_tab' _ d h1 T h2, kBl k⟩
/-! ### slices -/
def rSlD (K : PySem.W.Frag) : V → Option Int → Option Int → Hp → VK → Prop := fun x lo hi H Q => ∃ d S z, Rep K H d x S ∧ slcS d lo hi = some z ∧ ∀ w H' S', Ext [] H H' → Rep K H' z w S' → S'.Nodup → (∀ a ∈ S', H a = none) → Q w H'
theorem sl_any : SlR X (rSlD X.K) := by
  intro pins s σ H x v vl vu lo hi sl Q I rx hs pl pu h
  obtain ⟨d, S, z, r, hz, k⟩ := h
  cases d with
  | tup ds =>
    cases hz
    obtain ⟨_, a, vs, rfl, q, rs⟩ := r
    have l := rs.length
    refine sl_tupA pins s σ H _ v vl vu lo hi sl Q I rx hs pl pu ⟨a, vs, rfl, q, fun hw => ?_, fun hw p hp => ?_⟩
    · rw [← l] at hw
      have e : (ds.drop (HT.sIx ds.length 0 lo)).take (HT.sIx ds.length ds.length hi - HT.sIx ds.length 0 lo) = ds := by
        rw [hw.1, hw.2, List.drop_zero, Nat.sub_zero, List.take_length]
      exact k _ H [] .refl (by rw [e]; exact ⟨rfl, a, vs, rfl, q, rs⟩) .nil fun a ha => absurd ha List.not_mem_nil
    · refine kTup (K := X.K) k ?_ p hp
      unfold cutV
      rw [← l]
      exact (rs.drop0 _).take0 _
  | lst o ds =>
    change (if o = false ∨ ds.all frzD = true then some (D.lst true ((ds.drop (HT.sIx ds.length 0 lo)).take (HT.sIx ds.length ds.length hi - HT.sIx ds.length 0 lo))) else none) = some z at hz
    split at hz
    · rename_i hc
      cases hz
      obtain ⟨a, vs, T, rfl, q, rs, hT⟩ := lst_sq r
      have := hT hc
      subst this
      have l := rs.length
      refine sl_list pins s σ H _ v vl vu lo hi sl Q I rx hs pl pu ⟨a, vs, rfl, .inl q, fun p hp => kLst (K := X.K) k ?_ p hp⟩
      unfold cutV
      rw [← l]
      exact (rs.drop0 _).take0 _
    · cases hz
  | scr ns =>
    cases hz
    obtain ⟨_, a, rfl, q⟩ := r
    refine sl_list pins s σ H _ v vl vu lo hi sl Q I rx hs pl pu ⟨a, _, rfl, q.sq, fun p hp => kLst (K := X.K) k ?_ p hp⟩
    unfold cutV
    rw [List.length_map, ← List.map_drop, ← List.map_take]
    exact reps_ints _
  | str y =>
    change (if y.length ≤ lim then some (D.str (cutS y lo hi)) else none) = some z at hz
    split at hz
    · rename_i hc
      cases hz
      exact sl_str pins s σ H _ v vl vu lo hi sl Q I rx hs pl pu ⟨y, r.1, by rw [← lim_eq]; exact hc, kStr k⟩
    · cases hz
  | _ => cases hz
/-- a part of a slice -/
def tPx (C : Cfg) (W : WX) : Es → TO
  | .cons e .nil => tPart (tD C W e)
  | _ => tNoPart
theorem part_read {lo : Es} {σ : St} {SV : List Addr} {H : Hp} {ρ : Ev} {α β : Type} {R : α → Ev → List Addr → Hp → β → Prop} {f : Option Int → Ev → Out α} {Q : β → Hp → Prop} {Q1 : Option Int → Hp → Prop} (hl : (match lo with | .nil => true | .cons _ .nil => true | _ => false) = true) (hv : Vars C.K H ρ σ SV) (nd : SV.Nodup)
    (h : tK C W σ SV H R ((evs lo ρ).bind fun l ρ => (match partS l with | some l' => f l' ρ | none => .bad)) Q)
    (k : ∀ l ρ1 H1 SV1, EnvP C.K SV H σ ρ1 H1 SV1 → (quiets lo = true → Qt SV H ρ ρ1 H1 SV1) → tK C W σ SV1 H1 (fun z ρ2 SV2 H2 w => EnvP C.K SV H σ ρ2 H2 SV2 ∧ R z ρ2 SV2 H2 w) (f l ρ1) Q → Q1 l H1) : tPx C W lo σ H Q1 := by
  match lo, hl with
  | .nil, _ =>
    refine k none ρ H SV (.refl hv nd) (fun _ => ⟨rfl, rfl, .refl⟩) ?_
    have h : tK C W σ SV H R (f none ρ) Q := h
    cases hf : f none ρ with
    | bad => rw [hf] at h; exact h
    | exc x ρ2 => rw [hf] at h; exact h
    | ok z ρ2 => rw [hf] at h; exact fun w H2 SV2 e2 ⟨p1, p2⟩ => h w H2 SV2 p1 p2
  | .cons e .nil, _ =>
    have e0 : evs (.cons e .nil) ρ = (ev e ρ).bind fun d ρ => .ok [d] ρ := rfl
    have h2 : tK C W σ SV H R ((ev e ρ).bind fun d ρ => (match partS [d] with | some l' => f l' ρ | none => .bad)) Q := by
      rw [e0] at h
      cases he : ev e ρ <;> rw [he] at h <;> exact h
    refine ⟨ρ, SV, hv, nd, tK_bind h2 fun d ρ1 v H1 SV1 e1 ⟨⟨S, r⟩, q⟩ h3 => ?_⟩
    cases d with
    | int i => exact ⟨i, r.rep.1, k (some i) ρ1 H1 SV1 e1 (fun z => q (by have z : (quiet e && true) = true := z; rw [Bool.and_true] at z; exact z)) h3⟩
    | _ => exact h3.elim
theorem se_slc {p2 : Pos} {lo hi : Option Expr} {l' h' : Es} (hK : X.K = C.K) (hl : (match l' with | .nil => true | .cons _ .nil => true | _ => false) = true) (hh : (match h' with | .nil => true | .cons _ .nil => true | _ => false) = true) (ha : PE X a (tD C W a')) (h1 : PO X lo (tPx C W l')) (h2 : PO X hi (tPx C W h')) (hs : (own a' || (quiets l' && quiets h')) = true) :
    PE X (.Subscript a (.Slice lo hi none p2) pos) (tD C W (.slc a' l' h')) := by
  refine pemono (pe_slice (by rw [← hK]; exact sl_any : SlR X (rSlD C.K)) ha h1 h2) fun σ H Q h => ?_
  obtain ⟨ρ, SV, hv, nd, h⟩ := h
  have h : tK C W σ SV H (RD C.K SV H ρ true (quiet a' && (quiets l' && quiets h'))) ((ev a' ρ).bind fun x ρ => (evs l' ρ).bind fun l ρ => (match partS l with
    | some l0 => (evs h' ρ).bind fun h ρ => (match partS h with
      | some h0 => liftO (slcS x l0 h0) ρ
      | none => .bad)
    | none => .bad)) Q := h
  refine ⟨ρ, SV, hv, nd, tK_bind h fun d ρ1 v H1 SV1 e1 ⟨⟨S, r1⟩, q1⟩ g1 => ?_⟩
  refine part_read hl e1.vars e1.nd g1 fun l ρ2 H2 SV2 e2 q2 g2 => ?_
  refine part_read hh e2.vars e2.nd g2 fun u ρ3 H3 SV3 e3 q3 g3 => ?_
  obtain ⟨z, hz, g3⟩ := tK_lift g3
  have hs' : own a' = true ∨ (quiets l' && quiets h') = true := by simpa using hs
  have e23 := e2.trans e3
  obtain ⟨rep, _⟩ := r1.carry e23 e1 (q := quiets l' && quiets h') (fun z => (q2 (Bool.and_eq_true_iff.mp z).1).trans (q3 (Bool.and_eq_true_iff.mp z).2)) hs'
  have et := e1.trans e23
  refine ⟨d, S, z, rep, hz, fun w H' S' x rep' nd' new => ?_⟩
  have en := et.ext0 x
  obtain ⟨f1, f2⟩ := fresh_sep et nd' new
  have e3' := e3.trans en
  refine g3 w H' SV3 en ⟨e3', e2.trans e3', et.trans en, ⟨S', rep', fun _ => f1, fun _ => f2⟩, fun q => ?_⟩
  obtain ⟨qa, qb⟩ := Bool.and_eq_true_iff.mp q
  obtain ⟨qc, qd⟩ := Bool.and_eq_true_iff.mp qb
  exact ((q1 qa).trans ((q2 qc).trans (q3 qd))).ext x
/-! ### dict comprehensions -/
theorem dcF_ok {ow : List Nat} {tg : Tg} {c : Es} {ke e : E} {d : D} {ρ ρa : Ev} {x : Option (Key × D)} (h : dcF ow tg c ke e d ρ = .ok x ρa) : ∃ ρb b ρc, bindT tg d ρ = some ρb ∧ evC c ρb = .ok b ρc ∧
    ((b = true ∧ ∃ kd ρd y ρe j, ev ke ρc = .ok kd ρd ∧ ev e ρd = .ok y ρe ∧ keyD kd = some j ∧ frzD y = true ∧ x = some (j, y) ∧ ρa = wipeE ρe ow) ∨ (b = false ∧ x = none ∧ ρa = wipeE ρc ow)) := by
  unfold dcF at h
  cases hb : bindT tg d ρ with
  | none => rw [hb] at h; cases h
  | some ρb =>
    rw [hb] at h
    obtain ⟨b, ρc, h1, h⟩ := bind_ok h
    refine ⟨ρb, b, ρc, rfl, h1, ?_⟩
    cases b with
    | true =>
      rw [if_pos rfl] at h
      obtain ⟨kd, ρd, h2, h⟩ := bind_ok h
      obtain ⟨y, ρe, h3, h⟩ := bind_ok h
      cases hk : keyD kd with
      | none => rw [hk] at h; cases h
      | some j =>
        rw [hk] at h
        dsimp only at h
        by_cases hf : frzD y = true
        · rw [if_pos hf] at h
          cases h
          exact .inl ⟨rfl, kd, ρd, y, ρe, j, h2, h3, hk, hf, rfl, rfl⟩
        · rw [if_neg hf] at h
          cases h
    | false =>
      rw [if_neg Bool.false_ne_true] at h
      cases h
      exact .inr ⟨rfl, rfl, rfl⟩
theorem put_len (k : Key) (v : D) (ks : List Key) (vs : List D) : ks.length ≤ (put k v ks vs).1.length := by
  unfold put
  split
  · exact Nat.le_refl _
  · show ks.length ≤ (ks ++ [k]).length
    rw [List.length_append]
    exact Nat.le_add_right _ _
theorem dcLoop_len {f : D → Ev → Out (Option (Key × D))} : ∀ {ds : List D} {acc r : List Key × List D} {ρ ρ' : Ev}, dcLoop f ds acc ρ = .ok r ρ' → acc.1.length ≤ r.1.length
  | [], acc, r, ρ, ρ', h => by cases h; exact Nat.le_refl _
  | d :: ds, acc, r, ρ, ρ', h => by
    obtain ⟨x, ρ1, h1, h2⟩ := bind_ok (show ((f d ρ).bind fun x ρ1 => dcLoop f ds (match x with | some (k, v) => put k v acc.1 acc.2 | none => acc) ρ1) = .ok r ρ' from h)
    have := dcLoop_len h2
    cases x with
    | none => exact this
    | some kv => exact Nat.le_trans (put_len kv.1 kv.2 acc.1 acc.2) this
theorem dc_read {ow : List Nat} {tg : Tg} {it : It} {c : Es} {ke e : E} {σ : St} {H : Hp} {Q : VK} (ho : own e = true) (ht : ∀ i ∈ tns tg, i ∈ ow) (h : tD C W (.dc ow tg it c ke e) σ H Q) :
    tDc (tI C W it) (tG C.K tg) (tCs C WF c) (tD C WF ke) (tD C WF e) ow σ H Q := by
  obtain ⟨ρ, SV, hv, nd, h⟩ := h
  have h : tK C W σ SV H (RD C.K SV H ρ true false) ((evIt it ρ).bind fun items ρ1 =>
    match dcLoop (dcF ow tg c ke e) items ([], []) (wipeE ρ1 ow) with
    | .ok ks ρ2 => if ks.1.length < lim then .ok (.dk true ks.1 ks.2) ρ2 else .bad
    | .exc _ _ => .bad
    | .bad => .bad) Q := h
  refine ⟨ρ, SV, hv, nd, tK_bind0 h fun ds ρ1 J H1 SV1 e1 wk h1 Dn hD => ?_⟩
  cases hl : dcLoop (dcF ow tg c ke e) ds ([], []) (wipeE ρ1 ow) with
  | bad => rw [hl] at h1; exact h1.elim
  | exc x ρ' => rw [hl] at h1; exact h1.elim
  | ok KV ρE =>
    rw [hl] at h1
    have h1 : tK C W σ SV H (RD C.K SV H ρ true false) (if KV.1.length < lim then .ok (.dk true KV.1 KV.2) ρE else .bad) Q := h1
    by_cases hlim : KV.1.length < lim
    case neg => rw [if_neg hlim] at h1; exact h1.elim
    rw [if_pos hlim] at h1
    have dV : Dn ∉ SV1 := fun z => by
      obtain ⟨o, eo, _⟩ := e1.vars.owns Dn z
      rw [hD] at eo; cases eo
    let Pv : Nat → Hp → Prop := fun i H' => ∃ ρi SVi ks ds' vs, EnvP C.K SV1 H1 (wipe σ ow) ρi H' SVi ∧ (∀ (j : Nat) d, ρi[j]? = some (some d) → j ∉ ow) ∧ H' Dn = some (.dK (ks.zip vs)) ∧ ks.length = vs.length ∧ Reps C.K H' ds' vs [] ∧ Dn ∉ SVi ∧ dcLoop (dcF ow tg c ke e) (ds.drop i) (ks, ds') ρi = .ok KV ρE
    refine ⟨fun i m H => m = ds.length - i ∧ i ≤ ds.length ∧ Pv i H, ⟨ds.length, by simp, Nat.zero_le _, ?_⟩, ?_⟩
    · obtain ⟨SV2, v2, n2, s2⟩ := vars_wipe e1.vars e1.nd ow
      have x : Ext [] H1 (upd H1 Dn (.dK [])) := Ext.new hD
      exact ⟨wipeE ρ1 ow, SV2, [], [], [], ⟨v2.kp (x.all _), n2, fun a ha => .inl (s2 a ha), x.weak _⟩, fun j d e => wipeE_not e, upd_same, rfl, Reps.nil, fun z => dV (s2 _ z), hl⟩
    · rintro i m Ha ⟨rfl, hi0, ρi, SVi, ks, ds', vs, eI, nov, hDa, hlen, ra, nDV, hys⟩
      have kp1 : Kp [] H1 Ha := eI.ext.kp e1.vars.owns fun a ha => absurd ha List.not_mem_nil
      by_cases hi : i < ds.length
      · refine .inr ⟨wk.goes i Ha hi kp1, Pv (i + 1), fun H' p' => ⟨ds.length - (i + 1), by omega, rfl, hi, p'⟩, fun x Hb y => ?_⟩
        obtain ⟨x1, rd⟩ := wk.yields i Ha x Hb ds[i] (by simp [hi]) kp1 y
        rw [List.drop_eq_getElem_cons hi] at hys
        obtain ⟨xs, ρa, hf, hys⟩ := bind_ok (show ((dcF ow tg c ke e ds[i] ρi).bind fun x ρ1 => dcLoop (dcF ow tg c ke e) (ds.drop (i + 1)) (match x with | some (k, v) => put k v ks ds' | none => (ks, ds')) ρ1) = .ok KV ρE from hys)
        obtain ⟨ρb, b, ρc, hb1, hb2, hb3⟩ := dcF_ok hf
        have eb : EnvP C.K SV1 H1 (wipe σ ow) ρi Hb SVi := eI.tr ((EnvP.refl eI.vars eI.nd).ext0 x1)
        refine ⟨ds[i], ρi, SVi, ρb, rd, eb.vars, eb.nd, hb1, fun σ2 SV2 v2 n2 s2 ag len => ?_⟩
        have e2 : EnvP C.K SV1 H1 σ2 ρb Hb SV2 := eb.tr (EnvP.sub v2 n2 s2)
        have hw : wipe σ2 ow = wipe σ ow := wipe_eq (by rw [len, wipe_length]) fun j hj => ag j fun z => hj (ht j z)
        refine ⟨hw, ρb, SV2, v2, n2, ?_⟩
        rw [hb2]
        rintro v Hc SV3 e3 rfl
        have hDb : Hb Dn = some (.dK (ks.zip vs)) := x1 _ _ hDa List.not_mem_nil
        have a2 : Dn ∉ SV2 := fun z => nDV (s2 _ z)
        obtain ⟨a3, hDc⟩ := e3.apart a2 hDb
        have rb : Reps C.K Hb ds' vs [] := ra.kp ds' (x1.all _)
        have k3 : Kp [] Hb Hc := e3.ext.kp v2.owns fun a ha => absurd ha List.not_mem_nil
        have rc : Reps C.K Hc ds' vs [] := rb.kp ds' k3
        have ec : EnvP C.K SV1 H1 σ2 ρc Hc SV3 := e2.tr e3
        rcases hb3 with ⟨rfl, kd, ρd, yd, ρe, j, he1, he2, hj, hfz, rfl, rfl⟩ | ⟨rfl, rfl, rfl⟩
        · rw [if_pos rfl]
          refine ⟨ρc, SV3, e3.vars, e3.nd, ?_⟩
          rw [he1]
          rintro kv Hd SV4 e4 ⟨⟨Tk, rk⟩, _⟩
          refine ⟨ρd, SV4, e4.vars, e4.nd, ?_⟩
          rw [he2]
          rintro z He SV5 e5 ⟨⟨Tz, rz⟩, _⟩
          have := rz.rep.frz hfz
          subst this
          obtain ⟨a4, hDd⟩ := e4.apart a3 hDc
          obtain ⟨a5, hDe⟩ := e5.apart a4 hDd
          have k4 : Kp [] Hc Hd := e4.ext.kp e3.vars.owns fun a ha => absurd ha List.not_mem_nil
          have k5 : Kp [] Hd He := e5.ext.kp e4.vars.owns fun a ha => absurd ha List.not_mem_nil
          have re : Reps C.K He ds' vs [] := (rc.kp ds' k4).kp ds' k5
          obtain ⟨vs2, S2, p1, p2, p3, p4⟩ := put_rep (k := j) hlen re rz.rep
          have hS2 : S2 = [] := List.sublist_nil.mp p4
          subst hS2
          have ee : EnvP C.K SV1 H1 σ2 ρe He SV5 := (ec.tr e4).tr e5
          obtain ⟨SV6, v6, n6, s6⟩ := vars_wipe e5.vars e5.nd ow
          rw [hw] at v6
          have a6 : Dn ∉ SV6 := fun z => a5 (s6 _ z)
          have mb : Mb (.dK (ks.zip vs)) := True.intro
          have kU : Kp SV6 He (upd He Dn (.dK (putK (ks.zip vs) j z))) := kp_upd hDe mb a6
          have kN : Kp [] He (upd He Dn (.dK (putK (ks.zip vs) j z))) := kp_upd hDe mb List.not_mem_nil
          refine ⟨ks.zip vs, j, keyD_kV rk.rep hj, hDe, ?_, ?_⟩
          · rw [List.length_zip, ← hlen, Nat.min_self]
            have q1 := dcLoop_len hys
            have q2 := put_len j yd ks ds'
            have q1 : (put j yd ks ds').1.length ≤ KV.1.length := q1
            have := lim_eq
            omega
          · refine ⟨wipeE ρe ow, SV6, (put j yd ks ds').1, (put j yd ks ds').2, vs2, ⟨v6.kp kU, n6, fun a ha => ee.src a (s6 a ha), fun a o ha hs => ?_⟩, fun j d e => wipeE_not e, by rw [upd_same, p1], p2, p3.kp _ kN, a6, hys⟩
            rw [upd_ne (fun z => by rw [z, hD] at ha; cases ha)]
            exact ee.ext a o ha hs
        · rw [if_neg Bool.false_ne_true]
          obtain ⟨SV6, v6, n6, s6⟩ := vars_wipe e3.vars e3.nd ow
          rw [hw] at v6
          exact ⟨wipeE ρc ow, SV6, ks, ds', vs, ⟨v6, n6, fun a ha => ec.src a (s6 a ha), ec.ext⟩, fun j d e => wipeE_not e, hDc, hlen, rc, fun z => a3 (s6 _ z), hys⟩
      · have hie : i = ds.length := by omega
        subst hie
        refine .inl ⟨wk.stops Ha kp1, ?_⟩
        rw [List.drop_length] at hys
        cases hys
        have vv : Vars C.K Ha ρE σ SVi := vars_agree eI.vars (by rw [wipe_length]) fun j d hj => (wipe_get (nov j d hj)).symm
        have es : EnvP C.K SV1 H1 σ ρE Ha SVi := ⟨vv, eI.nd, eI.src, eI.ext⟩
        refine h1 (.ref Dn) Ha SVi (e1.trans es) ⟨⟨[Dn], ⟨Dn, vs, [], rfl, hDa, hlen, ra, rfl⟩, (fun _ => src_trans e1 fun a ha => ?_), (fun _ => List.nodup_cons.mpr ⟨nDV, eI.nd⟩)⟩, (fun z => nomatch z)⟩
        rw [show a = Dn by simpa using ha]
        exact .inr hD
theorem se_dc {kx vx tg iter : Expr} {ifs : List Expr} {scope : Scope} {ow : List (Str × Nat)} {tg' : Tg} {it : It} {c : Es} {k' e' : E} (ho : own e' = true) (ht : ∀ i ∈ tns tg', i ∈ ow.map (·.2)) (hc : X.calm = true) (hN : X.N.Nodup) (hi : PI X tg iter (tI C W it)) (ok : BlkOk X.N X.env.scope scope ow)
    (hg : ∀ (s : Shared) (H : Hp) (Cc : Addr) (cl : List (Str × Addr)) (fp : List Addr), PG (X.blk s H scope (compEnvC scope cl Cc X.env) fp) tg (tG C.K tg')) (htt : ∀ (s : Shared) (H : Hp) (Cc : Addr) (cl : List (Str × Addr)) (fp : List Addr), PTs (X.blk s H scope (compEnvC scope cl Cc X.env) fp) ifs (tCs C WF c))
    (hk : ∀ (s : Shared) (H : Hp) (Cc : Addr) (cl : List (Str × Addr)) (fp : List Addr), PE (X.blk s H scope (compEnvC scope cl Cc X.env) fp) kx (tD C WF k'))
    (he : ∀ (s : Shared) (H : Hp) (Cc : Addr) (cl : List (Str × Addr)) (fp : List Addr), PE (X.blk s H scope (compEnvC scope cl Cc X.env) fp) vx (tD C WF e')) (hs : ∀ x, foldedSetIterable iter X.env x = pure x) :
    PE X (.DictComp kx vx [⟨tg, iter, ifs, 0⟩] scope pos) (tD C W (.dc (ow.map (·.2)) tg' it c k' e')) := pemono (pe_dc hc hN hi ok hg htt hk he hs) fun σ H Q h => dc_read ho ht h
/-! ### calls by keywords alone -/
theorem sk_nil : PK X [] (tA C W .nil) := ⟨fun pos pins s σ H Q I ⟨ρ, SV, hv, nd, h⟩ => pk_nil.run pos pins s σ H Q I (h [] H SV (.refl hv nd) ⟨⟨[], .nil, fun a ha => absurd ha List.not_mem_nil, nd⟩, fun _ => ⟨rfl, rfl, .refl⟩⟩)⟩
theorem sk_cons {nm : Option Str} {kpos : Pos} {kws : List Keyword} {es' : Es} (ho : own a' = true) (ha : PE X a (tD C W a')) (hr : PK X kws (tA C W es')) : PK X (⟨nm, a, kpos⟩ :: kws) (tA C W (.cons a' es')) :=
  ⟨fun pos pins s σ H Q I h => (pk_cons ha hr).run pos pins s σ H Q I (ta_cons_read ho h)⟩
/-- f(a = .., b = ..): bound by the names -/
def KB0 (K : PySem.W.Frag) (fd : FuncData) (ps ks : List Str) : Prop := ∀ (s : Shared) (ws : List Value), K.In s.heap → ws.length = ps.length → BindsTo s fd ⟨[], ks.zip ws⟩ (ps.zip ws)
theorem pe_callKS {k : Nat} {f : Addr} {fd : FuncData} {ps ks : List Str} {sp : Sp} {x : Str} {p : Pos} {kws : List Keyword} {tk : TA} (F : FnOk X.prog X.w X.K X.mg X.base (L2.CX X.prog X.w) k f fd ps sp) (hr : Room k X.A) (hg : Gl X x) (hm : X.mg x = some (.ref f)) (hk : PySem.W.keepIn X.K (.ref f) = true)
    (hb : KB0 X.K fd ps ks) (tks : Takes X W) (hkw : PK X kws tk) (hall : (backToKw pos (keywordEach kws X.env)).all (·.1.isSome) = true) (hks : (backToKw pos (keywordEach kws X.env)).filterMap (·.1) = ks)
    (hdb : (x == ("__debug__" : Str)) = false) (hpl : ((backTo pos (starEach [] X.env)).any (·.1) || (backToKw pos (keywordEach kws X.env)).any (·.1.isNone)) = false) :
    PE X (.Call (.Name x p) [] kws pos) (fun σ H Q => tk σ H fun zs H2 => sp zs H2 Q (WE W σ)) := by
  refine ⟨fun pins s σ H Q I h => ?_⟩
  refine wpAny_Call_Name_kw (ld_glob I hg hm ?_ hdb)
  refine PySem.W.callWith_KW0 (h₀ := X.base) I.ok.mod.kin hk hall ?_ hpl
  refine thn (hkw.run pos pins s σ H _ I h) fun ws s2 ⟨zs, H2, I2, rz, q2⟩ => ⟨I2.kIn, ?_⟩
  rw [hks]
  have hl : ws.length = ps.length := by rw [← rz.length]; exact F.len _ _ _ _ q2
  refine wpAny_call (codeAny_mono (F.run X.A X.stack s2 H2 ⟨[], ks.zip ws⟩ ws zs Q (WE W σ) hr I2.env0 (hb s2 ws I2.kIn hl) rz q2) fun r s' hq => ?_)
  cases r with
  | error e => exact passAt tks σ pins H2 s2 e s' I2 hq
  | ok fl =>
    cases fl with
    | ret u => exact I2.after hq
    | next => exact False.elim hq
    | brk => exact False.elim hq
    | cont => exact False.elim hq
/-- a def that may be called by keywords -/
def FnGK (C : Cfg) (X : Cx) (k : Nat) (x : Str) (io : List Bool) (ps : List Str) (sem : FSem) : Prop :=
  ∃ (f : Addr) (fd : FuncData), X.mg x = some (.ref f) ∧ FnOk X.prog X.w X.K X.mg X.base (L2.CX X.prog X.w) k f fd ps (spD C io sem) ∧ PySem.W.keepIn X.K (.ref f) = true ∧ KB0 X.K fd ps ps
theorem se_callK {slots : List (Option Nat)} {j k : Nat} {x : Str} {p : Pos} {kws : List Keyword} {ps : List Str} {es' : Es} (tk : Takes X W) (G : FnGK C X k x (slots.map (·.isSome)) ps (Fns.F j)) (hr : Room k X.A) (hg : Gl X x) (hal : align slots es' = true) (hnd : (ios slots).Nodup) (ha : PK X kws (tA C W es')) (hdb : (x == ("__debug__" : Str)) = false)
    (hall : (backToKw pos (keywordEach kws X.env)).all (·.1.isSome) = true) (hks : (backToKw pos (keywordEach kws X.env)).filterMap (·.1) = ps) (hpl : ((backTo pos (starEach [] X.env)).any (·.1) || (backToKw pos (keywordEach kws X.env)).any (·.1.isNone)) = false) : PE X (.Call (.Name x p) [] kws pos) (tD C W (.call slots j es')) := by
  obtain ⟨f, fd, hm, F, hk, hb⟩ := G
  refine pemono (pe_callKS F hr hg hm hk hb tk ha hall hks hdb hpl) fun σ H Q h => ?_
  obtain ⟨ρ, SV, hv, nd, h⟩ := h
  have h : tK C W σ SV H (RD C.K SV H ρ true (slots.all (·.isNone) && quiets es')) ((evs es' ρ).bind fun ds ρ => callOut slots (Fns.F j) ds ρ) Q := h
  exact ⟨ρ, SV, hv, nd, tK_bind0 h fun ds ρ1 vs H1 SV1 e1 ⟨⟨S, r1⟩, q1⟩ h1 => sp_call hal hnd e1 r1 q1 h1⟩
end
end Ly

namespace Ly
open PySem PySem.Spec L2
variable [Fns]
section
variable {X : Cx} {K : PySem.W.Frag} {H : Hp}
open PySem.W in
theorem reps_each {pins : List (Addr × Obj)} {σ : St} {s : Shared} : ∀ {ds : List D} {vs : List V} {us : List Value}, Reps K H ds vs [] → Vals vs us → EachIs (fun v d => ∃ x, RelV x v ∧ Rep K H d x []) us ds
  | [], _, us, h, r => by
    obtain ⟨rfl, _⟩ := h
    cases r
    exact .nil
  | d :: ds, _, us, h, r => by
    obtain ⟨v, t, S1, S2, rfl, q1, q2, e⟩ := h
    obtain ⟨rfl, rfl⟩ := List.append_eq_nil_iff.mp e.symm
    cases r with
    | cons r1 r2 => exact .cons ⟨v, r1, q1⟩ (reps_each (pins := pins) (σ := σ) (s := s) q2 r2)
open PySem.W in
theorem each_reps : ∀ {ds : List D} {us : List Value}, EachIs (fun v d => ∃ x, RelV x v ∧ Rep K H d x []) us ds → ∃ vs, Vals vs us ∧ Reps K H ds vs []
  | _, _, .nil => ⟨[], .nil, Reps.nil⟩
  | _, _, .cons ⟨x, r, q⟩ t => by
    obtain ⟨vs, h1, h2⟩ := each_reps t
    exact ⟨x :: vs, .cons r h1, Reps.cons (S1 := []) (S2 := []) q h2⟩
theorem plain_all {xs : List D} (h : (xs.all fun x => (toP x).plain && decide ((toP x).depth ≤ 32)) = true) {x : D} (hx : x ∈ xs) : (toP x).plain = true ∧ (toP x).depth ≤ 32 := by
  have := List.all_eq_true.mp h x hx
  rw [Bool.and_eq_true] at this
  exact ⟨this.1, of_decide_eq_true this.2⟩
theorem each_imp {α β : Type} {R S : α → β → Prop} {l : List α} : ∀ {m : List β}, PySem.W.EachIs R l m → (∀ a b, b ∈ m → R a b → S a b) → PySem.W.EachIs S l m := by
  intro m h
  induction h with
  | nil => exact fun _ => .nil
  | cons r t ih => exact fun k => .cons (k _ _ List.mem_cons_self r) (ih fun a b hb => k a b (List.mem_cons_of_mem _ hb))
theorem intKs_map : ∀ {ks : List Key} {l : List Int}, intKs ks = some l → ks = l.map Sum.inl
  | [], l, h => by cases h; rfl
  | .inr _ :: _, l, h => by cases h
  | .inl i :: r, l, h => by
    have h : (match intKs r with | some l => some (i :: l) | none => none) = some l := h
    cases hr : intKs r with
    | none => rw [hr] at h; cases h
    | some m =>
      rw [hr] at h
      cases h
      rw [intKs_map hr]
      rfl
theorem ints_srt {ys l : List Int} (p : ys.Perm l) (o : ys.Pairwise (· ≤ ·)) : ys = l.mergeSort fun x y => decide (x ≤ y) := by
  refine List.Perm.eq_of_pairwise (le := fun x y : Int => x ≤ y) (fun a b _ _ h1 h2 => Int.le_antisymm h1 h2) o ?_ (p.trans (List.mergeSort_perm _ _).symm)
  exact (List.pairwise_mergeSort (le := fun x y : Int => decide (x ≤ y)) (fun a b c h1 h2 => decide_eq_true (Int.le_trans (of_decide_eq_true h1) (of_decide_eq_true h2))) (fun a b => by rcases Int.le_total a b with h | h <;> simp [h]) l).imp fun h => of_decide_eq_true h
theorem cd_sorted (hcalm : X.calm = true) (hu : X.A.units + 40 < cLine) : CallR X (.builtin "sorted") (rC1 X.K O1.srt.sem) := by
  intro pins s σ H xs us Q I rx h
  obtain ⟨x, rfl, d, z, S, r, hz, k⟩ := h
  cases d with
  | lst o ds =>
    change sortS ds = some z at hz
    unfold sortS at hz
    split at hz
    · rename_i hc
      cases hz
      obtain ⟨⟨⟨ho, hk⟩, hf⟩, hl, hp⟩ := hc
      obtain ⟨a, vs, T, rfl, q, rs, f⟩ := lst_sq r
      have := rs.frz hf
      subst this
      obtain ⟨its, rv, hL, hsz⟩ := I.list (.inl q)
      rw [Vals.ref1 rx]
      have e := reps_each (pins := pins) (σ := σ) (s := s) rs rv
      have hal : PySem.W.AllAlike (ds.map toP) := fun p hp' q hq => by
        obtain ⟨x, hx, rfl⟩ := List.mem_map.mp hp'
        obtain ⟨y, hy, rfl⟩ := List.mem_map.mp hq
        exact List.all_eq_true.mp (List.all_eq_true.mp ho x hx) y hy
      have hsrt : PySem.W.Sortable (ds.map toP) := by
        rcases hk with hk | hk
        · refine .inl fun p hp' => ?_
          obtain ⟨x, hx, rfl⟩ := List.mem_map.mp hp'
          have := List.all_eq_true.mp hk x hx
          cases x with
          | tup xs =>
            cases xs with
            | nil => cases this
            | cons y ys => exact ⟨_, _, rfl⟩
          | _ => cases this
        · refine .inr fun p hp' => ?_
          obtain ⟨x, hx, rfl⟩ := List.mem_map.mp hp'
          have := List.all_eq_true.mp hk x hx
          cases x <;> first
            | (cases this; done)
            | exact ⟨(fun z => by cases z), (fun xs z => by cases z)⟩
      refine PySem.W.sorted_data (enc := toP) (bs := ds) hL.isList e (each_imp e fun v d hd ⟨x, r1, r2⟩ => (rep_dp d r2 (plain_all hp hd).1).reads I _ _ _ r1) hal hsrt (by have := lim_eq; omega) (fun b hb => by have := (plain_all hp hb).2; omega) fun out hlen eo => ?_
      obtain ⟨ws, w1, w2⟩ := each_reps eo
      obtain ⟨ep, he'⟩ := PyProof.Rows.sortedAll_at s.heap its out.toArray
      have hwl : ws.length ≤ sizeLine := by
        rw [← w2.length]
        show (ds.mergeSort _).length ≤ _
        rw [List.length_mergeSort]
        have := lim_eq
        omega
      exact ⟨.ref _, upd H (s.heap.objs.size + 1) (.lst ws), I.laid (t' := s.toks) (fun _ _ => PyProof.Rows.sortedAll_old) (Nat.le_succ _) ⟨hwl, out, ep, w1, he'⟩, rfl, kLst k w2 _ (I.hok.fresh (Nat.le_succ _))⟩
    · cases hz
  | dk o ks ds =>
    change srtDk ks = some z at hz
    unfold srtDk at hz
    cases hi : intKs ks with
    | none => rw [hi] at hz; cases hz
    | some l =>
      rw [hi] at hz
      change (if l.length < 64 then some (D.lst true ((l.mergeSort fun x y => decide (x ≤ y)).map D.int)) else none) = some z at hz
      split at hz
      · rename_i hc
        cases hz
        obtain ⟨a, ws, T, rfl, q, hl, rs, _⟩ := dk_rd' r
        refine call_sortedDI hcalm pins s σ H _ us Q I rx ⟨a, ks.zip ws, l, rfl, q, ?_, hc, fun ys p h1 h2 hp => kLst k (by rw [← ints_srt h1 h2]; exact reps_ints ys) p hp⟩
        rw [List.map_fst_zip (by omega)]
        exact intKs_map hi
      · cases hz
  | _ => cases hz
/-! ### pops -/
variable {C : Cfg} {W : WX} {pos : Pos}
theorem onL_some {α : Type} {f : List D → Option (α × List D)} {i : Nat} {ρ ρ' : Ev} {d : α} (h : onL f i ρ = .ok d ρ') : ∃ xs ys, getV ρ i = some (.lst true xs) ∧ f xs = some (d, ys) ∧ ρ' = ρ.set i (some (.lst true ys)) := by
  unfold onL at h
  split at h
  · rename_i xs e
    split at h
    · rename_i a ys e2
      cases h
      exact ⟨xs, ys, e, e2, rfl⟩
    · cases h
  · cases h
theorem onL_exc {α : Type} {f : List D → Option (α × List D)} {i : Nat} {ρ ρ' : Ev} {x : D} (h : onL f i ρ = .exc x ρ') : False := by
  unfold onL at h
  split at h
  · split at h <;> cases h
  · cases h
theorem drop_erase {α : Type} : ∀ (l : List α), l.dropLast = l.eraseIdx (l.length - 1)
  | [] => rfl
  | [x] => rfl
  | x :: y :: l => by
    have := drop_erase (y :: l)
    simp only [List.dropLast_cons_of_ne_nil (List.cons_ne_nil y l), List.length_cons, Nat.add_sub_cancel] at this ⊢
    rw [this]
    rfl
/-- the item k is taken out of the list of the name i -/
theorem take_out {SV SV1 : List Addr} {H H1 : Hp} {σ : St} {ρ1 : Ev} {i k : Nat} {xs : List D} {d : D} (e1 : EnvP C.K SV H σ ρ1 H1 SV1) (hg : getV ρ1 i = some (.lst true xs)) (hk : xs[k]? = some d) (hf : frzD d = true) :
    ∃ a vs v, σ[i]? = some (some (.ref a)) ∧ H1 a = some (.lst vs) ∧ vs.length = xs.length ∧ vs[k]? = some v ∧ ∃ SV2, EnvP C.K SV H σ (ρ1.set i (some (.lst true (xs.eraseIdx k)))) (upd H1 a (.lst (vs.eraseIdx k))) SV2 ∧ Rep C.K (upd H1 a (.lst (vs.eraseIdx k))) d v [] := by
  obtain ⟨a, vs, S', R, hσ, hH, rs, f⟩ := lst_at e1.vars hg
  obtain ⟨v, T, R0, g1, g2, g3, g4, _⟩ := Reps.split rs hk
  have := g2.frz hf
  subst this
  have ndf : ((a :: S') ++ R).Nodup := f.perm.nodup_iff.mp e1.nd
  obtain ⟨na, ndf'⟩ := List.nodup_cons.mp (show (a :: (S' ++ R)).Nodup from ndf)
  have p0 : S'.Perm R0 := g3
  have memR : ∀ b ∈ R0, b ∈ S' := fun b hb => p0.mem_iff.mpr hb
  have nd2 : (a :: (R0 ++ R)).Nodup := ((p0.append_right R).cons a).nodup_iff.mp ndf
  have kU : Kp R0 H1 (upd H1 a (.lst (vs.eraseIdx k))) := kp_upd hH (show Mb (.lst vs) from True.intro) fun z => na (List.mem_append_left _ (memR a z))
  have rep2 : Rep C.K (upd H1 a (.lst (vs.eraseIdx k))) (.lst true (xs.eraseIdx k)) (.ref a) (a :: R0) := ⟨a, _, _, rfl, upd_same, g4.kp _ kU, rfl⟩
  have mem1 : ∀ b ∈ a :: (S' ++ R), b ∈ SV1 := fun b hb => f.perm.mem_iff.mpr hb
  obtain ⟨SV2, e2, _⟩ := obj_write e1 f hσ hH (show Mb (.lst vs) from True.intro) rep2 nd2 (fun b hb => e1.src b (mem1 b (List.mem_cons_of_mem _ (List.mem_append_left _ (memR b hb)))))
  exact ⟨a, vs, v, hσ, hH, rs.length.symm, g1, SV2, e2, g2.kp d (kp_upd (S := []) hH (show Mb (.lst vs) from True.intro) List.not_mem_nil)⟩
theorem res_frz {SV SV2 : List Addr} {H H2 : Hp} {σ : St} {ρ ρ2 : Ev} {d : D} {v : V} (e2 : EnvP C.K SV H σ ρ2 H2 SV2) (r : Rep C.K H2 d v []) : RD C.K SV H ρ true false d ρ2 SV2 H2 v :=
  ⟨⟨[], r, (fun _ a ha => absurd ha List.not_mem_nil), (fun _ => e2.nd)⟩, fun q => by cases q⟩
theorem se_pop {i : Nat} {x : Str} {p apos cpos : Pos} (hN : X.N[i]? = some x) (hv : Vis X.env.scope x) (hd : (x == ("__debug__" : Str)) = false) (hcd : (x == ("__classdict__" : Str)) = false)
    (hbase : attributeBase (.Name x p) "pop" X.env (eval (.Name x p) X.env) = eval (.Name x p) X.env) (hline : (apos.endLine == cpos.line) = true) :
    PE X (.Call (.Attribute (.Name x p) "pop" apos) [] [] cpos) (tD C W (.pop i)) := by
  refine pemono (pe_bm0 PySem.F.plainAttrs_list PySem.F.slot_list_pop PySem.F.type_list_pop mt_pop (pe_var hN hv hd hcd) hbase hline) fun σ H Q ⟨ρ, SV, hv', nd, h⟩ => ?_
  have h : tK C W σ SV H (RD C.K SV H ρ true false) (onL popF i ρ) Q := h
  cases ho : onL popF i ρ with
  | bad => rw [ho] at h; exact h.elim
  | exc x ρ' => exact (onL_exc ho).elim
  | ok d ρ' =>
    rw [ho] at h
    obtain ⟨xs, ys, h1, h2, rfl⟩ := onL_some ho
    unfold popF at h2
    split at h2
    · rename_i d' hx
      split at h2
      · rename_i hf
        cases h2
        obtain ⟨a, vs, v, hσ, hH, hl, hvk, SV2, e2, r⟩ := take_out (EnvP.refl hv' nd) h1 hx hf
        rw [← drop_erase] at e2
        rw [hl.symm] at e2 r hvk
        rw [← drop_erase] at e2 r
        exact ⟨.ref a, hσ, .inl ⟨rfl, vs, .inl (.inl hH)⟩, a, vs, v, rfl, rfl, hH, hvk, h v _ SV2 e2 (res_frz e2 r)⟩
      · cases h2
    · cases h2
theorem se_popAt {i : Nat} {e : Expr} {e' : E} {x : Str} {p apos cpos : Pos} (ho : own e' = true) (hN : X.N[i]? = some x) (hv : Vis X.env.scope x) (hd : (x == ("__debug__" : Str)) = false) (hcd : (x == ("__classdict__" : Str)) = false) (ha : PA X [e] (tA C W (.cons e' .nil)))
    (hbase : attributeBase (.Name x p) "pop" X.env (eval (.Name x p) X.env) = eval (.Name x p) X.env)
    (hfew : ((backTo cpos (starEach [e] X.env)).all (fun x => !x.1) && (backToKw cpos (keywordEach [] X.env)).all (fun x => x.1.isSome)
      && decide (([e] : List Expr).length + ([] : List Keyword).length + (if ([] : List Keyword).isEmpty then 0 else 1) < 30)) = true)
    (hline : (apos.endLine == cpos.line) = true) (hs : starEach [e] X.env = (false, eval e X.env) :: starEach [] X.env) (hplain : (backTo cpos (starEach [] X.env)).any (·.1) = false) :
    PE X (.Call (.Attribute (.Name x p) "pop" apos) [e] [] cpos) (tD C W (.popAt i e')) := by
  refine pemono (pe_bm PySem.F.plainAttrs_list PySem.F.slot_list_pop PySem.F.type_list_pop mt_popAt (pe_var hN hv hd hcd) ha hbase hfew hline hs hplain) fun σ H Q ⟨ρ, SV, hv', nd, h⟩ => ?_
  have h : tK C W σ SV H (RD C.K SV H ρ true false) (if isL ρ i = true then (ev e' ρ).bind fun x ρ => (match x with
    | .int k => onL (popAtF k) i ρ
    | _ => .bad) else .bad) Q := h
  by_cases hl : isL ρ i = true
  case neg => rw [if_neg hl] at h; exact h.elim
  rw [if_pos hl] at h
  obtain ⟨xs0, h0⟩ := isL_some hl
  obtain ⟨a, vs0, S0, R0, hσ, hH0, _, _⟩ := lst_at hv' h0
  refine ⟨.ref a, hσ, .inl ⟨rfl, vs0, .inl (.inl hH0)⟩, ρ, SV, hv', nd, ?_⟩
  have e3 : evs (.cons e' .nil) ρ = (ev e' ρ).bind fun d ρ => .ok [d] ρ := rfl
  have h2 : tK C W σ SV H (RD C.K SV H ρ true false) ((evs (.cons e' .nil) ρ).bind fun ds ρ => match ds with
    | [.int k] => onL (popAtF k) i ρ
    | _ => .bad) Q := by
    rw [e3]
    cases hev : ev e' ρ with
    | bad => rw [hev] at h; exact h
    | exc x ρ' => rw [hev] at h; exact h
    | ok d ρ' => rw [hev] at h; cases d <;> exact h
  refine tK_bind0 h2 fun ds ρ1 vs H1 SV1 e1 ⟨⟨S, r1⟩, _⟩ h1 => ?_
  cases r1.rep with
  | @cons _ _ d ds v vs T T' rd t =>
    cases t
    cases d with
    | int k =>
      have h1 : tK C W σ SV H (RD C.K SV H ρ true false) (onL (popAtF k) i ρ1) Q := h1
      have := rd.1
      subst this
      cases ho : onL (popAtF k) i ρ1 with
      | bad => rw [ho] at h1; exact h1.elim
      | exc x ρ' => exact (onL_exc ho).elim
      | ok d ρ' =>
        rw [ho] at h1
        obtain ⟨xs, ys, g1, g2, rfl⟩ := onL_some ho
        unfold popAtF at g2
        split at g2
        · rename_i j hj
          split at g2
          · rename_i d' hx
            split at g2
            · rename_i hf
              cases g2
              obtain ⟨a', vs, v, hσ', hH, hl', hvk, SV2, e2, r⟩ := take_out e1 g1 hx hf.1
              rw [hσ] at hσ'
              cases hσ'
              obtain ⟨j1, j2, j3, j4⟩ := ixN_seq hj
              have hz := hf.2
              have hlm := lim_eq
              have hsl := sizeLine_eq
              exact ⟨a, vs, k, j, v, rfl, rfl, hH, by omega, by omega, by rw [hl']; exact j1, hvk, h1 v _ SV2 e2 (res_frz e2 r)⟩
            · cases g2
          · cases g2
        · cases g2
    | _ => exact h1.elim
/-! ### list(range(..)) -/
theorem rng_reps {n : Nat} {lo : Int} : Reps K H (rngD lo n) ((List.range n).map fun i => V.int (lo + (i : Nat))) [] := by
  induction n generalizing lo with
  | zero => exact Reps.nil
  | succ n ih =>
    rw [List.range_succ_eq_map, List.map_cons, List.map_map]
    refine Reps.cons (S1 := []) (S2 := []) ⟨by simp, rfl⟩ ?_
    have := ih (lo := lo + 1)
    have e : (fun i : Nat => V.int (lo + 1 + (i : Nat))) = ((fun i : Nat => V.int (lo + (i : Nat))) ∘ Nat.succ) := by
      funext i
      show V.int _ = V.int _
      congr 1
      push_cast
      omega
    rw [e] at this
    exact this
theorem rngD_len : ∀ (n : Nat) (lo : Int), (rngD lo n).length = n
  | 0, _ => rfl
  | n + 1, lo => congrArg (· + 1) (rngD_len n (lo + 1))
theorem se_lrg1 {a : Expr} {a' : E} {p p2 pos pos2 : Pos} (hc : X.calm = true) (hg : Gl X "list") (hm : X.mg "list" = none) (hg2 : Gl X "range") (hm2 : X.mg "range" = none) (ha : PE X a (tD C W a')) (na : starEach [a] X.env = (false, eval a X.env) :: starEach [] X.env) :
    PE X (.Call (.Name "list" p) [.Call (.Name "range" p2) [a] [] pos2] [] pos) (tD C W (.lrg (.cons a' .nil))) := by
  refine pemono (pe_listRg hc hg hm (prg_1 hg2 hm2 ha na) rfl) fun σ H Q ⟨ρ, SV, hv, nd, h⟩ => ?_
  have h : tK C W σ SV H (RD C.K SV H ρ true (quiet a' && true)) ((ev a' ρ).bind fun d ρ => liftO (lrgS [d]) ρ) Q := by
    have h : tK C W σ SV H (RD C.K SV H ρ true (quiet a' && true)) ((evs (.cons a' .nil) ρ).bind fun ds ρ => liftO (lrgS ds) ρ) Q := h
    have e3 : evs (.cons a' .nil) ρ = (ev a' ρ).bind fun d ρ => .ok [d] ρ := rfl
    rw [e3] at h
    cases hev : ev a' ρ <;> rw [hev] at h <;> exact h
  refine ⟨ρ, SV, hv, nd, tK_bind0 h fun d ρ1 v H1 SV1 e1 ⟨⟨S, r1⟩, q1⟩ h1 => ?_⟩
  obtain ⟨z, hz, h2⟩ := tK_lift h1
  cases d with
  | int j =>
    unfold lrgS rngOf at hz
    dsimp only at hz
    split at hz
    · rename_i l hl
      split at hl
      · rename_i hb
        cases hl
        split at hz
        · rename_i hlen
          cases hz
          rw [rngD_len] at hlen
          have hlen : j.toNat ≤ 16777216 := hlen
          refine ⟨j, r1.rep.1, ⟨by omega, by omega, by omega, by omega, by rw [Int.sub_zero]; omega⟩, kLst (K := C.K) (ds := rngD 0 j.toNat) (fun w H' S' x rep nd' new => ?_) ?_⟩
          · have en := e1.ext0 x
            obtain ⟨f1, f2⟩ := fresh_sep e1 nd' new
            exact h2 w H' SV1 (e1.trans en) ⟨⟨S', rep, (fun _ => f1), (fun _ => f2)⟩, fun q => (q1 (by simpa using q)).ext x⟩
          · unfold rgV
            rw [Int.sub_zero]
            exact rng_reps
        · cases hz
      · cases hl
    · cases hz
  | _ => cases hz
theorem se_lrg2 {a b : Expr} {a' b' : E} {p p2 pos pos2 : Pos} (hc : X.calm = true) (hg : Gl X "list") (hm : X.mg "list" = none) (hg2 : Gl X "range") (hm2 : X.mg "range" = none) (ha : PE X a (tD C W a')) (hb : PE X b (tD C W b')) (na : starEach [a, b] X.env = (false, eval a X.env) :: starEach [b] X.env) (nb : starEach [b] X.env = (false, eval b X.env) :: starEach [] X.env) (hp : (backTo pos2 (starEach [b] X.env)).any (·.1) = false) :
    PE X (.Call (.Name "list" p) [.Call (.Name "range" p2) [a, b] [] pos2] [] pos) (tD C W (.lrg (.cons a' (.cons b' .nil)))) := by
  refine pemono (pe_listRg hc hg hm (prg_2 hg2 hm2 ha hb na nb hp) rfl) fun σ H Q ⟨ρ, SV, hv, nd, h⟩ => ?_
  have h : tK C W σ SV H (RD C.K SV H ρ true (quiet a' && (quiet b' && true))) ((ev a' ρ).bind fun d ρ => (ev b' ρ).bind fun e ρ => liftO (lrgS [d, e]) ρ) Q := by
    have h : tK C W σ SV H (RD C.K SV H ρ true (quiet a' && (quiet b' && true))) ((evs (.cons a' (.cons b' .nil)) ρ).bind fun ds ρ => liftO (lrgS ds) ρ) Q := h
    have e3 : evs (.cons a' (.cons b' .nil)) ρ = (ev a' ρ).bind fun d ρ => ((ev b' ρ).bind fun e ρ => .ok [e] ρ).bind fun es ρ => .ok (d :: es) ρ := rfl
    rw [e3] at h
    cases hev : ev a' ρ with
    | bad => rw [hev] at h; exact h
    | exc x ρ' => rw [hev] at h; exact h
    | ok d ρ1 =>
      rw [hev] at h
      show tK C W σ SV H _ ((ev b' ρ1).bind fun e ρ => liftO (lrgS [d, e]) ρ) Q
      have h : tK C W σ SV H (RD C.K SV H ρ true (quiet a' && (quiet b' && true))) ((((ev b' ρ1).bind fun e ρ => .ok [e] ρ).bind fun es ρ => .ok (d :: es) ρ).bind fun ds ρ => liftO (lrgS ds) ρ) Q := h
      cases hev2 : ev b' ρ1 <;> rw [hev2] at h <;> exact h
  refine ⟨ρ, SV, hv, nd, tK_bind h fun d ρ1 v H1 SV1 e1 ⟨⟨S, r1⟩, q1⟩ h1 => ⟨ρ1, SV1, e1.vars, e1.nd, tK_bind h1 fun e ρ2 u H2 SV2 e2 ⟨⟨S2, r2⟩, q2⟩ h2 => ?_⟩⟩
  obtain ⟨z, hz, h3⟩ := tK_lift h2
  have iD : ∀ w : D, (match w with | .int _ => True | _ => False) ∨ ¬ (match w with | .int _ => True | _ => False) := fun w => by cases w <;> simp
  have hd : ∃ i j, d = .int i ∧ e = .int j := by
    cases d <;> first
      | (cases hz; done)
      | (cases e <;> first
        | (cases hz; done)
        | exact ⟨_, _, rfl, rfl⟩)
  obtain ⟨i, j, rfl, rfl⟩ := hd
  unfold lrgS rngOf at hz
  dsimp only at hz
  split at hz
  · rename_i l hl
    split at hl
    · rename_i hb
      cases hl
      split at hz
      · rename_i hlen
        cases hz
        rw [rngD_len] at hlen
        have hlen : (j - i).toNat ≤ 16777216 := hlen
        have et := e1.trans e2
        refine ⟨i, j, r1.rep.1, r2.rep.1, ⟨by omega, by omega, by omega, by omega, by omega⟩, kLst (K := C.K) (ds := rngD i (j - i).toNat) (fun w H' S' x rep nd' new => ?_) ?_⟩
        · have en := et.ext0 x
          obtain ⟨f1, f2⟩ := fresh_sep et nd' new
          refine h3 w H' SV2 en ⟨e2.trans en, et.trans en, ⟨S', rep, fun _ => f1, fun _ => f2⟩, fun q => ?_⟩
          have q : (quiet a' && (quiet b' && true)) = true := q
          rw [Bool.and_true, Bool.and_eq_true] at q
          exact ((q1 q.1).trans (q2 q.2)).ext x
        · exact rng_reps
      · cases hz
    · cases hl
  · cases hz
/-! ### methods that change nothing -/
theorem idxOf_some {d : PyData} : ∀ {zs : List PyData} {n m : Nat}, idxOf d zs n = some m → ∃ j z, m = n + j ∧ zs[j]? = some z ∧ PyData.eqv z d = true ∧ ∀ (k : Nat) (z' : PyData), k < j → zs[k]? = some z' → PyData.eqv z' d = false
  | [], _, _, h => by cases h
  | z :: zs, n, m, h => by
    unfold idxOf at h
    by_cases hz : PyData.eqv z d = true
    · rw [if_pos hz] at h
      cases h
      exact ⟨0, z, rfl, rfl, hz, fun k z' hk => absurd hk (Nat.not_lt_zero _)⟩
    · rw [if_neg hz] at h
      obtain ⟨j, y, rfl, h1, h2, h3⟩ := idxOf_some h
      refine ⟨j + 1, y, by omega, by simpa using h1, h2, fun k z' hk hz' => ?_⟩
      cases k with
      | zero =>
        cases (show z = z' by simpa using hz')
        simpa using hz
      | succ k => exact h3 k z' (by omega) (by simpa using hz')
theorem flat_rep {d : D} {v : V} {S : List Addr} (r : Rep K H d v S) (f : flatD d = true) : flatV v = true ∧ ∀ {d2 : D} {v2 : V} {S2 : List Addr}, Rep K H d2 v2 S2 → flatD d2 = true → eqV v v2 = PyData.eqv (toP d) (toP d2) := by
  cases d <;> first
    | (cases f; done)
    | (obtain ⟨rfl, _⟩ := r
       refine ⟨rfl, fun {d2 v2 S2} r2 f2 => ?_⟩
       cases d2 <;> first
         | (cases f2; done)
         | (obtain ⟨rfl, _⟩ := r2; rfl))
theorem toPs_get : ∀ {ds : List D} {i : Nat} {z : PyData}, (toPs ds)[i]? = some z → ∃ d, ds[i]? = some d ∧ z = toP d
  | [], _, _, h => by simp [toPs] at h
  | d :: ds, 0, z, h => by
    have h : some (toP d) = some z := h
    cases h
    exact ⟨d, rfl, rfl⟩
  | d :: ds, i + 1, z, h => by
    have h : (toPs ds)[i]? = some z := h
    obtain ⟨e, h1, h2⟩ := toPs_get h
    exact ⟨e, h1, h2⟩
theorem get_toPs : ∀ {ds : List D} {i : Nat} {d : D}, ds[i]? = some d → (toPs ds)[i]? = some (toP d)
  | [], _, _, h => by simp at h
  | e :: ds, 0, d, h => by
    cases (show e = d by simpa using h)
    rfl
  | e :: ds, i + 1, d, h => get_toPs (ds := ds) (i := i) (by simpa using h)
theorem mt_idx (hu : X.A.units + 65 < cLine) : MtR X "list.index" (fun x xs H Q => rIndex X.K x xs H Q ∨ rIndexD X.K x xs H Q) := fun pins s σ H x xs v us Q I rx rxs h => h.elim (mt_index pins s σ H x xs v us Q I rx rxs) (mt_indexD hu pins s σ H x xs v us Q I rx rxs)
theorem se_index {o e : Expr} {a' e' : E} {apos cpos : Pos} (hK : X.K = C.K) (hu : X.A.units + 65 < cLine) (hs' : own a' = true ∨ quiets (.cons e' .nil) = true) (ho : PE X o (tD C W a')) (ha : PA X [e] (tA C W (.cons e' .nil)))
    (hbase : attributeBase o "index" X.env (eval o X.env) = eval o X.env)
    (hfew : ((backTo cpos (starEach [e] X.env)).all (fun x => !x.1) && (backToKw cpos (keywordEach [] X.env)).all (fun x => x.1.isSome)
      && decide (([e] : List Expr).length + ([] : List Keyword).length + (if ([] : List Keyword).isEmpty then 0 else 1) < 30)) = true)
    (hline : (apos.endLine == cpos.line) = true) (hs : starEach [e] X.env = (false, eval e X.env) :: starEach [] X.env) (hplain : (backTo cpos (starEach [] X.env)).any (·.1) = false) :
    PE X (.Call (.Attribute o "index" apos) [e] [] cpos) (tD C W (.me .index a' (.cons e' .nil))) := by
  refine pemono (pe_bm PySem.F.plainAttrs_list PySem.F.slot_list_index PySem.F.type_list_index (mt_idx hu) ho ha hbase hfew hline hs hplain) fun σ H Q ⟨ρ, SV, hv', nd, h⟩ => ?_
  have h : tK C W σ SV H (RD C.K SV H ρ true (quiet a' && quiets (.cons e' .nil))) ((ev a' ρ).bind fun x ρ => if Mth.index.recv x = true then (evs (.cons e' .nil) ρ).bind fun ds ρ => liftO (Mth.index.sem x ds) ρ else .bad) Q := h
  refine ⟨ρ, SV, hv', nd, tK_bind h fun d ρ1 v H1 SV1 e1 ⟨⟨S, r1⟩, q1⟩ h1 => ?_⟩
  by_cases hr : Mth.index.recv d = true
  case neg => rw [if_neg hr] at h1; exact h1.elim
  rw [if_pos hr] at h1
  cases d with
  | lst oo xs =>
    obtain ⟨a, vs, T, rfl, q, rs, _⟩ := lst_sq r1.rep
    refine ⟨.inl ⟨rfl, vs, .inl q⟩, ρ1, SV1, e1.vars, e1.nd, tK_bind h1 fun ds ρ2 us H2 SV2 e2 ⟨⟨T2, r2⟩, q2⟩ h2 => ?_⟩
    obtain ⟨rep1, _⟩ := r1.carry e2 e1 q2 hs'
    obtain ⟨z, hz, h3⟩ := tK_lift h2
    cases r2.rep with
    | @cons _ _ y ds u us S2 T3 rd t =>
      cases t
      change indexS (.lst oo xs) y = some z at hz
      unfold indexS at hz
      dsimp only at hz
      split at hz
      · rename_i hc
        cases hi : idxOf (toP y) (toPs xs) 0 with
        | none => rw [hi] at hz; cases hz
        | some m =>
          rw [hi] at hz
          cases hz
          obtain ⟨j, zz, rfl, i1, i2, i3⟩ := idxOf_some hi
          have et := e1.trans e2
          have fin : Q (.int (j : Nat)) H2 := by
            have en : EnvP C.K SV2 H2 σ ρ2 H2 SV2 := .refl e2.vars e2.nd
            refine h3 (.int (j : Nat)) H2 SV2 en ⟨e2.trans en, et.trans en, ⟨[], ⟨by rw [Nat.zero_add], rfl⟩, (fun _ a ha => absurd ha List.not_mem_nil), (fun _ => e2.nd)⟩, fun q => ?_⟩
            rw [Bool.and_eq_true] at q
            exact (q1 q.1).trans (q2 q.2)
          rcases hc with ⟨f1, f2⟩ | ⟨c1, c2, c3, c4⟩
          · obtain ⟨a2, vs2, T4, ea, q4, rs2, _⟩ := lst_sq rep1
            cases ea
            have fl := flat_rep rd f1
            have fA : ∀ z ∈ xs, flatD z = true := fun z hz => List.all_eq_true.mp f2 z hz
            obtain ⟨zd, hzd, rfl⟩ := toPs_get i1
            obtain ⟨zv, T5, hzv, rz, _⟩ := rs2.get hzd
            refine .inl ⟨a, vs2, u, j, zv, rfl, rfl, by rw [hK]; exact .inl q4, fl.1, ?_, hzv, ?_, fun k z' hk hz' => ?_, fin⟩
            · rw [List.all_eq_true]
              intro w hw
              obtain ⟨k, hk, e⟩ := List.mem_iff_getElem.mp hw
              obtain ⟨dd, T6, g1, g2, _⟩ := rs2.of_get (i := k) (v := w) (by rw [List.getElem?_eq_getElem hk, e])
              exact (flat_rep g2 (fA dd (List.mem_of_getElem? g1))).1
            · rw [(flat_rep rz (fA zd (List.mem_of_getElem? hzd))).2 rd f1]
              exact i2
            · obtain ⟨dd, T6, g1, g2, _⟩ := rs2.of_get hz'
              rw [(flat_rep g2 (fA dd (List.mem_of_getElem? g1))).2 rd f1]
              exact i3 k (toP dd) hk (get_toPs g1)
          · exact .inr ⟨a, u, toP y, toPs xs, j, zz, rfl, rfl, by rw [hK]; exact rep_dp (.lst oo xs) rep1 c4, by rw [hK]; exact rep_dp y rd c3, c1, c2, i1, i2, i3, fin⟩
      · cases hz
  | _ => cases hr
end
end Ly

namespace Ly
open PySem PySem.Spec L2
variable [Fns]
section
variable {K : PySem.W.Frag} {SV SV1 : List Addr} {H H1 H2 : Hp} {σ : St} {ρ ρ1 : Ev}
/-- one item set, in a heap that keeps the others -/
theorem Reps.setH : ∀ {ds : List D} {vs : List V} {S : List Addr} {k : Nat} {d : D}, Reps K H ds vs S → ds[k]? = some d → ∃ v T R, vs[k]? = some v ∧ Rep K H d v T ∧ S.Perm (T ++ R) ∧ ∀ H' d' v' T', Kp R H H' → Rep K H' d' v' T' → ∃ S2, Reps K H' (ds.set k d') (vs.set k v') S2 ∧ S2.Perm (T' ++ R)
  | [], _, _, _, _, _, h => by simp at h
  | e :: ds, _, _, 0, d, h, hk => by
    obtain ⟨v, r, S1, S2, rfl, q1, q2, rfl⟩ := h
    cases (show e = d by simpa using hk)
    exact ⟨v, S1, S2, rfl, q1, .refl _, fun H' d' v' T' kp r' => ⟨T' ++ S2, Reps.cons r' (q2.kp _ kp), .refl _⟩⟩
  | e :: ds, _, _, k + 1, d, h, hk => by
    obtain ⟨v, r, S1, S2, rfl, q1, q2, rfl⟩ := h
    obtain ⟨v1, T, R, h1, h2, h3, h5⟩ := Reps.setH (k := k) q2 (by simpa using hk)
    refine ⟨v1, T, S1 ++ R, by simpa using h1, h2, ?_, fun H' d' v' T' kp r' => ?_⟩
    · refine (h3.append_left S1).trans ?_
      rw [← List.append_assoc, ← List.append_assoc]
      exact (List.perm_append_comm).append_right R
    · obtain ⟨S3, h6, h7⟩ := h5 H' d' v' T' (kp.sub fun a ha => List.mem_append_right _ ha) r'
      refine ⟨S1 ++ S3, Reps.cons (q1.kp _ (kp.sub fun a ha => List.mem_append_left _ ha)) h6, (h7.append_left S1).trans ?_⟩
      rw [← List.append_assoc, ← List.append_assoc]
      exact (List.perm_append_comm).append_right R
/-- an own list, of frozen things, within the own list of a name: where it lies, and how it is written -/
theorem inner_write {i n : Nat} {xs ys : List D} (e1 : EnvP K SV H σ ρ1 H1 SV1) (hg : getV ρ1 i = some (.lst true xs)) (hn : xs[n]? = some (.lst true ys)) (hf : ys.all frzD = true) :
    ∃ a vs b ws, σ[i]? = some (some (.ref a)) ∧ H1 a = some (.lst vs) ∧ vs.length = xs.length ∧ vs[n]? = some (.ref b) ∧ H1 b = some (.lst ws) ∧ Reps K H1 ys ws [] ∧
      ∀ zs ws', Reps K (upd H1 b (.lst ws')) zs ws' [] → ∃ SV2, EnvP K SV H σ (ρ1.set i (some (.lst true (xs.set n (.lst true zs))))) (upd H1 b (.lst ws')) SV2 := by
  obtain ⟨a, vs, S', R, hσ, hH, rs, f⟩ := lst_at e1.vars hg
  obtain ⟨v, T, R0, h1, h2, h3, h5⟩ := Reps.setH rs hn
  obtain ⟨b, ws, T0, rfl, hb, rb, rfl⟩ := h2
  have := rb.frz hf
  subst this
  have ndf : ((a :: S') ++ R).Nodup := f.perm.nodup_iff.mp e1.nd
  obtain ⟨na, ndf'⟩ := List.nodup_cons.mp (show (a :: (S' ++ R)).Nodup from ndf)
  have p0 : S'.Perm (b :: R0) := h3
  have bS : b ∈ S' := p0.mem_iff.mpr List.mem_cons_self
  have hab : a ≠ b := fun e => na (by rw [e]; exact List.mem_append_left _ bS)
  have bR : b ∉ R := fun z => (List.nodup_append.mp ndf').2.2 b bS b z rfl
  have bR0 : b ∉ R0 := (List.nodup_cons.mp (p0.nodup_iff.mp (List.nodup_append.mp ndf').1)).1
  refine ⟨a, vs, b, ws, hσ, hH, rs.length.symm, h1, hb, rb, fun zs ws' rz => ?_⟩
  have kR0 : Kp R0 H1 (upd H1 b (.lst ws')) := kp_upd hb (show Mb (.lst ws) from True.intro) bR0
  have kR : Kp R H1 (upd H1 b (.lst ws')) := kp_upd hb (show Mb (.lst ws) from True.intro) bR
  obtain ⟨S2, h6, h7⟩ := h5 (upd H1 b (.lst ws')) (.lst true zs) (.ref b) [b] kR0 ⟨b, ws', [], rfl, upd_same, rz, rfl⟩
  have h7 : S2.Perm (b :: R0) := h7
  rw [set_same h1] at h6
  have hHa : (upd H1 b (.lst ws')) a = some (.lst vs) := by rw [upd_ne hab]; exact hH
  obtain ⟨SV2, v2, p2⟩ := f.set (upd H1 b (.lst ws')) (.lst true (xs.set n (.lst true zs))) (.ref a) (a :: S2) kR ⟨a, vs, S2, rfl, hHa, h6, rfl⟩
  rw [set_same hσ] at v2
  have pp : SV2.Perm SV1 := by
    refine p2.trans (.trans ?_ f.perm.symm)
    exact (((h7.trans p0.symm).cons a).append_right R)
  refine ⟨SV2, v2, pp.nodup_iff.mpr e1.nd, fun c hc => e1.src c (pp.mem_iff.mp hc), fun c u hc hs => ?_⟩
  rw [upd_ne (fun z => ?_)]
  · exact e1.ext c u hc hs
  · subst z
    have bSV : c ∈ SV1 := f.perm.mem_iff.mpr (List.mem_append_left _ (List.mem_cons_of_mem _ bS))
    rcases e1.src c bSV with q | q
    · exact hs q
    · rw [hc] at q; cases q
theorem isP_some {i : Nat} {k : Int} (h : isP ρ i k = true) : ∃ xs n ys, getV ρ i = some (.lst true xs) ∧ ixN xs.length k = some n ∧ xs[n]? = some (.lst true ys) := by
  unfold isP at h
  split at h
  · rename_i xs e
    split at h
    · rename_i n e2
      split at h
      · rename_i ys e3
        exact ⟨xs, n, ys, e, e2, e3⟩
      · cases h
    · cases h
  · cases h
theorem onP_some {α : Type} {f : List D → Option (α × List D)} {i : Nat} {k : Int} {ρ' : Ev} {d : α} (h : onP f i k ρ = .ok d ρ') : ∃ xs n ys zs, getV ρ i = some (.lst true xs) ∧ ixN xs.length k = some n ∧ xs[n]? = some (.lst true ys) ∧ ys.all frzD = true ∧ f ys = some (d, zs) ∧ zs.all frzD = true ∧ ρ' = ρ.set i (some (.lst true (xs.set n (.lst true zs)))) := by
  unfold onP at h
  split at h
  · rename_i xs e
    split at h
    · rename_i n e2
      split at h
      · rename_i ys e3
        split at h
        · rename_i c1
          split at h
          · rename_i a zs e4
            split at h
            · rename_i c2
              cases h
              exact ⟨xs, n, ys, zs, e, e2, e3, c1, e4, c2, rfl⟩
            · cases h
          · cases h
        · cases h
      · cases h
    · cases h
  · cases h
theorem onP_exc {α : Type} {f : List D → Option (α × List D)} {i : Nat} {k : Int} {ρ' : Ev} {x : D} (h : onP f i k ρ = .exc x ρ') : False := by
  unfold onP at h
  split at h
  · split at h
    · split at h
      · split at h
        · split at h
          · split at h <;> cases h
          · cases h
        · cases h
      · cases h
    · cases h
  · cases h
theorem Reps.all_frz {ds : List D} {vs : List V} {S : List Addr} (r : Reps K H ds vs S) (h : ds.all frzD = true) : Reps K H ds vs [] := by
  have := r.frz h
  subst this
  exact r
theorem Reps.erase0 {ds : List D} {vs : List V} {k : Nat} {d : D} (r : Reps K H ds vs []) (h : ds[k]? = some d) : Reps K H (ds.eraseIdx k) (vs.eraseIdx k) [] := by
  obtain ⟨v, T, R, h1, h2, h3, h4, _⟩ := Reps.split r h
  have e : T ++ R = [] := h3.symm.eq_nil
  obtain ⟨rfl, rfl⟩ := List.append_eq_nil_iff.mp e
  exact h4
theorem Reps.set0 {ds : List D} {vs : List V} {k : Nat} {d d' : D} {v' : V} (r : Reps K H ds vs []) (h : ds[k]? = some d) (r' : Rep K H d' v' []) : Reps K H (ds.set k d') (vs.set k v') [] := by
  obtain ⟨v, T, R, h1, h2, h3, _, h4⟩ := Reps.split r h
  have e : T ++ R = [] := h3.symm.eq_nil
  obtain ⟨rfl, rfl⟩ := List.append_eq_nil_iff.mp e
  obtain ⟨S2, h5, h6⟩ := h4 d' v' [] r'
  have : S2 = [] := h6.eq_nil
  subst this
  exact h5
end
section
variable {X : Cx} {C : Cfg} {W : WX} {P : List Nat} {pos : Pos}
theorem tK_bind2 {α β γ δ : Type} {SV SV1 : List Addr} {H H1 : Hp} {σ : St} {ρ1 : Ev} {R : α → Ev → List Addr → Hp → β → Prop} {R' : γ → Ev → List Addr → Hp → δ → Prop} {m : Out α} {f : α → Ev → Out γ} {Q : δ → Hp → Prop} {Q1 : β → Hp → Prop} (e1 : EnvP C.K SV H σ ρ1 H1 SV1)
    (h : tK C W σ SV H R' (m.bind f) Q) (k : ∀ d ρ2 v H2 SV2, EnvP C.K SV1 H1 σ ρ2 H2 SV2 → R d ρ2 SV2 H2 v → tK C W σ SV H R' (f d ρ2) Q → Q1 v H2) : tK C W σ SV1 H1 R m Q1 := by
  cases m with
  | bad => exact h
  | exc x ρ' => exact fun cls dd H' SV' e er => h cls dd H' SV' (e1.trans e) er
  | ok d ρ2 => exact fun v H2 SV2 e2 r2 => k d ρ2 v H2 SV2 e2 r2 h
/-- x[p], the list within -/
theorem inner_ix {n : Nat} {k : Int} {xs : List D} {H : Hp} {a : Addr} {vs : List V} {b : Addr} {R : VK} (hK : X.K = C.K) (hH : H a = some (.lst vs)) (hl : vs.length = xs.length) (hk : ixN xs.length k = some n) (hv : vs[n]? = some (.ref b)) (h : R (.ref b) H) : rIxL X.K (.ref a) (.int k) H R := by
  refine ⟨a, vs, k, .ref b, rfl, rfl, .inl (.inl hH), ?_, h⟩
  unfold atI
  rw [hl, hk]
  exact hv
theorem se_popP {i : Nat} {e pe : Expr} {e' p' : E} {x : Str} {p p2 apos cpos : Pos} (hK : X.K = C.K) (ho : own e' = true) (hqp : quiet p' = true) (hqe : quiet e' = true) (hN : X.N[i]? = some x) (hv : Vis X.env.scope x) (hd : (x == ("__debug__" : Str)) = false) (hcd : (x == ("__classdict__" : Str)) = false)
    (hp : PE X pe (tD C W p')) (hpl : PlainIx pe) (ha : PA X [e] (tA C W (.cons e' .nil)))
    (hbase : attributeBase (.Subscript (.Name x p) pe p2) "pop" X.env (eval (.Subscript (.Name x p) pe p2) X.env) = eval (.Subscript (.Name x p) pe p2) X.env)
    (hfew : ((backTo cpos (starEach [e] X.env)).all (fun x => !x.1) && (backToKw cpos (keywordEach [] X.env)).all (fun x => x.1.isSome)
      && decide (([e] : List Expr).length + ([] : List Keyword).length + (if ([] : List Keyword).isEmpty then 0 else 1) < 30)) = true)
    (hline : (apos.endLine == cpos.line) = true) (hs : starEach [e] X.env = (false, eval e X.env) :: starEach [] X.env) (hplain : (backTo cpos (starEach [] X.env)).any (·.1) = false) :
    PE X (.Call (.Attribute (.Subscript (.Name x p) pe p2) "pop" apos) [e] [] cpos) (tD C W (.popP i p' e')) := by
  refine pemono (pe_bm PySem.F.plainAttrs_list PySem.F.slot_list_pop PySem.F.type_list_pop mt_popAt (pe_ix ix_list (pe_var hN hv hd hcd) hp hpl) ha hbase hfew hline hs hplain) fun σ H Q ⟨ρ, SV, hv', nd, h⟩ => ?_
  have h : tK C W σ SV H (RD C.K SV H ρ true false) (if isL ρ i = true then (ev p' ρ).bind fun k ρ => (match k with
    | .int k => if isP ρ i k = true then (ev e' ρ).bind fun x ρ => (match x with
      | .int j => onP (popAtF j) i k ρ
      | _ => .bad) else .bad
    | _ => .bad) else .bad) Q := h
  by_cases hl : isL ρ i = true
  case neg => rw [if_neg hl] at h; exact h.elim
  rw [if_pos hl] at h
  obtain ⟨xs0, h0⟩ := isL_some hl
  obtain ⟨a, vs0, S0, R0, hσ, _, _, _⟩ := lst_at hv' h0
  refine ⟨.ref a, hσ, ρ, SV, hv', nd, tK_bind0 h fun kd ρ1 u H1 SV1 e1 ⟨⟨S1, r1⟩, q1⟩ h1 => ?_⟩
  obtain ⟨rfl, rfl, x1⟩ := q1 hqp
  cases kd with
  | int k =>
    have := r1.rep.1
    subst this
    have h1 : tK C W σ SV1 H (RD C.K SV1 H ρ1 true false) (if isP ρ1 i k = true then (ev e' ρ1).bind fun x ρ => (match x with
      | .int j => onP (popAtF j) i k ρ
      | _ => .bad) else .bad) Q := h1
    by_cases hP : isP ρ1 i k = true
    case neg => rw [if_neg hP] at h1; exact h1.elim
    rw [if_pos hP] at h1
    obtain ⟨xs, n, ys, g1, g2, g3⟩ := isP_some hP
    have e3 : evs (.cons e' .nil) ρ1 = (ev e' ρ1).bind fun d ρ => .ok [d] ρ := rfl
    -- where the list within lies
    obtain ⟨a1, vs1, S', R, hσ1, hH1, rs, f⟩ := lst_at e1.vars g1
    rw [hσ] at hσ1
    cases hσ1
    obtain ⟨v, T, R1, k1, k2, _, _⟩ := Reps.split rs g3
    obtain ⟨b, ws, T0, rfl, hb, rb, rfl⟩ := k2
    refine inner_ix (xs := xs) hK hH1 rs.length.symm g2 k1 ⟨.inl ⟨rfl, ws, .inl (.inl hb)⟩, ρ1, SV1, e1.vars, e1.nd, ?_⟩
    have h2 : tK C W σ SV1 H (RD C.K SV1 H ρ1 true false) ((evs (.cons e' .nil) ρ1).bind fun ds ρ => match ds with
      | [.int j] => onP (popAtF j) i k ρ
      | _ => .bad) Q := by
      rw [e3]
      cases hev : ev e' ρ1 with
      | bad => rw [hev] at h1; exact h1
      | exc x ρ' => rw [hev] at h1; exact h1
      | ok d ρ' => rw [hev] at h1; cases d <;> exact h1
    refine tK_bind2 e1 h2 fun ds ρ2 us H2 SV2 e2 ⟨⟨S2, r2⟩, q2⟩ h3 => ?_
    obtain ⟨rfl, rfl, x2⟩ := q2 (show (quiet e' && true) = true by rw [hqe]; rfl)
    cases r2.rep with
    | @cons _ _ d ds v vs T T' rd t =>
      cases t
      cases d with
      | int j =>
        have h3 : tK C W σ SV2 H (RD C.K SV2 H ρ2 true false) (onP (popAtF j) i k ρ2) Q := h3
        have := rd.1
        subst this
        cases hon : onP (popAtF j) i k ρ2 with
        | bad => rw [hon] at h3; exact h3.elim
        | exc x ρ' => exact (onP_exc hon).elim
        | ok d ρ' =>
          rw [hon] at h3
          obtain ⟨xs', n', ys', zs, o1, o2, o3, o4, o5, o6, rfl⟩ := onP_some hon
          rw [g1] at o1
          cases o1
          rw [g2] at o2
          cases o2
          rw [g3] at o3
          cases o3
          have e12 := e1.trans e2
          obtain ⟨a2, vs2, b2, ws2, w1, w2, w3, w4, w5, w6, w7⟩ := inner_write e12 g1 g3 o4
          rw [hσ] at w1
          cases w1
          have hvs : vs2 = vs1 := by
            have := x2 _ _ hH1 List.not_mem_nil
            rw [w2] at this
            cases this
            rfl
          subst hvs
          rw [k1] at w4
          cases w4
          unfold popAtF at o5
          split at o5
          · rename_i m hm
            split at o5
            · rename_i d' hx
              split at o5
              · rename_i hc
                cases o5
                have lw := w6.length
                obtain ⟨j1, j2, j3, j4⟩ := ixN_seq hm
                have hlm := lim_eq
                have hsl := sizeLine_eq
                obtain ⟨yv, hy, ry⟩ := w6.get0 hx
                have kU : ∀ ws', Kp [] H2 (upd H2 b (.lst ws')) := fun ws' => kp_upd w5 (show Mb (.lst ws2) from True.intro) List.not_mem_nil
                obtain ⟨SV3, e3'⟩ := w7 _ _ ((w6.erase0 hx).kp _ (kU (ws2.eraseIdx m)))
                exact ⟨b, ws2, j, m, yv, rfl, rfl, w5, by omega, by omega, by rw [← lw]; exact j1, hy, h3 yv _ SV3 e3' (res_frz e3' (ry.kp _ (kU _)))⟩
              · cases o5
            · cases o5
          · cases o5
      | _ => exact h3.elim
  | _ => exact h1.elim
/-- x[p][ix] = e -/
theorem s_setP {i : Nat} {e pe ix : Expr} {e' p' ix' : E} {x : Str} {p p2 tpos : Pos} (hK : X.K = C.K) (hu : X.A.units + 1 < cLine) (ho : own e' = true) (hqp : quiet p' = true) (hqi : quiet ix' = true) (hN : X.N[i]? = some x) (hv : Vis X.env.scope x) (hd : (x == ("__debug__" : Str)) = false) (hcd : (x == ("__classdict__" : Str)) = false)
    (he : PE X e (tD C W e')) (hp : PE X pe (tD C W p')) (hpl : PlainIx pe) (hix : PE X ix (tD C W ix'))
    (ha : ∀ v, assign (.Subscript (.Subscript (.Name x p) pe p2) ix tpos) X.env v = (do
      let ov ← holding [v] (eval (.Subscript (.Name x p) pe p2) X.env)
      let iv ← holding [v, ov] (eval ix X.env)
      standAt tpos
      holding [v, ov, iv] (setItem ov iv v)
      release [v, ov, iv] []))
    (hs : swapsWithSole [.Subscript (.Subscript (.Name x p) pe p2) ix tpos] e pos.line X.env = pure false) (hw : swappedStores [.Subscript (.Subscript (.Name x p) pe p2) ix tpos] e X.env = pure none) (h1 : (assignEach [.Subscript (.Subscript (.Name x p) pe p2) ix tpos] X.env).map (·.2) = [assign (.Subscript (.Subscript (.Name x p) pe p2) ix tpos) X.env]) :
    PS X (.Assign [.Subscript (.Subscript (.Name x p) pe p2) ix tpos] e pos) (tS C W P (.setP i p' ix' e')) := by
  refine psmono (ps_asg he (pg_sub (pe_ix ix_list (pe_var hN hv hd hcd) hp hpl) hix (set_any hu) ha) hs hw h1) fun D σ H ⟨ρ, SV, hv', nd, h⟩ => ⟨ρ, SV, hv', nd, ?_⟩
  refine sK_bind (show sK C W P σ SV H D ((ev e' ρ).bind fun d ρ => if isL ρ i = true then (ev p' ρ).bind fun k ρ => (match k with
    | .int k => if isP ρ i k = true then (ev ix' ρ).bind fun j ρ => (match j with
      | .int j => (onP (setF j d) i k ρ).bind fun _ ρ => .ok .nx ρ
      | _ => .bad) else .bad
    | _ => .bad) else .bad) from h) fun d ρ1 v H1 SV1 e1 ⟨⟨T, r1⟩, _⟩ h1 => ?_
  by_cases hl : isL ρ1 i = true
  case neg => rw [if_neg hl] at h1; exact h1.elim
  rw [if_pos hl] at h1
  obtain ⟨xs0, h0⟩ := isL_some hl
  obtain ⟨a, vs0, S0, R0, hσ, _, _, _⟩ := lst_at e1.vars h0
  have hsep := r1.sep ho
  refine ⟨.ref a, hσ, ρ1, SV1, e1.vars, e1.nd, sK_bind2 e1 h1 fun kd ρ2 u H2 SV2 e2 ⟨⟨Sk, rk⟩, q2⟩ h2 => ?_⟩
  obtain ⟨rfl, rfl, x2⟩ := q2 hqp
  cases kd with
  | int k =>
    have := rk.rep.1
    subst this
    have e12 : EnvP C.K SV H σ ρ2 H2 SV2 := e1.trans e2
    have h2 : sK C W P σ SV H D (if isP ρ2 i k = true then (ev ix' ρ2).bind fun j ρ => (match j with
      | .int j => (onP (setF j d) i k ρ).bind fun _ ρ => .ok .nx ρ
      | _ => .bad) else .bad) := h2
    by_cases hP : isP ρ2 i k = true
    case neg => rw [if_neg hP] at h2; exact h2.elim
    rw [if_pos hP] at h2
    obtain ⟨xs, n, ys, g1, g2, g3⟩ := isP_some hP
    obtain ⟨a1, vs1, S', R, hσ1, hH2, rs, f⟩ := lst_at e12.vars g1
    rw [hσ] at hσ1
    cases hσ1
    obtain ⟨v0, T0', R1, k1, k2, _, _⟩ := Reps.split rs g3
    obtain ⟨b, ws, T0, rfl, hb, rb, rfl⟩ := k2
    refine inner_ix (xs := xs) hK hH2 rs.length.symm g2 k1 ⟨ρ2, SV2, e12.vars, e12.nd, sK_bind2 e12 h2 fun jd ρ3 y H3 SV3 e3 ⟨⟨Sj, rj⟩, q3⟩ h3 => ?_⟩
    obtain ⟨rfl, rfl, x3⟩ := q3 hqi
    cases jd with
    | int j =>
      have := rj.rep.1
      subst this
      have h3 : sK C W P σ SV H D ((onP (setF j d) i k ρ3).bind fun _ ρ => .ok .nx ρ) := h3
      cases hon : onP (setF j d) i k ρ3 with
      | bad => rw [hon] at h3; exact h3.elim
      | exc x ρ' => exact (onP_exc hon).elim
      | ok d' ρ' =>
        rw [hon] at h3
        obtain ⟨xs', n', ys', zs, o1, o2, o3, o4, o5, o6, rfl⟩ := onP_some hon
        rw [g1] at o1
        cases o1
        rw [g2] at o2
        cases o2
        rw [g3] at o3
        cases o3
        have e123 := e12.trans e3
        obtain ⟨a2, vs2, b2, ws2, w1, w2, w3, w4, w5, w6, w7⟩ := inner_write e123 g1 g3 o4
        rw [hσ] at w1
        cases w1
        have hvs : vs2 = vs1 := by
          have := x3 _ _ hH2 List.not_mem_nil
          rw [w2] at this
          cases this
          rfl
        subst hvs
        rw [k1] at w4
        cases w4
        unfold setF at o5
        split at o5
        · rename_i m hm
          cases o5
          have hmy : m < ys.length := (ixN_seq hm).2.1
          have fd : frzD d = true := by
            have : d ∈ ys.set m d := List.mem_of_getElem? (i := m) (by rw [List.getElem?_set_self hmy])
            exact List.all_eq_true.mp o6 d this
          have rd3 : Rep C.K H3 d v [] := by
            have rT := r1.rep.frz fd
            have r0 := r1.rep
            rw [rT] at r0
            exact (r0.kp d (x2.all _)).kp d (x3.all _)
          have lw := w6.length
          have kU : ∀ ws', Kp [] H3 (upd H3 b (.lst ws')) := fun ws' => kp_upd w5 (show Mb (.lst ws2) from True.intro) List.not_mem_nil
          obtain ⟨SV4, e4⟩ := w7 _ _ ((w6.set0 (List.getElem?_eq_getElem hmy) rd3).kp _ (kU (ws2.set m v)))
          exact .inl ⟨b, ws2, j, m, rfl, rfl, w5, by rw [← lw]; exact hm, h3 σ _ SV4 e4 .refl⟩
        · cases o5
    | _ => exact h3.elim
  | _ => exact h2.elim
/-- x[p].append(e) -/
theorem s_appP {i : Nat} {e pe : Expr} {e' p' : E} {x : Str} {p p2 apos cpos pos : Pos} (hK : X.K = C.K) (ho : own e' = true) (hqp : quiet p' = true) (hqe : quiet e' = true) (hN : X.N[i]? = some x) (hv : Vis X.env.scope x) (hd : (x == ("__debug__" : Str)) = false) (hcd : (x == ("__classdict__" : Str)) = false)
    (hp : PE X pe (tD C W p')) (hpl : PlainIx pe) (ha : PA X [e] (tA C W (.cons e' .nil)))
    (hbase : attributeBase (.Subscript (.Name x p) pe p2) "append" X.env (eval (.Subscript (.Name x p) pe p2) X.env) = eval (.Subscript (.Name x p) pe p2) X.env)
    (hfew : ((backTo cpos (starEach [e] X.env)).all (fun x => !x.1) && (backToKw cpos (keywordEach [] X.env)).all (fun x => x.1.isSome)
      && decide (([e] : List Expr).length + ([] : List Keyword).length + (if ([] : List Keyword).isEmpty then 0 else 1) < 30)) = true)
    (hline : (apos.endLine == cpos.line) = true) (hs : starEach [e] X.env = (false, eval e X.env) :: starEach [] X.env) (hplain : (backTo cpos (starEach [] X.env)).any (·.1) = false) (hsw : swapsWith (.Call (.Attribute (.Subscript (.Name x p) pe p2) "append" apos) [e] [] cpos) none pos.line X.env = pure false) :
    PS X (.Expr (.Call (.Attribute (.Subscript (.Name x p) pe p2) "append" apos) [e] [] cpos) pos) (tS C W P (.appP i p' e')) := by
  refine psmono (ps_expr (pe_bm PySem.F.plainAttrs_list PySem.F.slot_list_append PySem.F.type_list_append mt_append (pe_ix ix_list (pe_var hN hv hd hcd) hp hpl) ha hbase hfew hline hs hplain) hsw) fun D σ H ⟨ρ, SV, hv', nd, h⟩ => ?_
  have h : sK C W P σ SV H D (if isL ρ i = true then (ev p' ρ).bind fun k ρ => (match k with
    | .int k => if isP ρ i k = true then (ev e' ρ).bind fun d ρ => (onP (appF d) i k ρ).bind fun _ ρ => .ok .nx ρ else .bad
    | _ => .bad) else .bad) := h
  by_cases hl : isL ρ i = true
  case neg => rw [if_neg hl] at h; exact h.elim
  rw [if_pos hl] at h
  obtain ⟨xs0, h0⟩ := isL_some hl
  obtain ⟨a, vs0, S0, R0, hσ, _, _, _⟩ := lst_at hv' h0
  refine ⟨.ref a, hσ, ρ, SV, hv', nd, sK_bind h fun kd ρ1 u H1 SV1 e1 ⟨⟨S1, r1⟩, q1⟩ h1 => ?_⟩
  obtain ⟨rfl, rfl, x1⟩ := q1 hqp
  cases kd with
  | int k =>
    have := r1.rep.1
    subst this
    have h1 : sK C W P σ SV1 H D (if isP ρ1 i k = true then (ev e' ρ1).bind fun d ρ => (onP (appF d) i k ρ).bind fun _ ρ => .ok .nx ρ else .bad) := h1
    by_cases hP : isP ρ1 i k = true
    case neg => rw [if_neg hP] at h1; exact h1.elim
    rw [if_pos hP] at h1
    obtain ⟨xs, n, ys, g1, g2, g3⟩ := isP_some hP
    have e3 : evs (.cons e' .nil) ρ1 = (ev e' ρ1).bind fun d ρ => .ok [d] ρ := rfl
    obtain ⟨a1, vs1, S', R, hσ1, hH1, rs, f⟩ := lst_at e1.vars g1
    rw [hσ] at hσ1
    cases hσ1
    obtain ⟨v, T, R1, k1, k2, _, _⟩ := Reps.split rs g3
    obtain ⟨b, ws, T0, rfl, hb, rb, rfl⟩ := k2
    refine inner_ix (xs := xs) hK hH1 rs.length.symm g2 k1 ⟨.inl ⟨rfl, ws, .inl (.inl hb)⟩, ρ1, SV1, e1.vars, e1.nd, ?_⟩
    have h2 : sK C W P σ SV1 H D ((evs (.cons e' .nil) ρ1).bind fun ds ρ => match ds with
      | [d] => (onP (appF d) i k ρ).bind fun _ ρ => .ok .nx ρ
      | _ => .bad) := by
      rw [e3]
      cases hev : ev e' ρ1 <;> rw [hev] at h1 <;> exact h1
    refine sK_bind2 e1 h2 fun ds ρ2 us H2 SV2 e2 ⟨⟨S2, r2⟩, q2⟩ h3 => ?_
    obtain ⟨rfl, rfl, x2⟩ := q2 (show (quiet e' && true) = true by rw [hqe]; rfl)
    cases r2.rep with
    | @cons _ _ d ds v vs T T' rd t =>
      cases t
      have h3 : sK C W P σ SV2 H D ((onP (appF d) i k ρ2).bind fun _ ρ => .ok .nx ρ) := h3
      cases hon : onP (appF d) i k ρ2 with
      | bad => rw [hon] at h3; exact h3.elim
      | exc x ρ' => exact (onP_exc hon).elim
      | ok d' ρ' =>
        rw [hon] at h3
        obtain ⟨xs', n', ys', zs, o1, o2, o3, o4, o5, o6, rfl⟩ := onP_some hon
        rw [g1] at o1
        cases o1
        rw [g2] at o2
        cases o2
        rw [g3] at o3
        cases o3
        have e12 := e1.trans e2
        obtain ⟨a2, vs2, b2, ws2, w1, w2, w3, w4, w5, w6, w7⟩ := inner_write e12 g1 g3 o4
        rw [hσ] at w1
        cases w1
        have hvs : vs2 = vs1 := by
          have := x2 _ _ hH1 List.not_mem_nil
          rw [w2] at this
          cases this
          rfl
        subst hvs
        rw [k1] at w4
        cases w4
        unfold appF at o5
        split at o5
        · rename_i hlt
          cases o5
          rw [List.all_append, Bool.and_eq_true] at o6
          have fd : frzD d = true := (Bool.and_eq_true_iff.mp (show (frzD d && true) = true from o6.2)).1
          have rd0 : Rep C.K H2 d v [] := by
            have rT := rd.frz fd
            rw [rT] at rd
            exact rd
          have lw := w6.length
          have hlm := lim_eq
          have kU : ∀ ws', Kp [] H2 (upd H2 b (.lst ws')) := fun ws' => kp_upd w5 (show Mb (.lst ws2) from True.intro) List.not_mem_nil
          obtain ⟨SV4, e4⟩ := w7 (ys ++ [d]) (ws2 ++ [v]) ((w6.app (Reps.cons (S1 := []) (S2 := []) rd0 Reps.nil)).kp _ (kU (ws2 ++ [v])))
          exact ⟨b, ws2, v, rfl, rfl, w5, by omega, h3 σ _ SV4 e4 .refl⟩
        · cases o5
  | _ => exact h1.elim
/-! ### a < b < c -/
theorem se_cmp2 {a b c : Expr} {a' b' c' : E} {o1 o2 : CmpOp} {p1 p2 : O2} (hK : X.K = C.K) (h1 : OpR X (compareOp o1) (rD X.K p1.sem)) (h2 : OpR X (compareOp o2) (rD X.K p2.sem)) (b1 : ∀ d e z, p1.sem d e = some z → ∃ b, z = .bl b) (b2 : ∀ d e z, p2.sem d e = some z → ∃ b, z = .bl b) (ha : PE X a (tD C W a')) (hb : PE X b (tD C W b')) (hc : PE X c (tD C W c')) (qa : quiet b' = true) (qb : quiet c' = true) (hm : lastMarks [o1, o2] [b, c] = false) :
    PE X (.Compare a [o1, o2] [b, c] pos) (tD C W (.cmp2 p1 p2 a' b' c')) := by
  refine pemono (pe_chain h1 h2 ha hb hc hm) fun σ H Q ⟨ρ, SV, hv, nd, h⟩ => ?_
  have h : tK C W σ SV H (RD C.K SV H ρ true (quiet a' && (quiet b' && quiet c'))) ((ev a' ρ).bind fun x ρ => (ev b' ρ).bind fun y ρ => (match p1.sem x y with
    | some (.bl true) => (ev c' ρ).bind fun z ρ => (match p2.sem y z with
      | some (.bl r) => .ok (.bl r) ρ
      | _ => .bad)
    | some (.bl false) => .ok (.bl false) ρ
    | _ => .bad)) Q := h
  refine ⟨ρ, SV, hv, nd, tK_bind h fun d ρ1 v H1 SV1 e1 ⟨⟨S1, r1⟩, q1⟩ g1 => ⟨ρ1, SV1, e1.vars, e1.nd, tK_bind g1 fun e ρ2 u H2 SV2 e2 ⟨⟨S2, r2⟩, q2⟩ g2 => ?_⟩⟩
  obtain ⟨rfl, rfl, x2⟩ := q2 qa
  have rep1 : Rep C.K H2 d v S1 := r1.rep.kp d (x2.all _)
  have e12 := e1.trans e2
  cases hz : p1.sem d e with
  | none => rw [hz] at g2; exact g2.elim
  | some z =>
    obtain ⟨t, rfl⟩ := b1 d e z hz
    refine ⟨d, e, .bl t, S1, S2, by rw [hK]; exact rep1, by rw [hK]; exact r2.rep, hz, fun w H3 S3 x3 rw3 nd3 new3 => ?_⟩
    obtain ⟨rfl, rfl⟩ := rw3
    refine ⟨t, rfl, ?_⟩
    have e3 : EnvP C.K SV2 H2 σ ρ2 H3 SV2 := e2.ext0 x3 |> fun _ => (EnvP.refl e2.vars e2.nd).ext0 x3
    rw [hz] at g2
    cases t with
    | true =>
      rw [if_pos rfl]
      refine ⟨ρ2, SV2, e3.vars, e3.nd, ?_⟩
      refine tK_bind2 e3 (show tK C W σ SV2 H2 _ ((ev c' ρ2).bind fun z ρ => (match p2.sem e z with
        | some (.bl r) => Out.ok (D.bl r) ρ
        | _ => .bad)) Q from g2) fun f ρ3 w3 H4 SV4 e4 ⟨⟨S4, r4⟩, q4⟩ g4 => ?_
      obtain ⟨rfl, rfl, x4⟩ := q4 qb
      cases hz2 : p2.sem e f with
      | none => rw [hz2] at g4; exact g4.elim
      | some z2 =>
        obtain ⟨t2, rfl⟩ := b2 e f z2 hz2
        rw [hz2] at g4
        refine ⟨e, f, .bl t2, S2, S4, by rw [hK]; exact (r2.rep.kp e (x3.all _)).kp e (x4.all _), by rw [hK]; exact r4.rep, hz2, fun w5 H5 S5 x5 rw5 nd5 new5 => ?_⟩
        obtain ⟨rfl, rfl⟩ := rw5
        have e5 : EnvP C.K SV4 H2 σ ρ3 H5 SV4 := (e3.trans e4).trans ((EnvP.refl e4.vars e4.nd).ext0 x5)
        have eT := e12.trans e5
        refine g4 _ H5 SV4 e5 ⟨e2.trans e5, eT, ⟨[], ⟨rfl, rfl⟩, (fun _ a ha => absurd ha List.not_mem_nil), (fun _ => e5.nd)⟩, fun q => ?_⟩
        rw [Bool.and_eq_true] at q
        exact ((((q1 q.1).trans ⟨rfl, rfl, x2⟩).ext x3).ext x4).ext x5
    | false =>
      rw [if_neg Bool.false_ne_true]
      refine g2 _ H3 SV2 e3 ⟨e2.trans e3, e12.trans e3, ⟨[], ⟨rfl, rfl⟩, (fun _ a ha => absurd ha List.not_mem_nil), (fun _ => e3.nd)⟩, fun q => ?_⟩
      rw [Bool.and_eq_true] at q
      exact ((q1 q.1).trans ⟨rfl, rfl, x2⟩).ext x3
/-! ### calls by keywords in any order -/
def permV (perm : List Nat) (vs : List V) : List V := perm.map fun n => vs.getD n .non
def permU (perm : List Nat) (us : List Value) : List Value := perm.map fun n => us.getD n .none
/-- ks: the names as they are written; perm: where each parameter stands among them -/
def KBP (K : PySem.W.Frag) (fd : FuncData) (ps ks : List Str) (perm : List Nat) : Prop := perm.length = ps.length ∧ (∀ n ∈ perm, n < ks.length) ∧ ∀ (s : Shared) (ws : List Value), K.In s.heap → ws.length = ks.length → BindsTo s fd ⟨[], ks.zip ws⟩ (ps.zip (permU perm ws))
theorem vals_perm {vs : List V} {us : List Value} (h : Vals vs us) : ∀ {perm : List Nat}, (∀ n ∈ perm, n < vs.length) → Vals (permV perm vs) (permU perm us)
  | [], _ => .nil
  | n :: perm, hn => by
    have hl := h.length
    have h1 : n < vs.length := hn n List.mem_cons_self
    have h2 : n < us.length := by omega
    have hr : ∀ {vs : List V} {us : List Value}, Vals vs us → ∀ (j : Nat) (h1 : j < vs.length) (h2 : j < us.length), RelV vs[j] us[j] := by
      intro vs us h
      induction h with
      | nil => intro j h1; simp at h1
      | cons r t ih =>
        intro j h1 h2
        cases j with
        | zero => exact r
        | succ j => exact ih j (by simpa using h1) (by simpa using h2)
    refine .cons ?_ (vals_perm h fun m hm => hn m (List.mem_cons_of_mem _ hm))
    show RelV (vs.getD n .non) (us.getD n .none)
    rw [List.getD_eq_getElem?_getD, List.getD_eq_getElem?_getD, List.getElem?_eq_getElem h1, List.getElem?_eq_getElem h2]
    exact hr h n h1 h2
theorem pe_callKP {k : Nat} {f : Addr} {fd : FuncData} {ps ks : List Str} {perm : List Nat} {sp : Sp} {x : Str} {p : Pos} {kws : List Keyword} {tk : TA} (F : FnOk X.prog X.w X.K X.mg X.base (L2.CX X.prog X.w) k f fd ps sp) (hr : Room k X.A) (hg : Gl X x) (hm : X.mg x = some (.ref f)) (hk : PySem.W.keepIn X.K (.ref f) = true)
    (hb : KBP X.K fd ps ks perm) (tks : Takes X W) (hkw : PK X kws tk) (hall : (backToKw pos (keywordEach kws X.env)).all (·.1.isSome) = true) (hks : (backToKw pos (keywordEach kws X.env)).filterMap (·.1) = ks)
    (hdb : (x == ("__debug__" : Str)) = false) (hpl : ((backTo pos (starEach [] X.env)).any (·.1) || (backToKw pos (keywordEach kws X.env)).any (·.1.isNone)) = false) :
    PE X (.Call (.Name x p) [] kws pos) (fun σ H Q => tk σ H fun zs H2 => zs.length = ks.length ∧ sp (permV perm zs) H2 Q (WE W σ)) := by
  refine ⟨fun pins s σ H Q I h => ?_⟩
  refine wpAny_Call_Name_kw (ld_glob I hg hm ?_ hdb)
  refine PySem.W.callWith_KW0 (h₀ := X.base) I.ok.mod.kin hk hall ?_ hpl
  refine thn (hkw.run pos pins s σ H _ I h) fun ws s2 ⟨zs, H2, I2, rz, hzl, q2⟩ => ⟨I2.kIn, ?_⟩
  rw [hks]
  have hl : ws.length = ks.length := by rw [← rz.length]; exact hzl
  refine wpAny_call (codeAny_mono (F.run X.A X.stack s2 H2 ⟨[], ks.zip ws⟩ (permU perm ws) (permV perm zs) Q (WE W σ) hr I2.env0 (hb.2.2 s2 ws I2.kIn hl) (vals_perm rz fun n hn => by rw [hzl]; exact hb.2.1 n hn) q2) fun r s' hq => ?_)
  cases r with
  | error e => exact passAt tks σ pins H2 s2 e s' I2 hq
  | ok fl =>
    cases fl with
    | ret u => exact I2.after hq
    | next => exact False.elim hq
    | brk => exact False.elim hq
    | cont => exact False.elim hq
theorem af_perm {K : PySem.W.Frag} {H : Hp} {ds : List D} {vs : List V} (r : Reps K H ds vs []) : ∀ {perm : List Nat} {io : List Bool}, io.length = perm.length → io.all (!·) = true → (∀ n ∈ perm, n < ds.length) → AF K H io (permD perm ds) (permV perm vs) []
  | [], [], _, _, _ => rfl
  | n :: perm, b :: io, hl, hio, hn => by
    have h1 : n < ds.length := hn n List.mem_cons_self
    obtain ⟨hb, hio⟩ := Bool.and_eq_true_iff.mp (show (!b && io.all (!·)) = true from hio)
    obtain ⟨v, hv, rv⟩ := r.get0 (List.getElem?_eq_getElem h1)
    refine ⟨[], [], ?_, fun _ => rfl, af_perm r (by simpa using hl) hio fun m hm => hn m (List.mem_cons_of_mem _ hm), rfl⟩
    show Rep K H (ds.getD n .non) (vs.getD n .non) []
    rw [List.getD_eq_getElem?_getD, List.getD_eq_getElem?_getD, List.getElem?_eq_getElem h1, hv]
    exact rv
  | [], _ :: _, hl, _, _ => by simp at hl
  | _ :: _, [], hl, _, _ => by simp at hl
theorem of_no {K : PySem.W.Frag} {H : Hp} : ∀ {io : List Bool} {os : List D} {vs : List V} {U : List Addr}, io.all (!·) = true → OF K H io os vs U → os = [] ∧ U = []
  | [], [], [], _, _, h => ⟨rfl, h⟩
  | false :: io, os, _ :: vs, _, hio, h => of_no (io := io) (by simpa using hio) h
  | true :: _, _, _, _, hio, _ => by simp at hio
  | [], _ :: _, _, _, _, h => h.elim
  | [], [], _ :: _, _, _, h => h.elim
  | false :: _, _, [], _, _, h => by cases ‹List D› <;> exact h.elim
theorem of_nil {K : PySem.W.Frag} {H : Hp} : ∀ {io : List Bool} {vs : List V}, io.all (!·) = true → io.length = vs.length → OF K H io [] vs []
  | [], [], _, _ => rfl
  | false :: io, _ :: vs, hio, hl => of_nil (io := io) (by simpa using hio) (by simpa using hl)
  | true :: _, _, hio, _ => by simp at hio
  | [], _ :: _, _, hl => by simp at hl
  | false :: _, [], _, hl => by simp at hl
/-- a def that may be called by keywords, in an order -/
def FnGP (C : Cfg) (X : Cx) (k : Nat) (x : Str) (io : List Bool) (ks : List Str) (perm : List Nat) (sem : FSem) : Prop :=
  ∃ (f : Addr) (fd : FuncData) (ps : List Str), X.mg x = some (.ref f) ∧ FnOk X.prog X.w X.K X.mg X.base (L2.CX X.prog X.w) k f fd ps (spD C io sem) ∧ PySem.W.keepIn X.K (.ref f) = true ∧ KBP X.K fd ps ks perm
theorem se_callP {io : List Bool} {j k : Nat} {x : Str} {p : Pos} {kws : List Keyword} {ks : List Str} {perm : List Nat} {es' : Es} (tk : Takes X W) (G : FnGP C X k x io ks perm (Fns.F j)) (hr : Room k X.A) (hg : Gl X x) (hio : io.all (!·) = true) (hil : io.length = perm.length) (hpl' : plainEs es' = true) (hln : ∀ ρ ds ρ', evs es' ρ = .ok ds ρ' → ds.length = ks.length) (ha : PK X kws (tA C W es')) (hdb : (x == ("__debug__" : Str)) = false)
    (hall : (backToKw pos (keywordEach kws X.env)).all (·.1.isSome) = true) (hks : (backToKw pos (keywordEach kws X.env)).filterMap (·.1) = ks) (hpl : ((backTo pos (starEach [] X.env)).any (·.1) || (backToKw pos (keywordEach kws X.env)).any (·.1.isNone)) = false) : PE X (.Call (.Name x p) [] kws pos) (tD C W (.callK j perm es')) := by
  obtain ⟨f, fd, ps, hm, F, hk, hb⟩ := G
  refine pemono (pe_callKP F hr hg hm hk hb tk ha hall hks hdb hpl) fun σ H Q h => ?_
  obtain ⟨ρ, SV, hv, nd, h⟩ := h
  have h : tK C W σ SV H (RD C.K SV H ρ true (quiets es')) ((evs es' ρ).bind fun ds ρ => if ds.all frzD = true then (match Fns.F j (permD perm ds) with
    | .ret d [] => .ok d ρ
    | .exc x [] => .exc x ρ
    | _ => .bad) else .bad) Q := h
  refine ⟨ρ, SV, hv, nd, tK_bindE h fun ds ρ1 vs H1 SV1 hev e1 ⟨⟨S, r1⟩, q1⟩ h1 => ?_⟩
  have hlen := hln _ _ _ hev
  by_cases hf : ds.all frzD = true
  case neg => rw [if_neg hf] at h1; exact h1.elim
  rw [if_pos hf] at h1
  have rs := (r1.rep.reps hpl').all_frz hf
  have lv := rs.length
  have hpn : ∀ n ∈ perm, n < ds.length := fun n hn => by rw [hlen]; exact hb.2.1 n hn
  refine ⟨by rw [← lv, hlen], permD perm ds, [], af_perm rs hil hio hpn, .nil, ?_⟩
  cases hs : Fns.F j (permD perm ds) with
  | bad => rw [hs] at h1; exact h1.elim
  | exc x outs =>
    rw [hs] at h1
    intro cls dd H' U xt hO nd' src er
    obtain ⟨rfl, rfl⟩ := of_no hio hO
    exact h1 cls dd H' SV1 (e1.trans ((EnvP.refl e1.vars e1.nd).ext0 xt)) er
  | ret d outs =>
    rw [hs] at h1
    intro v H' T' U xt rep hO nd' src
    obtain ⟨rfl, rfl⟩ := of_no hio hO
    rw [List.append_nil] at nd' src
    have en := e1.ext0 xt
    have fr : ∀ a ∈ T', H1 a = none := fun a ha => by
      rcases src a ha with z | z
      · exact absurd z List.not_mem_nil
      · exact z
    obtain ⟨f1, f2⟩ := fresh_sep e1 nd' fr
    exact h1 v H' SV1 (e1.trans en) ⟨⟨T', rep, (fun _ => f1), (fun _ => f2)⟩, fun q => (q1 q).ext xt⟩
end
end Ly

namespace Ly
open PySem PySem.Spec L2 PyProof.Rows
variable [Fns]
section
theorem padj_back (n : Nat) : Builtin.Slice.sliceAdjust none none (-1) (n : Int) = ((n : Int) - 1, -1) := rfl
theorem pplaces_back (n : Nat) : Builtin.Slice.slicePlaces ((n : Int) - 1) (-1) (-1) = n := by
  unfold Builtin.Slice.slicePlaces
  have h1 : ¬ ((-1 : Int) > 0) := by decide
  have h2 : (-(-1) : Int) = 1 := by decide
  simp only [h1, if_false, h2, Int.ediv_one]
  split <;> omega
theorem ppick_back (xs : Array Value) : ((List.range xs.size).filterMap fun (m : Nat) => xs[(((xs.size : Int) - 1) + (m : Int) * (-1)).toNat]?).toArray = xs.toList.reverse.toArray := by
  have e : (List.range xs.size).filterMap (fun (m : Nat) => xs[(((xs.size : Int) - 1) + (m : Int) * (-1)).toNat]?) = ((List.range xs.size).map fun k => xs.size - 1 - k).filterMap (xs[·]?) := by
    rw [List.filterMap_map]
    congr 1
    funext m
    have : (((xs.size : Int) - 1) + (m : Int) * (-1)).toNat = xs.size - 1 - m := by omega
    rw [this]
    rfl
  rw [e, PySem.W.krv_range, List.filterMap_reverse, PySem.W.krv_all]
theorem sliceApplied_back {prog : Program} {w : World} {A : Around} {E : Value → Shared → Prop} {s : Shared} {sl : Addr} {vl vu vs : Value} {n : Nat} {Q : Int × Int × Nat → Shared → Prop} (hs : s.heap.IsSliceOf sl vl vu vs) (pl : IsPart vl none) (pu : IsPart vu none) (ps : IsPart vs (some (-1)))
    (h : Q ((n : Int) - 1, -1, n) s) : wpAny (model prog w) A (Builtin.Slice.sliceApplied (.ref sl) (pure (n : Int))) Q E s := by
  obtain ⟨os, hos, hcs, hds⟩ := id hs
  unfold Builtin.Slice.sliceApplied Builtin.Slice.sliceFields
  refine wpAny_bind (wpAny_bind (wpAny_field hos hds (x := vl) rfl (wpAny_bind (wpAny_field hos hds (x := vu) rfl (wpAny_bind (wpAny_field hos hds (x := vs) rfl (wpAny_pure ?_)))))))
  refine wpAny_bind (HT.slicePart_ ps ?_)
  show wpAny _ _ (if ((-1 : Int) == 0) = true then _ else _) _ _ s
  rw [if_neg (by decide)]
  refine wpAny_bind (HT.slicePart_ pl (wpAny_bind (HT.slicePart_ pu (wpAny_bind (wpAny_pure ?_)))))
  show wpAny _ _ (match Builtin.Slice.sliceAdjust none none (-1) (n : Int) with | (lo, hi) => pure (lo, (-1 : Int), Builtin.Slice.slicePlaces lo hi (-1))) _ _ s
  rw [padj_back n]
  show wpAny _ _ (pure ((n : Int) - 1, (-1 : Int), Builtin.Slice.slicePlaces ((n : Int) - 1) (-1) (-1))) _ _ s
  rw [pplaces_back]
  exact wpAny_pure h
theorem getItem_tuple_back {prog : Program} {w : World} {A : Around} {E : Value → Shared → Prop} {s : Shared} {t sl : Addr} {items : Array Value} {vl vu vs : Value} {Q : Value → Shared → Prop} (ht : IsTup s.heap t items) (hs : s.heap.IsSliceOf sl vl vu vs) (pl : IsPart vl none) (pu : IsPart vu none) (ps : IsPart vs (some (-1)))
    (h : Q (.ref s.heap.objs.size) { s with heap := s.heap.push { cls := .type "tuple", data := .seq items.toList.reverse.toArray } })
    (hsz : items.size ≤ sizeLine) : wpAny (model prog w) A (getItem (.ref t) (.ref sl)) Q E s := by
  have htake : sizeOk (.seq items.toList.reverse.toArray) := by
    show items.toList.reverse.toArray.size ≤ sizeLine
    rw [List.size_toArray, List.length_reverse, Array.length_toList]
    omega
  obtain ⟨os, hos, hcs, hds⟩ := id hs
  have hTs : s.TypeIs (.ref sl) "slice" := ⟨os, hos, hcs⟩
  unfold getItem
  try with_reducible refine wpAny_holding ?_
  first | refine wpAny_bind (wpAny_pure ?_) | skip
  refine wpAny_bind (wpAny_sequenceKey ht.typeIs (by decide) ?_)
  refine wpAny_bind (wpAny_callSpecial?_slot (name := Str.ofString "__getitem__") ht.typeIs PyProof.Rows.slot_tuple_getitem
    (wpAny_call_entry PyProof.Rows.slot_tuple_getitem ht.typeIs PyProof.Rows.entry_tuple_getitem ?_ (PyProof.Rows.args_tuple_getitem _ _)))
  show wpAny _ _ (Builtin.Tuple.tupleItemsOf (.ref t) >>= _) _ _ s
  refine wpAny_bind (PyProof.Rows.tupleItemsOf_ ht ?_)
  refine wpAny_bind (wpAny_typeOf hTs ?_)
  rw [if_pos (by decide)]
  refine wpAny_bind (sliceApplied_back hs pl pu ps ?_)
  have hno : ¬ ((((items.size : Int) - 1) == 0 && (-1 : Int) == 1 && items.size == items.size) = true) := by
    intro q
    rw [Bool.and_eq_true, Bool.and_eq_true] at q
    exact absurd q.1.2 (by decide)
  show wpAny _ _ (if (((items.size : Int) - 1) == 0 && (-1 : Int) == 1 && items.size == items.size) = true then _ else _) _ _ s
  rw [if_neg hno, ppick_back]
  first
    | exact wpAny_bind (m := Builtin.Tuple.tupleExact _) (wpAny_newObj_type (wpAny_pure ⟨_, rfl, wpAny_pure h⟩) htake)
    | exact wpAny_bind (m := Builtin.Tuple.tupleExact _) (wpAny_newObj_type (wpAny_bind (wpAny_pure (wpAny_pure ⟨_, rfl, wpAny_pure h⟩))) htake)
    | exact wpAny_bind (wpAny_bind (m := Builtin.Tuple.tupleExact _) (wpAny_newObj_type (wpAny_pure (wpAny_pure ⟨_, rfl, wpAny_pure h⟩)) htake))
    | exact wpAny_bind (wpAny_bind (m := Builtin.Tuple.tupleExact _) (wpAny_newObj_type (wpAny_pure ⟨_, rfl, wpAny_pure h⟩) htake))
end
section
variable {X : Cx} {C : Cfg} {W : WX} {pos : Pos}
def tRevT (K : PySem.W.Frag) (te : TE) : TE := fun σ H Q => te σ H fun x H1 => ∃ a xs, x = .ref a ∧ SqT K H1 a xs ∧ ∀ p, H1 p = none → Q (.ref p) (upd H1 p (.tup xs.reverse))
theorem pe_revT {e : Expr} {te : TE} {k : Nat} {p1 p2 p3 pos : Pos} (he : PE X e te) : PE X (.Subscript e (.Slice none none (some (.UnaryOp .USub (.Constant (.int 1) k p1) p2)) p3) pos) (tRevT X.K te) := by
  refine ⟨fun pins s σ H Q I h => ?_⟩
  refine PyProof.Rows.Subscript_ (thn (he.run pins s σ H _ I h) fun v s1 ⟨x, H1, I1, r1, q1⟩ => ?_)
  obtain ⟨a, xs, ex, hx, q⟩ := q1
  subst ex
  cases r1
  have hst : PO X (some (.UnaryOp .USub (.Constant (.int 1) k p1) p2)) (tPart (tUn (rU fun i => .int (-i)) (tC (.int 1)))) := po_some (pe_un un_neg pe_int)
  refine wpAny_Slice (thn (po_none.run pins s1 σ H1 (fun o H2 => o = none ∧ H2 = H1) I1 ⟨rfl, rfl⟩) fun vl s2 ⟨l, H2, I2, pl, el, e2⟩ => ?_)
  subst el e2
  refine thn (po_none.run pins s2 σ H2 (fun o H3 => o = none ∧ H3 = H2) I2 ⟨rfl, rfl⟩) fun vu s3 ⟨u, H3, I3, pu, eu, e3⟩ => ?_
  subst eu e3
  refine thn (hst.run pins s3 σ H3 (fun o H4 => o = some (-1) ∧ H4 = H3) I3 ⟨1, rfl, -1, rfl, rfl, rfl⟩) fun vs s4 ⟨o, H4, I4, ps, eo, e4⟩ => ?_
  subst eo e4
  have I5 : Inv X pins σ H4 { s4 with heap := s4.heap.push { cls := .type "slice", data := .fields #[vl, vu, vs] } } := I4.kept (t' := s4.toks) fun b ob q => Heap.get?_push_of_some _ q
  obtain ⟨its, r, ht, hz⟩ := I5.tuple hx
  have hlen := r.length
  show wpAny (model X.prog X.w) X.A (subscriptTail e (.Slice none none (some (.UnaryOp .USub (.Constant (.int 1) k p1) p2)) p3) (.ref a) (.ref s4.heap.objs.size)) (EP X pins σ Q) X.xe { s4 with heap := s4.heap.push { cls := .type "slice", data := .fields #[vl, vu, vs] } }
  refine tail_any (ops := [.ref a, .ref s4.heap.objs.size]) ht.typeIs (PyProof.Rows.slot_tuple_getitem.lookup) ?_ (by with_unfolding_all rfl)
  refine getItem_tuple_back ht (Heap.IsSliceOf.new _ vl vu vs) pl pu ps ?_ (by rw [List.size_toArray]; omega)
  refine ⟨.ref _, _, I5.laid (t' := s4.toks) (o := .tup xs.reverse) (fun b ob q => Heap.get?_push_of_some _ q) (Nat.le_refl _) ?_, rfl, q _ (I5.hok.fresh (Nat.le_refl _))⟩
  refine ⟨by rw [List.length_reverse]; exact hz, its.reverse, r.reverse, ?_⟩
  have := IsTup.new ({ s4.heap with objs := s4.heap.objs.push { cls := .type "slice", data := .fields #[vl, vu, vs] } } : Heap) its.reverse.toArray
  exact this
theorem Reps.rev0 {K : PySem.W.Frag} {H : Hp} {ds : List D} {vs : List V} (r : Reps K H ds vs []) : Reps K H ds.reverse vs.reverse [] := by
  induction ds generalizing vs with
  | nil => cases vs with
    | nil => exact r
    | cons _ _ => exact absurd r.length (by simp)
  | cons d ds ih =>
    obtain ⟨v, vs', S1, S2, rfl, rd, rn, e⟩ := r
    have e' : S1 ++ S2 = [] := e.symm
    obtain ⟨rfl, rfl⟩ := List.append_eq_nil_iff.mp e'
    rw [List.reverse_cons, List.reverse_cons]
    exact Reps.app (S := []) (T := []) (ih rn) (Reps.cons (S1 := []) (S2 := []) rd Reps.nil)
/-- x[::-1], x a tuple -/
theorem se_revT {e : Expr} {e' : E} {k : Nat} {p1 p2 p3 : Pos} (hK : X.K = C.K) (he : PE X e (tD C W e')) : PE X (.Subscript e (.Slice none none (some (.UnaryOp .USub (.Constant (.int 1) k p1) p2)) p3) pos) (tD C W (.o1 .rev e')) := by
  refine pemono (pe_revT he) fun σ H Q h => ?_
  obtain ⟨ρ, SV, hv, nd, h⟩ := tD_o1 h
  refine ⟨ρ, SV, hv, nd, ?_⟩
  cases m : ev e' ρ with
  | bad => rw [m] at h; exact h
  | exc x ρ' => rw [m] at h; exact h
  | ok d ρ1 =>
    rw [m] at h
    intro v H1 SV1 e1 r1
    obtain ⟨d, z, S, r, hz, k⟩ := h v H1 SV1 e1 r1
    cases d with
    | tup ds =>
      cases hz
      obtain ⟨_, a, vs, rfl, q, rs⟩ := r
      rw [hK]
      exact ⟨a, vs, rfl, q, fun p hp => kTup (K := C.K) k rs.rev0 p hp⟩
    | _ => cases hz
/-- x[b], x read behind b -/
theorem se_ixL {i : Nat} {b : Expr} {b' : E} {x : Str} {p : Pos} (hK : X.K = C.K) (hu : X.A.units + 1 < cLine) (hN : X.N[i]? = some x) (hv : Vis X.env.scope x) (hd : (x == ("__debug__" : Str)) = false) (hcd : (x == ("__classdict__" : Str)) = false) (hb : PE X b (tD C W b')) (hp : PlainIx b) : PE X (.Subscript (.Name x p) b pos) (tD C W (.ixL i b')) := by
  refine pemono (pe_ix (by rw [← hK]; exact ix_any hu : IxR X (rIdxD C.K)) (pe_var hN hv hd hcd) hb hp) fun σ H Q h => ?_
  obtain ⟨ρ, SV, hv', nd, h⟩ := h
  have h : tK C W σ SV H (RD C.K SV H ρ false (quiet b')) (if (getV ρ i).isSome = true then (ev b' ρ).bind fun y ρ => liftO ((getV ρ i).bind fun d => idxS d y) ρ else .bad) Q := h
  by_cases hs : (getV ρ i).isSome = true
  case neg => rw [if_neg hs] at h; exact h.elim
  rw [if_pos hs] at h
  obtain ⟨d0, hd0⟩ := Option.isSome_iff_exists.mp hs
  obtain ⟨v, S0, R0, e1, _, _⟩ := var_at hv' hd0
  refine ⟨v, e1, ρ, SV, hv', nd, tK_bind h fun e ρ2 u H2 SV2 e2 r2 h2 => ?_⟩
  obtain ⟨z, hz, h2⟩ := tK_lift h2
  cases hg : getV ρ2 i with
  | none => rw [hg] at hz; cases hz
  | some d =>
    rw [hg] at hz
    obtain ⟨v', S, R, e1', rep1, _⟩ := var_at e2.vars hg
    rw [e1] at e1'
    cases e1'
    obtain ⟨⟨T, r2⟩, q2⟩ := r2
    refine ⟨d, e, z, S, T, rep1, r2.rep, hz, fun w S' rep => ?_⟩
    have en : EnvP C.K SV2 H2 σ ρ2 H2 SV2 := .refl e2.vars e2.nd
    exact h2 w H2 SV2 en ⟨e2.trans en, ⟨S', rep, (fun z => nomatch z), (fun z => nomatch z)⟩, fun q => q2 q⟩
/-! ### reversed -/
theorem walk_revL {K : PySem.W.Frag} {a : Addr} {xs : List V} : L2.Walk (Itv K a xs.length) xs.length (fun H => SqL K H a xs) (YAt xs.reverse) := by
  refine ⟨fun i H hi q => ⟨hi, xs, xs[xs.length - 1 - i], q, by simp <;> omega⟩, fun H _ => Nat.le_refl _, fun i H x H' hi q y => ⟨y.1, ?_⟩⟩
  rw [List.getElem?_reverse hi]
  exact y.2 xs q
theorem walk_revT {K : PySem.W.Frag} {a : Addr} {xs : List V} : L2.Walk (RT.ItvT K a xs.length) xs.length (fun H => SqT K H a xs) (YAt xs.reverse) := by
  refine ⟨fun i H hi q => ⟨hi, xs, xs[xs.length - 1 - i], q, by simp <;> omega⟩, fun H _ => Nat.le_refl _, fun i H x H' hi q y => ⟨y.1, ?_⟩⟩
  rw [List.getElem?_reverse hi]
  exact y.2 xs q
theorem wk_back {K : PySem.W.Frag} {J : L2.It} {H0 : Hp} {ds : List D} {vs : List V} {G : Hp → Prop} (w : L2.Walk J vs.length G (YAt vs.reverse)) (g : ∀ H, Kp [] H0 H → G H) (r : Reps K H0 ds vs []) : Wk K J H0 ds.reverse := by
  have w' : L2.Walk J vs.reverse.length G (YAt vs.reverse) := by rw [List.length_reverse]; exact w
  exact wk_of w' g r.rev0
theorem pi_revd {tg e : Expr} {e' : E} {p : Pos} (hK : X.K = C.K) (hg : Gl X "reversed") (hm : X.mg "reversed" = none) (he : PE X e (tD C W e')) (hs : starEach [e] X.env = (false, eval e X.env) :: starEach [] X.env) :
    PI X tg (.Call (.Name "reversed" p) [e] [] pos) (tI C W (.revd e')) := by
  refine ⟨fun pins s σ H R I h => (RT.pi_revA hg hm he hs).run pins s σ H R I ?_⟩
  obtain ⟨ρ, SV, hv, nd, h⟩ := h
  have h : tK C W σ SV H (fun ds _ _ H' (J : L2.It) => Wk C.K J H' ds) ((ev e' ρ).bind fun d ρ => liftO (revOf d) ρ) R := h
  refine ⟨ρ, SV, hv, nd, ?_⟩
  cases hev : ev e' ρ with
  | bad => rw [hev] at h; exact h.elim
  | exc x ρ1 => rw [hev] at h; exact h
  | ok d ρ1 =>
    rw [hev] at h
    obtain ⟨ds, hds, h⟩ := tK_lift (show tK C W σ SV H (fun ds _ _ H' (J : L2.It) => Wk C.K J H' ds) (liftO (revOf d) ρ1) R from h)
    rintro v H1 SV1 e1 ⟨⟨S, r⟩, _⟩
    rw [hK]
    cases d with
    | tup xs =>
      cases hds
      obtain ⟨_, a, vs, rfl, q, r⟩ := r.rep
      exact ⟨a, vs, rfl, .inr ⟨q, h _ H1 SV1 e1 (wk_back walk_revT (fun H k => SqT.kp q k) r)⟩⟩
    | lst o xs =>
      cases o with
      | true => cases hds
      | false =>
        cases hds
        obtain ⟨_, a, vs, rfl, q, r⟩ := r.rep
        exact ⟨a, vs, rfl, .inl ⟨q.sq, h _ H1 SV1 e1 (wk_back walk_revL (fun H k => (q.kp k).sq) r)⟩⟩
    | scr ns =>
      cases hds
      obtain ⟨_, a, rfl, q⟩ := r.rep
      exact ⟨a, _, rfl, .inl ⟨q.sq, h _ H1 SV1 e1 (wk_back walk_revL (fun H k => (q.kp k).sq) (reps_ints ns))⟩⟩
    | _ => cases hds
end
end Ly

namespace Ly
open PySem PySem.Spec L2
variable [Fns]
theorem rel_zip : ∀ {vs : List V} {its : List Value} {ks : List Str}, Vals vs its → ks.length = vs.length → PySem.W.EachIs (fun (u : Value) (p : V × Str) => RelV p.1 u) its (vs.zip ks)
  | _, _, [], .nil, _ => .nil
  | _, _, _ :: _, .nil, e => by simp at e
  | _, _, [], .cons _ _, e => by simp at e
  | _, _, k :: ks, .cons h t, e => .cons h (rel_zip t (by simpa using e))
section
variable {X : Cx} {pins : List (Addr × Obj)} {σ : St} {H : Hp} {s : Shared}
theorem fp_pin {pl : List (Addr × Obj)} (I : Inv X pins σ H s) (h : ∀ p ∈ pl, s.heap.get? p.1 = some p.2 ∧ FpOk X pins H p.1 ∧ ∀ v, p.2.data ≠ .cell v) : Inv X (pins ++ pl) σ H s :=
  I.pins_of fun p hp => (List.mem_append.mp hp).elim (fun z => I.pin p (List.mem_append_right _ z)) fun z => by
    obtain ⟨a, b, c⟩ := h p z
    exact ⟨a, b.1, b.2.1, b.2.2.1, c⟩
theorem fp_re {H' : Hp} {b : Addr} (f : FpOk X pins H b) (h : H' b = none) : FpOk X pins H' b := ⟨h, f.2⟩
/-- a turn's end -/
abbrev KEnd (X : Cx) (pins : List (Addr × Obj)) (σ : St) (H1 : Hp) (k : Str) (r : Value) (s2 : Shared) : Prop := ∃ H2, Inv X pins σ H2 s2 ∧ Ext [] H1 H2 ∧ RelV (.str k) r
theorem sortK_list {a : Addr} {c0 : Nat} {vs : List V} {its : List Value} {ks : List Str} {f : Addr} {A : Around} {E : Value → Shared → Prop} {P : PySem.Fin → Shared → Prop} (I : Inv X pins σ H s) (fa : FpOk X pins H a) (ha : s.heap.get? a = some (PyProof.Rows.seqObj "list" its.toArray c0)) (rv : Vals vs its) (hlen : ks.length = vs.length) (hz : vs.length ≤ sizeLine) (hu : A.units + 8 < cLine)
    (turn : ∀ (i : Nat) v k, vs[i]? = some v → ks[i]? = some k → ∀ pins' H1 s1 u, Inv X pins' σ H1 s1 → Ext [] H H1 → RelV v u → wpAny (model X.prog X.w) A (call (.ref f) [u]) (KEnd X pins' σ H1 k) (fun _ _ => False) s1)
    (q : ∀ H' s' , Inv X pins σ (upd H' a (.lst (byKeys vs ks))) s' → Ext [] H H' → H' a = none → P (.done (.ret .none)) s') :
    wpAny (model X.prog X.w) A (PyProof.Rows.ksk_tree a (.ref f) false) P E s := by
  have hl : its.length = vs.length := rv.length.symm
  have ha0 : a < s.heap.objs.size := Heap.lt_size ha
  obtain ⟨e1, ho1⟩ : ∃ e1, (s.heap.update a (Obj.mapSeq fun _ => (#[] : Array Value))).get? a = some (PyProof.Rows.seqObj "list" #[] e1) := ⟨_, PyProof.Rows.get?_update_seq ha fun _ => #[]⟩
  have hT : ((s.heap.update a (Obj.mapSeq fun _ => (#[] : Array Value))).push (PyProof.Rows.seqObj "tuple" its.toArray 0)).objs.size = s.heap.objs.size + 1 := by
    rw [PyProof.Rows.size_push', Heap.size_update]
  unfold PyProof.Rows.ksk_tree
  refine wpAny_bind (PyProof.Rows.listItems_at ha rfl (wpAny_bind (PyProof.Rows.listUpdate_at ha rfl ?_ (by rw [List.size_toArray, hl]; exact hz) (Nat.zero_le _))))
  refine wpAny_bind (PyProof.Rows.seqEpoch_at ho1 rfl (wpAny_bind (wpAny_newTuple ?_ (by show its.length ≤ _; rw [hl]; exact hz))))
  refine wpAny_bind (wpAny_newList (wpAny_holding ?_) (Nat.zero_le _))
  obtain ⟨kS, hkS⟩ : ∃ kS, kS = ((s.heap.update a (Obj.mapSeq fun _ => (#[] : Array Value))).push (PyProof.Rows.seqObj "tuple" its.toArray 0)).objs.size := ⟨_, rfl⟩
  have hka : kS ≠ a := by rw [hkS, hT]; exact Nat.ne_of_gt (Nat.lt_succ_of_lt ha0)
  have fk : FpOk X pins H kS := I.fpOk (by rw [hkS, hT]; exact Nat.le_succ _) (I.hok.fresh (by rw [hkS, hT]; exact Nat.le_succ _))
  have s1 := Heap.SameBut.update s.heap a (Obj.mapSeq fun _ => (#[] : Array Value))
  have I1 : Inv X pins σ H { s with heap := ((s.heap.update a (Obj.mapSeq fun _ => (#[] : Array Value))).push (PyProof.Rows.seqObj "tuple" its.toArray 0)).push (PyProof.Rows.seqObj "list" #[] 0), toks := s.toks } :=
    I.turnedL (ch := [a]) (fun b o hb e => Heap.get?_push_of_some _ (Heap.get?_push_of_some _ ((s1.2 b (fun z => hb (by rw [z]; exact List.mem_singleton.mpr rfl))).trans e))) (fun b hb => by rw [List.mem_singleton.mp hb]; exact fa)
  have gk : (((s.heap.update a (Obj.mapSeq fun _ => (#[] : Array Value))).push (PyProof.Rows.seqObj "tuple" its.toArray 0)).push (PyProof.Rows.seqObj "list" #[] 0)).get? kS = some (PyProof.Rows.seqObj "list" #[] 0) := by rw [hkS]; exact Heap.get?_push_size _ rfl
  have ga : (((s.heap.update a (Obj.mapSeq fun _ => (#[] : Array Value))).push (PyProof.Rows.seqObj "tuple" its.toArray 0)).push (PyProof.Rows.seqObj "list" #[] 0)).get? a = some (PyProof.Rows.seqObj "list" #[] e1) := Heap.get?_push_of_some _ (Heap.get?_push_of_some _ ho1)
  rw [← hkS]
  clear hkS hT
  generalize ((s.heap.update a (Obj.mapSeq fun _ => (#[] : Array Value))).push (PyProof.Rows.seqObj "tuple" its.toArray 0)).push (PyProof.Rows.seqObj "list" #[] 0) = g0 at I1 gk ga
  have noc : ∀ (kA : Array Value) (e : Nat) v, (PyProof.Rows.seqObj "list" kA e).data ≠ .cell v := fun _ _ _ z => by cases z
  have pinI : ∀ {H1 : Hp} {s1 : Shared} {kA : Array Value} {e : Nat}, Inv X pins σ H1 s1 → H1 kS = none → H1 a = none → s1.heap.get? kS = some (PyProof.Rows.seqObj "list" kA e) → s1.heap.get? a = some (PyProof.Rows.seqObj "list" #[] e1) → Inv X (pins ++ [(kS, PyProof.Rows.seqObj "list" kA e), (a, PyProof.Rows.seqObj "list" #[] e1)]) σ H1 s1 := fun {H1 s1 kA e} J n1 n2 k1 k2 =>
    fp_pin J fun p hp => by
      rcases List.mem_cons.mp hp with h | h
      · subst h; exact ⟨k1, fp_re fk n1, noc _ _⟩
      · rw [List.mem_singleton.mp h]; exact ⟨k2, fp_re fa n2, noc _ _⟩
  unfold PyProof.Rows.ksk_rest
  refine wpAny_bind (wpAny_rule ?_)
  rw [List.forIn_toArray]
  refine wpAny_bind (PyProof.Rows.ksk_fold (fun i s' => ∃ H1 kA e, Inv X (pins ++ [(kS, PyProof.Rows.seqObj "list" kA e), (a, PyProof.Rows.seqObj "list" #[] e1)]) σ H1 s' ∧ Ext [] H H1 ∧ PySem.W.EachIs (fun v (k : Str) => RelV (.str k) v) kA.toList (ks.take i)) its 0 _ ⟨H, #[], 0, pinI I1 fk.1 fa.1 gk ga, .refl, by rw [List.take_zero]; exact .nil⟩ ?step ?done)
  case step =>
    rintro j u s' hx ⟨H1, kA, e, J, x1, hk⟩
    simp only [Nat.zero_add] at hk ⊢
    have hj : j < its.length := (List.getElem?_eq_some_iff.mp hx).1
    have hv : vs[j]? = some vs[j] := List.getElem?_eq_getElem (by omega)
    have hkj : ks[j]? = some ks[j] := List.getElem?_eq_getElem (by omega)
    obtain ⟨u', hu', ru⟩ := rv.get hv
    rw [hx] at hu'
    cases hu'
    have hsz : kA.size ≤ vs.length := by
      have h1 := hk.length
      rw [Array.length_toList, List.length_take] at h1
      omega
    refine wpAny_bind (wpAny_attempt (wpAny_mono (turn j _ _ hv hkj _ H1 s' u J x1 ru) (fun r s2 h => ?_) fun _ _ h => h.elim))
    obtain ⟨H2, J2, x2, hr⟩ := h
    have pk := J2.pin (kS, PyProof.Rows.seqObj "list" kA e) (List.mem_append_right _ (List.mem_append_right _ (by simp)))
    have pa := J2.pin (a, PyProof.Rows.seqObj "list" #[] e1) (List.mem_append_right _ (List.mem_append_right _ (by simp)))
    have up := Heap.SameBut.update s2.heap kS (Obj.mapSeq (·.push r))
    obtain ⟨c2, hc2⟩ : ∃ c2, (s2.heap.update kS (Obj.mapSeq (·.push r))).get? kS = some (PyProof.Rows.seqObj "list" (kA.push r) c2) := ⟨_, PyProof.Rows.get?_update_seq pk.1 (·.push r)⟩
    refine wpAny_bind (PyProof.Rows.listUpdate_at pk.1 rfl ?_ (Nat.le_trans hsz hz) (Nat.le_trans (Nat.le_of_eq (Array.size_push ..)) (Nat.succ_le_succ (Nat.le_trans hsz hz))))
    have J3 : Inv X pins σ H2 { s2 with heap := s2.heap.update kS (Obj.mapSeq (·.push r)), toks := s2.toks } :=
      J2.unpinned.turnedL (ch := [kS]) (fun b o hb e => (up.2 b (fun z => hb (by rw [z]; exact List.mem_singleton.mpr rfl))).trans e) (fun b hb => by rw [List.mem_singleton.mp hb]; exact fp_re fk pk.2.1)
    refine wpAny_pure ⟨rfl, H2, kA.push r, c2, pinI J3 pk.2.1 pa.2.1 hc2 ((up.2 a hka.symm).trans pa.1), (fun b o e h => x2 b o (x1 b o e h) h), ?_⟩
    have ek : ks.take (j + 1) = ks.take j ++ [ks[j]] := by rw [List.take_add_one, hkj]; simp
    rw [ek, show (kA.push r).toList = kA.toList ++ [r] by simp]
    exact PySem.W.each_snoc (R := fun v (k : Str) => RelV (.str k) v) hr hk
  case done =>
    rintro s' ⟨H1, kA, e, J, x1, hk⟩
    rw [Nat.zero_add, List.take_of_length_le (by omega)] at hk
    have pk := J.pin (kS, PyProof.Rows.seqObj "list" kA e) (List.mem_append_right _ (List.mem_append_right _ (by simp)))
    have pa := J.pin (a, PyProof.Rows.seqObj "list" #[] e1) (List.mem_append_right _ (List.mem_append_right _ (by simp)))
    have hsz : kA.size = its.length := by
      have h1 := hk.length
      rw [Array.length_toList] at h1
      omega
    refine wpAny_bind (PyProof.Rows.listItems_at pk.1 rfl ?_)
    obtain ⟨h1, r1, r2⟩ := L2.restrict s'.heap (fun b => decide (b ≠ kS))
    have erk : PySem.W.EachIs (fun v k => ∃ as, Reads s'.heap v k as) kA.toList (ks.map PyData.str) := PySem.W.each_map (R := fun v d => ∃ as, Reads s'.heap v d as) PyData.str (hk.mono fun v k ⟨t, e⟩ => by subst e; exact ⟨[], Reads.str _ _⟩)
    have hal : PySem.W.AllAlike (ks.map PyData.str) := PySem.W.AllAlike.of fun _ _ => rfl
    have hsk : PySem.W.Sortable (ks.map PyData.str) := PySem.W.Sortable.others (enc := PyData.str) fun b => ⟨(fun z => by cases z), (fun xs z => by cases z)⟩
    have huk : ∀ d, d ∈ ks.map PyData.str → A.units + d.depth < cLine := fun d hd => by
      obtain ⟨k, _, rfl⟩ := List.mem_map.mp hd
      show A.units + 0 < cLine
      omega
    refine PySem.W.keyH_end (κ := PySem.W.dataKind s'.heap (ks.map PyData.str)) (h₁ := h1) (fun b o hb e => ?_) (r2 kS (by simp)) pk.1 pa.1 hka (PySem.W.SortsAt.data erk hal hsk huk) hsz (by rw [hl]; exact hz) fun h2 tk c kp na => ?_
    · by_cases z : b = kS
      · rw [z, r2 kS (by simp)] at e; cases e
      · rw [r1 b (by simpa using z)] at e; exact e
    · have ko : PySem.W.KeyedOut false ((vs.zip ks).map fun p => PyData.str p.2) its (PySem.W.sortVals (PySem.W.dataKind s'.heap (ks.map PyData.str)) false kA.toList its) := by
        have e2 : ((vs.zip ks).map fun p => PyData.str p.2) = ks.map PyData.str := by
          rw [show (fun p : V × Str => PyData.str p.2) = PyData.str ∘ Prod.snd from rfl, ← List.map_map, List.map_snd_zip (by omega)]
        rw [e2]
        exact ⟨s'.heap, kA.toList, hal, rfl, erk⟩
      have rr := rel_zip rv hlen
      have ro := PySem.W.keyedOut_each (fun p : V × Str => PyData.str p.2) ko rr
      rw [PySem.W.dataLe_str] at ro
      have rV : Vals (byKeys vs ks) (PySem.W.sortVals (PySem.W.dataKind s'.heap (ks.map PyData.str)) false kA.toList its) := by
        unfold byKeys
        clear ko rr erk huk hsk hal pk pa hk turn q
        generalize ((vs.zip ks).mergeSort fun a b => decide (a.2.cps.toList ≤ b.2.cps.toList)) = l1 at ro ⊢
        generalize PySem.W.sortVals (PySem.W.dataKind s'.heap (ks.map PyData.str)) false kA.toList its = l2 at ro ⊢
        induction ro with
        | nil => exact .nil
        | cons h _ ih => exact .cons h ih
      have hbl : (byKeys vs ks).length ≤ sizeLine := by
        unfold byKeys
        rw [List.length_map, List.length_mergeSort, List.length_zip]
        omega
      refine q H1 _ ((J.unpinned.turnedL (t' := tk) (h' := h2) (ch := [a, kS]) (fun b o hb e => kp b o (fun z => hb (by simp [z])) (by rw [r1 b (by simpa using fun z => hb (by simp [z]))]; exact e)) (fun b hb => by
        rcases List.mem_cons.mp hb with h | h
        · rw [h]; exact fp_re fa pa.2.1
        · rw [List.mem_singleton.mp h]; exact fp_re fk pk.2.1)).take (t' := tk) (fun _ _ _ e => e) (fp_re fa pa.2.1) ⟨hbl, _, c, rV, na⟩) x1 pa.2.1
/-- sorted(xs, key=f) -/
theorem sortK_run {l : Addr} {vs : List V} {ks : List Str} {f : Addr} {Q : VK} (I : Inv X pins σ H s) (hs : SqL X.K H l vs) (hlen : ks.length = vs.length) (hu : X.A.units + 12 < cLine)
    (turn : ∀ (i : Nat) v k, vs[i]? = some v → ks[i]? = some k → ∀ pins' H1 s1 u, Inv X pins' σ H1 s1 → Ext [] H H1 → RelV v u → wpAny (model X.prog X.w) X.A.in1.in1 (call (.ref f) [u]) (KEnd X pins' σ H1 k) (fun _ _ => False) s1)
    (q : ∀ H' p, Ext [] H H' → H' p = none → Q (.ref p) (upd H' p (.lst (byKeys vs ks)))) :
    wpAny (model X.prog X.w) X.A (call (.builtin "sorted") [.ref l] [(Str.ofString "key", .ref f)]) (EP X pins σ Q) X.xe s := by
  obtain ⟨its, rv, hL, hz⟩ := I.list hs
  refine PySem.W.sorted_of_sort hL.isList (by rw [← rv.length]; exact hz) (PyProof.Rows.ksk_s1 _ _) (fun _ => PyProof.Rows.ksk_l1 _ _) fun E' => ?_
  rw [PyProof.Rows.ksk_t1]
  have hn : H (s.heap.objs.size + 1) = none := I.hok.fresh (Nat.le_succ _)
  have fa := I.fpOk (Nat.le_succ _) hn
  refine sortK_list (s := { s with heap := PySem.W.copyHeap s.heap its, toks := s.toks }) (I.kept (t' := s.toks) (h' := PySem.W.copyHeap s.heap its) fun b u e => PySem.W.copyHeap_old e) fa (PySem.W.copyHeap_at s.heap its) rv hlen hz (by show X.A.units + 1 + 1 + 8 < cLine; omega) turn fun H' s' J x n => ⟨rfl, .ref (s.heap.objs.size + 1), _, J, rfl, q H' _ x n⟩
end
section
variable {X : Cx} {C : Cfg} {W : WX} {pos : Pos}
def noStarE (e : Expr) : Prop := ∀ env, starEach [e] env = (false, eval e env) :: starEach [] env
theorem keyL_len {F : FSem} : ∀ {ds : List D} {ks : List Str}, keyL F ds = some ks → ks.length = ds.length ∧ ∀ (i : Nat) d k, ds[i]? = some d → ks[i]? = some k → F [d] = .ret (.str k) []
  | [], ks, h => by cases h; exact ⟨rfl, fun i d k h => by simp at h⟩
  | d :: ds, ks, h => by
    unfold keyL at h
    split at h
    · rename_i x l e1 e2
      cases h
      obtain ⟨a, b⟩ := keyL_len e2
      refine ⟨by simp [a], fun i d' k h1 h2 => ?_⟩
      cases i with
      | zero => simp at h1 h2; subst h1; subst h2; exact e1
      | succ i => exact b i d' k (by simpa using h1) (by simpa using h2)
    · cases h
theorem reps_byKeys {K : PySem.W.Frag} {H : Hp} {ds : List D} {vs : List V} {ks : List Str} (r : Reps K H ds vs []) (hl : ks.length = ds.length) : Reps K H (byKeys ds ks) (byKeys vs ks) [] := by
  have gen : ∀ (l : List ((D × V) × Str)), (∀ p ∈ l, Rep K H p.1.1 p.1.2 []) → Reps K H ((l.map fun p => (p.1.1, p.2)).map (·.1)) ((l.map fun p => (p.1.2, p.2)).map (·.1)) [] := fun l => by
    induction l with
    | nil => exact fun _ => Reps.nil
    | cons p l ih => exact fun h => Reps.cons (S1 := []) (S2 := []) (h p List.mem_cons_self) (ih fun q hq => h q (List.mem_cons_of_mem _ hq))
  have lv := r.length
  have ms : ∀ {α : Type} (g : D × V → α) (l : List ((D × V) × Str)), (l.map fun p => (g p.1, p.2)).mergeSort (fun p q => decide (p.2.cps.toList ≤ q.2.cps.toList)) = (l.mergeSort fun p q => decide (p.2.cps.toList ≤ q.2.cps.toList)).map fun p => (g p.1, p.2) := fun g l =>
    (List.map_mergeSort (f := fun p : (D × V) × Str => (g p.1, p.2)) (fun a _ b _ => rfl)).symm
  have z1 : ds.zip ks = ((ds.zip vs).zip ks).map fun p => (p.1.1, p.2) := by
    apply List.ext_getElem
    · simp; omega
    · intro i h1 h2; simp
  have z2 : vs.zip ks = ((ds.zip vs).zip ks).map fun p => (p.1.2, p.2) := by
    apply List.ext_getElem
    · simp; omega
    · intro i h1 h2; simp
  unfold byKeys
  rw [z1, z2, ms (·.1), ms (·.2)]
  refine gen _ fun p hp => ?_
  have hp := (List.mergeSort_perm _ _).mem_iff.mp hp
  have hm := (List.of_mem_zip hp).1
  obtain ⟨i, hi, e⟩ := List.mem_iff_getElem.mp hm
  rw [List.getElem_zip] at e
  have h1 : ds[i]? = some p.1.1 := by rw [← e]; exact List.getElem?_eq_getElem (by simp at hi; omega)
  have h2 : vs[i]? = some p.1.2 := by rw [← e]; exact List.getElem?_eq_getElem (by simp at hi; omega)
  obtain ⟨v, hv, rv⟩ := r.get0 h1
  rw [h2] at hv
  cases hv
  exact rv
/-- a def whose texts are asked -/
def FnKey (C : Cfg) (X : Cx) (x : Str) (sem : FSem) : Prop :=
  ∃ (k : Nat) (f : Addr) (fd : FuncData) (ps : List Str), X.mg x = some (.ref f) ∧ FnOk X.prog X.w X.K X.mg X.base (L2.CX X.prog X.w) k f fd ps (spD C [false] sem) ∧ PySem.W.keepIn X.K (.ref f) = true ∧ Binds X.K fd ps [] ∧ Room (k + 2) X.A
theorem key_call {pins : List (Addr × Obj)} {σ : St} {H : Hp} {s : Shared} {f : Addr} {fd : FuncData} {ps : List Str} {sem : FSem} {k : Nat} {d : D} {v : V} {u : Value} {x : Str} (hK : X.K = C.K) (F : FnOk X.prog X.w X.K X.mg X.base (L2.CX X.prog X.w) k f fd ps (spD C [false] sem)) (hb : Binds X.K fd ps []) (hr : Room (k + 2) X.A) (I : Inv X pins σ H s) (r : Rep C.K H d v []) (ru : RelV v u) (hs : sem [d] = .ret (.str x) []) :
    wpAny (model X.prog X.w) X.A.in1.in1 (call (.ref f) [u]) (KEnd X pins σ H x) (fun _ _ => False) s := by
  have sp : spD C [false] sem [v] H (fun v H' => v = .str x ∧ Ext [] H H') (fun _ _ _ => False) := by
    refine ⟨[d], [], ⟨[], [], r, fun _ => rfl, rfl, rfl⟩, .nil, ?_⟩
    rw [hs]
    exact fun w H' T U ex rw _ _ _ => ⟨rw.1, ex⟩
  have hl : ([u] ++ []).length = ps.length := F.len _ _ _ _ sp
  refine wpAny_call (codeAny_mono (F.run X.A.in1.in1 X.stack s H ⟨[u], []⟩ ([u] ++ []) [v] _ _ hr.in1.in1 I.env0.in1.in1 (hb s [u] I.kIn hl) (.cons ru .nil) sp) fun r s' hq => ?_)
  cases r with
  | error e =>
    obtain ⟨_, _, _, _, _, _, _, _, _, _, _, _, z⟩ := hq
    exact z.elim
  | ok fl =>
    cases fl with
    | ret w =>
      obtain ⟨v', H', I', r', e1, e2⟩ := I.after hq
      subst e1
      exact ⟨H', I', e2, r'⟩
    | next => exact False.elim hq
    | brk => exact False.elim hq
    | cont => exact False.elim hq
theorem boot_sorted' : bootBuiltins "sorted" = some (.builtin "sorted") := by decide +kernel
/-- sorted(e, key=y) -/
theorem se_srtK {j : Nat} {e : Expr} {a' : E} {y : Str} {p q kpos : Pos} (hK : X.K = C.K) (hu : X.A.units + 12 < cLine) (G : FnKey C X y (Fns.F j)) (hg : Gl X "sorted") (hm : X.mg "sorted" = none) (hgy : Gl X y) (hdy : (y == ("__debug__" : Str)) = false) (ha : PE X e (tD C W a')) (hs : noStarE e) :
    PE X (.Call (.Name "sorted" p) [e] [⟨some "key", .Name y q, kpos⟩] pos) (tD C W (.srtK j a')) := by
  obtain ⟨k, f, fd, ps, hmy, F, hkf, hb, hr⟩ := G
  have he := hs X.env
  have cr : CallRK X (.builtin "sorted") [Str.ofString "key"] (fun vs zs H Q => ∃ d z S v, vs = [v] ∧ zs = [.ref f] ∧ Rep C.K H d v S ∧ srtKS (Fns.F j) d = some z ∧ ∀ w H' S', Ext [] H H' → Rep C.K H' z w S' → S'.Nodup → (∀ a ∈ S', H a = none) → Q w H') := by
    intro pins s σ H vs zs us ws Q I r rz h
    obtain ⟨d, z, S, v, rfl, rfl, rd, hz, kq⟩ := h
    cases d with
    | lst o xs =>
      unfold srtKS at hz
      dsimp only at hz
      split at hz
      · rename_i hc
        cases hkl : keyL (Fns.F j) xs with
        | none => rw [hkl] at hz; cases hz
        | some ks =>
          rw [hkl] at hz
          cases hz
          obtain ⟨l1, l2⟩ := keyL_len hkl
          obtain ⟨a, vs, T, rfl, q, rs, _⟩ := lst_sq rd
          have := rs.frz hc.1
          subst this
          have lv := rs.length
          obtain rfl := Vals.ref1 r
          obtain ⟨w1, rfl, e1⟩ := vals1 rz
          obtain rfl : w1 = Value.ref f := e1
          refine sortK_run I (.inl q) (l1.trans lv) hu (fun i v k hv hk pins' H1 s1 u J x ru => ?_) fun H' p x n => ?_
          · have hi : i < xs.length := by have := (List.getElem?_eq_some_iff.mp hv).1; omega
            have hd : xs[i]? = some xs[i] := List.getElem?_eq_getElem hi
            obtain ⟨v', hv', r'⟩ := rs.get0 hd
            rw [hv] at hv'
            cases hv'
            exact key_call hK F hb hr J (r'.kp _ (x.all _)) ru (l2 i _ k hd hk)
          · have x2 : Ext [] H' (upd H' p (.lst (byKeys vs ks))) := Ext.new n
            refine kq _ _ [p] (fun b o e h => x2 b o (x b o e h) h) ⟨p, _, [], rfl, upd_same, (reps_byKeys rs l1).kp _ (Ext.all (fun b o e h => x2 b o (x b o e h) h) _), rfl⟩ (by simp) fun b hb => ?_
            rw [show b = p by simpa using hb]
            cases hp : H p with
            | none => rfl
            | some o => rw [x p o hp List.not_mem_nil] at n; cases n
      · cases hz
    | _ => cases hz
  refine pemono (pe_callBK cr hg hm boot_sorted' (pa_cons ha pa_nil he) (pk_cons (pe_glob (v := .ref f) hgy hmy rfl hdy) pk_nil) (by decide) (by decide) (by rw [he]; rfl) (by rw [he]; rfl) rfl rfl rfl) fun σ H Q h => ?_
  obtain ⟨ρ, SV, hv, nd, h⟩ := h
  have h : tK C W σ SV H (RD C.K SV H ρ true (quiet a')) ((ev a' ρ).bind fun x ρ => liftO (srtKS (Fns.F j) x) ρ) Q := h
  refine ⟨ρ, SV, hv, nd, tK_bind0 h fun d ρ1 v H1 SV1 e1 ⟨⟨S, r1⟩, q1⟩ h1 => ?_⟩
  obtain ⟨z, hz, h1⟩ := tK_lift h1
  refine ⟨d, z, S, v, rfl, rfl, r1.rep, hz, fun w H' S' x rep nd' new => ?_⟩
  have en := e1.ext0 x
  obtain ⟨f1, f2⟩ := fresh_sep e1 nd' new
  exact h1 w H' SV1 (e1.trans en) ⟨⟨S', rep, (fun _ => f1), (fun _ => f2)⟩, fun q => (q1 q).ext x⟩
/-- o.get(e, f) -/
theorem se_get {o e f : Expr} {a' k' d' : E} {apos cpos : Pos} (hu : X.A.units + 1 < cLine) (hqk : quiet k' = true) (hqd : quiet d' = true) (ho : PE X o (tD C W a')) (he : PE X e (tD C W k')) (hf : PE X f (tD C W d')) (m : M2 X o "get" apos e f cpos) : PE X (.Call (.Attribute o "get" apos) [e, f] [] cpos) (tD C W (.get a' k' d')) := by
  refine pemono (pe_dget2 hu ho he hf m) fun σ H Q ⟨ρ, SV, hv, nd, h⟩ => ?_
  have h : tK C W σ SV H (RD C.K SV H ρ false (quiet a' && (quiet k' && quiet d'))) ((ev a' ρ).bind fun x ρ => if recvD x = true then (ev k' ρ).bind fun y ρ => (ev d' ρ).bind fun z ρ => liftO (getS x y z) ρ else .bad) Q := h
  refine ⟨ρ, SV, hv, nd, tK_bind h fun d ρ1 v H1 SV1 e1 ⟨⟨S, r1⟩, q1⟩ h1 => ?_⟩
  by_cases hd : recvD d = true
  case neg => rw [if_neg hd] at h1; exact h1.elim
  rw [if_pos hd] at h1
  cases d with
  | dk oo ks vs =>
    have rep0 := r1.rep
    obtain ⟨a, ws, T', rfl, q, l, r, _⟩ := dk_rd' r1.rep
    refine ⟨a, rfl, .inl ⟨_, q⟩, ρ1, SV1, e1.vars, e1.nd, tK_bind h1 fun y ρ2 u H2 SV2 e2 ⟨⟨T2, r2⟩, q2⟩ h2 => ⟨ρ2, SV2, e2.vars, e2.nd, tK_bind h2 fun z ρ3 w H3 SV3 e3 ⟨⟨T3, r3⟩, q3⟩ h3 => ?_⟩⟩
    obtain ⟨zr, hr, h4⟩ := tK_lift h3
    have Q2 := q2 hqk
    have Q3 := q3 hqd
    have rep3 := (rep0.kp _ (Q2.2.2.all _)).kp _ (Q3.2.2.all _)
    obtain ⟨a2, ws2, T2', ea, q', l', r', _⟩ := dk_rd' rep3
    cases ea
    have hr : (match keyD y with | some k => some ((look k ks vs).getD z) | none => none) = some zr := hr
    cases hk : keyD y with
    | none => rw [hk] at hr; cases hr
    | some key =>
      rw [hk] at hr
      cases hr
      have eu := keyD_some hk r2.rep
      have en : EnvP C.K SV3 H3 σ ρ3 H3 SV3 := .refl e3.vars e3.nd
      have fin : ∀ (zz : D) w T, Rep C.K H3 zz w T → zz = (look key ks vs).getD z → Q w H3 := fun zz w T rw' ez => by
        subst ez
        exact h4 w H3 SV3 en ⟨e3.trans en, (e2.trans e3).trans en, ((e1.trans e2).trans e3).trans en, ⟨T, rw', (fun z => nomatch z), (fun z => nomatch z)⟩, fun q => (q1 (Bool.and_eq_true_iff.mp q).1).trans (Q2.trans Q3)⟩
      cases hl : look key ks vs with
      | some zz =>
        obtain ⟨w', T1, g1, g2⟩ := (look_val key r' l').1 zz hl
        exact ⟨some w', .inl ⟨_, key, q', eu, g1.symm⟩, fin zz w' T1 g2 (by rw [hl]; rfl)⟩
      | none => exact ⟨none, .inl ⟨_, key, q', eu, ((look_val key r' l').2 hl).symm⟩, fin z w T3 r3.rep (by rw [hl]; rfl)⟩
  | _ => cases hd
end
end Ly

namespace Ly
open PySem PySem.Spec L2
variable [Fns]
section
variable {X : Cx} {C : Cfg} {W : WX} {P : List Nat} {pos : Pos}
theorem pget_list : PGet X (rIxL X.K) := by
  intro pins s σ H o i ov iv Q I ro ri ⟨p, xs, k, z, eo, ei, hq, he, q⟩
  subst eo
  subst ei
  obtain rfl : ov = Value.ref p := ro
  obtain ⟨t, rfl⟩ := ri
  obtain ⟨its, r, pl, hz⟩ := I.list hq
  obtain ⟨j, h1, h2, h3, h4, h5⟩ := atI_get he
  obtain ⟨w, ew, rw'⟩ := r.get h2
  have hl := r.length
  have hn := line63
  have fin : EP X pins σ Q w s := ⟨z, H, I, rw', q⟩
  by_cases h0 : 0 ≤ k
  · have hj : k.toNat = j := by
      rw [seqIndex_of h0 h5] at h1
      exact Option.some.inj h1
    exact PySem.wpAny_getItem_list pl.isList h0 (by omega) (by rw [hj]; simpa using ew) fin
  · have hj : (k + (its.toArray.size : Int)).toNat = j := by
      rw [PySem.seqIndex_neg (by omega) h4] at h1
      rw [List.size_toArray, ← hl]
      exact Option.some.inj h1
    exact PySem.wpAny_getItem_list_neg pl.isList (by omega) (by rw [List.size_toArray]; omega) (by omega) (by rw [hj]; simpa using ew) fin
theorem s_augI {i : Nat} {e ix : Expr} {ix' e' : E} {op : Operator} {o : O2} {x : Str} {p tpos : Pos} (hop : ipOp op = some o) (hK : X.K = C.K) (hu : X.A.units + 1 < cLine) (hN : X.N[i]? = some x) (hv : Vis X.env.scope x) (hd : (x == ("__debug__" : Str)) = false) (hcd : (x == ("__classdict__" : Str)) = false)
    (hsl : ∀ ov iv new, augStore ix ov iv new = (do holding [new, ov, iv] (setItem ov iv new); release [new, ov, iv] []; pure .next)) (hix : PE X ix (tD C W ix')) (he : PE X e (tD C W e')) : PS X (.AugAssign (.Subscript (.Name x p) ix tpos) op e pos) (tS C W P (.augI i ix' o e')) := by
  have key : ∃ f : Int → Int → Int, PIp X op (ipI f) ∧ (∀ m n, o.sem (.int m) (.int n) = some (.int (f m n))) := by
    cases op <;> first | (cases hop; exact ⟨_, ip_add, fun _ _ => rfl⟩) | (cases hop; exact ⟨_, ip_sub, fun _ _ => rfl⟩) | cases hop
  obtain ⟨f, hip, hsem⟩ := key
  refine psmono (ps_augS (pe_var hN hv hd hcd) hix pget_list he hip set_list hsl) fun D σ H ⟨ρ, SV, hv', nd, h⟩ => ?_
  have h : sK C W P σ SV H D (if isL ρ i = true then (ev ix' ρ).bind fun k ρ => (match k, getV ρ i with
    | .int k, some (.lst true xs) => (match idxS (.lst true xs) (.int k) with
      | some (.int m) => (ev e' ρ).bind fun y ρ => (match y, getV ρ i with
        | .int j, some (.lst true ys) => (match o.sem (.int m) (.int j), ixN ys.length k with
          | some z, some n => .ok .nx (ρ.set i (some (.lst true (ys.set n z))))
          | _, _ => .bad)
        | _, _ => .bad)
      | _ => .bad)
    | _, _ => .bad) else .bad) := h
  by_cases hl : isL ρ i = true
  case neg => rw [if_neg hl] at h; exact h.elim
  rw [if_pos hl] at h
  obtain ⟨xs0, h0⟩ := isL_some hl
  obtain ⟨a, vs0, S0, R0, hσ, _, _, _⟩ := lst_at hv' h0
  refine ⟨.ref a, hσ, ρ, SV, hv', nd, sK_bind h fun kd ρ1 u H1 SV1 e1 ⟨⟨S1, r1⟩, _⟩ h1 => ?_⟩
  cases kd with
  | int k =>
    have ek := r1.rep.1
    subst ek
    cases hg : getV ρ1 i with
    | none => simp only [hg] at h1; exact h1.elim
    | some d1 =>
      cases d1 with
      | lst b xs =>
        cases b with
        | true =>
          simp only [hg] at h1
          obtain ⟨a1, vs1, S1', R1, hσ1, hH1, rs1, _⟩ := lst_at e1.vars hg
          rw [hσ] at hσ1
          cases hσ1
          cases hi : idxS (.lst true xs) (.int k) with
          | none => simp only [hi] at h1; exact h1.elim
          | some old =>
            cases old with
            | int m =>
              simp only [hi] at h1
              have hat : atI xs k = some (.int m) := hi
              have hav : atI vs1 k = some (.int m) := by
                unfold atI at hat ⊢
                rw [← rs1.length]
                cases hn : ixN xs.length k with
                | none => rw [hn] at hat; cases hat
                | some n =>
                  rw [hn] at hat
                  obtain ⟨v, T, g1, g2, _⟩ := rs1.get (show xs[n]? = some (.int m) from hat)
                  rw [← g2.1]
                  exact g1
              refine ⟨a, vs1, k, .int m, rfl, rfl, .inl (.inl hH1), hav, ρ1, SV1, e1.vars, e1.nd, sK_bind2 e1 h1 fun yd ρ2 w H2 SV2 e2 ⟨⟨T2, r2⟩, _⟩ h2 => ?_⟩
              cases yd with
              | int j =>
                have ej := r2.rep.1
                subst ej
                have e12 := e1.trans e2
                cases hg2 : getV ρ2 i with
                | none => simp only [hg2] at h2; exact h2.elim
                | some d2 =>
                  cases d2 with
                  | lst b ys =>
                    cases b with
                    | true =>
                      simp only [hg2] at h2
                      rw [hsem] at h2
                      cases hn : ixN ys.length k with
                      | none => simp only [hn] at h2; exact h2.elim
                      | some n =>
                        simp only [hn] at h2
                        obtain ⟨a2, vs2, S2', R2, hσ2, hH2, rs2, f2⟩ := lst_at e12.vars hg2
                        rw [hσ] at hσ2
                        cases hσ2
                        have hny : n < ys.length := (ixN_seq hn).2.1
                        obtain ⟨v0, T0, R3, g1, g2, g3, g4, g5⟩ := Reps.split rs2 (List.getElem?_eq_getElem hny)
                        have ndf : ((a :: S2') ++ R2).Nodup := f2.perm.nodup_iff.mp e12.nd
                        obtain ⟨na, ndf'⟩ := List.nodup_cons.mp (show (a :: (S2' ++ R2)).Nodup from ndf)
                        have memR : ∀ b ∈ R3, b ∈ S2' := fun b hb => g3.mem_iff.mpr (List.mem_append_right _ hb)
                        obtain ⟨S4, h5, h6⟩ := g5 (.int (f m j)) (.int (f m j)) [] ⟨rfl, rfl⟩
                        have h6 : S4.Perm R3 := h6
                        have ndR3 : R3.Nodup := (List.nodup_append.mp (g3.nodup_iff.mp (List.nodup_append.mp ndf').1)).2.1
                        have kU : Kp R3 H2 (upd H2 a (.lst (vs2.set n (.int (f m j))))) := kp_upd hH2 (show Mb (.lst vs2) from True.intro) fun z => na (List.mem_append_left _ (memR a z))
                        have rep2 : Rep C.K (upd H2 a (.lst (vs2.set n (.int (f m j))))) (.lst true (ys.set n (.int (f m j)))) (.ref a) (a :: S4) := ⟨a, _, _, rfl, upd_same, h5.kp _ (kU.sub fun b hb => h6.mem_iff.mp hb), rfl⟩
                        have nd2 : (a :: (R3 ++ R2)).Nodup := by
                          refine List.nodup_cons.mpr ⟨fun z => ?_, List.nodup_append.mpr ⟨ndR3, (List.nodup_append.mp ndf').2.1, fun b hb c hc => (List.nodup_append.mp ndf').2.2 b (memR b hb) c hc⟩⟩
                          rcases List.mem_append.mp z with z | z
                          · exact na (List.mem_append_left _ (memR a z))
                          · exact na (List.mem_append_right _ z)
                        obtain ⟨SV3, e3, _⟩ := obj_write e12 f2 hσ hH2 (show Mb (.lst vs2) from True.intro) rep2 (((h6.append_right R2).cons a).nodup_iff.mpr nd2) (fun b hb => e12.src b (f2.perm.mem_iff.mpr (List.mem_append_left _ (List.mem_cons_of_mem _ (memR b (h6.mem_iff.mp hb))))))
                        exact ⟨m, j, rfl, rfl, a, vs2, k, n, rfl, rfl, hH2, by rw [← rs2.length]; exact hn, h2 σ _ SV3 e3 .refl⟩
                    | false => simp only [hg2] at h2; exact h2.elim
                  | _ => simp only [hg2] at h2; exact h2.elim
              | _ => exact h2.elim
            | _ => simp only [hi] at h1; exact h1.elim
        | false => simp only [hg] at h1; exact h1.elim
      | _ => simp only [hg] at h1; exact h1.elim
  | _ => exact h1.elim
end
end Ly

namespace Ly
open PySem PySem.Spec L2
variable [Fns]
section
variable {X : Cx} {C : Cfg} {W : WX} {P : List Nat} {pos : Pos}
theorem ps_setDc {i : Nat} {y : Str} {py : Pos} {kx vx tg iter : Expr} {ifs : List Expr} {scope : Scope} {own : List (Str × Nat)} {pos spos : Pos} {wi : TI} {g : TG} {tt : TT} {tk tv : TE} (hc : X.calm = true) (hN : X.N.Nodup) (hy : X.N[i]? = some y) (hyl : X.env.scope.names.lookup y = some .local)
    (hsw : swapsWith (.DictComp kx vx [⟨tg, iter, ifs, 0⟩] scope pos) (some (.Name y py)) spos.line X.env = pure true) (hi : PI X tg iter wi) (ok : BlkOk X.N X.env.scope scope own)
    (hg : ∀ (s : Shared) (H : Hp) (C : Addr) (cl : List (Str × Addr)) (fp : List Addr), PG (X.blk s H scope (compEnvC scope cl C X.env) fp) tg g) (ht : ∀ (s : Shared) (H : Hp) (C : Addr) (cl : List (Str × Addr)) (fp : List Addr), PTs (X.blk s H scope (compEnvC scope cl C X.env) fp) ifs tt)
    (hk : ∀ (s : Shared) (H : Hp) (C : Addr) (cl : List (Str × Addr)) (fp : List Addr), PE (X.blk s H scope (compEnvC scope cl C X.env) fp) kx tk)
    (he : ∀ (s : Shared) (H : Hp) (C : Addr) (cl : List (Str × Addr)) (fp : List Addr), PE (X.blk s H scope (compEnvC scope cl C X.env) fp) vx tv) (hs : ∀ x, foldedSetIterable iter X.env x = pure x) :
    PS X (.Assign [.Name y py] (.DictComp kx vx [⟨tg, iter, ifs, 0⟩] scope pos) spos) (tAsg (tDc wi g tt tk tv (own.map (·.2))) (gName i)) := by
  refine ⟨fun pins s σ H D I h => ?_⟩
  rw [exec_Assign_Name_used _ _ _ _ hsw]
  refine wpAny_bind (wpAny_standAt (wpAny_bind ?_))
  show wpAny _ X.A (do let _ ← comprehension (.DictComp kx vx [⟨tg, iter, ifs, 0⟩] scope pos) scope X.env (firstIterPos [⟨tg, iter, ifs, 0⟩] pos) newDict false (eval iter X.env) (some (assign (.Name y py) X.env))) _ _ s
  have h : tDc wi g tt tk tv (own.map (·.2)) σ H (fun x H1 => gName i x σ H1 D.nx) := h
  refine wpAny_bind (thn (dc_core (Qf := fun _ s' => SP X pins D .next s') hc hN I hi ok hg ht hk he hs h fun L C s' m H' I' q hn f => ?_) fun _ s' hq => wpAny_pure (wpAny_pure hq))
  show wpAny _ _ (assign (.Name y py) X.env (.ref L)) _ _ _
  refine wpAny_assign_Name (store_ok2 (v := V.ref L) I' hN hy (.inl hyl) rfl (fun s2 I2 ⟨a, sb, ha⟩ => ?_) (.inr hyl))
  obtain ⟨f0, f1, f2, f3, f4, f5⟩ := f
  have haC : C ≠ a := by
    rcases ha with z | z
    · rw [z]; exact f1
    · exact fun e => f4 y a z e.symm
  refine ⟨m, hn.sameBut sb haC, fun h3 sb3 => ?_⟩
  exact ⟨_, H', I2.turned (t' := s2.toks) (fun b o hb e => (sb3.2 b hb).trans e) f0 f1 f3 f4 f5, q⟩
/-- y = {..} on one line -/
theorem s_asgDc {i : Nat} {y : Str} {py : Pos} {kx vx tg iter : Expr} {ifs : List Expr} {scope : Scope} {ow : List (Str × Nat)} {spos : Pos} {tg' : Tg} {it : It} {c : Es} {k' e' : E} (ho : own e' = true) (ht : ∀ i ∈ tns tg', i ∈ ow.map (·.2)) (hP : i ∉ P) (hc : X.calm = true) (hN : X.N.Nodup) (hy : X.N[i]? = some y) (hyl : X.env.scope.names.lookup y = some .local)
    (hsw : swapsWith (.DictComp kx vx [⟨tg, iter, ifs, 0⟩] scope pos) (some (.Name y py)) spos.line X.env = pure true) (hi : PI X tg iter (tI C W it)) (ok : BlkOk X.N X.env.scope scope ow)
    (hg : ∀ (s : Shared) (H : Hp) (Cc : Addr) (cl : List (Str × Addr)) (fp : List Addr), PG (X.blk s H scope (compEnvC scope cl Cc X.env) fp) tg (tG C.K tg')) (htt : ∀ (s : Shared) (H : Hp) (Cc : Addr) (cl : List (Str × Addr)) (fp : List Addr), PTs (X.blk s H scope (compEnvC scope cl Cc X.env) fp) ifs (tCs C WF c))
    (hk : ∀ (s : Shared) (H : Hp) (Cc : Addr) (cl : List (Str × Addr)) (fp : List Addr), PE (X.blk s H scope (compEnvC scope cl Cc X.env) fp) kx (tD C WF k'))
    (he : ∀ (s : Shared) (H : Hp) (Cc : Addr) (cl : List (Str × Addr)) (fp : List Addr), PE (X.blk s H scope (compEnvC scope cl Cc X.env) fp) vx (tD C WF e')) (hs : ∀ x, foldedSetIterable iter X.env x = pure x) :
    PS X (.Assign [.Name y py] (.DictComp kx vx [⟨tg, iter, ifs, 0⟩] scope pos) spos) (tS C W P (.asg i (.dc (ow.map (·.2)) tg' it c k' e'))) := by
  refine psmono (ps_setDc hc hN hy hyl hsw hi ok hg htt hk he hs) fun D σ H ⟨ρ, SV, hv, nd, h⟩ => dc_read ho ht ⟨ρ, SV, hv, nd, ?_⟩
  exact sK_bind (R := RD C.K SV H ρ true false) (show sK C W P σ SV H D ((ev (.dc (ow.map (·.2)) tg' it c k' e') ρ).bind fun d ρ => .ok .nx (ρ.set i (some d))) from h) fun d ρ1 v H1 SV1 e1 ⟨⟨S, r⟩, _⟩ h1 => by
    obtain ⟨SV2, e2, _⟩ := envp_set i e1 r.rep (r.src rfl) (r.sep rfl)
    exact h1 _ H1 SV2 e2 (kept_set hP)
end
end Ly

namespace Ly
open PySem PySem.Spec L2
/-- what is known of the names of a block -/
structure Ct where
  N : List Str
  sc : Scope
  fa : Bool
  s0 : Scope
  fns : List (Str × List Bool)
  gls : List Str
  free : List Str
  kws : List (Str × List Str)
  /-- keywords in any order: the names as written, where the parameters stand among them -/
  kwp : List (Str × List Str × List Nat)
  /-- defs whose texts order things -/
  keys : List Str
def visB (ct : Ct) (x : Str) : Bool := match ct.sc.names.lookup x with
  | some .local => true
  | some .cell => true
  | some .free => true
  | _ => false
def locB (ct : Ct) (x : Str) : Bool := match ct.sc.names.lookup x with
  | some .local => true
  | some .cell => ct.fa || (ct.s0.names.lookup x == some .cell)
  | _ => false
def lclB (ct : Ct) (x : Str) : Bool := match ct.sc.names.lookup x with
  | some .local => true
  | _ => false
def glB (ct : Ct) (x : Str) : Bool := match ct.sc.names.lookup x with
  | some .globalImplicit => true
  | _ => false
def okN (x : Str) : Bool := !(x == ("__debug__" : Str)) && !(x == ("__classdict__" : Str))
def nmB (ct : Ct) (i : Nat) (x : Str) : Bool := decide (ct.N[i]? = some x)
def vrB (ct : Ct) (i : Nat) (x : Str) : Bool := nmB ct i x && (visB ct x && okN x)
def frB (ct : Ct) (x : Str) : Bool := glB ct x && (ct.free.contains x && okN x)
def noStar : Expr → Bool
  | .Starred _ _ => false
  | _ => true
def noComp : Expr → Bool
  | .ListComp _ _ _ _ => false
  | .SetComp _ _ _ _ => false
  | .DictComp _ _ _ _ _ => false
  | _ => true
def noSet : Expr → Bool
  | .Set _ _ _ => false
  | _ => true
def noSlice : Expr → Bool
  | .Slice _ _ _ _ => false
  | _ => true
def noTup : Expr → Bool
  | .Tuple _ _ _ => false
  | _ => true
def binO : Operator → Option O2
  | .Add => some .add
  | .Sub => some .sub
  | .Mult => some .mul
  | .FloorDiv => some .fdiv
  | .Mod => some .mod
  | .Pow => some .pow
  | _ => none
def cmpO : CmpOp → Option O2
  | .Eq => some .eq
  | .NotEq => some .ne
  | .Lt => some .lt
  | .LtE => some .le
  | .Gt => some .gt
  | .GtE => some .ge
  | .Is => some .isN
  | .IsNot => some .notN
  | .In => some .isIn
  | .NotIn => some .notIn
def bt1 (o : O1) (x : Str) : Bool := match o with
  | .len => x == ("len" : Str)
  | .tuple => x == ("tuple" : Str)
  | .list => x == ("list" : Str)
  | .int => x == ("int" : Str)
  | .str => x == ("str" : Str)
  | .abs => x == ("abs" : Str)
  | .sum => x == ("sum" : Str)
  | .minL => x == ("min" : Str)
  | .maxL => x == ("max" : Str)
  | .srt => x == ("sorted" : Str)
  | _ => false
/-- a method's name -/
def mthN : Mth → Str
  | .index => "index"
def noCall : Expr → Bool
  | .Call _ _ _ _ => false
  | _ => true
def isI (o : O1) (g h : Str) : Bool := match o with
  | .isT T => g == ("isinstance" : Str) && h == Str.ofString (tyN T)
  | _ => false
def bt2 (o : O2) (x : Str) : Bool := match o with
  | .min2 => x == ("min" : Str)
  | .max2 => x == ("max" : Str)
  | _ => false
def isNeg : O1 → Bool
  | .neg => true
  | _ => false
def isRevO : O1 → Bool
  | .rev => true
  | _ => false
def isOne : Const → Bool
  | .int i => decide (i = 1)
  | _ => false
def isNotO : O1 → Bool
  | .notO => true
  | _ => false
def cstB (d : D) (c : Const) : Bool := match d, c with
  | .int i, .int j => decide (i = j)
  | .str x, .str y => decide (x = y)
  | .bl a, .bool b => a == b
  | .non, .none => true
  | _, _ => false
def ownN (ct : Ct) (own : List Nat) : List (Str × Nat) := own.map fun i => (ct.N.getD i "", i)
def Ct.blk (ct : Ct) (scope : Scope) : Ct := { ct with sc := relS scope ct.sc, fa := false, s0 := scope }
/-- the names of keywords -/
def kwN : List Keyword → List Str
  | [] => []
  | k :: ks => k.arg.getD "" :: kwN ks
mutual
def chkTg : Tg → Ct → Expr → Bool
  | .nm i, ct, e => (match e with
    | .Name x _ => nmB ct i x && locB ct x
    | _ => false)
  | .tp ts, ct, e => (match e with
    | .Tuple es _ _ => chkTgs ts ct es
    | _ => false)
def chkTgs : Tgs → Ct → List Expr → Bool
  | .nil, _, es => (match es with
    | [] => true
    | _ => false)
  | .cons t ts, ct, es => (match es with
    | e :: r => noStar e && (chkTg t ct e && chkTgs ts ct r)
    | [] => false)
end
mutual
/-- t: as a test -/
def chkE : E → Bool → Ct → Expr → Bool
  | .var i, _, ct, e => (match e with
    | .Name x _ => vrB ct i x
    | _ => false)
  | .mv i, t, ct, e => (match e with
    | .Name x _ => !t && vrB ct i x
    | _ => false)
  | .mvo i, t, ct, e => (match e with
    | .Name x _ => !t && vrB ct i x
    | _ => false)
  | .cst d, t, ct, e => (match e with
    | .Constant c _ _ => !t && cstB d c
    | _ => false)
  | .glo k, t, ct, e => (match e with
    | .Name x _ => !t && (decide (ct.gls[k]? = some x) && (glB ct x && okN x))
    | _ => false)
  | .ck a, t, ct, e => !t && chkE a false ct e
  | .fz a, t, ct, e => !t && (own a && chkE a false ct e)
  | .o2 op a b, t, ct, e => (own a || quiet b) && (match e with
    | .BinOp l o r _ => !t && (decide (binO o = some op) && (chkE a false ct l && chkE b false ct r))
    | .Compare l os rs _ => (match os, rs with
      | [o], [r] => decide (cmpO o = some op) && (!(behindInMarks o r) && (chkE a false ct l && chkE b false ct r))
      | _, _ => false)
    | .Subscript l r _ => decide (op = .idx) && (noSlice r && (chkE a false ct l && chkE b false ct r))
    | .Call f as ks _ => (match f, as, ks with
      | .Name x _, [l, r], [] => bt2 op x && (frB ct x && (noStar l && (noStar r && (!t && (chkE a false ct l && chkE b false ct r)))))
      | _, _, _ => false)
    | _ => false)
  | .o1 op a, t, ct, e => (match e with
    | .UnaryOp u x _ => (match u with
      | .USub => !t && (isNeg op && chkE a false ct x)
      | .Not => isNotO op && chkE a t ct x
      | _ => false)
    | .Call f as ks _ => (match f, as, ks with
      | .Name g _, [x], [] => bt1 op g && (frB ct g && (noStar x && chkE a false ct x))
      | .Name g _, [x, y], [] => (match y with
        | .Name h _ => isI op g h && (frB ct g && (frB ct h && (noStar x && chkE a false ct x)))
        | _ => false)
      | _, _, _ => false)
    | .Subscript x sl _ => (match sl with
      | .Slice l h st _ => (match l, h, st with
        | none, none, some u => (match u with
          | .UnaryOp o c _ => (match o with
            | .USub => (match c with
              | .Constant k _ _ => !t && (isRevO op && (isOne k && chkE a false ct x))
              | _ => false)
            | _ => false)
          | _ => false)
        | _, _, _ => false)
      | _ => false)
    | _ => false)
  | .and a b, t, ct, e => (match e with
    | .BoolOp o vs p => (match o, vs with
      | .And, x :: y :: rest => chkE a t ct x && (match rest with
        | [] => chkE b t ct y
        | _ => chkE b t ct (.BoolOp .And (y :: rest) p))
      | _, _ => false)
    | _ => false)
  | .or a b, t, ct, e => (match e with
    | .BoolOp o vs p => (match o, vs with
      | .Or, x :: y :: rest => chkE a t ct x && (match rest with
        | [] => chkE b t ct y
        | _ => chkE b t ct (.BoolOp .Or (y :: rest) p))
      | _, _ => false)
    | _ => false)
  | .ite c a b, t, ct, e => (match e with
    | .IfExp x y z _ => !t && (chkE c true ct x && (chkE a false ct y && chkE b false ct z))
    | _ => false)
  | .tup es, t, ct, e => (match e with
    | .Tuple xs _ _ => !t && (plainEs es && chkEs es ct xs)
    | _ => false)
  | .lst es, t, ct, e => (match e with
    | .List xs _ => !t && (plainEs es && chkEs es ct xs)
    | _ => false)
  | .slc a lo hi, t, ct, e => (own a || (quiets lo && quiets hi)) && (match e with
    | .Subscript x sl _ => (match sl with
      | .Slice l h st _ => (match st with
        | none => chkE a false ct x && (chkO lo ct l && chkO hi ct h)
        | some _ => false)
      | _ => false)
    | _ => false)
  | .call slots k es, t, ct, e => (match e with
    | .Call f as ks _ => (match f, as, ks with
      | .Name x _, y :: ys, [] => decide (ct.fns[k]? = some (x, slots.map (·.isSome))) && (align slots es && (decide ((ios slots).Nodup) && (glB ct x && (okN x && chkEs es ct (y :: ys)))))
      | .Name x _, [], kw :: kws => decide (ct.fns[k]? = some (x, slots.map (·.isSome))) && (align slots es && (decide ((ios slots).Nodup) && (glB ct x && (okN x && (match ct.kws.lookup x with
        | some ps => chkKs es ct ps (kw :: kws)
        | none => false)))))
      | _, _, _ => false)
    | _ => false)
  | .pop i, t, ct, e => (match e with
    | .Call f as ks cpos => (match f, as, ks with
      | .Attribute (.Name x _) m apos, [], [] => !t && (m == ("pop" : Str) && (apos.endLine == cpos.line && vrB ct i x))
      | _, _, _ => false)
    | _ => false)
  | .popAt i a, t, ct, e => (match e with
    | .Call f as ks cpos => (match f, as, ks with
      | .Attribute (.Name x _) m apos, [y], [] => !t && (m == ("pop" : Str) && (apos.endLine == cpos.line && (vrB ct i x && (noStar y && (own a && chkE a false ct y)))))
      | _, _, _ => false)
    | _ => false)
  | .lrg (.cons a' .nil), t, ct, e => (match e with
    | .Call f as ks _ => (match f, as, ks with
      | .Name z _, [.Call g bs ks2 _], [] => (match g, bs, ks2 with
        | .Name x _, [a], [] => !t && (z == ("list" : Str) && (frB ct z && (x == ("range" : Str) && (frB ct x && (noStar a && chkE a' false ct a)))))
        | _, _, _ => false)
      | _, _, _ => false)
    | _ => false)
  | .lrg (.cons a' (.cons b' .nil)), t, ct, e => (match e with
    | .Call f as ks _ => (match f, as, ks with
      | .Name z _, [.Call g bs ks2 _], [] => (match g, bs, ks2 with
        | .Name x _, [a, b], [] => !t && (z == ("list" : Str) && (frB ct z && (x == ("range" : Str) && (frB ct x && (noStar a && (noStar b && ((own a' || quiet b') && (chkE a' false ct a && chkE b' false ct b))))))))
        | _, _, _ => false)
      | _, _, _ => false)
    | _ => false)
  | .lrg _, _, _, _ => false
  | .me m a (.cons b .nil), t, ct, e => (own a || quiet b) && (match e with
    | .Call f as ks cpos => (match f, as, ks with
      | .Attribute o nm apos, [y], [] => !t && (decide (m = .index) && (nm == mthN m && (apos.endLine == cpos.line && (noCall o && (noStar y && (own b && (chkE a false ct o && chkE b false ct y)))))))
      | _, _, _ => false)
    | _ => false)
  | .me _ _ _, _, _, _ => false
  | .ixL i b, t, ct, e => (match e with
    | .Subscript l r _ => (match l with
      | .Name x _ => vrB ct i x && (noSlice r && chkE b false ct r)
      | _ => false)
    | _ => false)
  | .popP i p a, t, ct, e => (own a && (quiet p && quiet a)) && (match e with
    | .Call f as ks cpos => (match f, as, ks with
      | .Attribute (.Subscript (.Name x _) pe _) m apos, [y], [] => !t && (m == ("pop" : Str) && (apos.endLine == cpos.line && (vrB ct i x && (noSlice pe && (noStar y && (chkE p false ct pe && chkE a false ct y))))))
      | _, _, _ => false)
    | _ => false)
  | .callK k perm es, t, ct, e => (match e with
    | .Call f as ks _ => (match f, as, ks with
      | .Name x _, [], kw :: kws => (match ct.fns[k]? with
        | some (y, io) => decide (y = x) && (io.all (!·) && (decide (io.length = perm.length) && (plainEs es && (decide ((x, kwN (kw :: kws), perm) ∈ ct.kwp) && (glB ct x && (okN x && chkKs es ct (kwN (kw :: kws)) (kw :: kws)))))))
        | none => false)
      | _, _, _ => false)
    | _ => false)
  | .get a k d, t, ct, e => (quiet k && quiet d) && (match e with
    | .Call f as ks cpos => (match f, as, ks with
      | .Attribute o nm apos, [y, z], [] => !t && (nm == ("get" : Str) && (apos.endLine == cpos.line && (noCall o && (noStar y && (noStar z && (chkE a false ct o && (chkE k false ct y && chkE d false ct z)))))))
      | _, _, _ => false)
    | _ => false)
  | .srtK k a, t, ct, e => (match e with
    | .Call f as ks _ => (match f, as, ks with
      | .Name g _, [x], [kw] => (match kw with
        | ⟨some n, v, _⟩ => (match v with
          | .Name y _ => !t && (g == ("sorted" : Str) && (n == ("key" : Str) && (frB ct g && (noStar x && (decide (ct.fns[k]? = some (y, [false])) && (ct.keys.contains y && (glB ct y && (okN y && chkE a false ct x))))))))
          | _ => false)
        | _ => false)
      | _, _, _ => false)
    | _ => false)
  | .cmp2 p1 p2 a b c, t, ct, e => (quiet b && quiet c) && (match e with
    | .Compare l os rs _ => (match os, rs with
      | [o1, o2], [m, r] => !t && (decide (cmpO o1 = some p1) && (decide (cmpO o2 = some p2) && (!(lastMarks [o1, o2] [m, r]) && (chkE a false ct l && (chkE b false ct m && chkE c false ct r)))))
      | _, _ => false)
    | _ => false)
  | .lc ow tg it c elt, t, ct, e => (match e with
    | .ListComp x gs scope _ => (match gs with
      | [⟨tg', iter, ifs, 0⟩] => !t && (own elt && ((tns tg).all (ow.contains ·) && (chkIt it ct tg' iter && (blkC ct.N ct.sc scope (ownN ct ow) && (chkTg tg (ct.blk scope) tg' && (chkC c (ct.blk scope) ifs && chkE elt false (ct.blk scope) x))))))
      | _ => false)
    | _ => false)
  | .dnil, t, _, e => (match e with
    | .Dict ks vs _ => (match ks, vs with
      | [], [] => !t
      | _, _ => false)
    | _ => false)
  | .dc ow tg it c k v, t, ct, e => (match e with
    | .DictComp kx x gs scope _ => (match gs with
      | [⟨tg', iter, ifs, 0⟩] => !t && (own v && ((tns tg).all (ow.contains ·) && (chkIt it ct tg' iter && (blkC ct.N ct.sc scope (ownN ct ow) && (chkTg tg (ct.blk scope) tg' && (chkC c (ct.blk scope) ifs && (chkE k false (ct.blk scope) kx && chkE v false (ct.blk scope) x)))))))
      | _ => false)
    | _ => false)
def chkEs : Es → Ct → List Expr → Bool
  | .nil, _, es => (match es with
    | [] => true
    | _ => false)
  | .cons e' es', ct, es => (match es with
    | e :: r => noStar e && (own e' && (chkE e' false ct e && chkEs es' ct r))
    | [] => false)
  | .io i es', ct, es => (match es with
    | e :: r => (match e with
      | .Name x _ => vrB ct i x && chkEs es' ct r
      | _ => false)
    | [] => false)
/-- keywords in the parameters' order -/
def chkKs : Es → Ct → List Str → List Keyword → Bool
  | .nil, _, ps, ks => (match ps, ks with
    | [], [] => true
    | _, _ => false)
  | .cons a r, ct, ps, ks => (match ps, ks with
    | n :: ps, kw :: ks => kw.arg == some n && (own a && (chkE a false ct kw.value && chkKs r ct ps ks))
    | _, _ => false)
  | .io _ _, _, _, _ => false
/-- a part of a slice -/
def chkO : Es → Ct → Option Expr → Bool
  | .nil, _, o => (match o with
    | none => true
    | some _ => false)
  | .cons a .nil, ct, o => (match o with
    | some e => chkE a false ct e
    | none => false)
  | .cons _ (.cons _ _), _, _ => false
  | .cons _ (.io _ _), _, _ => false
  | .io _ _, _, _ => false
def chkC : Es → Ct → List Expr → Bool
  | .nil, _, es => (match es with
    | [] => true
    | _ => false)
  | .cons e' es', ct, es => (match es, es' with
    | [e], .nil => chkE e' true ct e
    | _, _ => false)
  | .io _ _, _, _ => false
def chkIt : It → Ct → Expr → Expr → Bool
  | .seq e', ct, _, it => noSet it && chkE e' false ct it
  | .rng (.cons a' .nil), ct, _, it => (match it with
    | .Call f as ks _ => (match f, as, ks with
      | .Name x _, [a], [] => x == ("range" : Str) && (frB ct x && (noStar a && (own a' && chkE a' false ct a)))
      | _, _, _ => false)
    | _ => false)
  | .rng (.cons a' (.cons b' .nil)), ct, _, it => (match it with
    | .Call f as ks _ => (match f, as, ks with
      | .Name x _, [a, b], [] => x == ("range" : Str) && (frB ct x && (noStar a && (noStar b && (own a' && (own b' && (chkE a' false ct a && chkE b' false ct b))))))
      | _, _, _ => false)
    | _ => false)
  | .rng _, _, _, _ => false
  | .enum e', ct, tg, it => (match tg with
    | .Tuple _ _ _ => (match it with
      | .Call f as ks _ => (match f, as, ks with
        | .Name x _, [a], [] => x == ("enumerate" : Str) && (frB ct x && (noStar a && (own e' && chkE e' false ct a)))
        | _, _, _ => false)
      | _ => false)
    | _ => false)
  | .revd e', ct, tg, it => (match it with
    | .Call f as ks _ => (match f, as, ks with
      | .Name x _, [a], [] => x == ("reversed" : Str) && (frB ct x && (noStar a && chkE e' false ct a))
      | _, _, _ => false)
    | _ => false)
  | .zip a' b', ct, tg, it => (match tg with
    | .Tuple _ _ _ => (match it with
      | .Call f as ks _ => (match f, as, ks with
        | .Name x _, [a, b], [] => x == ("zip" : Str) && (frB ct x && (noStar a && (noStar b && (own a' && (own b' && (chkE a' false ct a && chkE b' false ct b))))))
        | _, _, _ => false)
      | _ => false)
    | _ => false)
end
end Ly

namespace Ly
open PySem PySem.Spec L2
variable [Fns]
structure Good (X : Cx) (C : Cfg) (W : WX) (ct : Ct) : Prop where
  N : X.N = ct.N
  nd : ct.N.Nodup
  sc : X.env.scope = ct.sc
  kind : ct.sc.kind = .function
  fn : ∀ x, (ct.fa || (ct.s0.names.lookup x == some .cell)) = true → X.fn x = true
  K : X.K = C.K
  calm : X.calm = true
  un : X.A.units + 70 < cLine
  tk : Takes X W
  fns : ∀ k x io, ct.fns[k]? = some (x, io) → ∃ r, FnG C X r x io (Fns.F k) ∧ Room r X.A
  gls : ∀ (k : Nat) x, ct.gls[k]? = some x → ∃ v u, X.mg x = some u ∧ RelV v u ∧ ∀ H, Rep C.K H (Fns.G k) v []
  free : ∀ x, ct.free.contains x = true → X.mg x = none
  key : ∀ k x, ct.fns[k]? = some (x, [false]) → ct.keys.contains x = true → FnKey C X x (Fns.F k)
  kwp : ∀ k x io ks perm, ct.fns[k]? = some (x, io) → (x, ks, perm) ∈ ct.kwp → ∃ r, FnGP C X r x io ks perm (Fns.F k) ∧ Room r X.A
  kw : ∀ k x io ps, ct.fns[k]? = some (x, io) → ct.kws.lookup x = some ps → ∃ r, FnGK C X r x io ps (Fns.F k) ∧ Room r X.A
section
variable {X : Cx} {C : Cfg} {W : WX} {ct : Ct} {pos : Pos}
theorem and2 {a b : Bool} (h : (a && b) = true) : a = true ∧ b = true := Bool.and_eq_true_iff.mp h
theorem Good.vis (G : Good X C W ct) {x : Str} (h : visB ct x = true) : Vis X.env.scope x := by
  rw [G.sc]
  unfold visB at h
  unfold Vis
  split at h
  · exact .inl ‹_›
  · exact .inr (.inl ‹_›)
  · exact .inr (.inr ‹_›)
  · cases h
theorem Good.loc (G : Good X C W ct) {x : Str} (h : locB ct x = true) : L2.Loc X.env.scope x ∧ (X.fn x = true ∨ X.env.scope.names.lookup x = some .local) := by
  rw [G.sc]
  unfold locB at h
  unfold L2.Loc
  split at h
  · exact ⟨.inl ‹_›, .inr ‹_›⟩
  · exact ⟨.inr ‹_›, .inl (G.fn x h)⟩
  · cases h
theorem Good.gl (G : Good X C W ct) {x : Str} (h : glB ct x = true) : Gl X x := by
  unfold Gl
  show X.env.scope.names.lookup x = _
  rw [G.sc]
  unfold glB at h
  split at h
  · assumption
  · cases h
theorem okN_d {x : Str} (h : okN x = true) : (x == ("__debug__" : Str)) = false := by
  have := (and2 h).1
  simpa using this
theorem okN_c {x : Str} (h : okN x = true) : (x == ("__classdict__" : Str)) = false := by
  have := (and2 h).2
  simpa using this
theorem Good.nm (G : Good X C W ct) {i : Nat} {x : Str} (h : nmB ct i x = true) : X.N[i]? = some x := by
  rw [G.N]
  exact of_decide_eq_true h
theorem Good.vr (G : Good X C W ct) {i : Nat} {x : Str} (h : vrB ct i x = true) : X.N[i]? = some x ∧ Vis X.env.scope x ∧ (x == ("__debug__" : Str)) = false ∧ (x == ("__classdict__" : Str)) = false := by
  obtain ⟨h1, h⟩ := and2 h
  obtain ⟨h2, h3⟩ := and2 h
  exact ⟨G.nm h1, G.vis h2, okN_d h3, okN_c h3⟩
theorem Good.fr (G : Good X C W ct) {x : Str} (h : frB ct x = true) : Gl X x ∧ X.mg x = none ∧ (x == ("__debug__" : Str)) = false := by
  obtain ⟨h1, h⟩ := and2 h
  obtain ⟨h2, h3⟩ := and2 h
  exact ⟨G.gl h1, G.free x h2, okN_d h3⟩
theorem star_cons {e : Expr} {es : List Expr} {env : Env} (h : noStar e = true) : starEach (e :: es) env = (false, eval e env) :: starEach es env := by
  cases e <;> first | rfl | cases h
theorem star_one {e : Expr} {env : Env} (h : noStar e = true) : starEach [e] env = [(false, eval e env)] := star_cons h
def noStars (es : List Expr) : Bool := es.all noStar
theorem star_any {es : List Expr} {env : Env} (h : noStars es = true) : (backTo pos (starEach es env)).any (·.1) = false := by
  induction es with
  | nil => rfl
  | cons e es ih =>
    have h : (noStar e && es.all noStar) = true := h
    obtain ⟨h1, h2⟩ := and2 h
    rw [star_cons h1]
    show (false || (backTo pos (starEach es env)).any (·.1)) = false
    rw [Bool.false_or]
    exact ih h2
theorem star_all {es : List Expr} {env : Env} (h : noStars es = true) : (backTo pos (starEach es env)).all (fun x => !x.1) = true := by
  induction es with
  | nil => rfl
  | cons e es ih =>
    have h : (noStar e && es.all noStar) = true := h
    obtain ⟨h1, h2⟩ := and2 h
    rw [star_cons h1]
    show (true && (backTo pos (starEach es env)).all (fun x => !x.1)) = true
    rw [Bool.true_and]
    exact ih h2
theorem asg_cons {e : Expr} {es : List Expr} {env : Env} (h : noStar e = true) : assignEach (e :: es) env = (false, assign e env) :: assignEach es env := by
  cases e <;> first | rfl | cases h
theorem folded_no {e : Expr} {env : Env} (h : noSet e = true) : ∀ x, foldedSetIterable e env x = pure x := by
  intro x
  cases e <;> first | rfl | cases h
theorem Good.op2 (G : Good X C W ct) {o : Operator} {op : O2} (h : binO o = some op) : OpR X (binaryOp o) (rD X.K op.sem) := by
  cases o <;> first
    | cases h; exact od_add
    | cases h; exact od_sub
    | cases h; exact od_mul
    | cases h; exact od_fdiv
    | cases h; exact od_mod
    | cases h; exact od_pow
    | cases h
theorem Good.cmp (G : Good X C W ct) {o : CmpOp} {op : O2} (h : cmpO o = some op) : OpR X (compareOp o) (rD X.K op.sem) := by
  have := G.un
  cases o <;> first
    | cases h; exact od_lt
    | cases h; exact od_le
    | cases h; exact od_gt
    | cases h; exact od_ge
    | cases h; exact od_isN
    | cases h; exact od_notN
    | cases h; exact od_eq (by omega)
    | cases h; exact od_ne (by omega)
    | cases h; exact od_in (by omega)
    | cases h; exact od_notIn (by omega)
theorem cmp_own {o : CmpOp} {op : O2} {a b : E} (h : cmpO o = some op) : own (.o2 op a b) = true ∧ isCmp op = true := by
  cases o <;> cases h <;> exact ⟨rfl, rfl⟩
theorem bin_own {o : Operator} {op : O2} {a b : E} (h : binO o = some op) : own (.o2 op a b) = true := by
  cases o <;> cases h <;> rfl
theorem plain_ix {b : Expr} (h : noSlice b = true) : PlainIx b := by
  intro o i
  cases b <;> first | rfl | cases h
theorem bt1_cases {o : O1} {g : Str} (h : bt1 o g = true) : (o = .len ∧ g = "len") ∨ (o = .tuple ∧ g = "tuple") ∨ (o = .list ∧ g = "list") ∨ (o = .int ∧ g = "int") ∨ (o = .str ∧ g = "str") ∨ (o = .abs ∧ g = "abs") ∨ (o = .sum ∧ g = "sum") ∨ (o = .minL ∧ g = "min") ∨ (o = .maxL ∧ g = "max") ∨ (o = .srt ∧ g = "sorted") := by
  cases o <;> first
    | (cases h)
    | (have h := eq_of_beq h; subst h; simp)
theorem boot_len : bootBuiltins "len" = some (.builtin "len") := by decide +kernel
theorem boot_tuple : bootBuiltins "tuple" = some (.type "tuple") := by decide +kernel
theorem boot_list : bootBuiltins "list" = some (.type "list") := by decide +kernel
theorem boot_int : bootBuiltins "int" = some (.type "int") := by decide +kernel
theorem boot_str : bootBuiltins "str" = some (.type "str") := by decide +kernel
theorem boot_abs : bootBuiltins "abs" = some (.builtin "abs") := by decide +kernel
theorem boot_sum : bootBuiltins "sum" = some (.builtin "sum") := by decide +kernel
theorem boot_min : bootBuiltins "min" = some (.builtin "min") := by decide +kernel
theorem boot_max : bootBuiltins "max" = some (.builtin "max") := by decide +kernel
theorem boot_sorted : bootBuiltins "sorted" = some (.builtin "sorted") := by decide +kernel
theorem boot_range0 : bootBuiltins "range" = some (.type "range") := by decide +kernel
theorem se_bt1 (G : Good X C W ct) {o : O1} {g : Str} {p : Pos} {a : Expr} {a' : E} (h : bt1 o g = true) (hf : frB ct g = true) (hs : noStar a = true) (ha : PE X a (tD C W a')) : PE X (.Call (.Name g p) [a] [] pos) (tD C W (.o1 o a')) := by
  obtain ⟨f1, f2, f3⟩ := G.fr hf
  rcases bt1_cases h with ⟨rfl, rfl⟩ | ⟨rfl, rfl⟩ | ⟨rfl, rfl⟩ | ⟨rfl, rfl⟩ | ⟨rfl, rfl⟩ | ⟨rfl, rfl⟩ | ⟨rfl, rfl⟩ | ⟨rfl, rfl⟩ | ⟨rfl, rfl⟩ | ⟨rfl, rfl⟩
  · exact se_cb G.K cd_len f1 f2 boot_len ha (by decide +kernel) f3 (star_cons hs)
  · exact se_ct G.K cd_tuple f1 f2 boot_tuple ha (by decide +kernel) f3 (star_cons hs)
  · exact se_ct G.K cd_list f1 f2 boot_list ha (by decide +kernel) f3 (star_cons hs)
  · exact se_ct G.K cd_int f1 f2 boot_int ha (by decide +kernel) f3 (star_cons hs)
  · exact se_ct G.K cd_str f1 f2 boot_str ha (by decide +kernel) f3 (star_cons hs)
  · exact se_cb G.K cd_abs f1 f2 boot_abs ha (by decide +kernel) f3 (star_cons hs)
  · exact se_cb G.K (cd_sum G.calm) f1 f2 boot_sum ha (by decide +kernel) f3 (star_cons hs)
  · exact se_cb G.K (cd_min G.calm) f1 f2 boot_min ha (by decide +kernel) f3 (star_cons hs)
  · exact se_cb G.K (cd_max G.calm) f1 f2 boot_max ha (by decide +kernel) f3 (star_cons hs)
  · exact se_cb G.K (cd_sorted G.calm (by have := G.un; omega)) f1 f2 boot_sorted ha (by decide +kernel) f3 (star_cons hs)
def eLen : Es → Nat
  | .nil => 0
  | .cons _ r => eLen r + 1
  | .io _ r => eLen r + 1
theorem evs_len : ∀ (es : Es) {ρ ρ' : Ev} {ds : List D}, evs es ρ = .ok ds ρ' → ds.length = eLen es
  | .nil, ρ, ρ', ds, h => by cases h; rfl
  | .cons e r, ρ, ρ', ds, h => by
    have h : ((ev e ρ).bind fun d ρ => (evs r ρ).bind fun ds ρ => .ok (d :: ds) ρ) = .ok ds ρ' := h
    cases h1 : ev e ρ with
    | bad => rw [h1] at h; cases h
    | exc x ρ1 => rw [h1] at h; cases h
    | ok d ρ1 =>
      rw [h1] at h
      have h : ((evs r ρ1).bind fun ds ρ => Out.ok (d :: ds) ρ) = .ok ds ρ' := h
      cases h2 : evs r ρ1 with
      | bad => rw [h2] at h; cases h
      | exc x ρ2 => rw [h2] at h; cases h
      | ok l ρ2 =>
        rw [h2] at h
        cases h
        exact congrArg (· + 1) (evs_len r h2)
  | .io i r, ρ, ρ', ds, h => by
    have h : (match getV ρ i with | some _ => (evs r ρ).bind fun ds ρ => Out.ok (D.non :: ds) ρ | none => .bad) = .ok ds ρ' := h
    cases hg : getV ρ i with
    | none => rw [hg] at h; cases h
    | some d =>
      rw [hg] at h
      have h : ((evs r ρ).bind fun ds ρ => Out.ok (D.non :: ds) ρ) = .ok ds ρ' := h
      cases h2 : evs r ρ with
      | bad => rw [h2] at h; cases h
      | exc x ρ2 => rw [h2] at h; cases h
      | ok l ρ2 =>
        rw [h2] at h
        cases h
        exact congrArg (· + 1) (evs_len r h2)
theorem kwN_len : ∀ ks : List Keyword, (kwN ks).length = ks.length
  | [] => rfl
  | _ :: ks => congrArg (· + 1) (kwN_len ks)
theorem chkKs_len : ∀ (es : Es) {ct : Ct} {ps : List Str} {ks : List Keyword}, chkKs es ct ps ks = true → eLen es = ps.length
  | .nil, ct, ps, ks, h => by
    unfold chkKs at h
    match ps, ks, h with
    | [], [], _ => rfl
  | .cons a r, ct, ps, ks, h => by
    unfold chkKs at h
    match ps, ks, h with
    | n :: ps, kw :: ks, h =>
      obtain ⟨_, h⟩ := and2 h
      obtain ⟨_, h⟩ := and2 h
      obtain ⟨_, h⟩ := and2 h
      exact congrArg (· + 1) (chkKs_len r h)
  | .io _ _, ct, ps, ks, h => by unfold chkKs at h; cases h
theorem cmp_bl2 {o : CmpOp} {op : O2} (h : cmpO o = some op) : ∀ d e z, op.sem d e = some z → ∃ b, z = .bl b := fun d e z hz => cmp_bl (cmp_own (a := .dnil) (b := .dnil) h).2 hz
theorem base_any {o : Expr} {nm : Str} {env : Env} {w : Sem Value} (h : noCall o = true) : attributeBase o nm env w = w := by
  cases o <;> first | rfl | cases h
theorem se_bt2 (G : Good X C W ct) {o : O2} {g : Str} {p : Pos} {a b : Expr} {a' b' : E} (h : bt2 o g = true) (hf : frB ct g = true) (hs : noStar a = true) (hs2 : noStar b = true) (hq : (own a' || quiet b') = true) (ha : PE X a (tD C W a')) (hb : PE X b (tD C W b')) : PE X (.Call (.Name g p) [a, b] [] pos) (tD C W (.o2 o a' b')) := by
  obtain ⟨f1, f2, f3⟩ := G.fr hf
  have hb2 : noStars [b] = true := by
    show (noStar b && true) = true
    rw [hs2]
    rfl
  have hc : (o = .min2 ∧ g = "min") ∨ (o = .max2 ∧ g = "max") := by
    cases o <;> first
      | (cases h)
      | (have h := eq_of_beq h; subst h; simp)
  rcases hc with ⟨rfl, rfl⟩ | ⟨rfl, rfl⟩
  · exact se_cb2 G.K (cd_min2 G.calm) f1 f2 boot_min ha hb rfl hq (by decide +kernel) f3 (star_cons hs) (star_cons hs2) (star_any hb2)
  · exact se_cb2 G.K (cd_max2 G.calm) f1 f2 boot_max ha hb rfl hq (by decide +kernel) f3 (star_cons hs) (star_cons hs2) (star_any hb2)
theorem boot_isi : bootBuiltins "isinstance" = some (.builtin "isinstance") := by decide +kernel
theorem boot_ty (T : Ty) : bootBuiltins (Str.ofString (tyN T)) = some (.type (tyN T)) ∧ Str.ofString (tyN T) ≠ "__name__" := by
  cases T <;> exact ⟨by decide +kernel, by decide +kernel⟩
theorem se_isI (G : Good X C W ct) {o : O1} {g h : Str} {p q : Pos} {a : Expr} {a' : E} (hi : isI o g h = true) (hf : frB ct g = true) (hf2 : frB ct h = true) (hs : noStar a = true) (ha : PE X a (tD C W a')) : PE X (.Call (.Name g p) [a, .Name h q] [] pos) (tD C W (.o1 o a')) := by
  obtain ⟨f1, f2, f3⟩ := G.fr hf
  obtain ⟨g1, g2, g3⟩ := G.fr hf2
  cases o with
  | isT T =>
    obtain ⟨h1, h2⟩ := and2 hi
    have h1 := eq_of_beq h1
    have h2 := eq_of_beq h2
    subst h1
    subst h2
    exact se_isT G.K boot_isi (boot_ty T).1 f1 f2 (by decide +kernel) f3 g1 g2 (boot_ty T).2 g3 ha (star_cons hs)
  | _ => cases hi
/-- a block within -/
theorem Good.blk (G : Good X C W ct) (s : Shared) (H : Hp) (scope : Scope) (hk : scope.kind = .function) (Cc : Addr) (cl : List (Str × Addr)) (fp : List Addr) : Good (X.blk s H scope (compEnvC scope cl Cc X.env) fp) C WF (ct.blk scope) where
  N := G.N
  nd := G.nd
  sc := by
    show relS scope X.env.scope = relS scope ct.sc
    rw [G.sc]
  kind := hk
  fn := fun x h => by
    have h : (false || (scope.names.lookup x == some .cell)) = true := h
    rw [Bool.false_or] at h
    exact h
  K := G.K
  calm := G.calm
  un := G.un
  tk := takes0
  fns := G.fns
  gls := G.gls
  free := G.free
  kw := G.kw
  kwp := G.kwp
  key := G.key
theorem own_map {ow : List Nat} : (ownN ct ow).map (·.2) = ow := by
  unfold ownN
  rw [List.map_map]
  exact List.map_id ow
theorem blk_kind {N : List Str} {sc scope : Scope} {ow : List (Str × Nat)} (h : blkC N sc scope ow = true) : scope.kind = .function := (blkOk_by h).kind
end
mutual
theorem snd_tg : ∀ (t : Tg) {X : Cx} {C : Cfg} {W : WX} {ct : Ct} {e : Expr}, Good X C W ct → chkTg t ct e = true → PG X e (tG C.K t)
  | .nm i, X, C, W, ct, e, G, h => by
    unfold chkTg at h
    cases e <;> first
      | (cases h; done)
      | skip
    obtain ⟨h1, h2⟩ := and2 h
    exact sg_name (by rw [G.N]; exact G.nd) (G.nm h1) (G.loc h2).1 (G.loc h2).2
  | .tp ts, X, C, W, ct, e, G, h => by
    unfold chkTg at h
    cases e <;> first
      | (cases h; done)
      | skip
    obtain ⟨h1, h2, h3⟩ := snd_tgs ts G h
    exact sg_tup G.K G.calm h1 h2 h3
theorem snd_tgs : ∀ (ts : Tgs) {X : Cx} {C : Cfg} {W : WX} {ct : Ct} {es : List Expr}, Good X C W ct → chkTgs ts ct es = true → PGs X es (tGs C.K ts) ∧ (assignEach es X.env).length = tlen ts ∧ (assignEach es X.env).findIdx? (·.1) = none
  | .nil, X, C, W, ct, es, G, h => by
    unfold chkTgs at h
    cases es with
    | nil => exact ⟨sgs_nil, rfl, rfl⟩
    | cons _ _ => cases h
  | .cons t ts, X, C, W, ct, es, G, h => by
    unfold chkTgs at h
    cases es with
    | nil => cases h
    | cons e r =>
      obtain ⟨h1, h⟩ := and2 h
      obtain ⟨h2, h3⟩ := and2 h
      obtain ⟨g1, g2, g3⟩ := snd_tgs ts G h3
      have e0 := asg_cons (es := r) (env := X.env) h1
      refine ⟨sgs_cons (snd_tg t G h2) g1 (by rw [e0]; rfl), by rw [e0, List.length_cons, g2]; rfl, ?_⟩
      rw [e0, List.findIdx?_cons]
      simp [g3]
end
end Ly

namespace Ly
open PySem PySem.Spec L2
variable [Fns]
section
variable {X : Cx} {C : Cfg} {W : WX} {ct : Ct} {e : Expr} {e' : E} {t : Bool}
def Both (X : Cx) (C : Cfg) (W : WX) (e : Expr) (e' : E) (t : Bool) : Prop := (t = false → PE X e (tD C W e')) ∧ (t = true → PT X e (tT C W e'))
theorem leaf (G : Good X C W ct) (h : PE X e (tD C W e')) (he : ∀ whole, isTrue e X.env whole = (do let v ← whole; standAt e.pos; holding [v] (truthy v))) : Both X C W e e' t := ⟨fun _ => h, fun _ => st_truth G.K h he⟩
theorem valu (ht : (!t) = true) (h : PE X e (tD C W e')) : Both X C W e e' t := ⟨fun _ => h, fun z => by rw [z] at ht; cases ht⟩
end
mutual
theorem snd_e : ∀ (e' : E) {t : Bool} {X : Cx} {C : Cfg} {W : WX} {ct : Ct} {e : Expr}, Good X C W ct → chkE e' t ct e = true → Both X C W e e' t
  | .var i, t, X, C, W, ct, e, G, h => by
    unfold chkE at h
    cases e <;> first
      | (cases h; done)
      | skip
    obtain ⟨h1, h2, h3, h4⟩ := G.vr h
    exact leaf G (se_var h1 h2 h3 h4) (fun _ => rfl)
  | .mv i, t, X, C, W, ct, e, G, h => by
    unfold chkE at h
    cases e <;> first
      | (cases h; done)
      | skip
    obtain ⟨h0, h⟩ := and2 h
    obtain ⟨h1, h2, h3, h4⟩ := G.vr h
    exact valu h0 (se_mv G.K h1 h2 h3 h4)
  | .mvo i, t, X, C, W, ct, e, G, h => by
    unfold chkE at h
    cases e <;> first
      | (cases h; done)
      | skip
    obtain ⟨h0, h⟩ := and2 h
    obtain ⟨h1, h2, h3, h4⟩ := G.vr h
    exact valu h0 (se_mvo h1 h2 h3 h4)
  | .cst d, t, X, C, W, ct, e, G, h => by
    unfold chkE at h
    cases e with
    | Constant c k pos =>
      obtain ⟨h0, h⟩ := and2 h
      refine valu h0 ?_
      unfold cstB at h
      split at h
      · have h := of_decide_eq_true h; subst h; exact se_int
      · have h := of_decide_eq_true h; subst h; exact se_str
      · have h := eq_of_beq h; subst h; exact se_bl
      · exact se_non
      · cases h
    | _ => cases h
  | .glo k, t, X, C, W, ct, e, G, h => by
    unfold chkE at h
    cases e <;> first
      | (cases h; done)
      | skip
    obtain ⟨h0, h⟩ := and2 h
    obtain ⟨h1, h⟩ := and2 h
    obtain ⟨h2, h3⟩ := and2 h
    obtain ⟨v, u, e1, e2, e3⟩ := G.gls k _ (of_decide_eq_true h1)
    exact valu h0 (se_glo (G.gl h2) e1 e2 e3 (okN_d h3))
  | .ck a, t, X, C, W, ct, e, G, h => by
    unfold chkE at h
    obtain ⟨h0, h⟩ := and2 h
    exact valu h0 (se_ck ((snd_e a G h).1 rfl))
  | .fz a, t, X, C, W, ct, e, G, h => by
    unfold chkE at h
    obtain ⟨h0, h⟩ := and2 h
    obtain ⟨h1, h⟩ := and2 h
    exact valu h0 (se_fz G.K h1 ((snd_e a G h).1 rfl))
  | .o2 op a b, t, X, C, W, ct, e, G, h => by
    unfold chkE at h
    obtain ⟨hq, h⟩ := and2 h
    cases e with
    | BinOp l o r pos =>
      obtain ⟨h0, h⟩ := and2 h
      obtain ⟨h1, h⟩ := and2 h
      obtain ⟨h2, h3⟩ := and2 h
      have h1 := of_decide_eq_true h1
      exact valu h0 (se_bin' G.K (G.op2 h1) ((snd_e a G h2).1 rfl) ((snd_e b G h3).1 rfl) (bin_own h1) hq)
    | Compare l os rs pos =>
      match os, rs, h with
      | [o], [r], h =>
        obtain ⟨h1, h⟩ := and2 h
        obtain ⟨h0, h⟩ := and2 h
        obtain ⟨h2, h3⟩ := and2 h
        have h1 := of_decide_eq_true h1
        have hb : behindInMarks o r = false := by simpa using h0
        exact ⟨fun _ => se_cmp G.K (G.cmp h1) ((snd_e a G h2).1 rfl) ((snd_e b G h3).1 rfl) (cmp_own h1).1 hq hb, fun _ => st_cmp G.K (cmp_own (a := a) (b := b) h1).2 (G.cmp h1) ((snd_e a G h2).1 rfl) ((snd_e b G h3).1 rfl) hq hb⟩
    | Subscript l r pos =>
      obtain ⟨h1, h⟩ := and2 h
      obtain ⟨h0, h⟩ := and2 h
      obtain ⟨h2, h3⟩ := and2 h
      have h1 := of_decide_eq_true h1
      subst h1
      exact leaf G (se_idx G.K (by have := G.un; omega) ((snd_e a G h2).1 rfl) ((snd_e b G h3).1 rfl) hq (plain_ix h0)) (fun _ => rfl)
    | Call f as ks pos =>
      match f, as, ks, h with
      | .Name x p, [l, r], [], h =>
        obtain ⟨h1, h⟩ := and2 h
        obtain ⟨h2, h⟩ := and2 h
        obtain ⟨h3, h⟩ := and2 h
        obtain ⟨h4, h⟩ := and2 h
        obtain ⟨h0, h⟩ := and2 h
        obtain ⟨h5, h6⟩ := and2 h
        exact valu h0 (se_bt2 G h1 h2 h3 h4 hq ((snd_e a G h5).1 rfl) ((snd_e b G h6).1 rfl))
    | _ => cases h
  | .o1 op a, t, X, C, W, ct, e, G, h => by
    unfold chkE at h
    cases e with
    | UnaryOp u x pos =>
      cases u with
      | USub =>
        obtain ⟨h0, h⟩ := and2 h
        obtain ⟨h1, h⟩ := and2 h
        have e1 : op = .neg := by cases op <;> first | rfl | cases h1
        subst e1
        exact valu h0 (se_neg G.K ((snd_e a G h).1 rfl))
      | Not =>
        obtain ⟨h1, h⟩ := and2 h
        have e1 : op = .notO := by cases op <;> first | rfl | cases h1
        subst e1
        exact ⟨fun z => se_not G.K ((snd_e a G h).1 z), fun z => st_not ((snd_e a G h).2 z)⟩
      | _ => cases h
    | Call f as ks pos =>
      match f, as, ks, h with
      | .Name g p, [x], [], h =>
        obtain ⟨h1, h⟩ := and2 h
        obtain ⟨h2, h⟩ := and2 h
        obtain ⟨h3, h⟩ := and2 h
        exact leaf G (se_bt1 G h1 h2 h3 ((snd_e a G h).1 rfl)) (fun _ => rfl)
      | .Name g p, [x, y], [], h =>
        cases y with
        | Name hh q =>
          obtain ⟨h1, h⟩ := and2 h
          obtain ⟨h2, h⟩ := and2 h
          obtain ⟨h3, h⟩ := and2 h
          obtain ⟨h4, h⟩ := and2 h
          exact leaf G (se_isI G h1 h2 h3 h4 ((snd_e a G h).1 rfl)) (fun _ => rfl)
        | _ => cases h
    | Subscript x sl pos =>
      cases sl with
      | Slice l hh st p3 =>
        match l, hh, st, h with
        | none, none, some u, h =>
          cases u with
          | UnaryOp o c p2 =>
            cases o with
            | USub =>
              cases c with
              | Constant k kk p1 =>
                obtain ⟨h0, h⟩ := and2 h
                obtain ⟨h1, h⟩ := and2 h
                obtain ⟨h2, h⟩ := and2 h
                have e1 : op = .rev := by cases op <;> first | rfl | cases h1
                subst e1
                cases k with
                | int i =>
                  have e2 : i = 1 := of_decide_eq_true h2
                  subst e2
                  exact valu h0 (se_revT G.K ((snd_e a G h).1 rfl))
                | _ => cases h2
              | _ => cases h
            | _ => cases h
          | _ => cases h
      | _ => cases h
    | _ => cases h
  | .and a b, t, X, C, W, ct, e, G, h => by
    unfold chkE at h
    cases e with
    | BoolOp o vs p =>
      match o, vs, h with
      | .And, x :: y :: rest, h =>
        obtain ⟨h1, h⟩ := and2 h
        cases rest with
        | nil => exact ⟨fun z => se_and G.K ((snd_e a G h1).1 z) (pe_one ((snd_e b G h).1 z)), fun z => (sw_and ((snd_e a G h1).2 z) (sw_and1 ((snd_e b G h).2 z))).pt⟩
        | cons w rest =>
          refine ⟨fun z => se_and G.K ((snd_e a G h1).1 z) ((snd_e b G h).1 z), fun z => (sw_and ((snd_e a G h1).2 z) ⟨fun wh pins s σ H Q I q => ?_⟩).pt⟩
          exact ((snd_e b G h).2 z).run pins s σ H Q I q
    | _ => cases h
  | .or a b, t, X, C, W, ct, e, G, h => by
    unfold chkE at h
    cases e with
    | BoolOp o vs p =>
      match o, vs, h with
      | .Or, x :: y :: rest, h =>
        obtain ⟨h1, h⟩ := and2 h
        cases rest with
        | nil => exact ⟨fun z => se_or G.K ((snd_e a G h1).1 z) (pe_one ((snd_e b G h).1 z)), fun z => (sw_or ((snd_e a G h1).2 z) (sw_or1 ((snd_e b G h).2 z))).pt⟩
        | cons w rest =>
          refine ⟨fun z => se_or G.K ((snd_e a G h1).1 z) ((snd_e b G h).1 z), fun z => (sw_or ((snd_e a G h1).2 z) ⟨fun wh pins s σ H Q I q => ?_⟩).pt⟩
          exact ((snd_e b G h).2 z).run pins s σ H Q I q
    | _ => cases h
  | .ite c a b, t, X, C, W, ct, e, G, h => by
    unfold chkE at h
    cases e <;> first
      | (cases h; done)
      | skip
    obtain ⟨h0, h⟩ := and2 h
    obtain ⟨h1, h⟩ := and2 h
    obtain ⟨h2, h3⟩ := and2 h
    exact valu h0 (se_ite ((snd_e c G h1).2 rfl) ((snd_e a G h2).1 rfl) ((snd_e b G h3).1 rfl))
  | .tup es, t, X, C, W, ct, e, G, h => by
    unfold chkE at h
    cases e <;> first
      | (cases h; done)
      | skip
    obtain ⟨h0, h⟩ := and2 h
    obtain ⟨h1, h⟩ := and2 h
    exact valu h0 (se_tup h1 (snd_es es G h).1)
  | .lst es, t, X, C, W, ct, e, G, h => by
    unfold chkE at h
    cases e <;> first
      | (cases h; done)
      | skip
    obtain ⟨h0, h⟩ := and2 h
    obtain ⟨h1, h⟩ := and2 h
    exact valu h0 (se_lst h1 (snd_es es G h).1)
  | .slc a lo hi, t, X, C, W, ct, e, G, h => by
    unfold chkE at h
    obtain ⟨hq, h⟩ := and2 h
    cases e with
    | Subscript x sl pos =>
      cases sl with
      | Slice l hh st p2 =>
        cases st with
        | none =>
          obtain ⟨h1, h⟩ := and2 h
          obtain ⟨h2, h3⟩ := and2 h
          obtain ⟨p1, q1⟩ := snd_o lo (W := W) G h2
          obtain ⟨p2, q2⟩ := snd_o hi (W := W) G h3
          exact leaf G (se_slc G.K q1 q2 ((snd_e a G h1).1 rfl) p1 p2 hq) (fun _ => rfl)
        | some _ => cases h
      | _ => cases h
    | _ => cases h
  | .call slots k es, t, X, C, W, ct, e, G, h => by
    unfold chkE at h
    cases e with
    | Call f as ks pos =>
      match f, as, ks, h with
      | .Name x p, y :: ys, [], h =>
        obtain ⟨h1, h⟩ := and2 h
        obtain ⟨h2, h⟩ := and2 h
        obtain ⟨h3, h⟩ := and2 h
        obtain ⟨h4, h⟩ := and2 h
        obtain ⟨h5, h⟩ := and2 h
        obtain ⟨r, F, hr⟩ := G.fns k x _ (of_decide_eq_true h1)
        obtain ⟨pa, ns⟩ := snd_es es G h
        have ns : (noStar y && ys.all noStar) = true := ns
        exact leaf G (se_call G.tk F hr (G.gl h4) h2 (of_decide_eq_true h3) pa (okN_d h5) (star_cons (and2 ns).1) (star_any (and2 ns).2)) (fun _ => rfl)
      | .Name x p, [], kw :: kws, h =>
        obtain ⟨h1, h⟩ := and2 h
        obtain ⟨h2, h⟩ := and2 h
        obtain ⟨h3, h⟩ := and2 h
        obtain ⟨h4, h⟩ := and2 h
        obtain ⟨h5, h⟩ := and2 h
        cases hl : ct.kws.lookup x with
        | none => rw [hl] at h; cases h
        | some ps =>
          rw [hl] at h
          obtain ⟨r, F, hr⟩ := G.kw k x _ ps (of_decide_eq_true h1) hl
          obtain ⟨pk, ks⟩ := snd_ks es G h
          obtain ⟨k1, k2, k3⟩ := ks pos X.env
          exact leaf G (se_callK G.tk F hr (G.gl h4) h2 (of_decide_eq_true h3) pk (okN_d h5) k2 k1 (by rw [k3]; rfl)) (fun _ => rfl)
    | _ => cases h
  | .pop i, t, X, C, W, ct, e, G, h => by
    unfold chkE at h
    cases e with
    | Call f as ks cpos =>
      match f, as, ks, h with
      | .Attribute (.Name x p') m apos, [], [], h =>
        obtain ⟨h0, h⟩ := and2 h
        obtain ⟨h1, h⟩ := and2 h
        obtain ⟨h2, h3⟩ := and2 h
        obtain ⟨v1, v2, v3, v4⟩ := G.vr h3
        have h1 := eq_of_beq h1
        subst h1
        exact valu h0 (se_pop v1 v2 v3 v4 rfl h2)
    | _ => cases h
  | .popAt i a, t, X, C, W, ct, e, G, h => by
    unfold chkE at h
    cases e with
    | Call f as ks cpos =>
      match f, as, ks, h with
      | .Attribute (.Name x p') m apos, [y], [], h =>
        obtain ⟨h0, h⟩ := and2 h
        obtain ⟨h1, h⟩ := and2 h
        obtain ⟨h2, h⟩ := and2 h
        obtain ⟨h3, h⟩ := and2 h
        obtain ⟨h4, h⟩ := and2 h
        obtain ⟨h5, h6⟩ := and2 h
        obtain ⟨v1, v2, v3, v4⟩ := G.vr h3
        have pe := (snd_e a G h6).1 rfl
        have h1 := eq_of_beq h1
        subst h1
        have hb2 : noStars [y] = true := by
          show (noStar y && true) = true
          rw [h4]
          rfl
        exact valu h0 (se_popAt h5 v1 v2 v3 v4 (sa_cons h5 pe sa_nil (star_cons h4)) rfl (by rw [star_all hb2]; rfl) h2 (star_cons h4) rfl)
    | _ => cases h
  | .lrg (.cons a' .nil), t, X, C, W, ct, e, G, h => by
    unfold chkE at h
    cases e with
    | Call f as ks pos =>
      match f, as, ks, h with
      | .Name z p, [.Call g bs ks2 pos2], [], h =>
        match g, bs, ks2, h with
        | .Name x p2, [a], [], h =>
          obtain ⟨h0, h⟩ := and2 h
          obtain ⟨h1, h⟩ := and2 h
          obtain ⟨h2, h⟩ := and2 h
          obtain ⟨h3, h⟩ := and2 h
          obtain ⟨h4, h⟩ := and2 h
          obtain ⟨h5, h6⟩ := and2 h
          obtain ⟨f1, f2, f3⟩ := G.fr h2
          obtain ⟨g1, g2, g3⟩ := G.fr h4
          have h1 := eq_of_beq h1
          have h3 := eq_of_beq h3
          have pe := (snd_e a' G h6).1 rfl
          subst h1
          subst h3
          exact valu h0 (se_lrg1 G.calm f1 f2 g1 g2 pe (star_cons h5))
    | _ => cases h
  | .lrg (.cons a' (.cons b' .nil)), t, X, C, W, ct, e, G, h => by
    unfold chkE at h
    cases e with
    | Call f as ks pos =>
      match f, as, ks, h with
      | .Name z p, [.Call g bs ks2 pos2], [], h =>
        match g, bs, ks2, h with
        | .Name x p2, [a, b], [], h =>
          obtain ⟨h0, h⟩ := and2 h
          obtain ⟨h1, h⟩ := and2 h
          obtain ⟨h2, h⟩ := and2 h
          obtain ⟨h3, h⟩ := and2 h
          obtain ⟨h4, h⟩ := and2 h
          obtain ⟨h5, h⟩ := and2 h
          obtain ⟨h6, h⟩ := and2 h
          obtain ⟨h7, h⟩ := and2 h
          obtain ⟨h8, h9⟩ := and2 h
          obtain ⟨f1, f2, f3⟩ := G.fr h2
          obtain ⟨g1, g2, g3⟩ := G.fr h4
          have h1 := eq_of_beq h1
          have h3 := eq_of_beq h3
          have pe := (snd_e a' G h8).1 rfl
          have pe2 := (snd_e b' G h9).1 rfl
          have hb2 : noStars [b] = true := by
            show (noStar b && true) = true
            rw [h6]
            rfl
          subst h1
          subst h3
          exact valu h0 (se_lrg2 G.calm f1 f2 g1 g2 pe pe2 (star_cons h5) (star_cons h6) (star_any hb2))
    | _ => cases h
  | .lrg .nil, t, X, C, W, ct, e, G, h => by unfold chkE at h; cases h
  | .lrg (.io _ _), t, X, C, W, ct, e, G, h => by unfold chkE at h; cases h
  | .lrg (.cons _ (.io _ _)), t, X, C, W, ct, e, G, h => by unfold chkE at h; cases h
  | .lrg (.cons _ (.cons _ (.cons _ _))), t, X, C, W, ct, e, G, h => by unfold chkE at h; cases h
  | .lrg (.cons _ (.cons _ (.io _ _))), t, X, C, W, ct, e, G, h => by unfold chkE at h; cases h
  | .me m a (.cons b .nil), t, X, C, W, ct, e, G, h => by
    unfold chkE at h
    obtain ⟨hq, h⟩ := and2 h
    cases e with
    | Call f as ks cpos =>
      match f, as, ks, h with
      | .Attribute o nm apos, [y], [], h =>
        obtain ⟨h0, h⟩ := and2 h
        obtain ⟨h1, h⟩ := and2 h
        obtain ⟨h2, h⟩ := and2 h
        obtain ⟨h3, h⟩ := and2 h
        obtain ⟨h4, h⟩ := and2 h
        obtain ⟨h5, h⟩ := and2 h
        obtain ⟨h6, h⟩ := and2 h
        obtain ⟨h7, h8⟩ := and2 h
        have po := (snd_e a G h7).1 rfl
        have pe := (snd_e b G h8).1 rfl
        have h1 := of_decide_eq_true h1
        subst h1
        have h2 := eq_of_beq h2
        subst h2
        have hb2 : noStars [y] = true := by
          show (noStar y && true) = true
          rw [h5]
          rfl
        have hs' : own a = true ∨ quiets (.cons b .nil) = true := by
          have hq : own a = true ∨ quiet b = true := by simpa using hq
          refine hq.imp id fun z => ?_
          show (quiet b && true) = true
          rw [z]
          rfl
        exact valu h0 (se_index G.K (by have := G.un; omega) hs' po (sa_cons h6 pe sa_nil (star_cons h5)) (base_any h4) (by rw [star_all hb2]; rfl) h3 (star_cons h5) rfl)
    | _ => cases h
  | .ixL i b, t, X, C, W, ct, e, G, h => by
    unfold chkE at h
    cases e with
    | Subscript l r pos =>
      cases l with
      | Name x p =>
        obtain ⟨h1, h⟩ := and2 h
        obtain ⟨h2, h3⟩ := and2 h
        obtain ⟨v1, v2, v3, v4⟩ := G.vr h1
        exact leaf G (se_ixL G.K (by have := G.un; omega) v1 v2 v3 v4 ((snd_e b G h3).1 rfl) (plain_ix h2)) (fun _ => rfl)
      | _ => cases h
    | _ => cases h
  | .popP i pp a, t, X, C, W, ct, e, G, h => by
    unfold chkE at h
    obtain ⟨hq, h⟩ := and2 h
    obtain ⟨ho, hq⟩ := and2 hq
    obtain ⟨hq1, hq2⟩ := and2 hq
    cases e with
    | Call f as ks cpos =>
      match f, as, ks, h with
      | .Attribute (.Subscript (.Name x p') pe p2) m apos, [y], [], h =>
        obtain ⟨h0, h⟩ := and2 h
        obtain ⟨h1, h⟩ := and2 h
        obtain ⟨h2, h⟩ := and2 h
        obtain ⟨h3, h⟩ := and2 h
        obtain ⟨h4, h⟩ := and2 h
        obtain ⟨h5, h⟩ := and2 h
        obtain ⟨h6, h7⟩ := and2 h
        obtain ⟨v1, v2, v3, v4⟩ := G.vr h3
        have pp' := (snd_e pp G h6).1 rfl
        have pe' := (snd_e a G h7).1 rfl
        have h1 := eq_of_beq h1
        subst h1
        have hb2 : noStars [y] = true := by
          show (noStar y && true) = true
          rw [h5]
          rfl
        exact valu h0 (se_popP G.K ho hq1 hq2 v1 v2 v3 v4 pp' (plain_ix h4) (sa_cons ho pe' sa_nil (star_cons h5)) rfl (by rw [star_all hb2]; rfl) h2 (star_cons h5) rfl)
    | _ => cases h
  | .callK k perm es, t, X, C, W, ct, e, G, h => by
    unfold chkE at h
    cases e with
    | Call f as ks pos =>
      match f, as, ks, h with
      | .Name x p, [], kw :: kws, h =>
        cases hf : ct.fns[k]? with
        | none => rw [hf] at h; cases h
        | some q =>
          obtain ⟨y, io⟩ := q
          rw [hf] at h
          obtain ⟨h1, h⟩ := and2 h
          obtain ⟨h2, h⟩ := and2 h
          obtain ⟨h3, h⟩ := and2 h
          obtain ⟨h4, h⟩ := and2 h
          obtain ⟨h5, h⟩ := and2 h
          obtain ⟨h6, h⟩ := and2 h
          obtain ⟨h7, hkk⟩ := and2 h
          have h1 := of_decide_eq_true h1
          subst h1
          obtain ⟨r, F, hr⟩ := G.kwp k y io _ perm hf (of_decide_eq_true h5)
          obtain ⟨pk, ks⟩ := snd_ks es G hkk
          obtain ⟨k1, k2, k3⟩ := ks pos X.env
          exact leaf G (se_callP G.tk F hr (G.gl h6) h2 (of_decide_eq_true h3) h4 (fun ρ ds ρ' he => by rw [evs_len es he, chkKs_len es hkk]) pk (okN_d h7) k2 k1 (by rw [k3]; rfl)) (fun _ => rfl)
    | _ => cases h
  | .get a k d, t, X, C, W, ct, e, G, h => by
    unfold chkE at h
    obtain ⟨hq, h⟩ := and2 h
    cases e with
    | Call f as ks cpos =>
      match f, as, ks, h with
      | .Attribute o nm apos, [y, z], [], h =>
        obtain ⟨h0, h⟩ := and2 h
        obtain ⟨h1, h⟩ := and2 h
        obtain ⟨h2, h⟩ := and2 h
        obtain ⟨h3, h⟩ := and2 h
        obtain ⟨h4, h⟩ := and2 h
        obtain ⟨h5, h⟩ := and2 h
        obtain ⟨h6, h⟩ := and2 h
        obtain ⟨h7, h8⟩ := and2 h
        have po := (snd_e a G h6).1 rfl
        have pk := (snd_e k G h7).1 rfl
        have pd := (snd_e d G h8).1 rfl
        have h1 := eq_of_beq h1
        subst h1
        have st : starEach [y, z] X.env = [(false, eval y X.env), (false, eval z X.env)] := by rw [star_cons h4, star_cons h5]; rfl
        have hb2 : noStars [y, z] = true := by
          show (noStar y && (noStar z && true)) = true
          rw [h4, h5]
          rfl
        exact valu h0 (se_get (by have := G.un; omega) (and2 hq).1 (and2 hq).2 po pk pd ⟨base_any h3, by rw [star_all hb2]; rfl, h2, by rw [st]; rfl⟩)
    | _ => cases h
  | .srtK k a, t, X, C, W, ct, e, G, h => by
    unfold chkE at h
    cases e with
    | Call f as ks cpos =>
      match f, as, ks, h with
      | .Name g p, [x], [kw], h =>
        match kw, h with
        | ⟨some n, v, kpos⟩, h =>
          cases v with
          | Name y q =>
            obtain ⟨h0, h⟩ := and2 h
            obtain ⟨h1, h⟩ := and2 h
            obtain ⟨h2, h⟩ := and2 h
            obtain ⟨h3, h⟩ := and2 h
            obtain ⟨h4, h⟩ := and2 h
            obtain ⟨h5, h⟩ := and2 h
            obtain ⟨h6, h⟩ := and2 h
            obtain ⟨h7, h⟩ := and2 h
            obtain ⟨h8, h⟩ := and2 h
            obtain ⟨g1, g2, g3⟩ := G.fr h3
            have h1 := eq_of_beq h1
            have h2 := eq_of_beq h2
            have pe := (snd_e a G h).1 rfl
            subst h1
            subst h2
            exact valu h0 (se_srtK G.K (by have := G.un; omega) (G.key k y (of_decide_eq_true h5) h6) g1 g2 (G.gl h7) (okN_d h8) pe (fun env => star_cons h4))
          | _ => cases h
    | _ => cases h
  | .cmp2 p1 p2 a b c, t, X, C, W, ct, e, G, h => by
    unfold chkE at h
    obtain ⟨hq, h⟩ := and2 h
    obtain ⟨hq1, hq2⟩ := and2 hq
    cases e with
    | Compare l os rs pos =>
      match os, rs, h with
      | [o1, o2], [m, r], h =>
        obtain ⟨h0, h⟩ := and2 h
        obtain ⟨h1, h⟩ := and2 h
        obtain ⟨h2, h⟩ := and2 h
        obtain ⟨h3, h⟩ := and2 h
        obtain ⟨h4, h⟩ := and2 h
        obtain ⟨h5, h6⟩ := and2 h
        have h1 := of_decide_eq_true h1
        have h2 := of_decide_eq_true h2
        exact valu h0 (se_cmp2 G.K (G.cmp h1) (G.cmp h2) (cmp_bl2 h1) (cmp_bl2 h2) ((snd_e a G h4).1 rfl) ((snd_e b G h5).1 rfl) ((snd_e c G h6).1 rfl) hq1 hq2 (by simpa using h3))
    | _ => cases h
  | .me _ _ .nil, t, X, C, W, ct, e, G, h => by unfold chkE at h; cases h
  | .me _ _ (.io _ _), t, X, C, W, ct, e, G, h => by unfold chkE at h; cases h
  | .me _ _ (.cons _ (.cons _ _)), t, X, C, W, ct, e, G, h => by unfold chkE at h; cases h
  | .me _ _ (.cons _ (.io _ _)), t, X, C, W, ct, e, G, h => by unfold chkE at h; cases h
  | .lc ow tg it c elt, t, X, C, W, ct, e, G, h => by
    unfold chkE at h
    cases e with
    | ListComp x gs scope pos =>
      match gs, h with
      | [⟨tg', iter, ifs, 0⟩], h =>
        obtain ⟨h0, h⟩ := and2 h
        obtain ⟨h1, h⟩ := and2 h
        obtain ⟨h2, h⟩ := and2 h
        obtain ⟨h3, h⟩ := and2 h
        obtain ⟨h4, h⟩ := and2 h
        obtain ⟨h5, h⟩ := and2 h
        obtain ⟨h6, h7⟩ := and2 h
        have hk := blk_kind h4
        have hm := own_map (ct := ct) (ow := ow)
        obtain ⟨p1, p2⟩ := snd_it it G h3
        have := se_lc (X := X) (C := C) (W := W) (ow := ownN ct ow) (pos := pos) h1 (by
          rw [hm]
          intro i hi
          have := List.all_eq_true.mp h2 i hi
          simpa using this) G.calm (by rw [G.N]; exact G.nd) p1 (by rw [G.N, G.sc]; exact blkOk_by h4)
          (fun s H Cc cl fp => snd_tg tg (G.blk s H scope hk Cc cl fp) h5) (fun s H Cc cl fp => snd_c c (G.blk s H scope hk Cc cl fp) h6)
          (fun s H Cc cl fp => (snd_e elt (G.blk s H scope hk Cc cl fp) h7).1 rfl) (p2 X.env)
        rw [hm] at this
        exact valu h0 this
    | _ => cases h
  | .dnil, t, X, C, W, ct, e, G, h => by
    unfold chkE at h
    cases e with
    | Dict ks vs pos =>
      match ks, vs, h with
      | [], [], h => exact valu h se_dnil
    | _ => cases h
  | .dc ow tg it c k v, t, X, C, W, ct, e, G, h => by
    unfold chkE at h
    cases e with
    | DictComp kx x gs scope pos =>
      match gs, h with
      | [⟨tg', iter, ifs, 0⟩], h =>
        obtain ⟨h0, h⟩ := and2 h
        obtain ⟨h1, h⟩ := and2 h
        obtain ⟨h2, h⟩ := and2 h
        obtain ⟨h3, h⟩ := and2 h
        obtain ⟨h4, h⟩ := and2 h
        obtain ⟨h5, h⟩ := and2 h
        obtain ⟨h6, h⟩ := and2 h
        obtain ⟨h7, h8⟩ := and2 h
        have hk := blk_kind h4
        have hm := own_map (ct := ct) (ow := ow)
        obtain ⟨p1, p2⟩ := snd_it it G h3
        have := se_dc (X := X) (C := C) (W := W) (ow := ownN ct ow) (pos := pos) h1 (by
          rw [hm]
          intro i hi
          have := List.all_eq_true.mp h2 i hi
          simpa using this) G.calm (by rw [G.N]; exact G.nd) p1 (by rw [G.N, G.sc]; exact blkOk_by h4)
          (fun s H Cc cl fp => snd_tg tg (G.blk s H scope hk Cc cl fp) h5) (fun s H Cc cl fp => snd_c c (G.blk s H scope hk Cc cl fp) h6)
          (fun s H Cc cl fp => (snd_e k (G.blk s H scope hk Cc cl fp) h7).1 rfl) (fun s H Cc cl fp => (snd_e v (G.blk s H scope hk Cc cl fp) h8).1 rfl) (p2 X.env)
        rw [hm] at this
        exact valu h0 this
    | _ => cases h
theorem snd_es : ∀ (es' : Es) {X : Cx} {C : Cfg} {W : WX} {ct : Ct} {es : List Expr}, Good X C W ct → chkEs es' ct es = true → PA X es (tA C W es') ∧ noStars es = true
  | .nil, X, C, W, ct, es, G, h => by
    unfold chkEs at h
    cases es with
    | nil => exact ⟨sa_nil, rfl⟩
    | cons _ _ => cases h
  | .cons a r, X, C, W, ct, es, G, h => by
    unfold chkEs at h
    cases es with
    | nil => cases h
    | cons e es =>
      obtain ⟨h1, h⟩ := and2 h
      obtain ⟨h2, h⟩ := and2 h
      obtain ⟨h3, h4⟩ := and2 h
      obtain ⟨g1, g2⟩ := snd_es r G h4
      exact ⟨sa_cons h2 ((snd_e a G h3).1 rfl) g1 (star_cons h1), by show (noStar e && noStars es) = true; rw [h1, g2]; rfl⟩
  | .io i r, X, C, W, ct, es, G, h => by
    unfold chkEs at h
    cases es with
    | nil => cases h
    | cons e es =>
      cases e <;> first
        | (cases h; done)
        | skip
      obtain ⟨h1, h⟩ := and2 h
      obtain ⟨g1, g2⟩ := snd_es r G h
      obtain ⟨v1, v2, v3, v4⟩ := G.vr h1
      exact ⟨sa_io v1 v2 v3 v4 g1 (star_cons rfl), by show (true && noStars es) = true; rw [g2]; rfl⟩
theorem snd_ks : ∀ (es' : Es) {X : Cx} {C : Cfg} {W : WX} {ct : Ct} {ps : List Str} {kws : List Keyword}, Good X C W ct → chkKs es' ct ps kws = true → PK X kws (tA C W es') ∧ ∀ pos env, (backToKw pos (keywordEach kws env)).filterMap (·.1) = ps ∧ (backToKw pos (keywordEach kws env)).all (·.1.isSome) = true ∧ (backToKw pos (keywordEach kws env)).any (·.1.isNone) = false
  | .nil, X, C, W, ct, ps, kws, G, h => by
    unfold chkKs at h
    match ps, kws, h with
    | [], [], _ => exact ⟨sk_nil, fun _ _ => ⟨rfl, rfl, rfl⟩⟩
  | .cons a r, X, C, W, ct, ps, kws, G, h => by
    unfold chkKs at h
    match ps, kws, h with
    | n :: ps, kw :: kws, h =>
      obtain ⟨h1, h⟩ := and2 h
      obtain ⟨h2, h⟩ := and2 h
      obtain ⟨h3, h4⟩ := and2 h
      obtain ⟨p1, p2⟩ := snd_ks r G h4
      have pe := (snd_e a G h3).1 rfl
      obtain ⟨arg, e, kp⟩ := kw
      have h1 : arg = some n := eq_of_beq h1
      subst h1
      refine ⟨sk_cons h2 pe p1, fun pos env => ?_⟩
      obtain ⟨q1, q2, q3⟩ := p2 pos env
      refine ⟨?_, ?_, ?_⟩
      · show n :: (backToKw pos (keywordEach kws env)).filterMap (·.1) = n :: ps
        rw [q1]
      · show (true && (backToKw pos (keywordEach kws env)).all (·.1.isSome)) = true
        rw [q2]; rfl
      · show (false || (backToKw pos (keywordEach kws env)).any (·.1.isNone)) = false
        rw [q3]; rfl
  | .io _ _, X, C, W, ct, ps, kws, G, h => by unfold chkKs at h; cases h
theorem snd_o : ∀ (lo : Es) {X : Cx} {C : Cfg} {W : WX} {ct : Ct} {o : Option Expr}, Good X C W ct → chkO lo ct o = true → PO X o (tPx C W lo) ∧ (match lo with | .nil => true | .cons _ .nil => true | _ => false) = true
  | .nil, X, C, W, ct, o, G, h => by
    unfold chkO at h
    cases o with
    | none => exact ⟨po_none, rfl⟩
    | some _ => cases h
  | .cons a .nil, X, C, W, ct, o, G, h => by
    unfold chkO at h
    cases o with
    | none => cases h
    | some e => exact ⟨po_some ((snd_e a G h).1 rfl), rfl⟩
  | .cons _ (.cons _ _), X, C, W, ct, o, G, h => by unfold chkO at h; cases h
  | .cons _ (.io _ _), X, C, W, ct, o, G, h => by unfold chkO at h; cases h
  | .io _ _, X, C, W, ct, o, G, h => by unfold chkO at h; cases h
theorem snd_c : ∀ (c : Es) {X : Cx} {C : Cfg} {W : WX} {ct : Ct} {ifs : List Expr}, Good X C W ct → chkC c ct ifs = true → PTs X ifs (tCs C W c)
  | .nil, X, C, W, ct, es, G, h => by
    unfold chkC at h
    cases es with
    | nil => exact tcs_nil
    | cons _ _ => cases h
  | .cons a r, X, C, W, ct, es, G, h => by
    unfold chkC at h
    match es, r, h with
    | [e], .nil, h => exact tcs_one ((snd_e a G h).2 rfl)
  | .io i r, X, C, W, ct, es, G, h => by unfold chkC at h; cases h
theorem snd_it : ∀ (it : It) {X : Cx} {C : Cfg} {W : WX} {ct : Ct} {tg iter : Expr}, Good X C W ct → chkIt it ct tg iter = true → PI X tg iter (tI C W it) ∧ ∀ env x, foldedSetIterable iter env x = pure x
  | .seq a, X, C, W, ct, tg, iter, G, h => by
    unfold chkIt at h
    obtain ⟨h1, h2⟩ := and2 h
    exact ⟨pi_seq G.K ((snd_e a G h2).1 rfl), fun env => folded_no h1⟩
  | .rng (.cons a' .nil), X, C, W, ct, tg, iter, G, h => by
    unfold chkIt at h
    cases iter with
    | Call f as ks pos =>
      match f, as, ks, h with
      | .Name x p, [a], [], h =>
        obtain ⟨h1, k1⟩ := and2 h
        obtain ⟨h2, k2⟩ := and2 k1
        obtain ⟨h3, k3⟩ := and2 k2
        obtain ⟨h4, k4⟩ := and2 k3
        have h1 := eq_of_beq h1
        obtain ⟨f1, f2, f3⟩ := G.fr h2
        have pe := (snd_e a' G k4).1 rfl
        subst h1
        exact ⟨pi_rng1 f1 f2 (sa_cons h4 pe sa_nil (star_cons h3)) (star_one h3), fun env x => rfl⟩
    | _ => cases h
  | .rng (.cons a' (.cons b' .nil)), X, C, W, ct, tg, iter, G, h => by
    unfold chkIt at h
    cases iter with
    | Call f as ks pos =>
      match f, as, ks, h with
      | .Name x p, [a, b], [], h =>
        obtain ⟨h1, k1⟩ := and2 h
        obtain ⟨h2, k2⟩ := and2 k1
        obtain ⟨h3, k3⟩ := and2 k2
        obtain ⟨h4, k4⟩ := and2 k3
        obtain ⟨h5, k5⟩ := and2 k4
        obtain ⟨h6, k6⟩ := and2 k5
        obtain ⟨h7, h8⟩ := and2 k6
        have h1 := eq_of_beq h1
        obtain ⟨f1, f2, f3⟩ := G.fr h2
        have pe := (snd_e a' G h7).1 rfl
        have pe2 := (snd_e b' G h8).1 rfl
        subst h1
        exact ⟨pi_rng2 f1 f2 (sa_cons h5 pe (sa_cons h6 pe2 sa_nil (star_cons h4)) (star_cons h3)) (by rw [star_cons h3, star_one h4]) (star_one h4), fun env x => rfl⟩
    | _ => cases h
  | .rng .nil, X, C, W, ct, tg, iter, G, h => by unfold chkIt at h; cases h
  | .rng (.io _ _), X, C, W, ct, tg, iter, G, h => by unfold chkIt at h; cases h
  | .rng (.cons _ (.io _ _)), X, C, W, ct, tg, iter, G, h => by unfold chkIt at h; cases h
  | .rng (.cons _ (.cons _ (.cons _ _))), X, C, W, ct, tg, iter, G, h => by unfold chkIt at h; cases h
  | .rng (.cons _ (.cons _ (.io _ _))), X, C, W, ct, tg, iter, G, h => by unfold chkIt at h; cases h
  | .enum a, X, C, W, ct, tg, iter, G, h => by
    unfold chkIt at h
    cases tg with
    | Tuple elts kk tpos =>
      cases iter with
      | Call f as ks pos =>
        match f, as, ks, h with
        | .Name x p, [b], [], h =>
          obtain ⟨h1, k1⟩ := and2 h
          obtain ⟨h2, k2⟩ := and2 k1
          obtain ⟨h3, k3⟩ := and2 k2
          obtain ⟨h4, k4⟩ := and2 k3
          have h1 := eq_of_beq h1
          obtain ⟨f1, f2, f3⟩ := G.fr h2
          have pe := (snd_e a G k4).1 rfl
          subst h1
          exact ⟨pi_enum' G.K f1 f2 (sa_cons h4 pe sa_nil (star_cons h3)) (star_one h3), fun env x => rfl⟩
      | _ => cases h
    | _ => cases h
  | .revd a', X, C, W, ct, tg, iter, G, h => by
    unfold chkIt at h
    cases iter with
    | Call f as ks pos =>
      match f, as, ks, h with
      | .Name x p, [b], [], h =>
        obtain ⟨h1, k1⟩ := and2 h
        obtain ⟨h2, k2⟩ := and2 k1
        obtain ⟨h3, k3⟩ := and2 k2
        have h1 := eq_of_beq h1
        obtain ⟨f1, f2, f3⟩ := G.fr h2
        have pe := (snd_e a' G k3).1 rfl
        subst h1
        exact ⟨pi_revd G.K f1 f2 pe (star_cons h3), fun env x => rfl⟩
    | _ => cases h
  | .zip a' b', X, C, W, ct, tg, iter, G, h => by
    unfold chkIt at h
    cases tg with
    | Tuple elts kk tpos =>
      cases iter with
      | Call f as ks pos =>
        match f, as, ks, h with
        | .Name x p, [a, b], [], h =>
          obtain ⟨h1, k1⟩ := and2 h
          obtain ⟨h2, k2⟩ := and2 k1
          obtain ⟨h3, k3⟩ := and2 k2
          obtain ⟨h4, k4⟩ := and2 k3
          obtain ⟨h5, k5⟩ := and2 k4
          obtain ⟨h6, k6⟩ := and2 k5
          obtain ⟨h7, h8⟩ := and2 k6
          have h1 := eq_of_beq h1
          obtain ⟨f1, f2, f3⟩ := G.fr h2
          have pe := (snd_e a' G h7).1 rfl
          have pe2 := (snd_e b' G h8).1 rfl
          subst h1
          have hb2 : noStars [b] = true := by
            show (noStar b && true) = true
            rw [h4]
            rfl
          exact ⟨pi_zip' G.K f1 f2 (sa_cons h5 pe (sa_cons h6 pe2 sa_nil (star_cons h4)) (star_cons h3)) (star_cons h3) (star_any hb2), fun env x => rfl⟩
      | _ => cases h
    | _ => cases h
end
end Ly

namespace Ly
open PySem PySem.Spec L2
def swB (ct : Ct) (t : Str) (p vp : Pos) (scope : Scope) : Bool := ct.sc.names.lookup t == some .local && p.line == vp.line && !(scope.names.any fun (n, k) => n == t && (k == .local || k == .cell))
def isDc : E → Bool
  | .dc _ _ _ _ _ _ => true
  | _ => false
def isLc : E → Bool
  | .lc _ _ _ _ _ => true
  | _ => false
mutual
def chkS : S → List Nat → Ct → Stmt → Bool
  | .pass, P, ct, st => (match st with
    | .Pass _ => true
    | .Expr v _ => (match v with
      | .Constant (.str _) _ _ => true
      | _ => false)
    | _ => false)
  | .expr e', P, ct, st => (match st with
    | .Expr e _ => noComp e && chkE e' false ct e
    | _ => false)
  | .asg i e', P, ct, st => own e' && (!(P.contains i) && (match st with
    | .Assign ts e _ => (match ts with
      | [.Name x py] => nmB ct i x && (locB ct x && (chkE e' false ct e && (match e with
        | .ListComp _ _ scope vp => isLc e' || !(swB ct x py vp scope)
        | .DictComp _ _ _ scope vp => isDc e' || !(swB ct x py vp scope)
        | _ => noComp e)))
      | _ => false)
    | _ => false))
  | .asgT (.tp tg) e', P, ct, st => (tnss tg).all (fun i => !(P.contains i)) && (match st with
    | .Assign ts e _ => (match ts with
      | [.Tuple xs k p] => noTup e && (chkTg (.tp tg) ct (.Tuple xs k p) && chkE e' false ct e)
      | _ => false)
    | _ => false)
  | .asgT (.nm _) _, _, _, _ => false
  | .asgP i j a b, P, ct, st => !(P.contains i) && (!(P.contains j) && (decide (i ≠ j) && (match st with
    | .Assign ts e _ => (match ts, e with
      | [.Tuple [.Name x px, .Name y py] _ _], .Tuple [l, r] _ _ => nmB ct i x && (nmB ct j y && (lclB ct x && (lclB ct y && (py.line == px.line && (!(x == y) && (noStar l && (noStar r && (!([l, r].all (foldedForSure 8)) && (!([l, r].all (constantsAlone 8)) && (own a && (own b && (chkE a false ct l && chkE b false ct r))))))))))))
      | _, _ => false)
    | _ => false)))
  | .aug i o e', P, ct, st => !(P.contains i) && (match st with
    | .AugAssign t op e _ => (match t with
      | .Name x _ => decide (ipOp op = some o) && (nmB ct i x && (locB ct x && chkE e' false ct e))
      | _ => false)
    | _ => false)
  | .setI i ix' e', P, ct, st => own e' && (quiet ix' && (match st with
    | .Assign ts e _ => (match ts with
      | [.Subscript (.Name x _) ix _] => vrB ct i x && (noSlice ix && (chkE e' false ct e && chkE ix' false ct ix))
      | _ => false)
    | _ => false))
  | .appP i p e', P, ct, st => (own e' && (quiet p && quiet e')) && (match st with
    | .Expr v p0 => (match v with
      | .Call f as ks cpos => (match f, as, ks with
        | .Attribute (.Subscript (.Name x _) pe _) m apos, [e], [] => m == ("append" : Str) && (apos.endLine == cpos.line && (vrB ct i x && (noSlice pe && (noStar e && (chkE p false ct pe && chkE e' false ct e)))))
        | _, _, _ => false)
      | _ => false)
    | _ => false)
  | .setP i p ix' e', P, ct, st => (own e' && (quiet p && quiet ix')) && (match st with
    | .Assign ts e _ => (match ts with
      | [.Subscript (.Subscript (.Name x _) pe _) ix _] => vrB ct i x && (noSlice pe && (noSlice ix && (chkE e' false ct e && (chkE p false ct pe && chkE ix' false ct ix))))
      | _ => false)
    | _ => false)
  | .augI i ix' o e', P, ct, st => (match st with
    | .AugAssign t op e _ => (match t with
      | .Subscript l ix _ => (match l with
        | .Name x _ => decide (ipOp op = some o) && (vrB ct i x && (noSlice ix && (chkE ix' false ct ix && chkE e' false ct e)))
        | _ => false)
      | _ => false)
    | _ => false)
  | .app i e', P, ct, st => own e' && (match st with
    | .Expr v _ => (match v with
      | .Call f as ks cpos => (match f, as, ks with
        | .Attribute (.Name x _) m apos, [e], [] => m == ("append" : Str) && (apos.endLine == cpos.line && (vrB ct i x && (noStar e && chkE e' false ct e)))
        | _, _, _ => false)
      | _ => false)
    | _ => false)
  | .iff c a b, P, ct, st => (match st with
    | .If x as bs _ => chkE c true ct x && (chkSs a P ct as && chkSs b P ct bs)
    | _ => false)
  | .whl c b, P, ct, st => (match st with
    | .While x bs es _ => (match es with
      | [] => chkE c true ct x && chkSs b P ct bs
      | _ => false)
    | _ => false)
  | .forr tg it b, P, ct, st => (tns tg).all (fun i => !(P.contains i)) && (match st with
    | .For t iter bs es _ => (match es with
      | [] => chkTg tg ct t && (chkIt it ct t iter && chkSs b P ct bs)
      | _ => false)
    | _ => false)
  | .ret e', P, ct, st => own e' && (match st with
    | .Return v _ => (match v with
      | some e => chkE e' false ct e
      | none => false)
    | _ => false)
  | .retN, P, ct, st => (match st with
    | .Return v _ => (match v with
      | none => true
      | _ => false)
    | _ => false)
  | .brk, P, ct, st => (match st with
    | .Break _ => true
    | _ => false)
  | .cnt, P, ct, st => (match st with
    | .Continue _ => true
    | _ => false)
def chkSs : Ss → List Nat → Ct → List Stmt → Bool
  | .nil, P, ct, sts => (match sts with
    | [] => true
    | _ => false)
  | .cons s ss, P, ct, sts => (match sts with
    | st :: r => chkS s P ct st && chkSs ss P ct r
    | [] => false)
end
variable [Fns]
section
variable {X : Cx} {C : Cfg} {W : WX} {ct : Ct} {P : List Nat}
theorem notP {P : List Nat} {i : Nat} (h : (!(P.contains i)) = true) : i ∉ P := by simpa using h
theorem allP {P is : List Nat} (h : is.all (fun i => !(P.contains i)) = true) : ∀ i ∈ is, i ∉ P := fun i hi => notP (List.all_eq_true.mp h i hi)
theorem sw_no {e : Expr} {t : Option Expr} {n : Nat} {env : Env} (h : noComp e = true) : swapsWith e t n env = pure false := by
  cases e <;> first | rfl | cases h
theorem sw_tup {e : Expr} {xs : List Expr} {k : Nat} {p : Pos} {n : Nat} {env : Env} : swapsWithSole [.Tuple xs k p] e n env = pure false := by
  cases e <;> rfl
theorem sw_sub {e o ix : Expr} {p : Pos} {n : Nat} {env : Env} : swapsWithSole [.Subscript o ix p] e n env = pure false := by
  cases e <;> rfl
theorem ss_no {xs : List Expr} {k : Nat} {p : Pos} {e : Expr} {env : Env} (h : noTup e = true) : swappedStores [.Tuple xs k p] e env = pure none := by
  cases e <;> first
    | (cases h; done)
    | rfl
theorem ss_sub {o ix : Expr} {p : Pos} {e : Expr} {env : Env} : swappedStores [.Subscript o ix p] e env = pure none := by
  cases e <;> rfl
theorem dups {x y : Str} (h : (x == y) = false) : [x, y].eraseDups = [x, y] := by
  have hyx : (y == x) = false := by rw [BEq.comm]; exact h
  show List.eraseDupsBy.loop (· == ·) [x, y] [] = [x, y]
  unfold List.eraseDupsBy.loop
  show List.eraseDupsBy.loop (· == ·) [y] [x] = [x, y]
  unfold List.eraseDupsBy.loop
  have e : ([x].any fun z => y == z) = false := by
    show ((y == x) || false) = false
    rw [hyx]; rfl
  simp only [e]
  rfl
theorem Good.bk (G : Good X C W ct) : X.env.blockKind = .function := by
  unfold Env.blockKind
  rw [G.sc, G.kind]
  rfl
theorem Good.ko (G : Good X C W ct) (x : Str) : X.env.kindOf x = ct.sc.names.lookup x := by
  show X.env.scope.names.lookup x = _
  rw [G.sc]
theorem sw_lc (G : Good X C W ct) {elt : Expr} {gs : List Comprehension} {scope : Scope} {vp py : Pos} {x : Str} {n : Nat} : swapsWith (.ListComp elt gs scope vp) (some (.Name x py)) n X.env = pure (swB ct x py vp scope) := by
  show pure (X.env.blockKind == .function && X.env.kindOf x == some .local && py.line == vp.line && !(scope.names.any fun (n, k) => n == x && (k == .local || k == .cell))) = _
  rw [G.bk, G.ko]
  rfl
theorem sw_dc (G : Good X C W ct) {k elt : Expr} {gs : List Comprehension} {scope : Scope} {vp py : Pos} {x : Str} {n : Nat} : swapsWith (.DictComp k elt gs scope vp) (some (.Name x py)) n X.env = pure (swB ct x py vp scope) := by
  show pure (X.env.blockKind == .function && X.env.kindOf x == some .local && py.line == vp.line && !(scope.names.any fun (n, k) => n == x && (k == .local || k == .cell))) = _
  rw [G.bk, G.ko]
  rfl
theorem lclB_some {x : Str} (h : lclB ct x = true) : ct.sc.names.lookup x = some .local := by
  unfold lclB at h
  split at h
  · assumption
  · cases h
def nmsOf (env : Env) (n : Nat) (e : Expr) : Option Str := match e with
  | .Name id pos => if (env.kindOf id == some NameKind.local && pos.line == n) = true then some id else none
  | _ => none
theorem ss_two (G : Good X C W ct) {x y : Str} {px py pt pt2 : Pos} {kt k2 : Nat} {l r : Expr} (hx : lclB ct x = true) (hy : lclB ct y = true) (hl : (py.line == px.line) = true) (hn : (!(x == y)) = true) (nl : noStar l = true) (nr : noStar r = true) (hf : (!([l, r].all (foldedForSure 8))) = true) (hc : (!([l, r].all (constantsAlone 8))) = true) :
    swappedStores [.Tuple [.Name x px, .Name y py] kt pt] (.Tuple [l, r] k2 pt2) X.env = pure (some [x, y]) := by
  have kx := (G.ko x).trans (lclB_some hx)
  have ky := (G.ko y).trans (lclB_some hy)
  have e2 : (x == y) = false := by simpa using hn
  have e3 : ¬ ([l, r].all (foldedForSure 8) = true) := fun z => by rw [z] at hf; cases hf
  have e4 : ¬ ([l, r].all (constantsAlone 8) = true) := fun z => by rw [z] at hc; cases hc
  have e5 : ¬ (([l, r].any fun e => match e with | .Starred _ _ => true | _ => false) = true) := by
    cases l <;> cases r <;> first | (cases nl; done) | (cases nr; done) | exact Bool.false_ne_true
  have e7 : List.filterMap (nmsOf X.env px.line) [Expr.Name x px, Expr.Name y py] = [x, y] := by
    rw [List.filterMap_cons_some (b := x) (by show (if (X.env.kindOf x == some NameKind.local && px.line == px.line) = true then some x else none) = some x; rw [kx, if_pos (by rw [show (px.line == px.line) = true from beq_self_eq_true _]; rfl)]),
      List.filterMap_cons_some (b := y) (by show (if (X.env.kindOf y == some NameKind.local && py.line == px.line) = true then some y else none) = some y; rw [ky, hl, if_pos (by rfl)]), List.filterMap_nil]
  unfold swappedStores
  show (if (!(2 == 2 || 2 == 3) || 2 != 2 || X.env.blockKind != ScopeKind.function) = true then pure none else
    if ([l, r].any fun e => match e with | .Starred _ _ => true | _ => false) = true then pure none else
    if ((List.filterMap (nmsOf X.env px.line) [Expr.Name x px, Expr.Name y py]).length != 2 || (List.filterMap (nmsOf X.env px.line) [Expr.Name x px, Expr.Name y py]).eraseDups.length != (List.filterMap (nmsOf X.env px.line) [Expr.Name x px, Expr.Name y py]).length) = true then pure none else
    if [l, r].all (foldedForSure 8) = true then pure none else
    if [l, r].all (constantsAlone 8) = true then (do unsupported "assign.tuple-of-constant-expressions:order-of-the-stores"; pure (some (List.filterMap (nmsOf X.env px.line) [Expr.Name x px, Expr.Name y py]))) else pure (some (List.filterMap (nmsOf X.env px.line) [Expr.Name x px, Expr.Name y py]))) = _
  rw [e7, dups e2, if_neg (by rw [G.bk]; exact fun z => by cases z), if_neg e5, if_neg (fun z : ([x, y].length != 2 || [x, y].length != [x, y].length) = true => by cases z), if_neg e3, if_neg e4]
theorem asg_one {tg : Expr} {env : Env} (h : noStar tg = true) : (assignEach [tg] env).map (·.2) = [assign tg env] := by rw [asg_cons h]; rfl
theorem asg_sub {o ix : Expr} {p : Pos} {env : Env} (h : noSlice ix = true) : ∀ v, assign (.Subscript o ix p) env v = (do
      let ov ← holding [v] (eval o env)
      let iv ← holding [v, ov] (eval ix env)
      standAt p
      holding [v, ov, iv] (setItem ov iv v)
      release [v, ov, iv] []) := by
  intro v
  cases ix <;> first | rfl | cases h
/-- a comprehension's parts -/
theorem lc_parts (G : Good X C W ct) {ow : List Nat} {tg : Tg} {it : It} {c : Es} {elt : E} {x tg' iter : Expr} {ifs : List Expr} {scope : Scope} {vp : Pos} (h : chkE (.lc ow tg it c elt) false ct (.ListComp x [⟨tg', iter, ifs, 0⟩] scope vp) = true) :
    own elt = true ∧ (∀ i ∈ tns tg, i ∈ (ownN ct ow).map (·.2)) ∧ PI X tg' iter (tI C W it) ∧ BlkOk X.N X.env.scope scope (ownN ct ow) ∧
    (∀ (s : Shared) (H : Hp) (Cc : Addr) (cl : List (Str × Addr)) (fp : List Addr), PG (X.blk s H scope (compEnvC scope cl Cc X.env) fp) tg' (tG C.K tg)) ∧ (∀ (s : Shared) (H : Hp) (Cc : Addr) (cl : List (Str × Addr)) (fp : List Addr), PTs (X.blk s H scope (compEnvC scope cl Cc X.env) fp) ifs (tCs C WF c)) ∧
    (∀ (s : Shared) (H : Hp) (Cc : Addr) (cl : List (Str × Addr)) (fp : List Addr), PE (X.blk s H scope (compEnvC scope cl Cc X.env) fp) x (tD C WF elt)) ∧ ∀ env x, foldedSetIterable iter env x = pure x := by
  unfold chkE at h
  obtain ⟨h0, h⟩ := and2 h
  obtain ⟨h1, h⟩ := and2 h
  obtain ⟨h2, h⟩ := and2 h
  obtain ⟨h3, h⟩ := and2 h
  obtain ⟨h4, h⟩ := and2 h
  obtain ⟨h5, h⟩ := and2 h
  obtain ⟨h6, h7⟩ := and2 h
  have hk := blk_kind h4
  obtain ⟨p1, p2⟩ := snd_it it G h3
  refine ⟨h1, ?_, p1, by rw [G.N, G.sc]; exact blkOk_by h4, fun s H Cc cl fp => snd_tg tg (G.blk s H scope hk Cc cl fp) h5, fun s H Cc cl fp => snd_c c (G.blk s H scope hk Cc cl fp) h6, fun s H Cc cl fp => (snd_e elt (G.blk s H scope hk Cc cl fp) h7).1 rfl, p2⟩
  rw [own_map]
  intro i hi
  have := List.all_eq_true.mp h2 i hi
  simpa using this
theorem dc_parts (G : Good X C W ct) {ow : List Nat} {tg : Tg} {it : It} {c : Es} {ke elt : E} {kx x tg' iter : Expr} {ifs : List Expr} {scope : Scope} {vp : Pos} (h : chkE (.dc ow tg it c ke elt) false ct (.DictComp kx x [⟨tg', iter, ifs, 0⟩] scope vp) = true) :
    own elt = true ∧ (∀ i ∈ tns tg, i ∈ (ownN ct ow).map (·.2)) ∧ PI X tg' iter (tI C W it) ∧ BlkOk X.N X.env.scope scope (ownN ct ow) ∧
    (∀ (s : Shared) (H : Hp) (Cc : Addr) (cl : List (Str × Addr)) (fp : List Addr), PG (X.blk s H scope (compEnvC scope cl Cc X.env) fp) tg' (tG C.K tg)) ∧ (∀ (s : Shared) (H : Hp) (Cc : Addr) (cl : List (Str × Addr)) (fp : List Addr), PTs (X.blk s H scope (compEnvC scope cl Cc X.env) fp) ifs (tCs C WF c)) ∧
    (∀ (s : Shared) (H : Hp) (Cc : Addr) (cl : List (Str × Addr)) (fp : List Addr), PE (X.blk s H scope (compEnvC scope cl Cc X.env) fp) kx (tD C WF ke)) ∧ (∀ (s : Shared) (H : Hp) (Cc : Addr) (cl : List (Str × Addr)) (fp : List Addr), PE (X.blk s H scope (compEnvC scope cl Cc X.env) fp) x (tD C WF elt)) ∧ ∀ env x, foldedSetIterable iter env x = pure x := by
  unfold chkE at h
  obtain ⟨h0, h⟩ := and2 h
  obtain ⟨h1, h⟩ := and2 h
  obtain ⟨h2, h⟩ := and2 h
  obtain ⟨h3, h⟩ := and2 h
  obtain ⟨h4, h⟩ := and2 h
  obtain ⟨h5, h⟩ := and2 h
  obtain ⟨h6, h⟩ := and2 h
  obtain ⟨h7, h8⟩ := and2 h
  have hk := blk_kind h4
  obtain ⟨p1, p2⟩ := snd_it it G h3
  refine ⟨h1, ?_, p1, by rw [G.N, G.sc]; exact blkOk_by h4, fun s H Cc cl fp => snd_tg tg (G.blk s H scope hk Cc cl fp) h5, fun s H Cc cl fp => snd_c c (G.blk s H scope hk Cc cl fp) h6, fun s H Cc cl fp => (snd_e ke (G.blk s H scope hk Cc cl fp) h7).1 rfl, fun s H Cc cl fp => (snd_e elt (G.blk s H scope hk Cc cl fp) h8).1 rfl, p2⟩
  rw [own_map]
  intro i hi
  have := List.all_eq_true.mp h2 i hi
  simpa using this
end
mutual
theorem snd_s : ∀ (b : S) {X : Cx} {C : Cfg} {W : WX} {ct : Ct} {P : List Nat} {st : Stmt}, Good X C W ct → PassesOwn (model X.prog X.w) X.A X.env X.xe → chkS b P ct st = true → PS X st (tS C W P b)
  | .pass, X, C, W, ct, P, st, G, po, h => by
    unfold chkS at h
    cases st with
    | Pass p => exact s_pass
    | Expr v p =>
      match v, h with
      | .Constant (.str x) j p', h => exact s_doc
    | _ => cases h
  | .expr e', X, C, W, ct, P, st, G, po, h => by
    unfold chkS at h
    cases st with
    | Expr v p =>
      obtain ⟨h1, h2⟩ := and2 h
      exact s_expr ((snd_e e' G h2).1 rfl) (sw_no h1)
    | _ => cases h
  | .asg i e', X, C, W, ct, P, st, G, po, h => by
    unfold chkS at h
    obtain ⟨ho, h⟩ := and2 h
    obtain ⟨hP, h⟩ := and2 h
    cases st with
    | Assign ts e p =>
      match ts, h with
      | [.Name x py], h =>
        obtain ⟨h1, h⟩ := and2 h
        obtain ⟨h2, h⟩ := and2 h
        obtain ⟨h3, h⟩ := and2 h
        have pe := (snd_e e' G h3).1 rfl
        have hN : X.N.Nodup := by rw [G.N]; exact G.nd
        by_cases hc : noComp e = true
        · exact s_asg ho (notP hP) hN (G.nm h1) (G.loc h2).1 (G.loc h2).2 pe (sw_no hc)
        · cases e with
          | ListComp elt gs scope vp =>
            have h : (isLc e' || !(swB ct x py vp scope)) = true := h
            by_cases hs : swB ct x py vp scope = true
            · have hl : isLc e' = true := by rw [hs] at h; simpa using h
              cases e' with
              | lc ow tg it c elt' =>
                have h3' := h3
                unfold chkE at h3'
                match gs, h3', h3 with
                | [⟨tg', iter, ifs, 0⟩], _, h3 =>
                  obtain ⟨q1, q2, q3, q4, q5, q6, q7, q8⟩ := lc_parts G h3
                  have hx : X.env.scope.names.lookup x = some .local := by
                    rw [G.sc]
                    have := (and2 (and2 hs).1).1
                    exact eq_of_beq this
                  have := s_asgLc (W := W) (P := P) (ow := ownN ct ow) (spos := p) (pos := vp) (py := py) q1 q2 (notP hP) G.calm hN (G.nm h1) hx (by rw [sw_lc G, hs]) q3 q4 q5 q6 q7 (q8 X.env)
                  rw [own_map] at this
                  exact this
              | _ => cases hl
            · exact s_asg ho (notP hP) hN (G.nm h1) (G.loc h2).1 (G.loc h2).2 pe (by rw [sw_lc G]; simp [hs])
          | SetComp _ _ _ _ => cases h
          | DictComp kx elt gs scope vp =>
            have h : (isDc e' || !(swB ct x py vp scope)) = true := h
            by_cases hs : swB ct x py vp scope = true
            · have hl : isDc e' = true := by rw [hs] at h; simpa using h
              cases e' with
              | dc ow tg it c ke elt' =>
                have h3' := h3
                unfold chkE at h3'
                match gs, h3', h3 with
                | [⟨tg', iter, ifs, 0⟩], _, h3 =>
                  obtain ⟨q1, q2, q3, q4, q5, q6, q7, q8, q9⟩ := dc_parts G h3
                  have hx : X.env.scope.names.lookup x = some .local := by
                    rw [G.sc]
                    have := (and2 (and2 hs).1).1
                    exact eq_of_beq this
                  have := s_asgDc (W := W) (P := P) (ow := ownN ct ow) (spos := p) (pos := vp) (py := py) q1 q2 (notP hP) G.calm hN (G.nm h1) hx (by rw [sw_dc G, hs]) q3 q4 q5 q6 q7 q8 (q9 X.env)
                  rw [own_map] at this
                  exact this
              | _ => cases hl
            · exact s_asg ho (notP hP) hN (G.nm h1) (G.loc h2).1 (G.loc h2).2 pe (by rw [sw_dc G]; simp [hs])
          | _ => exact absurd rfl hc
    | _ => cases h
  | .asgT (.tp tg) e', X, C, W, ct, P, st, G, po, h => by
    unfold chkS at h
    obtain ⟨hP, h⟩ := and2 h
    cases st with
    | Assign ts e p =>
      match ts, h with
      | [.Tuple xs k p'], h =>
        obtain ⟨h1, h⟩ := and2 h
        obtain ⟨h2, h3⟩ := and2 h
        exact s_asgT (allP hP) ((snd_e e' G h3).1 rfl) (snd_tg (.tp tg) G h2) sw_tup (ss_no h1) (asg_one rfl)
    | _ => cases h
  | .asgT (.nm _) _, X, C, W, ct, P, st, G, po, h => by unfold chkS at h; cases h
  | .asgP i j a b, X, C, W, ct, P, st, G, po, h => by
    unfold chkS at h
    obtain ⟨hPi, h⟩ := and2 h
    obtain ⟨hPj, h⟩ := and2 h
    obtain ⟨hij, h⟩ := and2 h
    cases st with
    | Assign ts e p =>
      match ts, e, h with
      | [.Tuple [.Name x px, .Name y py] kt pt], .Tuple [l, r] k2 pt2, h =>
        obtain ⟨h1, h⟩ := and2 h
        obtain ⟨h2, h⟩ := and2 h
        obtain ⟨h3, h⟩ := and2 h
        obtain ⟨h4, h⟩ := and2 h
        obtain ⟨h5, h⟩ := and2 h
        obtain ⟨h6, h⟩ := and2 h
        obtain ⟨h7, h⟩ := and2 h
        obtain ⟨h8, h⟩ := and2 h
        obtain ⟨h9, h⟩ := and2 h
        obtain ⟨ha, h⟩ := and2 h
        obtain ⟨hb, h⟩ := and2 h
        obtain ⟨hc, h⟩ := and2 h
        obtain ⟨hd, he⟩ := and2 h
        exact s_asgP (notP hPi) (notP hPj) G.calm (by rw [G.N]; exact G.nd) (G.nm h1) (G.nm h2) (of_decide_eq_true hij) (by rw [G.sc]; exact lclB_some h3) (by rw [G.sc]; exact lclB_some h4)
          (sa_cons hb ((snd_e a G hd).1 rfl) (sa_cons hc ((snd_e b G he).1 rfl) sa_nil (star_cons h8)) (star_cons h7)) (ss_two G h3 h4 h5 h6 h7 h8 h9 ha) sw_tup
    | _ => cases h
  | .aug i o e', X, C, W, ct, P, st, G, po, h => by
    unfold chkS at h
    obtain ⟨hP, h⟩ := and2 h
    cases st with
    | AugAssign t op e p =>
      cases t with
      | Name x p' =>
        obtain ⟨h1, h⟩ := and2 h
        obtain ⟨h2, h⟩ := and2 h
        obtain ⟨h3, h4⟩ := and2 h
        exact s_aug (of_decide_eq_true h1) (notP hP) (by rw [G.N]; exact G.nd) (G.nm h2) (G.loc h3).1 (G.loc h3).2 ((snd_e e' G h4).1 rfl)
      | _ => cases h
    | _ => cases h
  | .setI i ix' e', X, C, W, ct, P, st, G, po, h => by
    unfold chkS at h
    obtain ⟨ho, h⟩ := and2 h
    obtain ⟨hq, h⟩ := and2 h
    cases st with
    | Assign ts e p =>
      match ts, h with
      | [.Subscript (.Name x p') ix tp], h =>
        obtain ⟨h1, h⟩ := and2 h
        obtain ⟨h2, h⟩ := and2 h
        obtain ⟨h3, h4⟩ := and2 h
        obtain ⟨v1, v2, v3, v4⟩ := G.vr h1
        exact s_setI G.K (by have := G.un; omega) ho v1 v2 v3 v4 ((snd_e e' G h3).1 rfl) ((snd_e ix' G h4).1 rfl) hq (asg_sub h2) sw_sub ss_sub (asg_one rfl)
    | _ => cases h
  | .appP i p e', X, C, W, ct, P, st, G, po, h => by
    unfold chkS at h
    obtain ⟨hq, h⟩ := and2 h
    obtain ⟨ho, hq⟩ := and2 hq
    obtain ⟨hq1, hq2⟩ := and2 hq
    cases st with
    | Expr v p0 =>
      cases v with
      | Call f as ks cpos =>
        match f, as, ks, h with
        | .Attribute (.Subscript (.Name x p') pe p2) m apos, [e], [], h =>
          obtain ⟨h1, k1⟩ := and2 h
          obtain ⟨h2, k2⟩ := and2 k1
          obtain ⟨h3, k3⟩ := and2 k2
          obtain ⟨h4, k4⟩ := and2 k3
          obtain ⟨h5, k5⟩ := and2 k4
          obtain ⟨h6, h7⟩ := and2 k5
          obtain ⟨v1, v2, v3, v4⟩ := G.vr h3
          have pp := (snd_e p G h6).1 rfl
          have pe' := (snd_e e' G h7).1 rfl
          have h1 := eq_of_beq h1
          subst h1
          have hb2 : noStars [e] = true := by
            show (noStar e && true) = true
            rw [h5]
            rfl
          exact s_appP G.K ho hq1 hq2 v1 v2 v3 v4 pp (plain_ix h4) (sa_cons ho pe' sa_nil (star_cons h5)) rfl (by rw [star_all hb2]; rfl) h2 (star_cons h5) rfl rfl
      | _ => cases h
    | _ => cases h
  | .setP i p ix' e', X, C, W, ct, P, st, G, po, h => by
    unfold chkS at h
    obtain ⟨hq, h⟩ := and2 h
    obtain ⟨ho, hq⟩ := and2 hq
    obtain ⟨hq1, hq2⟩ := and2 hq
    cases st with
    | Assign ts e p0 =>
      match ts, h with
      | [.Subscript (.Subscript (.Name x p') pe p2) ix tpos], h =>
        obtain ⟨h1, h⟩ := and2 h
        obtain ⟨h2, h⟩ := and2 h
        obtain ⟨h3, h⟩ := and2 h
        obtain ⟨h4, h⟩ := and2 h
        obtain ⟨h5, h6⟩ := and2 h
        obtain ⟨v1, v2, v3, v4⟩ := G.vr h1
        exact s_setP G.K (by have := G.un; omega) ho hq1 hq2 v1 v2 v3 v4 ((snd_e e' G h4).1 rfl) ((snd_e p G h5).1 rfl) (plain_ix h2) ((snd_e ix' G h6).1 rfl) (asg_sub h3) sw_sub ss_sub (asg_one rfl)
    | _ => cases h
  | .augI i ix' o e', X, C, W, ct, P, st, G, po, h => by
    unfold chkS at h
    cases st with
    | AugAssign t op e pos =>
      cases t with
      | Subscript l ix p =>
        cases l with
        | Name x p2 =>
          obtain ⟨h1, h⟩ := and2 h
          obtain ⟨h2, h⟩ := and2 h
          obtain ⟨h3, h⟩ := and2 h
          obtain ⟨h4, h5⟩ := and2 h
          obtain ⟨v1, v2, v3, v4⟩ := G.vr h2
          exact s_augI (of_decide_eq_true h1) G.K (by have := G.un; omega) v1 v2 v3 v4 (by intros; cases ix <;> first | rfl | cases h3) ((snd_e ix' G h4).1 rfl) ((snd_e e' G h5).1 rfl)
        | _ => cases h
      | _ => cases h
    | _ => cases h
  | .app i e', X, C, W, ct, P, st, G, po, h => by
    unfold chkS at h
    obtain ⟨ho, h⟩ := and2 h
    cases st with
    | Expr v p =>
      cases v with
      | Call f as ks cpos =>
        match f, as, ks, h with
        | .Attribute (.Name x p') m apos, [e], [], h =>
          obtain ⟨h1, k1⟩ := and2 h
          obtain ⟨h2, k2⟩ := and2 k1
          obtain ⟨h3, k3⟩ := and2 k2
          obtain ⟨h4, k4⟩ := and2 k3
          obtain ⟨v1, v2, v3, v4⟩ := G.vr h3
          have pe := (snd_e e' G k4).1 rfl
          have h1 := eq_of_beq h1
          subst h1
          have hb2 : noStars [e] = true := by
            show (noStar e && true) = true
            rw [h4]
            rfl
          exact s_app G.K ho v1 v2 v3 v4 (sa_cons ho pe sa_nil (star_cons h4)) rfl (by rw [star_all hb2]; rfl) h2 (star_cons h4) rfl rfl
      | _ => cases h
    | _ => cases h
  | .iff c a b, X, C, W, ct, P, st, G, po, h => by
    unfold chkS at h
    cases st with
    | If x as bs p =>
      obtain ⟨h1, h⟩ := and2 h
      obtain ⟨h2, h3⟩ := and2 h
      exact s_iff ((snd_e c G h1).2 rfl) (snd_ss a G po h2) (snd_ss b G po h3)
    | _ => cases h
  | .whl c b, X, C, W, ct, P, st, G, po, h => by
    unfold chkS at h
    cases st with
    | While x bs es p =>
      match es, h with
      | [], h =>
        obtain ⟨h1, h2⟩ := and2 h
        exact s_whl po ((snd_e c G h1).2 rfl) (snd_ss b G po h2)
    | _ => cases h
  | .forr tg it b, X, C, W, ct, P, st, G, po, h => by
    unfold chkS at h
    obtain ⟨hP, h⟩ := and2 h
    cases st with
    | For t iter bs es p =>
      match es, h with
      | [], h =>
        obtain ⟨h1, h⟩ := and2 h
        obtain ⟨h2, h3⟩ := and2 h
        obtain ⟨p1, p2⟩ := snd_it it G h2
        exact s_for (allP hP) po G.calm p1 (snd_tg tg G h1) (snd_ss b G po h3) (p2 X.env)
    | _ => cases h
  | .ret e', X, C, W, ct, P, st, G, po, h => by
    unfold chkS at h
    obtain ⟨ho, h⟩ := and2 h
    cases st with
    | Return v p =>
      cases v with
      | some e => exact s_ret ho ((snd_e e' G h).1 rfl)
      | none => cases h
    | _ => cases h
  | .retN, X, C, W, ct, P, st, G, po, h => by
    unfold chkS at h
    cases st with
    | Return v p =>
      cases v with
      | some e => cases h
      | none => exact s_retN
    | _ => cases h
  | .brk, X, C, W, ct, P, st, G, po, h => by
    unfold chkS at h
    cases st with
    | Break p => exact s_brk
    | _ => cases h
  | .cnt, X, C, W, ct, P, st, G, po, h => by
    unfold chkS at h
    cases st with
    | Continue p => exact s_cnt
    | _ => cases h
theorem snd_ss : ∀ (b : Ss) {X : Cx} {C : Cfg} {W : WX} {ct : Ct} {P : List Nat} {sts : List Stmt}, Good X C W ct → PassesOwn (model X.prog X.w) X.A X.env X.xe → chkSs b P ct sts = true → PSs X sts (tSs C W P b)
  | .nil, X, C, W, ct, P, sts, G, po, h => by
    unfold chkSs at h
    cases sts with
    | nil => exact ss_nil
    | cons _ _ => cases h
  | .cons b bs, X, C, W, ct, P, sts, G, po, h => by
    unfold chkSs at h
    cases sts with
    | nil => cases h
    | cons st r =>
      obtain ⟨h1, h2⟩ := and2 h
      exact ss_cons (snd_s b G po h1) (snd_ss bs G po h2)
end
end Ly

namespace Ly
open PySem PySem.Spec L2
/-- the def x may be called: its rank, what it may change, what it does -/
def FnM (C : Cfg) (P : Program) (w : World) (mg : Str → Option Value) (base : Heap) (k : Nat) (x : Str) (io : List Bool) (sem : FSem) : Prop :=
  ∃ (f : Addr) (fd : FuncData) (ps : List Str), mg x = some (.ref f) ∧ FnOk P w C.K mg base (L2.CX P w) k f fd ps (spD C io sem) ∧ PySem.W.keepIn C.K (.ref f) = true ∧ Binds C.K fd ps []
/-- .. by keywords -/
def FnMK (C : Cfg) (P : Program) (w : World) (mg : Str → Option Value) (base : Heap) (k : Nat) (x : Str) (io : List Bool) (ps : List Str) (sem : FSem) : Prop :=
  ∃ (f : Addr) (fd : FuncData), mg x = some (.ref f) ∧ FnOk P w C.K mg base (L2.CX P w) k f fd ps (spD C io sem) ∧ PySem.W.keepIn C.K (.ref f) = true ∧ KB0 C.K fd ps ps
/-- .. by keywords in an order -/
def FnMP (C : Cfg) (P : Program) (w : World) (mg : Str → Option Value) (base : Heap) (k : Nat) (x : Str) (io : List Bool) (ks : List Str) (perm : List Nat) (sem : FSem) : Prop :=
  ∃ (f : Addr) (fd : FuncData) (ps : List Str), mg x = some (.ref f) ∧ FnOk P w C.K mg base (L2.CX P w) k f fd ps (spD C io sem) ∧ PySem.W.keepIn C.K (.ref f) = true ∧ KBP C.K fd ps ks perm
section
variable {C : Cfg} {P : Program} {w : World} {mg : Str → Option Value} {base : Heap} {x qual : Str} {params : Arguments} {body : List Stmt} {scope : Scope} {kws : List (Str × V)} {f : Addr} {fd : FuncData}
theorem def_ok [Fns] {N ps : List Str} {io : List Bool} {k : Nat} {sem : FSem} {bs : Ss} {fns : List (Str × List Bool)} {gls free : List Str} {kws' : List (Str × List Str)} {kwp : List (Str × List Str × List Nat)} {keys : List Str} (F : FunD C.K x qual params body scope [] kws f fd) (S : FnScope N ps scope) (hio : io.length = ps.length) (hsem : ∀ ds, sem ds ≠ .bad → runFn N.length io bs ds = sem ds)
    (hf : ∀ (j : Nat) y ioj, fns[j]? = some (y, ioj) → ∃ r, r ≤ k ∧ FnM C P w mg base r y ioj (Fns.F j))
    (hg : ∀ (j : Nat) y, gls[j]? = some y → ∃ v u, mg y = some u ∧ RelV v u ∧ ∀ H, Rep C.K H (Fns.G j) v [])
    (hr : ∀ y, free.contains y = true → mg y = none) (hk : ∀ (j : Nat) y ioj psj, fns[j]? = some (y, ioj) → kws'.lookup y = some psj → ∃ r, r ≤ k ∧ FnMK C P w mg base r y ioj psj (Fns.F j)) (hkp : ∀ (j : Nat) y ioj ks perm, fns[j]? = some (y, ioj) → (y, ks, perm) ∈ kwp → ∃ r, r ≤ k ∧ FnMP C P w mg base r y ioj ks perm (Fns.F j)) (hky : ∀ (j : Nat) y, fns[j]? = some (y, [false]) → keys.contains y = true → ∃ r, r + 2 ≤ k ∧ FnM C P w mg base r y [false] (Fns.F j)) (hc : chkSs bs (ixs io) ⟨N, scope, true, scope, fns, gls, free, kws', kwp, keys⟩ body = true) :
    FnOk P w C.K mg base (L2.CX P w) (k + 1) f fd ps (spD C io sem) := by
  refine fn_ok F S hio hsem fun cdv A outer s H E hroom => ?_
  have G : Good (cxOf (L2.CX P w) P w C.K mg base N qual scope f cdv A outer s H E) C (fun cls d _ H => E cls d H) ⟨N, scope, true, scope, fns, gls, free, kws', kwp, keys⟩ :=
    { N := rfl
      nd := S.nd
      sc := rfl
      kind := S.kind
      fn := fun _ _ => rfl
      K := rfl
      calm := rfl
      un := by
        have := hroom.un
        show (A.deeper (PyProof.Rows.envOfC qual scope s.heap.objs.size f cdv)).units + 70 < cLine
        omega
      tk := takes_of rfl rfl rfl rfl
      fns := fun j y ioj h => by
        obtain ⟨r, hrk, f', fd', ps', h1, h2, h3, h4⟩ := hf j y ioj h
        exact ⟨r, ⟨f', fd', ps', h1, h2, h3, h4⟩, hroom.mono hrk⟩
      gls := hg
      free := hr
      key := fun j y h h' => by
        obtain ⟨r, hrk, f', fd', ps', h1, h2, h3, h4⟩ := hky j y h h'
        exact ⟨r, f', fd', ps', h1, h2, h3, h4, hroom.mono hrk⟩
      kwp := fun j y ioj ks perm h h' => by
        obtain ⟨r, hrk, f', fd', ps', h1, h2, h3, h4⟩ := hkp j y ioj ks perm h h'
        exact ⟨r, ⟨f', fd', ps', h1, h2, h3, h4⟩, hroom.mono hrk⟩
      kw := fun j y ioj psj h h' => by
        obtain ⟨r, hrk, f', fd', h1, h2, h3, h4⟩ := hk j y ioj psj h h'
        exact ⟨r, ⟨f', fd', h1, h2, h3, h4⟩, hroom.mono hrk⟩ }
  exact snd_ss bs G (passes_of rfl) hc
theorem kb0_of {ps : List Str} (F : FunD C.K x qual params body scope [] kws f fd) (h : ∀ (kV doc pm : Value) (an : Option Addr) (cdv ct : Value) (ws : List Value), ws.length = ps.length → bindArgs (PySem.W.fnOf x qual params body scope .none kV doc pm an cdv ct) ⟨[], ps.zip ws⟩ = pure (ps.zip ws)) : KB0 C.K fd ps ps := by
  obtain ⟨oc, od, dV, kV, doc, pm, an, cdv, ct, osl, rfl, lk, hcd, hD, hK⟩ := F.ex
  rcases hD with ⟨_, rfl⟩ | ⟨e, _⟩
  · exact fun s ws _ hl => .of_eq (h kV doc pm an cdv ct ws hl)
  · exact absurd rfl e
theorem kbp_of {ps ks : List Str} {perm : List Nat} (F : FunD C.K x qual params body scope [] kws f fd) (h1 : perm.length = ps.length) (h2 : ∀ n ∈ perm, n < ks.length) (h : ∀ (kV doc pm : Value) (an : Option Addr) (cdv ct : Value) (ws : List Value), ws.length = ks.length → bindArgs (PySem.W.fnOf x qual params body scope .none kV doc pm an cdv ct) ⟨[], ks.zip ws⟩ = pure (ps.zip (permU perm ws))) : KBP C.K fd ps ks perm := by
  obtain ⟨oc, od, dV, kV, doc, pm, an, cdv, ct, osl, rfl, lk, hcd, hD, hK⟩ := F.ex
  rcases hD with ⟨_, rfl⟩ | ⟨e, _⟩
  · exact ⟨h1, h2, fun s ws _ hl => .of_eq (h kV doc pm an cdv ct ws hl)⟩
  · exact absurd rfl e
/-- all that may be called so far -/
def AllF (C : Cfg) (P : Program) (w : World) (mg : Str → Option Value) (base : Heap) (fns : List (Str × List Bool)) (tab : List FSem) (k : Nat) : Prop :=
  fns.length = tab.length ∧ ∀ (j : Nat) y io, fns[j]? = some (y, io) → ∃ r, r ≤ k ∧ FnM C P w mg base r y io (tab.getD j fun _ => .bad)
theorem AllF.nil : AllF C P w mg base [] [] 0 := ⟨rfl, fun j y io h => by simp at h⟩
theorem AllF.snoc {fns : List (Str × List Bool)} {tab : List FSem} {k : Nat} {y : Str} {io : List Bool} {sem : FSem} (a : AllF C P w mg base fns tab k) (F : FnM C P w mg base (k + 1) y io sem) : AllF C P w mg base (fns ++ [(y, io)]) (tab ++ [sem]) (k + 1) := by
  obtain ⟨l, a⟩ := a
  refine ⟨by rw [List.length_append, List.length_append, l]; rfl, fun j z ioz h => ?_⟩
  by_cases hj : j < fns.length
  · rw [List.getElem?_append_left hj] at h
    obtain ⟨r, h1, h2⟩ := a j z ioz h
    refine ⟨r, Nat.le_succ_of_le h1, ?_⟩
    rw [List.getD_eq_getElem?_getD, List.getElem?_append_left (by omega), ← List.getD_eq_getElem?_getD]
    exact h2
  · rw [List.getElem?_append_right (by omega)] at h
    have hj2 : j - fns.length = 0 := by
      cases hh : j - fns.length with
      | zero => rfl
      | succ m => rw [hh] at h; simp at h
    rw [hj2] at h
    cases h
    have e : j = tab.length := by omega
    refine ⟨k + 1, Nat.le_refl _, ?_⟩
    rw [e, List.getD_eq_getElem?_getD, List.getElem?_append_right (Nat.le_refl _), Nat.sub_self]
    exact F
theorem FnM.mk {k : Nat} {io : List Bool} {sem : FSem} {ps : List Str} (hx : mg x = some (.ref f)) (F : FunD C.K x qual params body scope [] kws f fd) (h : FnOk P w C.K mg base (L2.CX P w) k f fd ps (spD C io sem)) (b : Binds C.K fd ps []) : FnM C P w mg base k x io sem := ⟨f, fd, ps, hx, h, F.kp, b⟩
end
section
variable {C : Cfg} {P : Program} {w : World} {mg : Str → Option Value} {base : Heap} {x qual : Str} {params : Arguments} {body : List Stmt} {scope : Scope} {kws : List (Str × V)} {f : Addr} {fd : FuncData}
theorem AllF.mono {fns : List (Str × List Bool)} {tab : List FSem} {j k : Nat} (a : AllF C P w mg base fns tab j) (h : j ≤ k) : AllF C P w mg base fns tab k := ⟨a.1, fun i y io e => by
  obtain ⟨r, h1, h2⟩ := a.2 i y io e
  exact ⟨r, Nat.le_trans h1 h, h2⟩⟩
/-- .. keeps its promise -/
theorem rec_ok {N ps : List Str} {io : List Bool} {k : Nat} {bs : Ss} {fns : List (Str × List Bool)} {t : List FSem} {free : List Str} (hx : mg x = some (.ref f)) (F : FunD C.K x qual params body scope [] kws f fd) (S : FnScope N ps scope) (hio : io.length = ps.length) (b : Binds C.K fd ps [])
    (a : AllF C P w mg base fns t k) (hr : ∀ y, free.contains y = true → mg y = none) (hc : chkSs bs (ixs io) ⟨N, scope, true, scope, fns ++ [(x, io)], [], free, [], [], []⟩ body = true) : ∀ m : Nat, FnOk P w C.K mg base (L2.CX P w) (k + m) f fd ps (spD C io (recF N.length io bs t m))
  | 0 => ⟨fun vs H Q E h => by obtain ⟨ds, S, _, _, z⟩ := h; exact z.elim, fun A outer s H args us vs Q E _ _ _ _ h => by obtain ⟨ds, S, _, _, z⟩ := h; exact z.elim⟩
  | m + 1 => by
    have ih := rec_ok hx F S hio b a hr hc m
    refine @def_ok C P w mg base x qual params body scope kws f fd (tabF (t ++ [recF N.length io bs t m])) N ps io (k + m) _ bs (fns ++ [(x, io)]) [] free [] [] [] F S hio (fun _ _ => rfl) (fun j y ioj h => ?_) (fun j y h => by simp at h) hr (fun j y ioj psj h h' => by cases h') (fun j y ioj ks perm h h' => by cases h') (fun j y h h' => by cases h') hc
    by_cases hj : j < fns.length
    · rw [List.getElem?_append_left hj] at h
      obtain ⟨r, h1, h2⟩ := a.2 j y ioj h
      refine ⟨r, by omega, ?_⟩
      show FnM C P w mg base r y ioj ((t ++ [recF N.length io bs t m]).getD j fun _ => .bad)
      rw [List.getD_eq_getElem?_getD, List.getElem?_append_left (by rw [← a.1]; exact hj), ← List.getD_eq_getElem?_getD]
      exact h2
    · rw [List.getElem?_append_right (by omega)] at h
      have hj2 : j - fns.length = 0 := by
        cases hh : j - fns.length with
        | zero => rfl
        | succ m => rw [hh] at h; simp at h
      rw [hj2] at h
      cases h
      have e : j = t.length := by rw [← a.1]; omega
      refine ⟨k + m, Nat.le_refl _, ?_⟩
      show FnM C P w mg base (k + m) x io ((t ++ [recF N.length io bs t m]).getD j fun _ => .bad)
      rw [e, List.getD_eq_getElem?_getD, List.getElem?_append_right (Nat.le_refl _), Nat.sub_self]
      exact FnM.mk hx F ih b
end
theorem kp_all [Fns] {C : Cfg} {P : Program} {w : World} {mg : Str → Option Value} {base : Heap} {k : Nat} {fns : List (Str × List Bool)} {kwp : List (Str × List Str × List Nat)} (nd : (fns.map (·.1)).Nodup) (h : ∀ e ∈ kwp, ∃ c io, fns[c]? = some (e.1, io) ∧ ∃ r, r ≤ k ∧ FnMP C P w mg base r e.1 io e.2.1 e.2.2 (Fns.F c)) : ∀ (j : Nat) y ioj ks perm, fns[j]? = some (y, ioj) → (y, ks, perm) ∈ kwp → ∃ r, r ≤ k ∧ FnMP C P w mg base r y ioj ks perm (Fns.F j) := by
  intro j y ioj ks perm hj he
  obtain ⟨c, io, hc, r, h1, h2⟩ := h _ he
  obtain ⟨hc', ec⟩ := List.getElem?_eq_some_iff.mp hc
  obtain ⟨hj', ej⟩ := List.getElem?_eq_some_iff.mp hj
  have e : j = c := by
    have hp := List.pairwise_iff_getElem.mp nd
    have l1 : j < (fns.map (·.1)).length := by simpa using hj'
    have l2 : c < (fns.map (·.1)).length := by simpa using hc'
    rcases Nat.lt_trichotomy j c with h | h | h
    · exact absurd (by rw [List.getElem_map, List.getElem_map, ej, ec]) (hp j c l1 l2 h)
    · exact h
    · exact absurd (by rw [List.getElem_map, List.getElem_map, ec, ej]) (hp c j l2 l1 h)
  subst e
  rw [hj] at hc
  cases hc
  exact ⟨r, h1, h2⟩
theorem ky_all [Fns] {C : Cfg} {P : Program} {w : World} {mg : Str → Option Value} {base : Heap} {k : Nat} {fns : List (Str × List Bool)} {keys : List Str} (nd : (fns.map (·.1)).Nodup) (h : ∀ x ∈ keys, ∃ c, fns[c]? = some (x, [false]) ∧ ∃ r, r + 2 ≤ k ∧ FnM C P w mg base r x [false] (Fns.F c)) : ∀ (j : Nat) y, fns[j]? = some (y, [false]) → keys.contains y = true → ∃ r, r + 2 ≤ k ∧ FnM C P w mg base r y [false] (Fns.F j) := by
  intro j y hj hy
  obtain ⟨c, hc, r, h1, h2⟩ := h y (by simpa using hy)
  obtain ⟨hc', ec⟩ := List.getElem?_eq_some_iff.mp hc
  obtain ⟨hj', ej⟩ := List.getElem?_eq_some_iff.mp hj
  have hp := List.pairwise_iff_getElem.mp nd
  have l1 : j < (fns.map (·.1)).length := by simpa using hj'
  have l2 : c < (fns.map (·.1)).length := by simpa using hc'
  rcases Nat.lt_trichotomy j c with q | q | q
  · exact absurd (by rw [List.getElem_map, List.getElem_map, ej, ec]) (hp j c l1 l2 q)
  · subst q; exact ⟨r, h1, h2⟩
  · exact absurd (by rw [List.getElem_map, List.getElem_map, ec, ej]) (hp c j l2 l1 q)
theorem no_kw {α : Type} {a : Option α} {p : α} (e : a = none) (h : a = some p) : False := by rw [e] at h; cases h
/-- the law's def lets nothing out -/
theorem to0 {P : Program} {w : World} {K : PySem.W.Frag} {mg : Str → Option Value} {base : Heap} {k : Nat} {f : Addr} {fd : FuncData} {ps : List Str} {sp : Sp} (F : FnOk P w K mg base (L2.CX P w) k f fd ps sp) : FnOk P w K mg base (fun _ _ _ _ _ _ => False) k f fd ps (fun vs H Q _ => sp vs H Q fun _ _ _ => False) := by
  refine ⟨fun vs H Q E h => F.len vs H Q _ h, fun A outer s H args us vs Q E hr he hb hv h => ?_⟩
  refine codeAny_mono (F.run A outer s H args us vs Q _ hr he hb hv h) fun r s' hq => ?_
  cases r with
  | ok fl => cases fl <;> exact hq
  | error e =>
    obtain ⟨_, _, _, _, _, _, _, _, _, _, _, _, z⟩ := hq
    exact z.elim
/-- the script -/
theorem sp_law {C : Cfg} {sem : FSem} {H : Hp} {a : Addr} {ns : List Int} (h : sem [.scr ns] = .ret (.bl true) []) (hS : SqS C.K H a (ns.map V.int)) : spD C [false] sem [.ref a] H (fun v _ => v = .bl true) fun _ _ _ => False := by
  refine ⟨[.scr ns], [], ⟨[], [], ⟨rfl, a, rfl, hS⟩, fun _ => rfl, rfl, rfl⟩, .nil, ?_⟩
  rw [h]
  exact fun v H' T U _ r _ _ _ => r.1
theorem sq_only {K : PySem.W.Frag} {H : Hp} {a : Addr} {xs : List V} (o : Only H) (h : SqL K H a xs) : SqS K H a xs := by
  rcases h with (h | h) | h
  · rcases o a with z | ⟨_, _, z⟩ <;> rw [h] at z <;> cases z
  · exact .inl h
  · exact .inr h
end Ly

namespace Ly
open PySem PySem.Spec L2
variable [Fns]
mutual
def wpE : E → Ev → (D → Ev → Prop) → Prop
  | .var i, ρ, Q => ∃ d, getV ρ i = some d ∧ Q d ρ
  | .mv i, ρ, Q => ∃ d, getV ρ i = some d ∧ Q (fzD d) (ρ.set i (some (fzD d)))
  | .mvo i, ρ, Q => ∃ d, getV ρ i = some d ∧ Q d (ρ.set i none)
  | .cst d, ρ, Q => Q d ρ
  | .glo k, ρ, Q => Q (Fns.G k) ρ
  | .ck e, ρ, Q => wpE e ρ fun d ρ => frzD d = true ∧ Q d ρ
  | .fz e, ρ, Q => wpE e ρ fun d ρ => Q (fzD d) ρ
  | .o2 op a b, ρ, Q => wpE a ρ fun x ρ => wpE b ρ fun y ρ => ∃ z, op.sem x y = some z ∧ Q z ρ
  | .o1 op a, ρ, Q => wpE a ρ fun x ρ => ∃ z, op.sem x = some z ∧ Q z ρ
  | .and a b, ρ, Q => wpE a ρ fun x ρ => ∃ t, truth x = some t ∧ (t = true → wpE b ρ Q) ∧ (t = false → Q x ρ)
  | .or a b, ρ, Q => wpE a ρ fun x ρ => ∃ t, truth x = some t ∧ (t = true → Q x ρ) ∧ (t = false → wpE b ρ Q)
  | .ite c a b, ρ, Q => wpE c ρ fun x ρ => ∃ t, truth x = some t ∧ (t = true → wpE a ρ Q) ∧ (t = false → wpE b ρ Q)
  | .tup es, ρ, Q => wpEs es ρ fun ds ρ => (ds.all frzD = true ∧ ds.length ≤ lim) ∧ Q (.tup ds) ρ
  | .lst es, ρ, Q => wpEs es ρ fun ds ρ => ds.length ≤ lim ∧ Q (.lst true ds) ρ
  | .slc a lo hi, ρ, Q => wpE a ρ fun x ρ => wpEs lo ρ fun l ρ => ∃ l', partS l = some l' ∧ wpEs hi ρ fun h ρ => ∃ h', partS h = some h' ∧ ∃ z, slcS x l' h' = some z ∧ Q z ρ
  | .call slots k es, ρ, Q => wpEs es ρ fun ds ρ => ∃ ds', fill slots ds ρ = some ds' ∧ ∃ d outs, Fns.F k ds' = .ret d outs ∧ ∃ ρ', wb slots outs ρ = some ρ' ∧ Q d ρ'
  | .pop i, ρ, Q => ∃ d ρ', onL popF i ρ = .ok d ρ' ∧ Q d ρ'
  | .popAt i a, ρ, Q => isL ρ i = true ∧ wpE a ρ fun x ρ => ∃ k d ρ', x = .int k ∧ onL (popAtF k) i ρ = .ok d ρ' ∧ Q d ρ'
  | .lc own tg it c elt, ρ, Q => wpIt it ρ fun items ρ1 => ∃ I : Nat → List D → Ev → Prop, I 0 [] (wipeE ρ1 own) ∧
      (∀ i d acc ρ, items[i]? = some d → I i acc ρ → ∃ ρ', bindT tg d ρ = some ρ' ∧ wpC c ρ' fun t ρ => (t = true → wpE elt ρ fun y ρ => I (i + 1) (acc ++ [y]) (wipeE ρ own)) ∧ (t = false → I (i + 1) acc (wipeE ρ own))) ∧
      ∀ acc ρ, I items.length acc ρ → acc.length ≤ lim ∧ Q (.lst true acc) ρ
  | .dnil, ρ, Q => Q (.dk true [] []) ρ
  | .ixL i b, ρ, Q => (∃ d0, getV ρ i = some d0) ∧ wpE b ρ fun y ρ => ∃ d z, getV ρ i = some d ∧ idxS d y = some z ∧ Q z ρ
  | .popP i p a, ρ, Q => isL ρ i = true ∧ wpE p ρ fun x ρ => ∃ k, x = .int k ∧ isP ρ i k = true ∧ wpE a ρ fun y ρ => ∃ j d ρ', y = .int j ∧ onP (popAtF j) i k ρ = .ok d ρ' ∧ Q d ρ'
  | .callK k perm es, ρ, Q => wpEs es ρ fun ds ρ => ds.all frzD = true ∧ ∃ d, Fns.F k (permD perm ds) = .ret d [] ∧ Q d ρ
  | .get a k d, ρ, Q => wpE a ρ fun x ρ => recvD x = true ∧ wpE k ρ fun y ρ => wpE d ρ fun z ρ => ∃ r, getS x y z = some r ∧ Q r ρ
  | .srtK k a, ρ, Q => wpE a ρ fun x ρ => ∃ z, srtKS (Fns.F k) x = some z ∧ Q z ρ
  | .cmp2 o1 o2 a b c, ρ, Q => wpE a ρ fun x ρ => wpE b ρ fun y ρ => ∃ t, o1.sem x y = some (.bl t) ∧ (t = true → wpE c ρ fun z ρ => ∃ r, o2.sem y z = some (.bl r) ∧ Q (.bl r) ρ) ∧ (t = false → Q (.bl false) ρ)
  | .me m a es, ρ, Q => wpE a ρ fun x ρ => m.recv x = true ∧ wpEs es ρ fun ds ρ => ∃ z, m.sem x ds = some z ∧ Q z ρ
  | .lrg es, ρ, Q => wpEs es ρ fun ds ρ => ∃ l, rngOf ds = some l ∧ l.length ≤ lim ∧ Q (.lst true l) ρ
  | .dc own tg it c k e, ρ, Q => wpIt it ρ fun items ρ1 => ∃ I : Nat → List Key × List D → Ev → Prop, I 0 ([], []) (wipeE ρ1 own) ∧
      (∀ i d acc ρ, items[i]? = some d → I i acc ρ → ∃ ρ', bindT tg d ρ = some ρ' ∧ wpC c ρ' fun t ρ => (t = true → wpE k ρ fun x ρ => wpE e ρ fun y ρ => ∃ j, keyD x = some j ∧ frzD y = true ∧ I (i + 1) (put j y acc.1 acc.2) (wipeE ρ own)) ∧ (t = false → I (i + 1) acc (wipeE ρ own))) ∧
      ∀ acc ρ, I items.length acc ρ → acc.1.length < lim ∧ Q (.dk true acc.1 acc.2) ρ
def wpEs : Es → Ev → (List D → Ev → Prop) → Prop
  | .nil, ρ, Q => Q [] ρ
  | .cons e es, ρ, Q => wpE e ρ fun d ρ => wpEs es ρ fun ds ρ => Q (d :: ds) ρ
  | .io i es, ρ, Q => ∃ d, getV ρ i = some d ∧ wpEs es ρ fun ds ρ => Q (.non :: ds) ρ
def wpC : Es → Ev → (Bool → Ev → Prop) → Prop
  | .nil, ρ, Q => Q true ρ
  | .cons e _, ρ, Q => wpE e ρ fun d ρ => ∃ t, truth d = some t ∧ Q t ρ
  | .io _ _, _, _ => False
def wpIt : It → Ev → (List D → Ev → Prop) → Prop
  | .seq e, ρ, Q => wpE e ρ fun d ρ => ∃ l, seqOf d = some l ∧ Q l ρ
  | .rng es, ρ, Q => wpEs es ρ fun ds ρ => ∃ l, rngOf ds = some l ∧ Q l ρ
  | .enum e, ρ, Q => wpE e ρ fun d ρ => ∃ l, seqOf d = some l ∧ Q (enumD 0 l) ρ
  | .zip a b, ρ, Q => wpE a ρ fun x ρ => wpE b ρ fun y ρ => ∃ l m, seqOf x = some l ∧ seqOf y = some m ∧ Q (zipD l m) ρ
  | .revd e, ρ, Q => wpE e ρ fun d ρ => ∃ l, revOf d = some l ∧ Q l ρ
end
theorem lc_wp {f : D → Ev → Out (List D)} {I : Nat → List D → Ev → Prop} {items : List D} : ∀ (n i : Nat) (acc : List D) (ρ : Ev), n + i = items.length → I i acc ρ → (∀ i d acc ρ, items[i]? = some d → I i acc ρ → ∃ x ρ', f d ρ = .ok x ρ' ∧ I (i + 1) (acc ++ x) ρ') →
    ∃ ys ρ', lcLoop f (items.drop i) ρ = .ok ys ρ' ∧ I items.length (acc ++ ys) ρ'
  | 0, i, acc, ρ, hn, h, hs => by
    have : i = items.length := by omega
    subst this
    rw [List.drop_length]
    exact ⟨[], ρ, rfl, by rw [List.append_nil]; exact h⟩
  | n + 1, i, acc, ρ, hn, h, hs => by
    have hi : i < items.length := by omega
    obtain ⟨x, ρ1, h1, h2⟩ := hs i items[i] acc ρ (by simp [hi]) h
    obtain ⟨ys, ρ2, h3, h4⟩ := lc_wp n (i + 1) (acc ++ x) ρ1 (by omega) h2 hs
    rw [List.drop_eq_getElem_cons hi]
    refine ⟨x ++ ys, ρ2, ?_, by rw [← List.append_assoc]; exact h4⟩
    show ((f items[i] ρ).bind fun x ρ1 => (lcLoop f (items.drop (i + 1)) ρ1).bind fun r ρ2 => .ok (x ++ r) ρ2) = _
    rw [h1]
    show ((lcLoop f (items.drop (i + 1)) ρ1).bind fun r ρ2 => .ok (x ++ r) ρ2) = _
    rw [h3]
    rfl
theorem dc_wp {f : D → Ev → Out (Option (Key × D))} {I : Nat → List Key × List D → Ev → Prop} {items : List D} : ∀ (n i : Nat) (acc : List Key × List D) (ρ : Ev), n + i = items.length → I i acc ρ → (∀ i d acc ρ, items[i]? = some d → I i acc ρ → ∃ x ρ', f d ρ = .ok x ρ' ∧ I (i + 1) (match x with | some (k, v) => put k v acc.1 acc.2 | none => acc) ρ') →
    ∃ r ρ', dcLoop f (items.drop i) acc ρ = .ok r ρ' ∧ I items.length r ρ'
  | 0, i, acc, ρ, hn, h, hs => by
    have : i = items.length := by omega
    subst this
    rw [List.drop_length]
    exact ⟨acc, ρ, rfl, h⟩
  | n + 1, i, acc, ρ, hn, h, hs => by
    have hi : i < items.length := by omega
    obtain ⟨x, ρ1, h1, h2⟩ := hs i items[i] acc ρ (by simp [hi]) h
    obtain ⟨r, ρ2, h3, h4⟩ := dc_wp n (i + 1) _ ρ1 (by omega) h2 hs
    rw [List.drop_eq_getElem_cons hi]
    refine ⟨r, ρ2, ?_, h4⟩
    show ((f items[i] ρ).bind fun x ρ1 => dcLoop f (items.drop (i + 1)) (match x with | some (k, v) => put k v acc.1 acc.2 | none => acc) ρ1) = _
    rw [h1]
    exact h3
mutual
theorem wpE_ok : ∀ (e : E) {ρ : Ev} {Q : D → Ev → Prop}, wpE e ρ Q → ∃ d ρ', ev e ρ = .ok d ρ' ∧ Q d ρ'
  | .var i, ρ, Q, h => by
    obtain ⟨d, h1, h2⟩ := h
    exact ⟨d, ρ, by show liftO (getV ρ i) ρ = _; rw [h1]; rfl, h2⟩
  | .mv i, ρ, Q, h => by
    obtain ⟨d, h1, h2⟩ := h
    exact ⟨_, _, by show (match getV ρ i with | some d => Out.ok (fzD d) (ρ.set i (some (fzD d))) | none => .bad) = _; rw [h1], h2⟩
  | .mvo i, ρ, Q, h => by
    obtain ⟨d, h1, h2⟩ := h
    exact ⟨_, _, by show (match getV ρ i with | some d => Out.ok d (ρ.set i none) | none => .bad) = _; rw [h1], h2⟩
  | .cst d, ρ, Q, h => ⟨d, ρ, rfl, h⟩
  | .glo k, ρ, Q, h => ⟨_, ρ, rfl, h⟩
  | .ck e, ρ, Q, h => by
    obtain ⟨d, ρ1, h1, h2, h3⟩ := wpE_ok e (show wpE e ρ _ from h)
    exact ⟨d, ρ1, by show (ev e ρ).bind _ = _; rw [h1]; show (if frzD d = true then Out.ok d ρ1 else .bad) = _; rw [if_pos h2], h3⟩
  | .fz e, ρ, Q, h => by
    obtain ⟨d, ρ1, h1, h2⟩ := wpE_ok e (show wpE e ρ _ from h)
    exact ⟨_, ρ1, by show (ev e ρ).bind _ = _; rw [h1]; rfl, h2⟩
  | .o2 op a b, ρ, Q, h => by
    obtain ⟨x, ρ1, h1, h⟩ := wpE_ok a (show wpE a ρ _ from h)
    obtain ⟨y, ρ2, h2, z, h3, h⟩ := wpE_ok b h
    exact ⟨z, ρ2, by show (ev a ρ).bind _ = _; rw [h1]; show (ev b ρ1).bind _ = _; rw [h2]; show liftO (op.sem x y) ρ2 = _; rw [h3]; rfl, h⟩
  | .o1 op a, ρ, Q, h => by
    obtain ⟨x, ρ1, h1, z, h3, h⟩ := wpE_ok a (show wpE a ρ _ from h)
    exact ⟨z, ρ1, by show (ev a ρ).bind _ = _; rw [h1]; show liftO (op.sem x) ρ1 = _; rw [h3]; rfl, h⟩
  | .and a b, ρ, Q, h => by
    obtain ⟨x, ρ1, h1, t, ht, ha, hb⟩ := wpE_ok a (show wpE a ρ _ from h)
    cases t with
    | true =>
      obtain ⟨y, ρ2, h2, h⟩ := wpE_ok b (ha rfl)
      exact ⟨y, ρ2, by show (ev a ρ).bind _ = _; rw [h1]; show (match truth x with | some true => ev b ρ1 | some false => Out.ok x ρ1 | none => .bad) = _; rw [ht]; exact h2, h⟩
    | false => exact ⟨x, ρ1, by show (ev a ρ).bind _ = _; rw [h1]; show (match truth x with | some true => ev b ρ1 | some false => Out.ok x ρ1 | none => .bad) = _; rw [ht], hb rfl⟩
  | .or a b, ρ, Q, h => by
    obtain ⟨x, ρ1, h1, t, ht, ha, hb⟩ := wpE_ok a (show wpE a ρ _ from h)
    cases t with
    | false =>
      obtain ⟨y, ρ2, h2, h⟩ := wpE_ok b (hb rfl)
      exact ⟨y, ρ2, by show (ev a ρ).bind _ = _; rw [h1]; show (match truth x with | some true => Out.ok x ρ1 | some false => ev b ρ1 | none => .bad) = _; rw [ht]; exact h2, h⟩
    | true => exact ⟨x, ρ1, by show (ev a ρ).bind _ = _; rw [h1]; show (match truth x with | some true => Out.ok x ρ1 | some false => ev b ρ1 | none => .bad) = _; rw [ht], ha rfl⟩
  | .ite c a b, ρ, Q, h => by
    obtain ⟨x, ρ1, h1, t, ht, ha, hb⟩ := wpE_ok c (show wpE c ρ _ from h)
    cases t with
    | true =>
      obtain ⟨y, ρ2, h2, h⟩ := wpE_ok a (ha rfl)
      exact ⟨y, ρ2, by show (ev c ρ).bind _ = _; rw [h1]; show (match truth x with | some true => ev a ρ1 | some false => ev b ρ1 | none => .bad) = _; rw [ht]; exact h2, h⟩
    | false =>
      obtain ⟨y, ρ2, h2, h⟩ := wpE_ok b (hb rfl)
      exact ⟨y, ρ2, by show (ev c ρ).bind _ = _; rw [h1]; show (match truth x with | some true => ev a ρ1 | some false => ev b ρ1 | none => .bad) = _; rw [ht]; exact h2, h⟩
  | .tup es, ρ, Q, h => by
    obtain ⟨ds, ρ1, h1, h2, h3⟩ := wpEs_ok es (show wpEs es ρ _ from h)
    exact ⟨_, ρ1, by show (evs es ρ).bind _ = _; rw [h1]; show (if ds.all frzD = true ∧ ds.length ≤ lim then Out.ok (D.tup ds) ρ1 else .bad) = _; rw [if_pos h2], h3⟩
  | .lst es, ρ, Q, h => by
    obtain ⟨ds, ρ1, h1, h2, h3⟩ := wpEs_ok es (show wpEs es ρ _ from h)
    exact ⟨_, ρ1, by show (evs es ρ).bind _ = _; rw [h1]; show (if ds.length ≤ lim then Out.ok (D.lst true ds) ρ1 else .bad) = _; rw [if_pos h2], h3⟩
  | .slc a lo hi, ρ, Q, h => by
    obtain ⟨x, ρ1, h1, h⟩ := wpE_ok a (show wpE a ρ _ from h)
    obtain ⟨l, ρ2, h2, l', hl, h⟩ := wpEs_ok lo h
    obtain ⟨u, ρ3, h3, u', hu, z, hz, h⟩ := wpEs_ok hi h
    refine ⟨z, ρ3, ?_, h⟩
    show (ev a ρ).bind _ = _
    rw [h1]
    show (evs lo ρ1).bind _ = _
    rw [h2]
    show (match partS l with | some l' => (evs hi ρ2).bind fun h ρ => (match partS h with | some h' => liftO (slcS x l' h') ρ | none => .bad) | none => .bad) = _
    rw [hl]
    show (evs hi ρ2).bind _ = _
    rw [h3]
    show (match partS u with | some h' => liftO (slcS x l' h') ρ3 | none => .bad) = _
    rw [hu]
    show liftO (slcS x l' u') ρ3 = _
    rw [hz]
    rfl
  | .call slots k es, ρ, Q, h => by
    obtain ⟨ds, ρ1, h1, ds', h2, d, outs, h3, ρ', h4, h⟩ := wpEs_ok es (show wpEs es ρ _ from h)
    refine ⟨d, ρ', ?_, h⟩
    show (evs es ρ).bind _ = _
    rw [h1]
    show callOut slots (Fns.F k) ds ρ1 = _
    unfold callOut
    rw [h2]
    dsimp only
    rw [h3]
    dsimp only
    rw [h4]
  | .pop i, ρ, Q, h => h
  | .popAt i a, ρ, Q, h => by
    obtain ⟨hl, h⟩ := h
    obtain ⟨x, ρ1, h1, k, d, ρ', rfl, h2, h⟩ := wpE_ok a h
    refine ⟨d, ρ', ?_, h⟩
    show (if isL ρ i = true then (ev a ρ).bind _ else .bad) = _
    rw [if_pos hl, h1]
    exact h2
  | .lc own tg it c elt, ρ, Q, h => by
    obtain ⟨items, ρ1, h1, I, h0, hs, he⟩ := wpIt_ok it (show wpIt it ρ _ from h)
    obtain ⟨ys, ρ2, h2, h3⟩ := lc_wp (f := lcF own tg c elt) (I := I) (items := items) items.length 0 [] (wipeE ρ1 own) (by omega) h0 (fun i d acc ρ hd hI => by
        obtain ⟨ρ', hb, hc⟩ := hs i d acc ρ hd hI
        obtain ⟨t, ρ3, h4, ht, hf⟩ := wpC_ok c hc
        cases t with
        | true =>
          obtain ⟨y, ρ4, h5, h6⟩ := wpE_ok elt (ht rfl)
          exact ⟨[y], _, by unfold lcF; rw [hb]; show (evC c ρ').bind _ = _; rw [h4]; show (ev elt ρ3).bind _ = _; rw [h5]; rfl, h6⟩
        | false => exact ⟨[], _, by unfold lcF; rw [hb]; show (evC c ρ').bind _ = _; rw [h4]; rfl, by rw [List.append_nil]; exact hf rfl⟩)
    obtain ⟨h4, h5⟩ := he _ _ h3
    rw [List.drop_zero] at h2
    refine ⟨_, ρ2, ?_, h5⟩
    show (evIt it ρ).bind _ = _
    rw [h1]
    show (match lcLoop (lcF own tg c elt) items (wipeE ρ1 own) with | .ok ys ρ2 => if ys.length ≤ lim then Out.ok (D.lst true ys) ρ2 else .bad | .exc _ _ => .bad | .bad => .bad) = _
    rw [h2]
    rw [List.nil_append] at h4 ⊢
    show (if ys.length ≤ lim then Out.ok (D.lst true ys) ρ2 else .bad) = _
    rw [if_pos h4]
  | .dnil, ρ, Q, h => ⟨_, ρ, rfl, h⟩
  | .ixL i b, ρ, Q, h => by
    obtain ⟨⟨d0, h0⟩, h⟩ := h
    obtain ⟨y, ρ1, h1, d, z, h2, h3, h⟩ := wpE_ok b h
    refine ⟨z, ρ1, ?_, h⟩
    show (if (getV ρ i).isSome = true then (ev b ρ).bind _ else .bad) = _
    rw [if_pos (by rw [h0]; rfl), h1]
    show liftO ((getV ρ1 i).bind fun d => idxS d y) ρ1 = _
    rw [h2]
    show liftO (idxS d y) ρ1 = _
    rw [h3]
    rfl
  | .popP i p a, ρ, Q, h => by
    obtain ⟨h0, h⟩ := h
    obtain ⟨x, ρ1, h1, k, rfl, h2, h⟩ := wpE_ok p (show wpE p ρ _ from h)
    obtain ⟨y, ρ2, h3, j, d, ρ', rfl, h4, h⟩ := wpE_ok a h
    refine ⟨d, ρ', ?_, h⟩
    show (if isL ρ i = true then (ev p ρ).bind _ else .bad) = _
    rw [if_pos h0, h1]
    show (if isP ρ1 i k = true then (ev a ρ1).bind _ else .bad) = _
    rw [if_pos h2, h3]
    exact h4
  | .callK k perm es, ρ, Q, h => by
    obtain ⟨ds, ρ1, h1, hf, d, h2, h⟩ := wpEs_ok es (show wpEs es ρ _ from h)
    refine ⟨d, ρ1, ?_, h⟩
    show (evs es ρ).bind _ = _
    rw [h1]
    show (if ds.all frzD = true then (match Fns.F k (permD perm ds) with
      | .ret d [] => Out.ok d ρ1
      | .exc x [] => .exc x ρ1
      | _ => .bad) else .bad) = _
    rw [if_pos hf, h2]
  | .get a k d, ρ, Q, h => by
    obtain ⟨x, ρ1, h1, hr, h⟩ := wpE_ok a (show wpE a ρ _ from h)
    obtain ⟨y, ρ2, h2, h⟩ := wpE_ok k h
    obtain ⟨z, ρ3, h3, r, h4, h⟩ := wpE_ok d h
    refine ⟨r, ρ3, ?_, h⟩
    show (ev a ρ).bind _ = _
    rw [h1]
    show (if recvD x = true then (ev k ρ1).bind _ else .bad) = _
    rw [if_pos hr, h2]
    show (ev d ρ2).bind _ = _
    rw [h3]
    show liftO (getS x y z) ρ3 = _
    rw [h4]
    rfl
  | .srtK k a, ρ, Q, h => by
    obtain ⟨x, ρ1, h1, z, hz, h⟩ := wpE_ok a (show wpE a ρ _ from h)
    refine ⟨z, ρ1, ?_, h⟩
    show (ev a ρ).bind _ = _
    rw [h1]
    show liftO (srtKS (Fns.F k) x) ρ1 = _
    rw [hz]
    rfl
  | .cmp2 o1 o2 a b c, ρ, Q, h => by
    obtain ⟨x, ρ1, h1, h⟩ := wpE_ok a (show wpE a ρ _ from h)
    obtain ⟨y, ρ2, h2, t, ht, ha, hb⟩ := wpE_ok b h
    cases t with
    | true =>
      obtain ⟨z, ρ3, h3, r, h4, h⟩ := wpE_ok c (ha rfl)
      refine ⟨_, ρ3, ?_, h⟩
      show (ev a ρ).bind _ = _
      rw [h1]
      show (ev b ρ1).bind _ = _
      rw [h2]
      show (match o1.sem x y with
        | some (.bl true) => (ev c ρ2).bind fun z ρ => (match o2.sem y z with
          | some (.bl r) => Out.ok (D.bl r) ρ
          | _ => .bad)
        | some (.bl false) => .ok (D.bl false) ρ2
        | _ => .bad) = _
      rw [ht]
      show (ev c ρ2).bind _ = _
      rw [h3]
      show (match o2.sem y z with
          | some (.bl r) => Out.ok (D.bl r) ρ3
          | _ => .bad) = _
      rw [h4]
    | false =>
      refine ⟨_, ρ2, ?_, hb rfl⟩
      show (ev a ρ).bind _ = _
      rw [h1]
      show (ev b ρ1).bind _ = _
      rw [h2]
      show (match o1.sem x y with
        | some (.bl true) => (ev c ρ2).bind fun z ρ => (match o2.sem y z with
          | some (.bl r) => Out.ok (D.bl r) ρ
          | _ => .bad)
        | some (.bl false) => .ok (D.bl false) ρ2
        | _ => .bad) = _
      rw [ht]
  | .me m a es, ρ, Q, h => by
    obtain ⟨x, ρ1, h1, h2, h⟩ := wpE_ok a (show wpE a ρ _ from h)
    obtain ⟨ds, ρ2, h3, z, h4, h⟩ := wpEs_ok es h
    exact ⟨z, ρ2, by show (ev a ρ).bind _ = _; rw [h1]; show (if m.recv x = true then (evs es ρ1).bind fun ds ρ => liftO (m.sem x ds) ρ else .bad) = _; rw [if_pos h2, h3]; show liftO (m.sem x ds) ρ2 = _; rw [h4]; rfl, h⟩
  | .lrg es, ρ, Q, h => by
    obtain ⟨ds, ρ1, h1, l, h2, h3, h4⟩ := wpEs_ok es (show wpEs es ρ _ from h)
    exact ⟨_, ρ1, by show (evs es ρ).bind _ = _; rw [h1]; show liftO (lrgS ds) ρ1 = _; unfold lrgS; rw [h2]; show liftO (if l.length ≤ lim then some (D.lst true l) else none) ρ1 = _; rw [if_pos h3]; rfl, h4⟩
  | .dc own tg it c k e, ρ, Q, h => by
    obtain ⟨items, ρ1, h1, I, h0, hs, he⟩ := wpIt_ok it (show wpIt it ρ _ from h)
    obtain ⟨r, ρ2, h2, h3⟩ := dc_wp (f := dcF own tg c k e) (I := I) (items := items) items.length 0 ([], []) (wipeE ρ1 own) (by omega) h0 (fun i d acc ρ hd hI => by
        obtain ⟨ρ', hb, hc⟩ := hs i d acc ρ hd hI
        obtain ⟨t, ρ3, h4, ht, hf⟩ := wpC_ok c hc
        cases t with
        | true =>
          obtain ⟨x, ρ4, h5, h6⟩ := wpE_ok k (ht rfl)
          obtain ⟨y, ρ5, h7, j, hj, hz, h8⟩ := wpE_ok e h6
          refine ⟨some (j, y), _, ?_, h8⟩
          unfold dcF
          rw [hb]
          show (evC c ρ').bind _ = _
          rw [h4]
          show (ev k ρ3).bind _ = _
          rw [h5]
          show (ev e ρ4).bind _ = _
          rw [h7]
          show (match keyD x with | some j => if frzD y = true then Out.ok (some (j, y)) (wipeE ρ5 own) else .bad | none => .bad) = _
          rw [hj]
          show (if frzD y = true then Out.ok (some (j, y)) (wipeE ρ5 own) else .bad) = _
          rw [if_pos hz]
        | false => exact ⟨none, _, by unfold dcF; rw [hb]; show (evC c ρ').bind _ = _; rw [h4]; rfl, hf rfl⟩)
    obtain ⟨h4, h5⟩ := he _ _ h3
    rw [List.drop_zero] at h2
    refine ⟨_, ρ2, ?_, h5⟩
    show (evIt it ρ).bind _ = _
    rw [h1]
    show (match dcLoop (dcF own tg c k e) items ([], []) (wipeE ρ1 own) with | .ok ks ρ2 => if ks.1.length < lim then Out.ok (D.dk true ks.1 ks.2) ρ2 else .bad | .exc _ _ => .bad | .bad => .bad) = _
    rw [h2]
    show (if r.1.length < lim then Out.ok (D.dk true r.1 r.2) ρ2 else .bad) = _
    rw [if_pos h4]
theorem wpEs_ok : ∀ (es : Es) {ρ : Ev} {Q : List D → Ev → Prop}, wpEs es ρ Q → ∃ ds ρ', evs es ρ = .ok ds ρ' ∧ Q ds ρ'
  | .nil, ρ, Q, h => ⟨[], ρ, rfl, h⟩
  | .cons e es, ρ, Q, h => by
    obtain ⟨d, ρ1, h1, h⟩ := wpE_ok e (show wpE e ρ _ from h)
    obtain ⟨ds, ρ2, h2, h⟩ := wpEs_ok es h
    exact ⟨d :: ds, ρ2, by show (ev e ρ).bind _ = _; rw [h1]; show (evs es ρ1).bind _ = _; rw [h2]; rfl, h⟩
  | .io i es, ρ, Q, h => by
    obtain ⟨d, h0, h⟩ := h
    obtain ⟨ds, ρ2, h2, h⟩ := wpEs_ok es h
    exact ⟨.non :: ds, ρ2, by show (match getV ρ i with | some _ => (evs es ρ).bind fun ds ρ => Out.ok (D.non :: ds) ρ | none => .bad) = _; rw [h0]; show (evs es ρ).bind _ = _; rw [h2]; rfl, h⟩
theorem wpC_ok : ∀ (c : Es) {ρ : Ev} {Q : Bool → Ev → Prop}, wpC c ρ Q → ∃ t ρ', evC c ρ = .ok t ρ' ∧ Q t ρ'
  | .nil, ρ, Q, h => ⟨true, ρ, rfl, h⟩
  | .cons e _, ρ, Q, h => by
    obtain ⟨d, ρ1, h1, t, ht, h⟩ := wpE_ok e (show wpE e ρ _ from h)
    exact ⟨t, ρ1, by show (ev e ρ).bind _ = _; rw [h1]; show liftO (truth d) ρ1 = _; rw [ht]; rfl, h⟩
  | .io _ _, ρ, Q, h => h.elim
theorem wpIt_ok : ∀ (it : It) {ρ : Ev} {Q : List D → Ev → Prop}, wpIt it ρ Q → ∃ l ρ', evIt it ρ = .ok l ρ' ∧ Q l ρ'
  | .seq e, ρ, Q, h => by
    obtain ⟨d, ρ1, h1, l, hl, h⟩ := wpE_ok e (show wpE e ρ _ from h)
    exact ⟨l, ρ1, by show (ev e ρ).bind _ = _; rw [h1]; show liftO (seqOf d) ρ1 = _; rw [hl]; rfl, h⟩
  | .rng es, ρ, Q, h => by
    obtain ⟨ds, ρ1, h1, l, hl, h⟩ := wpEs_ok es (show wpEs es ρ _ from h)
    exact ⟨l, ρ1, by show (evs es ρ).bind _ = _; rw [h1]; show liftO (rngOf ds) ρ1 = _; rw [hl]; rfl, h⟩
  | .enum e, ρ, Q, h => by
    obtain ⟨d, ρ1, h1, l, hl, h⟩ := wpE_ok e (show wpE e ρ _ from h)
    exact ⟨_, ρ1, by show (ev e ρ).bind _ = _; rw [h1]; show liftO ((seqOf d).map (enumD 0)) ρ1 = _; rw [hl]; rfl, h⟩
  | .zip a b, ρ, Q, h => by
    obtain ⟨x, ρ1, h1, h⟩ := wpE_ok a (show wpE a ρ _ from h)
    obtain ⟨y, ρ2, h2, l, m, hl, hm, h⟩ := wpE_ok b h
    exact ⟨_, ρ2, by show (ev a ρ).bind _ = _; rw [h1]; show (ev b ρ1).bind _ = _; rw [h2]; show (match seqOf x, seqOf y with | some xs, some ys => Out.ok (zipD xs ys) ρ2 | _, _ => .bad) = _; rw [hl, hm], h⟩
  | .revd e, ρ, Q, h => by
    obtain ⟨d, ρ1, h1, l, hl, h⟩ := wpE_ok e (show wpE e ρ _ from h)
    exact ⟨_, ρ1, by show (ev e ρ).bind _ = _; rw [h1]; show liftO (revOf d) ρ1 = _; rw [hl]; rfl, h⟩
end
mutual
def wpS : S → Ev → (Fl → Ev → Prop) → Prop
  | .pass, ρ, Q => Q .nx ρ
  | .expr e, ρ, Q => wpE e ρ fun _ ρ => Q .nx ρ
  | .asg i e, ρ, Q => wpE e ρ fun d ρ => Q .nx (ρ.set i (some d))
  | .asgT tg e, ρ, Q => wpE e ρ fun d ρ => ∃ ρ', bindT tg d ρ = some ρ' ∧ Q .nx ρ'
  | .asgP i j a b, ρ, Q => wpE a ρ fun x ρ => wpE b ρ fun y ρ => Q .nx ((ρ.set i (some x)).set j (some y))
  | .aug i op e, ρ, Q => ∃ m, getV ρ i = some (.int m) ∧ wpE e ρ fun y ρ => ∃ n z, y = .int n ∧ op.sem (.int m) (.int n) = some z ∧ Q .nx (ρ.set i (some z))
  | .setI i ix e, ρ, Q => wpE e ρ fun d ρ => ∃ x, getV ρ i = some x ∧ wpE ix ρ fun k ρ =>
      (∃ xs j n, x = .lst true xs ∧ k = .int j ∧ ixN xs.length j = some n ∧ Q .nx (ρ.set i (some (.lst true (xs.set n d))))) ∨
      ∃ ks vs j, x = .dk true ks vs ∧ keyD k = some j ∧ (frzD d = true ∧ ks.length < lim) ∧ Q .nx (ρ.set i (some (.dk true (put j d ks vs).1 (put j d ks vs).2)))
  | .app i e, ρ, Q => isL ρ i = true ∧ wpE e ρ fun d ρ => ∃ xs, getV ρ i = some (.lst true xs) ∧ xs.length < lim ∧ Q .nx (ρ.set i (some (.lst true (xs ++ [d]))))
  | .appP i p e, ρ, Q => isL ρ i = true ∧ wpE p ρ fun x ρ => ∃ k, x = .int k ∧ isP ρ i k = true ∧ wpE e ρ fun d ρ => ∃ ρ', onP (appF d) i k ρ = .ok () ρ' ∧ Q .nx ρ'
  | .setP i p ix e, ρ, Q => wpE e ρ fun d ρ => isL ρ i = true ∧ wpE p ρ fun x ρ => ∃ k, x = .int k ∧ isP ρ i k = true ∧ wpE ix ρ fun y ρ => ∃ j ρ', y = .int j ∧ onP (setF j d) i k ρ = .ok () ρ' ∧ Q .nx ρ'
  | .augI i ix op e, ρ, Q => isL ρ i = true ∧ wpE ix ρ fun x ρ => ∃ k xs m, x = .int k ∧ getV ρ i = some (.lst true xs) ∧ idxS (.lst true xs) (.int k) = some (.int m) ∧ wpE e ρ fun y ρ => ∃ j ys z n, y = .int j ∧ getV ρ i = some (.lst true ys) ∧ op.sem (.int m) (.int j) = some z ∧ ixN ys.length k = some n ∧ Q .nx (ρ.set i (some (.lst true (ys.set n z))))
  | .iff c a b, ρ, Q => wpE c ρ fun x ρ => ∃ t, truth x = some t ∧ (t = true → wpSs a ρ Q) ∧ (t = false → wpSs b ρ Q)
  | .whl c b, ρ, Q => ∃ I : Nat → Ev → Prop, (∃ n, n < FUEL ∧ I n ρ) ∧ ∀ n ρ, I n ρ → wpE c ρ fun x ρ => ∃ t, truth x = some t ∧ (t = true → wpSs b ρ fun f ρ => match f with
      | .nx => ∃ m, m < n ∧ I m ρ
      | .ct => ∃ m, m < n ∧ I m ρ
      | .bk => Q .nx ρ
      | .rt v => Q (.rt v) ρ) ∧ (t = false → Q .nx ρ)
  | .forr tg it b, ρ, Q => wpIt it ρ fun items ρ => ∃ I : Nat → Ev → Prop, I 0 ρ ∧ (∀ i d ρ, items[i]? = some d → I i ρ → ∃ ρ', bindT tg d ρ = some ρ' ∧ wpSs b ρ' fun f ρ => match f with
      | .nx => I (i + 1) ρ
      | .ct => I (i + 1) ρ
      | .bk => Q .nx ρ
      | .rt v => Q (.rt v) ρ) ∧ ∀ ρ, I items.length ρ → Q .nx ρ
  | .ret e, ρ, Q => wpE e ρ fun d ρ => Q (.rt d) ρ
  | .retN, ρ, Q => Q (.rt .non) ρ
  | .brk, ρ, Q => Q .bk ρ
  | .cnt, ρ, Q => Q .ct ρ
def wpSs : Ss → Ev → (Fl → Ev → Prop) → Prop
  | .nil, ρ, Q => Q .nx ρ
  | .cons s ss, ρ, Q => wpS s ρ fun f ρ => match f with
    | .nx => wpSs ss ρ Q
    | .bk => Q .bk ρ
    | .ct => Q .ct ρ
    | .rt v => Q (.rt v) ρ
end
theorem for_wp {tg : Tg} {body : Ev → Out Fl} {I : Nat → Ev → Prop} {items : List D} {Q : Fl → Ev → Prop} : ∀ (n i : Nat) (ρ : Ev), n + i = items.length → I i ρ → (∀ i d ρ, items[i]? = some d → I i ρ → ∃ ρ', bindT tg d ρ = some ρ' ∧ ∃ f ρ2, body ρ' = .ok f ρ2 ∧ match f with
      | .nx => I (i + 1) ρ2
      | .ct => I (i + 1) ρ2
      | .bk => Q .nx ρ2
      | .rt v => Q (.rt v) ρ2) → (∀ ρ, I items.length ρ → Q .nx ρ) → ∃ f ρ', forLoop tg body (items.drop i) ρ = .ok f ρ' ∧ Q f ρ'
  | 0, i, ρ, hn, h, hs, he => by
    have : i = items.length := by omega
    subst this
    rw [List.drop_length]
    exact ⟨.nx, ρ, rfl, he ρ h⟩
  | n + 1, i, ρ, hn, h, hs, he => by
    have hi : i < items.length := by omega
    obtain ⟨ρ1, h1, f, ρ2, h2, h3⟩ := hs i items[i] ρ (by simp [hi]) h
    rw [List.drop_eq_getElem_cons hi]
    unfold forLoop
    rw [h1]
    dsimp only
    rw [h2]
    cases f with
    | nx => exact for_wp n (i + 1) ρ2 (by omega) h3 hs he
    | ct => exact for_wp n (i + 1) ρ2 (by omega) h3 hs he
    | bk => exact ⟨_, _, rfl, h3⟩
    | rt v => exact ⟨_, _, rfl, h3⟩
theorem while_wp {c : Ev → Out D} {body : Ev → Out Fl} {I : Nat → Ev → Prop} {Q : Fl → Ev → Prop} (hs : ∀ n ρ, I n ρ → ∃ x ρ1, c ρ = .ok x ρ1 ∧ ∃ t, truth x = some t ∧ (t = true → ∃ f ρ2, body ρ1 = .ok f ρ2 ∧ match f with
      | .nx => ∃ m, m < n ∧ I m ρ2
      | .ct => ∃ m, m < n ∧ I m ρ2
      | .bk => Q .nx ρ2
      | .rt v => Q (.rt v) ρ2) ∧ (t = false → Q .nx ρ1)) : ∀ (k n : Nat) (ρ : Ev), n < k → I n ρ → ∃ f ρ', whLoop c body k ρ = .ok f ρ' ∧ Q f ρ'
  | 0, n, ρ, hk, _ => absurd hk (Nat.not_lt_zero _)
  | k + 1, n, ρ, hk, h => by
    obtain ⟨x, ρ1, h1, t, ht, ha, hb⟩ := hs n ρ h
    unfold whLoop
    rw [h1]
    dsimp only
    rw [ht]
    cases t with
    | false => exact ⟨_, _, rfl, hb rfl⟩
    | true =>
      dsimp only
      obtain ⟨f, ρ2, h2, h3⟩ := ha rfl
      rw [h2]
      cases f with
      | nx => obtain ⟨m, hm, h3⟩ := h3; exact while_wp hs k m ρ2 (by omega) h3
      | ct => obtain ⟨m, hm, h3⟩ := h3; exact while_wp hs k m ρ2 (by omega) h3
      | bk => exact ⟨_, _, rfl, h3⟩
      | rt v => exact ⟨_, _, rfl, h3⟩
mutual
theorem wpS_ok : ∀ (s : S) {ρ : Ev} {Q : Fl → Ev → Prop}, wpS s ρ Q → ∃ f ρ', ex s ρ = .ok f ρ' ∧ Q f ρ'
  | .pass, ρ, Q, h => ⟨_, _, rfl, h⟩
  | .expr e, ρ, Q, h => by
    obtain ⟨d, ρ1, h1, h⟩ := wpE_ok e (show wpE e ρ _ from h)
    exact ⟨_, _, by show (ev e ρ).bind _ = _; rw [h1]; rfl, h⟩
  | .asg i e, ρ, Q, h => by
    obtain ⟨d, ρ1, h1, h⟩ := wpE_ok e (show wpE e ρ _ from h)
    exact ⟨_, _, by show (ev e ρ).bind _ = _; rw [h1]; rfl, h⟩
  | .asgT tg e, ρ, Q, h => by
    obtain ⟨d, ρ1, h1, ρ', hb, h⟩ := wpE_ok e (show wpE e ρ _ from h)
    exact ⟨_, _, by show (ev e ρ).bind _ = _; rw [h1]; show (match bindT tg d ρ1 with | some ρ' => Out.ok Fl.nx ρ' | none => .bad) = _; rw [hb], h⟩
  | .asgP i j a b, ρ, Q, h => by
    obtain ⟨x, ρ1, h1, h⟩ := wpE_ok a (show wpE a ρ _ from h)
    obtain ⟨y, ρ2, h2, h⟩ := wpE_ok b h
    exact ⟨_, _, by show (ev a ρ).bind _ = _; rw [h1]; show (ev b ρ1).bind _ = _; rw [h2]; rfl, h⟩
  | .aug i op e, ρ, Q, h => by
    obtain ⟨m, hm, h⟩ := h
    obtain ⟨y, ρ1, h1, n, z, rfl, hz, h⟩ := wpE_ok e h
    refine ⟨_, _, ?_, h⟩
    unfold ex
    rw [hm]
    show (ev e ρ).bind _ = _
    rw [h1]
    show (match op.sem (.int m) (.int n) with | some z => Out.ok Fl.nx (ρ1.set i (some z)) | none => .bad) = _
    rw [hz]
  | .setI i ix e, ρ, Q, h => by
    obtain ⟨d, ρ1, h1, x, hx, h⟩ := wpE_ok e (show wpE e ρ _ from h)
    obtain ⟨k, ρ2, h2, h⟩ := wpE_ok ix h
    rcases h with ⟨xs, j, n, rfl, rfl, hn, h⟩ | ⟨ks, vs, j, rfl, hj, hc, h⟩
    · refine ⟨_, _, ?_, h⟩
      unfold ex
      rw [h1]
      show (match getV ρ1 i with | some x => _ | none => Out.bad) = _
      rw [hx]
      dsimp only
      rw [h2]
      show (match ixN xs.length j with | some n => Out.ok Fl.nx (ρ2.set i (some (.lst true (xs.set n d)))) | none => .bad) = _
      rw [hn]
    · refine ⟨_, _, ?_, h⟩
      unfold ex
      rw [h1]
      show (match getV ρ1 i with | some x => _ | none => Out.bad) = _
      rw [hx]
      dsimp only
      rw [h2]
      have e0 : ∀ k : D, keyD k = some j → (match D.dk true ks vs, k with
        | .lst true xs, .int j => (match ixN xs.length j with
          | some n => Out.ok Fl.nx (ρ2.set i (some (.lst true (xs.set n d))))
          | none => .bad)
        | .dk true ks vs, k => (match keyD k with
          | some j => if frzD d = true ∧ ks.length < lim then .ok .nx (ρ2.set i (some (.dk true (put j d ks vs).1 (put j d ks vs).2))) else .bad
          | none => .bad)
        | _, _ => .bad) = .ok .nx (ρ2.set i (some (.dk true (put j d ks vs).1 (put j d ks vs).2))) := fun k hk => by
          cases k <;> first
            | (cases hk; done)
            | (dsimp only; rw [hk]; dsimp only; rw [if_pos hc])
      exact e0 k hj
  | .app i e, ρ, Q, h => by
    obtain ⟨hl, h⟩ := h
    obtain ⟨d, ρ1, h1, xs, hx, hn, h⟩ := wpE_ok e h
    refine ⟨_, _, ?_, h⟩
    unfold ex
    rw [if_pos hl, h1]
    show (onL (appF d) i ρ1).bind _ = _
    unfold onL appF
    rw [hx]
    dsimp only
    rw [if_pos hn]
    rfl
  | .appP i p e, ρ, Q, h => by
    obtain ⟨h0, h⟩ := h
    obtain ⟨x, ρ1, h1, k, rfl, h2, h⟩ := wpE_ok p (show wpE p ρ _ from h)
    obtain ⟨d, ρ2, h3, ρ', h4, h⟩ := wpE_ok e h
    refine ⟨_, ρ', ?_, h⟩
    unfold ex
    rw [if_pos h0, h1]
    show (if isP ρ1 i k = true then (ev e ρ1).bind _ else .bad) = _
    rw [if_pos h2, h3]
    show (onP (appF d) i k ρ2).bind _ = _
    rw [h4]
    rfl
  | .setP i p ix e, ρ, Q, h => by
    obtain ⟨d, ρ1, h1, h0, h⟩ := wpE_ok e (show wpE e ρ _ from h)
    obtain ⟨x, ρ2, h2, k, rfl, h3, h⟩ := wpE_ok p h
    obtain ⟨y, ρ3, h4, j, ρ', rfl, h5, h⟩ := wpE_ok ix h
    refine ⟨_, ρ', ?_, h⟩
    unfold ex
    rw [h1]
    show (if isL ρ1 i = true then (ev p ρ1).bind _ else .bad) = _
    rw [if_pos h0, h2]
    show (if isP ρ2 i k = true then (ev ix ρ2).bind _ else .bad) = _
    rw [if_pos h3, h4]
    show (onP (setF j d) i k ρ3).bind _ = _
    rw [h5]
    rfl
  | .augI i ix op e, ρ, Q, h => by
    obtain ⟨h0, h⟩ := h
    obtain ⟨x, ρ1, h1, k, xs, m, rfl, h2, h3, h⟩ := wpE_ok ix (show wpE ix ρ _ from h)
    obtain ⟨y, ρ2, h4, j, ys, z, n, rfl, h5, h6, h7, h⟩ := wpE_ok e h
    refine ⟨_, _, ?_, h⟩
    unfold ex
    rw [if_pos h0, h1]
    dsimp only [Out.bind]
    rw [h2]
    dsimp only
    rw [h3]
    dsimp only
    rw [h4]
    dsimp only [Out.bind]
    rw [h5]
    dsimp only
    rw [h6, h7]
  | .iff c a b, ρ, Q, h => by
    obtain ⟨x, ρ1, h1, t, ht, ha, hb⟩ := wpE_ok c (show wpE c ρ _ from h)
    cases t with
    | true =>
      obtain ⟨f, ρ2, h2, h⟩ := wpSs_ok a (ha rfl)
      exact ⟨_, _, by show (ev c ρ).bind _ = _; rw [h1]; show (match truth x with | some true => exs a ρ1 | some false => exs b ρ1 | none => .bad) = _; rw [ht]; exact h2, h⟩
    | false =>
      obtain ⟨f, ρ2, h2, h⟩ := wpSs_ok b (hb rfl)
      exact ⟨_, _, by show (ev c ρ).bind _ = _; rw [h1]; show (match truth x with | some true => exs a ρ1 | some false => exs b ρ1 | none => .bad) = _; rw [ht]; exact h2, h⟩
  | .whl c b, ρ, Q, h => by
    obtain ⟨I, ⟨n, hn, h0⟩, hs⟩ := h
    exact while_wp (c := ev c) (body := exs b) (I := I) (fun n ρ hI => by
      obtain ⟨x, ρ1, h1, t, ht, ha, hb⟩ := wpE_ok c (hs n ρ hI)
      exact ⟨x, ρ1, h1, t, ht, fun z => wpSs_ok b (ha z), hb⟩) FUEL n ρ hn h0
  | .forr tg it b, ρ, Q, h => by
    obtain ⟨items, ρ1, h1, I, h0, hs, he⟩ := wpIt_ok it (show wpIt it ρ _ from h)
    obtain ⟨f, ρ2, h2, h3⟩ := for_wp (tg := tg) (body := exs b) (I := I) (Q := Q) items.length 0 ρ1 (by omega) h0 (fun i d ρ hd hI => by
      obtain ⟨ρ', hb, hw⟩ := hs i d ρ hd hI
      exact ⟨ρ', hb, wpSs_ok b hw⟩) he
    rw [List.drop_zero] at h2
    exact ⟨_, _, by show (evIt it ρ).bind _ = _; rw [h1]; exact h2, h3⟩
  | .ret e, ρ, Q, h => by
    obtain ⟨d, ρ1, h1, h⟩ := wpE_ok e (show wpE e ρ _ from h)
    exact ⟨_, _, by show (ev e ρ).bind _ = _; rw [h1]; rfl, h⟩
  | .retN, ρ, Q, h => ⟨_, _, rfl, h⟩
  | .brk, ρ, Q, h => ⟨_, _, rfl, h⟩
  | .cnt, ρ, Q, h => ⟨_, _, rfl, h⟩
theorem wpSs_ok : ∀ (s : Ss) {ρ : Ev} {Q : Fl → Ev → Prop}, wpSs s ρ Q → ∃ f ρ', exs s ρ = .ok f ρ' ∧ Q f ρ'
  | .nil, ρ, Q, h => ⟨_, _, rfl, h⟩
  | .cons s ss, ρ, Q, h => by
    obtain ⟨f, ρ1, h1, h⟩ := wpS_ok s (show wpS s ρ _ from h)
    unfold exs
    rw [h1]
    cases f with
    | nx => exact wpSs_ok ss h
    | bk => exact ⟨_, _, rfl, h⟩
    | ct => exact ⟨_, _, rfl, h⟩
    | rt v => exact ⟨_, _, rfl, h⟩
end
/-- a def's result -/
def wpF (n : Nat) (io : List Bool) (b : Ss) (ds : List D) (Q : D → List D → Prop) : Prop :=
  wpSs b (ds.map some ++ List.replicate (n - ds.length) none) fun f ρ => match f with
    | .nx => ∃ l, outsOf (ixs io) ρ = some l ∧ Q .non l
    | .rt d => ∃ l, outsOf (ixs io) ρ = some l ∧ Q d l
    | _ => False
theorem wpF_ok {n : Nat} {io : List Bool} {b : Ss} {ds : List D} {Q : D → List D → Prop} (h : wpF n io b ds Q) : ∃ d l, runFn n io b ds = .ret d l ∧ Q d l := by
  obtain ⟨f, ρ, h1, h⟩ := wpSs_ok b h
  unfold runFn
  rw [h1]
  cases f with
  | nx =>
    obtain ⟨l, h2, h⟩ := h
    dsimp only
    rw [h2]
    exact ⟨_, _, rfl, h⟩
  | rt d =>
    obtain ⟨l, h2, h⟩ := h
    dsimp only
    rw [h2]
    exact ⟨_, _, rfl, h⟩
  | bk => exact h.elim
  | ct => exact h.elim
theorem wpF_eq {n : Nat} {io : List Bool} {b : Ss} {ds : List D} {d : D} {l : List D} (h : wpF n io b ds fun d' l' => d' = d ∧ l' = l) : runFn n io b ds = .ret d l := by
  obtain ⟨d', l', h1, rfl, rfl⟩ := wpF_ok h
  exact h1
end Ly

namespace Hd
open PySem PySem.Spec PyProof.Rows L2 Ly

def top (i : Nat) : Stmt := PySem.Challenge.pw_fringes_k08_steps.main.body.getD i (.Pass ⟨0, 0, 0, 0⟩)
/-- place_numbers(chart): 0 chart, 1 number, 2 place -/
def n0 : List PySem.Str := ["chart", "number", "place"]
def io0 : List Bool := [false]
def b0 : Ss := .cons (.ret (.fz (.dc [1, 2] (.tp (.cons (.nm 1) (.cons (.nm 2) .nil))) (.enum (.ck (.o2 .idx (.var 0) (.cst (.int 1))))) .nil (.ck (.o2 .idx (.var 2) (.cst (.int 0)))) (.ck (.var 1))))) .nil
/-- tie_ends(chart): 0 chart, 1 numbers, 2 tie -/
def n1 : List PySem.Str := ["chart", "numbers", "tie"]
def io1 : List Bool := [false]
def b1 : Ss := .cons (.asg 1 (.call [none] 0 (.cons (.ck (.var 0)) .nil))) (.cons (.ret (.fz (.lc [2] (.nm 2) (.seq (.o2 .idx (.var 0) (.cst (.int 2)))) .nil (.tup (.cons (.ck (.o2 .idx (.var 1) (.o2 .idx (.var 2) (.cst (.int 1))))) (.cons (.ck (.o2 .idx (.var 1) (.o2 .idx (.var 2) (.cst (.int 2))))) .nil)))))) .nil)
/-- differences_of(chart, land): 0 chart, 1 land, 2 one, 3 other -/
def n2 : List PySem.Str := ["chart", "land", "one", "other"]
def io2 : List Bool := [false, false]
def b2 : Ss := .cons (.ret (.fz (.lc [2, 3] (.tp (.cons (.nm 2) (.cons (.nm 3) .nil))) (.seq (.call [none] 1 (.cons (.ck (.var 0)) .nil))) .nil (.o2 .sub (.o2 .idx (.var 1) (.var 3)) (.o2 .idx (.var 1) (.var 2)))))) .nil
/-- nearest_rest(value, modulus): 0 value, 1 modulus, 2 rest -/
def n3 : List PySem.Str := ["value", "modulus", "rest"]
def io3 : List Bool := [false, false]
def b3 : Ss := .cons (.asg 2 (.o2 .mod (.var 0) (.var 1))) (.cons (.ret (.ite (.o2 .gt (.o2 .mul (.cst (.int 2)) (.var 2)) (.var 1)) (.o2 .sub (.var 2) (.var 1)) (.ck (.var 2)))) .nil)
/-- all_steps(chart): 0 chart, 1 places, 2 one, 3 other -/
def n4 : List PySem.Str := ["chart", "places", "one", "other"]
def io4 : List Bool := [false]
def b4 : Ss := .cons (.asg 1 (.ck (.o2 .idx (.var 0) (.cst (.int 1))))) (.cons (.ret (.fz (.lc [2, 3] (.tp (.cons (.nm 2) (.cons (.nm 3) .nil))) (.seq (.call [none] 1 (.cons (.ck (.var 0)) .nil))) .nil (.call [none, none] 3 (.cons (.o2 .sub (.o2 .idx (.o2 .idx (.var 1) (.var 3)) (.cst (.int 1))) (.o2 .idx (.o2 .idx (.var 1) (.var 2)) (.cst (.int 1)))) (.cons (.ck (.o2 .idx (.var 0) (.cst (.int 0)))) .nil)))))) .nil)
/-- step_of(chart, tie): 0 chart, 1 tie -/
def n5 : List PySem.Str := ["chart", "tie"]
def io5 : List Bool := [false, false]
def b5 : Ss := .cons (.ret (.ck (.o2 .idx (.call [none] 4 (.cons (.ck (.var 0)) .nil)) (.var 1)))) .nil
/-- turns_of(chart, land): 0 chart, 1 land, 2 steps, 3 told, 4 difference, 5 step -/
def n6 : List PySem.Str := ["chart", "land", "steps", "told", "difference", "step"]
def io6 : List Bool := [false, false]
def b6 : Ss := .cons (.asg 2 (.call [none] 4 (.cons (.ck (.var 0)) .nil))) (.cons (.asg 3 (.call [none, none] 2 (.cons (.ck (.var 0)) (.cons (.ck (.var 1)) .nil)))) (.cons (.ret (.o1 .tuple (.lc [4, 5] (.tp (.cons (.nm 4) (.cons (.nm 5) .nil))) (.zip (.ck (.var 3)) (.ck (.var 2))) .nil (.o2 .fdiv (.o2 .sub (.var 4) (.var 5)) (.o2 .idx (.var 0) (.cst (.int 0))))))) .nil))
/-- beside_lists(chart): 0 chart, 1 found, 2 number, 3 ends, 4 place -/
def n7 : List PySem.Str := ["chart", "found", "number", "ends", "place"]
def io7 : List Bool := [false]
def b7 : Ss := .cons (.asg 1 (.lc [4] (.nm 4) (.seq (.o2 .idx (.var 0) (.cst (.int 1)))) .nil (.lst .nil))) (.cons (.forr (.tp (.cons (.nm 2) (.cons (.nm 3) .nil))) (.enum (.call [none] 1 (.cons (.ck (.var 0)) .nil))) (.cons (.appP 1 (.o2 .idx (.var 3) (.cst (.int 0))) (.tup (.cons (.ck (.var 2)) (.cons (.cst (.int 0)) (.cons (.ck (.o2 .idx (.var 3) (.cst (.int 1)))) .nil))))) (.cons (.appP 1 (.o2 .idx (.var 3) (.cst (.int 1))) (.tup (.cons (.ck (.var 2)) (.cons (.cst (.int 1)) (.cons (.ck (.o2 .idx (.var 3) (.cst (.int 0)))) .nil))))) .nil))) (.cons (.ret (.mv 1)) .nil))
/-- land_of_differences(chart, told, ties): 0 chart, 1 told, 2 ties, 3 let, 4 beside, 5 heights, 6 first, 7 todo, 8 tie, 9 here, 10 way, 11 other, 12 height -/
def n8 : List PySem.Str := ["chart", "told", "ties", "let", "beside", "heights", "first", "todo", "tie", "here", "way", "other", "height"]
def io8 : List Bool := [false, false, false]
def b8 : Ss := .cons (.asg 3 (.dc [8] (.nm 8) (.seq (.var 2)) .nil (.ck (.var 8)) (.cst (.bl true)))) (.cons (.asg 4 (.call [none] 7 (.cons (.ck (.var 0)) .nil))) (.cons (.asg 5 (.o2 .mul (.lst (.cons (.cst .non) .nil)) (.o1 .len (.o2 .idx (.var 0) (.cst (.int 1)))))) (.cons (.forr (.nm 6) (.rng (.cons (.o1 .len (.var 5)) .nil)) (.cons (.iff (.o2 .notN (.o2 .idx (.var 5) (.var 6)) (.cst .non)) (.cons (.cnt) .nil) .nil) (.cons (.setI 5 (.var 6) (.ck (.o2 .idx (.o2 .idx (.o2 .idx (.var 0) (.cst (.int 1))) (.var 6)) (.cst (.int 1))))) (.cons (.asg 7 (.lst (.cons (.ck (.var 6)) .nil))) (.cons (.whl (.var 7) (.cons (.asg 9 (.pop 7)) (.cons (.forr (.tp (.cons (.nm 8) (.cons (.nm 10) (.cons (.nm 11) .nil)))) (.seq (.o2 .idx (.var 4) (.var 9))) (.cons (.iff (.o2 .notIn (.var 8) (.var 3)) (.cons (.cnt) .nil) .nil) (.cons (.asg 12 (.o2 .add (.o2 .idx (.var 5) (.var 9)) (.ite (.o2 .eq (.var 10) (.cst (.int 0))) (.o2 .idx (.var 1) (.var 8)) (.o1 .neg (.o2 .idx (.var 1) (.var 8)))))) (.cons (.iff (.o2 .isN (.o2 .idx (.var 5) (.var 11)) (.cst .non)) (.cons (.setI 5 (.var 11) (.ck (.var 12))) (.cons (.app 7 (.ck (.var 11))) .nil)) (.cons (.iff (.o2 .ne (.o2 .idx (.var 5) (.var 11)) (.var 12)) (.cons (.ret (.cst .non)) .nil) .nil) .nil)) .nil)))) .nil))) .nil))))) (.cons (.ret (.o1 .tuple (.var 5))) .nil))))
/-- land_of_turns(chart, turns): 0 chart, 1 turns, 2 told, 3 step, 4 turn -/
def n9 : List PySem.Str := ["chart", "turns", "told", "step", "turn"]
def io9 : List Bool := [false, false]
def b9 : Ss := .cons (.asg 2 (.lc [3, 4] (.tp (.cons (.nm 3) (.cons (.nm 4) .nil))) (.zip (.call [none] 4 (.cons (.ck (.var 0)) .nil)) (.ck (.var 1))) .nil (.o2 .add (.var 3) (.o2 .mul (.o2 .idx (.var 0) (.cst (.int 0))) (.var 4))))) (.cons (.ret (.call [none, none, none] 8 (.cons (.ck (.var 0)) (.cons (.mv 2) (.cons (.fz (.lrg (.cons (.o1 .len (.var 2)) .nil))) .nil))))) .nil)
/-- _law_pot(script): 0 script, 1 stir, 2 great, 3 cell, 4 size -/
def n10 : List PySem.Str := ["script", "stir", "great", "cell", "size"]
def io10 : List Bool := [false]
def b10 : Ss := .cons (.asg 1 (.cst (.int 50331917))) (.cons (.asg 2 (.lst .nil)) (.cons (.forr (.nm 3) (.seq (.fz (.slc (.var 0) .nil (.cons (.cst (.int 63)) .nil)))) (.cons (.asg 4 (.o1 .abs (.o1 .int (.var 3)))) (.cons (.asg 1 (.o2 .mod (.o1 .int (.o2 .add (.o2 .add (.o2 .mul (.var 1) (.cst (.int 30341))) (.o2 .mod (.o1 .int (.var 4)) (.cst (.int 998244353)))) (.cst (.int 19)))) (.cst (.int 2147483629)))) (.cons (.iff (.o2 .ge (.var 4) (.o2 .pow (.cst (.int 10)) (.cst (.int 18)))) (.cons (.app 2 (.o2 .mod (.o1 .int (.var 4)) (.o2 .mul (.o2 .mul (.o2 .mul (.o2 .mul (.o2 .pow (.cst (.int 10)) (.cst (.int 60))) (.o2 .pow (.cst (.int 10)) (.cst (.int 60)))) (.o2 .pow (.cst (.int 10)) (.cst (.int 60)))) (.o2 .pow (.cst (.int 10)) (.cst (.int 60)))) (.o2 .pow (.cst (.int 10)) (.cst (.int 60)))))) .nil) .nil) .nil)))) (.cons (.ret (.lst (.cons (.mvo 2) (.cons (.ck (.var 1)) .nil)))) .nil)))
/-- _law_pour(pot, many): 0 pot, 1 many, 2 digit -/
def n11 : List PySem.Str := ["pot", "many", "digit"]
def io11 : List Bool := [true, false]
def b11 : Ss := .cons (.whl (.and (.o2 .gt (.o1 .len (.o2 .idx (.var 0) (.cst (.int 0)))) (.cst (.int 0))) (.o2 .lt (.o2 .idx (.o2 .idx (.var 0) (.cst (.int 0))) (.cst (.int 0))) (.var 1))) (.cons (.expr (.popP 0 (.cst (.int 0)) (.cst (.int 0)))) .nil)) (.cons (.iff (.o2 .gt (.o1 .len (.o2 .idx (.var 0) (.cst (.int 0)))) (.cst (.int 0))) (.cons (.asg 2 (.o2 .mod (.o1 .int (.o2 .idx (.o2 .idx (.var 0) (.cst (.int 0))) (.cst (.int 0)))) (.var 1))) (.cons (.setP 0 (.cst (.int 0)) (.cst (.int 0)) (.o2 .fdiv (.o2 .idx (.o2 .idx (.var 0) (.cst (.int 0))) (.cst (.int 0))) (.var 1))) (.cons (.ret (.ck (.var 2))) .nil))) .nil) (.cons (.setI 0 (.cst (.int 1)) (.o2 .mod (.o1 .int (.o2 .add (.o2 .mul (.o2 .idx (.var 0) (.cst (.int 1))) (.cst (.int 45991))) (.cst (.int 30011)))) (.cst (.int 2147483629)))) (.cons (.ret (.o2 .mod (.o1 .int (.o2 .fdiv (.o2 .idx (.var 0) (.cst (.int 1))) (.cst (.int 53)))) (.var 1))) .nil)))
/-- _law_mixed(pot, things): 0 pot, 1 things, 2 left, 3 out -/
def n12 : List PySem.Str := ["pot", "things", "left", "out"]
def io12 : List Bool := [true, false]
def b12 : Ss := .cons (.asg 2 (.o1 .list (.var 1))) (.cons (.asg 3 (.lst .nil)) (.cons (.whl (.o2 .gt (.o1 .len (.var 2)) (.cst (.int 0))) (.cons (.app 3 (.popAt 2 (.call [some 0, none] 11 (.io 0 (.cons (.o1 .len (.var 2)) .nil))))) .nil)) (.cons (.ret (.mvo 3)) .nil)))
/-- _law_names(pot, many): 0 pot, 1 many, 2 first, 3 more, 4 habit, 5 names, 6 number, 7 word, 8 lap -/
def n13 : List PySem.Str := ["pot", "many", "first", "more", "habit", "names", "number", "word", "lap"]
def io13 : List Bool := [true, false]
def b13 : Ss := .cons (.asg 2 (.cst (.str "acdefghijkmnopqrstuvwxyz"))) (.cons (.asg 3 (.cst (.str "gjkqvwxyz"))) (.cons (.asg 4 (.ck (.o2 .idx (.lst (.cons (.cst (.int 0)) (.cons (.cst (.int 0)) (.cons (.cst (.int 1)) (.cons (.cst (.int 5)) .nil))))) (.call [some 0, none] 11 (.io 0 (.cons (.cst (.int 4)) .nil)))))) (.cons (.asg 5 (.lst .nil)) (.cons (.forr (.nm 6) (.seq (.fz (.call [some 0, none] 12 (.io 0 (.cons (.fz (.lrg (.cons (.ck (.var 1)) .nil))) .nil))))) (.cons (.asg 7 (.ck (.ixL 2 (.call [some 0, none] 11 (.io 0 (.cons (.o1 .len (.var 2)) .nil)))))) (.cons (.forr (.nm 8) (.rng (.cons (.o2 .min2 (.ck (.var 4)) (.call [some 0, none] 11 (.io 0 (.cons (.cst (.int 6)) .nil)))) .nil)) (.cons (.asg 7 (.o2 .add (.ck (.var 7)) (.ixL 3 (.call [some 0, none] 11 (.io 0 (.cons (.o1 .len (.var 3)) .nil)))))) .nil)) (.cons (.app 5 (.o2 .add (.var 7) (.o1 .str (.var 6)))) .nil)))) (.cons (.ret (.fz (.o1 .srt (.var 5)))) .nil)))))
/-- _law_chart(pot, modulus, readings, ties): 0 pot, 1 modulus, 2 readings, 3 ties, 4 names, 5 words, 6 places, 7 rows, 8 at, 9 low, 10 high -/
def n14 : List PySem.Str := ["pot", "modulus", "readings", "ties", "names", "words", "places", "rows", "at", "low", "high"]
def io14 : List Bool := [true, false, false, false]
def b14 : Ss := .cons (.asg 4 (.call [some 0, none] 13 (.io 0 (.cons (.o1 .len (.var 2)) .nil)))) (.cons (.asg 5 (.call [some 0, none] 13 (.io 0 (.cons (.o1 .len (.var 3)) .nil)))) (.cons (.asg 6 (.o1 .tuple (.lc [8] (.nm 8) (.rng (.cons (.o1 .len (.var 4)) .nil)) .nil (.tup (.cons (.ck (.o2 .idx (.var 4) (.var 8))) (.cons (.ck (.o2 .idx (.var 2) (.var 8))) .nil)))))) (.cons (.asg 7 (.lst .nil)) (.cons (.forr (.nm 8) (.rng (.cons (.o1 .len (.var 3)) .nil)) (.cons (.asg 9 (.ck (.o2 .idx (.lst (.cons (.cst .non) (.cons (.o2 .sub (.o1 .neg (.cst (.int 7))) (.call [some 0, none] 11 (.io 0 (.cons (.cst (.int 90)) .nil)))) .nil))) (.call [some 0, none] 11 (.io 0 (.cons (.cst (.int 2)) .nil)))))) (.cons (.asg 10 (.ck (.o2 .idx (.lst (.cons (.cst .non) (.cons (.o2 .add (.cst (.int 7)) (.call [some 0, none] 11 (.io 0 (.cons (.cst (.int 90)) .nil)))) .nil))) (.call [some 0, none] 11 (.io 0 (.cons (.cst (.int 2)) .nil)))))) (.cons (.app 7 (.tup (.cons (.ck (.o2 .idx (.var 5) (.var 8))) (.cons (.ck (.o2 .idx (.var 4) (.o2 .idx (.o2 .idx (.var 3) (.var 8)) (.cst (.int 0))))) (.cons (.ck (.o2 .idx (.var 4) (.o2 .idx (.o2 .idx (.var 3) (.var 8)) (.cst (.int 1))))) (.cons (.ck (.var 9)) (.cons (.ck (.var 10)) (.cons (.tup .nil) .nil)))))))) .nil)))) (.cons (.ret (.tup (.cons (.ck (.var 1)) (.cons (.ck (.var 6)) (.cons (.o1 .tuple (.var 7)) .nil))))) .nil)))))
/-- _law_modulus(pot): 0 pot -/
def n15 : List PySem.Str := ["pot"]
def io15 : List Bool := [true]
def b15 : Ss := .cons (.ret (.ck (.o2 .idx (.lst (.cons (.cst (.int 1)) (.cons (.cst (.int 2)) (.cons (.o2 .add (.cst (.int 2)) (.o2 .mul (.cst (.int 2)) (.call [some 0, none] 11 (.io 0 (.cons (.cst (.int 6)) .nil))))) (.cons (.o2 .add (.cst (.int 3)) (.call [some 0, none] 11 (.io 0 (.cons (.cst (.int 9)) .nil)))) (.cons (.cst (.int 10000)) (.cons (.o2 .add (.cst (.int 1)) (.call [some 0, none] 11 (.io 0 (.cons (.cst (.int 10000)) .nil)))) .nil))))))) (.call [some 0, none] 11 (.io 0 (.cons (.cst (.int 6)) .nil)))))) .nil
/-- _law_readings(pot, modulus, many): 0 pot, 1 modulus, 2 many, 3 habit, 4 readings, 5 at, 6 near -/
def n16 : List PySem.Str := ["pot", "modulus", "many", "habit", "readings", "at", "near"]
def io16 : List Bool := [true, false, false]
def b16 : Ss := .cons (.asg 3 (.call [some 0, none] 11 (.io 0 (.cons (.cst (.int 4)) .nil)))) (.cons (.asg 4 (.lst .nil)) (.cons (.forr (.nm 5) (.rng (.cons (.ck (.var 2)) .nil)) (.cons (.asg 6 (.call [some 0, none] 11 (.io 0 (.cons (.o2 .min2 (.var 1) (.cst (.int 3))) .nil)))) (.cons (.app 4 (.ck (.o2 .idx (.lst (.cons (.call [some 0, none] 11 (.io 0 (.cons (.ck (.var 1)) .nil))) (.cons (.o2 .mul (.o2 .mod (.o1 .int (.var 6)) (.cst (.int 2))) (.o2 .fdiv (.var 1) (.cst (.int 2)))) (.cons (.ck (.var 6)) (.cons (.o2 .sub (.o2 .sub (.var 1) (.cst (.int 1))) (.var 6)) .nil))))) (.var 3)))) .nil))) (.cons (.ret (.mv 4)) .nil)))
/-- _law_ties(pot, places, many): 0 pot, 1 places, 2 many, 3 ties, 4 lap, 5 one, 6 other, 7 again -/
def n17 : List PySem.Str := ["pot", "places", "many", "ties", "lap", "one", "other", "again"]
def io17 : List Bool := [true, false, false]
def b17 : Ss := .cons (.asg 3 (.lst .nil)) (.cons (.forr (.nm 4) (.rng (.cons (.ck (.var 2)) .nil)) (.cons (.asg 5 (.call [some 0, none] 11 (.io 0 (.cons (.ck (.var 1)) .nil)))) (.cons (.asg 6 (.call [some 0, none] 11 (.io 0 (.cons (.o2 .sub (.var 1) (.cst (.int 1))) .nil)))) (.cons (.asg 6 (.o2 .add (.var 6) (.o1 .int (.o2 .ge (.var 6) (.var 5))))) (.cons (.asg 7 (.and (.o2 .eq (.call [some 0, none] 11 (.io 0 (.cons (.cst (.int 5)) .nil))) (.cst (.int 0))) (.o2 .gt (.o1 .len (.var 3)) (.cst (.int 0))))) (.cons (.app 3 (.ite (.var 7) (.ck (.ixL 3 (.call [some 0, none] 11 (.io 0 (.cons (.o1 .len (.var 3)) .nil))))) (.tup (.cons (.o2 .min2 (.var 5) (.var 6)) (.cons (.o2 .max2 (.var 5) (.var 6)) .nil))))) .nil)))))) (.cons (.ret (.mv 3)) .nil))
/-- _law_step(modulus, readings, tie): 0 modulus, 1 readings, 2 tie, 3 step -/
def n18 : List PySem.Str := ["modulus", "readings", "tie", "step"]
def io18 : List Bool := [false, false, false]
def b18 : Ss := .cons (.asg 3 (.o2 .mod (.o1 .int (.o2 .sub (.o2 .idx (.var 1) (.o2 .idx (.var 2) (.cst (.int 1)))) (.o2 .idx (.var 1) (.o2 .idx (.var 2) (.cst (.int 0)))))) (.var 0))) (.cons (.ret (.ite (.o2 .gt (.o2 .mul (.cst (.int 2)) (.var 3)) (.var 0)) (.o2 .sub (.var 3) (.var 0)) (.ck (.var 3)))) .nil)
/-- _law_land(modulus, readings, ties, turns): 0 modulus, 1 readings, 2 ties, 3 turns, 4 heights, 5 first, 6 reading, 7 queue, 8 here, 9 at, 10 way, 11 there, 12 height -/
def n19 : List PySem.Str := ["modulus", "readings", "ties", "turns", "heights", "first", "reading", "queue", "here", "at", "way", "there", "height"]
def io19 : List Bool := [false, false, false, true]
def b19 : Ss := .cons (.asg 4 (.lc [6] (.nm 6) (.seq (.var 1)) .nil (.cst .non))) (.cons (.forr (.nm 5) (.rng (.cons (.o1 .len (.var 1)) .nil)) (.cons (.iff (.o2 .isN (.o2 .idx (.var 4) (.var 5)) (.cst .non)) (.cons (.setI 4 (.var 5) (.ck (.o2 .idx (.var 1) (.var 5)))) (.cons (.asg 7 (.lst (.cons (.ck (.var 5)) .nil))) (.cons (.whl (.o2 .gt (.o1 .len (.var 7)) (.cst (.int 0))) (.cons (.asg 8 (.pop 7)) (.cons (.forr (.nm 9) (.rng (.cons (.o1 .len (.var 2)) .nil)) (.cons (.iff (.o2 .notIn (.var 8) (.o2 .idx (.var 2) (.var 9))) (.cons (.cnt) .nil) .nil) (.cons (.asg 10 (.ite (.o2 .eq (.o2 .idx (.o2 .idx (.var 2) (.var 9)) (.cst (.int 0))) (.var 8)) (.cst (.int 1)) (.o1 .neg (.cst (.int 1))))) (.cons (.asg 11 (.ite (.o2 .eq (.var 10) (.cst (.int 1))) (.ck (.o2 .idx (.o2 .idx (.var 2) (.var 9)) (.cst (.int 1)))) (.ck (.o2 .idx (.o2 .idx (.var 2) (.var 9)) (.cst (.int 0)))))) (.cons (.asg 12 (.o2 .add (.o2 .idx (.var 4) (.var 8)) (.o2 .mul (.var 10) (.o2 .add (.call [none, none, none] 18 (.cons (.ck (.var 0)) (.cons (.ck (.var 1)) (.cons (.ck (.o2 .idx (.var 2) (.var 9))) .nil)))) (.o2 .mul (.var 0) (.o2 .idx (.var 3) (.var 9))))))) (.cons (.iff (.o2 .isN (.o2 .idx (.var 4) (.var 11)) (.cst .non)) (.cons (.setI 4 (.var 11) (.ck (.var 12))) (.cons (.app 7 (.ck (.var 11))) .nil)) (.cons (.iff (.o2 .ne (.o2 .idx (.var 4) (.var 11)) (.var 12)) (.cons (.ret (.cst .non)) .nil) .nil) .nil)) .nil)))))) .nil))) .nil))) .nil) .nil)) (.cons (.ret (.o1 .tuple (.var 4))) .nil))
/-- _law_heights(pot, modulus, readings): 0 pot, 1 modulus, 2 readings, 3 most, 4 reading -/
def n20 : List PySem.Str := ["pot", "modulus", "readings", "most", "reading"]
def io20 : List Bool := [true, false, false]
def b20 : Ss := .cons (.asg 3 (.ck (.o2 .idx (.lst (.cons (.cst (.int 2)) (.cons (.cst (.int 3)) (.cons (.o2 .fdiv (.cst (.int 400000000)) (.var 1)) .nil)))) (.call [some 0, none] 11 (.io 0 (.cons (.cst (.int 3)) .nil)))))) (.cons (.ret (.o1 .tuple (.lc [4] (.nm 4) (.seq (.var 2)) .nil (.o2 .add (.ck (.var 4)) (.o2 .mul (.ck (.var 1)) (.o2 .sub (.call [some 0, none] 11 (.io 0 (.cons (.o2 .add (.o2 .mul (.cst (.int 2)) (.var 3)) (.cst (.int 1))) .nil))) (.var 3))))))) .nil)
/-- _law_is(told, due): 0 told, 1 due, 2 at -/
def n21 : List PySem.Str := ["told", "due", "at"]
def io21 : List Bool := [false, false]
def b21 : Ss := .cons (.iff (.o2 .isN (.var 1) (.cst .non)) (.cons (.ret (.o2 .isN (.var 0) (.cst .non))) .nil) .nil) (.cons (.iff (.o1 (.isT .int) (.var 1)) (.cons (.ret (.and (.o1 (.isT .int) (.var 0)) (.and (.o1 .notO (.o1 (.isT .bool) (.var 0))) (.o2 .eq (.var 0) (.var 1))))) .nil) .nil) (.cons (.iff (.or (.o1 .notO (.o1 (.isT .tuple) (.var 0))) (.o2 .ne (.o1 .len (.var 0)) (.o1 .len (.var 1)))) (.cons (.ret (.cst (.bl false))) .nil) .nil) (.cons (.forr (.nm 2) (.rng (.cons (.o1 .len (.var 1)) .nil)) (.cons (.iff (.o1 .notO (.call [none, none] 21 (.cons (.ck (.o2 .idx (.var 0) (.var 2))) (.cons (.ck (.o2 .idx (.var 1) (.var 2))) .nil)))) (.cons (.ret (.cst (.bl false))) .nil) .nil) .nil)) (.cons (.ret (.cst (.bl true))) .nil))))
/-- _law_turns(modulus, readings, ties, heights): 0 modulus, 1 readings, 2 ties, 3 heights, 4 turns, 5 tie -/
def n22 : List PySem.Str := ["modulus", "readings", "ties", "heights", "turns", "tie"]
def io22 : List Bool := [false, false, false, false]
def b22 : Ss := .cons (.asg 4 (.lst .nil)) (.cons (.forr (.nm 5) (.seq (.var 2)) (.cons (.app 4 (.o2 .fdiv (.o2 .sub (.o2 .sub (.o2 .idx (.var 3) (.o2 .idx (.var 5) (.cst (.int 1)))) (.o2 .idx (.var 3) (.o2 .idx (.var 5) (.cst (.int 0))))) (.call [none, none, none] 18 (.cons (.ck (.var 0)) (.cons (.ck (.var 1)) (.cons (.ck (.var 5)) .nil))))) (.var 0))) .nil)) (.cons (.ret (.mvo 4)) .nil))
/-- _law_chart_holds(pot, modulus, readings, ties): 0 pot, 1 modulus, 2 readings, 3 ties, 4 chart, 5 at, 6 lap, 7 heights, 8 turns, 9 due -/
def n23 : List PySem.Str := ["pot", "modulus", "readings", "ties", "chart", "at", "lap", "heights", "turns", "due"]
def io23 : List Bool := [true, false, false, false]
def b23 : Ss := .cons (.asg 4 (.call [some 0, none, none, none] 14 (.io 0 (.cons (.ck (.var 1)) (.cons (.ck (.var 2)) (.cons (.ck (.var 3)) .nil)))))) (.cons (.forr (.nm 5) (.rng (.cons (.o1 .len (.var 3)) .nil)) (.cons (.iff (.o1 .notO (.call [none, none] 21 (.cons (.call [none, none] 5 (.cons (.ck (.var 4)) (.cons (.ck (.var 5)) .nil))) (.cons (.call [none, none, none] 18 (.cons (.ck (.var 1)) (.cons (.ck (.var 2)) (.cons (.ck (.o2 .idx (.var 3) (.var 5))) .nil)))) .nil)))) (.cons (.ret (.cst (.bl false))) .nil) .nil) .nil)) (.cons (.forr (.nm 6) (.rng (.cons (.cst (.int 2)) .nil)) (.cons (.asg 7 (.call [some 0, none, none] 20 (.io 0 (.cons (.ck (.var 1)) (.cons (.ck (.var 2)) .nil))))) (.cons (.asg 8 (.call [none, none, none, none] 22 (.cons (.ck (.var 1)) (.cons (.ck (.var 2)) (.cons (.ck (.var 3)) (.cons (.ck (.var 7)) .nil)))))) (.cons (.asg 9 (.call [none, none, none, some 8] 19 (.cons (.ck (.var 1)) (.cons (.ck (.var 2)) (.cons (.ck (.var 3)) (.io 8 .nil)))))) (.cons (.iff (.or (.o1 .notO (.call [none, none] 21 (.cons (.call [none, none] 6 (.cons (.ck (.var 4)) (.cons (.ck (.var 7)) .nil))) (.cons (.o1 .tuple (.var 8)) .nil)))) (.o1 .notO (.call [none, none] 21 (.cons (.call [none, none] 9 (.cons (.ck (.var 4)) (.cons (.o1 .tuple (.var 8)) .nil))) (.cons (.ck (.var 9)) .nil))))) (.cons (.ret (.cst (.bl false))) .nil) .nil) (.cons (.iff (.o2 .gt (.o1 .len (.var 3)) (.cst (.int 0))) (.cons (.augI 8 (.call [some 0, none] 11 (.io 0 (.cons (.o1 .len (.var 3)) .nil))) .add (.o2 .idx (.lst (.cons (.cst (.int 1)) (.cons (.o1 .neg (.cst (.int 1))) (.cons (.cst (.int 2)) (.cons (.o2 .pow (.cst (.int 10)) (.cst (.int 12))) .nil))))) (.call [some 0, none] 11 (.io 0 (.cons (.cst (.int 4)) .nil))))) (.cons (.iff (.o1 .notO (.call [none, none] 21 (.cons (.callK 9 [1, 0] (.cons (.o1 .tuple (.var 8)) (.cons (.ck (.var 4)) .nil))) (.cons (.call [none, none, none, some 8] 19 (.cons (.ck (.var 1)) (.cons (.ck (.var 2)) (.cons (.ck (.var 3)) (.io 8 .nil))))) .nil)))) (.cons (.ret (.cst (.bl false))) .nil) .nil) .nil)) .nil) .nil)))))) (.cons (.ret (.cst (.bl true))) .nil)))
/-- _law_ring_holds(pot, modulus): 0 pot, 1 modulus, 2 many, 3 readings, 4 order, 5 ties, 6 at, 7 chart, 8 turns, 9 one, 10 other -/
def n24 : List PySem.Str := ["pot", "modulus", "many", "readings", "order", "ties", "at", "chart", "turns", "one", "other"]
def io24 : List Bool := [true, false]
def b24 : Ss := .cons (.asg 2 (.o2 .add (.cst (.int 3)) (.call [some 0, none] 11 (.io 0 (.cons (.cst (.int 4)) .nil))))) (.cons (.asg 3 (.call [some 0, none, none] 16 (.io 0 (.cons (.ck (.var 1)) (.cons (.ck (.var 2)) .nil))))) (.cons (.asg 4 (.fz (.call [some 0, none] 12 (.io 0 (.cons (.fz (.lrg (.cons (.ck (.var 2)) .nil))) .nil))))) (.cons (.asg 5 (.lst .nil)) (.cons (.forr (.nm 6) (.rng (.cons (.ck (.var 2)) .nil)) (.cons (.asgP 9 10 (.ck (.o2 .idx (.var 4) (.var 6))) (.ck (.o2 .idx (.var 4) (.o2 .sub (.var 6) (.cst (.int 1)))))) (.cons (.app 5 (.tup (.cons (.o2 .min2 (.var 9) (.var 10)) (.cons (.o2 .max2 (.var 9) (.var 10)) .nil)))) .nil))) (.cons (.asg 5 (.call [some 0, none] 12 (.io 0 (.cons (.mv 5) .nil)))) (.cons (.asg 7 (.call [some 0, none, none, none] 14 (.io 0 (.cons (.ck (.var 1)) (.cons (.ck (.var 3)) (.cons (.mv 5) .nil)))))) (.cons (.asg 8 (.call [none, none, none, none] 22 (.cons (.ck (.var 1)) (.cons (.ck (.var 3)) (.cons (.mv 5) (.cons (.call [some 0, none, none] 20 (.io 0 (.cons (.ck (.var 1)) (.cons (.ck (.var 3)) .nil)))) .nil)))))) (.cons (.iff (.o1 .notO (.call [none, none] 21 (.cons (.call [none, none] 9 (.cons (.ck (.var 7)) (.cons (.o1 .tuple (.var 8)) .nil))) (.cons (.call [none, none, none, some 8] 19 (.cons (.ck (.var 1)) (.cons (.ck (.var 3)) (.cons (.mv 5) (.io 8 .nil))))) .nil)))) (.cons (.ret (.cst (.bl false))) .nil) .nil) (.cons (.augI 8 (.o2 .idx (.lst (.cons (.call [some 0, none] 11 (.io 0 (.cons (.ck (.var 2)) .nil))) (.cons (.o2 .sub (.var 2) (.cst (.int 1))) .nil))) (.call [some 0, none] 11 (.io 0 (.cons (.cst (.int 2)) .nil)))) .add (.o2 .idx (.lst (.cons (.cst (.int 1)) (.cons (.o1 .neg (.cst (.int 1))) (.cons (.cst (.int 3)) (.cons (.o1 .neg (.cst (.int 5))) (.cons (.o1 .neg (.o2 .pow (.cst (.int 10)) (.cst (.int 9)))) .nil)))))) (.call [some 0, none] 11 (.io 0 (.cons (.cst (.int 5)) .nil))))) (.cons (.ret (.o2 .isN (.call [none, none] 9 (.cons (.ck (.var 7)) (.cons (.o1 .tuple (.var 8)) .nil))) (.cst .non))) .nil))))))))))
/-- _law_tree_holds(pot, modulus): 0 pot, 1 modulus, 2 many, 3 readings, 4 order, 5 ties, 6 at, 7 most, 8 turns, 9 told, 10 one, 11 other, 12 tie -/
def n25 : List PySem.Str := ["pot", "modulus", "many", "readings", "order", "ties", "at", "most", "turns", "told", "one", "other", "tie"]
def io25 : List Bool := [true, false]
def b25 : Ss := .cons (.asg 2 (.o2 .add (.cst (.int 2)) (.call [some 0, none] 11 (.io 0 (.cons (.cst (.int 7)) .nil))))) (.cons (.asg 3 (.call [some 0, none, none] 16 (.io 0 (.cons (.ck (.var 1)) (.cons (.ck (.var 2)) .nil))))) (.cons (.asg 4 (.fz (.call [some 0, none] 12 (.io 0 (.cons (.fz (.lrg (.cons (.ck (.var 2)) .nil))) .nil))))) (.cons (.asg 5 (.lst .nil)) (.cons (.forr (.nm 6) (.rng (.cons (.cst (.int 1)) (.cons (.ck (.var 2)) .nil))) (.cons (.asgP 10 11 (.ck (.o2 .idx (.var 4) (.var 6))) (.ck (.ixL 4 (.call [some 0, none] 11 (.io 0 (.cons (.ck (.var 6)) .nil)))))) (.cons (.app 5 (.tup (.cons (.o2 .min2 (.var 10) (.var 11)) (.cons (.o2 .max2 (.var 10) (.var 11)) .nil)))) .nil))) (.cons (.asg 5 (.call [some 0, none] 12 (.io 0 (.cons (.mv 5) .nil)))) (.cons (.asg 7 (.ck (.o2 .idx (.lst (.cons (.cst (.int 2)) (.cons (.cst (.int 9)) (.cons (.o2 .pow (.cst (.int 10)) (.cst (.int 17))) .nil)))) (.call [some 0, none] 11 (.io 0 (.cons (.cst (.int 3)) .nil)))))) (.cons (.asg 8 (.lc [12] (.nm 12) (.seq (.mv 5)) .nil (.o2 .sub (.call [some 0, none] 11 (.io 0 (.cons (.o2 .add (.o2 .mul (.cst (.int 2)) (.var 7)) (.cst (.int 1))) .nil))) (.var 7)))) (.cons (.asg 9 (.call [none, none] 9 (.cons (.call [some 0, none, none, none] 14 (.io 0 (.cons (.ck (.var 1)) (.cons (.ck (.var 3)) (.cons (.mv 5) .nil))))) (.cons (.o1 .tuple (.var 8)) .nil)))) (.cons (.ret (.and (.o2 .notN (.var 9) (.cst .non)) (.call [none, none] 21 (.cons (.ck (.var 9)) (.cons (.call [none, none, none, some 8] 19 (.cons (.ck (.var 1)) (.cons (.ck (.var 3)) (.cons (.mv 5) (.io 8 .nil))))) .nil))))) .nil)))))))))
/-- _law_wide_holds(pot): 0 pot, 1 modulus, 2 readings, 3 ties, 4 turns, 5 at -/
def n26 : List PySem.Str := ["pot", "modulus", "readings", "ties", "turns", "at"]
def io26 : List Bool := [true]
def b26 : Ss := .cons (.asg 1 (.o2 .add (.cst (.int 2)) (.call [some 0, none] 11 (.io 0 (.cons (.cst (.int 9999)) .nil))))) (.cons (.asg 2 (.lc [5] (.nm 5) (.rng (.cons (.cst (.int 40)) .nil)) .nil (.call [some 0, none] 11 (.io 0 (.cons (.ck (.var 1)) .nil))))) (.cons (.asg 3 (.lc [5] (.nm 5) (.rng (.cons (.cst (.int 1)) (.cons (.cst (.int 40)) .nil))) .nil (.tup (.cons (.call [some 0, none] 11 (.io 0 (.cons (.ck (.var 5)) .nil))) (.cons (.ck (.var 5)) .nil))))) (.cons (.asg 3 (.o2 .add (.mv 3) (.call [some 0, none, none] 17 (.io 0 (.cons (.cst (.int 40)) (.cons (.cst (.int 41)) .nil)))))) (.cons (.iff (.o1 .notO (.call [some 0, none, none, none] 23 (.io 0 (.cons (.ck (.var 1)) (.cons (.mv 2) (.cons (.mv 3) .nil)))))) (.cons (.ret (.cst (.bl false))) .nil) .nil) (.cons (.asg 4 (.call [none, none, none, none] 22 (.cons (.ck (.var 1)) (.cons (.mv 2) (.cons (.mv 3) (.cons (.call [some 0, none, none] 20 (.io 0 (.cons (.ck (.var 1)) (.cons (.mv 2) .nil)))) .nil)))))) (.cons (.augI 4 (.o2 .sub (.cst (.int 79)) (.call [some 0, none] 11 (.io 0 (.cons (.cst (.int 4)) .nil)))) .add (.cst (.int 1))) (.cons (.ret (.o2 .isN (.call [none, none] 9 (.cons (.call [some 0, none, none, none] 14 (.io 0 (.cons (.ck (.var 1)) (.cons (.mv 2) (.cons (.mv 3) .nil))))) (.cons (.o1 .tuple (.var 4)) .nil))) (.cst .non))) .nil)))))))
/-- law(script): 0 script, 1 pot, 2 lap, 3 many, 4 modulus, 5 ties -/
def n27 : List PySem.Str := ["script", "pot", "lap", "many", "modulus", "ties"]
def io27 : List Bool := [false]
def b27 : Ss := .cons (.asg 1 (.call [none] 10 (.cons (.ck (.var 0)) .nil))) (.cons (.forr (.nm 2) (.rng (.cons (.cst (.int 2)) .nil)) (.cons (.asg 3 (.o2 .add (.cst (.int 1)) (.call [some 1, none] 11 (.io 1 (.cons (.cst (.int 7)) .nil))))) (.cons (.asg 4 (.call [some 1] 15 (.io 1 .nil))) (.cons (.asg 5 (.call [some 1, none, none] 17 (.io 1 (.cons (.ck (.var 3)) (.cons (.ite (.o2 .gt (.var 3) (.cst (.int 1))) (.call [some 1, none] 11 (.io 1 (.cons (.cst (.int 10)) .nil))) (.cst (.int 0))) .nil))))) (.cons (.iff (.o1 .notO (.call [some 1, none, none, none] 23 (.io 1 (.cons (.ck (.var 4)) (.cons (.call [some 1, none, none] 16 (.io 1 (.cons (.ck (.var 4)) (.cons (.ck (.var 3)) .nil)))) (.cons (.ck (.var 5)) .nil)))))) (.cons (.ret (.cst (.bl false))) .nil) .nil) .nil))))) (.cons (.iff (.or (.o1 .notO (.call [some 1, none] 24 (.io 1 (.cons (.call [some 1] 15 (.io 1 .nil)) .nil)))) (.o1 .notO (.call [some 1, none] 25 (.io 1 (.cons (.call [some 1] 15 (.io 1 .nil)) .nil))))) (.cons (.ret (.cst (.bl false))) .nil) .nil) (.cons (.ret (.or (.o2 .ne (.call [some 1, none] 11 (.io 1 (.cons (.cst (.int 7)) .nil))) (.cst (.int 3))) (.call [some 1] 26 (.io 1 .nil)))) .nil)))
abbrev inst (l : List FSem) : Fns := ⟨fun k => l.getD k (fun _ => .bad), fun _ => .non⟩
def t0 : List FSem := []
def f0 : List (PySem.Str × List Bool) := []
def s0 : FSem := @runFn (inst t0) n0.length io0 b0
def t1 : List FSem := t0 ++ [s0]
def f1 : List (PySem.Str × List Bool) := f0 ++ [(("place_numbers" : PySem.Str), io0)]
def s1 : FSem := @runFn (inst t1) n1.length io1 b1
def t2 : List FSem := t1 ++ [s1]
def f2 : List (PySem.Str × List Bool) := f1 ++ [(("tie_ends" : PySem.Str), io1)]
def s2 : FSem := @runFn (inst t2) n2.length io2 b2
def t3 : List FSem := t2 ++ [s2]
def f3 : List (PySem.Str × List Bool) := f2 ++ [(("differences_of" : PySem.Str), io2)]
def s3 : FSem := @runFn (inst t3) n3.length io3 b3
def t4 : List FSem := t3 ++ [s3]
def f4 : List (PySem.Str × List Bool) := f3 ++ [(("nearest_rest" : PySem.Str), io3)]
def s4 : FSem := @runFn (inst t4) n4.length io4 b4
def t5 : List FSem := t4 ++ [s4]
def f5 : List (PySem.Str × List Bool) := f4 ++ [(("all_steps" : PySem.Str), io4)]
def s5 : FSem := @runFn (inst t5) n5.length io5 b5
def t6 : List FSem := t5 ++ [s5]
def f6 : List (PySem.Str × List Bool) := f5 ++ [(("step_of" : PySem.Str), io5)]
def s6 : FSem := @runFn (inst t6) n6.length io6 b6
def t7 : List FSem := t6 ++ [s6]
def f7 : List (PySem.Str × List Bool) := f6 ++ [(("turns_of" : PySem.Str), io6)]
def s7 : FSem := @runFn (inst t7) n7.length io7 b7
def t8 : List FSem := t7 ++ [s7]
def f8 : List (PySem.Str × List Bool) := f7 ++ [(("beside_lists" : PySem.Str), io7)]
def s8 : FSem := @runFn (inst t8) n8.length io8 b8
def t9 : List FSem := t8 ++ [s8]
def f9 : List (PySem.Str × List Bool) := f8 ++ [(("land_of_differences" : PySem.Str), io8)]
def s9 : FSem := @runFn (inst t9) n9.length io9 b9
def t10 : List FSem := t9 ++ [s9]
def f10 : List (PySem.Str × List Bool) := f9 ++ [(("land_of_turns" : PySem.Str), io9)]
def s10 : FSem := @runFn (inst t10) n10.length io10 b10
def t11 : List FSem := t10 ++ [s10]
def f11 : List (PySem.Str × List Bool) := f10 ++ [(("_law_pot" : PySem.Str), io10)]
def s11 : FSem := @runFn (inst t11) n11.length io11 b11
def t12 : List FSem := t11 ++ [s11]
def f12 : List (PySem.Str × List Bool) := f11 ++ [(("_law_pour" : PySem.Str), io11)]
def s12 : FSem := @runFn (inst t12) n12.length io12 b12
def t13 : List FSem := t12 ++ [s12]
def f13 : List (PySem.Str × List Bool) := f12 ++ [(("_law_mixed" : PySem.Str), io12)]
def s13 : FSem := @runFn (inst t13) n13.length io13 b13
def t14 : List FSem := t13 ++ [s13]
def f14 : List (PySem.Str × List Bool) := f13 ++ [(("_law_names" : PySem.Str), io13)]
def s14 : FSem := @runFn (inst t14) n14.length io14 b14
def t15 : List FSem := t14 ++ [s14]
def f15 : List (PySem.Str × List Bool) := f14 ++ [(("_law_chart" : PySem.Str), io14)]
def s15 : FSem := @runFn (inst t15) n15.length io15 b15
def t16 : List FSem := t15 ++ [s15]
def f16 : List (PySem.Str × List Bool) := f15 ++ [(("_law_modulus" : PySem.Str), io15)]
def s16 : FSem := @runFn (inst t16) n16.length io16 b16
def t17 : List FSem := t16 ++ [s16]
def f17 : List (PySem.Str × List Bool) := f16 ++ [(("_law_readings" : PySem.Str), io16)]
def s17 : FSem := @runFn (inst t17) n17.length io17 b17
def t18 : List FSem := t17 ++ [s17]
def f18 : List (PySem.Str × List Bool) := f17 ++ [(("_law_ties" : PySem.Str), io17)]
def s18 : FSem := @runFn (inst t18) n18.length io18 b18
def t19 : List FSem := t18 ++ [s18]
def f19 : List (PySem.Str × List Bool) := f18 ++ [(("_law_step" : PySem.Str), io18)]
def s19 : FSem := @runFn (inst t19) n19.length io19 b19
def t20 : List FSem := t19 ++ [s19]
def f20 : List (PySem.Str × List Bool) := f19 ++ [(("_law_land" : PySem.Str), io19)]
def s20 : FSem := @runFn (inst t20) n20.length io20 b20
def t21 : List FSem := t20 ++ [s20]
def f21 : List (PySem.Str × List Bool) := f20 ++ [(("_law_heights" : PySem.Str), io20)]
def s21 : FSem := recF n21.length io21 b21 t21 16
def t22 : List FSem := t21 ++ [s21]
def f22 : List (PySem.Str × List Bool) := f21 ++ [(("_law_is" : PySem.Str), io21)]
def s22 : FSem := @runFn (inst t22) n22.length io22 b22
def t23 : List FSem := t22 ++ [s22]
def f23 : List (PySem.Str × List Bool) := f22 ++ [(("_law_turns" : PySem.Str), io22)]
def s23 : FSem := @runFn (inst t23) n23.length io23 b23
def t24 : List FSem := t23 ++ [s23]
def f24 : List (PySem.Str × List Bool) := f23 ++ [(("_law_chart_holds" : PySem.Str), io23)]
def s24 : FSem := @runFn (inst t24) n24.length io24 b24
def t25 : List FSem := t24 ++ [s24]
def f25 : List (PySem.Str × List Bool) := f24 ++ [(("_law_ring_holds" : PySem.Str), io24)]
def s25 : FSem := @runFn (inst t25) n25.length io25 b25
def t26 : List FSem := t25 ++ [s25]
def f26 : List (PySem.Str × List Bool) := f25 ++ [(("_law_tree_holds" : PySem.Str), io25)]
def s26 : FSem := @runFn (inst t26) n26.length io26 b26
def t27 : List FSem := t26 ++ [s26]
def f27 : List (PySem.Str × List Bool) := f26 ++ [(("_law_wide_holds" : PySem.Str), io26)]
def s27 : FSem := @runFn (inst t27) n27.length io27 b27
def t28 : List FSem := t27 ++ [s27]
def f28 : List (PySem.Str × List Bool) := f27 ++ [(("law" : PySem.Str), io27)]
def free : List PySem.Str := ["abs", "bool", "enumerate", "int", "isinstance", "len", "list", "max", "min", "range", "sorted", "str", "tuple", "zip"]
def kp0 : List (PySem.Str × List PySem.Str × List Nat) := []
theorem sc0 : FnScope n0 ["chart"] (defScope (top 1)) := ⟨rfl, rfl, rfl, by decide +kernel, rfl, by decide +kernel, by decide +kernel⟩
theorem ch0 : chkSs b0 (ixs io0) ⟨n0, defScope (top 1), true, defScope (top 1), f0, [], free, [], kp0, []⟩ (defBody (top 1)) = true := by kernel_rfl
def kp1 : List (PySem.Str × List PySem.Str × List Nat) := []
theorem sc1 : FnScope n1 ["chart"] (defScope (top 2)) := ⟨rfl, rfl, rfl, by decide +kernel, rfl, by decide +kernel, by decide +kernel⟩
theorem ch1 : chkSs b1 (ixs io1) ⟨n1, defScope (top 2), true, defScope (top 2), f1, [], free, [], kp1, []⟩ (defBody (top 2)) = true := by kernel_rfl
def kp2 : List (PySem.Str × List PySem.Str × List Nat) := []
theorem sc2 : FnScope n2 ["chart", "land"] (defScope (top 4)) := ⟨rfl, rfl, rfl, by decide +kernel, rfl, by decide +kernel, by decide +kernel⟩
theorem ch2 : chkSs b2 (ixs io2) ⟨n2, defScope (top 4), true, defScope (top 4), f2, [], free, [], kp2, []⟩ (defBody (top 4)) = true := by kernel_rfl
def kp3 : List (PySem.Str × List PySem.Str × List Nat) := []
theorem sc3 : FnScope n3 ["value", "modulus"] (defScope (top 6)) := ⟨rfl, rfl, rfl, by decide +kernel, rfl, by decide +kernel, by decide +kernel⟩
theorem ch3 : chkSs b3 (ixs io3) ⟨n3, defScope (top 6), true, defScope (top 6), f3, [], free, [], kp3, []⟩ (defBody (top 6)) = true := by kernel_rfl
def kp4 : List (PySem.Str × List PySem.Str × List Nat) := []
theorem sc4 : FnScope n4 ["chart"] (defScope (top 7)) := ⟨rfl, rfl, rfl, by decide +kernel, rfl, by decide +kernel, by decide +kernel⟩
theorem ch4 : chkSs b4 (ixs io4) ⟨n4, defScope (top 7), true, defScope (top 7), f4, [], free, [], kp4, []⟩ (defBody (top 7)) = true := by kernel_rfl
def kp5 : List (PySem.Str × List PySem.Str × List Nat) := []
theorem sc5 : FnScope n5 ["chart", "tie"] (defScope (top 8)) := ⟨rfl, rfl, rfl, by decide +kernel, rfl, by decide +kernel, by decide +kernel⟩
theorem ch5 : chkSs b5 (ixs io5) ⟨n5, defScope (top 8), true, defScope (top 8), f5, [], free, [], kp5, []⟩ (defBody (top 8)) = true := by kernel_rfl
def kp6 : List (PySem.Str × List PySem.Str × List Nat) := []
theorem sc6 : FnScope n6 ["chart", "land"] (defScope (top 9)) := ⟨rfl, rfl, rfl, by decide +kernel, rfl, by decide +kernel, by decide +kernel⟩
theorem ch6 : chkSs b6 (ixs io6) ⟨n6, defScope (top 9), true, defScope (top 9), f6, [], free, [], kp6, []⟩ (defBody (top 9)) = true := by kernel_rfl
def kp7 : List (PySem.Str × List PySem.Str × List Nat) := []
theorem sc7 : FnScope n7 ["chart"] (defScope (top 10)) := ⟨rfl, rfl, rfl, by decide +kernel, rfl, by decide +kernel, by decide +kernel⟩
theorem ch7 : chkSs b7 (ixs io7) ⟨n7, defScope (top 10), true, defScope (top 10), f7, [], free, [], kp7, []⟩ (defBody (top 10)) = true := by kernel_rfl
def kp8 : List (PySem.Str × List PySem.Str × List Nat) := []
theorem sc8 : FnScope n8 ["chart", "told", "ties"] (defScope (top 11)) := ⟨rfl, rfl, rfl, by decide +kernel, rfl, by decide +kernel, by decide +kernel⟩
theorem ch8 : chkSs b8 (ixs io8) ⟨n8, defScope (top 11), true, defScope (top 11), f8, [], free, [], kp8, []⟩ (defBody (top 11)) = true := by kernel_rfl
def kp9 : List (PySem.Str × List PySem.Str × List Nat) := []
theorem sc9 : FnScope n9 ["chart", "turns"] (defScope (top 12)) := ⟨rfl, rfl, rfl, by decide +kernel, rfl, by decide +kernel, by decide +kernel⟩
theorem ch9 : chkSs b9 (ixs io9) ⟨n9, defScope (top 12), true, defScope (top 12), f9, [], free, [], kp9, []⟩ (defBody (top 12)) = true := by kernel_rfl
def kp10 : List (PySem.Str × List PySem.Str × List Nat) := []
theorem sc10 : FnScope n10 ["script"] (defScope (top 14)) := ⟨rfl, rfl, rfl, by decide +kernel, rfl, by decide +kernel, by decide +kernel⟩
theorem ch10 : chkSs b10 (ixs io10) ⟨n10, defScope (top 14), true, defScope (top 14), f10, [], free, [], kp10, []⟩ (defBody (top 14)) = true := by kernel_rfl
def kp11 : List (PySem.Str × List PySem.Str × List Nat) := []
theorem sc11 : FnScope n11 ["pot", "many"] (defScope (top 15)) := ⟨rfl, rfl, rfl, by decide +kernel, rfl, by decide +kernel, by decide +kernel⟩
theorem ch11 : chkSs b11 (ixs io11) ⟨n11, defScope (top 15), true, defScope (top 15), f11, [], free, [], kp11, []⟩ (defBody (top 15)) = true := by kernel_rfl
def kp12 : List (PySem.Str × List PySem.Str × List Nat) := []
theorem sc12 : FnScope n12 ["pot", "things"] (defScope (top 16)) := ⟨rfl, rfl, rfl, by decide +kernel, rfl, by decide +kernel, by decide +kernel⟩
theorem ch12 : chkSs b12 (ixs io12) ⟨n12, defScope (top 16), true, defScope (top 16), f12, [], free, [], kp12, []⟩ (defBody (top 16)) = true := by kernel_rfl
def kp13 : List (PySem.Str × List PySem.Str × List Nat) := []
theorem sc13 : FnScope n13 ["pot", "many"] (defScope (top 17)) := ⟨rfl, rfl, rfl, by decide +kernel, rfl, by decide +kernel, by decide +kernel⟩
theorem ch13 : chkSs b13 (ixs io13) ⟨n13, defScope (top 17), true, defScope (top 17), f13, [], free, [], kp13, []⟩ (defBody (top 17)) = true := by kernel_rfl
def kp14 : List (PySem.Str × List PySem.Str × List Nat) := []
theorem sc14 : FnScope n14 ["pot", "modulus", "readings", "ties"] (defScope (top 18)) := ⟨rfl, rfl, rfl, by decide +kernel, rfl, by decide +kernel, by decide +kernel⟩
theorem ch14 : chkSs b14 (ixs io14) ⟨n14, defScope (top 18), true, defScope (top 18), f14, [], free, [], kp14, []⟩ (defBody (top 18)) = true := by kernel_rfl
def kp15 : List (PySem.Str × List PySem.Str × List Nat) := []
theorem sc15 : FnScope n15 ["pot"] (defScope (top 19)) := ⟨rfl, rfl, rfl, by decide +kernel, rfl, by decide +kernel, by decide +kernel⟩
theorem ch15 : chkSs b15 (ixs io15) ⟨n15, defScope (top 19), true, defScope (top 19), f15, [], free, [], kp15, []⟩ (defBody (top 19)) = true := by kernel_rfl
def kp16 : List (PySem.Str × List PySem.Str × List Nat) := []
theorem sc16 : FnScope n16 ["pot", "modulus", "many"] (defScope (top 20)) := ⟨rfl, rfl, rfl, by decide +kernel, rfl, by decide +kernel, by decide +kernel⟩
theorem ch16 : chkSs b16 (ixs io16) ⟨n16, defScope (top 20), true, defScope (top 20), f16, [], free, [], kp16, []⟩ (defBody (top 20)) = true := by kernel_rfl
def kp17 : List (PySem.Str × List PySem.Str × List Nat) := []
theorem sc17 : FnScope n17 ["pot", "places", "many"] (defScope (top 21)) := ⟨rfl, rfl, rfl, by decide +kernel, rfl, by decide +kernel, by decide +kernel⟩
theorem ch17 : chkSs b17 (ixs io17) ⟨n17, defScope (top 21), true, defScope (top 21), f17, [], free, [], kp17, []⟩ (defBody (top 21)) = true := by kernel_rfl
def kp18 : List (PySem.Str × List PySem.Str × List Nat) := []
theorem sc18 : FnScope n18 ["modulus", "readings", "tie"] (defScope (top 22)) := ⟨rfl, rfl, rfl, by decide +kernel, rfl, by decide +kernel, by decide +kernel⟩
theorem ch18 : chkSs b18 (ixs io18) ⟨n18, defScope (top 22), true, defScope (top 22), f18, [], free, [], kp18, []⟩ (defBody (top 22)) = true := by kernel_rfl
def kp19 : List (PySem.Str × List PySem.Str × List Nat) := []
theorem sc19 : FnScope n19 ["modulus", "readings", "ties", "turns"] (defScope (top 23)) := ⟨rfl, rfl, rfl, by decide +kernel, rfl, by decide +kernel, by decide +kernel⟩
theorem ch19 : chkSs b19 (ixs io19) ⟨n19, defScope (top 23), true, defScope (top 23), f19, [], free, [], kp19, []⟩ (defBody (top 23)) = true := by kernel_rfl
def kp20 : List (PySem.Str × List PySem.Str × List Nat) := []
theorem sc20 : FnScope n20 ["pot", "modulus", "readings"] (defScope (top 24)) := ⟨rfl, rfl, rfl, by decide +kernel, rfl, by decide +kernel, by decide +kernel⟩
theorem ch20 : chkSs b20 (ixs io20) ⟨n20, defScope (top 24), true, defScope (top 24), f20, [], free, [], kp20, []⟩ (defBody (top 24)) = true := by kernel_rfl
def kp21 : List (PySem.Str × List PySem.Str × List Nat) := []
theorem sc21 : FnScope n21 ["told", "due"] (defScope (top 25)) := ⟨rfl, rfl, rfl, by decide +kernel, rfl, by decide +kernel, by decide +kernel⟩
theorem ch21 : chkSs b21 (ixs io21) ⟨n21, defScope (top 25), true, defScope (top 25), f21 ++ [(("_law_is" : PySem.Str), io21)], [], free, [], [], []⟩ (defBody (top 25)) = true := by kernel_rfl
def kp22 : List (PySem.Str × List PySem.Str × List Nat) := []
theorem sc22 : FnScope n22 ["modulus", "readings", "ties", "heights"] (defScope (top 26)) := ⟨rfl, rfl, rfl, by decide +kernel, rfl, by decide +kernel, by decide +kernel⟩
theorem ch22 : chkSs b22 (ixs io22) ⟨n22, defScope (top 26), true, defScope (top 26), f22, [], free, [], kp22, []⟩ (defBody (top 26)) = true := by kernel_rfl
def kp23 : List (PySem.Str × List PySem.Str × List Nat) := [("land_of_turns", ["turns", "chart"], [1, 0])]
theorem sc23 : FnScope n23 ["pot", "modulus", "readings", "ties"] (defScope (top 27)) := ⟨rfl, rfl, rfl, by decide +kernel, rfl, by decide +kernel, by decide +kernel⟩
theorem ch23 : chkSs b23 (ixs io23) ⟨n23, defScope (top 27), true, defScope (top 27), f23, [], free, [], kp23, []⟩ (defBody (top 27)) = true := by kernel_rfl
def kp24 : List (PySem.Str × List PySem.Str × List Nat) := []
theorem sc24 : FnScope n24 ["pot", "modulus"] (defScope (top 28)) := ⟨rfl, rfl, rfl, by decide +kernel, rfl, by decide +kernel, by decide +kernel⟩
theorem ch24 : chkSs b24 (ixs io24) ⟨n24, defScope (top 28), true, defScope (top 28), f24, [], free, [], kp24, []⟩ (defBody (top 28)) = true := by kernel_rfl
def kp25 : List (PySem.Str × List PySem.Str × List Nat) := []
theorem sc25 : FnScope n25 ["pot", "modulus"] (defScope (top 29)) := ⟨rfl, rfl, rfl, by decide +kernel, rfl, by decide +kernel, by decide +kernel⟩
theorem ch25 : chkSs b25 (ixs io25) ⟨n25, defScope (top 29), true, defScope (top 29), f25, [], free, [], kp25, []⟩ (defBody (top 29)) = true := by kernel_rfl
def kp26 : List (PySem.Str × List PySem.Str × List Nat) := []
theorem sc26 : FnScope n26 ["pot"] (defScope (top 30)) := ⟨rfl, rfl, rfl, by decide +kernel, rfl, by decide +kernel, by decide +kernel⟩
theorem ch26 : chkSs b26 (ixs io26) ⟨n26, defScope (top 30), true, defScope (top 30), f26, [], free, [], kp26, []⟩ (defBody (top 30)) = true := by kernel_rfl
def kp27 : List (PySem.Str × List PySem.Str × List Nat) := []
theorem sc27 : FnScope n27 ["script"] (defScope (top 31)) := ⟨rfl, rfl, rfl, by decide +kernel, rfl, by decide +kernel, by decide +kernel⟩
theorem ch27 : chkSs b27 (ixs io27) ⟨n27, defScope (top 31), true, defScope (top 31), f27, [], free, [], kp27, []⟩ (defBody (top 31)) = true := by kernel_rfl
abbrev d0 : He.DefD := ⟨("place_numbers", none), "place_numbers", "place_numbers", defArgs (top 1), defBody (top 1), defScope (top 1), [], []⟩
abbrev d1 : He.DefD := ⟨("tie_ends", none), "tie_ends", "tie_ends", defArgs (top 2), defBody (top 2), defScope (top 2), [], []⟩
abbrev d2 : He.DefD := ⟨("differences_of", none), "differences_of", "differences_of", defArgs (top 4), defBody (top 4), defScope (top 4), [], []⟩
abbrev d3 : He.DefD := ⟨("nearest_rest", none), "nearest_rest", "nearest_rest", defArgs (top 6), defBody (top 6), defScope (top 6), [], []⟩
abbrev d4 : He.DefD := ⟨("all_steps", none), "all_steps", "all_steps", defArgs (top 7), defBody (top 7), defScope (top 7), [], []⟩
abbrev d5 : He.DefD := ⟨("step_of", none), "step_of", "step_of", defArgs (top 8), defBody (top 8), defScope (top 8), [], []⟩
abbrev d6 : He.DefD := ⟨("turns_of", none), "turns_of", "turns_of", defArgs (top 9), defBody (top 9), defScope (top 9), [], []⟩
abbrev d7 : He.DefD := ⟨("beside_lists", none), "beside_lists", "beside_lists", defArgs (top 10), defBody (top 10), defScope (top 10), [], []⟩
abbrev d8 : He.DefD := ⟨("land_of_differences", none), "land_of_differences", "land_of_differences", defArgs (top 11), defBody (top 11), defScope (top 11), [], []⟩
abbrev d9 : He.DefD := ⟨("land_of_turns", none), "land_of_turns", "land_of_turns", defArgs (top 12), defBody (top 12), defScope (top 12), [], []⟩
abbrev d10 : He.DefD := ⟨("_law_pot", none), "_law_pot", "_law_pot", defArgs (top 14), defBody (top 14), defScope (top 14), [], []⟩
abbrev d11 : He.DefD := ⟨("_law_pour", none), "_law_pour", "_law_pour", defArgs (top 15), defBody (top 15), defScope (top 15), [], []⟩
abbrev d12 : He.DefD := ⟨("_law_mixed", none), "_law_mixed", "_law_mixed", defArgs (top 16), defBody (top 16), defScope (top 16), [], []⟩
abbrev d13 : He.DefD := ⟨("_law_names", none), "_law_names", "_law_names", defArgs (top 17), defBody (top 17), defScope (top 17), [], []⟩
abbrev d14 : He.DefD := ⟨("_law_chart", none), "_law_chart", "_law_chart", defArgs (top 18), defBody (top 18), defScope (top 18), [], []⟩
abbrev d15 : He.DefD := ⟨("_law_modulus", none), "_law_modulus", "_law_modulus", defArgs (top 19), defBody (top 19), defScope (top 19), [], []⟩
abbrev d16 : He.DefD := ⟨("_law_readings", none), "_law_readings", "_law_readings", defArgs (top 20), defBody (top 20), defScope (top 20), [], []⟩
abbrev d17 : He.DefD := ⟨("_law_ties", none), "_law_ties", "_law_ties", defArgs (top 21), defBody (top 21), defScope (top 21), [], []⟩
abbrev d18 : He.DefD := ⟨("_law_step", none), "_law_step", "_law_step", defArgs (top 22), defBody (top 22), defScope (top 22), [], []⟩
abbrev d19 : He.DefD := ⟨("_law_land", none), "_law_land", "_law_land", defArgs (top 23), defBody (top 23), defScope (top 23), [], []⟩
abbrev d20 : He.DefD := ⟨("_law_heights", none), "_law_heights", "_law_heights", defArgs (top 24), defBody (top 24), defScope (top 24), [], []⟩
abbrev d21 : He.DefD := ⟨("_law_is", none), "_law_is", "_law_is", defArgs (top 25), defBody (top 25), defScope (top 25), [], []⟩
abbrev d22 : He.DefD := ⟨("_law_turns", none), "_law_turns", "_law_turns", defArgs (top 26), defBody (top 26), defScope (top 26), [], []⟩
abbrev d23 : He.DefD := ⟨("_law_chart_holds", none), "_law_chart_holds", "_law_chart_holds", defArgs (top 27), defBody (top 27), defScope (top 27), [], []⟩
abbrev d24 : He.DefD := ⟨("_law_ring_holds", none), "_law_ring_holds", "_law_ring_holds", defArgs (top 28), defBody (top 28), defScope (top 28), [], []⟩
abbrev d25 : He.DefD := ⟨("_law_tree_holds", none), "_law_tree_holds", "_law_tree_holds", defArgs (top 29), defBody (top 29), defScope (top 29), [], []⟩
abbrev d26 : He.DefD := ⟨("_law_wide_holds", none), "_law_wide_holds", "_law_wide_holds", defArgs (top 30), defBody (top 30), defScope (top 30), [], []⟩
abbrev d27 : He.DefD := ⟨("law", none), "law", "law", defArgs (top 31), defBody (top 31), defScope (top 31), [], []⟩
def fn : List He.DefD := [d0, d1, d2, d3, d4, d5, d6, d7, d8, d9, d10, d11, d12, d13, d14, d15, d16, d17, d18, d19, d20, d21, d22, d23, d24, d25, d26, d27]
def fa0 : List He.Fa := [.glo "place_numbers", .glo "tie_ends", .glo "differences_of", .glo "nearest_rest", .glo "all_steps", .glo "step_of", .glo "turns_of", .glo "beside_lists", .glo "land_of_differences", .glo "land_of_turns", .glo "_law_pot", .glo "_law_pour", .glo "_law_mixed", .glo "_law_names", .glo "_law_chart", .glo "_law_modulus", .glo "_law_readings", .glo "_law_ties", .glo "_law_step", .glo "_law_land", .glo "_law_heights", .glo "_law_is", .glo "_law_turns", .glo "_law_chart_holds", .glo "_law_ring_holds", .glo "_law_tree_holds", .glo "_law_wide_holds", .glo "law", .free "abs", .free "bool"]
def fa1 : List He.Fa := [.free "enumerate", .free "int", .free "isinstance", .free "len", .free "list", .free "max", .free "min", .free "range", .free "sorted", .free "str", .free "tuple", .free "zip"]
def fa : List He.Fa := fa0 ++ (fa1)
abbrev R : PySem.W.OpenRow := PySem.W.OpenLaw.row PySem.Challenge.rw_fringes_k08_steps
abbrev hk : PySem.W.Hook := He.hookD 4 fa fn
def ob (s : PySem.W.SharedT) : He.AlD := He.obsDG 4 fa fn (HandSHeadRun.getT s)
theorem ob_eq (s : PySem.W.SharedT) : ob s = hk.obs s.abs := He.obsDG_eq (HandSHeadRun.getT_eq s)
def names0 : List PySem.Str := ["place_numbers", "tie_ends", "differences_of", "nearest_rest", "all_steps", "step_of", "turns_of", "beside_lists", "land_of_differences", "land_of_turns", "_law_pot", "_law_pour", "_law_mixed", "_law_names", "_law_chart", "_law_modulus", "_law_readings", "_law_ties", "_law_step", "_law_land", "_law_heights", "_law_is", "_law_turns", "_law_chart_holds", "_law_ring_holds", "_law_tree_holds", "_law_wide_holds"]
def names : List PySem.Str := names0
theorem run (w : World) : HandSHeadRun.RunEq R (PySem.W.view R.prog [31]) hk ob 4000 names w := by
  intro os
  kernel_rfl
section
variable {P : Program} {w : World} {K : PySem.W.Frag} {mg : PySem.Str → Option Value} {base : Heap} {ER : D → Value → Option Addr → Hp → Prop}

theorem ok0 {f : Addr} {fd : FuncData} (F : FunD K "place_numbers" "place_numbers" (defArgs (top 1)) (defBody (top 1)) (defScope (top 1)) [] [] f fd) (a : AllF ⟨K, ER⟩ P w mg base f0 t0 0) (hr : ∀ y, free.contains y = true → mg y = none) :
    FnOk P w K mg base (L2.CX P w) 1 f fd ["chart"] (spD ⟨K, ER⟩ io0 s0) :=
  @def_ok ⟨K, ER⟩ P w mg base "place_numbers" "place_numbers" _ _ _ [] f fd (inst t0) n0 ["chart"] io0 0 s0 b0 f0 [] free [] kp0 [] F sc0 rfl (fun _ _ => rfl) a.2 (fun j y h => by simp at h) hr (fun j y ioj psj h h' => by cases h') (fun j y ioj ks perm h h' => nomatch h') (fun j y h h' => by cases h') ch0
theorem ok1 {f : Addr} {fd : FuncData} (F : FunD K "tie_ends" "tie_ends" (defArgs (top 2)) (defBody (top 2)) (defScope (top 2)) [] [] f fd) (a : AllF ⟨K, ER⟩ P w mg base f1 t1 1) (hr : ∀ y, free.contains y = true → mg y = none) :
    FnOk P w K mg base (L2.CX P w) 2 f fd ["chart"] (spD ⟨K, ER⟩ io1 s1) :=
  @def_ok ⟨K, ER⟩ P w mg base "tie_ends" "tie_ends" _ _ _ [] f fd (inst t1) n1 ["chart"] io1 1 s1 b1 f1 [] free [] kp1 [] F sc1 rfl (fun _ _ => rfl) a.2 (fun j y h => by simp at h) hr (fun j y ioj psj h h' => by cases h') (fun j y ioj ks perm h h' => nomatch h') (fun j y h h' => by cases h') ch1
theorem ok2 {f : Addr} {fd : FuncData} (F : FunD K "differences_of" "differences_of" (defArgs (top 4)) (defBody (top 4)) (defScope (top 4)) [] [] f fd) (a : AllF ⟨K, ER⟩ P w mg base f2 t2 2) (hr : ∀ y, free.contains y = true → mg y = none) :
    FnOk P w K mg base (L2.CX P w) 3 f fd ["chart", "land"] (spD ⟨K, ER⟩ io2 s2) :=
  @def_ok ⟨K, ER⟩ P w mg base "differences_of" "differences_of" _ _ _ [] f fd (inst t2) n2 ["chart", "land"] io2 2 s2 b2 f2 [] free [] kp2 [] F sc2 rfl (fun _ _ => rfl) a.2 (fun j y h => by simp at h) hr (fun j y ioj psj h h' => by cases h') (fun j y ioj ks perm h h' => nomatch h') (fun j y h h' => by cases h') ch2
theorem ok3 {f : Addr} {fd : FuncData} (F : FunD K "nearest_rest" "nearest_rest" (defArgs (top 6)) (defBody (top 6)) (defScope (top 6)) [] [] f fd) (a : AllF ⟨K, ER⟩ P w mg base f3 t3 3) (hr : ∀ y, free.contains y = true → mg y = none) :
    FnOk P w K mg base (L2.CX P w) 4 f fd ["value", "modulus"] (spD ⟨K, ER⟩ io3 s3) :=
  @def_ok ⟨K, ER⟩ P w mg base "nearest_rest" "nearest_rest" _ _ _ [] f fd (inst t3) n3 ["value", "modulus"] io3 3 s3 b3 f3 [] free [] kp3 [] F sc3 rfl (fun _ _ => rfl) a.2 (fun j y h => by simp at h) hr (fun j y ioj psj h h' => by cases h') (fun j y ioj ks perm h h' => nomatch h') (fun j y h h' => by cases h') ch3
theorem ok4 {f : Addr} {fd : FuncData} (F : FunD K "all_steps" "all_steps" (defArgs (top 7)) (defBody (top 7)) (defScope (top 7)) [] [] f fd) (a : AllF ⟨K, ER⟩ P w mg base f4 t4 4) (hr : ∀ y, free.contains y = true → mg y = none) :
    FnOk P w K mg base (L2.CX P w) 5 f fd ["chart"] (spD ⟨K, ER⟩ io4 s4) :=
  @def_ok ⟨K, ER⟩ P w mg base "all_steps" "all_steps" _ _ _ [] f fd (inst t4) n4 ["chart"] io4 4 s4 b4 f4 [] free [] kp4 [] F sc4 rfl (fun _ _ => rfl) a.2 (fun j y h => by simp at h) hr (fun j y ioj psj h h' => by cases h') (fun j y ioj ks perm h h' => nomatch h') (fun j y h h' => by cases h') ch4
theorem ok5 {f : Addr} {fd : FuncData} (F : FunD K "step_of" "step_of" (defArgs (top 8)) (defBody (top 8)) (defScope (top 8)) [] [] f fd) (a : AllF ⟨K, ER⟩ P w mg base f5 t5 5) (hr : ∀ y, free.contains y = true → mg y = none) :
    FnOk P w K mg base (L2.CX P w) 6 f fd ["chart", "tie"] (spD ⟨K, ER⟩ io5 s5) :=
  @def_ok ⟨K, ER⟩ P w mg base "step_of" "step_of" _ _ _ [] f fd (inst t5) n5 ["chart", "tie"] io5 5 s5 b5 f5 [] free [] kp5 [] F sc5 rfl (fun _ _ => rfl) a.2 (fun j y h => by simp at h) hr (fun j y ioj psj h h' => by cases h') (fun j y ioj ks perm h h' => nomatch h') (fun j y h h' => by cases h') ch5
theorem ok6 {f : Addr} {fd : FuncData} (F : FunD K "turns_of" "turns_of" (defArgs (top 9)) (defBody (top 9)) (defScope (top 9)) [] [] f fd) (a : AllF ⟨K, ER⟩ P w mg base f6 t6 6) (hr : ∀ y, free.contains y = true → mg y = none) :
    FnOk P w K mg base (L2.CX P w) 7 f fd ["chart", "land"] (spD ⟨K, ER⟩ io6 s6) :=
  @def_ok ⟨K, ER⟩ P w mg base "turns_of" "turns_of" _ _ _ [] f fd (inst t6) n6 ["chart", "land"] io6 6 s6 b6 f6 [] free [] kp6 [] F sc6 rfl (fun _ _ => rfl) a.2 (fun j y h => by simp at h) hr (fun j y ioj psj h h' => by cases h') (fun j y ioj ks perm h h' => nomatch h') (fun j y h h' => by cases h') ch6
theorem ok7 {f : Addr} {fd : FuncData} (F : FunD K "beside_lists" "beside_lists" (defArgs (top 10)) (defBody (top 10)) (defScope (top 10)) [] [] f fd) (a : AllF ⟨K, ER⟩ P w mg base f7 t7 7) (hr : ∀ y, free.contains y = true → mg y = none) :
    FnOk P w K mg base (L2.CX P w) 8 f fd ["chart"] (spD ⟨K, ER⟩ io7 s7) :=
  @def_ok ⟨K, ER⟩ P w mg base "beside_lists" "beside_lists" _ _ _ [] f fd (inst t7) n7 ["chart"] io7 7 s7 b7 f7 [] free [] kp7 [] F sc7 rfl (fun _ _ => rfl) a.2 (fun j y h => by simp at h) hr (fun j y ioj psj h h' => by cases h') (fun j y ioj ks perm h h' => nomatch h') (fun j y h h' => by cases h') ch7
theorem ok8 {f : Addr} {fd : FuncData} (F : FunD K "land_of_differences" "land_of_differences" (defArgs (top 11)) (defBody (top 11)) (defScope (top 11)) [] [] f fd) (a : AllF ⟨K, ER⟩ P w mg base f8 t8 8) (hr : ∀ y, free.contains y = true → mg y = none) :
    FnOk P w K mg base (L2.CX P w) 9 f fd ["chart", "told", "ties"] (spD ⟨K, ER⟩ io8 s8) :=
  @def_ok ⟨K, ER⟩ P w mg base "land_of_differences" "land_of_differences" _ _ _ [] f fd (inst t8) n8 ["chart", "told", "ties"] io8 8 s8 b8 f8 [] free [] kp8 [] F sc8 rfl (fun _ _ => rfl) a.2 (fun j y h => by simp at h) hr (fun j y ioj psj h h' => by cases h') (fun j y ioj ks perm h h' => nomatch h') (fun j y h h' => by cases h') ch8
theorem ok9 {f : Addr} {fd : FuncData} (F : FunD K "land_of_turns" "land_of_turns" (defArgs (top 12)) (defBody (top 12)) (defScope (top 12)) [] [] f fd) (a : AllF ⟨K, ER⟩ P w mg base f9 t9 9) (hr : ∀ y, free.contains y = true → mg y = none) :
    FnOk P w K mg base (L2.CX P w) 10 f fd ["chart", "turns"] (spD ⟨K, ER⟩ io9 s9) :=
  @def_ok ⟨K, ER⟩ P w mg base "land_of_turns" "land_of_turns" _ _ _ [] f fd (inst t9) n9 ["chart", "turns"] io9 9 s9 b9 f9 [] free [] kp9 [] F sc9 rfl (fun _ _ => rfl) a.2 (fun j y h => by simp at h) hr (fun j y ioj psj h h' => by cases h') (fun j y ioj ks perm h h' => nomatch h') (fun j y h h' => by cases h') ch9
theorem ok10 {f : Addr} {fd : FuncData} (F : FunD K "_law_pot" "_law_pot" (defArgs (top 14)) (defBody (top 14)) (defScope (top 14)) [] [] f fd) (a : AllF ⟨K, ER⟩ P w mg base f10 t10 10) (hr : ∀ y, free.contains y = true → mg y = none) :
    FnOk P w K mg base (L2.CX P w) 11 f fd ["script"] (spD ⟨K, ER⟩ io10 s10) :=
  @def_ok ⟨K, ER⟩ P w mg base "_law_pot" "_law_pot" _ _ _ [] f fd (inst t10) n10 ["script"] io10 10 s10 b10 f10 [] free [] kp10 [] F sc10 rfl (fun _ _ => rfl) a.2 (fun j y h => by simp at h) hr (fun j y ioj psj h h' => by cases h') (fun j y ioj ks perm h h' => nomatch h') (fun j y h h' => by cases h') ch10
theorem ok11 {f : Addr} {fd : FuncData} (F : FunD K "_law_pour" "_law_pour" (defArgs (top 15)) (defBody (top 15)) (defScope (top 15)) [] [] f fd) (a : AllF ⟨K, ER⟩ P w mg base f11 t11 11) (hr : ∀ y, free.contains y = true → mg y = none) :
    FnOk P w K mg base (L2.CX P w) 12 f fd ["pot", "many"] (spD ⟨K, ER⟩ io11 s11) :=
  @def_ok ⟨K, ER⟩ P w mg base "_law_pour" "_law_pour" _ _ _ [] f fd (inst t11) n11 ["pot", "many"] io11 11 s11 b11 f11 [] free [] kp11 [] F sc11 rfl (fun _ _ => rfl) a.2 (fun j y h => by simp at h) hr (fun j y ioj psj h h' => by cases h') (fun j y ioj ks perm h h' => nomatch h') (fun j y h h' => by cases h') ch11
theorem ok12 {f : Addr} {fd : FuncData} (F : FunD K "_law_mixed" "_law_mixed" (defArgs (top 16)) (defBody (top 16)) (defScope (top 16)) [] [] f fd) (a : AllF ⟨K, ER⟩ P w mg base f12 t12 12) (hr : ∀ y, free.contains y = true → mg y = none) :
    FnOk P w K mg base (L2.CX P w) 13 f fd ["pot", "things"] (spD ⟨K, ER⟩ io12 s12) :=
  @def_ok ⟨K, ER⟩ P w mg base "_law_mixed" "_law_mixed" _ _ _ [] f fd (inst t12) n12 ["pot", "things"] io12 12 s12 b12 f12 [] free [] kp12 [] F sc12 rfl (fun _ _ => rfl) a.2 (fun j y h => by simp at h) hr (fun j y ioj psj h h' => by cases h') (fun j y ioj ks perm h h' => nomatch h') (fun j y h h' => by cases h') ch12
theorem ok13 {f : Addr} {fd : FuncData} (F : FunD K "_law_names" "_law_names" (defArgs (top 17)) (defBody (top 17)) (defScope (top 17)) [] [] f fd) (a : AllF ⟨K, ER⟩ P w mg base f13 t13 13) (hr : ∀ y, free.contains y = true → mg y = none) :
    FnOk P w K mg base (L2.CX P w) 14 f fd ["pot", "many"] (spD ⟨K, ER⟩ io13 s13) :=
  @def_ok ⟨K, ER⟩ P w mg base "_law_names" "_law_names" _ _ _ [] f fd (inst t13) n13 ["pot", "many"] io13 13 s13 b13 f13 [] free [] kp13 [] F sc13 rfl (fun _ _ => rfl) a.2 (fun j y h => by simp at h) hr (fun j y ioj psj h h' => by cases h') (fun j y ioj ks perm h h' => nomatch h') (fun j y h h' => by cases h') ch13
theorem ok14 {f : Addr} {fd : FuncData} (F : FunD K "_law_chart" "_law_chart" (defArgs (top 18)) (defBody (top 18)) (defScope (top 18)) [] [] f fd) (a : AllF ⟨K, ER⟩ P w mg base f14 t14 14) (hr : ∀ y, free.contains y = true → mg y = none) :
    FnOk P w K mg base (L2.CX P w) 15 f fd ["pot", "modulus", "readings", "ties"] (spD ⟨K, ER⟩ io14 s14) :=
  @def_ok ⟨K, ER⟩ P w mg base "_law_chart" "_law_chart" _ _ _ [] f fd (inst t14) n14 ["pot", "modulus", "readings", "ties"] io14 14 s14 b14 f14 [] free [] kp14 [] F sc14 rfl (fun _ _ => rfl) a.2 (fun j y h => by simp at h) hr (fun j y ioj psj h h' => by cases h') (fun j y ioj ks perm h h' => nomatch h') (fun j y h h' => by cases h') ch14
theorem ok15 {f : Addr} {fd : FuncData} (F : FunD K "_law_modulus" "_law_modulus" (defArgs (top 19)) (defBody (top 19)) (defScope (top 19)) [] [] f fd) (a : AllF ⟨K, ER⟩ P w mg base f15 t15 15) (hr : ∀ y, free.contains y = true → mg y = none) :
    FnOk P w K mg base (L2.CX P w) 16 f fd ["pot"] (spD ⟨K, ER⟩ io15 s15) :=
  @def_ok ⟨K, ER⟩ P w mg base "_law_modulus" "_law_modulus" _ _ _ [] f fd (inst t15) n15 ["pot"] io15 15 s15 b15 f15 [] free [] kp15 [] F sc15 rfl (fun _ _ => rfl) a.2 (fun j y h => by simp at h) hr (fun j y ioj psj h h' => by cases h') (fun j y ioj ks perm h h' => nomatch h') (fun j y h h' => by cases h') ch15
theorem ok16 {f : Addr} {fd : FuncData} (F : FunD K "_law_readings" "_law_readings" (defArgs (top 20)) (defBody (top 20)) (defScope (top 20)) [] [] f fd) (a : AllF ⟨K, ER⟩ P w mg base f16 t16 16) (hr : ∀ y, free.contains y = true → mg y = none) :
    FnOk P w K mg base (L2.CX P w) 17 f fd ["pot", "modulus", "many"] (spD ⟨K, ER⟩ io16 s16) :=
  @def_ok ⟨K, ER⟩ P w mg base "_law_readings" "_law_readings" _ _ _ [] f fd (inst t16) n16 ["pot", "modulus", "many"] io16 16 s16 b16 f16 [] free [] kp16 [] F sc16 rfl (fun _ _ => rfl) a.2 (fun j y h => by simp at h) hr (fun j y ioj psj h h' => by cases h') (fun j y ioj ks perm h h' => nomatch h') (fun j y h h' => by cases h') ch16
theorem ok17 {f : Addr} {fd : FuncData} (F : FunD K "_law_ties" "_law_ties" (defArgs (top 21)) (defBody (top 21)) (defScope (top 21)) [] [] f fd) (a : AllF ⟨K, ER⟩ P w mg base f17 t17 17) (hr : ∀ y, free.contains y = true → mg y = none) :
    FnOk P w K mg base (L2.CX P w) 18 f fd ["pot", "places", "many"] (spD ⟨K, ER⟩ io17 s17) :=
  @def_ok ⟨K, ER⟩ P w mg base "_law_ties" "_law_ties" _ _ _ [] f fd (inst t17) n17 ["pot", "places", "many"] io17 17 s17 b17 f17 [] free [] kp17 [] F sc17 rfl (fun _ _ => rfl) a.2 (fun j y h => by simp at h) hr (fun j y ioj psj h h' => by cases h') (fun j y ioj ks perm h h' => nomatch h') (fun j y h h' => by cases h') ch17
theorem ok18 {f : Addr} {fd : FuncData} (F : FunD K "_law_step" "_law_step" (defArgs (top 22)) (defBody (top 22)) (defScope (top 22)) [] [] f fd) (a : AllF ⟨K, ER⟩ P w mg base f18 t18 18) (hr : ∀ y, free.contains y = true → mg y = none) :
    FnOk P w K mg base (L2.CX P w) 19 f fd ["modulus", "readings", "tie"] (spD ⟨K, ER⟩ io18 s18) :=
  @def_ok ⟨K, ER⟩ P w mg base "_law_step" "_law_step" _ _ _ [] f fd (inst t18) n18 ["modulus", "readings", "tie"] io18 18 s18 b18 f18 [] free [] kp18 [] F sc18 rfl (fun _ _ => rfl) a.2 (fun j y h => by simp at h) hr (fun j y ioj psj h h' => by cases h') (fun j y ioj ks perm h h' => nomatch h') (fun j y h h' => by cases h') ch18
theorem ok19 {f : Addr} {fd : FuncData} (F : FunD K "_law_land" "_law_land" (defArgs (top 23)) (defBody (top 23)) (defScope (top 23)) [] [] f fd) (a : AllF ⟨K, ER⟩ P w mg base f19 t19 19) (hr : ∀ y, free.contains y = true → mg y = none) :
    FnOk P w K mg base (L2.CX P w) 20 f fd ["modulus", "readings", "ties", "turns"] (spD ⟨K, ER⟩ io19 s19) :=
  @def_ok ⟨K, ER⟩ P w mg base "_law_land" "_law_land" _ _ _ [] f fd (inst t19) n19 ["modulus", "readings", "ties", "turns"] io19 19 s19 b19 f19 [] free [] kp19 [] F sc19 rfl (fun _ _ => rfl) a.2 (fun j y h => by simp at h) hr (fun j y ioj psj h h' => by cases h') (fun j y ioj ks perm h h' => nomatch h') (fun j y h h' => by cases h') ch19
theorem ok20 {f : Addr} {fd : FuncData} (F : FunD K "_law_heights" "_law_heights" (defArgs (top 24)) (defBody (top 24)) (defScope (top 24)) [] [] f fd) (a : AllF ⟨K, ER⟩ P w mg base f20 t20 20) (hr : ∀ y, free.contains y = true → mg y = none) :
    FnOk P w K mg base (L2.CX P w) 21 f fd ["pot", "modulus", "readings"] (spD ⟨K, ER⟩ io20 s20) :=
  @def_ok ⟨K, ER⟩ P w mg base "_law_heights" "_law_heights" _ _ _ [] f fd (inst t20) n20 ["pot", "modulus", "readings"] io20 20 s20 b20 f20 [] free [] kp20 [] F sc20 rfl (fun _ _ => rfl) a.2 (fun j y h => by simp at h) hr (fun j y ioj psj h h' => by cases h') (fun j y ioj ks perm h h' => nomatch h') (fun j y h h' => by cases h') ch20
theorem ok21 {f : Addr} {fd : FuncData} (hx : mg "_law_is" = some (.ref f)) (F : FunD K "_law_is" "_law_is" (defArgs (top 25)) (defBody (top 25)) (defScope (top 25)) [] [] f fd) (b : Binds K fd ["told", "due"] []) (a : AllF ⟨K, ER⟩ P w mg base f21 t21 21) (hr : ∀ y, free.contains y = true → mg y = none) :
    FnOk P w K mg base (L2.CX P w) 37 f fd ["told", "due"] (spD ⟨K, ER⟩ io21 s21) :=
  @rec_ok ⟨K, ER⟩ P w mg base "_law_is" "_law_is" _ _ _ [] f fd n21 ["told", "due"] io21 21 b21 f21 t21 free hx F sc21 rfl b a hr ch21 16
theorem ok22 {f : Addr} {fd : FuncData} (F : FunD K "_law_turns" "_law_turns" (defArgs (top 26)) (defBody (top 26)) (defScope (top 26)) [] [] f fd) (a : AllF ⟨K, ER⟩ P w mg base f22 t22 37) (hr : ∀ y, free.contains y = true → mg y = none) :
    FnOk P w K mg base (L2.CX P w) 38 f fd ["modulus", "readings", "ties", "heights"] (spD ⟨K, ER⟩ io22 s22) :=
  @def_ok ⟨K, ER⟩ P w mg base "_law_turns" "_law_turns" _ _ _ [] f fd (inst t22) n22 ["modulus", "readings", "ties", "heights"] io22 37 s22 b22 f22 [] free [] kp22 [] F sc22 rfl (fun _ _ => rfl) a.2 (fun j y h => by simp at h) hr (fun j y ioj psj h h' => by cases h') (fun j y ioj ks perm h h' => nomatch h') (fun j y h h' => by cases h') ch22
theorem ok23 {f : Addr} {fd : FuncData} (F : FunD K "_law_chart_holds" "_law_chart_holds" (defArgs (top 27)) (defBody (top 27)) (defScope (top 27)) [] [] f fd) (a : AllF ⟨K, ER⟩ P w mg base f23 t23 38) (hr : ∀ y, free.contains y = true → mg y = none) (q0 : FnMP ⟨K, ER⟩ P w mg base 10 "land_of_turns" io9 ["turns", "chart"] [1, 0] s9) :
    FnOk P w K mg base (L2.CX P w) 39 f fd ["pot", "modulus", "readings", "ties"] (spD ⟨K, ER⟩ io23 s23) :=
  @def_ok ⟨K, ER⟩ P w mg base "_law_chart_holds" "_law_chart_holds" _ _ _ [] f fd (inst t23) n23 ["pot", "modulus", "readings", "ties"] io23 38 s23 b23 f23 [] free [] kp23 [] F sc23 rfl (fun _ _ => rfl) a.2 (fun j y h => by simp at h) hr (fun j y ioj psj h h' => by cases h') (@kp_all (inst t23) ⟨K, ER⟩ P w mg base 38 f23 kp23 (by decide +kernel) (List.forall_mem_cons.mpr ⟨⟨9, io9, rfl, 10, by decide, q0⟩, fun _ z => nomatch z⟩)) (fun j y h h' => by cases h') ch23
theorem ok24 {f : Addr} {fd : FuncData} (F : FunD K "_law_ring_holds" "_law_ring_holds" (defArgs (top 28)) (defBody (top 28)) (defScope (top 28)) [] [] f fd) (a : AllF ⟨K, ER⟩ P w mg base f24 t24 39) (hr : ∀ y, free.contains y = true → mg y = none) :
    FnOk P w K mg base (L2.CX P w) 40 f fd ["pot", "modulus"] (spD ⟨K, ER⟩ io24 s24) :=
  @def_ok ⟨K, ER⟩ P w mg base "_law_ring_holds" "_law_ring_holds" _ _ _ [] f fd (inst t24) n24 ["pot", "modulus"] io24 39 s24 b24 f24 [] free [] kp24 [] F sc24 rfl (fun _ _ => rfl) a.2 (fun j y h => by simp at h) hr (fun j y ioj psj h h' => by cases h') (fun j y ioj ks perm h h' => nomatch h') (fun j y h h' => by cases h') ch24
theorem ok25 {f : Addr} {fd : FuncData} (F : FunD K "_law_tree_holds" "_law_tree_holds" (defArgs (top 29)) (defBody (top 29)) (defScope (top 29)) [] [] f fd) (a : AllF ⟨K, ER⟩ P w mg base f25 t25 40) (hr : ∀ y, free.contains y = true → mg y = none) :
    FnOk P w K mg base (L2.CX P w) 41 f fd ["pot", "modulus"] (spD ⟨K, ER⟩ io25 s25) :=
  @def_ok ⟨K, ER⟩ P w mg base "_law_tree_holds" "_law_tree_holds" _ _ _ [] f fd (inst t25) n25 ["pot", "modulus"] io25 40 s25 b25 f25 [] free [] kp25 [] F sc25 rfl (fun _ _ => rfl) a.2 (fun j y h => by simp at h) hr (fun j y ioj psj h h' => by cases h') (fun j y ioj ks perm h h' => nomatch h') (fun j y h h' => by cases h') ch25
theorem ok26 {f : Addr} {fd : FuncData} (F : FunD K "_law_wide_holds" "_law_wide_holds" (defArgs (top 30)) (defBody (top 30)) (defScope (top 30)) [] [] f fd) (a : AllF ⟨K, ER⟩ P w mg base f26 t26 41) (hr : ∀ y, free.contains y = true → mg y = none) :
    FnOk P w K mg base (L2.CX P w) 42 f fd ["pot"] (spD ⟨K, ER⟩ io26 s26) :=
  @def_ok ⟨K, ER⟩ P w mg base "_law_wide_holds" "_law_wide_holds" _ _ _ [] f fd (inst t26) n26 ["pot"] io26 41 s26 b26 f26 [] free [] kp26 [] F sc26 rfl (fun _ _ => rfl) a.2 (fun j y h => by simp at h) hr (fun j y ioj psj h h' => by cases h') (fun j y ioj ks perm h h' => nomatch h') (fun j y h h' => by cases h') ch26
theorem ok27 {f : Addr} {fd : FuncData} (F : FunD K "law" "law" (defArgs (top 31)) (defBody (top 31)) (defScope (top 31)) [] [] f fd) (a : AllF ⟨K, ER⟩ P w mg base f27 t27 42) (hr : ∀ y, free.contains y = true → mg y = none) :
    FnOk P w K mg base (L2.CX P w) 43 f fd ["script"] (spD ⟨K, ER⟩ io27 s27) :=
  @def_ok ⟨K, ER⟩ P w mg base "law" "law" _ _ _ [] f fd (inst t27) n27 ["script"] io27 42 s27 b27 f27 [] free [] kp27 [] F sc27 rfl (fun _ _ => rfl) a.2 (fun j y h => by simp at h) hr (fun j y ioj psj h h' => by cases h') (fun j y ioj ks perm h h' => nomatch h') (fun j y h h' => by cases h') ch27
end
theorem facts {P : Program} {w : World} {K : PySem.W.Frag} {h : Heap} {mg : PySem.Str → Option Value} {f : Addr} (X : K.In h) (G : h.Ns mainGlobals mg) (hfa : mg ("law" : PySem.Str) = some (.ref f)) (c : He.SaysD fa fn K) :
    ∃ fd : FuncData, (∀ (s : Shared) (v : Value), BindsTo s fd ⟨[v], []⟩ [("script", v)]) ∧ ∀ base : Heap, K.In base → base.Ns mainGlobals mg → FnOk P w K mg base (L2.CX P w) 43 f fd ["script"] (spD ⟨K, fun _ _ _ _ => False⟩ io27 s27) := by
  obtain ⟨fd0, F0⟩ := c.def_ 0 (d := d0) rfl
  have g0 := He.glo_ok X G (c.fact 0 (f := .glo "place_numbers") rfl)
  obtain ⟨fd1, F1⟩ := c.def_ 1 (d := d1) rfl
  have g1 := He.glo_ok X G (c.fact 1 (f := .glo "tie_ends") rfl)
  obtain ⟨fd2, F2⟩ := c.def_ 2 (d := d2) rfl
  have g2 := He.glo_ok X G (c.fact 2 (f := .glo "differences_of") rfl)
  obtain ⟨fd3, F3⟩ := c.def_ 3 (d := d3) rfl
  have g3 := He.glo_ok X G (c.fact 3 (f := .glo "nearest_rest") rfl)
  obtain ⟨fd4, F4⟩ := c.def_ 4 (d := d4) rfl
  have g4 := He.glo_ok X G (c.fact 4 (f := .glo "all_steps") rfl)
  obtain ⟨fd5, F5⟩ := c.def_ 5 (d := d5) rfl
  have g5 := He.glo_ok X G (c.fact 5 (f := .glo "step_of") rfl)
  obtain ⟨fd6, F6⟩ := c.def_ 6 (d := d6) rfl
  have g6 := He.glo_ok X G (c.fact 6 (f := .glo "turns_of") rfl)
  obtain ⟨fd7, F7⟩ := c.def_ 7 (d := d7) rfl
  have g7 := He.glo_ok X G (c.fact 7 (f := .glo "beside_lists") rfl)
  obtain ⟨fd8, F8⟩ := c.def_ 8 (d := d8) rfl
  have g8 := He.glo_ok X G (c.fact 8 (f := .glo "land_of_differences") rfl)
  obtain ⟨fd9, F9⟩ := c.def_ 9 (d := d9) rfl
  have g9 := He.glo_ok X G (c.fact 9 (f := .glo "land_of_turns") rfl)
  obtain ⟨fd10, F10⟩ := c.def_ 10 (d := d10) rfl
  have g10 := He.glo_ok X G (c.fact 10 (f := .glo "_law_pot") rfl)
  obtain ⟨fd11, F11⟩ := c.def_ 11 (d := d11) rfl
  have g11 := He.glo_ok X G (c.fact 11 (f := .glo "_law_pour") rfl)
  obtain ⟨fd12, F12⟩ := c.def_ 12 (d := d12) rfl
  have g12 := He.glo_ok X G (c.fact 12 (f := .glo "_law_mixed") rfl)
  obtain ⟨fd13, F13⟩ := c.def_ 13 (d := d13) rfl
  have g13 := He.glo_ok X G (c.fact 13 (f := .glo "_law_names") rfl)
  obtain ⟨fd14, F14⟩ := c.def_ 14 (d := d14) rfl
  have g14 := He.glo_ok X G (c.fact 14 (f := .glo "_law_chart") rfl)
  obtain ⟨fd15, F15⟩ := c.def_ 15 (d := d15) rfl
  have g15 := He.glo_ok X G (c.fact 15 (f := .glo "_law_modulus") rfl)
  obtain ⟨fd16, F16⟩ := c.def_ 16 (d := d16) rfl
  have g16 := He.glo_ok X G (c.fact 16 (f := .glo "_law_readings") rfl)
  obtain ⟨fd17, F17⟩ := c.def_ 17 (d := d17) rfl
  have g17 := He.glo_ok X G (c.fact 17 (f := .glo "_law_ties") rfl)
  obtain ⟨fd18, F18⟩ := c.def_ 18 (d := d18) rfl
  have g18 := He.glo_ok X G (c.fact 18 (f := .glo "_law_step") rfl)
  obtain ⟨fd19, F19⟩ := c.def_ 19 (d := d19) rfl
  have g19 := He.glo_ok X G (c.fact 19 (f := .glo "_law_land") rfl)
  obtain ⟨fd20, F20⟩ := c.def_ 20 (d := d20) rfl
  have g20 := He.glo_ok X G (c.fact 20 (f := .glo "_law_heights") rfl)
  obtain ⟨fd21, F21⟩ := c.def_ 21 (d := d21) rfl
  have g21 := He.glo_ok X G (c.fact 21 (f := .glo "_law_is") rfl)
  obtain ⟨fd22, F22⟩ := c.def_ 22 (d := d22) rfl
  have g22 := He.glo_ok X G (c.fact 22 (f := .glo "_law_turns") rfl)
  obtain ⟨fd23, F23⟩ := c.def_ 23 (d := d23) rfl
  have g23 := He.glo_ok X G (c.fact 23 (f := .glo "_law_chart_holds") rfl)
  obtain ⟨fd24, F24⟩ := c.def_ 24 (d := d24) rfl
  have g24 := He.glo_ok X G (c.fact 24 (f := .glo "_law_ring_holds") rfl)
  obtain ⟨fd25, F25⟩ := c.def_ 25 (d := d25) rfl
  have g25 := He.glo_ok X G (c.fact 25 (f := .glo "_law_tree_holds") rfl)
  obtain ⟨fd26, F26⟩ := c.def_ 26 (d := d26) rfl
  have g26 := He.glo_ok X G (c.fact 26 (f := .glo "_law_wide_holds") rfl)
  obtain ⟨fd27, F27⟩ := c.def_ 27 (d := d27) rfl
  have g27 := He.glo_ok X G (c.fact 27 (f := .glo "law") rfl)
  have hr : ∀ y, free.contains y = true → mg y = none := by
    intro y hy
    have hy : y ∈ free := by simpa using hy
    exact (show ∀ y ∈ (["abs", "bool", "enumerate", "int", "isinstance", "len", "list", "max", "min", "range", "sorted", "str", "tuple", "zip"] : List PySem.Str), mg y = none from List.forall_mem_cons.mpr ⟨He.free_ok X G (c.fact 28 (f := .free "abs") rfl), List.forall_mem_cons.mpr ⟨He.free_ok X G (c.fact 29 (f := .free "bool") rfl), List.forall_mem_cons.mpr ⟨He.free_ok X G (c.fact 30 (f := .free "enumerate") rfl), List.forall_mem_cons.mpr ⟨He.free_ok X G (c.fact 31 (f := .free "int") rfl), List.forall_mem_cons.mpr ⟨He.free_ok X G (c.fact 32 (f := .free "isinstance") rfl), List.forall_mem_cons.mpr ⟨He.free_ok X G (c.fact 33 (f := .free "len") rfl), List.forall_mem_cons.mpr ⟨He.free_ok X G (c.fact 34 (f := .free "list") rfl), List.forall_mem_cons.mpr ⟨He.free_ok X G (c.fact 35 (f := .free "max") rfl), List.forall_mem_cons.mpr ⟨He.free_ok X G (c.fact 36 (f := .free "min") rfl), List.forall_mem_cons.mpr ⟨He.free_ok X G (c.fact 37 (f := .free "range") rfl), List.forall_mem_cons.mpr ⟨He.free_ok X G (c.fact 38 (f := .free "sorted") rfl), List.forall_mem_cons.mpr ⟨He.free_ok X G (c.fact 39 (f := .free "str") rfl), List.forall_mem_cons.mpr ⟨He.free_ok X G (c.fact 40 (f := .free "tuple") rfl), List.forall_mem_cons.mpr ⟨He.free_ok X G (c.fact 41 (f := .free "zip") rfl), fun _ z => absurd z List.not_mem_nil⟩⟩⟩⟩⟩⟩⟩⟩⟩⟩⟩⟩⟩⟩) y hy
  cases hfa.symm.trans g27
  have bl := FunD.bindsA (ps := ["script"]) F27 fun _ _ _ _ _ _ us hl => match us, hl with | [_], _ => rfl
  refine ⟨fd27, fun s v => bl s [v] rfl, fun base _ _ => ?_⟩
  have a0 : AllF ⟨K, fun _ _ _ _ => False⟩ P w mg base f0 t0 0 := AllF.nil
  have o0 := ok0 F0 a0 hr  
  have a1 : AllF ⟨K, fun _ _ _ _ => False⟩ P w mg base f1 t1 1 := a0.snoc (FnM.mk g0 F0 o0 (F0.bindsN fun _ _ _ _ _ _ us hl => match us, hl with | [_], _ => rfl))
  have o1 := ok1 F1 a1 hr  
  have a2 : AllF ⟨K, fun _ _ _ _ => False⟩ P w mg base f2 t2 2 := a1.snoc (FnM.mk g1 F1 o1 (F1.bindsN fun _ _ _ _ _ _ us hl => match us, hl with | [_], _ => rfl))
  have o2 := ok2 F2 a2 hr  
  have a3 : AllF ⟨K, fun _ _ _ _ => False⟩ P w mg base f3 t3 3 := a2.snoc (FnM.mk g2 F2 o2 (F2.bindsN fun _ _ _ _ _ _ us hl => match us, hl with | [_, _], _ => rfl))
  have o3 := ok3 F3 a3 hr  
  have a4 : AllF ⟨K, fun _ _ _ _ => False⟩ P w mg base f4 t4 4 := a3.snoc (FnM.mk g3 F3 o3 (F3.bindsN fun _ _ _ _ _ _ us hl => match us, hl with | [_, _], _ => rfl))
  have o4 := ok4 F4 a4 hr  
  have a5 : AllF ⟨K, fun _ _ _ _ => False⟩ P w mg base f5 t5 5 := a4.snoc (FnM.mk g4 F4 o4 (F4.bindsN fun _ _ _ _ _ _ us hl => match us, hl with | [_], _ => rfl))
  have o5 := ok5 F5 a5 hr  
  have a6 : AllF ⟨K, fun _ _ _ _ => False⟩ P w mg base f6 t6 6 := a5.snoc (FnM.mk g5 F5 o5 (F5.bindsN fun _ _ _ _ _ _ us hl => match us, hl with | [_, _], _ => rfl))
  have o6 := ok6 F6 a6 hr  
  have a7 : AllF ⟨K, fun _ _ _ _ => False⟩ P w mg base f7 t7 7 := a6.snoc (FnM.mk g6 F6 o6 (F6.bindsN fun _ _ _ _ _ _ us hl => match us, hl with | [_, _], _ => rfl))
  have o7 := ok7 F7 a7 hr  
  have a8 : AllF ⟨K, fun _ _ _ _ => False⟩ P w mg base f8 t8 8 := a7.snoc (FnM.mk g7 F7 o7 (F7.bindsN fun _ _ _ _ _ _ us hl => match us, hl with | [_], _ => rfl))
  have o8 := ok8 F8 a8 hr  
  have a9 : AllF ⟨K, fun _ _ _ _ => False⟩ P w mg base f9 t9 9 := a8.snoc (FnM.mk g8 F8 o8 (F8.bindsN fun _ _ _ _ _ _ us hl => match us, hl with | [_, _, _], _ => rfl))
  have o9 := ok9 F9 a9 hr  
  have a10 : AllF ⟨K, fun _ _ _ _ => False⟩ P w mg base f10 t10 10 := a9.snoc (FnM.mk g9 F9 o9 (F9.bindsN fun _ _ _ _ _ _ us hl => match us, hl with | [_, _], _ => rfl))
  have o10 := ok10 F10 a10 hr  
  have a11 : AllF ⟨K, fun _ _ _ _ => False⟩ P w mg base f11 t11 11 := a10.snoc (FnM.mk g10 F10 o10 (F10.bindsN fun _ _ _ _ _ _ us hl => match us, hl with | [_], _ => rfl))
  have o11 := ok11 F11 a11 hr  
  have a12 : AllF ⟨K, fun _ _ _ _ => False⟩ P w mg base f12 t12 12 := a11.snoc (FnM.mk g11 F11 o11 (F11.bindsN fun _ _ _ _ _ _ us hl => match us, hl with | [_, _], _ => rfl))
  have o12 := ok12 F12 a12 hr  
  have a13 : AllF ⟨K, fun _ _ _ _ => False⟩ P w mg base f13 t13 13 := a12.snoc (FnM.mk g12 F12 o12 (F12.bindsN fun _ _ _ _ _ _ us hl => match us, hl with | [_, _], _ => rfl))
  have o13 := ok13 F13 a13 hr  
  have a14 : AllF ⟨K, fun _ _ _ _ => False⟩ P w mg base f14 t14 14 := a13.snoc (FnM.mk g13 F13 o13 (F13.bindsN fun _ _ _ _ _ _ us hl => match us, hl with | [_, _], _ => rfl))
  have o14 := ok14 F14 a14 hr  
  have a15 : AllF ⟨K, fun _ _ _ _ => False⟩ P w mg base f15 t15 15 := a14.snoc (FnM.mk g14 F14 o14 (F14.bindsN fun _ _ _ _ _ _ us hl => match us, hl with | [_, _, _, _], _ => rfl))
  have o15 := ok15 F15 a15 hr  
  have a16 : AllF ⟨K, fun _ _ _ _ => False⟩ P w mg base f16 t16 16 := a15.snoc (FnM.mk g15 F15 o15 (F15.bindsN fun _ _ _ _ _ _ us hl => match us, hl with | [_], _ => rfl))
  have o16 := ok16 F16 a16 hr  
  have a17 : AllF ⟨K, fun _ _ _ _ => False⟩ P w mg base f17 t17 17 := a16.snoc (FnM.mk g16 F16 o16 (F16.bindsN fun _ _ _ _ _ _ us hl => match us, hl with | [_, _, _], _ => rfl))
  have o17 := ok17 F17 a17 hr  
  have a18 : AllF ⟨K, fun _ _ _ _ => False⟩ P w mg base f18 t18 18 := a17.snoc (FnM.mk g17 F17 o17 (F17.bindsN fun _ _ _ _ _ _ us hl => match us, hl with | [_, _, _], _ => rfl))
  have o18 := ok18 F18 a18 hr  
  have a19 : AllF ⟨K, fun _ _ _ _ => False⟩ P w mg base f19 t19 19 := a18.snoc (FnM.mk g18 F18 o18 (F18.bindsN fun _ _ _ _ _ _ us hl => match us, hl with | [_, _, _], _ => rfl))
  have o19 := ok19 F19 a19 hr  
  have a20 : AllF ⟨K, fun _ _ _ _ => False⟩ P w mg base f20 t20 20 := a19.snoc (FnM.mk g19 F19 o19 (F19.bindsN fun _ _ _ _ _ _ us hl => match us, hl with | [_, _, _, _], _ => rfl))
  have o20 := ok20 F20 a20 hr  
  have a21 : AllF ⟨K, fun _ _ _ _ => False⟩ P w mg base f21 t21 21 := a20.snoc (FnM.mk g20 F20 o20 (F20.bindsN fun _ _ _ _ _ _ us hl => match us, hl with | [_, _, _], _ => rfl))
  have o21 := ok21 g21 F21 (F21.bindsN fun _ _ _ _ _ _ us hl => match us, hl with | [_, _], _ => rfl) a21 hr
  have a22 : AllF ⟨K, fun _ _ _ _ => False⟩ P w mg base f22 t22 37 := (a21.mono (k := 36) (by decide)).snoc (FnM.mk g21 F21 o21 (F21.bindsN fun _ _ _ _ _ _ us hl => match us, hl with | [_, _], _ => rfl))
  have o22 := ok22 F22 a22 hr  
  have a23 : AllF ⟨K, fun _ _ _ _ => False⟩ P w mg base f23 t23 38 := a22.snoc (FnM.mk g22 F22 o22 (F22.bindsN fun _ _ _ _ _ _ us hl => match us, hl with | [_, _, _, _], _ => rfl))
  have q0 : FnMP ⟨K, fun _ _ _ _ => False⟩ P w mg base 10 "land_of_turns" io9 ["turns", "chart"] [1, 0] s9 := ⟨_, _, _, g9, o9, F9.kp, kbp_of F9 rfl (by decide) fun _ _ _ _ _ _ ws hl => match ws, hl with | [_, _], _ => rfl⟩
  have o23 := ok23 F23 a23 hr  q0
  have a24 : AllF ⟨K, fun _ _ _ _ => False⟩ P w mg base f24 t24 39 := a23.snoc (FnM.mk g23 F23 o23 (F23.bindsN fun _ _ _ _ _ _ us hl => match us, hl with | [_, _, _, _], _ => rfl))
  have o24 := ok24 F24 a24 hr  
  have a25 : AllF ⟨K, fun _ _ _ _ => False⟩ P w mg base f25 t25 40 := a24.snoc (FnM.mk g24 F24 o24 (F24.bindsN fun _ _ _ _ _ _ us hl => match us, hl with | [_, _], _ => rfl))
  have o25 := ok25 F25 a25 hr  
  have a26 : AllF ⟨K, fun _ _ _ _ => False⟩ P w mg base f26 t26 41 := a25.snoc (FnM.mk g25 F25 o25 (F25.bindsN fun _ _ _ _ _ _ us hl => match us, hl with | [_, _], _ => rfl))
  have o26 := ok26 F26 a26 hr  
  have a27 : AllF ⟨K, fun _ _ _ _ => False⟩ P w mg base f27 t27 42 := a26.snoc (FnM.mk g26 F26 o26 (F26.bindsN fun _ _ _ _ _ _ us hl => match us, hl with | [_], _ => rfl))
  exact ok27 F27 a27 hr 



theorem mul_r {i j : Int} (h1 : -18446744073709551616 < j) (h2 : j < 18446744073709551616) : O2.mul.sem (.int i) (.int j) = some (.int (i * j)) := if_pos (.inl (.inr ⟨h1, h2⟩))
theorem mul_l {i j : Int} (h1 : -18446744073709551616 < i) (h2 : i < 18446744073709551616) : O2.mul.sem (.int i) (.int j) = some (.int (i * j)) := if_pos (.inl (.inl ⟨h1, h2⟩))
theorem mod_k {i j : Int} (h : 0 < j) : O2.mod.sem (.int i) (.int j) = some (.int (i % j)) := if_pos h
theorem fdiv_k {i j : Int} (h : 0 < j) (h2 : j < 18446744073709551616) : O2.fdiv.sem (.int i) (.int j) = some (.int (i / j)) := if_pos ⟨h, h2⟩
abbrev Pl := Int × Int × Int
def plD (p : Pl) : D := .tup [.int p.1, .int p.2.1, .int p.2.2]
def plsD (l : List Pl) : D := .tup (l.map plD)
theorem map_get {α β : Type} {f : α → β} {l : List α} {i : Nat} {d : β} (h : (l.map f)[i]? = some d) : ∃ p, l[i]? = some p ∧ d = f p := by
  rw [List.getElem?_map] at h
  cases hl : l[i]? with
  | none => rw [hl] at h; cases h
  | some p => rw [hl] at h; cases h; exact ⟨p, rfl, rfl⟩
structure Ti where
  nm : PySem.Str
  u : PySem.Str
  v : PySem.Str
  lo : Option Int
  hi : Option Int
  ps : List Pl
  iu : Nat
  iv : Nat
def oD : Option Int → D
  | none => .non
  | some i => .int i
def tiD (t : Ti) : D := .tup [.str t.nm, .str t.u, .str t.v, oD t.lo, oD t.hi, plsD t.ps]
theorem nt {b : Bool} (h : (!b) = true) : b = false := by cases b <;> first | rfl | cases h
theorem nf {b : Bool} (h : (!b) = false) : b = true := by cases b <;> first | rfl | cases h
theorem atI_nat {α : Type} {l : List α} {i : Nat} {d : α} (h : l[i]? = some d) : atI l (i : Int) = some d := by
  have hi : i < l.length := (List.getElem?_eq_some_iff.mp h).1
  have e : ixN l.length (i : Int) = some i := by
    unfold ixN
    rw [if_pos (by omega)]
    simp [hi]
  unfold atI
  rw [e]
  exact h
def chD (m : Int) (P : List D) (ts : List Ti) : D := .tup [.int m, .tup P, .tup (ts.map tiD)]
theorem tie_at {m : Int} {P : List D} {ts : List Ti} {i : Nat} {t : Ti} (h : ts[i]? = some t) : O2.idx.sem (.tup (ts.map tiD)) (.int (i : Int)) = some (tiD t) := atI_nat (by rw [List.getElem?_map, h]; rfl)
abbrev Pc := PySem.Str × Int
def pcD (p : Pc) : D := .tup [.str p.1, .int p.2]
def keyP (p : Pc) : Key := .inr p.1
def intsD (n : Nat) : List D := (List.range n).map fun k : Nat => D.int (k : Int)
def numsD (pl : List Pc) : D := .dk false (pl.map keyP) (intsD pl.length)
theorem enum_get : ∀ (ds : List D) (n i : Nat), (enumD n ds)[i]? = ds[i]?.map fun d => .tup [.int ((n + i : Nat) : Int), d]
  | [], _, _ => rfl
  | d :: ds, n, 0 => rfl
  | d :: ds, n, i + 1 => by
    show (enumD (n + 1) ds)[i]? = ds[i]?.map _
    rw [enum_get ds (n + 1) i, show n + 1 + i = n + (i + 1) by omega]
theorem enum_len : ∀ (ds : List D) (n : Nat), (enumD n ds).length = ds.length
  | [], _ => rfl
  | d :: ds, n => congrArg (· + 1) (enum_len ds (n + 1))
theorem enum_some {α : Type} {f : α → D} {l : List α} {i : Nat} {d : D} (h : (enumD 0 (l.map f))[i]? = some d) : ∃ p, l[i]? = some p ∧ d = .tup [.int (i : Int), f p] := by
  rw [enum_get, Nat.zero_add] at h
  cases hd : (l.map f)[i]? with
  | none => rw [hd] at h; cases h
  | some z =>
    rw [hd] at h
    cases h
    obtain ⟨p, h1, rfl⟩ := map_get hd
    exact ⟨p, h1, rfl⟩
theorem fz_ints (n : Nat) : fzDs (intsD n) = intsD n := by
  unfold intsD
  induction (List.range n) with
  | nil => rfl
  | cons k r ih => exact congrArg (D.int k :: ·) ih
theorem intsD_succ (n : Nat) : intsD (n + 1) = intsD n ++ [.int (n : Int)] := by
  unfold intsD
  rw [List.range_succ, List.map_append]
  rfl
theorem take_map {α β : Type} {f : α → β} {l : List α} {i : Nat} {p : α} (h : l[i]? = some p) : (l.take (i + 1)).map f = (l.take i).map f ++ [f p] := by
  rw [List.take_succ, h, List.map_append]
  rfl
theorem numbers_ok (m : Int) (pl : List Pc) (ts : List Ti) (nd : (pl.map (·.1)).Nodup) (hl : pl.length ≤ 1000) : s0 [chD m (pl.map pcD) ts] = .ret (numsD pl) [] := by
  refine @wpF_eq (inst t0) n0.length io0 b0 _ _ _ ?_
  refine ⟨_, rfl, _, rfl, rfl, _, rfl, fun i acc ρ => acc = ((pl.take i).map keyP, intsD i) ∧ ρ = [some (chD m (pl.map pcD) ts), none, none], ⟨rfl, rfl⟩, ?_, ?_⟩
  · rintro i d acc ρ hd ⟨rfl, rfl⟩
    obtain ⟨p, hp, rfl⟩ := enum_some hd
    refine ⟨_, rfl, (fun _ => ⟨_, rfl, _, rfl, rfl, _, rfl, rfl, _, rfl, rfl, ?_, rfl⟩), fun z => nomatch z⟩
    have hno : ((pl.take i).map keyP).any (fun j => decide (j = (.inr p.1 : Key))) = false := by
      rw [List.any_eq_false]
      intro k hk
      obtain ⟨q, hq, rfl⟩ := List.mem_map.mp hk
      obtain ⟨j, hj, hq⟩ := List.mem_iff_getElem.mp hq
      have hj' : j < i := by rw [List.length_take] at hj; omega
      have hjl : j < pl.length := by rw [List.length_take] at hj; omega
      rw [List.getElem_take] at hq
      obtain ⟨hi, hpe⟩ := List.getElem?_eq_some_iff.mp hp
      intro he
      have he : (Sum.inr q.1 : Key) = .inr p.1 := of_decide_eq_true he
      have he : q.1 = p.1 := Sum.inr.inj he
      have := (List.pairwise_iff_getElem.mp nd) j i (by simpa using hjl) (by simpa using hi) hj'
      rw [List.getElem_map, List.getElem_map, hq, hpe] at this
      exact this he
    unfold put
    rw [if_neg (by rw [hno]; exact Bool.false_ne_true), take_map hp, intsD_succ]
    rfl
  · rintro acc ρ ⟨rfl, rfl⟩
    have e0 : (enumD 0 (pl.map pcD)).length = pl.length := by rw [enum_len, List.length_map]
    rw [e0, List.take_length]
    refine ⟨by rw [List.length_map]; show pl.length < 16777216; omega, _, rfl, ?_, rfl⟩
    show D.dk false (pl.map keyP) (fzDs (intsD pl.length)) = _
    rw [fz_ints]
    rfl
theorem look_num : ∀ (pl : List Pc) (c : Nat) (i : Nat) (p : Pc), (pl.map (·.1)).Nodup → pl[i]? = some p → look (.inr p.1 : Key) (pl.map keyP) ((List.range' c pl.length).map fun k : Nat => D.int (k : Int)) = some (.int ((c + i : Nat) : Int))
  | [], _, _, _, _, h => by simp at h
  | q :: pl, c, 0, p, _, h => by
    cases (show q = p by simpa using h)
    show (if (keyP q) = (.inr q.1 : Key) then some (D.int (c : Int)) else _) = _
    rw [if_pos (show keyP q = (.inr q.1 : Key) from rfl)]
    rfl
  | q :: pl, c, i + 1, p, nd, h => by
    have h : pl[i]? = some p := by simpa using h
    obtain ⟨n1, n2⟩ := List.nodup_cons.mp (show (q.1 :: pl.map (·.1)).Nodup from nd)
    have hne : ¬ keyP q = (.inr p.1 : Key) := fun e => n1 (by
      have e : q.1 = p.1 := Sum.inr.inj e
      rw [e]
      exact List.mem_map.mpr ⟨p, List.mem_of_getElem? h, rfl⟩)
    show (if (keyP q) = (.inr p.1 : Key) then some (D.int (c : Int)) else look (.inr p.1) (pl.map keyP) ((List.range' (c + 1) pl.length).map fun k : Nat => D.int (k : Int))) = _
    rw [if_neg hne, look_num pl (c + 1) i p n2 h, show c + 1 + i = c + (i + 1) by omega]
theorem num_at {pl : List Pc} {i : Nat} {p : Pc} (nd : (pl.map (·.1)).Nodup) (h : pl[i]? = some p) : O2.idx.sem (numsD pl) (.str p.1) = some (.int (i : Int)) := by
  show look (.inr p.1 : Key) (pl.map keyP) (intsD pl.length) = _
  have := look_num pl 0 i p nd h
  rw [Nat.zero_add] at this
  unfold intsD
  rw [List.range_eq_range']
  exact this
/-- ties between places of the chart -/
def okT (pl : List Pc) (t : Ti) : Prop := (∃ r, pl[t.iu]? = some (t.u, r)) ∧ (∃ r, pl[t.iv]? = some (t.v, r))
def endD (t : Ti) : D := .tup [.int (t.iu : Int), .int (t.iv : Int)]
theorem ends_ok (m : Int) (pl : List Pc) (ts : List Ti) (nd : (pl.map (·.1)).Nodup) (hl : pl.length ≤ 1000) (ht : ts.length ≤ 1000) (ok : ∀ t ∈ ts, okT pl t) : s1 [chD m (pl.map pcD) ts] = .ret (.lst false (ts.map endD)) [] := by
  refine @wpF_eq (inst t1) n1.length io1 b1 _ _ _ ?_
  refine ⟨_, rfl, rfl, _, rfl, _, _, numbers_ok m pl ts nd hl, _, rfl, ?_⟩
  refine ⟨_, rfl, _, rfl, _, rfl, fun i acc ρ => acc = (ts.take i).map endD ∧ ρ = [some (chD m (pl.map pcD) ts), some (numsD pl), none], ⟨rfl, rfl⟩, ?_, ?_⟩
  · rintro i d acc ρ hd ⟨rfl, rfl⟩
    obtain ⟨t, hp, rfl⟩ := map_get hd
    obtain ⟨⟨r1, h1⟩, ⟨r2, h2⟩⟩ := ok t (List.mem_of_getElem? hp)
    refine ⟨_, rfl, (fun _ => ⟨_, rfl, _, rfl, _, rfl, _, num_at nd h1, rfl, _, rfl, _, rfl, _, rfl, _, num_at nd h2, rfl, ⟨rfl, (by show 2 ≤ 16777216; omega)⟩, ?_, rfl⟩), fun z => nomatch z⟩
    rw [take_map hp]
    rfl
  · rintro acc ρ ⟨rfl, rfl⟩
    have e0 : (ts.map tiD).length = ts.length := by rw [List.length_map]
    rw [e0, List.take_length]
    refine ⟨by rw [List.length_map]; show ts.length ≤ 16777216; omega, _, rfl, ?_, rfl⟩
    show D.lst false (fzDs (ts.map endD)) = _
    have : ∀ l : List Ti, fzDs (l.map endD) = l.map endD := fun l => by
      induction l with
      | nil => rfl
      | cons t l ih => exact congrArg (endD t :: ·) ih
    rw [this]
def landD (ls : List Int) : D := .tup (ls.map D.int)
theorem land_at {ls : List Int} {i : Nat} (h : i < ls.length) : O2.idx.sem (landD ls) (.int (i : Int)) = some (.int (ls.getD i 0)) := atI_nat (by rw [List.getElem?_map, List.getElem?_eq_getElem h, List.getD_eq_getElem?_getD, List.getElem?_eq_getElem h]; rfl)
theorem pick {l : List D} {r : Int} {P : D → Prop} (h0 : 0 ≤ r) (h1 : r < l.length) (hP : ∀ d ∈ l, P d) : ∃ d, O2.idx.sem (.tup l) (.int r) = some d ∧ P d := by
  have hn : r.toNat < l.length := by omega
  refine ⟨l[r.toNat], ?_, hP _ (List.getElem_mem hn)⟩
  have := atI_nat (l := l) (i := r.toNat) (d := l[r.toNat]) (by simp [hn])
  rw [show ((r.toNat : Nat) : Int) = r by omega] at this
  exact this
theorem rng_len : ∀ (n : Nat) (lo : Int), (rngD lo n).length = n
  | 0, _ => rfl
  | n + 1, lo => congrArg (· + 1) (rng_len n (lo + 1))
theorem rng_get : ∀ (n : Nat) (lo : Int) (i : Nat) (d : D), (rngD lo n)[i]? = some d → d = .int (lo + i) ∧ i < n
  | 0, _, _, _, h => by cases h
  | n + 1, lo, 0, d, h => by cases h; exact ⟨by simp, by omega⟩
  | n + 1, lo, i + 1, d, h => by
    obtain ⟨h1, h2⟩ := rng_get n (lo + 1) i d (by simpa [rngD] using h)
    refine ⟨?_, by omega⟩
    rw [h1]
    congr 1
    push_cast
    omega
theorem pl_frz (l : List Pl) : (l.map plD).all frzD = true := by
  rw [List.all_eq_true]
  intro d hd
  obtain ⟨p, _, rfl⟩ := List.mem_map.mp hd
  rfl
theorem rng1 {j : Int} (h0 : -4611686018427387904 ≤ j) (h1 : j < 4611686018427387904) : rngOf [.int j] = some (rngD 0 j.toNat) := if_pos ⟨h0, h1⟩
theorem fz_map (l : List Int) : fzDs (l.map D.int) = l.map D.int := by
  induction l with
  | nil => rfl
  | cons i l ih => exact congrArg (D.int i :: ·) ih
theorem ints_frz (l : List Int) : (l.map D.int).all frzD = true := by
  rw [List.all_eq_true]
  intro d hd
  obtain ⟨p, _, rfl⟩ := List.mem_map.mp hd
  rfl
theorem tuple_k {o : Bool} {xs : List D} (h : xs.all frzD = true) : O1.tuple.sem (.lst o xs) = some (.tup xs) := by
  show (match kids (.lst o xs) with | some xs => some (D.tup xs) | none => none) = _
  have : kids (.lst o xs) = some xs := by
    cases o with
    | true => exact if_pos h
    | false => rfl
  rw [this]
theorem ti_frz (l : List Ti) : (l.map tiD).all frzD = true := by
  rw [List.all_eq_true]
  intro d hd
  obtain ⟨p, _, rfl⟩ := List.mem_map.mp hd
  rfl
theorem pc_frz (l : List Pc) : (l.map pcD).all frzD = true := by
  rw [List.all_eq_true]
  intro d hd
  obtain ⟨p, _, rfl⟩ := List.mem_map.mp hd
  rfl
theorem nth_nat {r : Int} (h : 0 ≤ r) : ∃ n : Nat, r = (n : Int) := ⟨r.toNat, by omega⟩
theorem getD_at {ls : List Int} {i : Nat} (h : i < ls.length) : (ls.map D.int)[i]? = some (.int (ls.getD i 0)) := by
  rw [List.getElem?_map, List.getElem?_eq_getElem h, List.getD_eq_getElem?_getD, List.getElem?_eq_getElem h]; rfl

def natsD (l : List Nat) : List D := l.map fun k : Nat => D.int (k : Int)
theorem nats_app (l m : List Nat) : natsD (l ++ m) = natsD l ++ natsD m := List.map_append
theorem nats_frz (l : List Nat) : (natsD l).all frzD = true := by
  rw [List.all_eq_true]
  intro d hd
  obtain ⟨p, _, rfl⟩ := List.mem_map.mp hd
  rfl
theorem nats_fz (l : List Nat) : fzDs (natsD l) = natsD l := by
  induction l with
  | nil => rfl
  | cons k r ih => exact congrArg (D.int k :: ·) ih
theorem nats_len (l : List Nat) : (natsD l).length = l.length := List.length_map _
theorem pow_kk {a : Int} {b : Nat} (h1 : -18446744073709551616 < a) (h2 : a < 18446744073709551616) (h3 : b ≤ 1000000) : O2.pow.sem (.int a) (.int (b : Int)) = some (.int (a ^ b)) := by
  show (if (0 ≤ ((b : Nat) : Int) ∧ ((b : Nat) : Int) ≤ 1000000) ∧ (-18446744073709551616 < a ∧ a < 18446744073709551616) then some (D.int (a ^ ((b : Nat) : Int).toNat)) else none) = _
  rw [if_pos ⟨⟨by omega, by omega⟩, h1, h2⟩, Int.toNat_natCast]
theorem mul_big {i j : Int} (h1 : i.natAbs.log2 < 2000) (h2 : j.natAbs.log2 < 2000) : O2.mul.sem (.int i) (.int j) = some (.int (i * j)) := if_pos (.inr ⟨h1, h2⟩)
def unS : D → PySem.Str
  | .str x => x
  | _ => ""
theorem sort_strs (l : List PySem.Str) (hl : l.length ≤ 1000) : ∃ l' : List PySem.Str, l'.Perm l ∧ O1.srt.sem (.lst true (l.map D.str)) = some (.lst true (l'.map D.str)) := by
  have hp : (srtL (l.map D.str)).Perm (l.map D.str) := List.mergeSort_perm _ _
  have hm : ∀ d ∈ l.map D.str, ∃ x, d = .str x := fun d hd => by
    obtain ⟨x, _, rfl⟩ := List.mem_map.mp hd
    exact ⟨x, rfl⟩
  have e1 : ((srtL (l.map D.str)).map unS).map D.str = srtL (l.map D.str) := by
    rw [List.map_map]
    refine (List.map_congr_left (g := id) fun d hd => ?_).trans (List.map_id _)
    obtain ⟨x, rfl⟩ := hm d (hp.mem_iff.mp hd)
    rfl
  refine ⟨(srtL (l.map D.str)).map unS, ?_, ?_⟩
  · have := hp.map unS
    rw [List.map_map] at this
    refine this.trans (.of_eq ?_)
    exact (List.map_congr_left (g := id) fun d hd => rfl).trans (List.map_id _)
  · rw [e1]
    show sortS (l.map D.str) = _
    unfold sortS
    rw [if_pos]
    refine ⟨⟨⟨?_, .inr ?_⟩, ?_⟩, ?_, ?_⟩
    · unfold ordB
      rw [List.all_eq_true]
      intro d hd
      obtain ⟨x, rfl⟩ := hm d hd
      rw [List.all_eq_true]
      intro e he
      obtain ⟨y, rfl⟩ := hm e he
      rfl
    · rw [List.all_eq_true]
      intro d hd
      obtain ⟨x, rfl⟩ := hm d hd
      rfl
    · rw [List.all_eq_true]
      intro d hd
      obtain ⟨x, rfl⟩ := hm d hd
      rfl
    · rw [List.length_map]
      show _ ≤ 16777216
      omega
    · rw [List.all_eq_true]
      intro d hd
      obtain ⟨x, rfl⟩ := hm d hd
      rfl
theorem strs_fz (l : List PySem.Str) : fzDs (l.map D.str) = l.map D.str := by
  induction l with
  | nil => rfl
  | cons k r ih => exact congrArg (D.str k :: ·) ih
def LT : List Nat := ("acdefghijkmnopqrstuvwxyz" : PySem.Str).cps.toList
def chS (c : Nat) : PySem.Str := ⟨#[c]⟩
theorem letter_at (r : Nat) (h : r < 24) : O2.idx.sem (.str "acdefghijkmnopqrstuvwxyz") (.int (r : Int)) = some (.str (chS (LT.getD r 0))) := by
  have hl : LT.length = 24 := by decide +kernel
  have e : atI LT (r : Int) = some (LT.getD r 0) := atI_nat (by rw [List.getD_eq_getElem?_getD, List.getElem?_eq_getElem (by omega)]; rfl)
  show (if ("acdefghijkmnopqrstuvwxyz" : PySem.Str).length ≤ lim then (match atI LT (r : Int) with
      | some c => some (D.str ⟨#[c]⟩)
      | none => none) else none) = _
  rw [if_pos (by decide +kernel), e]
  rfl
theorem nodup_range {α : Type} {f : Nat → α} {n : Nat} (h : ∀ i j, i < j → j < n → f i ≠ f j) : ((List.range n).map f).Nodup := by
  refine List.pairwise_map.mpr (List.pairwise_lt_range.imp_of_mem fun ha hb hlt => ?_)
  exact h _ _ hlt (List.mem_range.mp hb)
theorem LT_inj {p q : Nat} (hp : p < 24) (hq : q < 24) (h : LT.getD p 0 = LT.getD q 0) : p = q :=
  (by decide +kernel : ∀ p, p < 24 → ∀ q, q < 24 → LT.getD p 0 = LT.getD q 0 → p = q) p hp q hq h
theorem chS_inj {c d : Nat} (h : chS c = chS d) : c = d := by
  have : [c] = [d] := congrArg (fun s : PySem.Str => s.cps.toList) h
  simpa using this
theorem app_cps (x y : PySem.Str) : (x ++ y).cps.toList = x.cps.toList ++ y.cps.toList := Array.toList_append
theorem app_len (x y : PySem.Str) : (x ++ y).length = x.length + y.length := by
  show (x ++ y).cps.size = x.cps.size + y.cps.size
  rw [← Array.length_toList, app_cps, List.length_append, Array.length_toList, Array.length_toList]
def dgs (k : Nat) : List Nat := (PySem.Str.ofString (toString (k : Int))).cps.toList
def isDg (c : Nat) : Bool := decide (48 ≤ c ∧ c ≤ 57)
theorem dgs_all : ∀ k, k < 80 → (dgs k).all isDg = true := by decide +kernel
theorem dgs_inj : ∀ k, k < 80 → ∀ j, j < 80 → dgs k = dgs j → k = j := by decide +kernel
theorem dgs_len : ∀ k, k < 80 → (dgs k).length ≤ 2 := by decide +kernel
theorem pickL {o : Bool} {l : List D} {r : Int} {P : D → Prop} (h0 : 0 ≤ r) (h1 : r < l.length) (hP : ∀ d ∈ l, P d) : ∃ d, O2.idx.sem (.lst o l) (.int r) = some d ∧ P d := pick h0 h1 hP
theorem str_nat (k : Nat) (h : k ≤ 1000) : O1.str.sem (.int (k : Int)) = some (.str (PySem.Str.ofString (toString (k : Int)))) := by
  show (if -1000000000000000000 < (k : Int) ∧ (k : Int) < 1000000000000000000 then some (D.str (PySem.Str.ofString (toString (k : Int)))) else none) = _
  rw [if_pos ⟨by omega, by omega⟩]
theorem if_and {I : Fns} {a b : E} {S1 S2 : Ss} {ρ : Ev} {Q : Fl → Ev → Prop} {p q : Bool} (ha : ∀ Q' : D → Ev → Prop, Q' (.bl p) ρ → @wpE I a ρ Q') (hb : p = true → ∀ Q' : D → Ev → Prop, Q' (.bl q) ρ → @wpE I b ρ Q') (h1 : (p && q) = true → @wpSs I S1 ρ Q) (h2 : (p && q) = false → @wpSs I S2 ρ Q) : @wpS I (.iff (.and a b) S1 S2) ρ Q := by
  cases p with
  | true => exact ha _ ⟨true, rfl, (fun _ => hb rfl _ ⟨q, rfl, (fun z => h1 z), fun z => h2 z⟩), fun z => nomatch z⟩
  | false => exact ha _ ⟨false, rfl, (fun z => nomatch z), fun _ => ⟨false, rfl, (fun z => nomatch z), fun _ => h2 rfl⟩⟩
theorem if_or {I : Fns} {a b : E} {S1 S2 : Ss} {ρ : Ev} {Q : Fl → Ev → Prop} {p q : Bool} (ha : ∀ Q' : D → Ev → Prop, Q' (.bl p) ρ → @wpE I a ρ Q') (hb : p = false → ∀ Q' : D → Ev → Prop, Q' (.bl q) ρ → @wpE I b ρ Q') (h1 : (p || q) = true → @wpSs I S1 ρ Q) (h2 : (p || q) = false → @wpSs I S2 ρ Q) : @wpS I (.iff (.or a b) S1 S2) ρ Q := by
  cases p with
  | false => exact ha _ ⟨false, rfl, (fun z => nomatch z), fun _ => hb rfl _ ⟨q, rfl, (fun z => h1 z), fun z => h2 z⟩⟩
  | true => exact ha _ ⟨true, rfl, (fun _ => ⟨true, rfl, (fun _ => h1 rfl), fun z => nomatch z⟩), fun z => nomatch z⟩
theorem and_tt {p q : Prop} [Decidable p] [Decidable q] (h : (decide p && decide q) = true) : p ∧ q := by simpa using h
theorem fe {l : List FSem} {k : Nat} {s : FSem} (h : @Fns.F (inst l) k = s) {x : List D} {y : FOut} (e : s x = y) : @Fns.F (inst l) k x = y := by rw [h]; exact e
theorem rng_nats (n : Nat) : ∀ lo : Nat, rngD (lo : Int) n = natsD (List.range' lo n) := by
  induction n with
  | zero => exact fun _ => rfl
  | succ n ih =>
    intro lo
    have := ih (lo + 1)
    rw [show ((lo + 1 : Nat) : Int) = (lo : Int) + 1 by omega] at this
    show D.int (lo : Int) :: rngD ((lo : Int) + 1) n = _
    rw [this]
    rfl
theorem rng_nats0 (n : Nat) : rngD 0 n = natsD (List.range n) := by
  have := rng_nats n 0
  rw [List.range_eq_range']
  exact this
def dropS : Nat → Ss → Ss
  | 0, s => s
  | n + 1, .cons _ r => dropS n r
  | _ + 1, .nil => .nil
def bodyS : Ss → Ss
  | .cons (.forr _ _ b) _ => b
  | _ => .nil
theorem strs_at {l : List PySem.Str} {i : Nat} {x : PySem.Str} (h : l[i]? = some x) : O2.idx.sem (.lst false (l.map D.str)) (.int (i : Int)) = some (.str x) := atI_nat (by rw [List.getElem?_map, h]; rfl)
theorem ints_at {l : List Int} {i : Nat} (h : i < l.length) : O2.idx.sem (.lst false (l.map D.int)) (.int (i : Int)) = some (.int (l.getD i 0)) := atI_nat (getD_at h)
def plOf (nl : List PySem.Str) (rs : List Int) (n : Nat) : List Pc := (List.range n).map fun k => (nl.getD k "", rs.getD k 0)
theorem plOf_len (nl : List PySem.Str) (rs : List Int) (n : Nat) : (plOf nl rs n).length = n := by unfold plOf; rw [List.length_map, List.length_range]
theorem plOf_at {nl : List PySem.Str} {rs : List Int} {k : Nat} {x : PySem.Str} (h : nl[k]? = some x) : (plOf nl rs nl.length)[k]? = some (x, rs.getD k 0) := by
  have hk : k < nl.length := (List.getElem?_eq_some_iff.mp h).1
  unfold plOf
  rw [List.getElem?_map, List.getElem?_range hk]
  show some (nl.getD k "", rs.getD k 0) = _
  rw [List.getD_eq_getElem?_getD, h]
  rfl
theorem plOf_names (nl : List PySem.Str) (rs : List Int) : (plOf nl rs nl.length).map (·.1) = nl := by
  apply List.ext_getElem?
  intro k
  cases h : nl[k]? with
  | none =>
    have : nl.length ≤ k := List.getElem?_eq_none_iff.mp h
    rw [List.getElem?_eq_none_iff.mpr]
    rw [List.length_map, plOf_len]
    exact this
  | some x => rw [List.getElem?_map, plOf_at h]; rfl
def fPost (io : List Bool) (P : D → List D → Prop) : Fl → Ev → Prop := fun f ρ => match f with
  | .nx => ∃ l, outsOf (ixs io) ρ = some l ∧ P .non l
  | .rt d => ∃ l, outsOf (ixs io) ρ = some l ∧ P d l
  | _ => False
theorem slc_to {xs : List D} {k : Nat} (h : k ≤ xs.length) : slcS (.tup xs) none (some (k : Int)) = some (.tup (xs.take k)) := by
  show some (D.tup ((xs.drop (HT.sIx xs.length 0 none)).take (HT.sIx xs.length xs.length (some (k : Int)) - HT.sIx xs.length 0 none))) = _
  rw [HT.sIx_nat, HT.sIx_none, Nat.min_eq_left h]
  rfl
theorem slc_from {xs : List D} {k : Nat} (h : k ≤ xs.length) : slcS (.tup xs) (some (k : Int)) none = some (.tup (xs.drop k)) := by
  show some (D.tup ((xs.drop (HT.sIx xs.length 0 (some (k : Int)))).take (HT.sIx xs.length xs.length none - HT.sIx xs.length 0 (some (k : Int))))) = _
  rw [HT.sIx_nat, HT.sIx_none, Nat.min_eq_left h, List.take_of_length_le (by rw [List.length_drop]; omega)]
theorem add_tup {a b : List D} (h : a.length + b.length ≤ 1000) : O2.add.sem (.tup a) (.tup b) = some (.tup (a ++ b)) := if_pos (by show _ ≤ 16777216; omega)




/-! ### drawing -/
structure Pot where
  gs : List Int
  st : Int
  ok : gs.length ≤ 63
def poG (gs : List Int) (st : Int) : D := .lst true [.lst true (gs.map D.int), .int st]
def po (p : Pot) : D := poG p.gs p.st
theorem len_ints (l : List Int) (o : Bool) : O1.len.sem (.lst o (l.map D.int)) = some (.int (l.length : Int)) := by
  show some (D.int ((l.map D.int).length : Int)) = _
  rw [List.length_map]
theorem hd0 {o : Bool} {d : D} {l : List D} : O2.idx.sem (.lst o (d :: l)) (.int 0) = some d := atI_nat (i := 0) rfl
theorem onP_at {α : Type} {f : List D → Option (α × List D)} {i : Nat} {k : Int} {ρ : Ev} {xs ys zs : List D} {n : Nat} {a : α} (h1 : getV ρ i = some (.lst true xs)) (h2 : ixN xs.length k = some n) (h3 : xs[n]? = some (.lst true ys)) (h4 : ys.all frzD = true) (h5 : f ys = some (a, zs)) (h6 : zs.all frzD = true) : onP f i k ρ = .ok a (ρ.set i (some (.lst true (xs.set n (.lst true zs))))) := by
  unfold onP
  rw [h1]
  dsimp only
  rw [h2]
  dsimp only
  rw [h3]
  dsimp only
  rw [if_pos h4, h5]
  dsimp only
  rw [if_pos h6]
theorem popA {a b : Option D} {g st : Int} {gs : List Int} (hn : (g :: gs).length ≤ 63) : onP (popAtF 0) 0 0 [some (poG (g :: gs) st), a, b] = .ok (.int g) [some (poG gs st), a, b] := by
  have e1 : popAtF 0 ((g :: gs).map D.int) = some (.int g, gs.map D.int) := by
    have e : ixN ((g :: gs).map D.int).length 0 = some 0 := by
      unfold ixN
      simp
    unfold popAtF
    rw [e]
    refine if_pos ⟨rfl, ?_⟩
    rw [List.length_map]
    show _ ≤ 16777216
    omega
  exact onP_at (n := 0) (show getV _ 0 = some (.lst true [.lst true _, .int st]) from rfl) rfl rfl (ints_frz _) e1 (ints_frz _)
theorem setA {d : Int} {b c : Option D} {g st : Int} {gs : List Int} : onP (setF 0 (.int d)) 0 0 [some (poG (g :: gs) st), b, c] = .ok () [some (poG (d :: gs) st), b, c] := by
  have e1 : setF 0 (.int d) ((g :: gs).map D.int) = some ((), (d :: gs).map D.int) := by
    have e : ixN ((g :: gs).map D.int).length 0 = some 0 := by
      unfold ixN
      simp
    unfold setF
    rw [e]
    rfl
  exact onP_at (n := 0) (show getV _ 0 = some (.lst true [.lst true _, .int st]) from rfl) rfl rfl (ints_frz _) e1 (ints_frz _)
theorem pour_ex (p : Pot) (m : Int) (h0 : 0 < m) (h1 : m < 18446744073709551616) : ∃ r p', 0 ≤ r ∧ r < m ∧ s11 [po p, .int m] = .ret (.int r) [po p'] := by
  have main : @wpF (inst t11) n11.length io11 b11 [po p, .int m] (fun d l => ∃ (r : Int) (p' : Pot), 0 ≤ r ∧ r < m ∧ d = .int r ∧ l = [po p']) := by
    refine ⟨fun n ρ => ∃ gs, gs.length = n ∧ n ≤ 63 ∧ ρ = [some (poG gs p.st), some (.int m), none], ⟨_, (show p.gs.length < FUEL from Nat.lt_of_le_of_lt p.ok (by decide)), p.gs, rfl, p.ok, rfl⟩, ?_⟩
    rintro n ρ ⟨gs, rfl, hn, rfl⟩
    have rest : gs = [] ∨ gs ≠ [] → @wpSs (inst t11) (dropS 1 b11) [some (poG gs p.st), some (.int m), none] (fPost io11 fun d l => ∃ (r : Int) (p' : Pot), 0 ≤ r ∧ r < m ∧ d = .int r ∧ l = [po p']) := by
      intro hh
      cases gs with
      | nil =>
        repeat (first | refine ⟨_, rfl, ?_⟩ | refine ⟨rfl, ?_⟩ | refine ⟨⟨rfl, Nat.le_of_ble_eq_true rfl⟩, ?_⟩ | refine ⟨Nat.le_of_ble_eq_true rfl, ?_⟩)
        refine ⟨(fun z => nomatch z), fun _ => ?_⟩
        repeat (first | refine ⟨_, rfl, ?_⟩ | refine ⟨rfl, ?_⟩ | refine ⟨⟨rfl, Nat.le_of_ble_eq_true rfl⟩, ?_⟩ | refine ⟨Nat.le_of_ble_eq_true rfl, ?_⟩)
        refine ⟨_, mul_r (by omega) (by omega), ?_⟩
        repeat (first | refine ⟨_, rfl, ?_⟩ | refine ⟨rfl, ?_⟩ | refine ⟨⟨rfl, Nat.le_of_ble_eq_true rfl⟩, ?_⟩ | refine ⟨Nat.le_of_ble_eq_true rfl, ?_⟩)
        refine .inl ⟨_, _, _, rfl, rfl, rfl, ?_⟩
        repeat (first | refine ⟨_, rfl, ?_⟩ | refine ⟨rfl, ?_⟩ | refine ⟨⟨rfl, Nat.le_of_ble_eq_true rfl⟩, ?_⟩ | refine ⟨Nat.le_of_ble_eq_true rfl, ?_⟩)
        refine ⟨_, mod_k h0, ?_⟩
        exact ⟨_, rfl, _, ⟨[], _, by decide⟩, Int.emod_nonneg _ (by omega), Int.emod_lt_of_pos _ h0, rfl, rfl⟩
      | cons g gs =>
        refine ⟨_, rfl, _, rfl, _, len_ints (g :: gs) true, _, rfl, true, congrArg some (decide_eq_true (show (0 : Int) < ((g :: gs).length : Int) by simp)), (fun _ => ?_), fun z => nomatch z⟩
        refine ⟨_, rfl, _, rfl, _, hd0, _, rfl, _, rfl, _, mod_k h0, ?_⟩
        refine ⟨_, rfl, _, rfl, _, hd0, _, rfl, _, fdiv_k h0 h1, rfl, _, rfl, rfl, _, _, rfl, setA, ?_⟩
        refine ⟨_, rfl, rfl, _, rfl, ?_⟩
        refine ⟨_, ⟨(g / m) :: gs, p.st, by simpa using hn⟩, Int.emod_nonneg _ (by omega), Int.emod_lt_of_pos _ h0, rfl, rfl⟩
    cases gs with
    | nil => exact ⟨_, rfl, _, rfl, _, rfl, _, rfl, _, rfl, (fun z => nomatch z), fun _ => ⟨_, rfl, (fun z => nomatch z), fun _ => rest (.inl rfl)⟩⟩
    | cons g gs =>
      refine ⟨_, rfl, _, rfl, _, len_ints (g :: gs) true, _, rfl, true, congrArg some (decide_eq_true (show (0 : Int) < ((g :: gs).length : Int) by simp)), (fun _ => ?_), fun z => nomatch z⟩
      refine ⟨_, rfl, _, rfl, _, hd0, _, rfl, _, rfl, _, rfl, (fun _ => ?_), fun _ => rest (.inr (fun z => nomatch z))⟩
      refine ⟨rfl, _, rfl, rfl, _, _, _, rfl, popA hn, ?_⟩
      exact ⟨gs.length, by simp, gs, rfl, by have : (g :: gs).length ≤ 63 := hn
                                             simp at this; omega, rfl⟩
  obtain ⟨d, l, h1, q, p', h2, h3, rfl, rfl⟩ := @wpF_ok (inst t11) _ _ _ _ _ main
  exact ⟨q, p', h2, h3, h1⟩




theorem abs_int (x : Int) : ∃ y : Int, O1.abs.sem (.int x) = some (.int y) := ⟨_, rfl⟩
theorem pot_ok (ns : List Int) (hl : ns.length ≤ 63) : ∃ p : Pot, s10 [.scr ns] = .ret (po p) [] := by
  have main : @wpF (inst t10) n10.length io10 b10 [.scr ns] (fun d l => ∃ p : Pot, d = po p ∧ l = []) := by
    refine ⟨(Nat.le_of_ble_eq_true rfl), _, rfl, _, rfl, _, rfl, _, rfl, _, rfl, ?_⟩
    refine ⟨fun i ρ => ∃ (gs : List Int) (st : Int) (e3 e4 : Option D), gs.length ≤ i ∧ ρ = [some (.scr ns), some (.int st), some (.lst true (gs.map D.int)), e3, e4], ⟨[], _, _, _, Nat.le_refl _, rfl⟩, ?_, ?_⟩
    · rintro i d ρ hd ⟨gs, st, e3, e4, hgs, rfl⟩
      have hd' : d ∈ fzDs ((((ns.drop (HT.sIx ns.length 0 none)).take (HT.sIx ns.length ns.length (some 63) - HT.sIx ns.length 0 none)).map D.int)) := List.mem_of_getElem? hd
      have hil : i < ns.length := by
        have h := (List.getElem?_eq_some_iff.mp hd).1
        have h : i < (fzDs ((((ns.drop (HT.sIx ns.length 0 none)).take (HT.sIx ns.length ns.length (some 63) - HT.sIx ns.length 0 none)).map D.int))).length := h
        rw [fz_map, List.length_map, List.length_take, List.length_drop] at h
        omega
      rw [fz_map] at hd'
      obtain ⟨x, _, rfl⟩ := List.mem_map.mp hd'
      obtain ⟨y, hy⟩ := abs_int x
      have P60 : O2.pow.sem (.int 10) (.int 60) = some (.int (10 ^ 60)) := pow_kk (a := 10) (b := 60) (by omega) (by omega) (by decide)
      have P18 : O2.pow.sem (.int 10) (.int 18) = some (.int (10 ^ 18)) := pow_kk (a := 10) (b := 18) (by omega) (by omega) (by decide)
      refine ⟨_, rfl, _, rfl, _, rfl, _, hy, ?_⟩
      refine ⟨_, rfl, _, mul_r (by omega) (by omega), _, rfl, _, rfl, _, rfl, _, rfl, _, rfl, _, rfl, _, rfl, ?_⟩
      refine ⟨_, rfl, _, P18, _, rfl, _, rfl, (fun _ => ?_), fun _ => ⟨gs, _, _, _, by omega, rfl⟩⟩
      refine ⟨rfl, _, rfl, _, rfl, _, P60, _, P60, _, mul_big (by decide +kernel) (by decide +kernel), _, P60, _, mul_big (by decide +kernel) (by decide +kernel), _, P60, _, mul_big (by decide +kernel) (by decide +kernel), _, P60, _, mul_big (by decide +kernel) (by decide +kernel), _, mod_k (by decide +kernel), _, rfl, by rw [List.length_map]; show _ < 16777216; omega, ?_⟩
      exact ⟨gs ++ [_], _, _, _, by simp; omega, by rw [List.map_append]; rfl⟩
    · rintro ρ ⟨gs, st, e3, e4, hgs, rfl⟩
      have hgs : gs.length ≤ 63 := by
        have h : gs.length ≤ (fzDs ((((ns.drop (HT.sIx ns.length 0 none)).take (HT.sIx ns.length ns.length (some 63) - HT.sIx ns.length 0 none)).map D.int))).length := hgs
        rw [fz_map, List.length_map, List.length_take, List.length_drop] at h
        omega
      exact ⟨_, rfl, _, rfl, rfl, (Nat.le_of_ble_eq_true rfl), _, rfl, ⟨gs, st, hgs⟩, rfl, rfl⟩
  obtain ⟨d, l, h1, p, rfl, rfl⟩ := @wpF_ok (inst t10) _ _ _ _ _ main
  exact ⟨p, h1⟩


theorem len_nats (l : List Nat) (o : Bool) : O1.len.sem (.lst o (natsD l)) = some (.int (l.length : Int)) := by
  show some (D.int ((natsD l).length : Int)) = _
  rw [nats_len]
theorem erase_map {α β : Type} (f : α → β) : ∀ (l : List α) (r : Nat), (l.map f).eraseIdx r = (l.eraseIdx r).map f
  | [], _ => rfl
  | a :: l, 0 => rfl
  | a :: l, r + 1 => congrArg (f a :: ·) (erase_map f l r)
theorem cons_erase {α : Type} : ∀ (l : List α) (r : Nat) (h : r < l.length), (l[r] :: l.eraseIdx r).Perm l
  | a :: l, 0, _ => .refl _
  | a :: l, r + 1, h => by
    have h' : r < l.length := by simpa using h
    exact (List.Perm.swap a l[r] (l.eraseIdx r)).trans ((cons_erase l r h').cons a)
theorem fuel_k {n : Nat} (h : n ≤ 1000000) : n < FUEL := Nat.lt_of_le_of_lt h (by decide)
theorem popAt_nats {r : Nat} {l : List Nat} (h : r < l.length) (hl : l.length ≤ 1000) : popAtF (r : Int) (natsD l) = some (.int ((l[r] : Nat) : Int), natsD (l.eraseIdx r)) := by
  have e : ixN (natsD l).length (r : Int) = some r := by
    unfold ixN
    rw [nats_len, if_pos (by omega)]
    simp [h]
  have g : (natsD l)[r]? = some (.int ((l[r] : Nat) : Int)) := by unfold natsD; rw [List.getElem?_map, List.getElem?_eq_getElem h]; rfl
  unfold popAtF
  rw [e]
  dsimp only
  rw [g]
  dsimp only
  rw [if_pos ⟨rfl, by rw [nats_len]; show _ ≤ 16777216; omega⟩]
  unfold natsD
  rw [erase_map]
theorem onL_at {α : Type} {f : List D → Option (α × List D)} {i : Nat} {ρ : Ev} {xs zs : List D} {a : α} (h1 : getV ρ i = some (.lst true xs)) (h5 : f xs = some (a, zs)) : onL f i ρ = .ok a (ρ.set i (some (.lst true zs))) := by
  unfold onL
  rw [h1]
  dsimp only
  rw [h5]
theorem F12_11 : @Fns.F (inst t12) 11 = s11 := rfl
theorem popAt_map {α : Type} {f : α → D} (hf : ∀ x, frzD (f x) = true) {r : Nat} {l : List α} (h : r < l.length) (hl : l.length ≤ 1000) : popAtF (r : Int) (l.map f) = some (f l[r], (l.eraseIdx r).map f) := by
  have e : ixN (l.map f).length (r : Int) = some r := by
    unfold ixN
    rw [List.length_map, if_pos (by omega)]
    simp [h]
  have g : (l.map f)[r]? = some (f l[r]) := by rw [List.getElem?_map, List.getElem?_eq_getElem h]; rfl
  unfold popAtF
  rw [e]
  dsimp only
  rw [g]
  dsimp only
  rw [if_pos ⟨hf _, by rw [List.length_map]; show _ ≤ 16777216; omega⟩, erase_map]
theorem all_frz {α : Type} {f : α → D} (h : ∀ x, frzD (f x) = true) (l : List α) : (l.map f).all frzD = true := by
  rw [List.all_eq_true]
  intro d hd
  obtain ⟨x, _, rfl⟩ := List.mem_map.mp hd
  exact h x
theorem fzs_map {α : Type} {f : α → D} (h : ∀ x, fzD (f x) = f x) : ∀ l : List α, fzDs (l.map f) = l.map f
  | [] => rfl
  | x :: l => by
    show fzD (f x) :: fzDs (l.map f) = _
    rw [h x, fzs_map h l]
    rfl
theorem len_map {α : Type} (f : α → D) (l : List α) (o : Bool) : O1.len.sem (.lst o (l.map f)) = some (.int (l.length : Int)) := by
  show some (D.int ((l.map f).length : Int)) = _
  rw [List.length_map]
theorem mixedG {α : Type} {f : α → D} (hf : ∀ x, frzD (f x) = true) (hz : ∀ x, fzD (f x) = f x) (p : Pot) (l : List α) (hl : l.length ≤ 1000) : ∃ (l' : List α) (p' : Pot), l'.Perm l ∧ s12 [po p, .lst false (l.map f)] = .ret (.lst true (l'.map f)) [po p'] := by
  have main : @wpF (inst t12) n12.length io12 b12 [po p, .lst false (l.map f)] (fun d o => ∃ (l' : List α) (p' : Pot), l'.Perm l ∧ d = .lst true (l'.map f) ∧ o = [po p']) := by
    refine ⟨_, rfl, _, rfl, Nat.le_of_ble_eq_true rfl, ?_⟩
    refine ⟨fun n ρ => ∃ (left out : List α) (p : Pot), left.length = n ∧ (left ++ out).Perm l ∧ ρ = [some (po p), some (.lst false (l.map f)), some (.lst true (left.map f)), some (.lst true (out.map f))], ⟨l.length, fuel_k (by omega), l, [], p, rfl, by rw [List.append_nil], rfl⟩, ?_⟩
    rintro n ρ ⟨left, out, p, rfl, hp, rfl⟩
    have hlen : left.length + out.length = l.length := by rw [← List.length_append]; exact hp.length_eq
    refine ⟨_, rfl, _, len_map f left true, _, rfl, _, rfl, (fun z => ?_), fun z => ?_⟩
    · have z : (0 : Int) < (left.length : Int) := of_decide_eq_true z
      obtain ⟨r', p', r0, r1, rt⟩ := pour_ex p (left.length : Int) z (by omega)
      obtain ⟨r, rfl⟩ := nth_nat r0
      have hr : r < left.length := by omega
      refine ⟨rfl, rfl, _, rfl, _, rfl, _, len_map f left true, _, rfl, _, _, fe F12_11 rt, _, rfl, _, _, _, rfl, onL_at rfl (popAt_map hf hr (by omega)), _, rfl, ?_, ?_⟩
      · rw [List.length_map]; show _ < 16777216; omega
      · refine ⟨(left.eraseIdx r).length, by rw [List.length_eraseIdx]; simp [hr]; omega, left.eraseIdx r, out ++ [left[r]], p', rfl, ?_, by rw [List.map_append]; rfl⟩
        have h1 : (left.eraseIdx r ++ (out ++ [left[r]])).Perm (left[r] :: left.eraseIdx r ++ out) := by
          rw [← List.append_assoc]
          exact List.perm_append_comm
        exact h1.trans ((List.Perm.append_right out (cons_erase _ _ hr)).trans hp)
    · have z : ¬ (0 : Int) < (left.length : Int) := of_decide_eq_false z
      have : left = [] := List.length_eq_zero_iff.mp (by omega)
      subst this
      exact ⟨_, rfl, _, rfl, out, p, by simpa using hp, rfl, rfl⟩
  obtain ⟨d, o, h1, l', p', h2, rfl, rfl⟩ := @wpF_ok (inst t12) _ _ _ _ _ main
  exact ⟨l', p', h2, h1⟩
theorem mixed_ok (p : Pot) (l : List Nat) (hl : l.length ≤ 1000) : ∃ (l' : List Nat) (p' : Pot), l'.Perm l ∧ s12 [po p, .lst false (natsD l)] = .ret (.lst true (natsD l')) [po p'] := mixedG (f := fun k : Nat => D.int (k : Int)) (fun _ => rfl) (fun _ => rfl) p l hl



theorem F13_11 : @Fns.F (inst t13) 11 = s11 := rfl
theorem F13_12 : @Fns.F (inst t13) 12 = s12 := rfl
theorem sign_at {x : PySem.Str} {n : Nat} (hn : x.cps.toList.length = n) (hx : x.length ≤ 1000) (ha : x.cps.toList.all (fun c => !isDg c) = true) {r : Int} (h0 : 0 ≤ r) (h1 : r < n) : ∃ c, isDg c = false ∧ idxS (.str x) (.int r) = some (.str (chS c)) := by
  obtain ⟨k, rfl⟩ := nth_nat h0
  have hk : k < x.cps.toList.length := by omega
  have e : atI x.cps.toList (k : Int) = some x.cps.toList[k] := atI_nat (List.getElem?_eq_getElem hk)
  refine ⟨x.cps.toList[k], by simpa using List.all_eq_true.mp ha _ (List.getElem_mem hk), ?_⟩
  show (if x.length ≤ lim then (match atI x.cps.toList (k : Int) with
      | some c => some (D.str ⟨#[c]⟩)
      | none => none) else none) = _
  rw [if_pos (by show _ ≤ 16777216; omega), e]
  rfl
def noDg (x : PySem.Str) : Prop := x.cps.toList.all (fun c => !isDg c) = true
theorem noDg_app {x y : PySem.Str} (h1 : noDg x) (h2 : noDg y) : noDg (x ++ y) := by
  unfold noDg at *
  rw [app_cps, List.all_append, h1, h2]
  rfl
theorem noDg_ch {c : Nat} (h : isDg c = false) : noDg (chS c) := by
  show ([c].all fun c => !isDg c) = true
  simp [h]
theorem filt {x : PySem.Str} {k : Nat} (h : noDg x) (hk : k < 80) : (x ++ PySem.Str.ofString (toString (k : Int))).cps.toList.filter isDg = dgs k := by
  rw [app_cps, List.filter_append]
  have e1 : x.cps.toList.filter isDg = [] := by
    rw [List.filter_eq_nil_iff]
    intro c hc
    have := List.all_eq_true.mp h c hc
    simpa using this
  have e2 : (dgs k).filter isDg = dgs k := List.filter_eq_self.mpr (List.all_eq_true.mp (dgs_all k hk))
  rw [e1]
  exact e2
theorem pair_pick {l : List D} {a b r : Int} (h0 : 0 ≤ r) (h1 : r < l.length) (hP : ∀ d ∈ l, ∃ i : Int, d = .int i ∧ a ≤ i ∧ i ≤ b) : ∃ i : Int, O2.idx.sem (.lst true l) (.int r) = some (.int i) ∧ a ≤ i ∧ i ≤ b := by
  obtain ⟨d, h, i, rfl, h2, h3⟩ := pickL (o := true) h0 h1 hP
  exact ⟨i, h, h2, h3⟩
theorem names_ok (p : Pot) (many : Nat) (hm : many ≤ 80) : ∃ (l : List PySem.Str) (p' : Pot), l.length = many ∧ l.Nodup ∧ s13 [po p, .int (many : Int)] = .ret (.lst false (l.map D.str)) [po p'] := by
  have main : @wpF (inst t13) n13.length io13 b13 [po p, .int (many : Int)] (fun d o => ∃ (l : List PySem.Str) (p' : Pot), l.length = many ∧ l.Nodup ∧ d = .lst false (l.map D.str) ∧ o = [po p']) := by
    obtain ⟨st, p1, s0', s1', dt⟩ := pour_ex p 4 (by omega) (by omega)
    obtain ⟨hb, hq, hb0, hb1⟩ := pair_pick (l := [.int 0, .int 0, .int 1, .int 5]) (a := 0) (b := 5) s0' s1' (fun d hd => by
      simp at hd
      rcases hd with rfl | rfl | rfl
      · exact ⟨_, rfl, by decide, by decide⟩
      · exact ⟨_, rfl, by decide, by decide⟩
      · exact ⟨_, rfl, by decide, by decide⟩)
    obtain ⟨ks, p2, hperm, mt⟩ := mixed_ok p1 (List.range many) (by simp; omega)
    have kl : ks.length = many := by rw [hperm.length_eq, List.length_range]
    have klt : ∀ k ∈ ks, k < many := fun k hk => List.mem_range.mp (hperm.mem_iff.mp hk)
    repeat (first | refine ⟨_, rfl, ?_⟩ | refine ⟨rfl, ?_⟩ | refine ⟨⟨rfl, Nat.le_of_ble_eq_true rfl⟩, ?_⟩ | refine ⟨Nat.le_of_ble_eq_true rfl, ?_⟩)
    refine ⟨_, _, dt, _, rfl, _, hq, rfl, ?_⟩
    refine ⟨(Nat.le_of_ble_eq_true rfl), _, rfl, _, rfl, rfl, _, rng1 (j := (many : Int)) (by omega) (by omega), ?_⟩
    rw [show ((many : Nat) : Int).toNat = many by omega]
    refine ⟨by rw [rng_len]; show _ ≤ 16777216; omega, _, rfl, .lst true (natsD ks), [po p2], by rw [rng_nats0]; show @Fns.F (inst t13) 12 [po p1, .lst false (fzDs (natsD (List.range many)))] = _; rw [nats_fz]; exact fe F13_12 mt, _, rfl, natsD ks, congrArg some (nats_fz ks), ?_⟩
    refine ⟨fun i ρ => ∃ (p : Pot) (nl : List PySem.Str) (e6 e7 e8 : Option D), nl.length = i ∧ (∀ (k : Nat) (s : PySem.Str), nl[k]? = some s → ∃ n : Nat, ks[k]? = some n ∧ s.cps.toList.filter isDg = dgs n) ∧ ρ = [some (po p), some (.int (many : Int)), some (.str "acdefghijkmnopqrstuvwxyz"), some (.str "gjkqvwxyz"), some (.int hb), some (.lst true (nl.map D.str)), e6, e7, e8], ⟨p2, [], _, _, _, rfl, fun k s h => by simp at h, rfl⟩, ?_, ?_⟩
    · rintro i d ρ hd ⟨p, nl, e6, e7, e8, rfl, hn, rfl⟩
      obtain ⟨k, hk, rfl⟩ := map_get hd
      have hk80 : k < 80 := by have := klt k (List.mem_of_getElem? hk); omega
      obtain ⟨r, p3, r0, r1, rt⟩ := pour_ex p 24 (by omega) (by omega)
      obtain ⟨c, hc, hci⟩ := sign_at (x := "acdefghijkmnopqrstuvwxyz") (n := 24) (by decide +kernel) (by decide +kernel) (by decide +kernel) r0 r1
      obtain ⟨q, p4, q0, q1, qt⟩ := pour_ex p3 6 (by omega) (by omega)
      refine ⟨_, rfl, ⟨_, rfl⟩, _, rfl, _, rfl, _, rfl, _, rfl, _, _, rt, _, rfl, _, _, rfl, hci, rfl, ?_⟩
      refine ⟨_, rfl, rfl, _, rfl, _, rfl, _, _, qt, _, rfl, .int (if q < hb then q else hb), rfl, _, rng1 (j := if q < hb then q else hb) (by split <;> omega) (by split <;> omega), ?_⟩
      refine ⟨fun j ρ => ∃ (p : Pot) (w : PySem.Str) (e8 : Option D), noDg w ∧ w.length ≤ j + 1 ∧ ρ = [some (po p), some (.int (many : Int)), some (.str "acdefghijkmnopqrstuvwxyz"), some (.str "gjkqvwxyz"), some (.int hb), some (.lst true (nl.map D.str)), some (.int (k : Int)), some (.str w), e8], ⟨p4, chS c, _, noDg_ch hc, Nat.le_refl 1, rfl⟩, ?_, ?_⟩
      · rintro j d ρ hd ⟨p, w, e8, hw, hwl, rfl⟩
        obtain ⟨rfl, hj⟩ := rng_get _ _ _ _ hd
        obtain ⟨r, p5, r0, r1, rt⟩ := pour_ex p 9 (by omega) (by omega)
        obtain ⟨c2, hc2, hci2⟩ := sign_at (x := "gjkqvwxyz") (n := 9) (by decide +kernel) (by decide +kernel) (by decide +kernel) r0 r1
        have hj6 : j < 6 := by
          have : (if q < hb then q else hb).toNat ≤ 5 := by split <;> omega
          omega
        refine ⟨_, rfl, _, rfl, rfl, ⟨_, rfl⟩, _, rfl, _, rfl, _, rfl, _, rfl, _, _, rt, _, rfl, _, _, rfl, hci2, .str (w ++ chS c2), if_pos ?_, ?_⟩
        · show w.length + 1 ≤ 16777216
          omega
        · exact ⟨p5, w ++ chS c2, _, noDg_app hw (noDg_ch hc2), by rw [app_len]; show w.length + 1 ≤ _; omega, rfl⟩
      · rintro ρ ⟨p, w, e8, hw, hwl, rfl⟩
        rw [rng_len] at hwl
        have hwl : w.length ≤ 6 := by
          have : (if q < hb then q else hb).toNat ≤ 5 := by split <;> omega
          omega
        have hd2 := dgs_len k hk80
        have hd3 : (PySem.Str.ofString (toString (k : Int))).length ≤ 2 := by
          have : (dgs k).length = (PySem.Str.ofString (toString (k : Int))).length := Array.length_toList
          omega
        have hnl : nl.length < many := by
          have := (List.getElem?_eq_some_iff.mp hk).1
          omega
        refine ⟨rfl, _, rfl, _, rfl, _, str_nat k (by omega), .str (w ++ PySem.Str.ofString (toString (k : Int))), if_pos (by show _ ≤ 16777216; omega), _, rfl, by rw [List.length_map]; show _ < 16777216; omega, ?_⟩
        refine ⟨p, nl ++ [w ++ PySem.Str.ofString (toString (k : Int))], _, _, _, by simp, fun j s hj => ?_, by rw [List.map_append]; rfl⟩
        by_cases hjl : j < nl.length
        · rw [List.getElem?_append_left hjl] at hj
          exact hn j s hj
        · have : j = nl.length := by
            have := (List.getElem?_eq_some_iff.mp hj).1
            rw [List.length_append] at this
            simp at this
            omega
          subst this
          rw [List.getElem?_append_right (Nat.le_refl _), Nat.sub_self] at hj
          cases hj
          exact ⟨k, hk, filt hw hk80⟩
    · rintro ρ ⟨p, nl, e6, e7, e8, hnl, hn, rfl⟩
      have hnl : nl.length = many := by rw [hnl]; show (natsD ks).length = _; rw [nats_len, kl]
      have nd : nl.Nodup := by
        refine List.pairwise_iff_getElem.mpr fun i j hi hj hij e => ?_
        obtain ⟨n1, h1, e1⟩ := hn i nl[i] (by simp [hi])
        obtain ⟨n2, h2, e2⟩ := hn j nl[j] (by simp [hj])
        rw [← e, e1] at e2
        have l1 := klt n1 (List.mem_of_getElem? h1)
        have l2 := klt n2 (List.mem_of_getElem? h2)
        have := dgs_inj n1 (by omega) n2 (by omega) e2
        subst this
        obtain ⟨g1, fA1⟩ := List.getElem?_eq_some_iff.mp h1
        obtain ⟨g2, fA2⟩ := List.getElem?_eq_some_iff.mp h2
        exact (List.pairwise_iff_getElem.mp (hperm.nodup_iff.mpr List.nodup_range)) i j g1 g2 hij (fA1.trans fA2.symm)
      obtain ⟨l', hp, hs⟩ := sort_strs nl (by omega)
      refine ⟨_, rfl, _, hs, _, rfl, l', p, by rw [hp.length_eq, hnl], hp.nodup_iff.mpr nd, ?_, rfl⟩
      exact congrArg (D.lst false) (strs_fz l')
  obtain ⟨d, o, h1, l, p', h2, h3, rfl, rfl⟩ := @wpF_ok (inst t13) _ _ _ _ _ main
  exact ⟨l, p', h2, h3, h1⟩



theorem pour_at {l : List FSem} {k : Nat} (h : @Fns.F (inst l) k = s11) (p : Pot) (m : Int) (h0 : 0 < m) (h1 : m < 18446744073709551616) : ∃ r p', 0 ≤ r ∧ r < m ∧ @Fns.F (inst l) k [po p, .int m] = .ret (.int r) [po p'] := by
  obtain ⟨r, p', a, b, c⟩ := pour_ex p m h0 h1
  exact ⟨r, p', a, b, fe h c⟩
theorem pour_n {l : List FSem} {k : Nat} (h : @Fns.F (inst l) k = s11) (p : Pot) (m : Nat) (h0 : 0 < m) (h1 : m ≤ 1000000) : ∃ (r : Nat) (p' : Pot), r < m ∧ @Fns.F (inst l) k [po p, .int (m : Int)] = .ret (.int (r : Int)) [po p'] := by
  obtain ⟨r, p', a, b, c⟩ := pour_at h p (m : Int) (by omega) (by omega)
  obtain ⟨n, rfl⟩ := nth_nat a
  exact ⟨n, p', by omega, c⟩
abbrev Tie := Nat × Nat
def tD2 (t : Tie) : D := .tup [.int (t.1 : Int), .int (t.2 : Int)]
def okTs (ts : List Tie) (n : Nat) : Prop := ∀ t ∈ ts, t.1 < t.2 ∧ t.2 < n
def tsD (ts : List Tie) : D := .lst false (ts.map tD2)
def rsD (rs : List Int) : D := .lst false (rs.map D.int)
theorem t_at {o : Bool} {ts : List Tie} {k : Nat} (h : k < ts.length) : O2.idx.sem (.lst o (ts.map tD2)) (.int (k : Int)) = some (tD2 (ts.getD k (0, 0))) := atI_nat (by rw [List.getElem?_map, List.getElem?_eq_getElem h, List.getD_eq_getElem?_getD, List.getElem?_eq_getElem h]; rfl)
theorem r_at {o : Bool} {rs : List Int} {k : Nat} (h : k < rs.length) : O2.idx.sem (.lst o (rs.map D.int)) (.int (k : Int)) = some (.int (rs.getD k 0)) := atI_nat (getD_at h)
theorem t_mem {ts : List Tie} {k : Nat} (h : k < ts.length) : ts.getD k (0, 0) ∈ ts := by
  rw [List.getD_eq_getElem?_getD, List.getElem?_eq_getElem h]
  exact List.getElem_mem h
def nr (v m : Int) : Int := if m < 2 * (v % m) then v % m - m else v % m
theorem nr_ok {v m : Int} (hm : 0 < m) : s3 [.int v, .int m] = .ret (.int (nr v m)) [] := by
  refine @wpF_eq (inst t3) n3.length io3 b3 _ _ _ ?_
  refine ⟨_, rfl, _, rfl, _, mod_k hm, ?_⟩
  refine ⟨_, rfl, _, mul_l (by omega) (by omega), _, rfl, _, rfl, _, rfl, (fun z => ?_), fun z => ?_⟩
  · have z := of_decide_eq_true z
    exact ⟨_, rfl, _, rfl, _, rfl, _, rfl, by unfold nr; rw [if_pos z], rfl⟩
  · have z := of_decide_eq_false z
    exact ⟨_, rfl, rfl, _, rfl, by unfold nr; rw [if_neg z], rfl⟩
def stp (m : Int) (rs : List Int) (t : Tie) : Int := nr (rs.getD t.2 0 - rs.getD t.1 0) m
theorem stp_ok {m : Int} {rs : List Int} {t : Tie} (hm : 0 < m) (h1 : t.1 < rs.length) (h2 : t.2 < rs.length) : s18 [.int m, rsD rs, tD2 t] = .ret (.int (stp m rs t)) [] := by
  refine @wpF_eq (inst t18) n18.length io18 b18 _ _ _ ?_
  refine ⟨_, rfl, _, rfl, _, rfl, _, r_at h2, _, rfl, _, rfl, _, rfl, _, r_at h1, _, rfl, _, rfl, _, rfl, _, mod_k hm, ?_⟩
  refine ⟨_, rfl, _, mul_l (by omega) (by omega), _, rfl, _, rfl, _, rfl, (fun z => ?_), fun z => ?_⟩
  · have z := of_decide_eq_true z
    exact ⟨_, rfl, _, rfl, _, rfl, _, rfl, by unfold stp nr; rw [if_pos z], rfl⟩
  · have z := of_decide_eq_false z
    exact ⟨_, rfl, rfl, _, rfl, by unfold stp nr; rw [if_neg z], rfl⟩
/-! ### scenes -/
structure Scn where
  m : Int
  rs : List Int
  ts : List Tie
  nl : List PySem.Str
  tl : List Ti
  m0 : 0 < m
  m1 : m ≤ 10000
  nd : nl.Nodup
  nn : nl.length = rs.length
  rl : rs.length ≤ 80
  tll : ts.length ≤ 80
  tt : tl.length = ts.length
  ok : okTs ts rs.length
  ends : ∀ (k : Nat) t, tl[k]? = some t → okT (plOf nl rs nl.length) t ∧ ts[k]? = some (t.iu, t.iv)
def Scn.chart (s : Scn) : D := chD s.m ((plOf s.nl s.rs s.nl.length).map pcD) s.tl
theorem F14_13 : @Fns.F (inst t14) 13 = s13 := rfl
theorem F14_11 : @Fns.F (inst t14) 11 = s11 := rfl
theorem names_at {l : List FSem} {k : Nat} (h : @Fns.F (inst l) k = s13) (p : Pot) (many : Nat) (hm : many ≤ 80) : ∃ (nl : List PySem.Str) (p' : Pot), nl.length = many ∧ nl.Nodup ∧ @Fns.F (inst l) k [po p, .int (many : Int)] = .ret (.lst false (nl.map D.str)) [po p'] := by
  obtain ⟨nl, p', a, b, c⟩ := names_ok p many hm
  exact ⟨nl, p', a, b, fe h c⟩
theorem pick_o {l : List D} {r : Int} (h0 : 0 ≤ r) (h1 : r < l.length) (h : ∀ d ∈ l, ∃ o, d = oD o) : ∃ o, O2.idx.sem (.lst true l) (.int r) = some (oD o) := by
  obtain ⟨d, hd, o, rfl⟩ := pickL (o := true) h0 h1 h
  exact ⟨o, hd⟩
theorem o_frz (o : Option Int) : frzD (oD o) = true := by cases o <;> rfl
theorem s_at {l : List PySem.Str} {i : Nat} (h : i < l.length) : O2.idx.sem (.lst false (l.map D.str)) (.int (i : Int)) = some (.str (l.getD i "")) := strs_at (by rw [List.getD_eq_getElem?_getD, List.getElem?_eq_getElem h]; rfl)
theorem chart_ok (p : Pot) {m : Int} {rs : List Int} {ts : List Tie} (m0 : 0 < m) (m1 : m ≤ 10000) (rl : rs.length ≤ 80) (tll : ts.length ≤ 80) (ok : okTs ts rs.length) : ∃ (s : Scn) (p' : Pot), s.m = m ∧ s.rs = rs ∧ s.ts = ts ∧ s14 [po p, .int m, rsD rs, tsD ts] = .ret s.chart [po p'] := by
  have main : @wpF (inst t14) n14.length io14 b14 [po p, .int m, rsD rs, tsD ts] (fun d l => ∃ (s : Scn) (p' : Pot), s.m = m ∧ s.rs = rs ∧ s.ts = ts ∧ d = s.chart ∧ l = [po p']) := by
    obtain ⟨nl, p1, nlen, nd, hn⟩ := names_at F14_13 p rs.length rl
    obtain ⟨wl, p2, wlen, _, hw⟩ := names_at F14_13 p1 ts.length tll
    refine ⟨_, rfl, _, rfl, _, len_map D.int rs false, _, rfl, _, _, hn, _, rfl, ?_⟩
    refine ⟨_, rfl, _, rfl, _, len_map tD2 ts false, _, rfl, _, _, hw, _, rfl, ?_⟩
    refine ⟨_, rfl, _, len_map D.str nl false, _, rng1 (by omega) (by omega), ?_⟩
    refine ⟨fun i acc ρ => acc = ((List.range i).map fun k => pcD (nl.getD k "", rs.getD k 0)) ∧ ρ = [some (po p2), some (.int m), some (rsD rs), some (tsD ts), some (.lst false (nl.map D.str)), some (.lst false (wl.map D.str)), none, none, none, none, none], ⟨rfl, rfl⟩, ?_, ?_⟩
    · rintro i d acc ρ hd ⟨rfl, rfl⟩
      obtain ⟨rfl, hi⟩ := rng_get _ _ _ _ hd
      have hi : i < nl.length := by omega
      rw [Int.zero_add]
      refine ⟨_, rfl, (fun _ => ?_), fun z => nomatch z⟩
      refine ⟨_, rfl, _, rfl, _, s_at hi, rfl, _, rfl, _, rfl, _, r_at (by omega), rfl, ⟨rfl, (Nat.le_of_ble_eq_true rfl)⟩, ?_, rfl⟩
      rw [List.range_succ, List.map_append]
      rfl
    · rintro acc ρ ⟨rfl, rfl⟩
      rw [rng_len, show ((nl.length : Nat) : Int).toNat = nl.length by omega]
      refine ⟨by rw [List.length_map, List.length_range]; show _ ≤ 16777216; omega, ?_⟩
      have ep : ((List.range nl.length).map fun k => pcD (nl.getD k "", rs.getD k 0)) = (plOf nl rs nl.length).map pcD := by unfold plOf; rw [List.map_map]; rfl
      refine ⟨_, tuple_k (by rw [ep]; exact pc_frz _), (Nat.le_of_ble_eq_true rfl), ?_⟩
      refine ⟨_, rfl, _, len_map tD2 ts false, _, rng1 (by omega) (by omega), ?_⟩
      refine ⟨fun i ρ => ∃ (p : Pot) (tl : List Ti) (d8 d9 d10 : Option D), tl.length = i ∧ (∀ (k : Nat) t, tl[k]? = some t → okT (plOf nl rs nl.length) t ∧ ts[k]? = some (t.iu, t.iv)) ∧ ρ = [some (po p), some (.int m), some (rsD rs), some (tsD ts), some (.lst false (nl.map D.str)), some (.lst false (wl.map D.str)), some (.tup ((List.range nl.length).map fun k => pcD (nl.getD k "", rs.getD k 0))), some (.lst true (tl.map tiD)), d8, d9, d10], ⟨p2, [], _, _, _, rfl, (fun k t h => by simp at h), rfl⟩, ?_, ?_⟩
      · rintro i d ρ hd ⟨p, tl, d8, d9, d10, hl, ht, rfl⟩
        obtain ⟨rfl, hi⟩ := rng_get _ _ _ _ hd
        have hi : i < ts.length := by omega
        rw [Int.zero_add]
        obtain ⟨a, p1, a0, a1, ha⟩ := pour_at F14_11 p 90 (by omega) (by omega)
        obtain ⟨b, p2, b0, b1, hb⟩ := pour_at F14_11 p1 2 (by omega) (by omega)
        obtain ⟨lo, hlo⟩ := pick_o (l := [.non, .int (-7 - a)]) b0 b1 (by
          intro d hd
          simp only [List.mem_cons, List.not_mem_nil, or_false] at hd
          rcases hd with rfl | rfl
          · exact ⟨none, rfl⟩
          · exact ⟨some _, rfl⟩)
        obtain ⟨c, p3, c0, c1, hc⟩ := pour_at F14_11 p2 90 (by omega) (by omega)
        obtain ⟨e, p4, e0, e1, he⟩ := pour_at F14_11 p3 2 (by omega) (by omega)
        obtain ⟨hi', hhi⟩ := pick_o (l := [.non, .int (7 + c)]) e0 e1 (by
          intro d hd
          simp only [List.mem_cons, List.not_mem_nil, or_false] at hd
          rcases hd with rfl | rfl
          · exact ⟨none, rfl⟩
          · exact ⟨some _, rfl⟩)
        obtain ⟨ou, ov⟩ := ok _ (t_mem hi)
        refine ⟨_, rfl, ?_⟩
        refine ⟨_, rfl, _, rfl, _, rfl, _, _, ha, _, rfl, _, rfl, (Nat.le_of_ble_eq_true rfl), _, rfl, _, rfl, _, _, hb, _, rfl, _, hlo, o_frz lo, ?_⟩
        refine ⟨_, rfl, _, rfl, _, _, hc, _, rfl, _, rfl, (Nat.le_of_ble_eq_true rfl), _, rfl, _, rfl, _, _, he, _, rfl, _, hhi, o_frz hi', ?_⟩
        refine ⟨rfl, _, rfl, _, rfl, _, s_at (by omega), rfl, _, rfl, _, rfl, _, rfl, _, t_at hi, _, rfl, _, s_at (i := (ts.getD i (0, 0)).1) (by omega), rfl, _, rfl, _, rfl, _, rfl, _, t_at hi, _, rfl, _, s_at (i := (ts.getD i (0, 0)).2) (by omega), rfl, _, rfl, o_frz lo, _, rfl, o_frz hi', ⟨rfl, (Nat.le_of_ble_eq_true rfl)⟩, ⟨?_, (Nat.le_of_ble_eq_true rfl)⟩, _, rfl, by rw [List.length_map]; show _ < 16777216; omega, ?_⟩
        · show (true && (true && (true && (frzD (oD lo) && (frzD (oD hi') && (true && true)))))) = true
          rw [o_frz, o_frz]
          rfl
        · refine ⟨p4, tl ++ [⟨wl.getD i "", nl.getD (ts.getD i (0, 0)).1 "", nl.getD (ts.getD i (0, 0)).2 "", lo, hi', [], (ts.getD i (0, 0)).1, (ts.getD i (0, 0)).2⟩], _, _, _, by simp [hl], fun k t h => ?_, by rw [List.map_append]; rfl⟩
          by_cases hk : k < tl.length
          · rw [List.getElem?_append_left hk] at h
            exact ht k t h
          · rw [List.getElem?_append_right (by omega)] at h
            have hk2 : k - tl.length = 0 := by
              cases hh : k - tl.length with
              | zero => rfl
              | succ n => rw [hh] at h; simp at h
            rw [hk2] at h
            cases h
            have e : k = i := by omega
            subst e
            have g : ∀ j, j < nl.length → nl[j]? = some (nl.getD j "") := fun j hj => by rw [List.getD_eq_getElem?_getD, List.getElem?_eq_getElem hj]; rfl
            refine ⟨⟨⟨_, plOf_at (g _ (show (ts.getD k (0, 0)).1 < nl.length by omega))⟩, ⟨_, plOf_at (g _ (show (ts.getD k (0, 0)).2 < nl.length by omega))⟩⟩, ?_⟩
            show ts[k]? = some (ts.getD k (0, 0))
            rw [List.getD_eq_getElem?_getD, List.getElem?_eq_getElem hi]
            rfl
      · rintro ρ ⟨p, tl, d8, d9, d10, hl, ht, rfl⟩
        rw [rng_len] at hl
        have hl : tl.length = ts.length := by omega
        refine ⟨_, rfl, rfl, _, rfl, rfl, _, rfl, _, tuple_k (ti_frz tl), ⟨rfl, (Nat.le_of_ble_eq_true rfl)⟩, _, rfl, ⟨m, rs, ts, nl, tl, m0, m1, nd, nlen, rl, tll, hl, ok, ht⟩, p, rfl, rfl, rfl, ?_, rfl⟩
        unfold Scn.chart chD
        rw [← ep]
  obtain ⟨d, l, h1, s, p', e1, e2, e3, rfl, rfl⟩ := @wpF_ok (inst t14) _ _ _ _ _ main
  exact ⟨s, p', e1, e2, e3, h1⟩


theorem F15_11 : @Fns.F (inst t15) 11 = s11 := rfl
theorem F16_11 : @Fns.F (inst t16) 11 = s11 := rfl
theorem F17_11 : @Fns.F (inst t17) 11 = s11 := rfl
theorem F20_11 : @Fns.F (inst t20) 11 = s11 := rfl
theorem F22_18 : @Fns.F (inst t22) 18 = s18 := rfl
theorem mod_ok (p : Pot) : ∃ (m : Int) (p' : Pot), 0 < m ∧ m ≤ 10000 ∧ s15 [po p] = .ret (.int m) [po p'] := by
  have main : @wpF (inst t15) n15.length io15 b15 [po p] (fun d l => ∃ (m : Int) (p' : Pot), 0 < m ∧ m ≤ 10000 ∧ d = .int m ∧ l = [po p']) := by
    obtain ⟨a, p1, a0, a1, ha⟩ := pour_at F15_11 p 6 (by omega) (by omega)
    obtain ⟨b, p2, b0, b1, hb⟩ := pour_at F15_11 p1 9 (by omega) (by omega)
    obtain ⟨c, p3, c0, c1, hc⟩ := pour_at F15_11 p2 10000 (by omega) (by omega)
    obtain ⟨k, p4, k0, k1, hk⟩ := pour_at F15_11 p3 6 (by omega) (by omega)
    obtain ⟨d1, hd1, m, rfl, m0, m1⟩ := pickL (o := true) (l := [.int 1, .int 2, .int (2 + 2 * a), .int (3 + b), .int 10000, .int (1 + c)]) (r := k) (P := fun d => ∃ m : Int, d = .int m ∧ 0 < m ∧ m ≤ 10000) k0 k1 (by
      intro d hd
      simp only [List.mem_cons, List.not_mem_nil, or_false] at hd
      rcases hd with rfl | rfl | rfl | rfl | rfl | rfl <;> exact ⟨_, rfl, by omega, by omega⟩)
    exact ⟨_, rfl, _, rfl, _, _, ha, _, rfl, _, mul_l (by omega) (by omega), _, rfl, _, rfl, _, rfl, _, _, hb, _, rfl, _, rfl, _, rfl, _, rfl, _, _, hc, _, rfl, _, rfl, (Nat.le_of_ble_eq_true rfl), _, rfl, _, rfl, _, _, hk, _, rfl, _, hd1, rfl, _, rfl, m, p4, m0, m1, rfl, rfl⟩
  obtain ⟨d, l, h1, m, p', m0, m1, rfl, rfl⟩ := @wpF_ok (inst t15) _ _ _ _ _ main
  exact ⟨m, p', m0, m1, h1⟩
theorem read_ok (p : Pot) {m : Int} {n : Nat} (m0 : 0 < m) (m1 : m ≤ 10000) (hn : n ≤ 80) : ∃ (rs : List Int) (p' : Pot), rs.length = n ∧ s16 [po p, .int m, .int (n : Int)] = .ret (rsD rs) [po p'] := by
  have main : @wpF (inst t16) n16.length io16 b16 [po p, .int m, .int (n : Int)] (fun d l => ∃ (rs : List Int) (p' : Pot), rs.length = n ∧ d = rsD rs ∧ l = [po p']) := by
    obtain ⟨h, p1, h0, h1, hh⟩ := pour_at F16_11 p 4 (by omega) (by omega)
    refine ⟨_, rfl, _, rfl, _, _, hh, _, rfl, (Nat.le_of_ble_eq_true rfl), ?_⟩
    refine ⟨_, rfl, rfl, _, rng1 (by omega) (by omega), ?_⟩
    refine ⟨fun i ρ => ∃ (rs : List Int) (p : Pot) (d5 d6 : Option D), rs.length = i ∧ ρ = [some (po p), some (.int m), some (.int (n : Int)), some (.int h), some (.lst true (rs.map D.int)), d5, d6], ⟨[], p1, _, _, rfl, rfl⟩, ?_, ?_⟩
    · rintro i d ρ hd ⟨rs, p, d5, d6, hl, rfl⟩
      obtain ⟨rfl, hi⟩ := rng_get _ _ _ _ hd
      have hmin : 0 < (if (3 : Int) < m then 3 else m) ∧ (if (3 : Int) < m then 3 else m) < 18446744073709551616 := by split <;> omega
      obtain ⟨a, p1, a0, a1, ha⟩ := pour_at F16_11 p _ hmin.1 hmin.2
      obtain ⟨b, p2, b0, b1, hb⟩ := pour_at F16_11 p1 m (by omega) (by omega)
      obtain ⟨d1, hd1, x, rfl⟩ := pickL (o := true) (l := [.int b, .int (a % 2 * (m / 2)), .int a, .int (m - 1 - a)]) (r := h) (P := fun d => ∃ x : Int, d = .int x) h0 h1 (by
        intro d hd
        simp only [List.mem_cons, List.not_mem_nil, or_false] at hd
        rcases hd with rfl | rfl | rfl | rfl <;> exact ⟨_, rfl⟩)
      refine ⟨_, rfl, ?_⟩
      refine ⟨_, rfl, _, rfl, _, rfl, _, rfl, _, _, ha, _, rfl, ?_⟩
      refine ⟨rfl, _, rfl, _, rfl, rfl, _, rfl, _, _, hb, _, rfl, _, rfl, _, rfl, _, mod_k (by omega), _, rfl, _, fdiv_k (by omega) (by omega), _, mul_l (by have := Int.emod_nonneg a (show (2:Int) ≠ 0 by omega); omega) (by have := Int.emod_lt_of_pos a (show (0:Int) < 2 by omega); omega), _, rfl, rfl, _, rfl, _, rfl, _, rfl, _, rfl, (Nat.le_of_ble_eq_true rfl), _, rfl, _, hd1, rfl, _, rfl, by rw [List.length_map]; show _ < 16777216; omega, ?_⟩
      exact ⟨rs ++ [x], p2, _, _, by simp [hl], by rw [List.map_append]; rfl⟩
    · rintro ρ ⟨rs, p, d5, d6, hl, rfl⟩
      rw [rng_len] at hl
      exact ⟨_, rfl, _, rfl, rs, p, by omega, congrArg (D.lst false) (fz_map rs), rfl⟩
  obtain ⟨d, l, h1, rs, p', hl, rfl, rfl⟩ := @wpF_ok (inst t16) _ _ _ _ _ main
  exact ⟨rs, p', hl, h1⟩
theorem tD2_fz (t : Tie) : fzD (tD2 t) = tD2 t := rfl
theorem ties_ok (p : Pot) {n k : Nat} (hn : n ≤ 80) (hk : k ≤ 80) (h2 : 0 < k → 2 ≤ n) : ∃ (ts : List Tie) (p' : Pot), ts.length = k ∧ okTs ts n ∧ s17 [po p, .int (n : Int), .int (k : Int)] = .ret (tsD ts) [po p'] := by
  have main : @wpF (inst t17) n17.length io17 b17 [po p, .int (n : Int), .int (k : Int)] (fun d l => ∃ (ts : List Tie) (p' : Pot), ts.length = k ∧ okTs ts n ∧ d = tsD ts ∧ l = [po p']) := by
    refine ⟨(Nat.le_of_ble_eq_true rfl), ?_⟩
    refine ⟨_, rfl, rfl, _, rng1 (by omega) (by omega), ?_⟩
    refine ⟨fun i ρ => ∃ (ts : List Tie) (p : Pot) (d4 d5 d6 d7 : Option D), ts.length = i ∧ okTs ts n ∧ ρ = [some (po p), some (.int (n : Int)), some (.int (k : Int)), some (.lst true (ts.map tD2)), d4, d5, d6, d7], ⟨[], p, _, _, _, _, rfl, (fun t h => absurd h List.not_mem_nil), rfl⟩, ?_, ?_⟩
    · rintro i d ρ hd ⟨ts, p, d4, d5, d6, d7, hl, ok, rfl⟩
      obtain ⟨rfl, hi⟩ := rng_get _ _ _ _ hd
      have hn2 : 2 ≤ n := h2 (by omega)
      obtain ⟨a, p1, a1, ha⟩ := pour_n F17_11 p n (by omega) (by omega)
      obtain ⟨b, p2, b1, hb⟩ := pour_n F17_11 p1 (n - 1) (by omega) (by omega)
      obtain ⟨c, p3, c1, hc⟩ := pour_n F17_11 p2 5 (by omega) (by omega)
      rw [show ((n - 1 : Nat) : Int) = (n : Int) - 1 by omega] at hb
      -- the other end
      obtain ⟨o, ho, hon, hoa⟩ : ∃ o : Nat, (b : Int) + (if decide ((a : Int) ≤ (b : Int)) = true then 1 else 0) = (o : Int) ∧ o < n ∧ o ≠ a := by
        by_cases z : (a : Int) ≤ (b : Int)
        · rw [if_pos (decide_eq_true z)]; exact ⟨b + 1, by omega, by omega, by omega⟩
        · rw [if_neg (by simpa using z)]; exact ⟨b, by omega, by omega, by omega⟩
      refine ⟨_, rfl, ?_⟩
      refine ⟨_, rfl, _, rfl, rfl, _, rfl, _, _, ha, _, rfl, ?_⟩
      refine ⟨_, rfl, _, rfl, _, rfl, _, rfl, _, _, hb, _, rfl, ?_⟩
      refine ⟨_, rfl, _, rfl, _, rfl, _, rfl, _, rfl, _, rfl, ?_⟩
      have stage : ∀ x : Int, x = (o : Int) → @wpSs (inst t17) (dropS 3 (bodyS (dropS 1 b17))) [some (po p2), some (.int (n : Int)), some (.int (k : Int)), some (.lst true (ts.map tD2)), some (.int (0 + (i : Int))), some (.int (a : Int)), some (.int x), d7] (fun f ρ => match f with
          | .nx => ∃ (ts : List Tie) (p : Pot) (d4 d5 d6 d7 : Option D), ts.length = i + 1 ∧ okTs ts n ∧ ρ = [some (po p), some (.int (n : Int)), some (.int (k : Int)), some (.lst true (ts.map tD2)), d4, d5, d6, d7]
          | .ct => ∃ (ts : List Tie) (p : Pot) (d4 d5 d6 d7 : Option D), ts.length = i + 1 ∧ okTs ts n ∧ ρ = [some (po p), some (.int (n : Int)), some (.int (k : Int)), some (.lst true (ts.map tD2)), d4, d5, d6, d7]
          | .bk => False
          | .rt v => False) := by
        rintro x rfl
        have fin : ∀ (p : Pot) (ag : Bool), (ag = true → ts ≠ []) → @wpSs (inst t17) (dropS 4 (bodyS (dropS 1 b17))) [some (po p), some (.int (n : Int)), some (.int (k : Int)), some (.lst true (ts.map tD2)), some (.int (0 + (i : Int))), some (.int (a : Int)), some (.int (o : Int)), some (.bl ag)] (fun f ρ => match f with
          | .nx => ∃ (ts : List Tie) (p : Pot) (d4 d5 d6 d7 : Option D), ts.length = i + 1 ∧ okTs ts n ∧ ρ = [some (po p), some (.int (n : Int)), some (.int (k : Int)), some (.lst true (ts.map tD2)), d4, d5, d6, d7]
          | .ct => ∃ (ts : List Tie) (p : Pot) (d4 d5 d6 d7 : Option D), ts.length = i + 1 ∧ okTs ts n ∧ ρ = [some (po p), some (.int (n : Int)), some (.int (k : Int)), some (.lst true (ts.map tD2)), d4, d5, d6, d7]
          | .bk => False
          | .rt v => False) := by
          intro p ag hag
          have add : ∀ (t : Tie), t.1 < t.2 ∧ t.2 < n → okTs (ts ++ [t]) n := fun t ht u hu => by
            rcases List.mem_append.mp hu with hu | hu
            · exact ok u hu
            · rw [List.mem_singleton.mp hu]; exact ht
          refine ⟨rfl, _, rfl, _, rfl, (fun z => ?_), fun z => ?_⟩
          · have hne := hag z
            obtain ⟨r, p', r1, hr⟩ := pour_n F17_11 p ts.length (List.length_pos_iff.mpr hne) (by omega)
            refine ⟨⟨_, rfl⟩, _, rfl, _, rfl, _, len_map tD2 ts true, _, rfl, _, _, hr, _, rfl, _, _, rfl, t_at (o := true) r1, rfl, _, rfl, by rw [List.length_map]; show _ < 16777216; omega, ?_⟩
            exact ⟨ts ++ [ts.getD r (0, 0)], p', _, _, _, _, by simp [hl], add _ (ok _ (t_mem r1)), by rw [List.map_append]; rfl⟩
          · refine ⟨_, rfl, _, rfl, _, rfl, _, rfl, _, rfl, _, rfl, ⟨rfl, (Nat.le_of_ble_eq_true rfl)⟩, _, rfl, by rw [List.length_map]; show _ < 16777216; omega, ?_⟩
            rcases Nat.lt_or_gt_of_ne hoa with q | q
            · refine ⟨ts ++ [(o, a)], p, some (.int (0 + (i : Int))), some (.int (a : Int)), some (.int (o : Int)), some (.bl ag), by simp [hl], add (o, a) ⟨q, a1⟩, ?_⟩
              show [_, _, _, some (D.lst true (ts.map tD2 ++ [D.tup [.int (if (o : Int) < (a : Int) then (o : Int) else (a : Int)), .int (if (o : Int) > (a : Int) then (o : Int) else (a : Int))]])), _, _, _, _] = _
              rw [List.map_append, if_pos (show (o : Int) < (a : Int) by omega), if_neg (show ¬ (o : Int) > (a : Int) by omega)]
              rfl
            · refine ⟨ts ++ [(a, o)], p, some (.int (0 + (i : Int))), some (.int (a : Int)), some (.int (o : Int)), some (.bl ag), by simp [hl], add (a, o) ⟨q, hon⟩, ?_⟩
              show [_, _, _, some (D.lst true (ts.map tD2 ++ [D.tup [.int (if (o : Int) < (a : Int) then (o : Int) else (a : Int)), .int (if (o : Int) > (a : Int) then (o : Int) else (a : Int))]])), _, _, _, _] = _
              rw [List.map_append, if_neg (show ¬ (o : Int) < (a : Int) by omega), if_pos (show (o : Int) > (a : Int) by omega)]
              rfl
        refine ⟨_, rfl, _, rfl, _, _, hc, _, rfl, _, rfl, _, rfl, (fun _ => ?_), fun z => ?_⟩
        · refine ⟨_, rfl, _, len_map tD2 ts true, _, rfl, ?_⟩
          refine fin _ _ fun z => ?_
          have z := of_decide_eq_true z
          intro e
          rw [e] at z
          simp at z
        · refine fin _ _ fun q => ?_
          rw [q] at z
          cases z
      exact stage _ ho
    · rintro ρ ⟨ts, p, d4, d5, d6, d7, hl, ok, rfl⟩
      rw [rng_len] at hl
      exact ⟨_, rfl, _, rfl, ts, p, by omega, ok, congrArg (D.lst false) (fzs_map tD2_fz ts), rfl⟩
  obtain ⟨d, l, h1, ts, p', hl, ok, rfl, rfl⟩ := @wpF_ok (inst t17) _ _ _ _ _ main
  exact ⟨ts, p', hl, ok, h1⟩


/-! ### heights, turns -/
def liftsOf (m : Int) (rs hs : List Int) : Prop := hs.length = rs.length ∧ ∀ k, k < rs.length → ∃ q : Int, hs.getD k 0 = rs.getD k 0 + m * q
theorem getD_snoc_l {l : List Int} {x : Int} {j : Nat} (h : j < l.length) : (l ++ [x]).getD j 0 = l.getD j 0 := by
  rw [List.getD_eq_getElem?_getD, List.getElem?_append_left h, ← List.getD_eq_getElem?_getD]
theorem getD_snoc_r {l : List Int} {x : Int} : (l ++ [x]).getD l.length 0 = x := by
  rw [List.getD_eq_getElem?_getD, List.getElem?_append_right (Nat.le_refl _), Nat.sub_self]
  rfl
theorem heights_ok (p : Pot) {m : Int} {rs : List Int} (m0 : 0 < m) (m1 : m ≤ 10000) (rl : rs.length ≤ 80) : ∃ (hs : List Int) (p' : Pot), liftsOf m rs hs ∧ s20 [po p, .int m, rsD rs] = .ret (landD hs) [po p'] := by
  have main : @wpF (inst t20) n20.length io20 b20 [po p, .int m, rsD rs] (fun d l => ∃ (hs : List Int) (p' : Pot), liftsOf m rs hs ∧ d = landD hs ∧ l = [po p']) := by
    obtain ⟨k, p1, k0, k1, hk⟩ := pour_at F20_11 p 3 (by omega) (by omega)
    have hq : 0 ≤ 400000000 / m ∧ 400000000 / m ≤ 400000000 := ⟨Int.ediv_nonneg (by omega) (by omega), Int.ediv_le_self _ (by omega)⟩
    obtain ⟨d1, hd1, w, rfl, w0, w1⟩ := pickL (o := true) (l := [.int 2, .int 3, .int (400000000 / m)]) (r := k) (P := fun d => ∃ m : Int, d = .int m ∧ 0 ≤ m ∧ m ≤ 400000000) k0 k1 (by
      intro d hd
      simp only [List.mem_cons, List.not_mem_nil, or_false] at hd
      rcases hd with rfl | rfl | rfl <;> exact ⟨_, rfl, by omega, by omega⟩)
    refine ⟨_, rfl, _, fdiv_k m0 (by omega), (Nat.le_of_ble_eq_true rfl), _, rfl, _, rfl, _, _, hk, _, rfl, _, hd1, rfl, ?_⟩
    refine ⟨_, rfl, _, rfl, ?_⟩
    refine ⟨fun i acc ρ => ∃ (hs : List Int) (p : Pot), hs.length = i ∧ (∀ k, k < i → ∃ q : Int, hs.getD k 0 = rs.getD k 0 + m * q) ∧ acc = hs.map D.int ∧ ρ = [some (po p), some (.int m), some (rsD rs), some (.int w), none], ⟨[], p1, rfl, (fun k h => absurd h (Nat.not_lt_zero _)), rfl, rfl⟩, ?_, ?_⟩
    · rintro i d acc ρ hd ⟨hs, p, hl, hq, rfl, rfl⟩
      obtain ⟨x, hx, rfl⟩ := map_get hd
      obtain ⟨a, p1, a0, a1, ha⟩ := pour_at F20_11 p (2 * w + 1) (by omega) (by omega)
      refine ⟨_, rfl, (fun _ => ?_), fun z => nomatch z⟩
      refine ⟨_, rfl, rfl, _, rfl, rfl, _, rfl, _, rfl, _, mul_l (by omega) (by omega), _, rfl, _, rfl, _, _, ha, _, rfl, _, rfl, _, rfl, _, mul_l (by omega) (by omega), _, rfl, ?_⟩
      have ex : rs.getD i 0 = x := by rw [List.getD_eq_getElem?_getD, hx]; rfl
      refine ⟨hs ++ [x + m * (a - w)], p1, by simp [hl], fun j hj => ?_, by rw [List.map_append]; rfl, rfl⟩
      by_cases q : j < hs.length
      · rw [getD_snoc_l q]
        exact hq j (by omega)
      · have : j = hs.length := by omega
        subst this
        rw [getD_snoc_r, hl, ex]
        exact ⟨a - w, rfl⟩
    · rintro acc ρ ⟨hs, p, hl, hq, rfl, rfl⟩
      rw [List.length_map] at hl hq
      refine ⟨by rw [List.length_map]; show _ ≤ 16777216; omega, ?_⟩
      exact ⟨_, tuple_k (ints_frz hs), _, rfl, hs, p, ⟨hl, hq⟩, rfl, rfl⟩
  obtain ⟨d, l, h1, hs, p', hl, rfl, rfl⟩ := @wpF_ok (inst t20) _ _ _ _ _ main
  exact ⟨hs, p', hl, h1⟩
def turnsOf (m : Int) (rs : List Int) (ts : List Tie) (hs : List Int) : List Int := ts.map fun t => (hs.getD t.2 0 - hs.getD t.1 0 - stp m rs t) / m
theorem turns_ok {m : Int} {rs hs : List Int} {ts : List Tie} (m0 : 0 < m) (m1 : m ≤ 10000) (hh : hs.length = rs.length) (tl : ts.length ≤ 80) (ok : okTs ts rs.length) : s22 [.int m, rsD rs, tsD ts, landD hs] = .ret (.lst true ((turnsOf m rs ts hs).map D.int)) [] := by
  refine @wpF_eq (inst t22) n22.length io22 b22 _ _ _ ?_
  refine ⟨(Nat.le_of_ble_eq_true rfl), _, rfl, _, rfl, ?_⟩
  refine ⟨fun i ρ => ∃ d5, ρ = [some (.int m), some (rsD rs), some (tsD ts), some (landD hs), some (.lst true ((turnsOf m rs (ts.take i) hs).map D.int)), d5], ⟨_, rfl⟩, ?_, ?_⟩
  · rintro i d ρ hd ⟨d5, rfl⟩
    obtain ⟨t, ht, rfl⟩ := map_get hd
    have hi := (List.getElem?_eq_some_iff.mp ht).1
    obtain ⟨o1, o2⟩ := ok t (List.mem_of_getElem? ht)
    refine ⟨_, rfl, rfl, _, rfl, _, rfl, _, rfl, _, land_at (by omega), _, rfl, _, rfl, _, rfl, _, land_at (by omega), _, rfl, _, rfl, rfl, _, rfl, rfl, _, rfl, rfl, _, rfl, _, _, fe F22_18 (stp_ok m0 (by omega) (by omega)), _, rfl, _, rfl, _, rfl, _, fdiv_k m0 (by omega), _, rfl, ?_, ?_⟩
    · unfold turnsOf
      rw [List.length_map, List.length_map, List.length_take]
      show _ < 16777216
      omega
    · refine ⟨some (tD2 t), ?_⟩
      unfold turnsOf
      rw [take_map ht, List.map_append]
      rfl
  · rintro ρ ⟨d5, rfl⟩
    rw [List.length_map, List.take_length]
    exact ⟨_, rfl, _, rfl, rfl, rfl⟩
/-! ### the same -/
def nice : Nat → D → Bool
  | 0, _ => false
  | _ + 1, .non => true
  | _ + 1, .int _ => true
  | n + 1, .tup xs => decide (xs.length ≤ 1000) && xs.all (nice n)
  | _ + 1, _ => false
theorem nice_frz {n : Nat} {d : D} (h : nice n d = true) : frzD d = true := by
  cases n with
  | zero => cases h
  | succ n => cases d <;> first | rfl | cases h
theorem Frec (r : FSem) : @Fns.F (tabF (t21 ++ [r])) 21 = r := rfl
theorem ne_same (n : Int) : notS (eqS (.int n) (.int n)) = some (.bl false) := by
  show some (D.bl (!decide (n = n))) = _
  rw [decide_eq_true rfl]
  rfl
theorem same_rec : ∀ (m : Nat) (d : D), nice m d = true → recF n21.length io21 b21 t21 m [d, d] = .ret (.bl true) []
  | 0, d, h => by cases h
  | m + 1, d, h => by
    show @runFn (tabF (t21 ++ [recF n21.length io21 b21 t21 m])) n21.length io21 b21 [d, d] = _
    refine @wpF_eq (tabF (t21 ++ [recF n21.length io21 b21 t21 m])) n21.length io21 b21 _ _ _ ?_
    cases d with
    | non => exact ⟨_, rfl, _, rfl, true, rfl, (fun _ => ⟨_, rfl, _, rfl, _, rfl, rfl, rfl⟩), fun z => nomatch z⟩
    | int i =>
      refine ⟨_, rfl, _, rfl, false, rfl, (fun z => nomatch z), fun _ => ?_⟩
      refine ⟨_, rfl, _, rfl, true, rfl, (fun _ => ?_), fun z => nomatch z⟩
      exact ⟨_, rfl, _, rfl, true, rfl, (fun _ => ⟨_, rfl, _, rfl, _, rfl, true, rfl, (fun _ => ⟨_, rfl, _, rfl, _, rfl, _, rfl, congrArg D.bl (decide_eq_true rfl), rfl⟩), fun z => nomatch z⟩), fun z => nomatch z⟩
    | tup xs =>
      have h : (decide (xs.length ≤ 1000) && xs.all (nice m)) = true := h
      rw [Bool.and_eq_true] at h
      have hl := of_decide_eq_true h.1
      refine ⟨_, rfl, _, rfl, false, rfl, (fun z => nomatch z), fun _ => ?_⟩
      refine ⟨_, rfl, _, rfl, false, rfl, (fun z => nomatch z), fun _ => ?_⟩
      refine ⟨_, rfl, _, rfl, _, rfl, false, rfl, (fun z => nomatch z), fun _ => ⟨_, rfl, _, rfl, _, rfl, _, rfl, .bl false, ne_same _, false, rfl, (fun z => nomatch z), fun _ => ?_⟩⟩
      refine ⟨_, rfl, _, rfl, _, rng1 (by omega) (by omega), ?_⟩
      refine ⟨fun i ρ => ∃ d2, ρ = [some (.tup xs), some (.tup xs), d2], ⟨_, rfl⟩, ?_, ?_⟩
      · rintro i d ρ hd ⟨d2, rfl⟩
        obtain ⟨rfl, hi⟩ := rng_get _ _ _ _ hd
        rw [show ((xs.length : Nat) : Int).toNat = xs.length by omega] at hi
        have hx : xs[i]? = some xs[i] := List.getElem?_eq_getElem hi
        have hn := List.all_eq_true.mp h.2 xs[i] (List.getElem_mem hi)
        have ix : O2.idx.sem (.tup xs) (.int (0 + (i : Int))) = some xs[i] := by rw [Int.zero_add]; exact atI_nat hx
        refine ⟨_, rfl, ?_⟩
        refine ⟨_, rfl, _, rfl, _, ix, nice_frz hn, _, rfl, _, rfl, _, ix, nice_frz hn, [xs[i], xs[i]], ?_, .bl true, [], ?_, _, rfl, _, rfl, false, rfl, (fun z => nomatch z), fun _ => ⟨_, rfl⟩⟩
        · show (if frzD xs[i] = true then (match (if frzD xs[i] = true then some [xs[i]] else none) with | some l => some (xs[i] :: l) | none => none) else none) = _
          rw [if_pos (nice_frz hn), if_pos (nice_frz hn)]
        · rw [Frec]
          exact same_rec m _ hn
      · rintro ρ ⟨d2, rfl⟩
        exact ⟨_, rfl, rfl, rfl⟩
    | _ => cases h
theorem same_ok {d : D} (h : nice 16 d = true) : s21 [d, d] = .ret (.bl true) [] := same_rec 16 d h
theorem all_nice {α : Type} {f : α → D} {n : Nat} (h : ∀ x, nice n (f x) = true) (l : List α) : (l.map f).all (nice n) = true := by
  rw [List.all_eq_true]
  intro d hd
  obtain ⟨x, _, rfl⟩ := List.mem_map.mp hd
  exact h x
theorem nice_map {α : Type} {f : α → D} (h : ∀ x, nice 15 (f x) = true) {l : List α} (hl : l.length ≤ 1000) : nice 16 (.tup (l.map f)) = true := by
  show (decide ((l.map f).length ≤ 1000) && (l.map f).all (nice 15)) = true
  rw [all_nice h, List.length_map, decide_eq_true hl]
  rfl
theorem nice_o (n : Nat) (o : Option Int) : nice (n + 1) (oD o) = true := by cases o <;> rfl
/-! ### steps, differences -/
theorem F4_1 : @Fns.F (inst t4) 1 = s1 := rfl
theorem F4_3 : @Fns.F (inst t4) 3 = s3 := rfl
theorem F2_1 : @Fns.F (inst t2) 1 = s1 := rfl
def Scn.ends' (s : Scn) : D := .lst false (s.tl.map endD)
theorem Scn.end_eq (s : Scn) {i : Nat} {t : Ti} (h : s.tl[i]? = some t) : endD t = tD2 (s.ts.getD i (0, 0)) := by
  have e := (s.ends i t h).2
  rw [List.getD_eq_getElem?_getD, e]
  rfl
theorem Scn.end_map (s : Scn) : s.tl.map endD = s.ts.map tD2 := by
  apply List.ext_getElem?
  intro i
  rw [List.getElem?_map, List.getElem?_map]
  cases h : s.tl[i]? with
  | none =>
    have : s.ts[i]? = none := by
      rw [List.getElem?_eq_none_iff] at h ⊢
      rw [← s.tt]
      exact h
    rw [this]
    rfl
  | some t =>
    rw [(s.ends i t h).2]
    rfl
theorem Scn.pn (s : Scn) : (plOf s.nl s.rs s.nl.length).length = s.rs.length := by rw [plOf_len, s.nn]
theorem Scn.ends_ok (s : Scn) : s1 [s.chart] = .ret (.lst false (s.ts.map tD2)) [] := by
  rw [← s.end_map]
  exact Hd.ends_ok s.m (plOf s.nl s.rs s.nl.length) s.tl (by rw [plOf_names]; exact s.nd) (by rw [s.pn]; have := s.rl; omega) (by rw [s.tt]; have := s.tll; omega) fun t ht => by
    obtain ⟨i, hi, e⟩ := List.mem_iff_getElem.mp ht
    exact (s.ends i t (by rw [List.getElem?_eq_getElem hi, e])).1
theorem Scn.pl_at (s : Scn) {k : Nat} (h : k < s.rs.length) : O2.idx.sem (.tup ((plOf s.nl s.rs s.nl.length).map pcD)) (.int (k : Int)) = some (pcD (s.nl.getD k "", s.rs.getD k 0)) := atI_nat (by
  have hk : s.nl[k]? = some (s.nl.getD k "") := by rw [List.getD_eq_getElem?_getD, List.getElem?_eq_getElem (by rw [s.nn]; exact h)]; rfl
  rw [List.getElem?_map, plOf_at hk]
  rfl)
def Scn.sts (s : Scn) : List Int := s.ts.map (stp s.m s.rs)
theorem Scn.steps_ok (s : Scn) : s4 [s.chart] = .ret (.lst false (s.sts.map D.int)) [] := by
  have m0 := s.m0
  refine @wpF_eq (inst t4) n4.length io4 b4 _ _ _ ?_
  refine ⟨_, rfl, _, rfl, rfl, ?_⟩
  refine ⟨_, rfl, rfl, _, rfl, _, _, fe F4_1 s.ends_ok, _, rfl, _, rfl, ?_⟩
  refine ⟨fun i acc ρ => acc = ((s.ts.take i).map (stp s.m s.rs)).map D.int ∧ ρ = [some s.chart, some (.tup ((plOf s.nl s.rs s.nl.length).map pcD)), none, none], ⟨rfl, rfl⟩, ?_, ?_⟩
  · rintro i d acc ρ hd ⟨rfl, rfl⟩
    obtain ⟨t, ht, rfl⟩ := map_get hd
    obtain ⟨o1, o2⟩ := s.ok t (List.mem_of_getElem? ht)
    refine ⟨_, rfl, (fun _ => ?_), fun z => nomatch z⟩
    refine ⟨_, rfl, _, rfl, _, s.pl_at o2, _, rfl, _, rfl, _, rfl, _, s.pl_at (by omega), _, rfl, _, rfl, _, rfl, _, rfl, rfl, _, rfl, _, _, fe F4_3 (nr_ok m0), _, rfl, ?_, rfl⟩
    rw [take_map ht, List.map_append]
    rfl
  · rintro acc ρ ⟨rfl, rfl⟩
    have e0 : (s.ts.map tD2).length = s.ts.length := List.length_map _
    rw [e0, List.take_length]
    refine ⟨by rw [List.length_map, List.length_map]; have := s.tll; show _ ≤ 16777216; omega, ?_⟩
    exact ⟨_, rfl, congrArg (D.lst false) (fz_map s.sts), rfl⟩
theorem F5_4 : @Fns.F (inst t5) 4 = s4 := rfl
theorem sts_len (s : Scn) : s.sts.length = s.ts.length := List.length_map _
theorem sts_at (s : Scn) {k : Nat} (h : k < s.ts.length) : s.sts.getD k 0 = stp s.m s.rs (s.ts.getD k (0, 0)) := by
  unfold Scn.sts
  rw [List.getD_eq_getElem?_getD, List.getElem?_map, List.getD_eq_getElem?_getD, List.getElem?_eq_getElem h]
  rfl
theorem Scn.step_ok (s : Scn) {k : Nat} (h : k < s.ts.length) : s5 [s.chart, .int (k : Int)] = .ret (.int (stp s.m s.rs (s.ts.getD k (0, 0)))) [] := by
  refine @wpF_eq (inst t5) n5.length io5 b5 _ _ _ ?_
  refine ⟨_, rfl, rfl, _, rfl, _, _, fe F5_4 s.steps_ok, _, rfl, _, rfl, _, ints_at (by rw [sts_len]; exact h), rfl, _, rfl, ?_, rfl⟩
  rw [sts_at s h]
theorem Scn.diff_ok (s : Scn) {hs : List Int} (hl : hs.length = s.rs.length) : s2 [s.chart, landD hs] = .ret (.lst false ((s.ts.map fun t => hs.getD t.2 0 - hs.getD t.1 0).map D.int)) [] := by
  refine @wpF_eq (inst t2) n2.length io2 b2 _ _ _ ?_
  refine ⟨_, rfl, rfl, _, rfl, _, _, fe F2_1 s.ends_ok, _, rfl, _, rfl, ?_⟩
  refine ⟨fun i acc ρ => acc = ((s.ts.take i).map fun t => hs.getD t.2 0 - hs.getD t.1 0).map D.int ∧ ρ = [some s.chart, some (landD hs), none, none], ⟨rfl, rfl⟩, ?_, ?_⟩
  · rintro i d acc ρ hd ⟨rfl, rfl⟩
    obtain ⟨t, ht, rfl⟩ := map_get hd
    obtain ⟨o1, o2⟩ := s.ok t (List.mem_of_getElem? ht)
    refine ⟨_, rfl, (fun _ => ?_), fun z => nomatch z⟩
    refine ⟨_, rfl, _, rfl, _, land_at (by omega), _, rfl, _, rfl, _, land_at (by omega), _, rfl, ?_, rfl⟩
    rw [take_map ht, List.map_append]
    rfl
  · rintro acc ρ ⟨rfl, rfl⟩
    have e0 : (s.ts.map tD2).length = s.ts.length := List.length_map _
    rw [e0, List.take_length]
    refine ⟨by rw [List.length_map, List.length_map]; have := s.tll; show _ ≤ 16777216; omega, ?_⟩
    exact ⟨_, rfl, congrArg (D.lst false) (fz_map _), rfl⟩


/-! ### going from place to place -/
abbrev Bs := Nat × Nat × Nat
def inc (ts : List Tie) (x k : Nat) : Option Bs := if (ts.getD k (0, 0)).1 = x then some (k, 0, (ts.getD k (0, 0)).2) else if (ts.getD k (0, 0)).2 = x then some (k, 1, (ts.getD k (0, 0)).1) else none
def bes (ts : List Tie) (x k : Nat) : List Bs := (List.range k).filterMap (inc ts x)
theorem bes_succ (ts : List Tie) (x k : Nat) : bes ts x (k + 1) = bes ts x k ++ (inc ts x k).toList := by
  unfold bes
  rw [List.range_succ, List.filterMap_append]
  congr 1
abbrev Hts := List (Option Int)
structure St where
  H : Hts
  st : List Nat
def hat (H : Hts) (x : Nat) : Int := (H.getD x none).getD 0
def dif (told : List Int) (q : Bs) : Int := if q.2.1 = 0 then told.getD q.1 0 else -(told.getD q.1 0)
def oneB (told : List Int) (x : Nat) (q : Bs) (s : St) : Option St := match s.H.getD q.2.2 none with
  | none => some ⟨s.H.set q.2.2 (some (hat s.H x + dif told q)), s.st ++ [q.2.2]⟩
  | some y => if y = hat s.H x + dif told q then some s else none
def manyB (told : List Int) (x : Nat) : List Bs → St → Option St
  | [], s => some s
  | q :: l, s => (oneB told x q s).bind (manyB told x l)
theorem manyB_app (told : List Int) (x : Nat) : ∀ (l l' : List Bs) (s : St), manyB told x (l ++ l') s = (manyB told x l s).bind (manyB told x l')
  | [], l', s => rfl
  | q :: l, l', s => by
    show (oneB told x q s).bind (manyB told x (l ++ l')) = ((oneB told x q s).bind (manyB told x l)).bind (manyB told x l')
    cases oneB told x q s with
    | none => rfl
    | some s' => exact manyB_app told x l l' s'
def proc (told : List Int) (ts : List Tie) (x : Nat) (s : St) : Option St := manyB told x (bes ts x ts.length) s
def nones (H : Hts) : Nat := H.countP (·.isNone)
def meas (s : St) : Nat := 2 * nones s.H + s.st.length
theorem nones_set {x : Nat} {h : Int} : ∀ {H : Hts}, x < H.length → H.getD x none = none → nones (H.set x (some h)) + 1 = nones H
  | [], hx, _ => by simp at hx
  | o :: H, hx, e => by
    cases x with
    | zero =>
      have e : o = none := by simpa using e
      subst e
      simp [nones]
    | succ x =>
      have hx : x < H.length := by simpa using hx
      have e : H.getD x none = none := by simpa using e
      have := nones_set hx e (h := h)
      unfold nones at this ⊢
      rw [List.set_cons_succ, List.countP_cons, List.countP_cons]
      omega
/-- what stands in the list is there and has a height -/
structure Val (n : Nat) (s : St) : Prop where
  len : s.H.length = n
  st : ∀ x ∈ s.st, x < n ∧ (s.H.getD x none).isSome = true
theorem set_some {H : Hts} {x y : Nat} {h : Int} (hs : (H.getD y none).isSome = true) : ((H.set x (some h)).getD y none).isSome = true := by
  rw [List.getD_eq_getElem?_getD] at hs ⊢
  rw [List.getElem?_set]
  by_cases e : x = y
  · subst e
    rw [if_pos rfl]
    split
    · rfl
    · rename_i hl
      rw [List.getElem?_eq_none (by omega)] at hs
      cases hs
  · rw [if_neg e]
    exact hs
theorem set_at {H : Hts} {x : Nat} {h : Int} (hx : x < H.length) : (H.set x (some h)).getD x none = some h := by
  rw [List.getD_eq_getElem?_getD, List.getElem?_set_self hx]
  rfl
theorem set_ne {H : Hts} {x y : Nat} {h : Int} (e : x ≠ y) : (H.set x (some h)).getD y none = H.getD y none := by
  rw [List.getD_eq_getElem?_getD, List.getElem?_set_ne e, ← List.getD_eq_getElem?_getD]
theorem one_val {n : Nat} {told : List Int} {x : Nat} {q : Bs} {s s' : St} (v : Val n s) (hq : q.2.2 < n) (h : oneB told x q s = some s') : Val n s' ∧ meas s' ≤ meas s ∧ (∀ y, (s.H.getD y none).isSome = true → s'.H.getD y none = s.H.getD y none) := by
  unfold oneB at h
  split at h
  · rename_i e
    cases h
    have hl : q.2.2 < s.H.length := by rw [v.len]; exact hq
    refine ⟨⟨by rw [List.length_set]; exact v.len, fun y hy => ?_⟩, ?_, fun y hy => ?_⟩
    · rcases List.mem_append.mp hy with hy | hy
      · exact ⟨(v.st y hy).1, set_some (v.st y hy).2⟩
      · rw [List.mem_singleton.mp hy, set_at hl]
        exact ⟨hq, rfl⟩
    · have := nones_set hl e (h := hat s.H x + dif told q)
      unfold meas
      dsimp only
      rw [List.length_append, List.length_singleton]
      omega
    · refine set_ne fun z => ?_
      rw [← z, e] at hy
      cases hy
  · split at h
    · cases h
      exact ⟨v, Nat.le_refl _, fun y _ => rfl⟩
    · cases h
theorem many_val {n : Nat} {told : List Int} {x : Nat} : ∀ {l : List Bs} {s s' : St}, Val n s → (∀ q ∈ l, q.2.2 < n) → manyB told x l s = some s' → Val n s' ∧ meas s' ≤ meas s ∧ (∀ y, (s.H.getD y none).isSome = true → s'.H.getD y none = s.H.getD y none)
  | [], s, s', v, _, h => by cases h; exact ⟨v, Nat.le_refl _, fun _ _ => rfl⟩
  | q :: l, s, s', v, hq, h => by
    have h : (oneB told x q s).bind (manyB told x l) = some s' := h
    cases e : oneB told x q s with
    | none => rw [e] at h; cases h
    | some s1 =>
      rw [e] at h
      obtain ⟨v1, m1, k1⟩ := one_val v (hq q List.mem_cons_self) e
      obtain ⟨v2, m2, k2⟩ := many_val v1 (fun q' h' => hq q' (List.mem_cons_of_mem _ h')) h
      refine ⟨v2, Nat.le_trans m2 m1, fun y hy => ?_⟩
      rw [k2 y (by rw [k1 y hy]; exact hy), k1 y hy]
theorem bes_lt {ts : List Tie} {n x : Nat} (ok : okTs ts n) : ∀ q ∈ bes ts x ts.length, q.1 < ts.length ∧ q.2.2 < n := by
  intro q hq
  obtain ⟨k, hk, e⟩ := List.mem_filterMap.mp hq
  have hk := List.mem_range.mp hk
  obtain ⟨o1, o2⟩ := ok _ (t_mem hk)
  unfold inc at e
  split at e
  · cases e; exact ⟨hk, o2⟩
  · split at e
    · cases e; exact ⟨hk, by show (ts.getD k (0, 0)).1 < n; omega⟩
    · cases e
def dfs (told : List Int) (ts : List Tie) : Nat → St → Option St
  | 0, s => some s
  | f + 1, s => match s.st.getLast? with
    | none => some s
    | some x => (proc told ts x ⟨s.H, s.st.dropLast⟩).bind (dfs told ts f)
theorem dfs_fuel {told : List Int} {ts : List Tie} {n : Nat} (ok : okTs ts n) : ∀ (f g : Nat) (s : St), Val n s → meas s ≤ f → meas s ≤ g → dfs told ts f s = dfs told ts g s
  | 0, g, s, v, hf, hg => by
    have h0 : s.st = [] := by
      unfold meas at hf
      exact List.length_eq_zero_iff.mp (by omega)
    cases g with
    | zero => rfl
    | succ g => unfold dfs; rw [h0]; rfl
  | f + 1, 0, s, v, hf, hg => by
    have h0 : s.st = [] := by
      unfold meas at hg
      exact List.length_eq_zero_iff.mp (by omega)
    unfold dfs; rw [h0]; rfl
  | f + 1, g + 1, s, v, hf, hg => by
    unfold dfs
    cases e : s.st.getLast? with
    | none => rfl
    | some x =>
      dsimp only
      cases hp : proc told ts x ⟨s.H, s.st.dropLast⟩ with
      | none => rfl
      | some s' =>
        have hne : s.st ≠ [] := fun z => by rw [z] at e; cases e
        have hlen : s.st.dropLast.length + 1 = s.st.length := by
          rw [List.length_dropLast]
          have := List.length_pos_iff.mpr hne
          omega
        have v0 : Val n ⟨s.H, s.st.dropLast⟩ := ⟨v.len, fun y hy => v.st y (List.dropLast_subset _ hy)⟩
        obtain ⟨v1, m1, _⟩ := many_val v0 (fun q hq => (bes_lt ok q hq).2) hp
        have : meas ⟨s.H, s.st.dropLast⟩ + 1 = meas s := by unfold meas; dsimp only; omega
        exact dfs_fuel ok f g s' v1 (by omega) (by omega)
/-- one part -/
def outer (told : List Int) (ts : List Tie) (rs : List Int) (H : Hts) (x : Nat) : Option Hts :=
  if (H.getD x none).isSome = true then some H else (dfs told ts (2 * H.length + 1) ⟨H.set x (some (rs.getD x 0)), [x]⟩).map (·.H)
def parts (told : List Int) (ts : List Tie) (rs : List Int) : Nat → Option Hts
  | 0 => some (List.replicate rs.length none)
  | i + 1 => (parts told ts rs i).bind fun H => outer told ts rs H i
def landF (told : List Int) (ts : List Tie) (rs : List Int) : Option Hts := parts told ts rs rs.length
theorem parts_none {told : List Int} {ts : List Tie} {rs : List Int} {i : Nat} (h : parts told ts rs i = none) : ∀ j, parts told ts rs (i + j) = none
  | 0 => h
  | j + 1 => by
    show (parts told ts rs (i + j)).bind _ = none
    rw [parts_none h j]
    rfl
theorem land_none {told : List Int} {ts : List Tie} {rs : List Int} {i : Nat} (hi : i ≤ rs.length) (h : parts told ts rs i = none) : landF told ts rs = none := by
  have := parts_none h (rs.length - i)
  rw [show i + (rs.length - i) = rs.length by omega] at this
  exact this
theorem nones_le (H : Hts) : nones H ≤ H.length := List.countP_le_length
theorem meas_start {H : Hts} {x : Nat} {h : Int} (hx : x < H.length) (e : H.getD x none = none) : meas ⟨H.set x (some h), [x]⟩ ≤ 2 * H.length + 1 := by
  have h1 := nones_set hx e (h := h)
  have h2 := nones_le H
  unfold meas
  dsimp only [List.length_singleton]
  have : [x].length = 1 := rfl
  omega
theorem val_start {n : Nat} {H : Hts} {x : Nat} {h : Int} (hl : H.length = n) (hx : x < n) : Val n ⟨H.set x (some h), [x]⟩ := by
  refine ⟨by rw [List.length_set]; exact hl, fun y hy => ?_⟩
  rw [List.mem_singleton.mp hy, set_at (by omega)]
  exact ⟨hx, rfl⟩
/-- a turn of the inner loop -/
theorem dfs_turn {told : List Int} {ts : List Tie} {n : Nat} (ok : okTs ts n) {pre : List Nat} {x : Nat} {H : Hts} (v : Val n ⟨H, pre ++ [x]⟩) :
    (proc told ts x ⟨H, pre⟩ = none → dfs told ts (meas ⟨H, pre ++ [x]⟩) ⟨H, pre ++ [x]⟩ = none) ∧ (∀ s', proc told ts x ⟨H, pre⟩ = some s' → Val n s' ∧ meas s' < meas ⟨H, pre ++ [x]⟩ ∧ dfs told ts (meas ⟨H, pre ++ [x]⟩) ⟨H, pre ++ [x]⟩ = dfs told ts (meas s') s') := by
  have hm : meas ⟨H, pre ++ [x]⟩ = meas ⟨H, pre⟩ + 1 := by unfold meas; dsimp only; rw [List.length_append, List.length_singleton]; omega
  have e : dfs told ts (meas ⟨H, pre⟩ + 1) ⟨H, pre ++ [x]⟩ = (proc told ts x ⟨H, pre⟩).bind (dfs told ts (meas ⟨H, pre⟩)) := by
    rw [dfs]
    dsimp only
    rw [List.getLast?_concat]
    dsimp only
    rw [List.dropLast_concat]
  rw [hm, e]
  refine ⟨fun h => by rw [h]; rfl, fun s' h => ?_⟩
  have v0 : Val n ⟨H, pre⟩ := ⟨v.len, fun y hy => v.st y (List.mem_append_left _ hy)⟩
  obtain ⟨v1, m1, _⟩ := many_val v0 (fun q hq => (bes_lt ok q hq).2) h
  refine ⟨v1, by omega, ?_⟩
  rw [h]
  exact dfs_fuel ok _ _ s' v1 m1 (Nat.le_refl _)


theorem F6_2 : @Fns.F (inst t6) 2 = s2 := rfl
theorem F6_4 : @Fns.F (inst t6) 4 = s4 := rfl
theorem F7_1 : @Fns.F (inst t7) 1 = s1 := rfl
theorem F8_7 : @Fns.F (inst t8) 7 = s7 := rfl
theorem F9_4 : @Fns.F (inst t9) 4 = s4 := rfl
theorem F9_8 : @Fns.F (inst t9) 8 = s8 := rfl
theorem zip_get : ∀ (xs ys : List D) (i : Nat) (d : D), (zipD xs ys)[i]? = some d → ∃ x y, xs[i]? = some x ∧ ys[i]? = some y ∧ d = .tup [x, y]
  | [], _, i, d, h => by simp [zipD] at h
  | x :: xs, [], i, d, h => by simp [zipD] at h
  | x :: xs, y :: ys, 0, d, h => by
    have h : some (D.tup [x, y]) = some d := h
    cases h
    exact ⟨x, y, rfl, rfl, rfl⟩
  | x :: xs, y :: ys, i + 1, d, h => zip_get xs ys i d h
theorem zip_len : ∀ (xs ys : List D), xs.length = ys.length → (zipD xs ys).length = xs.length
  | [], [], _ => rfl
  | x :: xs, y :: ys, h => congrArg (· + 1) (zip_len xs ys (by simpa using h))
theorem Scn.turns_ok (s : Scn) {hs : List Int} (hl : hs.length = s.rs.length) : s6 [s.chart, landD hs] = .ret (.tup ((turnsOf s.m s.rs s.ts hs).map D.int)) [] := by
  have m0 := s.m0
  have m1 := s.m1
  refine @wpF_eq (inst t6) n6.length io6 b6 _ _ _ ?_
  refine ⟨_, rfl, rfl, _, rfl, _, _, fe F6_4 s.steps_ok, _, rfl, ?_⟩
  refine ⟨_, rfl, rfl, _, rfl, rfl, _, rfl, _, _, fe F6_2 (s.diff_ok hl), _, rfl, ?_⟩
  refine ⟨_, rfl, rfl, _, rfl, rfl, _, _, rfl, rfl, ?_⟩
  refine ⟨fun i acc ρ => acc = (turnsOf s.m s.rs (s.ts.take i) hs).map D.int ∧ ρ = [some s.chart, some (landD hs), some (.lst false (s.sts.map D.int)), some (.lst false ((s.ts.map fun t => hs.getD t.2 0 - hs.getD t.1 0).map D.int)), none, none], ⟨rfl, rfl⟩, ?_, ?_⟩
  · rintro i d acc ρ hd ⟨rfl, rfl⟩
    obtain ⟨x, y, hx, hy, rfl⟩ := zip_get _ _ _ _ hd
    obtain ⟨a, ha, rfl⟩ := map_get hx
    obtain ⟨t, ht, rfl⟩ := map_get ha
    obtain ⟨b, hb, rfl⟩ := map_get hy
    obtain ⟨t', ht', rfl⟩ := map_get hb
    rw [ht] at ht'
    cases ht'
    refine ⟨_, rfl, (fun _ => ?_), fun z => nomatch z⟩
    refine ⟨_, rfl, _, rfl, _, rfl, _, rfl, _, rfl, _, fdiv_k m0 (by omega), ?_, rfl⟩
    unfold turnsOf
    rw [take_map ht, List.map_append]
    rfl
  · rintro acc ρ ⟨rfl, rfl⟩
    have e0 : (zipD ((s.ts.map fun t => hs.getD t.2 0 - hs.getD t.1 0).map D.int) (s.sts.map D.int)).length = s.ts.length := by
      rw [zip_len _ _ (by simp [Scn.sts])]
      simp
    rw [e0, List.take_length]
    refine ⟨by unfold turnsOf; rw [List.length_map, List.length_map]; have := s.tll; show _ ≤ 16777216; omega, ?_⟩
    exact ⟨_, tuple_k (ints_frz _), _, rfl, rfl, rfl⟩
/-! ### what lies beside -/
def bD (q : Bs) : D := .tup [.int (q.1 : Int), .int (q.2.1 : Int), .int (q.2.2 : Int)]
theorem b_frz (q : Bs) : frzD (bD q) = true := rfl
theorem b_fz (q : Bs) : fzD (bD q) = bD q := rfl
theorem ixn {n x : Nat} (h : x < n) : ixN n (x : Int) = some x := by
  unfold ixN
  rw [if_pos (by omega)]
  simp [h]
theorem set_range {n a : Nat} {f : Nat → D} {d : D} : ((List.range n).map f).set a d = (List.range n).map fun x => if x = a then d else f x := by
  apply List.ext_getElem?
  intro i
  rw [List.getElem?_set, List.getElem?_map, List.length_map, List.length_range]
  by_cases hi : i < n
  · rw [List.getElem?_map, List.getElem?_range hi]
    by_cases e : a = i
    · subst e
      simp [hi]
    · rw [if_neg e]
      simp [Ne.symm e]
  · rw [List.getElem?_map, List.getElem?_eq_none (by rw [List.length_range]; omega)]
    split
    · rw [if_neg (by omega)]; rfl
    · rfl
def row (o : Bool) (ts : List Tie) (k x : Nat) : D := .lst o ((bes ts x k).map bD)
theorem bes_len (ts : List Tie) (x k : Nat) : (bes ts x k).length ≤ k := by
  have := List.length_filterMap_le (inc ts x) (List.range k)
  rw [List.length_range] at this
  exact this
theorem row_succ {ts : List Tie} {k x : Nat} {q : Bs} (h : inc ts x k = some q) : row true ts (k + 1) x = .lst true ((bes ts x k).map bD ++ [bD q]) := by
  unfold row
  rw [bes_succ, h, List.map_append]
  rfl
theorem row_same {ts : List Tie} {k x : Nat} (h : inc ts x k = none) : row true ts (k + 1) x = row true ts k x := by
  unfold row
  rw [bes_succ, h]
  simp
theorem beside_ok (s : Scn) : s7 [s.chart] = .ret (.lst false ((List.range s.rs.length).map (row false s.ts s.ts.length))) [] := by
  have tll := s.tll
  have rl := s.rl
  have pn := s.pn
  refine @wpF_eq (inst t7) n7.length io7 b7 _ _ _ ?_
  refine ⟨_, rfl, _, rfl, _, rfl, ?_⟩
  refine ⟨fun i acc ρ => acc = (List.range i).map (row true s.ts 0) ∧ ρ = [some s.chart, none, none, none, none], ⟨rfl, rfl⟩, ?_, ?_⟩
  · rintro i d acc ρ hd ⟨rfl, rfl⟩
    refine ⟨_, rfl, (fun _ => ?_), fun z => nomatch z⟩
    refine ⟨(Nat.le_of_ble_eq_true rfl), ?_, rfl⟩
    rw [List.range_succ, List.map_append]
    rfl
  · rintro acc ρ ⟨rfl, rfl⟩
    refine ⟨by rw [List.length_map, List.length_range, List.length_map, pn]; show _ ≤ 16777216; omega, ?_⟩
    have e0 : ((plOf s.nl s.rs s.nl.length).map pcD).length = s.rs.length := by rw [List.length_map, pn]
    rw [e0]
    refine ⟨_, rfl, rfl, _, rfl, _, _, fe F7_1 s.ends_ok, _, rfl, _, rfl, ?_⟩
    refine ⟨fun i ρ => ∃ d2 d3 d4, ρ = [some s.chart, some (.lst true ((List.range s.rs.length).map (row true s.ts i))), d2, d3, d4], ⟨_, _, _, rfl⟩, ?_, ?_⟩
    · rintro i d ρ hd ⟨d2, d3, d4, rfl⟩
      obtain ⟨t, ht, rfl⟩ := enum_some hd
      have hi := (List.getElem?_eq_some_iff.mp ht).1
      obtain ⟨o1, o2⟩ := s.ok t (List.mem_of_getElem? ht)
      have et : s.ts.getD i (0, 0) = t := by rw [List.getD_eq_getElem?_getD, ht]; rfl
      have h1 : inc s.ts t.1 i = some (i, 0, t.2) := by unfold inc; rw [et, if_pos rfl]
      have h2 : inc s.ts t.2 i = some (i, 1, t.1) := by unfold inc; rw [et, if_neg (by omega), if_pos rfl]
      have g1 : ((List.range s.rs.length).map (row true s.ts i))[t.1]? = some (row true s.ts i t.1) := by rw [List.getElem?_map, List.getElem?_range (by omega)]; rfl
      have g2 : ((List.range s.rs.length).map fun x => if x = t.1 then row true s.ts (i + 1) t.1 else row true s.ts i x)[t.2]? = some (row true s.ts i t.2) := by
        rw [List.getElem?_map, List.getElem?_range (by omega)]
        show some (if t.2 = t.1 then _ else _) = _
        rw [if_neg (by omega)]
      have bl : ∀ x, (bes s.ts x i).length ≤ i := fun x => bes_len s.ts x i
      have a1 : appF (bD (i, 0, t.2)) ((bes s.ts t.1 i).map bD) = some ((), (bes s.ts t.1 i).map bD ++ [bD (i, 0, t.2)]) := if_pos (by rw [List.length_map]; have := bl t.1; show _ < 16777216; omega)
      have a2 : appF (bD (i, 1, t.1)) ((bes s.ts t.2 i).map bD) = some ((), (bes s.ts t.2 i).map bD ++ [bD (i, 1, t.1)]) := if_pos (by rw [List.length_map]; have := bl t.2; show _ < 16777216; omega)
      have fz : ∀ (l : List Bs) (q : Bs), (l.map bD ++ [bD q]).all frzD = true := fun l q => by
        have : l.map bD ++ [bD q] = (l ++ [q]).map bD := by rw [List.map_append]; rfl
        rw [this]
        exact all_frz b_frz _
      have p1 := onP_at (i := 1) (k := ((t.1 : Nat) : Int)) (ρ := [some s.chart, some (.lst true ((List.range s.rs.length).map (row true s.ts i))), some (.int (i : Int)), some (tD2 t), d4]) rfl (ixn (by rw [List.length_map, List.length_range]; omega)) g1 (all_frz b_frz _) a1 (fz _ _)
      rw [← row_succ h1, set_range] at p1
      have p2 := onP_at (i := 1) (k := ((t.2 : Nat) : Int)) (ρ := [some s.chart, some (.lst true ((List.range s.rs.length).map fun x => if x = t.1 then row true s.ts (i + 1) t.1 else row true s.ts i x)), some (.int (i : Int)), some (tD2 t), d4]) rfl (ixn (by rw [List.length_map, List.length_range]; omega)) g2 (all_frz b_frz _) a2 (fz _ _)
      rw [← row_succ h2, set_range] at p2
      have q1 : isP [some s.chart, some (.lst true ((List.range s.rs.length).map (row true s.ts i))), some (.int (i : Int)), some (tD2 t), d4] 1 ((t.1 : Nat) : Int) = true := by
        unfold isP
        show (match ixN ((List.range s.rs.length).map (row true s.ts i)).length ((t.1 : Nat) : Int) with | some n => _ | none => false) = true
        rw [ixn (by rw [List.length_map, List.length_range]; omega)]
        dsimp only
        rw [g1]
        rfl
      have q2 : isP [some s.chart, some (.lst true ((List.range s.rs.length).map fun x => if x = t.1 then row true s.ts (i + 1) t.1 else row true s.ts i x)), some (.int (i : Int)), some (tD2 t), d4] 1 ((t.2 : Nat) : Int) = true := by
        unfold isP
        show (match ixN ((List.range s.rs.length).map fun x => if x = t.1 then row true s.ts (i + 1) t.1 else row true s.ts i x).length ((t.2 : Nat) : Int) with | some n => _ | none => false) = true
        rw [ixn (by rw [List.length_map, List.length_range]; omega)]
        dsimp only
        rw [g2]
        rfl
      refine ⟨_, rfl, ?_⟩
      refine ⟨rfl, _, rfl, _, rfl, _, rfl, q1, _, rfl, rfl, _, rfl, _, rfl, rfl, ⟨rfl, (Nat.le_of_ble_eq_true rfl)⟩, _, p1, ?_⟩
      refine ⟨rfl, _, rfl, _, rfl, _, rfl, q2, _, rfl, rfl, _, rfl, _, rfl, rfl, ⟨rfl, (Nat.le_of_ble_eq_true rfl)⟩, _, p2, ?_⟩
      refine ⟨some (.int (i : Int)), some (tD2 t), d4, ?_⟩
      have : ((List.range s.rs.length).map fun x => if x = t.2 then row true s.ts (i + 1) t.2 else if x = t.1 then row true s.ts (i + 1) t.1 else row true s.ts i x) = (List.range s.rs.length).map (row true s.ts (i + 1)) := by
        apply List.map_congr_left
        intro x _
        by_cases e2 : x = t.2
        · rw [if_pos e2, e2]
        · rw [if_neg e2]
          by_cases e1 : x = t.1
          · rw [if_pos e1, e1]
          · rw [if_neg e1, row_same]
            unfold inc
            rw [et, if_neg (Ne.symm e1), if_neg (Ne.symm e2)]
      rw [← this]
      rfl
    · rintro ρ ⟨d2, d3, d4, rfl⟩
      rw [enum_len, List.length_map]
      refine ⟨_, rfl, _, rfl, ?_, rfl⟩
      show D.lst false (fzDs _) = _
      have : ∀ l : List Nat, fzDs (l.map (row true s.ts s.ts.length)) = l.map (row false s.ts s.ts.length) := fun l => by
        induction l with
        | nil => rfl
        | cons x l ih =>
          show D.lst false (fzDs ((bes s.ts x s.ts.length).map bD)) :: fzDs (l.map _) = _
          rw [ih, fzs_map b_fz]
          rfl
      rw [this]


def hsD (o : Bool) (H : Hts) : D := .lst o (H.map oD)
def outD : Option Hts → D
  | none => .non
  | some H => .tup (H.map oD)
theorem h_at {o : Bool} {H : Hts} {x : Nat} (h : x < H.length) : O2.idx.sem (hsD o H) (.int (x : Int)) = some (oD (H.getD x none)) := atI_nat (by rw [List.getElem?_map, List.getElem?_eq_getElem h, List.getD_eq_getElem?_getD, List.getElem?_eq_getElem h]; rfl)
theorem h_frz (H : Hts) : (H.map oD).all frzD = true := all_frz o_frz H
theorem h_set (H : Hts) (x : Nat) (h : Int) : (H.map oD).set x (.int h) = (H.set x (some h)).map oD := by rw [List.map_set]; rfl
theorem pop_nats {pre : List Nat} {x : Nat} : popF (natsD (pre ++ [x])) = some (.int (x : Int), natsD pre) := by
  unfold popF
  rw [nats_app]
  have e : (natsD pre ++ natsD [x])[(natsD pre ++ natsD [x]).length - 1]? = some (.int (x : Int)) := by
    rw [List.length_append]
    show (natsD pre ++ [D.int (x : Int)])[(natsD pre).length + 1 - 1]? = _
    rw [Nat.add_sub_cancel, List.getElem?_append_right (Nat.le_refl _), Nat.sub_self]
    rfl
  rw [e]
  dsimp only
  rw [if_pos (show frzD (D.int (x : Int)) = true from rfl)]
  show some (_, (natsD pre ++ [D.int (x : Int)]).dropLast) = _
  rw [List.dropLast_concat]
theorem nats_emp (l : List Nat) : truth (.lst true (natsD l)) = some (!l.isEmpty) := by cases l <;> rfl
theorem split_last {l : List Nat} (h : l.isEmpty = false) : ∃ pre x, l = pre ++ [x] := by
  have hne : l ≠ [] := by intro e; subst e; cases h
  exact ⟨l.dropLast, l.getLast hne, (List.dropLast_concat_getLast hne).symm⟩
def letK (n : Nat) : List Key := (List.range n).map fun k : Nat => (Sum.inl (k : Int) : Key)
def letD (n : Nat) : D := .dk true (letK n) (List.replicate n (.bl true))
theorem look_let : ∀ (l : List Nat) (k : Nat), k ∈ l → (look (.inl (k : Int) : Key) (l.map fun k : Nat => (Sum.inl (k : Int) : Key)) (List.replicate l.length (.bl true))).isSome = true
  | j :: l, k, h => by
    show (if (Sum.inl (j : Int) : Key) = .inl (k : Int) then some (D.bl true) else look (Sum.inl (k : Int) : Key) (l.map fun k : Nat => (Sum.inl (k : Int) : Key)) (List.replicate l.length (.bl true))).isSome = true
    by_cases e : j = k
    · subst e; rw [if_pos rfl]; rfl
    · rw [if_neg fun z => e (by have z : (j : Int) = (k : Int) := Sum.inl.inj z; omega)]
      exact look_let l k (by rcases List.mem_cons.mp h with h | h; exact absurd h.symm e; exact h)
theorem let_in {n k : Nat} (h : k < n) : O2.notIn.sem (.int (k : Int)) (letD n) = some (.bl false) := by
  have := look_let (List.range n) k (List.mem_range.mpr h)
  rw [List.length_range] at this
  show notS (some (D.bl (look (.inl (k : Int) : Key) (letK n) (List.replicate n (.bl true))).isSome)) = _
  unfold letK
  rw [this]
  rfl
theorem fz_bl : ∀ n, fzDs (List.replicate n (D.bl true)) = List.replicate n (D.bl true)
  | 0 => rfl
  | n + 1 => congrArg (D.bl true :: ·) (fz_bl n)
theorem put_let (n : Nat) : put (.inl (n : Int) : Key) (.bl true) (letK n) (List.replicate n (.bl true)) = (letK (n + 1), List.replicate (n + 1) (.bl true)) := by
  unfold put
  have : (letK n).any (fun j => decide (j = (.inl (n : Int) : Key))) = false := by
    rw [List.any_eq_false]
    intro k hk
    obtain ⟨j, hj, rfl⟩ := List.mem_map.mp hk
    have := List.mem_range.mp hj
    intro e
    have e := of_decide_eq_true e
    have e : (j : Int) = (n : Int) := Sum.inl.inj e
    omega
  rw [if_neg (by rw [this]; exact Bool.false_ne_true)]
  unfold letK
  rw [List.range_succ, List.map_append, ← List.replicate_succ']
  rfl
theorem nons (n : Nat) : (List.replicate n [D.non]).flatten = (List.replicate n (none : Option Int)).map oD := by
  induction n with
  | zero => rfl
  | succ n ih => exact congrArg (D.non :: ·) ih
theorem mul_non {n : Nat} (h : n ≤ 1000) : O2.mul.sem (.lst true [.non]) (.int (n : Int)) = some (.lst true (List.replicate n [D.non]).flatten) := by
  have c : [D.non].all frzD = true ∧ ((-9223372036854775808 : Int) ≤ (n : Int) ∧ (n : Int) < 9223372036854775808) ∧ [D.non].length * (n : Int).toNat ≤ lim := ⟨rfl, by omega, by show 1 * _ ≤ 16777216; omega⟩
  show mulS (.lst true [.non]) (.int (n : Int)) = _
  unfold mulS
  dsimp only
  rw [if_pos c]
  rfl
theorem many_take {told : List Int} {x : Nat} {l : List Bs} {s s' : St} {j : Nat} {q : Bs} (hq : l[j]? = some q) (h : manyB told x (l.take j) s = some s') : manyB told x (l.take (j + 1)) s = oneB told x q s' := by
  rw [List.take_succ, hq, manyB_app, h]
  show (oneB told x q s').bind (manyB told x []) = _
  cases oneB told x q s' <;> rfl
theorem many_none {told : List Int} {x : Nat} {l : List Bs} {s s' : St} {j : Nat} {q : Bs} (hq : l[j]? = some q) (h : manyB told x (l.take j) s = some s') (h1 : oneB told x q s' = none) : manyB told x l s = none := by
  have e := many_take hq h
  rw [h1] at e
  have := manyB_app told x (l.take (j + 1)) (l.drop (j + 1)) s
  rw [List.take_append_drop, e] at this
  exact this
theorem add_ints (a b : Int) : O2.add.sem (.int a) (.int b) = some (.int (a + b)) := rfl
theorem land_of (s : Scn) (told : List Int) (htl : told.length = s.ts.length) : s8 [s.chart, .lst false (told.map D.int), .lst false (natsD (List.range s.ts.length))] = .ret (outD (landF told s.ts s.rs)) [] := by
  have tll := s.tll
  have rl := s.rl
  have pn := s.pn
  refine @wpF_eq (inst t8) n8.length io8 b8 _ _ _ ?_
  refine ⟨_, rfl, _, rfl, ?_⟩
  refine ⟨fun i acc ρ => acc = (letK i, List.replicate i (.bl true)) ∧ ρ = [some s.chart, some (.lst false (told.map D.int)), some (.lst false (natsD (List.range s.ts.length))), none, none, none, none, none, none, none, none, none, none], ⟨rfl, rfl⟩, ?_, ?_⟩
  · rintro i d acc ρ hd ⟨rfl, rfl⟩
    have hd : ((List.range s.ts.length).map fun k : Nat => D.int (k : Int))[i]? = some d := hd
    obtain ⟨k, hk, rfl⟩ := map_get hd
    obtain ⟨hi, ek⟩ := List.getElem?_eq_some_iff.mp hk
    rw [List.getElem_range] at ek
    subst ek
    exact ⟨_, rfl, (fun _ => ⟨_, rfl, rfl, _, rfl, rfl, put_let i, rfl⟩), fun z => nomatch z⟩
  rintro acc ρ ⟨rfl, rfl⟩
  rw [nats_len, List.length_range]
  refine ⟨by unfold letK; rw [List.length_map, List.length_range]; show _ < 16777216; omega, ?_⟩
  refine ⟨_, rfl, rfl, _, rfl, _, _, fe F8_7 (beside_ok s), _, rfl, ?_⟩
  have hpl : ((plOf s.nl s.rs s.nl.length).map pcD).length = s.rs.length := by rw [List.length_map, pn]
  refine ⟨(Nat.le_of_ble_eq_true rfl), _, rfl, _, rfl, D.int (s.rs.length : Int), ?_, D.lst true ((List.replicate s.rs.length [D.non]).flatten), ?_, ?_⟩
  · show some (D.int (((plOf s.nl s.rs s.nl.length).map pcD).length : Int)) = _
    rw [hpl]
  · exact mul_non (by omega)
  rw [nons]
  refine ⟨_, rfl, _, by rw [show O1.len.sem (D.lst true ((List.replicate s.rs.length (none : Option Int)).map oD)) = some (.int (s.rs.length : Int)) by show some (D.int ((List.map oD _).length : Int)) = _; rw [List.length_map, List.length_replicate]], _, rng1 (by omega) (by omega), ?_⟩
  refine ⟨fun i ρ => ∃ (H : Hts) (d6 d7 d8 d9 d10 d11 d12 : Option D), parts told s.ts s.rs i = some H ∧ H.length = s.rs.length ∧ ρ = [some s.chart, some (.lst false (told.map D.int)), some (.lst false (natsD (List.range s.ts.length))), some (letD s.ts.length), some (.lst false ((List.range s.rs.length).map (row false s.ts s.ts.length))), some (hsD true H), d6, d7, d8, d9, d10, d11, d12], ⟨List.replicate s.rs.length none, _, _, _, _, _, _, _, rfl, List.length_replicate, rfl⟩, ?_, ?_⟩
  · rintro i d ρ hd ⟨H, d6, d7, d8, d9, d10, d11, d12, hp, hl, rfl⟩
    obtain ⟨rfl, hi⟩ := rng_get _ _ _ _ hd
    have hi : i < s.rs.length := by omega
    rw [Int.zero_add]
    have hstep : parts told s.ts s.rs (i + 1) = outer told s.ts s.rs H i := by
      show (parts told s.ts s.rs i).bind _ = _
      rw [hp]
      rfl
    have lnone : outer told s.ts s.rs H i = none → landF told s.ts s.rs = none := fun h => land_none (show i + 1 ≤ s.rs.length by omega) (hstep.trans h)
    refine ⟨_, rfl, ?_⟩
    refine ⟨_, rfl, _, rfl, _, h_at (by omega), ?_⟩
    cases hx : H.getD i none with
    | some y =>
      refine ⟨_, rfl, true, rfl, (fun _ => ?_), fun z => nomatch z⟩
      refine ⟨H, _, _, _, _, _, _, _, ?_, hl, rfl⟩
      rw [hstep]
      unfold outer
      rw [hx]
      rfl
    | none =>
      refine ⟨_, rfl, false, rfl, (fun z => nomatch z), fun _ => ?_⟩
      have hout : outer told s.ts s.rs H i = (dfs told s.ts (2 * H.length + 1) ⟨H.set i (some (s.rs.getD i 0)), [i]⟩).map (·.H) := by
        unfold outer
        rw [hx]
        rfl
      have v1 : Val s.rs.length ⟨H.set i (some (s.rs.getD i 0)), [i]⟩ := val_start hl hi
      have mm := meas_start (h := s.rs.getD i 0) (show i < H.length by omega) hx
      have e1 := dfs_fuel (told := told) s.ok (2 * H.length + 1) _ _ v1 mm (Nat.le_refl _)
      refine ⟨_, rfl, _, rfl, _, rfl, _, s.pl_at hi, _, rfl, rfl, ?_⟩
      refine ⟨_, rfl, _, rfl, .inl ⟨_, _, i, rfl, rfl, ixn (by show i < (H.map oD).length; rw [List.length_map]; omega), ?_⟩⟩
      refine ⟨_, rfl, rfl, (Nat.le_of_ble_eq_true rfl), ?_⟩
      rw [h_set]
      refine ⟨fun n ρ => ∃ (st : St) (d8 d9 d10 d11 d12 : Option D), meas st = n ∧ Val s.rs.length st ∧ meas st ≤ 2 * s.rs.length + 1 ∧ outer told s.ts s.rs H i = (dfs told s.ts (meas st) st).map (·.H) ∧ ρ = [some s.chart, some (.lst false (told.map D.int)), some (.lst false (natsD (List.range s.ts.length))), some (letD s.ts.length), some (.lst false ((List.range s.rs.length).map (row false s.ts s.ts.length))), some (hsD true st.H), some (.int (i : Int)), some (.lst true (natsD st.st)), d8, d9, d10, d11, d12], ⟨_, fuel_k (by omega), ⟨H.set i (some (s.rs.getD i 0)), [i]⟩, _, _, _, _, _, rfl, v1, by omega, by rw [hout, e1], rfl⟩, ?_⟩
      rintro n ρ ⟨st, d8, d9, d10, d11, d12, rfl, v, mb, eo, rfl⟩
      refine ⟨_, rfl, _, nats_emp st.st, (fun z => ?_), fun z => ?_⟩
      · obtain ⟨pre, x, hst⟩ := split_last (nt z)
        obtain ⟨SH, SS⟩ := st
        dsimp only at hst
        subst hst
        obtain ⟨tn, ts⟩ := dfs_turn (told := told) s.ok v
        have hxv := v.st x (List.mem_append_right _ (List.mem_singleton.mpr rfl))
        have v0 : Val s.rs.length ⟨SH, pre⟩ := ⟨v.len, fun y hy => v.st y (List.mem_append_left _ hy)⟩
        have m0 : meas ⟨SH, pre⟩ + 1 = meas ⟨SH, pre ++ [x]⟩ := by unfold meas; dsimp only; rw [List.length_append, List.length_singleton]; omega
        have hxn : x < s.rs.length := hxv.1
        refine ⟨_, _, onL_at rfl pop_nats, ?_⟩
        refine ⟨_, rfl, _, rfl, _, atI_nat (d := row false s.ts s.ts.length x) (by rw [List.getElem?_map, List.getElem?_range hxn]; rfl), _, rfl, ?_⟩
        refine ⟨fun j ρ => ∃ (st' : St) (d8 d10 d11 d12 : Option D), manyB told x ((bes s.ts x s.ts.length).take j) ⟨SH, pre⟩ = some st' ∧ ρ = [some s.chart, some (.lst false (told.map D.int)), some (.lst false (natsD (List.range s.ts.length))), some (letD s.ts.length), some (.lst false ((List.range s.rs.length).map (row false s.ts s.ts.length))), some (hsD true st'.H), some (.int (i : Int)), some (.lst true (natsD st'.st)), d8, some (.int (x : Int)), d10, d11, d12], ⟨⟨SH, pre⟩, _, _, _, _, rfl, rfl⟩, ?_, ?_⟩
        · rintro j d ρ hd ⟨st', d8, d10, d11, d12, hm, rfl⟩
          obtain ⟨q, hq, rfl⟩ := map_get hd
          obtain ⟨b1, b2⟩ := bes_lt s.ok q (List.mem_of_getElem? hq)
          obtain ⟨vv, mv, kv⟩ := many_val v0 (fun q' h' => (bes_lt s.ok q' (List.mem_of_mem_take h')).2) hm
          have hxx := hxv.2
          have hgx : st'.H.getD x none = some (hat st'.H x) := by
            have := kv x hxx
            dsimp only at this hxx
            unfold hat
            rw [this]
            cases hh : SH.getD x none with
            | none => rw [hh] at hxx; cases hxx
            | some y => rfl
          have slen : st'.st.length ≤ 1000 := by
            have : st'.st.length ≤ meas st' := by unfold meas; omega
            omega
          refine ⟨_, rfl, ?_⟩
          refine ⟨_, rfl, _, rfl, _, let_in b1, _, rfl, (fun z => nomatch z), fun _ => ?_⟩
          have tk : O2.idx.sem (.lst false (told.map D.int)) (.int (q.1 : Int)) = some (.int (told.getD q.1 0)) := ints_at (by omega)
          have ite_ok : ∀ (Q : D → Ev → Prop) (ρ : Ev), getV ρ 10 = some (.int (q.2.1 : Int)) → getV ρ 1 = some (.lst false (told.map D.int)) → getV ρ 8 = some (.int (q.1 : Int)) → Q (.int (dif told q)) ρ → @wpE (inst t8) (.ite (.o2 .eq (.var 10) (.cst (.int 0))) (.o2 .idx (.var 1) (.var 8)) (.o1 .neg (.o2 .idx (.var 1) (.var 8)))) ρ Q := by
            intro Q ρ g1 g2 g3 hQ
            refine ⟨_, g1, _, rfl, _, rfl, (fun z => ?_), fun z => ?_⟩
            · have z := of_decide_eq_true z
              refine ⟨_, g2, _, g3, _, tk, ?_⟩
              have e : dif told q = told.getD q.1 0 := by unfold dif; rw [if_pos (by omega)]
              rw [e] at hQ
              exact hQ
            · have z := of_decide_eq_false z
              refine ⟨_, g2, _, g3, _, tk, _, rfl, ?_⟩
              have e : dif told q = -(told.getD q.1 0) := by unfold dif; rw [if_neg (by omega)]
              rw [e] at hQ
              exact hQ
          have hix : O2.idx.sem (hsD true st'.H) (.int (x : Int)) = some (.int (hat st'.H x)) := by
            rw [h_at (by rw [vv.len]; exact hxn), hgx]
            rfl
          refine ⟨_, rfl, _, rfl, _, hix, ite_ok _ _ rfl rfl rfl ⟨_, add_ints _ _, ?_⟩⟩
          have hio : O2.idx.sem (hsD true st'.H) (.int (q.2.2 : Int)) = some (oD (st'.H.getD q.2.2 none)) := h_at (by rw [vv.len]; exact b2)
          cases ho : st'.H.getD q.2.2 none with
          | none =>
            rw [ho] at hio
            have hone : oneB told x q st' = some ⟨st'.H.set q.2.2 (some (hat st'.H x + dif told q)), st'.st ++ [q.2.2]⟩ := by unfold oneB; rw [ho]
            refine ⟨_, rfl, _, rfl, _, hio, _, rfl, true, rfl, (fun _ => ?_), fun z => nomatch z⟩
            refine ⟨_, rfl, rfl, _, rfl, _, rfl, .inl ⟨_, _, q.2.2, rfl, rfl, ixn (by show q.2.2 < (st'.H.map oD).length; rw [List.length_map, vv.len]; exact b2), ?_⟩⟩
            refine ⟨rfl, _, rfl, rfl, _, rfl, by rw [nats_len]; show _ < 16777216; omega, ?_⟩
            refine ⟨⟨st'.H.set q.2.2 (some (hat st'.H x + dif told q)), st'.st ++ [q.2.2]⟩, some (.int (q.1 : Int)), some (.int (q.2.1 : Int)), some (.int (q.2.2 : Int)), some (.int (hat st'.H x + dif told q)), (many_take hq hm).trans hone, ?_⟩
            rw [h_set]
            show [_, _, _, _, _, _, _, some (D.lst true (natsD st'.st ++ natsD [q.2.2])), _, _, _, _, _] = _
            rw [← nats_app]
            rfl
          | some y =>
            rw [ho] at hio
            refine ⟨_, rfl, _, rfl, _, hio, _, rfl, false, rfl, (fun z => nomatch z), fun _ => ?_⟩
            refine ⟨_, rfl, _, rfl, _, hio, _, rfl, _, rfl, _, rfl, (fun z => ?_), fun z => ?_⟩
            · have z := of_decide_eq_false (nt z)
              have hone : oneB told x q st' = none := by unfold oneB; rw [ho]; dsimp only; rw [if_neg z]
              refine ⟨_, rfl, ?_, rfl⟩
              have := tn (many_none hq hm hone)
              rw [this] at eo
              rw [lnone eo]
              rfl
            · have z := of_decide_eq_true (nf z)
              have hone : oneB told x q st' = some st' := by unfold oneB; rw [ho]; dsimp only; rw [if_pos z]
              exact ⟨st', _, _, _, _, (many_take hq hm).trans hone, rfl⟩
        · rintro ρ ⟨st', d8, d10, d11, d12, hm, rfl⟩
          rw [List.length_map, List.take_length] at hm
          obtain ⟨w1, w2, w3⟩ := ts st' hm
          exact ⟨meas st', w2, st', _, _, _, _, _, rfl, w1, by omega, by rw [eo, w3], rfl⟩
      · have z := nf z
        have : st.st = [] := by
          cases hh : st.st with
          | nil => rfl
          | cons a l => rw [hh] at z; cases z
        refine ⟨st.H, _, _, _, _, _, _, _, ?_, v.len, rfl⟩
        rw [hstep, eo]
        have : dfs told s.ts (meas st) st = some st := by
          cases meas st with
          | zero => rfl
          | succ n => unfold dfs; rw [this]; rfl
        rw [this]
        rfl
  · rintro ρ ⟨H, d6, d7, d8, d9, d10, d11, d12, hp, hl, rfl⟩
    rw [rng_len, show ((s.rs.length : Nat) : Int).toNat = s.rs.length by omega] at hp
    refine ⟨_, rfl, _, tuple_k (h_frz H), _, rfl, ?_, rfl⟩
    unfold landF
    rw [hp]
    rfl


/-- what is told of turns -/
def toldOf (s : Scn) (w : List Int) : List Int := (List.range s.ts.length).map fun k => s.sts.getD k 0 + s.m * w.getD k 0
theorem told_len (s : Scn) (w : List Int) : (toldOf s w).length = s.ts.length := by unfold toldOf; rw [List.length_map, List.length_range]
theorem land_turns (s : Scn) (w : List Int) (hw : w.length = s.ts.length) : s9 [s.chart, .tup (w.map D.int)] = .ret (outD (landF (toldOf s w) s.ts s.rs)) [] := by
  have m0 := s.m0
  have m1 := s.m1
  have tll := s.tll
  refine @wpF_eq (inst t9) n9.length io9 b9 _ _ _ ?_
  refine ⟨_, rfl, rfl, _, rfl, _, _, fe F9_4 s.steps_ok, _, rfl, _, rfl, rfl, _, _, rfl, rfl, ?_⟩
  refine ⟨fun i acc ρ => acc = ((List.range i).map fun k => s.sts.getD k 0 + s.m * w.getD k 0).map D.int ∧ ρ = [some s.chart, some (.tup (w.map D.int)), none, none, none], ⟨rfl, rfl⟩, ?_, ?_⟩
  · rintro i d acc ρ hd ⟨rfl, rfl⟩
    obtain ⟨x, y, hx, hy, rfl⟩ := zip_get _ _ _ _ hd
    obtain ⟨a, ha, rfl⟩ := map_get hx
    obtain ⟨b, hb, rfl⟩ := map_get hy
    have ea : s.sts.getD i 0 = a := by rw [List.getD_eq_getElem?_getD, ha]; rfl
    have eb : w.getD i 0 = b := by rw [List.getD_eq_getElem?_getD, hb]; rfl
    refine ⟨_, rfl, (fun _ => ?_), fun z => nomatch z⟩
    refine ⟨_, rfl, _, rfl, _, rfl, _, rfl, _, mul_l (by omega) (by omega), _, rfl, ?_, rfl⟩
    rw [List.range_succ, List.map_append, List.map_append]
    show _ ++ [D.int (a + s.m * b)] = _ ++ [D.int (s.sts.getD i 0 + s.m * w.getD i 0)]
    rw [ea, eb]
  · rintro acc ρ ⟨rfl, rfl⟩
    have e0 : (zipD (s.sts.map D.int) (w.map D.int)).length = s.ts.length := by
      rw [zip_len _ _ (by simp [sts_len, hw])]
      simp [sts_len]
    rw [e0]
    refine ⟨by rw [List.length_map, List.length_map, List.length_range]; show _ ≤ 16777216; omega, ?_⟩
    have e1 : fzDs ((toldOf s w).map D.int) = (toldOf s w).map D.int := fz_map _
    have e2 : fzDs (natsD (List.range s.ts.length)) = natsD (List.range s.ts.length) := nats_fz _
    refine ⟨_, rfl, rfl, _, rfl, _, rfl, _, by
      show some (D.int ((fzDs ((toldOf s w).map D.int)).length : Int)) = some (.int (s.ts.length : Int))
      rw [e1, List.length_map, told_len], _, rng1 (by omega) (by omega), by rw [rng_len]; show _ ≤ 16777216; omega, _, rfl, outD (landF (toldOf s w) s.ts s.rs), [], ?_, _, rfl, _, rfl, rfl, rfl⟩
    refine fe F9_8 ?_
    have := land_of s (toldOf s w) (told_len s w)
    rw [show ((s.ts.length : Nat) : Int).toNat = s.ts.length by omega, rng_nats0]
    show s8 [s.chart, .lst false (fzDs ((toldOf s w).map D.int)), .lst false (fzDs (natsD (List.range s.ts.length)))] = _
    rw [e1, e2]
    exact this


theorem eqv_int (a b : Int) : PyData.eqv (.int a) (.int b) = decide (a = b) := by
  first | rfl | (unfold PyData.eqv; rfl) | simp [PyData.eqv]
theorem in_pair (x a b : Int) : inS (.int x) (.tup [.int a, .int b]) = some (.bl (decide (a = x) || decide (b = x))) := by
  unfold inS
  dsimp only
  rw [if_pos ⟨rfl, rfl, Nat.le_of_ble_eq_true rfl⟩]
  show some (D.bl ((PyData.eqv (.int a) (.int x)) || ((PyData.eqv (.int b) (.int x)) || false))) = _
  rw [eqv_int, eqv_int, Bool.or_false]
theorem notin_tie (x : Nat) (t : Tie) : O2.notIn.sem (.int (x : Int)) (tD2 t) = some (.bl (!(decide (t.1 = x) || decide (t.2 = x)))) := by
  show notS (inS (.int (x : Int)) (.tup [.int (t.1 : Int), .int (t.2 : Int)])) = _
  rw [in_pair]
  show some (D.bl (!(decide ((t.1 : Int) = x) || decide ((t.2 : Int) = x)))) = _
  rw [decide_eq_decide.mpr (show (t.1 : Int) = x ↔ t.1 = x by omega), decide_eq_decide.mpr (show (t.2 : Int) = x ↔ t.2 = x by omega)]
def toldL (m : Int) (rs : List Int) (ts : List Tie) (w : List Int) : List Int := (List.range ts.length).map fun k => stp m rs (ts.getD k (0, 0)) + m * w.getD k 0
theorem toldL_len (m : Int) (rs : List Int) (ts : List Tie) (w : List Int) : (toldL m rs ts w).length = ts.length := by unfold toldL; rw [List.length_map, List.length_range]
theorem toldL_at {m : Int} {rs : List Int} {ts : List Tie} {w : List Int} {k : Nat} (h : k < ts.length) : (toldL m rs ts w).getD k 0 = stp m rs (ts.getD k (0, 0)) + m * w.getD k 0 := by
  unfold toldL
  rw [List.getD_eq_getElem?_getD, List.getElem?_map, List.getElem?_range h]
  rfl
theorem told_eq (s : Scn) (w : List Int) : toldOf s w = toldL s.m s.rs s.ts w := by
  unfold toldOf toldL
  apply List.map_congr_left
  intro k hk
  rw [sts_at s (List.mem_range.mp hk)]
theorem F19_18 : @Fns.F (inst t19) 18 = s18 := rfl
def iffT : Ss → Ss
  | .cons (.iff _ a _) _ => a
  | _ => .nil
def whlB : Ss → Ss
  | .cons (.whl _ b) _ => b
  | _ => .nil
def e19 (m : Int) (rs : List Int) (ts : List Tie) (w : List Int) (st : St) (i : Nat) (d6 : Option D) (x : Nat) (d9 d10 d11 d12 : Option D) : Ev := [some (.int m), some (rsD rs), some (tsD ts), some (.lst true (w.map D.int)), some (hsD true st.H), some (.int (i : Int)), d6, some (.lst true (natsD st.st)), some (.int (x : Int)), d9, d10, d11, d12]
theorem in19 {m : Int} {rs : List Int} {ts : List Tie} {w told : List Int} {st' : St} {i x j : Nat} {d6 d10 d11 d12 : Option D} (m0 : 0 < m) (m1 : m ≤ 10000) (rl : rs.length ≤ 80) (tll : ts.length ≤ 80) (ok : okTs ts rs.length) (hw : w.length = ts.length) (tat : ∀ k, k < ts.length → told.getD k 0 = stp m rs (ts.getD k (0, 0)) + m * w.getD k 0) (hj : j < ts.length) (vv : Val rs.length st') (hxn : x < rs.length) (hgx : st'.H.getD x none = some (hat st'.H x)) (slen : st'.st.length ≤ 1000) (Q : Fl → Ev → Prop)
    (hA : inc ts x j = none → Q .ct (e19 m rs ts w st' i d6 x (some (.int (j : Int))) d10 d11 d12))
    (hB : ∀ q st2 d10 d11 d12, inc ts x j = some q → oneB told x q st' = some st2 → Q .nx (e19 m rs ts w st2 i d6 x (some (.int (j : Int))) d10 d11 d12))
    (hC : ∀ q d10 d11 d12, inc ts x j = some q → oneB told x q st' = none → Q (.rt .non) (e19 m rs ts w st' i d6 x (some (.int (j : Int))) d10 d11 d12)) :
    @wpSs (inst t19) (bodyS (dropS 1 (whlB (dropS 2 (iffT (bodyS (dropS 1 b19))))))) (e19 m rs ts w st' i d6 x (some (.int (j : Int))) d10 d11 d12) Q := by
  obtain ⟨o1, o2⟩ := ok _ (t_mem hj)
  have tj : O2.idx.sem (tsD ts) (.int (j : Int)) = some (tD2 (ts.getD j (0, 0))) := t_at hj
  refine ⟨_, rfl, _, rfl, _, rfl, _, tj, _, notin_tie x _, _, rfl, (fun z => ?_), fun z => ?_⟩
  · -- not at this tie
    have z := nt z
    rw [Bool.or_eq_false_iff] at z
    have z1 := of_decide_eq_false z.1
    have z2 := of_decide_eq_false z.2
    exact hA (by unfold inc; rw [if_neg z1, if_neg z2])
  · have z := nf z
    have tjd := tat j hj
    obtain ⟨wy, q, hq, hdif, hwy⟩ : ∃ (wy : Int) (q : Bs), inc ts x j = some q ∧ wy * (stp m rs (ts.getD j (0, 0)) + m * w.getD j 0) = dif told q ∧ ((ts.getD j (0, 0)).1 = x ∧ wy = 1 ∧ q.2.2 = (ts.getD j (0, 0)).2 ∨ ¬ (ts.getD j (0, 0)).1 = x ∧ wy = -1 ∧ q.2.2 = (ts.getD j (0, 0)).1) := by
      by_cases e : (ts.getD j (0, 0)).1 = x
      · exact ⟨1, (j, 0, (ts.getD j (0, 0)).2), by unfold inc; rw [if_pos e], by unfold dif; rw [if_pos rfl, tjd, Int.one_mul], .inl ⟨e, rfl, rfl⟩⟩
      · have e2 : (ts.getD j (0, 0)).2 = x := by
          rw [Bool.or_eq_true] at z
          rcases z with z | z
          · exact absurd (of_decide_eq_true z) e
          · exact of_decide_eq_true z
        exact ⟨-1, (j, 1, (ts.getD j (0, 0)).1), by unfold inc; rw [if_neg e, if_pos e2], by unfold dif; rw [if_neg (show ¬ (1 : Nat) = 0 by omega), tjd]; omega, .inr ⟨e, rfl, rfl⟩⟩
    have b2 : q.2.2 < rs.length := by rcases hwy with ⟨_, _, e⟩ | ⟨_, _, e⟩ <;> omega
    have it10 : ∀ (Q : D → Ev → Prop) (ρ : Ev), getV ρ 2 = some (tsD ts) → getV ρ 9 = some (.int (j : Int)) → getV ρ 8 = some (.int (x : Int)) → Q (.int wy) ρ → @wpE (inst t19) (.ite (.o2 .eq (.o2 .idx (.o2 .idx (.var 2) (.var 9)) (.cst (.int 0))) (.var 8)) (.cst (.int 1)) (.o1 .neg (.cst (.int 1)))) ρ Q := by
      intro Q ρ g1 g2 g3 hQ
      refine ⟨_, g1, _, g2, _, tj, _, rfl, _, g3, _, rfl, _, rfl, (fun z => ?_), fun z => ?_⟩
      · have z := of_decide_eq_true z
        rcases hwy with ⟨_, e, _⟩ | ⟨e, _, _⟩
        · rw [e] at hQ; exact hQ
        · exact absurd (show (ts.getD j (0, 0)).1 = x by omega) e
      · have z := of_decide_eq_false z
        refine ⟨_, rfl, ?_⟩
        rcases hwy with ⟨e, _, _⟩ | ⟨_, e, _⟩
        · exact absurd (show ((ts.getD j (0, 0)).1 : Int) = x by omega) z
        · rw [e] at hQ; exact hQ
    have it11 : ∀ (Q : D → Ev → Prop) (ρ : Ev), getV ρ 2 = some (tsD ts) → getV ρ 9 = some (.int (j : Int)) → getV ρ 10 = some (.int wy) → Q (.int (q.2.2 : Int)) ρ → @wpE (inst t19) (.ite (.o2 .eq (.var 10) (.cst (.int 1))) (.ck (.o2 .idx (.o2 .idx (.var 2) (.var 9)) (.cst (.int 1)))) (.ck (.o2 .idx (.o2 .idx (.var 2) (.var 9)) (.cst (.int 0))))) ρ Q := by
      intro Q ρ g1 g2 g3 hQ
      refine ⟨_, g3, _, rfl, _, rfl, (fun z => ?_), fun z => ?_⟩
      · have z := of_decide_eq_true z
        refine ⟨_, g1, _, g2, _, tj, _, rfl, rfl, ?_⟩
        rcases hwy with ⟨_, _, e⟩ | ⟨_, e, _⟩
        · rw [e] at hQ; exact hQ
        · omega
      · have z := of_decide_eq_false z
        refine ⟨_, g1, _, g2, _, tj, _, rfl, rfl, ?_⟩
        rcases hwy with ⟨_, e, _⟩ | ⟨_, _, e⟩
        · omega
        · rw [e] at hQ; exact hQ
    have hix : O2.idx.sem (hsD true st'.H) (.int (x : Int)) = some (.int (hat st'.H x)) := by
      rw [h_at (by rw [vv.len]; exact hxn), hgx]
      rfl
    have wat : O2.idx.sem (.lst true (w.map D.int)) (.int (j : Int)) = some (.int (w.getD j 0)) := atI_nat (getD_at (by omega))
    have hio : O2.idx.sem (hsD true st'.H) (.int (q.2.2 : Int)) = some (oD (st'.H.getD q.2.2 none)) := h_at (by rw [vv.len]; exact b2)
    refine it10 _ _ rfl rfl rfl ?_
    refine it11 _ _ rfl rfl rfl ?_
    refine ⟨_, rfl, _, rfl, _, hix, _, rfl, _, rfl, rfl, _, rfl, rfl, _, rfl, _, rfl, _, tj, rfl, _, rfl, _, _, fe F19_18 (stp_ok m0 (by omega) (by omega)), _, rfl, _, rfl, _, rfl, _, rfl, _, wat, _, mul_l (by omega) (by omega), _, rfl, _, mul_l (by rcases hwy with ⟨_, e, _⟩ | ⟨_, e, _⟩ <;> omega) (by rcases hwy with ⟨_, e, _⟩ | ⟨_, e, _⟩ <;> omega), D.int (hat st'.H x + dif told q), by rw [← hdif]; rfl, ?_⟩
    cases ho : st'.H.getD q.2.2 none with
    | none =>
      rw [ho] at hio
      have hone : oneB told x q st' = some ⟨st'.H.set q.2.2 (some (hat st'.H x + dif told q)), st'.st ++ [q.2.2]⟩ := by unfold oneB; rw [ho]
      refine ⟨_, rfl, _, rfl, _, hio, _, rfl, true, rfl, (fun _ => ?_), fun z => nomatch z⟩
      refine ⟨_, rfl, rfl, _, rfl, _, rfl, .inl ⟨_, _, q.2.2, rfl, rfl, ixn (by show q.2.2 < (st'.H.map oD).length; rw [List.length_map, vv.len]; exact b2), ?_⟩⟩
      refine ⟨rfl, _, rfl, rfl, _, rfl, by rw [nats_len]; show _ < 16777216; omega, ?_⟩
      have := hB q _ (some (.int wy)) (some (.int (q.2.2 : Int))) (some (.int (hat st'.H x + dif told q))) hq hone
      unfold e19 hsD at this
      dsimp only at this
      rw [← h_set, nats_app] at this
      exact this
    | some y =>
      rw [ho] at hio
      refine ⟨_, rfl, _, rfl, _, hio, _, rfl, false, rfl, (fun z => nomatch z), fun _ => ?_⟩
      refine ⟨_, rfl, _, rfl, _, hio, _, rfl, _, rfl, _, rfl, (fun z => ?_), fun z => ?_⟩
      · have z := of_decide_eq_false (nt z)
        have hone : oneB told x q st' = none := by unfold oneB; rw [ho]; dsimp only; rw [if_neg z]
        exact hC q _ _ _ hq hone
      · have z := of_decide_eq_true (nf z)
        have hone : oneB told x q st' = some st' := by unfold oneB; rw [ho]; dsimp only; rw [if_pos z]
        exact hB q st' _ _ _ hq hone
theorem law_land {m : Int} {rs : List Int} {ts : List Tie} {w : List Int} (m0 : 0 < m) (m1 : m ≤ 10000) (rl : rs.length ≤ 80) (tll : ts.length ≤ 80) (ok : okTs ts rs.length) (hw : w.length = ts.length) : s19 [.int m, rsD rs, tsD ts, .lst true (w.map D.int)] = .ret (outD (landF (toldL m rs ts w) ts rs)) [.lst true (w.map D.int)] := by
  have htl := toldL_len m rs ts w
  generalize htold : toldL m rs ts w = told at htl ⊢
  have tat : ∀ k, k < ts.length → told.getD k 0 = stp m rs (ts.getD k (0, 0)) + m * w.getD k 0 := fun k hk => by rw [← htold]; exact toldL_at hk
  refine @wpF_eq (inst t19) n19.length io19 b19 _ _ _ ?_
  refine ⟨_, rfl, _, rfl, ?_⟩
  refine ⟨fun i acc ρ => acc = (List.replicate i (none : Option Int)).map oD ∧ ρ = [some (.int m), some (rsD rs), some (tsD ts), some (.lst true (w.map D.int)), none, none, none, none, none, none, none, none, none], ⟨rfl, rfl⟩, ?_, ?_⟩
  · rintro i d acc ρ hd ⟨rfl, rfl⟩
    refine ⟨_, rfl, (fun _ => ⟨?_, rfl⟩), fun z => nomatch z⟩
    rw [List.replicate_succ', List.map_append]
    rfl
  rintro acc ρ ⟨rfl, rfl⟩
  rw [List.length_map]
  refine ⟨by rw [List.length_map, List.length_replicate]; show _ ≤ 16777216; omega, ?_⟩
  refine ⟨_, rfl, _, len_map D.int rs false, _, rng1 (by omega) (by omega), ?_⟩
  refine ⟨fun i ρ => ∃ (H : Hts) (d5 d6 d7 d8 d9 d10 d11 d12 : Option D), parts told ts rs i = some H ∧ H.length = rs.length ∧ ρ = [some (.int m), some (rsD rs), some (tsD ts), some (.lst true (w.map D.int)), some (hsD true H), d5, d6, d7, d8, d9, d10, d11, d12], ⟨List.replicate rs.length none, _, _, _, _, _, _, _, _, rfl, List.length_replicate, by rw [List.length_map]; rfl⟩, ?_, ?_⟩
  · rintro i d ρ hd ⟨H, d5, d6, d7, d8, d9, d10, d11, d12, hp, hl, rfl⟩
    obtain ⟨rfl, hi⟩ := rng_get _ _ _ _ hd
    have hi : i < rs.length := by omega
    rw [Int.zero_add]
    have hstep : parts told ts rs (i + 1) = outer told ts rs H i := by
      show (parts told ts rs i).bind _ = _
      rw [hp]
      rfl
    have lnone : outer told ts rs H i = none → landF told ts rs = none := fun h => land_none (show i + 1 ≤ rs.length by omega) (hstep.trans h)
    refine ⟨_, rfl, ?_⟩
    refine ⟨_, rfl, _, rfl, _, h_at (by omega), ?_⟩
    cases hx : H.getD i none with
    | some y =>
      refine ⟨_, rfl, false, rfl, (fun z => nomatch z), fun _ => ?_⟩
      refine ⟨H, some (.int (i : Int)), d6, d7, d8, d9, d10, d11, d12, ?_, hl, rfl⟩
      rw [hstep]
      unfold outer
      rw [hx]
      rfl
    | none =>
      refine ⟨_, rfl, true, rfl, (fun _ => ?_), fun z => nomatch z⟩
      have hout : outer told ts rs H i = (dfs told ts (2 * H.length + 1) ⟨H.set i (some (rs.getD i 0)), [i]⟩).map (·.H) := by
        unfold outer
        rw [hx]
        rfl
      have v1 : Val rs.length ⟨H.set i (some (rs.getD i 0)), [i]⟩ := val_start hl hi
      have mm := meas_start (h := rs.getD i 0) (show i < H.length by omega) hx
      have e1 := dfs_fuel (told := told) ok (2 * H.length + 1) _ _ v1 mm (Nat.le_refl _)
      refine ⟨_, rfl, _, rfl, _, r_at hi, rfl, ?_⟩
      refine ⟨_, rfl, _, rfl, .inl ⟨_, _, i, rfl, rfl, ixn (by show i < (H.map oD).length; rw [List.length_map]; omega), ?_⟩⟩
      refine ⟨_, rfl, rfl, (Nat.le_of_ble_eq_true rfl), ?_⟩
      rw [h_set]
      refine ⟨fun n ρ => ∃ (st : St) (d8 d9 d10 d11 d12 : Option D), meas st = n ∧ Val rs.length st ∧ meas st ≤ 2 * rs.length + 1 ∧ outer told ts rs H i = (dfs told ts (meas st) st).map (·.H) ∧ ρ = [some (.int m), some (rsD rs), some (tsD ts), some (.lst true (w.map D.int)), some (hsD true st.H), some (.int (i : Int)), d6, some (.lst true (natsD st.st)), d8, d9, d10, d11, d12], ⟨_, fuel_k (by omega), ⟨H.set i (some (rs.getD i 0)), [i]⟩, _, _, _, _, _, rfl, v1, by omega, by rw [hout, e1], rfl⟩, ?_⟩
      rintro n ρ ⟨st, d8, d9, d10, d11, d12, rfl, v, mb, eo, rfl⟩
      refine ⟨_, rfl, _, len_nats st.st true, _, rfl, _, rfl, (fun z => ?_), fun z => ?_⟩
      · have z : (0 : Int) < (st.st.length : Int) := of_decide_eq_true z
        obtain ⟨pre, x, hst⟩ := split_last (show st.st.isEmpty = false by cases hh : st.st with | nil => rw [hh] at z; exact absurd z (by decide) | cons a l => rfl)
        obtain ⟨SH, SS⟩ := st
        dsimp only at hst
        subst hst
        obtain ⟨tn, tsm⟩ := dfs_turn (told := told) ok v
        have hxv := v.st x (List.mem_append_right _ (List.mem_singleton.mpr rfl))
        have v0 : Val rs.length ⟨SH, pre⟩ := ⟨v.len, fun y hy => v.st y (List.mem_append_left _ hy)⟩
        have ms0 : meas ⟨SH, pre⟩ + 1 = meas ⟨SH, pre ++ [x]⟩ := by unfold meas; dsimp only; rw [List.length_append, List.length_singleton]; omega
        have hxn : x < rs.length := hxv.1
        refine ⟨_, _, onL_at rfl pop_nats, ?_⟩
        refine ⟨_, rfl, _, len_map tD2 ts false, _, rng1 (by omega) (by omega), ?_⟩
        refine ⟨fun j ρ => ∃ (st' : St) (d9 d10 d11 d12 : Option D), manyB told x (bes ts x j) ⟨SH, pre⟩ = some st' ∧ ρ = [some (.int m), some (rsD rs), some (tsD ts), some (.lst true (w.map D.int)), some (hsD true st'.H), some (.int (i : Int)), d6, some (.lst true (natsD st'.st)), some (.int (x : Int)), d9, d10, d11, d12], ⟨⟨SH, pre⟩, _, _, _, _, rfl, rfl⟩, ?_, ?_⟩
        · rintro j d ρ hd ⟨st', d9, d10, d11, d12, hm, rfl⟩
          obtain ⟨rfl, hj⟩ := rng_get _ _ _ _ hd
          have hj : j < ts.length := by omega
          rw [Int.zero_add]
          obtain ⟨o1, o2⟩ := ok _ (t_mem hj)
          obtain ⟨vv, mv, kv⟩ := many_val v0 (fun q' h' => by
            obtain ⟨k, hk, e⟩ := List.mem_filterMap.mp h'
            exact (bes_lt ok q' (List.mem_filterMap.mpr ⟨k, List.mem_range.mpr (by have := List.mem_range.mp hk; omega), e⟩)).2) hm
          have hxx := hxv.2
          have hgx : st'.H.getD x none = some (hat st'.H x) := by
            have := kv x hxx
            dsimp only at this hxx
            unfold hat
            rw [this]
            cases hh : SH.getD x none with
            | none => rw [hh] at hxx; cases hxx
            | some y => rfl
          have slen : st'.st.length ≤ 1000 := by
            have : st'.st.length ≤ meas st' := by unfold meas; omega
            omega
          have hsucc := bes_succ ts x j
          -- the whole row is none
          have allnone : ∀ q, inc ts x j = some q → oneB told x q st' = none → landF told ts rs = none := fun q hq h1 => by
            have e1 : manyB told x (bes ts x (j + 1)) ⟨SH, pre⟩ = none := by
              rw [hsucc, hq, manyB_app, hm]
              show (oneB told x q st').bind _ = none
              rw [h1]
              rfl
            have e2 : ∀ r, manyB told x (bes ts x (j + 1 + r)) ⟨SH, pre⟩ = none := fun r => by
              induction r with
              | zero => exact e1
              | succ r ih =>
                have := bes_succ ts x (j + 1 + r)
                show manyB told x (bes ts x (j + 1 + r + 1)) _ = none
                rw [this, manyB_app, ih]
                rfl
            have e3 := e2 (ts.length - (j + 1))
            rw [show j + 1 + (ts.length - (j + 1)) = ts.length by omega] at e3
            have := tn e3
            rw [this] at eo
            exact lnone eo
          have goon : ∀ q st2, inc ts x j = some q → oneB told x q st' = some st2 → manyB told x (bes ts x (j + 1)) ⟨SH, pre⟩ = some st2 := fun q st2 hq h1 => by
            rw [hsucc, hq, manyB_app, hm]
            show (oneB told x q st').bind _ = _
            rw [h1]
            rfl
          refine ⟨_, rfl, ?_⟩
          refine in19 (told := told) m0 m1 rl tll ok hw tat hj vv hxn hgx slen _ (fun h => ?_) (fun q st2 d10 d11 d12 hq h1 => ⟨st2, _, _, _, _, goon q st2 hq h1, rfl⟩) (fun q d10 d11 d12 hq h1 => ⟨_, rfl, by rw [allnone q hq h1]; rfl, rfl⟩)
          refine ⟨st', some (.int (j : Int)), d10, d11, d12, ?_, rfl⟩
          rw [hsucc, h]
          show manyB told x (bes ts x j ++ []) _ = _
          rw [List.append_nil]
          exact hm
        · rintro ρ ⟨st', d9, d10, d11, d12, hm, rfl⟩
          rw [rng_len, show ((ts.length : Nat) : Int).toNat = ts.length by omega] at hm
          obtain ⟨w1, w2, w3⟩ := tsm st' hm
          exact ⟨meas st', w2, st', _, _, _, _, _, rfl, w1, by omega, by rw [eo, w3], rfl⟩
      · have z := of_decide_eq_false z
        have : st.st = [] := List.length_eq_zero_iff.mp (by omega)
        refine ⟨st.H, some (.int (i : Int)), d6, some (.lst true (natsD st.st)), d8, d9, d10, d11, d12, ?_, v.len, rfl⟩
        rw [hstep, eo]
        have : dfs told ts (meas st) st = some st := by
          cases meas st with
          | zero => rfl
          | succ n => unfold dfs; rw [this]; rfl
        rw [this]
        rfl
  · rintro ρ ⟨H, d5, d6, d7, d8, d9, d10, d11, d12, hp, hl, rfl⟩
    rw [rng_len, show ((rs.length : Nat) : Int).toNat = rs.length by omega] at hp
    refine ⟨_, rfl, _, tuple_k (h_frz H), _, rfl, ?_, rfl⟩
    unfold landF
    rw [hp]
    rfl


theorem inc_mem {ts : List Tie} {x : Nat} {q : Bs} : q ∈ bes ts x ts.length ↔ ∃ k, k < ts.length ∧ inc ts x k = some q := by
  unfold bes
  rw [List.mem_filterMap]
  constructor
  · rintro ⟨k, hk, e⟩; exact ⟨k, List.mem_range.mp hk, e⟩
  · rintro ⟨k, hk, e⟩; exact ⟨k, List.mem_range.mpr hk, e⟩
theorem inc_fst {ts : List Tie} {n k : Nat} (ok : okTs ts n) (hk : k < ts.length) : (k, 0, (ts.getD k (0, 0)).2) ∈ bes ts (ts.getD k (0, 0)).1 ts.length := inc_mem.mpr ⟨k, hk, by unfold inc; rw [if_pos rfl]⟩
theorem inc_snd {ts : List Tie} {n k : Nat} (ok : okTs ts n) (hk : k < ts.length) : (k, 1, (ts.getD k (0, 0)).1) ∈ bes ts (ts.getD k (0, 0)).2 ts.length := inc_mem.mpr ⟨k, hk, by
  have := (ok _ (t_mem hk)).1
  unfold inc
  rw [if_neg (by omega), if_pos rfl]⟩
/-- the neighbour sees it too -/
theorem bes_sym {ts : List Tie} {n x : Nat} {q : Bs} (ok : okTs ts n) (h : q ∈ bes ts x ts.length) : ∃ q', q' ∈ bes ts q.2.2 ts.length ∧ q'.2.2 = x := by
  obtain ⟨k, hk, e⟩ := inc_mem.mp h
  unfold inc at e
  split at e
  · rename_i e1
    cases e
    exact ⟨_, inc_snd ok hk, e1⟩
  · split at e
    · rename_i e1 e2
      cases e
      exact ⟨_, inc_fst ok hk, e2⟩
    · cases e
theorem dif_pot {told : List Int} {ts : List Tie} {n x : Nat} {q : Bs} {P : Nat → Int} (hP : ∀ k, k < ts.length → P (ts.getD k (0, 0)).2 - P (ts.getD k (0, 0)).1 = told.getD k 0) (h : q ∈ bes ts x ts.length) : P q.2.2 = P x + dif told q := by
  obtain ⟨k, hk, e⟩ := inc_mem.mp h
  have hp := hP k hk
  unfold inc at e
  split at e
  · rename_i e1
    cases e
    unfold dif
    rw [if_pos rfl, ← e1]
    dsimp only
    omega
  · split at e
    · rename_i e1 e2
      cases e
      unfold dif
      rw [if_neg (show ¬ (1 : Nat) = 0 by omega), ← e2]
      dsimp only
      omega
    · cases e
/-! ### what comes out is a land -/
theorem hat_some {H : Hts} {x : Nat} (h : (H.getD x none).isSome = true) : H.getD x none = some (hat H x) := by
  unfold hat
  cases e : H.getD x none with
  | none => rw [e] at h; cases h
  | some y => rfl
theorem one_good {n : Nat} {told : List Int} {x : Nat} {q : Bs} {s s' : St} (v : Val n s) (hq : q.2.2 < n) (h : oneB told x q s = some s') : s'.H.getD q.2.2 none = some (hat s.H x + dif told q) ∧ (∀ y, (s'.H.getD y none).isSome = true → (s.H.getD y none).isSome = true ∨ y ∈ s'.st) ∧ (∀ y, y ∈ s.st → y ∈ s'.st) ∧ (∀ y, y ∈ s'.st → y ∈ s.st ∨ (y = q.2.2 ∧ s.H.getD y none = none)) := by
  unfold oneB at h
  split at h
  · rename_i e
    cases h
    refine ⟨set_at (by rw [v.len]; exact hq), fun y hy => ?_, fun y hy => List.mem_append_left _ hy, fun y hy => ?_⟩
    · by_cases e : q.2.2 = y
      · right
        rw [e]
        exact List.mem_append_right _ (List.mem_singleton.mpr rfl)
      · rw [set_ne e] at hy
        exact .inl hy
    · rcases List.mem_append.mp hy with hy | hy
      · exact .inl hy
      · right
        rw [List.mem_singleton.mp hy]
        exact ⟨rfl, e⟩
  · rename_i y e
    split at h
    · rename_i e2
      cases h
      exact ⟨by rw [e, e2], fun y hy => .inl hy, fun y hy => hy, fun y hy => .inl hy⟩
    · cases h
theorem many_good {n : Nat} {told : List Int} {x : Nat} : ∀ {l : List Bs} {s s' : St}, Val n s → (s.H.getD x none).isSome = true → (∀ q ∈ l, q.2.2 < n) → manyB told x l s = some s' → (∀ q ∈ l, s'.H.getD q.2.2 none = some (hat s.H x + dif told q)) ∧ (∀ y, (s'.H.getD y none).isSome = true → (s.H.getD y none).isSome = true ∨ y ∈ s'.st) ∧ (∀ y, y ∈ s.st → y ∈ s'.st)
  | [], s, s', v, _, _, h => by cases h; exact ⟨fun q hq => absurd hq List.not_mem_nil, fun y hy => .inl hy, fun y hy => hy⟩
  | q :: l, s, s', v, hx, hq, h => by
    have h : (oneB told x q s).bind (manyB told x l) = some s' := h
    cases e : oneB told x q s with
    | none => rw [e] at h; cases h
    | some s1 =>
      rw [e] at h
      obtain ⟨v1, _, k1⟩ := one_val v (hq q List.mem_cons_self) e
      obtain ⟨g1, g2, g3, _⟩ := one_good v (hq q List.mem_cons_self) e
      have hq' := fun q' h' => hq q' (List.mem_cons_of_mem _ h')
      have hx1 : (s1.H.getD x none).isSome = true := by rw [k1 x hx]; exact hx
      obtain ⟨v2, _, k2⟩ := many_val v1 hq' h
      obtain ⟨a1, a2, a3⟩ := many_good v1 hx1 hq' h
      have hh : hat s1.H x = hat s.H x := by unfold hat; rw [k1 x hx]
      refine ⟨fun q' h' => ?_, fun y hy => ?_, fun y hy => a3 y (g3 y hy)⟩
      · rcases List.mem_cons.mp h' with rfl | h'
        · rw [k2 _ (by rw [g1]; rfl), g1]
        · rw [a1 q' h', hh]
      · rcases a2 y hy with h | h
        · rcases g2 y h with h | h
          · exact .inl h
          · exact .inr (a3 y h)
        · exact .inr h
def Done (told : List Int) (ts : List Tie) (s : St) : Prop := ∀ x, (s.H.getD x none).isSome = true → x ∈ s.st ∨ ∀ q ∈ bes ts x ts.length, s.H.getD q.2.2 none = some (hat s.H x + dif told q)
theorem proc_done {told : List Int} {ts : List Tie} {n : Nat} (ok : okTs ts n) {pre : List Nat} {x : Nat} {H : Hts} {s' : St} (v : Val n ⟨H, pre ++ [x]⟩) (d : Done told ts ⟨H, pre ++ [x]⟩) (h : proc told ts x ⟨H, pre⟩ = some s') : Done told ts s' := by
  have v0 : Val n ⟨H, pre⟩ := ⟨v.len, fun y hy => v.st y (List.mem_append_left _ hy)⟩
  have hx := (v.st x (List.mem_append_right _ (List.mem_singleton.mpr rfl))).2
  have hq : ∀ q ∈ bes ts x ts.length, q.2.2 < n := fun q hq => (bes_lt ok q hq).2
  obtain ⟨_, _, kv⟩ := many_val v0 hq h
  obtain ⟨a1, a2, a3⟩ := many_good v0 hx hq h
  intro y hy
  rcases a2 y hy with h1 | h1
  · by_cases e : y = x
    · subst e
      right
      intro q hq
      rw [a1 q hq]
      unfold hat
      rw [kv y h1]
    · rcases d y h1 with h2 | h2
      · rcases List.mem_append.mp h2 with h2 | h2
        · exact .inl (a3 y h2)
        · exact absurd (List.mem_singleton.mp h2) e
      · right
        intro q hq
        have h3 : H.getD q.2.2 none = some (hat H y + dif told q) := h2 q hq
        have e4 : s'.H.getD q.2.2 none = H.getD q.2.2 none := kv q.2.2 (by show (H.getD q.2.2 none).isSome = true; rw [h3]; rfl)
        rw [e4, h3]
        unfold hat
        rw [kv y h1]
  · exact .inl h1
theorem dfs_done {told : List Int} {ts : List Tie} {n : Nat} (ok : okTs ts n) : ∀ (f : Nat) (s s' : St), Val n s → meas s ≤ f → Done told ts s → dfs told ts f s = some s' → Done told ts s' ∧ s'.st = [] ∧ Val n s' ∧ ∀ y, (s.H.getD y none).isSome = true → s'.H.getD y none = s.H.getD y none
  | 0, s, s', v, hf, d, h => by
    have h0 : s.st = [] := by
      unfold meas at hf
      exact List.length_eq_zero_iff.mp (by omega)
    have h : some s = some s' := h
    cases h
    exact ⟨d, h0, v, fun _ _ => rfl⟩
  | f + 1, s, s', v, hf, d, h => by
    by_cases he : s.st = []
    · unfold dfs at h
      rw [he] at h
      have h : some s = some s' := h
      cases h
      exact ⟨d, he, v, fun _ _ => rfl⟩
    · obtain ⟨H, st⟩ := s
      dsimp only at he
      obtain ⟨pre, x, rfl⟩ : ∃ pre x, st = pre ++ [x] := ⟨st.dropLast, st.getLast he, (List.dropLast_concat_getLast he).symm⟩
      unfold dfs at h
      dsimp only at h
      rw [List.getLast?_concat] at h
      dsimp only at h
      rw [List.dropLast_concat] at h
      cases hp : proc told ts x ⟨H, pre⟩ with
      | none => rw [hp] at h; cases h
      | some s1 =>
        rw [hp] at h
        have h : dfs told ts f s1 = some s' := h
        have v0 : Val n ⟨H, pre⟩ := ⟨v.len, fun y hy => v.st y (List.mem_append_left _ hy)⟩
        obtain ⟨v1, m1, k1⟩ := many_val v0 (fun q hq => (bes_lt ok q hq).2) hp
        have hm : meas ⟨H, pre ++ [x]⟩ = meas ⟨H, pre⟩ + 1 := by unfold meas; dsimp only; rw [List.length_append, List.length_singleton]; omega
        obtain ⟨r1, r2, r3, r4⟩ := dfs_done ok f s1 s' v1 (by omega) (proc_done ok v d hp) h
        refine ⟨r1, r2, r3, fun y hy => ?_⟩
        have e1 := k1 y hy
        rw [r4 y (by rw [e1]; exact hy), e1]
theorem start_done {told : List Int} {ts : List Tie} {H : Hts} {x : Nat} {h : Int} (hx : x < H.length) (e : H.getD x none = none) (d : Done told ts ⟨H, []⟩) : Done told ts ⟨H.set x (some h), [x]⟩ := by
  intro y hy
  by_cases ey : x = y
  · subst ey
    exact .inl (List.mem_singleton.mpr rfl)
  · right
    intro q hq
    dsimp only at hy ⊢
    rw [set_ne ey] at hy
    rcases d y hy with h1 | h1
    · exact absurd h1 List.not_mem_nil
    · have h1 := h1 q hq
      dsimp only at h1
      have : x ≠ q.2.2 := fun z => by rw [← z, e] at h1; cases h1
      rw [set_ne this, h1]
      unfold hat
      rw [set_ne ey]
theorem parts_done {told : List Int} {ts : List Tie} {rs : List Int} (ok : okTs ts rs.length) : ∀ (i : Nat) (H : Hts), i ≤ rs.length → parts told ts rs i = some H → Done told ts ⟨H, []⟩ ∧ H.length = rs.length ∧ ∀ x, x < i → (H.getD x none).isSome = true
  | 0, H, _, h => by
    have h : some (List.replicate rs.length none) = some H := h
    cases h
    refine ⟨fun x hx => ?_, List.length_replicate, fun x hx => absurd hx (Nat.not_lt_zero _)⟩
    dsimp only at hx
    rw [List.getD_eq_getElem?_getD, List.getElem?_replicate] at hx
    split at hx <;> cases hx
  | i + 1, H', hi, h => by
    have h : (parts told ts rs i).bind (fun H => outer told ts rs H i) = some H' := h
    cases hp : parts told ts rs i with
    | none => rw [hp] at h; cases h
    | some H =>
      rw [hp] at h
      have h : outer told ts rs H i = some H' := h
      obtain ⟨d, hl, hs⟩ := parts_done ok i H (by omega) hp
      unfold outer at h
      split at h
      · rename_i hx
        cases h
        refine ⟨d, hl, fun x h => ?_⟩
        by_cases e : x = i
        · rw [e]; exact hx
        · exact hs x (by omega)
      · rename_i hx
        have hx : H.getD i none = none := by
          cases e : H.getD i none with
          | none => rfl
          | some y => rw [e] at hx; exact absurd rfl hx
        have hil : i < H.length := by omega
        cases hd : dfs told ts (2 * H.length + 1) ⟨H.set i (some (rs.getD i 0)), [i]⟩ with
        | none => rw [hd] at h; cases h
        | some s' =>
          rw [hd] at h
          have h : some s'.H = some H' := h
          cases h
          obtain ⟨r1, r2, r3, r4⟩ := dfs_done ok _ _ s' (val_start hl (by omega)) (meas_start hil hx) (start_done hil hx d) hd
          refine ⟨?_, r3.len, fun x h => ?_⟩
          · have : (⟨s'.H, []⟩ : St) = s' := by
              obtain ⟨a, b⟩ := s'
              dsimp only at r2 ⊢
              rw [r2]
            rw [this]
            exact r1
          · by_cases e : x = i
            · subst e
              rw [r4 x (by dsimp only; rw [set_at hil]; rfl)]
              dsimp only
              rw [set_at hil]
              rfl
            · have h1 := hs x (by omega)
              have e1 : (H.set i (some (rs.getD i 0))).getD x none = H.getD x none := set_ne (Ne.symm e)
              rw [r4 x (by dsimp only; rw [e1]; exact h1)]
              dsimp only
              rw [e1]
              exact h1
theorem land_sound {told : List Int} {ts : List Tie} {rs : List Int} {H : Hts} (ok : okTs ts rs.length) (h : landF told ts rs = some H) : H.length = rs.length ∧ ∀ k, k < ts.length → hat H (ts.getD k (0, 0)).2 - hat H (ts.getD k (0, 0)).1 = told.getD k 0 := by
  obtain ⟨d, hl, hs⟩ := parts_done ok rs.length H (Nat.le_refl _) h
  refine ⟨hl, fun k hk => ?_⟩
  obtain ⟨o1, o2⟩ := ok _ (t_mem hk)
  rcases d _ (hs (ts.getD k (0, 0)).1 (by omega)) with h1 | h1
  · exact absurd h1 List.not_mem_nil
  · have h1 := h1 _ (inc_fst ok hk)
    dsimp only at h1
    have e : hat H (ts.getD k (0, 0)).2 = hat H (ts.getD k (0, 0)).1 + dif told (k, 0, (ts.getD k (0, 0)).2) := by
      conv => lhs; unfold hat
      rw [h1]
      rfl
    rw [e]
    unfold dif
    rw [if_pos rfl]
    dsimp only
    omega
/-! ### where a land is, one comes out -/
structure New (H0 : Hts) (P : Nat → Int) (c : Int) (s : St) : Prop where
  st : ∀ y ∈ s.st, H0.getD y none = none
  at_ : ∀ y a, H0.getD y none = none → s.H.getD y none = some a → a = P y + c
theorem many_new {told : List Int} {ts : List Tie} {n : Nat} (ok : okTs ts n) {H0 : Hts} (hn : ∀ y, H0.getD y none = none → ∀ q ∈ bes ts y ts.length, H0.getD q.2.2 none = none) {P : Nat → Int} (hP : ∀ k, k < ts.length → P (ts.getD k (0, 0)).2 - P (ts.getD k (0, 0)).1 = told.getD k 0) {c : Int} {x : Nat} (hx0 : H0.getD x none = none) : ∀ (l : List Bs) (s : St), Val n s → (∀ q ∈ l, q ∈ bes ts x ts.length) → (s.H.getD x none).isSome = true → New H0 P c s → ∃ s', manyB told x l s = some s' ∧ New H0 P c s'
  | [], s, v, _, _, nw => ⟨s, rfl, nw⟩
  | q :: l, s, v, hl, hx, nw => by
    have hq := hl q List.mem_cons_self
    have hqn := (bes_lt ok q hq).2
    have e1 := dif_pot (n := n) hP hq
    have ex := nw.at_ x (hat s.H x) hx0 (hat_some hx)
    have q0 := hn x hx0 q hq
    obtain ⟨s1, h1, n1⟩ : ∃ s1, oneB told x q s = some s1 ∧ New H0 P c s1 := by
      unfold oneB
      cases ho : s.H.getD q.2.2 none with
      | none =>
        refine ⟨_, rfl, fun y hy => ?_, fun y a h0 ha => ?_⟩
        · rcases List.mem_append.mp hy with hy | hy
          · exact nw.st y hy
          · rw [List.mem_singleton.mp hy]; exact q0
        · dsimp only at ha
          by_cases e : q.2.2 = y
          · subst e
            rw [set_at (by rw [v.len]; exact hqn)] at ha
            cases ha
            omega
          · rw [set_ne e] at ha
            exact nw.at_ y a h0 ha
      | some y =>
        have := nw.at_ q.2.2 y q0 ho
        dsimp only
        rw [if_pos (by omega)]
        exact ⟨s, rfl, nw⟩
    obtain ⟨v1, _, k1⟩ := one_val v hqn h1
    obtain ⟨s2, h2, n2⟩ := many_new ok hn hP hx0 l s1 v1 (fun q' h' => hl q' (List.mem_cons_of_mem _ h')) (by rw [k1 x hx]; exact hx) n1
    refine ⟨s2, ?_, n2⟩
    show (oneB told x q s).bind (manyB told x l) = some s2
    rw [h1]
    exact h2
theorem dfs_new {told : List Int} {ts : List Tie} {n : Nat} (ok : okTs ts n) {H0 : Hts} (hn : ∀ y, H0.getD y none = none → ∀ q ∈ bes ts y ts.length, H0.getD q.2.2 none = none) {P : Nat → Int} (hP : ∀ k, k < ts.length → P (ts.getD k (0, 0)).2 - P (ts.getD k (0, 0)).1 = told.getD k 0) {c : Int} : ∀ (f : Nat) (s : St), Val n s → New H0 P c s → ∃ s', dfs told ts f s = some s'
  | 0, s, _, _ => ⟨s, rfl⟩
  | f + 1, s, v, nw => by
    by_cases he : s.st = []
    · unfold dfs
      rw [he]
      exact ⟨s, rfl⟩
    · obtain ⟨H, st⟩ := s
      dsimp only at he
      obtain ⟨pre, x, rfl⟩ : ∃ pre x, st = pre ++ [x] := ⟨st.dropLast, st.getLast he, (List.dropLast_concat_getLast he).symm⟩
      have v0 : Val n ⟨H, pre⟩ := ⟨v.len, fun y hy => v.st y (List.mem_append_left _ hy)⟩
      have hx := (v.st x (List.mem_append_right _ (List.mem_singleton.mpr rfl))).2
      have hx0 := nw.st x (List.mem_append_right _ (List.mem_singleton.mpr rfl))
      obtain ⟨s1, h1, n1⟩ := many_new ok hn hP hx0 (bes ts x ts.length) ⟨H, pre⟩ v0 (fun _ h => h) hx ⟨fun y hy => nw.st y (List.mem_append_left _ hy), nw.at_⟩
      obtain ⟨v1, _, _⟩ := many_val v0 (fun q hq => (bes_lt ok q hq).2) h1
      obtain ⟨s', h'⟩ := dfs_new ok hn hP f s1 v1 n1
      refine ⟨s', ?_⟩
      unfold dfs
      dsimp only
      rw [List.getLast?_concat]
      dsimp only
      rw [List.dropLast_concat]
      have h1 : proc told ts x ⟨H, pre⟩ = some s1 := h1
      rw [h1]
      exact h'
theorem land_comes {told : List Int} {ts : List Tie} {rs : List Int} (ok : okTs ts rs.length) {P : Nat → Int} (hP : ∀ k, k < ts.length → P (ts.getD k (0, 0)).2 - P (ts.getD k (0, 0)).1 = told.getD k 0) : ∃ H, landF told ts rs = some H := by
  have main : ∀ i, i ≤ rs.length → ∃ H, parts told ts rs i = some H := by
    intro i
    induction i with
    | zero => exact fun _ => ⟨_, rfl⟩
    | succ i ih =>
      intro hi
      obtain ⟨H, hp⟩ := ih (by omega)
      obtain ⟨d, hl, hs⟩ := parts_done ok i H (by omega) hp
      have e : parts told ts rs (i + 1) = outer told ts rs H i := by
        show (parts told ts rs i).bind _ = _
        rw [hp]
        rfl
      rw [e]
      unfold outer
      split
      · exact ⟨H, rfl⟩
      · rename_i hx
        have hx : H.getD i none = none := by
          cases e : H.getD i none with
          | none => rfl
          | some y => rw [e] at hx; exact absurd rfl hx
        have hil : i < H.length := by omega
        obtain ⟨s', h'⟩ := dfs_new ok (H0 := H) (P := P) (c := rs.getD i 0 - P i) (fun y hy q hq => by
          cases e : H.getD q.2.2 none with
          | none => rfl
          | some a =>
            obtain ⟨q', hq', e'⟩ := bes_sym ok hq
            rcases d q.2.2 (by dsimp only; rw [e]; rfl) with h1 | h1
            · exact absurd h1 List.not_mem_nil
            · have h1 := h1 q' hq'
              dsimp only at h1
              rw [e', hy] at h1
              cases h1) hP (2 * H.length + 1) ⟨H.set i (some (rs.getD i 0)), [i]⟩ (val_start hl (by omega)) ⟨fun y hy => by rw [List.mem_singleton.mp hy]; exact hx, fun y a h0 ha => by
            dsimp only at ha
            by_cases e : i = y
            · subst e
              rw [set_at hil] at ha
              cases ha
              omega
            · rw [set_ne e, h0] at ha
              cases ha⟩
        exact ⟨s'.H, by rw [h']; rfl⟩
  exact main rs.length (Nat.le_refl _)


theorem nr_dvd (v : Int) {m : Int} : ∃ q : Int, v = nr v m + m * q := by
  have h := Int.mul_ediv_add_emod v m
  unfold nr
  split
  · exact ⟨v / m + 1, by rw [Int.mul_add, Int.mul_one]; omega⟩
  · exact ⟨v / m, by omega⟩
theorem turns_len (m : Int) (rs : List Int) (ts : List Tie) (hs : List Int) : (turnsOf m rs ts hs).length = ts.length := List.length_map _
theorem told_diff {m : Int} {rs hs : List Int} {ts : List Tie} (m0 : 0 < m) (ok : okTs ts rs.length) (hl : liftsOf m rs hs) {k : Nat} (hk : k < ts.length) : stp m rs (ts.getD k (0, 0)) + m * (turnsOf m rs ts hs).getD k 0 = hs.getD (ts.getD k (0, 0)).2 0 - hs.getD (ts.getD k (0, 0)).1 0 := by
  obtain ⟨o1, o2⟩ := ok _ (t_mem hk)
  have e : (turnsOf m rs ts hs).getD k 0 = (hs.getD (ts.getD k (0, 0)).2 0 - hs.getD (ts.getD k (0, 0)).1 0 - stp m rs (ts.getD k (0, 0))) / m := by
    unfold turnsOf
    rw [List.getD_eq_getElem?_getD, List.getElem?_map, List.getElem?_eq_getElem hk]
    have : ts.getD k (0, 0) = ts[k] := by rw [List.getD_eq_getElem?_getD, List.getElem?_eq_getElem hk]; rfl
    rw [this]
    rfl
  rw [e]
  obtain ⟨q1, h1⟩ := hl.2 (ts.getD k (0, 0)).1 (by omega)
  obtain ⟨q2, h2⟩ := hl.2 (ts.getD k (0, 0)).2 (by omega)
  obtain ⟨q, h3⟩ := nr_dvd (rs.getD (ts.getD k (0, 0)).2 0 - rs.getD (ts.getD k (0, 0)).1 0) (m := m)
  have h3 : rs.getD (ts.getD k (0, 0)).2 0 - rs.getD (ts.getD k (0, 0)).1 0 = stp m rs (ts.getD k (0, 0)) + m * q := h3
  have h4 : hs.getD (ts.getD k (0, 0)).2 0 - hs.getD (ts.getD k (0, 0)).1 0 - stp m rs (ts.getD k (0, 0)) = m * (q2 - q1 + q) := by
    rw [h1, h2, Int.mul_add, Int.mul_sub]
    omega
  rw [h4, Int.mul_ediv_cancel_left _ (by omega)]
  omega
def gd (H : Hts) (hs : List Int) (x : Nat) : Int := hat H x - hs.getD x 0
/-- with one turn changed -/
theorem changed {m : Int} {rs hs : List Int} {ts : List Tie} {H : Hts} {j : Nat} {d : Int} (m0 : 0 < m) (hd : d ≠ 0) (ok : okTs ts rs.length) (hl : liftsOf m rs hs) (hj : j < ts.length) (h : landF (toldL m rs ts ((turnsOf m rs ts hs).set j ((turnsOf m rs ts hs).getD j 0 + d))) ts rs = some H) : (∀ k, k < ts.length → k ≠ j → gd H hs (ts.getD k (0, 0)).2 = gd H hs (ts.getD k (0, 0)).1) ∧ gd H hs (ts.getD j (0, 0)).2 ≠ gd H hs (ts.getD j (0, 0)).1 := by
  obtain ⟨_, hk⟩ := land_sound ok h
  refine ⟨fun k h1 h2 => ?_, ?_⟩
  · have e := hk k h1
    rw [toldL_at h1] at e
    have : ((turnsOf m rs ts hs).set j ((turnsOf m rs ts hs).getD j 0 + d)).getD k 0 = (turnsOf m rs ts hs).getD k 0 := by
      rw [List.getD_eq_getElem?_getD, List.getElem?_set_ne (Ne.symm h2), ← List.getD_eq_getElem?_getD]
    rw [this, told_diff m0 ok hl h1] at e
    unfold gd
    omega
  · have e := hk j hj
    rw [toldL_at hj] at e
    have : ((turnsOf m rs ts hs).set j ((turnsOf m rs ts hs).getD j 0 + d)).getD j 0 = (turnsOf m rs ts hs).getD j 0 + d := by
      rw [List.getD_eq_getElem?_getD, List.getElem?_set_self (by rw [turns_len]; exact hj)]
      rfl
    rw [this, Int.mul_add, ← Int.add_assoc, told_diff m0 ok hl hj] at e
    have : m * d ≠ 0 := Int.mul_ne_zero (by omega) hd
    unfold gd
    omega
/-! ### one of them -/
theorem cnt0 {α : Type} {p : α → Bool} : ∀ {l : List α}, (∀ (k : Nat) (a : α), l[k]? = some a → p a = false) → l.countP p = 0
  | [], _ => rfl
  | a :: l, h => by
    rw [List.countP_cons, cnt0 fun k a' e => h (k + 1) a' e, if_neg (by rw [h 0 a rfl]; exact Bool.false_ne_true)]
theorem cnt1 {α : Type} {p : α → Bool} : ∀ {l : List α} {j : Nat} {a : α}, l[j]? = some a → p a = true → (∀ (k : Nat) (b : α), k ≠ j → l[k]? = some b → p b = false) → l.countP p = 1
  | [], j, a, h, _, _ => by simp at h
  | b :: l, 0, a, h, ha, ho => by
    have h : some b = some a := h
    cases h
    rw [List.countP_cons, if_pos ha, cnt0 fun k a' e => ho (k + 1) a' (by omega) e]
  | b :: l, j + 1, a, h, ha, ho => by
    rw [List.countP_cons, if_neg (by rw [ho 0 b (by omega) rfl]; exact Bool.false_ne_true), cnt1 (l := l) (j := j) h ha fun k b' hk e => ho (k + 1) b' (by omega) e]
theorem cnt_z {α : Type} {p : α → Bool} : ∀ {l : List α}, l.countP p = 0 → ∀ (k : Nat) (b : α), l[k]? = some b → p b = false
  | [], _, k, b, h => by simp at h
  | a :: l, hc, k, b, h => by
    rw [List.countP_cons] at hc
    have ha : p a = false := by
      cases e : p a with
      | false => rfl
      | true => rw [if_pos e] at hc; omega
    cases k with
    | zero => cases h; exact ha
    | succ k => exact cnt_z (l := l) (by omega) k b h
theorem cnt_one {α : Type} {p : α → Bool} : ∀ {l : List α}, l.countP p = 1 → ∃ (j : Nat) (a : α), l[j]? = some a ∧ p a = true ∧ ∀ (k : Nat) (b : α), k ≠ j → l[k]? = some b → p b = false
  | [], h => by simp at h
  | a :: l, h => by
    rw [List.countP_cons] at h
    by_cases e : p a = true
    · rw [if_pos e] at h
      refine ⟨0, a, rfl, e, fun k b hk hb => ?_⟩
      cases k with
      | zero => exact absurd rfl hk
      | succ k => exact cnt_z (l := l) (by omega) k b hb
    · rw [if_neg e] at h
      obtain ⟨j, b, h1, h2, h3⟩ := cnt_one (l := l) (by omega)
      refine ⟨j + 1, b, h1, h2, fun k c hk hc => ?_⟩
      cases k with
      | zero => cases hc; exact Bool.eq_false_iff.mpr e
      | succ k => exact h3 k c (by omega) hc
/-! ### a ring -/
def tieB (a b : Nat) : Tie := (if b < a then b else a, if b > a then b else a)
theorem const_run {f : Nat → Int} {a : Nat} : ∀ (n : Nat), (∀ i, a < i → i ≤ a + n → f i = f (i - 1)) → f (a + n) = f a
  | 0, _ => rfl
  | n + 1, h => by
    have := const_run n fun i h1 h2 => h i h1 (by omega)
    rw [h (a + (n + 1)) (by omega) (by omega), ← this]
    rfl
theorem ring_const {f : Nat → Int} {n i0 : Nat} (hi : i0 < n) (h : ∀ i, i < n → i ≠ i0 → f i = f (if i = 0 then n - 1 else i - 1)) : f i0 = f (if i0 = 0 then n - 1 else i0 - 1) := by
  by_cases e : i0 = 0
  · subst e
    rw [if_pos rfl]
    have := const_run (f := f) (a := 0) (n - 1) fun i h1 h2 => by
      have := h i (by omega) (by omega)
      rw [if_neg (by omega)] at this
      exact this
    rw [show 0 + (n - 1) = n - 1 by omega] at this
    exact this.symm
  · rw [if_neg e]
    have h1 := const_run (f := f) (a := 0) (i0 - 1) fun i h1 h2 => by
      have := h i (by omega) (by omega)
      rw [if_neg (by omega)] at this
      exact this
    have h2 := const_run (f := f) (a := i0) (n - 1 - i0) fun i h1 h2 => by
      have := h i (by omega) (by omega)
      rw [if_neg (by omega)] at this
      exact this
    have h3 := h 0 (by omega) (by omega)
    rw [if_pos rfl] at h3
    rw [show 0 + (i0 - 1) = i0 - 1 by omega] at h1
    rw [show i0 + (n - 1 - i0) = n - 1 by omega] at h2
    omega
def ringT (o : List Nat) (n : Nat) : List Tie := (List.range n).map fun i => tieB (o.getD i 0) (o.getD (if i = 0 then n - 1 else i - 1) 0)
theorem tieB_eq {g : Nat → Int} {a b : Nat} : g (tieB a b).2 = g (tieB a b).1 ↔ g a = g b := by
  unfold tieB
  dsimp only
  by_cases h : b < a
  · rw [if_pos h, if_neg (by omega)]
  · by_cases h2 : b > a
    · rw [if_neg h, if_pos h2]; exact ⟨fun e => e.symm, fun e => e.symm⟩
    · have : a = b := by omega
      subst this
      rw [if_neg h]
theorem ring_none {m : Int} {rs hs : List Int} {ts : List Tie} {o : List Nat} {n j : Nat} {d : Int} (m0 : 0 < m) (hd : d ≠ 0) (ok : okTs ts rs.length) (hl : liftsOf m rs hs) (hp : ts.Perm (ringT o n)) (hj : j < ts.length) : landF (toldL m rs ts ((turnsOf m rs ts hs).set j ((turnsOf m rs ts hs).getD j 0 + d))) ts rs = none := by
  cases h : landF (toldL m rs ts ((turnsOf m rs ts hs).set j ((turnsOf m rs ts hs).getD j 0 + d))) ts rs with
  | none => rfl
  | some H =>
    exfalso
    obtain ⟨h1, h2⟩ := changed m0 hd ok hl hj h
    have tg : ∀ k t, ts[k]? = some t → ts.getD k (0, 0) = t := fun k t e => by rw [List.getD_eq_getElem?_getD, e]; rfl
    have c := cnt1 (p := fun t : Tie => !decide (gd H hs t.2 = gd H hs t.1)) (List.getElem?_eq_getElem hj) (by
      rw [← tg j _ (List.getElem?_eq_getElem hj), decide_eq_false h2]
      rfl) (fun k b hk hb => by
      have := h1 k (List.getElem?_eq_some_iff.mp hb).1 hk
      rw [tg k b hb] at this
      rw [decide_eq_true this]
      rfl)
    rw [hp.countP_eq] at c
    obtain ⟨i0, a, e1, e2, e3⟩ := cnt_one c
    have hi : i0 < n := by
      have := (List.getElem?_eq_some_iff.mp e1).1
      rw [ringT, List.length_map, List.length_range] at this
      exact this
    have at_ : ∀ i, i < n → (ringT o n)[i]? = some (tieB (o.getD i 0) (o.getD (if i = 0 then n - 1 else i - 1) 0)) := fun i hi => by
      unfold ringT
      rw [List.getElem?_map, List.getElem?_range hi]
      rfl
    have r := ring_const (f := fun i => gd H hs (o.getD i 0)) hi fun i h3 h4 => by
      have := e3 i _ h4 (at_ i h3)
      have := of_decide_eq_true (nf this)
      exact tieB_eq.mp this
    rw [at_ i0 hi] at e1
    cases e1
    have := of_decide_eq_false (nt e2)
    exact this (tieB_eq.mpr r)
/-! ### a tree and more -/
theorem wide_none {m : Int} {rs hs : List Int} {ts : List Tie} {n j : Nat} {d : Int} (m0 : 0 < m) (hd : d ≠ 0) (ok : okTs ts rs.length) (hl : liftsOf m rs hs) (hn : rs.length = n + 1) (hT : n ≤ j) (hj : j < ts.length) (ht : ∀ k, k < n → (ts.getD k (0, 0)).2 = k + 1) : landF (toldL m rs ts ((turnsOf m rs ts hs).set j ((turnsOf m rs ts hs).getD j 0 + d))) ts rs = none := by
  cases h : landF (toldL m rs ts ((turnsOf m rs ts hs).set j ((turnsOf m rs ts hs).getD j 0 + d))) ts rs with
  | none => rfl
  | some H =>
    exfalso
    obtain ⟨h1, h2⟩ := changed m0 hd ok hl hj h
    have c : ∀ b x, x ≤ b → x < n + 1 → gd H hs x = gd H hs 0 := by
      intro b
      induction b with
      | zero => intro x h _; rw [show x = 0 by omega]
      | succ b ih =>
        intro x h3 h4
        cases x with
        | zero => rfl
        | succ k =>
          have hk := h1 k (by omega) (by omega)
          have o := ok _ (t_mem (show k < ts.length by omega))
          rw [ht k (by omega)] at hk o
          rw [hk]
          exact ih _ (by omega) (by omega)
    obtain ⟨o1, o2⟩ := ok _ (t_mem hj)
    exact h2 ((c n _ (by omega) (by omega)).trans (c n _ (by omega) (by omega)).symm)
theorem perm_map {α β : Type} {f : α → β} {a b : List β} (h : a.Perm b) : ∀ l : List α, l.map f = a → ∃ l', l.Perm l' ∧ l'.map f = b := by
  induction h with
  | nil => intro l e; exact ⟨l, .refl _, e⟩
  | cons x h ih =>
    intro l e
    cases l with
    | nil => cases e
    | cons y l =>
      have e1 : f y = x := (List.cons.inj e).1
      obtain ⟨l', h1, h2⟩ := ih l (List.cons.inj e).2
      exact ⟨y :: l', h1.cons y, by rw [List.map_cons, h2, e1]⟩
  | swap x y l =>
    intro k e
    cases k with
    | nil => cases e
    | cons u k =>
      cases k with
      | nil => cases (List.cons.inj e).2
      | cons v k =>
        have e1 := (List.cons.inj e).1
        have e2 := (List.cons.inj (List.cons.inj e).2).1
        have e3 := (List.cons.inj (List.cons.inj e).2).2
        exact ⟨v :: u :: k, .swap _ _ _, by rw [List.map_cons, List.map_cons, e1, e2, e3]⟩
  | trans _ _ ih1 ih2 =>
    intro l e
    obtain ⟨l1, a1, b1⟩ := ih1 l e
    obtain ⟨l2, a2, b2⟩ := ih2 l1 b1
    exact ⟨l2, a1.trans a2, b2⟩
/-- a tree has a land for anything told -/
theorem tree_pot {o : List Nat} (nd : o.Nodup) : ∀ (l : List (Tie × Int)), l.length < o.length ∨ l = [] → (∀ i t, l[i]? = some t → ∃ r, r ≤ i ∧ t.1 = tieB (o.getD (i + 1) 0) (o.getD r 0)) → ∃ P : Nat → Int, ∀ t ∈ l, P t.1.2 - P t.1.1 = t.2 := by
  intro l
  generalize hn : l.length = n
  induction n generalizing l with
  | zero =>
    intro _ _
    rw [List.length_eq_zero_iff.mp hn]
    exact ⟨fun _ => 0, fun t h => absurd h List.not_mem_nil⟩
  | succ n ih =>
    intro hlen0 ht
    have hne : l ≠ [] := fun e => by rw [e] at hn; cases hn
    have hlen : n + 1 < o.length := by rcases hlen0 with h | h; exact h; exact absurd h hne
    obtain ⟨pre, t, rfl⟩ : ∃ pre t, l = pre ++ [t] := ⟨l.dropLast, l.getLast hne, (List.dropLast_concat_getLast hne).symm⟩
    have hpl : pre.length = n := by rw [List.length_append, List.length_singleton] at hn; omega
    obtain ⟨P, hP⟩ := ih pre hpl (.inl (by omega)) fun i t h => ht i t (by rw [List.getElem?_append_left (List.getElem?_eq_some_iff.mp h).1]; exact h)
    obtain ⟨r, hr, et⟩ := ht n t (by rw [List.getElem?_append_right (by omega), hpl, Nat.sub_self]; rfl)
    have inj : ∀ i j, i < o.length → j < o.length → i ≠ j → o.getD i 0 ≠ o.getD j 0 := fun i j hi hj e h => by
      rw [List.getD_eq_getElem?_getD, List.getD_eq_getElem?_getD, List.getElem?_eq_getElem hi, List.getElem?_eq_getElem hj] at h
      have h : o[i] = o[j] := h
      rcases Nat.lt_or_gt_of_ne e with q | q
      · exact (List.pairwise_iff_getElem.mp nd) i j hi hj q h
      · exact (List.pairwise_iff_getElem.mp nd) j i hj hi q h.symm
    have hc := inj (n + 1) r hlen (by omega) (by omega)
    generalize hcc : o.getD (n + 1) 0 = c at *
    generalize hpp : o.getD r 0 = p at *
    refine ⟨fun x => if x = c then (if p < c then P p + t.2 else P p - t.2) else P x, fun u hu => ?_⟩
    rcases List.mem_append.mp hu with hu | hu
    · obtain ⟨i, hi, eu⟩ := List.mem_iff_getElem.mp hu
      obtain ⟨r', hr', eu'⟩ := ht i u (by rw [List.getElem?_append_left hi, List.getElem?_eq_getElem hi, eu])
      have h1 := inj (i + 1) (n + 1) (by omega) hlen (by omega)
      have h2 := inj r' (n + 1) (by omega) hlen (by omega)
      rw [hcc] at h1 h2
      have n1 : u.1.1 ≠ c ∧ u.1.2 ≠ c := by
        rw [eu']
        unfold tieB
        dsimp only
        constructor <;> split <;> assumption
      dsimp only
      rw [if_neg n1.1, if_neg n1.2]
      exact hP u hu
    · rw [List.mem_singleton.mp hu, et]
      unfold tieB
      dsimp only
      by_cases q : p < c
      · have fA1 : (if p < c then p else c) = p := if_pos q
        have fA2 : (if p > c then p else c) = c := if_neg (show ¬ p > c by omega)
        rw [fA1, fA2, if_pos rfl, if_neg (Ne.symm hc), if_pos q]
        omega
      · have q2 : p > c := by omega
        have fA1 : (if p < c then p else c) = c := if_neg q
        have fA2 : (if p > c then p else c) = p := if_pos q2
        rw [fA1, fA2, if_neg (Ne.symm hc), if_pos rfl, if_neg q]
        omega
theorem tree_land {told : List Int} {ts : List Tie} {rs : List Int} {o : List Nat} (ok : okTs ts rs.length) (nd : o.Nodup) (hl : told.length = ts.length) (tr : List Tie) (hp : ts.Perm tr) (hn : tr.length < o.length) (ht : ∀ i t, tr[i]? = some t → ∃ r, r ≤ i ∧ t = tieB (o.getD (i + 1) 0) (o.getD r 0)) : ∃ H, landF told ts rs = some H := by
  have ez : (ts.zip told).map (·.1) = ts := by
    rw [← List.unzip_fst, List.unzip_zip hl.symm]
  obtain ⟨l', p1, p2⟩ := perm_map hp (ts.zip told) ez
  have ll : l'.length = tr.length := by rw [← p2, List.length_map]
  obtain ⟨P, hP⟩ := tree_pot nd l' (.inl (by omega)) fun i t h => by
    have : tr[i]? = some t.1 := by rw [← p2, List.getElem?_map, h]; rfl
    exact ht i t.1 this
  refine land_comes ok (P := P) fun k hk => ?_
  have hz : (ts.zip told)[k]? = some (ts.getD k (0, 0), told.getD k 0) := by
    rw [List.getElem?_zip_eq_some]
    rw [List.getD_eq_getElem?_getD, List.getD_eq_getElem?_getD, List.getElem?_eq_getElem hk, List.getElem?_eq_getElem (by omega)]
    exact ⟨rfl, rfl⟩
  exact hP _ (p1.mem_iff.mp (List.mem_of_getElem? hz))


theorem F23_14 : @Fns.F (inst t23) 14 = s14 := rfl
theorem F23_5 : @Fns.F (inst t23) 5 = s5 := rfl
theorem F23_18 : @Fns.F (inst t23) 18 = s18 := rfl
theorem F23_21 : @Fns.F (inst t23) 21 = s21 := rfl
theorem F23_20 : @Fns.F (inst t23) 20 = s20 := rfl
theorem F23_22 : @Fns.F (inst t23) 22 = s22 := rfl
theorem F23_19 : @Fns.F (inst t23) 19 = s19 := rfl
theorem F23_6 : @Fns.F (inst t23) 6 = s6 := rfl
theorem F23_9 : @Fns.F (inst t23) 9 = s9 := rfl
theorem F23_11 : @Fns.F (inst t23) 11 = s11 := rfl
theorem chart_at {l : List FSem} {k : Nat} (h : @Fns.F (inst l) k = s14) (p : Pot) {m : Int} {rs : List Int} {ts : List Tie} (m0 : 0 < m) (m1 : m ≤ 10000) (rl : rs.length ≤ 80) (tll : ts.length ≤ 80) (ok : okTs ts rs.length) : ∃ (s : Scn) (p' : Pot), s.m = m ∧ s.rs = rs ∧ s.ts = ts ∧ @Fns.F (inst l) k [po p, .int m, rsD rs, tsD ts] = .ret s.chart [po p'] := by
  obtain ⟨s, p', a, b, c, e⟩ := chart_ok p m0 m1 rl tll ok
  exact ⟨s, p', a, b, c, fe h e⟩
theorem heights_at {l : List FSem} {k : Nat} (h : @Fns.F (inst l) k = s20) (p : Pot) {m : Int} {rs : List Int} (m0 : 0 < m) (m1 : m ≤ 10000) (rl : rs.length ≤ 80) : ∃ (hs : List Int) (p' : Pot), liftsOf m rs hs ∧ @Fns.F (inst l) k [po p, .int m, rsD rs] = .ret (landD hs) [po p'] := by
  obtain ⟨hs, p', a, b⟩ := heights_ok p m0 m1 rl
  exact ⟨hs, p', a, fe h b⟩
theorem nice_out {told : List Int} {ts : List Tie} {rs : List Int} (ok : okTs ts rs.length) (rl : rs.length ≤ 80) : nice 16 (outD (landF told ts rs)) = true := by
  cases h : landF told ts rs with
  | none => rfl
  | some H =>
    have := (land_sound ok h).1
    exact nice_map (fun o => nice_o 14 o) (by omega)
theorem nice_ints {l : List Int} (h : l.length ≤ 1000) : nice 16 (.tup (l.map D.int)) = true := nice_map (fun _ => rfl) h
theorem out_frz (o : Option Hts) : frzD (outD o) = true := by cases o <;> rfl
theorem out_fz (o : Option Hts) : fzD (outD o) = outD o := by cases o <;> rfl
theorem Scn.land (s : Scn) {m : Int} {rs : List Int} {ts : List Tie} (e1 : s.m = m) (e2 : s.rs = rs) (e3 : s.ts = ts) {w : List Int} (hw : w.length = ts.length) : s9 [s.chart, .tup (w.map D.int)] = .ret (outD (landF (toldL m rs ts w) ts rs)) [] := by
  subst e1 e2 e3
  rw [land_turns s w hw, told_eq]
theorem set_ints (w : List Int) (j : Nat) (z : Int) : (w.map D.int).set j (.int z) = (w.set j z).map D.int := by rw [List.map_set]
/-- one of some numbers that are not zero -/
theorem pick_nz {l : List FSem} {k : Nat} {ds : List D} {r : Int} (h0 : 0 ≤ r) (h1 : r < ds.length) (h : ∀ d ∈ ds, ∃ z : Int, d = .int z ∧ z ≠ 0) : ∃ z : Int, O2.idx.sem (.lst true ds) (.int r) = some (.int z) ∧ z ≠ 0 := by
  obtain ⟨d, hd, z, rfl, hz⟩ := pickL (o := true) h0 h1 h
  exact ⟨z, hd, hz⟩
theorem fill2 {a b : D} {ρ : Ev} (ha : frzD a = true) (hb : frzD b = true) : fill [none, none] [a, b] ρ = some [a, b] := by
  show (if frzD a = true then (match (if frzD b = true then some [b] else none) with | some l => some (a :: l) | none => none) else none) = _
  rw [if_pos ha, if_pos hb]
theorem holds_ok (p : Pot) {m : Int} {rs : List Int} {ts : List Tie} (m0 : 0 < m) (m1 : m ≤ 10000) (rl : rs.length ≤ 80) (tll : ts.length ≤ 80) (ok : okTs ts rs.length) : ∃ p' : Pot, s23 [po p, .int m, rsD rs, tsD ts] = .ret (.bl true) [po p'] := by
  have main : @wpF (inst t23) n23.length io23 b23 [po p, .int m, rsD rs, tsD ts] (fun d l => ∃ p' : Pot, d = .bl true ∧ l = [po p']) := by
    obtain ⟨s, p1, e1, e2, e3, hc⟩ := chart_at F23_14 p m0 m1 rl tll ok
    refine ⟨_, rfl, _, rfl, rfl, _, rfl, rfl, _, rfl, rfl, _, rfl, _, _, hc, _, rfl, ?_⟩
    refine ⟨_, rfl, _, len_map tD2 ts false, _, rng1 (by omega) (by omega), ?_⟩
    refine ⟨fun i ρ => ∃ d5, ρ = [some (po p1), some (.int m), some (rsD rs), some (tsD ts), some s.chart, d5, none, none, none, none], ⟨_, rfl⟩, ?_, ?_⟩
    · rintro i d ρ hd ⟨d5, rfl⟩
      obtain ⟨rfl, hi⟩ := rng_get _ _ _ _ hd
      have hi : i < ts.length := by omega
      rw [Int.zero_add]
      obtain ⟨o1, o2⟩ := ok _ (t_mem hi)
      have st := s.step_ok (k := i) (by rw [e3]; exact hi)
      rw [e1, e2, e3] at st
      refine ⟨_, rfl, ?_⟩
      refine ⟨_, rfl, rfl, _, rfl, rfl, _, rfl, _, _, fe F23_5 st, _, rfl, ?_⟩
      refine ⟨_, rfl, rfl, _, rfl, rfl, _, rfl, _, rfl, _, t_at hi, rfl, _, rfl, _, _, fe F23_18 (stp_ok m0 (by omega) (by omega)), _, rfl, ?_⟩
      refine ⟨_, rfl, _, _, fe F23_21 (same_ok (d := .int (stp m rs (ts.getD i (0, 0)))) rfl), _, rfl, _, rfl, _, rfl, (fun z => nomatch z), fun _ => ⟨_, rfl⟩⟩
    · rintro ρ ⟨d5, rfl⟩
      refine ⟨_, rfl, ?_⟩
      refine ⟨fun i ρ => ∃ (p : Pot) (d5 d6 d7 d8 d9 : Option D), ρ = [some (po p), some (.int m), some (rsD rs), some (tsD ts), some s.chart, d5, d6, d7, d8, d9], ⟨p1, _, _, _, _, _, rfl⟩, ?_, ?_⟩
      · rintro i d ρ hd ⟨p, d5, d6, d7, d8, d9, rfl⟩
        obtain ⟨hs, p1, hl, hh⟩ := heights_at F23_20 p m0 m1 rl
        have tl := turns_len m rs ts hs
        refine ⟨_, rfl, ?_⟩
        refine ⟨_, rfl, _, rfl, rfl, _, rfl, rfl, _, rfl, _, _, hh, _, rfl, ?_⟩
        refine ⟨_, rfl, rfl, _, rfl, rfl, _, rfl, rfl, _, rfl, rfl, _, rfl, _, _, fe F23_22 (turns_ok m0 m1 hl.1 tll ok), _, rfl, ?_⟩
        have ht6 : s6 [s.chart, landD hs] = .ret (.tup ((turnsOf m rs ts hs).map D.int)) [] := by
          have := s.turns_ok (hs := hs) (by rw [e2]; exact hl.1)
          rw [e1, e2, e3] at this
          exact this
        generalize turnsOf m rs ts hs = w at *
        have out1 := s.land e1 e2 e3 tl
        have nw := nice_ints (l := w) (by omega)
        have no := nice_out (told := toldL m rs ts w) ok rl
        refine ⟨_, rfl, rfl, _, rfl, rfl, _, rfl, rfl, _, rfl, _, rfl, _, _, fe F23_19 (law_land m0 m1 rl tll ok tl), _, rfl, ?_⟩
        have or1 : ∀ (Q : D → Ev → Prop), Q (.bl false) [some (po p1), some (.int m), some (rsD rs), some (tsD ts), some s.chart, d5, some d, some (landD hs), some (.lst true (w.map D.int)), some (outD (landF (toldL m rs ts w) ts rs))] → @wpE (inst t23) (.or (.o1 .notO (.call [none, none] 21 (.cons (.call [none, none] 6 (.cons (.ck (.var 4)) (.cons (.ck (.var 7)) .nil))) (.cons (.o1 .tuple (.var 8)) .nil)))) (.o1 .notO (.call [none, none] 21 (.cons (.call [none, none] 9 (.cons (.ck (.var 4)) (.cons (.o1 .tuple (.var 8)) .nil))) (.cons (.ck (.var 9)) .nil))))) [some (po p1), some (.int m), some (rsD rs), some (tsD ts), some s.chart, d5, some d, some (landD hs), some (.lst true (w.map D.int)), some (outD (landF (toldL m rs ts w) ts rs))] Q := by
          intro Q hQ
          refine ⟨_, rfl, rfl, _, rfl, rfl, _, rfl, _, _, fe F23_6 ht6, _, rfl, _, rfl, _, tuple_k (ints_frz w), _, rfl, _, _, fe F23_21 (same_ok nw), _, rfl, _, rfl, false, rfl, (fun z => nomatch z), fun _ => ?_⟩
          exact ⟨_, rfl, rfl, _, rfl, _, tuple_k (ints_frz w), _, rfl, _, _, fe F23_9 out1, _, rfl, _, rfl, out_frz _, _, fill2 (out_frz _) (out_frz _), _, _, fe F23_21 (same_ok no), _, rfl, _, rfl, hQ⟩
        refine or1 _ ⟨false, rfl, (fun z => nomatch z), fun _ => ?_⟩
        refine ⟨_, rfl, _, len_map tD2 ts false, _, rfl, _, rfl, (fun z => ?_), fun z => ⟨_, _, _, _, _, _, rfl⟩⟩
        have z : (0 : Int) < (ts.length : Int) := of_decide_eq_true z
        obtain ⟨r, p2, r1, hr⟩ := pour_n F23_11 p1 ts.length (by omega) (by omega)
        obtain ⟨q, p3, q1, hq⟩ := pour_n F23_11 p2 4 (by omega) (by omega)
        obtain ⟨δ, hδ, δ0⟩ := pick_nz (l := t23) (k := 0) (ds := [.int 1, .int (-1), .int 2, .int (10 ^ 12)]) (r := (q : Int)) (by omega) (by show (q : Int) < 4; omega) (by
          intro d hd
          simp only [List.mem_cons, List.not_mem_nil, or_false] at hd
          rcases hd with rfl | rfl | rfl | rfl <;> exact ⟨_, rfl, by decide⟩)
        refine ⟨rfl, _, rfl, _, rfl, _, len_map tD2 ts false, _, rfl, _, _, hr, _, rfl, (r : Int), w.map D.int, w.getD r 0, rfl, rfl, atI_nat (getD_at (by omega)), ?_⟩
        refine ⟨_, rfl, _, pow_kk (a := 10) (b := 12) (by omega) (by omega) (by decide), (Nat.le_of_ble_eq_true rfl), _, rfl, _, rfl, _, _, hq, _, rfl, _, hδ, δ, w.map D.int, _, r, rfl, rfl, rfl, ixn (by rw [List.length_map]; omega), ?_⟩
        rw [set_ints]
        generalize hw' : w.set r (w.getD r 0 + δ) = w'
        have tl' : w'.length = ts.length := by rw [← hw', List.length_set]; exact tl
        have out2 := s.land e1 e2 e3 tl'
        have no' := nice_out (told := toldL m rs ts w') ok rl
        refine ⟨_, rfl, _, tuple_k (ints_frz w'), _, rfl, rfl, rfl, _, fe F23_9 out2, ?_⟩
        refine ⟨_, rfl, rfl, _, rfl, rfl, _, rfl, rfl, _, rfl, _, rfl, _, _, fe F23_19 (law_land m0 m1 rl tll ok tl'), _, rfl, ?_⟩
        refine ⟨_, fill2 (out_frz _) (out_frz _), _, _, fe F23_21 (same_ok no'), _, rfl, _, rfl, false, rfl, (fun z => nomatch z), fun _ => ⟨_, _, _, _, _, _, rfl⟩⟩
      · rintro ρ ⟨p, d5, d6, d7, d8, d9, rfl⟩
        exact ⟨_, rfl, p, rfl, rfl⟩
  obtain ⟨d, l, h1, p', rfl, rfl⟩ := @wpF_ok (inst t23) _ _ _ _ _ main
  exact ⟨p', h1⟩


theorem F24_11 : @Fns.F (inst t24) 11 = s11 := rfl
theorem F24_16 : @Fns.F (inst t24) 16 = s16 := rfl
theorem F24_12 : @Fns.F (inst t24) 12 = s12 := rfl
theorem F24_14 : @Fns.F (inst t24) 14 = s14 := rfl
theorem F24_20 : @Fns.F (inst t24) 20 = s20 := rfl
theorem F24_22 : @Fns.F (inst t24) 22 = s22 := rfl
theorem F24_21 : @Fns.F (inst t24) 21 = s21 := rfl
theorem F24_9 : @Fns.F (inst t24) 9 = s9 := rfl
theorem F24_19 : @Fns.F (inst t24) 19 = s19 := rfl
theorem read_at {l : List FSem} {k : Nat} (h : @Fns.F (inst l) k = s16) (p : Pot) {m : Int} {n : Nat} (m0 : 0 < m) (m1 : m ≤ 10000) (hn : n ≤ 80) : ∃ (rs : List Int) (p' : Pot), rs.length = n ∧ @Fns.F (inst l) k [po p, .int m, .int (n : Int)] = .ret (rsD rs) [po p'] := by
  obtain ⟨rs, p', a, b⟩ := read_ok p m0 m1 hn
  exact ⟨rs, p', a, fe h b⟩
theorem ord_at {l : List FSem} {k : Nat} (h : @Fns.F (inst l) k = s12) (p : Pot) {n : Nat} (hn : n ≤ 80) : ∃ (o : List Nat) (p' : Pot), o.Perm (List.range n) ∧ @Fns.F (inst l) k [po p, .lst false (natsD (List.range n))] = .ret (.lst true (natsD o)) [po p'] := by
  obtain ⟨o, p', a, b⟩ := mixed_ok p (List.range n) (by rw [List.length_range]; omega)
  exact ⟨o, p', a, fe h b⟩
theorem mix_at {l : List FSem} {k : Nat} (h : @Fns.F (inst l) k = s12) (p : Pot) (ts : List Tie) (hn : ts.length ≤ 80) : ∃ (ts' : List Tie) (p' : Pot), ts'.Perm ts ∧ @Fns.F (inst l) k [po p, .lst false (ts.map tD2)] = .ret (.lst true (ts'.map tD2)) [po p'] := by
  obtain ⟨ts', p', a, b⟩ := mixedG (f := tD2) (fun _ => rfl) (fun _ => rfl) p ts (by omega)
  exact ⟨ts', p', a, fe h b⟩
theorem o_at {o : List Nat} {i : Nat} (h : i < o.length) : O2.idx.sem (.lst false (natsD o)) (.int (i : Int)) = some (.int ((o.getD i 0 : Nat) : Int)) := atI_nat (by unfold natsD; rw [List.getElem?_map, List.getElem?_eq_getElem h, List.getD_eq_getElem?_getD, List.getElem?_eq_getElem h]; rfl)
theorem o_prev {o : List Nat} {n i : Nat} (hl : o.length = n) (h : i < n) : O2.idx.sem (.lst false (natsD o)) (.int ((i : Int) - 1)) = some (.int ((o.getD (if i = 0 then n - 1 else i - 1) 0 : Nat) : Int)) := by
  by_cases e : i = 0
  · subst e
    rw [if_pos rfl, ← o_at (o := o) (i := n - 1) (by omega)]
    show atI (natsD o) _ = atI (natsD o) _
    have : ixN (natsD o).length (((0 : Nat) : Int) - 1) = ixN (natsD o).length ((n - 1 : Nat) : Int) := by
      rw [ixn (show n - 1 < (natsD o).length by rw [nats_len]; omega)]
      unfold ixN
      rw [if_neg (by omega), if_pos (by rw [nats_len]; omega), nats_len]
      congr 1
      omega
    unfold atI
    rw [this]
  · rw [if_neg e, ← o_at (o := o) (i := i - 1) (by omega)]
    rw [show ((i : Int) - 1) = ((i - 1 : Nat) : Int) by omega]
theorem tieB_D (a b : Nat) : D.tup [.int (if (b : Int) < (a : Int) then (b : Int) else (a : Int)), .int (if (b : Int) > (a : Int) then (b : Int) else (a : Int))] = tD2 (tieB a b) := by
  unfold tD2 tieB
  dsimp only
  by_cases h : b < a
  · rw [if_pos (show (b : Int) < (a : Int) by omega), if_pos h, if_neg (show ¬ (b : Int) > (a : Int) by omega), if_neg (show ¬ b > a by omega)]
  · by_cases h2 : b > a
    · rw [if_neg (show ¬ (b : Int) < (a : Int) by omega), if_neg h, if_pos (show (b : Int) > (a : Int) by omega), if_pos h2]
    · rw [if_neg (show ¬ (b : Int) < (a : Int) by omega), if_neg h, if_neg (show ¬ (b : Int) > (a : Int) by omega), if_neg h2]
theorem tieB_ok {a b n : Nat} (h : a ≠ b) (ha : a < n) (hb : b < n) : (tieB a b).1 < (tieB a b).2 ∧ (tieB a b).2 < n := by
  unfold tieB
  dsimp only
  by_cases q : b < a
  · rw [if_pos q, if_neg (show ¬ b > a by omega)]; exact ⟨q, ha⟩
  · rw [if_neg q, if_pos (show b > a by omega)]; exact ⟨by omega, hb⟩
theorem ord_ne {o : List Nat} {n i j : Nat} (hp : o.Perm (List.range n)) (hi : i < n) (hj : j < n) (h : i ≠ j) : o.getD i 0 ≠ o.getD j 0 := by
  have hl : o.length = n := by rw [hp.length_eq, List.length_range]
  have nd : o.Nodup := hp.nodup_iff.mpr List.nodup_range
  intro e
  rw [List.getD_eq_getElem?_getD, List.getD_eq_getElem?_getD, List.getElem?_eq_getElem (show i < o.length by omega), List.getElem?_eq_getElem (show j < o.length by omega)] at e
  have e : o[i] = o[j] := e
  rcases Nat.lt_or_gt_of_ne h with q | q
  · exact (List.pairwise_iff_getElem.mp nd) i j (by omega) (by omega) q e
  · exact (List.pairwise_iff_getElem.mp nd) j i (by omega) (by omega) q e.symm
theorem ord_lt {o : List Nat} {n i : Nat} (hp : o.Perm (List.range n)) (hi : i < n) : o.getD i 0 < n := by
  have hl : o.length = n := by rw [hp.length_eq, List.length_range]
  rw [List.getD_eq_getElem?_getD, List.getElem?_eq_getElem (show i < o.length by omega)]
  exact List.mem_range.mp (hp.mem_iff.mp (List.getElem_mem _))
theorem ok_perm {a b : List Tie} {n : Nat} (h : a.Perm b) (ok : okTs b n) : okTs a n := fun t ht => ok t (h.mem_iff.mp ht)
theorem ring_ok' {o : List Nat} {n : Nat} (hn : 3 ≤ n) (hp : o.Perm (List.range n)) : okTs (ringT o n) n := by
  intro t ht
  obtain ⟨i, hi, rfl⟩ := List.mem_map.mp ht
  have hi := List.mem_range.mp hi
  have hj : (if i = 0 then n - 1 else i - 1) < n := by split <;> omega
  exact tieB_ok (ord_ne hp hi hj (by split <;> omega)) (ord_lt hp hi) (ord_lt hp hj)
theorem ts_fzs (ts : List Tie) : fzDs (ts.map tD2) = ts.map tD2 := fzs_map tD2_fz ts
theorem ring_ok (p : Pot) {m : Int} (m0 : 0 < m) (m1 : m ≤ 10000) : ∃ p' : Pot, s24 [po p, .int m] = .ret (.bl true) [po p'] := by
  have main : @wpF (inst t24) n24.length io24 b24 [po p, .int m] (fun d l => ∃ p' : Pot, d = .bl true ∧ l = [po p']) := by
    obtain ⟨a, p1, a1, ha⟩ := pour_n F24_11 p 4 (by omega) (by omega)
    obtain ⟨n, hn⟩ : ∃ n : Nat, n = 3 + a := ⟨_, rfl⟩
    have hn' : (3 : Int) + (a : Int) = (n : Int) := by omega
    have stage : @wpSs (inst t24) (dropS 1 b24) [some (po p1), some (.int m), some (.int (n : Int)), none, none, none, none, none, none, none, none] (fPost io24 fun d l => ∃ p' : Pot, d = .bl true ∧ l = [po p']) := by
      obtain ⟨rs, p2, rl, hr⟩ := read_at F24_16 p1 (n := n) m0 m1 (by omega)
      obtain ⟨o, p3, op, ho⟩ := ord_at F24_12 p2 (n := n) (by omega)
      have ol : o.length = n := by rw [op.length_eq, List.length_range]
      refine ⟨_, rfl, _, rfl, rfl, _, rfl, rfl, _, rfl, _, _, hr, _, rfl, ?_⟩
      refine ⟨_, rfl, _, rfl, rfl, _, rng1 (by omega) (by omega), by rw [rng_len]; show _ ≤ 16777216; omega, ?_⟩
      rw [rng_nats0, show ((n : Nat) : Int).toNat = n by omega]
      refine ⟨_, ?_, _, _, ho, _, rfl, ?_⟩
      · show fill [some 0, none] [.non, .lst false (fzDs (natsD (List.range n)))] _ = _
        rw [nats_fz]
        rfl
      show @wpSs (inst t24) (dropS 3 b24) [some (po p3), some (.int m), some (.int (n : Int)), some (rsD rs), some (.lst false (fzDs (natsD o))), none, none, none, none, none, none] _
      rw [nats_fz]
      refine ⟨(Nat.le_of_ble_eq_true rfl), _, rfl, rfl, _, rng1 (by omega) (by omega), ?_⟩
      refine ⟨fun i ρ => ∃ d6 d9 d10, ρ = [some (po p3), some (.int m), some (.int (n : Int)), some (rsD rs), some (.lst false (natsD o)), some (.lst true (((List.range i).map fun i => tieB (o.getD i 0) (o.getD (if i = 0 then n - 1 else i - 1) 0)).map tD2)), d6, none, none, d9, d10], ⟨_, _, _, rfl⟩, ?_, ?_⟩
      · rintro i d ρ hd ⟨d6, d9, d10, rfl⟩
        obtain ⟨rfl, hi⟩ := rng_get _ _ _ _ hd
        have hi : i < n := by omega
        rw [Int.zero_add]
        refine ⟨_, rfl, ?_⟩
        refine ⟨_, rfl, _, rfl, _, o_at (by omega), rfl, _, rfl, _, rfl, _, rfl, _, o_prev ol hi, rfl, ?_⟩
        refine ⟨rfl, _, rfl, _, rfl, _, rfl, _, rfl, _, rfl, _, rfl, ⟨rfl, (Nat.le_of_ble_eq_true rfl)⟩, _, rfl, by rw [List.length_map, List.length_map, List.length_range]; show _ < 16777216; omega, ?_⟩
        refine ⟨some (.int (i : Int)), some (.int ((o.getD i 0 : Nat) : Int)), some (.int ((o.getD (if i = 0 then n - 1 else i - 1) 0 : Nat) : Int)), ?_⟩
        rw [List.range_succ, List.map_append, List.map_append]
        show _ = [_, _, _, _, _, some (D.lst true (_ ++ [tD2 (tieB _ _)])), _, _, _, _, _]
        rw [← tieB_D]
        rfl
      · rintro ρ ⟨d6, d9, d10, rfl⟩
        rw [rng_len, show ((n : Nat) : Int).toNat = n by omega]
        have e0 : (List.range n).map (fun i => tieB (o.getD i 0) (o.getD (if i = 0 then n - 1 else i - 1) 0)) = ringT o n := rfl
        rw [e0]
        have rlen : (ringT o n).length = n := by unfold ringT; rw [List.length_map, List.length_range]
        obtain ⟨ts, p4, tp, hm⟩ := mix_at F24_12 p3 (ringT o n) (by omega)
        have tl : ts.length = n := by rw [tp.length_eq, rlen]
        have ok : okTs ts rs.length := by rw [rl]; exact ok_perm tp (ring_ok' (by omega) op)
        obtain ⟨s, p5, e1, e2, e3, hc⟩ := chart_at F24_14 p4 m0 m1 (by omega) (by omega) ok
        obtain ⟨hs, p6, hl, hh⟩ := heights_at F24_20 p5 (rs := rs) m0 m1 (by omega)
        have twl := turns_len m rs ts hs
        refine ⟨_, rfl, _, rfl, _, ?_, _, _, hm, _, rfl, ?_⟩
        · show fill [some 0, none] [.non, .lst false (fzDs ((ringT o n).map tD2))] _ = _
          rw [ts_fzs]
          rfl
        show @wpSs (inst t24) (dropS 6 b24) [some (po p4), some (.int m), some (.int (n : Int)), some (rsD rs), some (.lst false (natsD o)), some (.lst true (ts.map tD2)), d6, none, none, d9, d10] _
        have fA1 : fzD (.lst true (ts.map tD2)) = tsD ts := congrArg (D.lst false) (ts_fzs ts)
        refine ⟨_, rfl, _, rfl, rfl, _, rfl, rfl, _, rfl, ?_⟩
        rw [fA1]
        refine ⟨_, rfl, _, _, hc, _, rfl, ?_⟩
        show @wpSs (inst t24) (dropS 7 b24) [some (po p5), some (.int m), some (.int (n : Int)), some (rsD rs), some (.lst false (natsD o)), some (tsD ts), d6, some s.chart, none, d9, d10] _
        refine ⟨_, rfl, rfl, _, rfl, rfl, _, rfl, _, rfl, _, rfl, rfl, _, rfl, rfl, _, rfl, _, _, hh, _, rfl, _, rfl, _, _, fe F24_22 (turns_ok m0 m1 hl.1 (by omega) ok), _, rfl, ?_⟩
        show @wpSs (inst t24) (dropS 8 b24) [some (po p6), some (.int m), some (.int (n : Int)), some (rsD rs), some (.lst false (natsD o)), some (tsD ts), d6, some s.chart, some (.lst true ((turnsOf m rs ts hs).map D.int)), d9, d10] _
        have no := nice_out (told := toldL m rs ts (turnsOf m rs ts hs)) ok (by omega)
        refine ⟨_, rfl, rfl, _, rfl, _, tuple_k (ints_frz _), _, rfl, _, _, fe F24_9 (s.land e1 e2 e3 twl), _, rfl, ?_⟩
        refine ⟨_, rfl, rfl, _, rfl, rfl, _, rfl, _, rfl, _, rfl, _, _, fe F24_19 (law_land m0 m1 (by omega) (by omega) ok twl), _, rfl, ?_⟩
        refine ⟨_, fill2 (out_frz _) (out_frz _), _, _, fe F24_21 (same_ok no), _, rfl, _, rfl, false, rfl, (fun z => nomatch z), fun _ => ?_⟩
        obtain ⟨q, p7, q1, hq⟩ := pour_n F24_11 p6 n (by omega) (by omega)
        obtain ⟨b, p8, b1, hb⟩ := pour_n F24_11 p7 2 (by omega) (by omega)
        obtain ⟨d, hd, x, rfl, x0, x1⟩ := pickL (o := true) (l := [.int (q : Int), .int ((n : Int) - 1)]) (r := (b : Int)) (P := fun d => ∃ x : Int, d = .int x ∧ 0 ≤ x ∧ x < (n : Int)) (by omega) (by show (b : Int) < 2; omega) (by
          intro d hd
          simp only [List.mem_cons, List.not_mem_nil, or_false] at hd
          rcases hd with rfl | rfl <;> exact ⟨_, rfl, by omega, by omega⟩)
        obtain ⟨j, rfl⟩ := nth_nat x0
        have hj : j < n := by omega
        obtain ⟨c, p9, c1, hcc⟩ := pour_n F24_11 p8 5 (by omega) (by omega)
        obtain ⟨δ, hδ, δ0⟩ := pick_nz (l := t24) (k := 0) (ds := [.int 1, .int (-1), .int 3, .int (-5), .int (-(10 ^ 9))]) (r := (c : Int)) (by omega) (by show (c : Int) < 5; omega) (by
          intro d hd
          simp only [List.mem_cons, List.not_mem_nil, or_false] at hd
          rcases hd with rfl | rfl | rfl | rfl | rfl <;> exact ⟨_, rfl, by decide⟩)
        have none := ring_none m0 δ0 ok hl tp (j := j) (by omega)
        refine ⟨rfl, _, rfl, _, rfl, rfl, _, rfl, _, _, hq, _, rfl, _, rfl, _, rfl, (Nat.le_of_ble_eq_true rfl), _, rfl, _, rfl, _, _, hb, _, rfl, _, hd, (j : Int), (turnsOf m rs ts hs).map D.int, (turnsOf m rs ts hs).getD j 0, rfl, rfl, atI_nat (getD_at (by omega)), ?_⟩
        refine ⟨_, rfl, _, rfl, _, pow_kk (a := 10) (b := 9) (by omega) (by omega) (by decide), _, rfl, (Nat.le_of_ble_eq_true rfl), _, rfl, _, rfl, _, _, hcc, _, rfl, _, hδ, δ, (turnsOf m rs ts hs).map D.int, _, j, rfl, rfl, rfl, ixn (by rw [List.length_map]; omega), ?_⟩
        rw [set_ints]
        have tl' : ((turnsOf m rs ts hs).set j ((turnsOf m rs ts hs).getD j 0 + δ)).length = ts.length := by rw [List.length_set]; exact twl
        have out2 := s.land e1 e2 e3 tl'
        rw [none] at out2
        exact ⟨_, rfl, rfl, _, rfl, _, tuple_k (ints_frz _), _, rfl, _, _, fe F24_9 out2, _, rfl, _, rfl, _, rfl, p9, rfl, rfl⟩
    refine ⟨_, rfl, _, rfl, _, _, ha, _, rfl, _, rfl, ?_⟩
    show @wpSs (inst t24) (dropS 1 b24) [some (po p1), some (.int m), some (.int ((3 : Int) + (a : Int))), none, none, none, none, none, none, none, none] (fPost io24 fun d l => ∃ p' : Pot, d = .bl true ∧ l = [po p'])
    rw [hn']
    exact stage
  obtain ⟨d, l, h1, p', rfl, rfl⟩ := @wpF_ok (inst t24) _ _ _ _ _ main
  exact ⟨p', h1⟩


theorem F25_11 : @Fns.F (inst t25) 11 = s11 := rfl
theorem F25_16 : @Fns.F (inst t25) 16 = s16 := rfl
theorem F25_12 : @Fns.F (inst t25) 12 = s12 := rfl
theorem F25_14 : @Fns.F (inst t25) 14 = s14 := rfl
theorem F25_21 : @Fns.F (inst t25) 21 = s21 := rfl
theorem F25_9 : @Fns.F (inst t25) 9 = s9 := rfl
theorem F25_19 : @Fns.F (inst t25) 19 = s19 := rfl
def treeOk (o : List Nat) (l : List Tie) : Prop := ∀ i t, l[i]? = some t → ∃ r, r ≤ i ∧ t = tieB (o.getD (i + 1) 0) (o.getD r 0)
theorem treeOk_snoc {o : List Nat} {l : List Tie} {r : Nat} (h : treeOk o l) (hr : r ≤ l.length) : treeOk o (l ++ [tieB (o.getD (l.length + 1) 0) (o.getD r 0)]) := by
  intro i t hi
  by_cases q : i < l.length
  · rw [List.getElem?_append_left q] at hi
    exact h i t hi
  · rw [List.getElem?_append_right (by omega)] at hi
    have e : i - l.length = 0 := by
      cases hh : i - l.length with
      | zero => rfl
      | succ k => rw [hh] at hi; simp at hi
    rw [e] at hi
    cases hi
    have : i = l.length := by omega
    subst this
    exact ⟨r, hr, rfl⟩
theorem treeOk_ok {o : List Nat} {l : List Tie} {n : Nat} (hp : o.Perm (List.range n)) (hl : l.length < n) (h : treeOk o l) : okTs l n := by
  intro t ht
  obtain ⟨i, hi, e⟩ := List.mem_iff_getElem.mp ht
  obtain ⟨r, hr, rfl⟩ := h i t (by rw [List.getElem?_eq_getElem hi, e])
  exact tieB_ok (ord_ne hp (by omega) (by omega) (by omega)) (ord_lt hp (by omega)) (ord_lt hp (by omega))
theorem rng2 {i j : Int} (a1 : -4611686018427387904 ≤ i) (a2 : i < 4611686018427387904) (h0 : -4611686018427387904 ≤ j) (h1 : j < 4611686018427387904) : rngOf [.int i, .int j] = some (rngD i (j - i).toNat) := if_pos ⟨⟨a1, a2⟩, h0, h1⟩
theorem tree_ok (p : Pot) {m : Int} (m0 : 0 < m) (m1 : m ≤ 10000) : ∃ p' : Pot, s25 [po p, .int m] = .ret (.bl true) [po p'] := by
  have main : @wpF (inst t25) n25.length io25 b25 [po p, .int m] (fun d l => ∃ p' : Pot, d = .bl true ∧ l = [po p']) := by
    obtain ⟨a, p1, a1, ha⟩ := pour_n F25_11 p 7 (by omega) (by omega)
    obtain ⟨n, hn⟩ : ∃ n : Nat, n = 2 + a := ⟨_, rfl⟩
    have hn' : (2 : Int) + (a : Int) = (n : Int) := by omega
    have stage : @wpSs (inst t25) (dropS 1 b25) [some (po p1), some (.int m), some (.int (n : Int)), none, none, none, none, none, none, none, none, none, none] (fPost io25 fun d l => ∃ p' : Pot, d = .bl true ∧ l = [po p']) := by
      obtain ⟨rs, p2, rl, hr⟩ := read_at F25_16 p1 (n := n) m0 m1 (by omega)
      obtain ⟨o, p3, op, ho⟩ := ord_at F25_12 p2 (n := n) (by omega)
      have ol : o.length = n := by rw [op.length_eq, List.length_range]
      refine ⟨_, rfl, _, rfl, rfl, _, rfl, rfl, _, rfl, _, _, hr, _, rfl, ?_⟩
      refine ⟨_, rfl, _, rfl, rfl, _, rng1 (by omega) (by omega), by rw [rng_len]; show _ ≤ 16777216; omega, ?_⟩
      rw [rng_nats0, show ((n : Nat) : Int).toNat = n by omega]
      refine ⟨_, ?_, _, _, ho, _, rfl, ?_⟩
      · show fill [some 0, none] [.non, .lst false (fzDs (natsD (List.range n)))] _ = _
        rw [nats_fz]
        rfl
      show @wpSs (inst t25) (dropS 3 b25) [some (po p3), some (.int m), some (.int (n : Int)), some (rsD rs), some (.lst false (fzDs (natsD o))), none, none, none, none, none, none, none, none] _
      rw [nats_fz]
      refine ⟨(Nat.le_of_ble_eq_true rfl), _, rfl, rfl, _, rng2 (by omega) (by omega) (by omega) (by omega), ?_⟩
      refine ⟨fun i ρ => ∃ (p : Pot) (tr : List Tie) (d6 d10 d11 : Option D), tr.length = i ∧ treeOk o tr ∧ ρ = [some (po p), some (.int m), some (.int (n : Int)), some (rsD rs), some (.lst false (natsD o)), some (.lst true (tr.map tD2)), d6, none, none, none, d10, d11, none], ⟨p3, [], _, _, _, rfl, fun i t h => by simp at h, rfl⟩, ?_, ?_⟩
      · rintro i d ρ hd ⟨p, tr, d6, d10, d11, hl, htr, rfl⟩
        obtain ⟨rfl, hi⟩ := rng_get _ _ _ _ hd
        have hi : i + 1 < n := by omega
        have ei : (1 : Int) + (i : Int) = ((i + 1 : Nat) : Int) := by omega
        rw [ei]
        obtain ⟨r, p', r1, hr⟩ := pour_n F25_11 p (i + 1) (by omega) (by omega)
        refine ⟨_, rfl, ?_⟩
        refine ⟨_, rfl, _, rfl, _, o_at (by omega), rfl, ⟨_, rfl⟩, _, rfl, _, rfl, rfl, _, rfl, _, _, hr, _, rfl, _, _, rfl, o_at (by omega), rfl, ?_⟩
        refine ⟨rfl, _, rfl, _, rfl, _, rfl, _, rfl, _, rfl, _, rfl, ⟨rfl, (Nat.le_of_ble_eq_true rfl)⟩, _, rfl, by rw [List.length_map]; show _ < 16777216; omega, ?_⟩
        refine ⟨p', tr ++ [tieB (o.getD (i + 1) 0) (o.getD r 0)], some (.int ((i + 1 : Nat) : Int)), some (.int ((o.getD (i + 1) 0 : Nat) : Int)), some (.int ((o.getD r 0 : Nat) : Int)), by simp [hl], ?_, ?_⟩
        · have := treeOk_snoc (r := r) htr (by omega)
          rw [hl] at this
          exact this
        · rw [List.map_append]
          show _ = [_, _, _, _, _, some (D.lst true (_ ++ [tD2 (tieB _ _)])), _, _, _, _, _, _, _]
          rw [← tieB_D]
          rfl
      · rintro ρ ⟨p3, tr, d6, d10, d11, hl, htr, rfl⟩
        rw [rng_len] at hl
        have hl : tr.length + 1 = n := by omega
        obtain ⟨ts, p4, tp, hm⟩ := mix_at F25_12 p3 tr (by omega)
        have tl : ts.length = tr.length := tp.length_eq
        have ok : okTs ts rs.length := by rw [rl]; exact ok_perm tp (treeOk_ok op (by omega) htr)
        obtain ⟨b, p5, b1, hb⟩ := pour_n F25_11 p4 3 (by omega) (by omega)
        obtain ⟨d1, hd1, w, rfl, w0, w1⟩ := pickL (o := true) (l := [.int 2, .int 9, .int (10 ^ 17)]) (r := (b : Int)) (P := fun d => ∃ m : Int, d = .int m ∧ 0 ≤ m ∧ m ≤ 10 ^ 17) (by omega) (by show (b : Int) < 3; omega) (by
          intro d hd
          simp only [List.mem_cons, List.not_mem_nil, or_false] at hd
          rcases hd with rfl | rfl | rfl <;> exact ⟨_, rfl, by omega, by omega⟩)
        refine ⟨_, rfl, _, rfl, _, ?_, _, _, hm, _, rfl, ?_⟩
        · show fill [some 0, none] [.non, .lst false (fzDs (tr.map tD2))] _ = _
          rw [ts_fzs]
          rfl
        show @wpSs (inst t25) (dropS 6 b25) [some (po p4), some (.int m), some (.int (n : Int)), some (rsD rs), some (.lst false (natsD o)), some (.lst true (ts.map tD2)), d6, none, none, none, d10, d11, none] _
        have fA1 : fzD (.lst true (ts.map tD2)) = tsD ts := congrArg (D.lst false) (ts_fzs ts)
        refine ⟨_, pow_kk (a := 10) (b := 17) (by omega) (by omega) (by decide), (Nat.le_of_ble_eq_true rfl), _, rfl, _, rfl, _, _, hb, _, rfl, _, hd1, rfl, ?_⟩
        refine ⟨_, rfl, _, rfl, ?_⟩
        rw [fA1]
        show ∃ I : Nat → List D → Ev → Prop, I 0 [] [some (po p5), some (.int m), some (.int (n : Int)), some (rsD rs), some (.lst false (natsD o)), some (tsD ts), d6, some (.int w), none, none, d10, d11, none] ∧ _
        refine ⟨fun i acc ρ => ∃ (us : List Int) (p : Pot), us.length = i ∧ acc = us.map D.int ∧ ρ = [some (po p), some (.int m), some (.int (n : Int)), some (rsD rs), some (.lst false (natsD o)), some (tsD ts), d6, some (.int w), none, none, d10, d11, none], ⟨[], p5, rfl, rfl, rfl⟩, ?_, ?_⟩
        · rintro i d acc ρ hd ⟨us, p, hl, rfl, rfl⟩
          obtain ⟨a, p1, a0, a1, ha⟩ := pour_at F25_11 p (2 * w + 1) (by omega) (by omega)
          refine ⟨_, rfl, (fun _ => ?_), fun z => nomatch z⟩
          refine ⟨_, rfl, _, rfl, _, mul_l (by omega) (by omega), _, rfl, _, rfl, _, _, ha, _, rfl, _, rfl, _, rfl, ?_⟩
          exact ⟨us ++ [a - w], p1, by simp [hl], by rw [List.map_append]; rfl, rfl⟩
        · rintro acc ρ ⟨us, p6, hul, rfl, rfl⟩
          have hul : us.length = ts.length := by rw [hul, ts_fzs, List.length_map]
          obtain ⟨s, p7, e1, e2, e3, hc⟩ := chart_at F25_14 p6 m0 m1 (by omega) (by omega) ok
          have fA2 : fzD (tsD ts) = tsD ts := rfl
          obtain ⟨H, hH⟩ := tree_land (told := toldL m rs ts us) ok (op.nodup_iff.mpr List.nodup_range) (toldL_len _ _ _ _) tr tp (by omega) htr
          have no := nice_out (told := toldL m rs ts us) ok (by omega)
          refine ⟨by rw [List.length_map]; show _ ≤ 16777216; omega, ?_⟩
          refine ⟨_, rfl, _, rfl, rfl, _, rfl, rfl, _, rfl, _, rfl, _, _, hc, _, rfl, _, rfl, _, tuple_k (ints_frz _), _, rfl, _, _, fe F25_9 (s.land e1 e2 e3 hul), _, rfl, ?_⟩
          refine ⟨_, rfl, _, rfl, true, ?_, (fun _ => ?_), fun z => nomatch z⟩
          · rw [hH]
            rfl
          refine ⟨_, rfl, out_frz _, _, rfl, rfl, _, rfl, rfl, _, rfl, _, rfl, _, rfl, _, _, fe F25_19 (law_land m0 m1 (by omega) (by omega) ok hul), _, rfl, ?_⟩
          exact ⟨_, fill2 (out_frz _) (out_frz _), _, _, fe F25_21 (same_ok no), _, rfl, _, rfl, p7, rfl, rfl⟩
    refine ⟨_, rfl, _, rfl, _, _, ha, _, rfl, _, rfl, ?_⟩
    show @wpSs (inst t25) (dropS 1 b25) [some (po p1), some (.int m), some (.int ((2 : Int) + (a : Int))), none, none, none, none, none, none, none, none, none, none] (fPost io25 fun d l => ∃ p' : Pot, d = .bl true ∧ l = [po p'])
    rw [hn']
    exact stage
  obtain ⟨d, l, h1, p', rfl, rfl⟩ := @wpF_ok (inst t25) _ _ _ _ _ main
  exact ⟨p', h1⟩


theorem F26_11 : @Fns.F (inst t26) 11 = s11 := rfl
theorem F26_17 : @Fns.F (inst t26) 17 = s17 := rfl
theorem F26_23 : @Fns.F (inst t26) 23 = s23 := rfl
theorem F26_22 : @Fns.F (inst t26) 22 = s22 := rfl
theorem F26_20 : @Fns.F (inst t26) 20 = s20 := rfl
theorem F26_9 : @Fns.F (inst t26) 9 = s9 := rfl
theorem F26_14 : @Fns.F (inst t26) 14 = s14 := rfl
theorem F27_10 : @Fns.F (inst t27) 10 = s10 := rfl
theorem F27_11 : @Fns.F (inst t27) 11 = s11 := rfl
theorem F27_15 : @Fns.F (inst t27) 15 = s15 := rfl
theorem F27_16 : @Fns.F (inst t27) 16 = s16 := rfl
theorem F27_17 : @Fns.F (inst t27) 17 = s17 := rfl
theorem F27_23 : @Fns.F (inst t27) 23 = s23 := rfl
theorem F27_24 : @Fns.F (inst t27) 24 = s24 := rfl
theorem F27_25 : @Fns.F (inst t27) 25 = s25 := rfl
theorem F27_26 : @Fns.F (inst t27) 26 = s26 := rfl
theorem ties_at {l : List FSem} {i : Nat} (h : @Fns.F (inst l) i = s17) (p : Pot) {n k : Nat} (hn : n ≤ 80) (hk : k ≤ 80) (h2 : 0 < k → 2 ≤ n) : ∃ (ts : List Tie) (p' : Pot), ts.length = k ∧ okTs ts n ∧ @Fns.F (inst l) i [po p, .int (n : Int), .int (k : Int)] = .ret (tsD ts) [po p'] := by
  obtain ⟨ts, p', a, b, c⟩ := ties_ok p hn hk h2
  exact ⟨ts, p', a, b, fe h c⟩
theorem holds_at {l : List FSem} {i : Nat} (h : @Fns.F (inst l) i = s23) (p : Pot) {m : Int} {rs : List Int} {ts : List Tie} (m0 : 0 < m) (m1 : m ≤ 10000) (rl : rs.length ≤ 80) (tll : ts.length ≤ 80) (ok : okTs ts rs.length) : ∃ p' : Pot, @Fns.F (inst l) i [po p, .int m, rsD rs, tsD ts] = .ret (.bl true) [po p'] := by
  obtain ⟨p', a⟩ := holds_ok p m0 m1 rl tll ok
  exact ⟨p', fe h a⟩
theorem rs_fz (rs : List Int) : fzD (.lst true (rs.map D.int)) = rsD rs := congrArg (D.lst false) (fz_map rs)
theorem add_lists {xs ys : List D} (h : xs.length + ys.length ≤ 1000) : O2.add.sem (.lst false xs) (.lst false ys) = some (.lst true (xs ++ ys)) := by
  have c : ((false = false ∨ xs.all frzD = true) ∧ (false = false ∨ ys.all frzD = true)) ∧ xs.length + ys.length ≤ lim := ⟨⟨.inl rfl, .inl rfl⟩, by show _ ≤ 16777216; omega⟩
  exact if_pos c
theorem wide_ok (p : Pot) : ∃ p' : Pot, s26 [po p] = .ret (.bl true) [po p'] := by
  have main : @wpF (inst t26) n26.length io26 b26 [po p] (fun d l => ∃ p' : Pot, d = .bl true ∧ l = [po p']) := by
    obtain ⟨a, p1, a0, a1, ha⟩ := pour_at F26_11 p 9999 (by omega) (by omega)
    refine ⟨_, rfl, _, rfl, _, _, ha, _, rfl, _, rfl, ?_⟩
    obtain ⟨m, hm⟩ : ∃ m : Int, (2 : Int) + a = m := ⟨_, rfl⟩
    show @wpSs (inst t26) (dropS 1 b26) [some (po p1), some (.int ((2 : Int) + a)), none, none, none, none] (fPost io26 fun d l => ∃ p' : Pot, d = .bl true ∧ l = [po p'])
    rw [hm]
    have m0 : 0 < m := by omega
    have m1 : m ≤ 10000 := by omega
    refine ⟨_, rng1 (by omega) (by omega), ?_⟩
    refine ⟨fun i acc ρ => ∃ (rs : List Int) (p : Pot), rs.length = i ∧ acc = rs.map D.int ∧ ρ = [some (po p), some (.int m), none, none, none, none], ⟨[], p1, rfl, rfl, rfl⟩, ?_, ?_⟩
    · rintro i d acc ρ hd ⟨rs, p, hl, rfl, rfl⟩
      obtain ⟨rfl, hi⟩ := rng_get _ _ _ _ hd
      obtain ⟨x, p', x0, x1, hx⟩ := pour_at F26_11 p m m0 (by omega)
      refine ⟨_, rfl, (fun _ => ?_), fun z => nomatch z⟩
      refine ⟨_, rfl, _, rfl, rfl, _, rfl, _, _, hx, _, rfl, ?_⟩
      exact ⟨rs ++ [x], p', by simp [hl], by rw [List.map_append]; rfl, rfl⟩
    rintro acc ρ ⟨rs, p2, rl, rfl, rfl⟩
    rw [rng_len] at rl
    have rl : rs.length = 40 := rl
    refine ⟨by rw [List.length_map]; show _ ≤ 16777216; omega, ?_⟩
    show @wpSs (inst t26) (dropS 2 b26) [some (po p2), some (.int m), some (.lst true (rs.map D.int)), none, none, none] (fPost io26 fun d l => ∃ p' : Pot, d = .bl true ∧ l = [po p'])
    refine ⟨_, rng2 (by omega) (by omega) (by omega) (by omega), ?_⟩
    refine ⟨fun i acc ρ => ∃ (tr : List Tie) (p : Pot), tr.length = i ∧ okTs tr 40 ∧ (∀ k, k < i → (tr.getD k (0, 0)).2 = k + 1) ∧ acc = tr.map tD2 ∧ ρ = [some (po p), some (.int m), some (.lst true (rs.map D.int)), none, none, none], ⟨[], p2, rfl, (fun t h => absurd h List.not_mem_nil), (fun k h => absurd h (Nat.not_lt_zero _)), rfl, rfl⟩, ?_, ?_⟩
    · rintro i d acc ρ hd ⟨tr, p, hl, ok, hk, rfl, rfl⟩
      obtain ⟨rfl, hi⟩ := rng_get _ _ _ _ hd
      have hi : i < 39 := hi
      have ei : (1 : Int) + (i : Int) = ((i + 1 : Nat) : Int) := by omega
      rw [ei]
      obtain ⟨r, p', r1, hr⟩ := pour_n F26_11 p (i + 1) (by omega) (by omega)
      refine ⟨_, rfl, (fun _ => ?_), fun z => nomatch z⟩
      refine ⟨_, rfl, _, rfl, rfl, _, rfl, _, _, hr, _, rfl, _, rfl, rfl, ⟨rfl, (Nat.le_of_ble_eq_true rfl)⟩, ?_⟩
      refine ⟨tr ++ [(r, i + 1)], p', by simp [hl], fun t ht => ?_, fun k hk' => ?_, by rw [List.map_append]; rfl, rfl⟩
      · rcases List.mem_append.mp ht with h | h
        · exact ok t h
        · rw [List.mem_singleton.mp h]
          exact ⟨r1, by show i + 1 < 40; omega⟩
      · by_cases q : k < i
        · have := hk k q
          rw [List.getD_eq_getElem?_getD] at this ⊢
          rw [List.getElem?_append_left (by omega)]
          exact this
        · have : k = i := by omega
          subst this
          rw [List.getD_eq_getElem?_getD, List.getElem?_append_right (by omega), hl, Nat.sub_self]
          rfl
    rintro acc ρ ⟨tr, p3, tl, okt, hk, rfl, rfl⟩
    rw [rng_len] at tl hk
    have tl : tr.length = 39 := tl
    have hk : ∀ k, k < 39 → (tr.getD k (0, 0)).2 = k + 1 := hk
    refine ⟨by rw [List.length_map]; show _ ≤ 16777216; omega, ?_⟩
    show @wpSs (inst t26) (dropS 3 b26) [some (po p3), some (.int m), some (.lst true (rs.map D.int)), some (.lst true (tr.map tD2)), none, none] (fPost io26 fun d l => ∃ p' : Pot, d = .bl true ∧ l = [po p'])
    obtain ⟨ex, p4, el, oke, he⟩ := ties_at F26_17 p3 (n := 40) (k := 41) (by omega) (by omega) (by omega)
    have fA1 : fzD (.lst true (tr.map tD2)) = tsD tr := congrArg (D.lst false) (ts_fzs tr)
    obtain ⟨ts, hts⟩ : ∃ ts, ts = tr ++ ex := ⟨_, rfl⟩
    have tsl : ts.length = 80 := by rw [hts, List.length_append]; omega
    have ok : okTs ts rs.length := by
      rw [rl, hts]
      intro t ht
      rcases List.mem_append.mp ht with h | h
      · exact okt t h
      · exact oke t h
    have hk2 : ∀ k, k < 39 → (ts.getD k (0, 0)).2 = k + 1 := fun k h => by
      have := hk k h
      rw [hts]
      rw [List.getD_eq_getElem?_getD] at this ⊢
      rw [List.getElem?_append_left (by omega)]
      exact this
    refine ⟨_, rfl, _, rfl, _, rfl, _, _, he, _, rfl, D.lst true (ts.map tD2), ?_, ?_⟩
    · rw [fA1, hts, List.map_append]
      exact add_lists (by rw [List.length_map, List.length_map]; omega)
    show @wpSs (inst t26) (dropS 4 b26) [some (po p4), some (.int m), some (.lst true (rs.map D.int)), some (.lst true (ts.map tD2)), none, none] (fPost io26 fun d l => ∃ p' : Pot, d = .bl true ∧ l = [po p'])
    have fA2 : fzD (.lst true (ts.map tD2)) = tsD ts := congrArg (D.lst false) (ts_fzs ts)
    have fA3 : fzD (.lst true (rs.map D.int)) = rsD rs := rs_fz rs
    obtain ⟨p5, hh⟩ := holds_at F26_23 p4 m0 m1 (by omega) (by omega) ok
    refine ⟨_, rfl, _, rfl, rfl, _, rfl, _, rfl, ?_⟩
    rw [fA2, fA3]
    refine ⟨_, rfl, _, _, hh, _, rfl, _, rfl, false, rfl, (fun z => nomatch z), fun _ => ?_⟩
    show @wpSs (inst t26) (dropS 5 b26) [some (po p5), some (.int m), some (rsD rs), some (tsD ts), none, none] (fPost io26 fun d l => ∃ p' : Pot, d = .bl true ∧ l = [po p'])
    obtain ⟨hs, p6, hl, hq⟩ := heights_at F26_20 p5 (rs := rs) m0 m1 (by omega)
    have twl := turns_len m rs ts hs
    refine ⟨_, rfl, rfl, _, rfl, _, rfl, _, rfl, _, rfl, rfl, _, rfl, _, rfl, _, _, hq, _, rfl, _, rfl, _, _, fe F26_22 (turns_ok m0 m1 hl.1 (by omega) ok), _, rfl, ?_⟩
    show @wpSs (inst t26) (dropS 6 b26) [some (po p6), some (.int m), some (rsD rs), some (tsD ts), some (.lst true ((turnsOf m rs ts hs).map D.int)), none] (fPost io26 fun d l => ∃ p' : Pot, d = .bl true ∧ l = [po p'])
    obtain ⟨b, p7, b1, hb⟩ := pour_n F26_11 p6 4 (by omega) (by omega)
    obtain ⟨j, hj⟩ : ∃ j : Nat, (79 : Int) - (b : Int) = (j : Int) := nth_nat (by omega)
    have hj1 : 39 ≤ j := by omega
    have hj2 : j < 80 := by omega
    obtain ⟨s, p8, e1, e2, e3, hc⟩ := chart_at F26_14 p7 m0 m1 (by omega) (by omega) ok
    have wn := wide_none (d := 1) m0 (by omega) ok hl (n := 39) (by omega) hj1 (by omega) hk2
    have tl' : ((turnsOf m rs ts hs).set j ((turnsOf m rs ts hs).getD j 0 + 1)).length = ts.length := by rw [List.length_set]; exact twl
    have out2 := s.land e1 e2 e3 tl'
    rw [wn] at out2
    refine ⟨rfl, _, rfl, _, rfl, _, _, hb, _, rfl, D.int (j : Int), congrArg (fun x => some (D.int x)) hj, (j : Int), (turnsOf m rs ts hs).map D.int, (turnsOf m rs ts hs).getD j 0, rfl, rfl, atI_nat (getD_at (by omega)), 1, (turnsOf m rs ts hs).map D.int, _, j, rfl, rfl, rfl, ixn (by rw [List.length_map]; omega), ?_⟩
    rw [set_ints]
    exact ⟨_, rfl, _, rfl, rfl, _, rfl, _, rfl, _, rfl, _, _, hc, _, rfl, _, rfl, _, tuple_k (ints_frz _), _, rfl, _, _, fe F26_9 out2, _, rfl, _, rfl, _, rfl, p8, rfl, rfl⟩
  obtain ⟨d, l, h1, p', rfl, rfl⟩ := @wpF_ok (inst t26) _ _ _ _ _ main
  exact ⟨p', h1⟩
theorem mod_at {l : List FSem} {i : Nat} (h : @Fns.F (inst l) i = s15) (p : Pot) : ∃ (m : Int) (p' : Pot), 0 < m ∧ m ≤ 10000 ∧ @Fns.F (inst l) i [po p] = .ret (.int m) [po p'] := by
  obtain ⟨m, p', a, b, c⟩ := mod_ok p
  exact ⟨m, p', a, b, fe h c⟩
theorem math (ns : List Int) (hl : ns.length ≤ 63) : s27 [.scr ns] = .ret (.bl true) [] := by
  obtain ⟨p, hp⟩ := pot_ok ns hl
  refine @wpF_eq (inst t27) n27.length io27 b27 _ _ _ ?_
  refine ⟨_, rfl, rfl, _, rfl, _, _, fe F27_10 hp, _, rfl, ?_⟩
  refine ⟨_, rng1 (j := 2) (by omega) (by omega), ?_⟩
  refine ⟨fun i ρ => ∃ (p : Pot) (e2 e3 e4 e5 : Option D), ρ = [some (.scr ns), some (po p), e2, e3, e4, e5], ⟨p, _, _, _, _, rfl⟩, ?_, ?_⟩
  · rintro i d ρ hd ⟨p, e2, e3, e4, e5, rfl⟩
    obtain ⟨a, p1, a1, ha⟩ := pour_n F27_11 p 7 (by omega) (by omega)
    obtain ⟨m, p2, m0, m1, hm⟩ := mod_at F27_15 p1
    obtain ⟨n, hn⟩ : ∃ n : Nat, n = 1 + a := ⟨_, rfl⟩
    have hn' : (1 : Int) + (a : Int) = (n : Int) := by omega
    refine ⟨_, rfl, _, rfl, _, rfl, _, _, ha, _, rfl, _, rfl, ?_⟩
    have stage : ∀ (d : Option D) (Q : Fl → Ev → Prop), (∀ ρ, (∃ (p : Pot) (e2 e3 e4 e5 : Option D), ρ = [some (.scr ns), some (po p), e2, e3, e4, e5]) → Q .nx ρ) → @wpSs (inst t27) (match dropS 1 b27 with | .cons (.forr _ _ (.cons _ s)) _ => s | _ => .nil) [some (.scr ns), some (po p1), d, some (.int (n : Int)), e4, e5] Q := by
      intro d Q hQ
      refine ⟨_, rfl, _, rfl, _, _, hm, _, rfl, ?_⟩
      -- how many ties
      have tail : ∀ (p : Pot) (k : Nat), k ≤ 80 → (0 < k → 2 ≤ n) → ∃ (ts : List Tie) (p' : Pot), ts.length = k ∧ okTs ts n ∧ @Fns.F (inst t27) 17 [po p, .int (n : Int), .int (k : Int)] = .ret (tsD ts) [po p'] ∧ ∃ (rs : List Int) (p2 : Pot), rs.length = n ∧ @Fns.F (inst t27) 16 [po p', .int m, .int (n : Int)] = .ret (rsD rs) [po p2] ∧ ∃ p3 : Pot, @Fns.F (inst t27) 23 [po p2, .int m, rsD rs, tsD ts] = .ret (.bl true) [po p3] := by
        intro p k hk h2
        obtain ⟨ts, p', a1, a2, a3⟩ := ties_at F27_17 p (n := n) (by omega) hk h2
        obtain ⟨rs, p2, b1, b2⟩ := read_at F27_16 p' (n := n) m0 m1 (by omega)
        obtain ⟨p3, c1⟩ := holds_at F27_23 p2 m0 m1 (rs := rs) (ts := ts) (by omega) (by omega) (by rw [b1]; exact a2)
        exact ⟨ts, p', a1, a2, a3, rs, p2, b1, b2, p3, c1⟩
      refine ⟨_, rfl, _, rfl, rfl, _, rfl, _, rfl, decide ((n : Int) > 1), rfl, (fun z => ?_), fun z => ?_⟩
      · have z := of_decide_eq_true z
        obtain ⟨k, p3, k1, hk⟩ := pour_n F27_11 p2 10 (by omega) (by omega)
        obtain ⟨ts, p4, t1, t2, t3, rs, p5, r1, r2, p6, h6⟩ := tail p3 k (by omega) (by omega)
        refine ⟨_, rfl, _, rfl, _, _, hk, _, rfl, _, rfl, _, _, t3, _, rfl, ?_⟩
        exact ⟨_, rfl, _, rfl, rfl, _, rfl, _, rfl, rfl, _, rfl, rfl, _, rfl, _, _, r2, _, rfl, _, rfl, rfl, _, rfl, _, _, h6, _, rfl, _, rfl, false, rfl, (fun z => nomatch z), fun _ => hQ _ ⟨p6, _, _, _, _, rfl⟩⟩
      · obtain ⟨ts, p4, t1, t2, t3, rs, p5, r1, r2, p6, h6⟩ := tail p2 0 (by omega) (by omega)
        refine ⟨_, rfl, _, _, t3, _, rfl, ?_⟩
        exact ⟨_, rfl, _, rfl, rfl, _, rfl, _, rfl, rfl, _, rfl, rfl, _, rfl, _, _, r2, _, rfl, _, rfl, rfl, _, rfl, _, _, h6, _, rfl, _, rfl, false, rfl, (fun z => nomatch z), fun _ => hQ _ ⟨p6, _, _, _, _, rfl⟩⟩
    rw [hn']
    exact stage (some d) _ fun ρ h => h
  · rintro ρ ⟨p, e2, e3, e4, e5, rfl⟩
    obtain ⟨m, p1, m0, m1, hm⟩ := mod_at F27_15 p
    obtain ⟨p2, hr⟩ := ring_ok p1 m0 m1
    obtain ⟨m', p3, m0', m1', hm'⟩ := mod_at F27_15 p2
    obtain ⟨p4, ht⟩ := tree_ok p3 m0' m1'
    refine ⟨_, rfl, _, rfl, _, rfl, _, _, hm, _, rfl, _, rfl, _, _, fe F27_24 hr, _, rfl, _, rfl, false, rfl, (fun z => nomatch z), fun _ => ?_⟩
    refine ⟨_, rfl, _, rfl, _, rfl, _, _, hm', _, rfl, _, rfl, _, _, fe F27_25 ht, _, rfl, _, rfl, false, rfl, (fun z => nomatch z), fun _ => ?_⟩
    obtain ⟨q, p5, q0, q1, hq⟩ := pour_at F27_11 p4 7 (by omega) (by omega)
    refine ⟨_, rfl, _, rfl, _, _, hq, _, rfl, .bl (!decide (q = 3)), rfl, !decide (q = 3), rfl, (fun z => ?_), fun z => ?_⟩
    · rw [z]
      exact ⟨_, rfl, rfl, rfl⟩
    · obtain ⟨p6, hw⟩ := wide_ok p5
      exact ⟨_, rfl, _, rfl, _, _, fe F27_26 hw, _, rfl, _, rfl, rfl, rfl⟩

end Hd
open PySem PySem.W PySem.Calls PyProof.Rows
theorem PySem.Challenge.cw_fringes_k08_steps_holds : PySem.Challenge.rw_fringes_k08_steps.Holds := by
  w_on; o_law
  refine HandSHeadRun.head_any (r := OpenLaw.row PySem.Challenge.rw_fringes_k08_steps) (q := view (OpenLaw.row PySem.Challenge.rw_fringes_k08_steps).prog [31]) (H := Hd.hk) (ob := Hd.ob) (M := 4000) (loose := Hd.names) (d := HandSHeadRun.topDef (OpenLaw.row PySem.Challenge.rw_fringes_k08_steps).prog 31) (kwd := []) Hd.ob_eq
    (by kernel_rfl) (fun s => by kernel_rfl) Hd.run (by kernel_rfl) (by kernel_rfl) (by kernel_rfl) (by rfl) (by first | assumption | decide +kernel) (by decide +kernel) ⟨rfl, rfl, rfl, rfl, rfl, by decide +kernel⟩ ?hw ?hc
  case hw => w_witness2
  case hc =>
    refine L2.walk_ofE (l := PySem.Challenge.rw_fringes_k08_steps) (n := 63) (k := 43) (x := "script") (CX := fun _ _ _ _ _ _ => False) rfl (by decide) (by kernel_rfl) ⟨rfl, by decide, by decide⟩ ?F (fun _ _ _ _ z => z)
    intro w mg fa h Y G hmg0
    obtain ⟨K, KX, c⟩ := Y
    have hmg : mg ("law" : PySem.Str) = some (.ref fa) := by
      have e : (HandSHeadRun.topDef (OpenLaw.row PySem.Challenge.rw_fringes_k08_steps).prog 31).name = ("law" : PySem.Str) := by kernel_rfl
      rw [← e]
      exact hmg0
    obtain ⟨fd, hb, hF⟩ := Hd.facts (P := (PySem.Challenge.rw_fringes_k08_steps).prog) (w := w) KX G hmg c
    exact ⟨K, fd, (fun vs H Q _ => Ly.spD ⟨K, fun _ _ _ _ => False⟩ Hd.io27 Hd.s27 vs H Q fun _ _ _ => False), KX, hb, fun H a ns hl hO hS => Ly.sp_law (Hd.math ns hl) (Ly.sq_only hO hS), fun base h1 h2 => Ly.to0 (hF base h1 h2)⟩

