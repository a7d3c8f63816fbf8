import PyProof.Rows.All
import HandS.ForMost
import HandS.Wide
import KE.DataEq
import KE.SortData
import HandS.ForExc
import HandS.Style
import HandS.TupAny
import HandS.Flow
import HandS.IsInst
import KE.GoesEnum
import KE.GoesNew
import HandS.TryOnly
import HandS.Walk
import HandS.Small
import HandS.Defaults
import HandS.DictComp
import HandS.Conv
import HandS.Deep
import HandS.HeadEnd
import HandS.WordsExc
import KE.KStateDown
import HandS.More
import HandS.Head0
import HandS.Head1
import HandS.Head2
import HandS.HeadHook1
import HandS.HeadHook2
import PySem.Challenge.RW_fringes_k34_struck_and_within
set_option Elab.async false
set_option linter.all false
set_option maxRecDepth 100000
set_option maxHeartbeats 0
/-! My own layer (Ly), part A: pure data, outcomes, the small language and its evaluator. -/
namespace Ly
open PySem PySem.Spec L2

/-- pure data; lists and dicts bear a mark: true where their holder may still change them -/
inductive D where
  | non | bl (b : Bool) | int (i : Int) | str (x : Str)
  | tup (xs : List D)
  | lst (o : Bool) (xs : List D)
  | dk (o : Bool) (ks : List Key) (vs : List D)
  | dt (o : Bool) (ks : List (List Key)) (vs : List D)
  | exc (c : Str) (fs : List D)
  /-- the script -/
  | scr (ns : List Int)

abbrev Ev := List (Option D)
inductive Out (α : Type) where
  | ok (a : α) (ρ : Ev)
  | exc (x : D) (ρ : Ev)
  | bad
def Out.bind {α β : Type} : Out α → (α → Ev → Out β) → Out β
  | .ok a ρ, f => f a ρ
  | .exc x ρ, _ => .exc x ρ
  | .bad, _ => .bad
/-- what a def gives: its value (or error) and the data behind it of the parameters that it may change -/
inductive FOut where
  | ret (d : D) (outs : List D)
  | exc (x : D) (outs : List D)
  | bad
abbrev FSem := List D → FOut
/-- the defs that may be called -/
class Fns where
  F : Nat → FSem
  G : Nat → D

/-- nothing in it may be changed any more -/
def frzD : D → Bool
  | .lst true _ => false
  | .dk true _ _ => false
  | .dt true _ _ => false
  | _ => true
mutual
/-- the same, given up for change -/
def fzD : D → D
  | .lst true xs => .lst false (fzDs xs)
  | .dk true ks vs => .dk false ks (fzDs vs)
  | .dt true ks vs => .dt false ks (fzDs vs)
  | .non => .non
  | .bl b => .bl b
  | .int i => .int i
  | .str x => .str x
  | .tup xs => .tup xs
  | .lst false xs => .lst false xs
  | .dk false ks vs => .dk false ks vs
  | .dt false ks vs => .dt false ks vs
  | .exc c fs => .exc c fs
  | .scr ns => .scr ns
def fzDs : List D → List D
  | [] => []
  | d :: ds => fzD d :: fzDs ds
end

/-! ### operations by values -/
inductive Ty where
  | int | str | bool | tuple | list | dict
  deriving DecidableEq
inductive O2 where
  | add | sub | mul | fdiv | mod | pow | eq | ne | lt | le | gt | ge | isN | notN | isIn | notIn | idx | min2 | max2
  deriving DecidableEq
inductive O1 where
  | neg | notO | len | tuple | list | int | str | abs | sum | minL | maxL | isT (t : Ty) | srt
  deriving DecidableEq


mutual
def toP : D → PyData
  | .non => .none
  | .bl b => .bool b
  | .int i => .int i
  | .str x => .str x
  | .tup xs => .tuple (toPs xs)
  | .lst _ xs => .list (toPs xs)
  | .dk _ _ _ => .dict []
  | .dt _ _ _ => .dict []
  | .exc _ _ => .dict []
  | .scr _ => .dict []
def toPs : List D → List PyData
  | [] => []
  | d :: ds => toP d :: toPs ds
end
def eqG (d e : D) : Option D :=
  if (toP d).plain = true ∧ (toP e).plain = true ∧ min (toP d).depth (toP e).depth ≤ 64 then some (.bl (PyData.eqv (toP d) (toP e))) else none
def eqS : D → D → Option D
  | .int i, .int j => some (.bl (decide (i = j)))
  | .str x, .str y => some (.bl (decide (x = y)))
  | d, e => eqG d e
def notS : Option D → Option D
  | some (.bl b) => some (.bl (!b))
  | _ => none
def keyD : D → Option Key
  | .int i => some (.inl i)
  | .str x => some (.inr x)
  | _ => none
def keysD : List D → Option (List Key)
  | [] => some []
  | d :: ds => match keyD d, keysD ds with
    | some k, some ks => some (k :: ks)
    | _, _ => none
def look {κ : Type} [DecidableEq κ] (k : κ) : List κ → List D → Option D
  | j :: ks, v :: vs => if j = k then some v else look k ks vs
  | _, _ => none
def flatD : D → Bool
  | .non => true
  | .bl _ => true
  | .int _ => true
  | .str _ => true
  | _ => false
/-- items that may be read out of it and kept -/
def kids : D → Option (List D)
  | .tup xs => some xs
  | .lst false xs => some xs
  | .lst true xs => if xs.all frzD = true then some xs else none
  | _ => none
def lim : Nat := 16777216
def addS : D → D → Option D
  | .int i, .int j => some (.int (i + j))
  | .str x, .str y => if x.length + y.length ≤ lim then some (.str (x ++ y)) else none
  | .tup xs, .tup ys => if xs.length + ys.length ≤ lim then some (.tup (xs ++ ys)) else none
  | .lst o xs, .lst p ys => if ((o = false ∨ xs.all frzD = true) ∧ (p = false ∨ ys.all frzD = true)) ∧ xs.length + ys.length ≤ lim then some (.lst true (xs ++ ys)) else none
  | _, _ => none
/-- a text some times -/
def repS (x : Str) (k : Int) : Str := ⟨(List.replicate k.toNat x.cps.toList).flatten.toArray⟩
def mulS : D → D → Option D
  | .int i, .int j => if ((-18446744073709551616 < i ∧ i < 18446744073709551616) ∨ (-18446744073709551616 < j ∧ j < 18446744073709551616)) ∨ (i.natAbs.log2 < 2000 ∧ j.natAbs.log2 < 2000) then some (.int (i * j)) else none
  | .str x, .int k => if (-9223372036854775808 ≤ k ∧ k < 9223372036854775808) ∧ x.length * k.toNat ≤ lim ∧ x.length ≤ lim then some (.str (repS x k)) else none
  | .lst true xs, .int k => if xs.all frzD = true ∧ (-9223372036854775808 ≤ k ∧ k < 9223372036854775808) ∧ xs.length * k.toNat ≤ lim then some (.lst true (List.replicate k.toNat xs).flatten) else none
  | _, _ => none
def I2 (f : Int → Int → D) : D → D → Option D
  | .int i, .int j => some (f i j)
  | _, _ => none
def inS (d : D) : D → Option D
  | .tup xs => if (toP d).plain = true ∧ PyData.plainAll (toPs xs) = true ∧ min (PyData.depthAll (toPs xs)) (toP d).depth ≤ 64 then some (.bl ((toPs xs).any fun y => PyData.eqv y (toP d))) else none
  | .lst _ xs => if (toP d).plain = true ∧ PyData.plainAll (toPs xs) = true ∧ min (PyData.depthAll (toPs xs)) (toP d).depth ≤ 64 then some (.bl ((toPs xs).any fun y => PyData.eqv y (toP d))) else none
  | .str y => (match d with
    | .str x => some (.bl (!(Builtin.Str.occurrences y x 0 y.length 1).isEmpty))
    | _ => none)
  | .dk _ ks vs => (match keyD d with
    | some k => some (.bl (look k ks vs).isSome)
    | none => none)
  | _ => none
def idxS : D → D → Option D
  | .tup xs, .int i => atI xs i
  | .lst _ xs, .int i => atI xs i
  | .scr ns, .int i => (match atI ns i with
    | some n => some (.int n)
    | none => none)
  | .str x, .int i => if x.length ≤ lim then (match atI x.cps.toList i with
    | some c => some (.str ⟨#[c]⟩)
    | none => none) else none
  | .dk _ ks vs, d => (match keyD d with
    | some k => look k ks vs
    | none => none)
  | _, _ => none
def isNon : D → Bool
  | .non => true
  | _ => false
def isS (x y : D) : Option D := match y with
  | .non => some (.bl (isNon x))
  | .bl b => (match x with
    | .bl a => some (.bl (decide (a = b)))
    | _ => none)
  | _ => none
def O2.sem : O2 → D → D → Option D
  | .add, x, y => addS x y
  | .sub, x, y => I2 (fun i j => .int (i - j)) x y
  | .mul, x, y => mulS x y
  | .fdiv, .int i, .int j => if 0 < j ∧ j < 18446744073709551616 then some (.int (i / j)) else none
  | .fdiv, _, _ => none
  | .mod, .int i, .int j => if 0 < j then some (.int (i % j)) else none
  | .mod, _, _ => none
  | .pow, .int i, .int j => if (0 ≤ j ∧ j ≤ 1000000) ∧ (-18446744073709551616 < i ∧ i < 18446744073709551616) then some (.int (i ^ j.toNat)) else none
  | .pow, _, _ => none
  | .eq, x, y => eqS x y
  | .ne, x, y => notS (eqS x y)
  | .lt, x, y => I2 (fun i j => .bl (decide (i < j))) x y
  | .le, x, y => I2 (fun i j => .bl (decide (i ≤ j))) x y
  | .gt, x, y => I2 (fun i j => .bl (decide (j < i))) x y
  | .ge, x, y => I2 (fun i j => .bl (decide (j ≤ i))) x y
  | .isN, x, y => isS x y
  | .notN, x, y => notS (isS x y)
  | .isIn, x, y => inS x y
  | .notIn, x, y => notS (inS x y)
  | .idx, x, y => idxS x y
  | .min2, x, y => I2 (fun i j => .int (if j < i then j else i)) x y
  | .max2, x, y => I2 (fun i j => .int (if j > i then j else i)) x y
def ints? : List D → Option (List Int)
  | [] => some []
  | .int i :: ds => (match ints? ds with
    | some r => some (i :: r)
    | none => none)
  | _ :: _ => none
def Ty.is : Ty → D → Bool
  | .int, .int _ => true
  | .int, .bl _ => true
  | .str, .str _ => true
  | .bool, .bl _ => true
  | .tuple, .tup _ => true
  | .list, .lst _ _ => true
  | .dict, .dk _ _ _ => true
  | .dict, .dt _ _ _ => true
  | _, _ => false
/-- isinstance of one class -/
def isTS (T : Ty) (d : D) : Option D := match d with
  | .scr _ => none
  | .dt _ _ _ => none
  | .exc _ _ => none
  | _ => some (.bl (T.is d))
/-- a slice's part -/
def partS : List D → Option (Option Int)
  | [] => some none
  | [.int i] => some (some i)
  | _ => none
def truth : D → Option Bool
  | .non => some false
  | .bl b => some b
  | .int i => some (i != 0)
  | .str x => if x.length ≤ lim then some (x.length != 0) else none
  | .tup xs => some (!xs.isEmpty)
  | .lst _ xs => some (!xs.isEmpty)
  | .dk true ks _ => some (!ks.isEmpty)
  | _ => none
def tupB : D → Bool
  | .tup (_ :: _) => true
  | _ => false
def atmB : D → Bool
  | .int _ => true
  | .str _ => true
  | .bl _ => true
  | _ => false
/-- may be put in order: all alike -/
def ordB (xs : List D) : Bool := xs.all fun x => xs.all fun y => PySem.W.alike (toP x) (toP y)
def srtL (xs : List D) : List D := xs.mergeSort (PySem.W.dataLe false toP)
def sortS (xs : List D) : Option D :=
  if ((ordB xs = true ∧ (xs.all tupB = true ∨ xs.all atmB = true)) ∧ xs.all frzD = true) ∧ xs.length ≤ lim ∧ (xs.all fun x => (toP x).plain && decide ((toP x).depth ≤ 32)) = true then some (.lst true (srtL xs)) else none
def O1.sem : O1 → D → Option D
  | .neg, .int i => some (.int (-i))
  | .notO, d => (match truth d with
    | some b => some (.bl (!b))
    | none => none)
  | .len, .tup xs => some (.int xs.length)
  | .len, .lst _ xs => some (.int xs.length)
  | .len, .scr ns => some (.int ns.length)
  | .len, .str x => if x.length ≤ lim then some (.int x.length) else none
  | .len, .dk true ks _ => some (.int ks.length)
  | .tuple, d => (match kids d with
    | some xs => some (.tup xs)
    | none => none)
  | .list, d => (match kids d with
    | some xs => some (.lst true xs)
    | none => none)
  | .int, .int i => some (.int i)
  | .int, .bl b => some (.int (if b then 1 else 0))
  | .str, .int i => if -1000000000000000000 < i ∧ i < 1000000000000000000 then some (.str (toString i)) else none
  | .abs, .int i => some (.int (if i < 0 then -i else i))
  | .sum, .lst _ xs => (match ints? xs with
    | some r => some (.int r.sum)
    | none => none)
  | .minL, .lst _ xs => (match ints? xs with
    | some (i :: r) => some (.int (r.foldl min i))
    | _ => none)
  | .maxL, .lst _ xs => (match ints? xs with
    | some (i :: r) => some (.int (r.foldl max i))
    | _ => none)
  | .isT t, d => isTS t d
  | .srt, .lst _ xs => sortS xs
  | _, _ => none
def slcS (d : D) (lo hi : Option Int) : Option D :=
  match d with
  | .tup xs => some (.tup ((xs.drop (HT.sIx xs.length 0 lo)).take (HT.sIx xs.length xs.length hi - HT.sIx xs.length 0 lo)))
  | .str x => if x.length ≤ lim then some (.str (cutS x lo hi)) else none
  | .scr ns => some (.lst true (((ns.drop (HT.sIx ns.length 0 lo)).take (HT.sIx ns.length ns.length hi - HT.sIx ns.length 0 lo)).map D.int))
  | .lst o xs => if o = false ∨ xs.all frzD = true then some (.lst true ((xs.drop (HT.sIx xs.length 0 lo)).take (HT.sIx xs.length xs.length hi - HT.sIx xs.length 0 lo))) else none
  | _ => none

/-- the first place of an equal one -/
def idxOf (d : PyData) : List PyData → Nat → Option Nat
  | [], _ => none
  | z :: zs, n => if PyData.eqv z d = true then some n else idxOf d zs (n + 1)
def indexS (x y : D) : Option D := match x with
  | .lst _ xs => if (flatD y = true ∧ xs.all flatD = true) ∨ (SeqAt.shaped (.list (toPs xs)) = true ∧ SeqAt.shaped (toP y) = true ∧ (toP y).plain = true ∧ PyData.plainAll (toPs xs) = true) then (match idxOf (toP y) (toPs xs) 0 with
    | some n => some (.int (n : Nat))
    | none => none) else none
  | _ => none
/-- methods that change nothing -/
inductive Mth where
  | index
  deriving DecidableEq
/-- what may be asked so -/
def Mth.recv : Mth → D → Bool
  | .index, .lst _ _ => true
  | _, _ => false
def Mth.sem : Mth → D → List D → Option D
  | .index, x, [y] => indexS x y
  | _, _, _ => none

/-! ### the small language -/
mutual
inductive Tg where
  | nm (i : Nat)
  | tp (ts : Tgs)
inductive Tgs where
  | nil
  | cons (t : Tg) (ts : Tgs)
end
mutual
inductive E where
  /-- a name's value, borrowed -/
  | var (i : Nat)
  /-- .. given up for change -/
  | mv (i : Nat)
  /-- .. moved out: the name has no value behind it -/
  | mvo (i : Nat)
  | cst (d : D)
  /-- a constant of the module -/
  | glo (k : Nat)
  /-- must be frozen -/
  | ck (e : E)
  /-- made frozen -/
  | fz (e : E)
  | o2 (op : O2) (a b : E)
  | o1 (op : O1) (a : E)
  | and (a b : E)
  | or (a b : E)
  | ite (c a b : E)
  | tup (es : Es)
  | lst (es : Es)
  | slc (a : E) (lo hi : Es)
  /-- a call of the def k, with the names that it may change -/
  | call (slots : List (Option Nat)) (k : Nat) (es : Es)
  /-- x.pop(), x.pop(i) of the list of the name -/
  | pop (i : Nat)
  | popAt (i : Nat) (at_ : E)
  /-- [elt for tg in it if c]: own slots, target, iterable, tests, element -/
  | lc (own : List Nat) (tg : Tg) (it : It) (c : Es) (elt : E)
  /-- {} -/
  | dnil
  /-- list(range(..)) -/
  | lrg (es : Es)
  /-- a.m(..) -/
  | me (m : Mth) (a : E) (es : Es)
  /-- {k: e for tg in it if c} -/
  | dc (own : List Nat) (tg : Tg) (it : It) (c : Es) (k e : E)
inductive Es where
  | nil
  | cons (e : E) (es : Es)
  /-- the name i is handed to a def that may change it -/
  | io (i : Nat) (es : Es)
inductive It where
  | seq (e : E)
  | rng (es : Es)
  | enum (e : E)
  | zip (a b : E)
end
mutual
inductive S where
  | pass
  | expr (e : E)
  | asg (i : Nat) (e : E)
  | asgT (tg : Tg) (e : E)
  | asgP (i j : Nat) (a b : E)
  | aug (i : Nat) (op : O2) (e : E)
  | setI (i : Nat) (ix e : E)
  | app (i : Nat) (e : E)
  | iff (c : E) (a b : Ss)
  | whl (c : E) (b : Ss)
  | forr (tg : Tg) (it : It) (b : Ss)
  | ret (e : E)
  | retN
  | brk
  | cnt
inductive Ss where
  | nil
  | cons (s : S) (ss : Ss)
end

/-! ### what it does -/
mutual
def bindT : Tg → D → Ev → Option Ev
  | .nm i, d, ρ => some (ρ.set i (some d))
  | .tp ts, d, ρ => (match d with
    | .tup xs => bindTs ts xs ρ
    | .lst false xs => bindTs ts xs ρ
    | _ => none)
def bindTs : Tgs → List D → Ev → Option Ev
  | .nil, [], ρ => some ρ
  | .cons t ts, d :: ds, ρ => (match bindT t d ρ with
    | some ρ' => bindTs ts ds ρ'
    | none => none)
  | _, _, _ => none
end
def getV (ρ : Ev) (i : Nat) : Option D := ρ.getD i none
/-- the data at a path of places within lists -/
def fill : List (Option Nat) → List D → Ev → Option (List D)
  | [], [], _ => some []
  | none :: r, d :: ds, ρ => if frzD d = true then (match fill r ds ρ with
    | some l => some (d :: l)
    | none => none) else none
  | some i :: r, _ :: ds, ρ => (match getV ρ i, fill r ds ρ with
    | some d, some l => some (d :: l)
    | _, _ => none)
  | _, _, _ => none
def wb : List (Option Nat) → List D → Ev → Option Ev
  | [], [], ρ => some ρ
  | none :: r, os, ρ => wb r os ρ
  | some i :: r, o :: os, ρ => wb r os (ρ.set i (some o))
  | _, _, _ => none
def callOut (slots : List (Option Nat)) (sem : FSem) (ds : List D) (ρ : Ev) : Out D :=
  match fill slots ds ρ with
  | none => .bad
  | some ds' => match sem ds' with
    | .ret d outs => (match wb slots outs ρ with
      | some ρ' => .ok d ρ'
      | none => .bad)
    | .exc x outs => (match wb slots outs ρ with
      | some ρ' => .exc x ρ'
      | none => .bad)
    | .bad => .bad
def popF (xs : List D) : Option (D × List D) := match xs[xs.length - 1]? with
  | some d => if frzD d = true then some (d, xs.dropLast) else none
  | none => none
def popAtF (i : Int) (xs : List D) : Option (D × List D) := match ixN xs.length i with
  | some j => (match xs[j]? with
    | some d => if frzD d = true ∧ xs.length ≤ lim then some (d, xs.eraseIdx j) else none
    | none => none)
  | none => none
/-- the list of the name, changed by f -/
def onL {α : Type} (f : List D → Option (α × List D)) (i : Nat) (ρ : Ev) : Out α :=
  match getV ρ i with
  | some (.lst true xs) => (match f xs with
    | some (a, ys) => .ok a (ρ.set i (some (.lst true ys)))
    | none => .bad)
  | _ => .bad
def isL (ρ : Ev) (i : Nat) : Bool := match getV ρ i with
  | some (.lst true _) => true
  | _ => false
def wipeE (ρ : Ev) : List Nat → Ev
  | [] => ρ
  | v :: vs => (wipeE ρ vs).set v none
def lcLoop (f : D → Ev → Out (List D)) : List D → Ev → Out (List D)
  | [], ρ => .ok [] ρ
  | d :: ds, ρ => (f d ρ).bind fun x ρ1 => (lcLoop f ds ρ1).bind fun r ρ2 => .ok (x ++ r) ρ2
/-- d[k] = v -/
def put {κ : Type} [DecidableEq κ] (k : κ) (v : D) (ks : List κ) (vs : List D) : List κ × List D :=
  if (ks.any fun j => decide (j = k)) = true then (ks, List.zipWith (fun j w => if j = k then v else w) ks vs) else (ks ++ [k], vs ++ [v])
def dcLoop (f : D → Ev → Out (Option (Key × D))) : List D → List Key × List D → Ev → Out (List Key × List D)
  | [], acc, ρ => .ok acc ρ
  | d :: ds, acc, ρ => (f d ρ).bind fun x ρ1 => dcLoop f ds (match x with
    | some (k, v) => put k v acc.1 acc.2
    | none => acc) ρ1
def enumD : Nat → List D → List D
  | _, [] => []
  | n, d :: ds => .tup [.int n, d] :: enumD (n + 1) ds
def zipD : List D → List D → List D
  | x :: xs, y :: ys => .tup [x, y] :: zipD xs ys
  | _, _ => []
def rngD (lo : Int) : Nat → List D
  | 0 => []
  | n + 1 => .int lo :: rngD (lo + 1) n
def rngOf : List D → Option (List D)
  | [.int j] => if -4611686018427387904 ≤ j ∧ j < 4611686018427387904 then some (rngD 0 j.toNat) else none
  | [.int i, .int j] => if (-4611686018427387904 ≤ i ∧ i < 4611686018427387904) ∧ (-4611686018427387904 ≤ j ∧ j < 4611686018427387904) then some (rngD i (j - i).toNat) else none
  | _ => none
def lrgS (ds : List D) : Option D := match rngOf ds with
  | some l => if l.length ≤ lim then some (.lst true l) else none
  | none => none
def seqOf : D → Option (List D)
  | .tup xs => some xs
  | .lst false xs => some xs
  | .scr ns => some (ns.map D.int)
  | .str x => some (x.cps.toList.map fun c => .str ⟨#[c]⟩)
  | _ => none
def liftO {α : Type} (o : Option α) (ρ : Ev) : Out α := match o with
  | some a => .ok a ρ
  | none => .bad
variable [Fns]
mutual
def ev : E → Ev → Out D
  | .var i, ρ => liftO (getV ρ i) ρ
  | .mv i, ρ => (match getV ρ i with
    | some d => .ok (fzD d) (ρ.set i (some (fzD d)))
    | none => .bad)
  | .mvo i, ρ => (match getV ρ i with
    | some d => .ok d (ρ.set i none)
    | none => .bad)
  | .cst d, ρ => .ok d ρ
  | .glo k, ρ => .ok (Fns.G k) ρ
  | .ck e, ρ => (ev e ρ).bind fun d ρ => if frzD d = true then .ok d ρ else .bad
  | .fz e, ρ => (ev e ρ).bind fun d ρ => .ok (fzD d) ρ
  | .o2 op a b, ρ => (ev a ρ).bind fun x ρ => (ev b ρ).bind fun y ρ => liftO (op.sem x y) ρ
  | .o1 op a, ρ => (ev a ρ).bind fun x ρ => liftO (op.sem x) ρ
  | .and a b, ρ => (ev a ρ).bind fun x ρ => (match truth x with
    | some true => ev b ρ
    | some false => .ok x ρ
    | none => .bad)
  | .or a b, ρ => (ev a ρ).bind fun x ρ => (match truth x with
    | some true => .ok x ρ
    | some false => ev b ρ
    | none => .bad)
  | .ite c a b, ρ => (ev c ρ).bind fun x ρ => (match truth x with
    | some true => ev a ρ
    | some false => ev b ρ
    | none => .bad)
  | .tup es, ρ => (evs es ρ).bind fun ds ρ => if ds.all frzD = true ∧ ds.length ≤ lim then .ok (.tup ds) ρ else .bad
  | .lst es, ρ => (evs es ρ).bind fun ds ρ => if ds.length ≤ lim then .ok (.lst true ds) ρ else .bad
  | .slc a lo hi, ρ => (ev a ρ).bind fun x ρ => (evs lo ρ).bind fun l ρ => (match partS l with
    | some l' => (evs hi ρ).bind fun h ρ => (match partS h with
      | some h' => liftO (slcS x l' h') ρ
      | none => .bad)
    | none => .bad)
  | .call slots k es, ρ => (evs es ρ).bind fun ds ρ => callOut slots (Fns.F k) ds ρ
  | .pop i, ρ => onL popF i ρ
  | .popAt i a, ρ => if isL ρ i = true then (ev a ρ).bind fun x ρ => (match x with
    | .int k => onL (popAtF k) i ρ
    | _ => .bad) else .bad
  | .lc own tg it c elt, ρ => (evIt it ρ).bind fun items ρ1 =>
    match lcLoop (fun d ρ => match bindT tg d ρ with
      | some ρ => (evC c ρ).bind fun b ρ => if b = true then (ev elt ρ).bind fun y ρ => .ok [y] (wipeE ρ own) else .ok [] (wipeE ρ own)
      | none => .bad) items (wipeE ρ1 own) with
    | .ok ys ρ2 => if ys.length ≤ lim then .ok (.lst true ys) ρ2 else .bad
    | .exc _ _ => .bad
    | .bad => .bad
  | .dnil, ρ => .ok (.dk true [] []) ρ
  | .lrg es, ρ => (evs es ρ).bind fun ds ρ => liftO (lrgS ds) ρ
  | .me m a es, ρ => (ev a ρ).bind fun x ρ => if m.recv x = true then (evs es ρ).bind fun ds ρ => liftO (m.sem x ds) ρ else .bad
  | .dc own tg it c k e, ρ => (evIt it ρ).bind fun items ρ1 =>
    match dcLoop (fun d ρ => match bindT tg d ρ with
      | some ρ => (evC c ρ).bind fun b ρ => if b = true then (ev k ρ).bind fun x ρ => (ev e ρ).bind fun y ρ => (match keyD x with
        | some j => if frzD y = true then .ok (some (j, y)) (wipeE ρ own) else .bad
        | none => .bad) else .ok none (wipeE ρ own)
      | none => .bad) items ([], []) (wipeE ρ1 own) with
    | .ok ks ρ2 => if ks.1.length < lim then .ok (.dk true ks.1 ks.2) ρ2 else .bad
    | .exc _ _ => .bad
    | .bad => .bad
def evs : Es → Ev → Out (List D)
  | .nil, ρ => .ok [] ρ
  | .cons e es, ρ => (ev e ρ).bind fun d ρ => (evs es ρ).bind fun ds ρ => .ok (d :: ds) ρ
  | .io i es, ρ => (match getV ρ i with
    | some _ => (evs es ρ).bind fun ds ρ => .ok (.non :: ds) ρ
    | none => .bad)
/-- the tests of a comprehension: none or one -/
def evC : Es → Ev → Out Bool
  | .nil, ρ => .ok true ρ
  | .cons e _, ρ => (ev e ρ).bind fun d ρ => liftO (truth d) ρ
  | .io _ _, _ => .bad
def evIt : It → Ev → Out (List D)
  | .seq e, ρ => (ev e ρ).bind fun d ρ => liftO (seqOf d) ρ
  | .rng es, ρ => (evs es ρ).bind fun ds ρ => liftO (rngOf ds) ρ
  | .enum e, ρ => (ev e ρ).bind fun d ρ => liftO ((seqOf d).map (enumD 0)) ρ
  | .zip a b, ρ => (ev a ρ).bind fun x ρ => (ev b ρ).bind fun y ρ => (match seqOf x, seqOf y with
    | some xs, some ys => .ok (zipD xs ys) ρ
    | _, _ => .bad)
end
def lcF (own : List Nat) (tg : Tg) (c : Es) (elt : E) : D → Ev → Out (List D) := fun d ρ => match bindT tg d ρ with
  | some ρ => (evC c ρ).bind fun b ρ => if b = true then (ev elt ρ).bind fun y ρ => .ok [y] (wipeE ρ own) else .ok [] (wipeE ρ own)
  | none => .bad
def dcF (own : List Nat) (tg : Tg) (c : Es) (k e : E) : D → Ev → Out (Option (Key × D)) := fun d ρ => match bindT tg d ρ with
  | some ρ => (evC c ρ).bind fun b ρ => if b = true then (ev k ρ).bind fun x ρ => (ev e ρ).bind fun y ρ => (match keyD x with
    | some j => if frzD y = true then .ok (some (j, y)) (wipeE ρ own) else .bad
    | none => .bad) else .ok none (wipeE ρ own)
  | none => .bad
inductive Fl where
  | nx | bk | ct | rt (d : D)
def FUEL : Nat := 1099511627776
def forLoop (tg : Tg) (body : Ev → Out Fl) : List D → Ev → Out Fl
  | [], ρ => .ok .nx ρ
  | d :: ds, ρ => match bindT tg d ρ with
    | none => .bad
    | some ρ1 => match body ρ1 with
      | .ok .nx ρ2 => forLoop tg body ds ρ2
      | .ok .ct ρ2 => forLoop tg body ds ρ2
      | .ok .bk ρ2 => .ok .nx ρ2
      | .ok (.rt v) ρ2 => .ok (.rt v) ρ2
      | .exc x ρ2 => .exc x ρ2
      | .bad => .bad
def whLoop (c : Ev → Out D) (body : Ev → Out Fl) : Nat → Ev → Out Fl
  | 0, _ => .bad
  | n + 1, ρ => match c ρ with
    | .ok d ρ1 => (match truth d with
      | some true => (match body ρ1 with
        | .ok .nx ρ2 => whLoop c body n ρ2
        | .ok .ct ρ2 => whLoop c body n ρ2
        | .ok .bk ρ2 => .ok .nx ρ2
        | .ok (.rt v) ρ2 => .ok (.rt v) ρ2
        | .exc x ρ2 => .exc x ρ2
        | .bad => .bad)
      | some false => .ok .nx ρ1
      | none => .bad)
    | .exc x ρ1 => .exc x ρ1
    | .bad => .bad
def appF (d : D) (xs : List D) : Option (Unit × List D) := if xs.length < lim then some ((), xs ++ [d]) else none
mutual
def ex : S → Ev → Out Fl
  | .pass, ρ => .ok .nx ρ
  | .expr e, ρ => (ev e ρ).bind fun _ ρ => .ok .nx ρ
  | .asg i e, ρ => (ev e ρ).bind fun d ρ => .ok .nx (ρ.set i (some d))
  | .asgT tg e, ρ => (ev e ρ).bind fun d ρ => (match bindT tg d ρ with
    | some ρ' => .ok .nx ρ'
    | none => .bad)
  | .asgP i j a b, ρ => (ev a ρ).bind fun x ρ => (ev b ρ).bind fun y ρ => .ok .nx ((ρ.set i (some x)).set j (some y))
  | .aug i op e, ρ => (match getV ρ i with
    | some (.int m) => (ev e ρ).bind fun y ρ => (match y with
      | .int n => (match op.sem (.int m) (.int n) with
        | some z => .ok .nx (ρ.set i (some z))
        | none => .bad)
      | _ => .bad)
    | _ => .bad)
  | .setI i ix e, ρ => (ev e ρ).bind fun d ρ => (match getV ρ i with
    | some x => (ev ix ρ).bind fun k ρ => (match x, k with
      | .lst true xs, .int j => (match ixN xs.length j with
        | some n => .ok .nx (ρ.set i (some (.lst true (xs.set n d))))
        | none => .bad)
      | .dk true ks vs, k => (match keyD k with
        | some j => if frzD d = true ∧ ks.length < lim then .ok .nx (ρ.set i (some (.dk true (put j d ks vs).1 (put j d ks vs).2))) else .bad
        | none => .bad)
      | _, _ => .bad)
    | none => .bad)
  | .app i e, ρ => if isL ρ i = true then (ev e ρ).bind fun d ρ => (onL (appF d) i ρ).bind fun _ ρ => .ok .nx ρ else .bad
  | .iff c a b, ρ => (ev c ρ).bind fun x ρ => (match truth x with
    | some true => exs a ρ
    | some false => exs b ρ
    | none => .bad)
  | .whl c b, ρ => whLoop (ev c) (exs b) FUEL ρ
  | .forr tg it b, ρ => (evIt it ρ).bind fun items ρ => forLoop tg (exs b) items ρ
  | .ret e, ρ => (ev e ρ).bind fun d ρ => .ok (.rt d) ρ
  | .retN, ρ => .ok (.rt .non) ρ
  | .brk, ρ => .ok .bk ρ
  | .cnt, ρ => .ok .ct ρ
def exs : Ss → Ev → Out Fl
  | .nil, ρ => .ok .nx ρ
  | .cons s ss, ρ => match ex s ρ with
    | .ok .nx ρ' => exs ss ρ'
    | r => r
end
/-- where the names that a def may change stand -/
def ixs : List Bool → List Nat
  | [] => []
  | true :: r => 0 :: (ixs r).map (· + 1)
  | false :: r => (ixs r).map (· + 1)
def outsOf : List Nat → Ev → Option (List D)
  | [], _ => some []
  | i :: r, ρ => match getV ρ i, outsOf r ρ with
    | some d, some l => some (d :: l)
    | _, _ => none
/-- a def: how many names, the parameters that it may change, its body -/
def runFn (n : Nat) (io : List Bool) (b : Ss) : FSem := fun ds =>
  match exs b (ds.map some ++ List.replicate (n - ds.length) none) with
  | .ok .nx ρ => (match outsOf (ixs io) ρ with
    | some l => .ret .non l
    | none => .bad)
  | .ok (.rt d) ρ => (match outsOf (ixs io) ρ with
    | some l => .ret d l
    | none => .bad)
  | .exc x ρ => (match outsOf (ixs io) ρ with
    | some l => .exc x l
    | none => .bad)
  | _ => .bad
end Ly

namespace Ly
open PySem PySem.Spec L2

/-- what may be changed -/
def Mb : HO → Prop
  | .lst _ => True
  | .dK _ => True
  | .dT _ => True
  | _ => False
/-- a list that stands still for good -/
def SqF (H : Hp) (a : Addr) (xs : List V) : Prop := ∃ o, H a = some (.frz o (.lst xs))
/-- the script: known to the object, or an object of the module -/
def SqS (K : PySem.W.Frag) (H : Hp) (a : Addr) (xs : List V) : Prop :=
  (∃ o, H a = some (.frz o (.lst xs))) ∨
    ∃ (o : Obj) (its : Array Value) (n : Nat), K.lookup a = some o ∧ o.cls = .type "list" ∧ o.dict = none ∧ o.data = .seq its n ∧ its.size ≤ sizeLine ∧ Vals xs its.toList
theorem SqS.sq {K : PySem.W.Frag} {H : Hp} {a : Addr} {xs : List V} (h : SqS K H a xs) : SqL K H a xs := by
  rcases h with h | h
  · exact .inl (.inr h)
  · exact .inr h
theorem SqF.sq {K : PySem.W.Frag} {H : Hp} {a : Addr} {xs : List V} (h : SqF H a xs) : SqL K H a xs := .inl (.inr h)
mutual
/-- v stands for d in H; S: the addresses that its holder may change -/
def Rep (K : PySem.W.Frag) (H : Hp) : D → V → List Addr → Prop
  | .non, v, S => v = .non ∧ S = []
  | .bl b, v, S => v = .bl b ∧ S = []
  | .int i, v, S => v = .int i ∧ S = []
  | .str x, v, S => v = .str x ∧ S = []
  | .tup ds, v, S => S = [] ∧ ∃ a vs, v = .ref a ∧ SqT K H a vs ∧ Reps K H ds vs []
  | .lst false ds, v, S => S = [] ∧ ∃ a vs, v = .ref a ∧ SqF H a vs ∧ Reps K H ds vs []
  | .lst true ds, v, S => ∃ a vs S', v = .ref a ∧ H a = some (.lst vs) ∧ Reps K H ds vs S' ∧ S = a :: S'
  | .dk false ks ds, v, S => S = [] ∧ ∃ a vs o, v = .ref a ∧ H a = some (.frz o (.dK (ks.zip vs))) ∧ ks.length = vs.length ∧ Reps K H ds vs []
  | .dk true ks ds, v, S => ∃ a vs S', v = .ref a ∧ H a = some (.dK (ks.zip vs)) ∧ ks.length = vs.length ∧ Reps K H ds vs S' ∧ S = a :: S'
  | .dt false ks ds, v, S => S = [] ∧ ∃ a vs o, v = .ref a ∧ H a = some (.frz o (.dT (ks.zip vs))) ∧ ks.length = vs.length ∧ Reps K H ds vs []
  | .dt true ks ds, v, S => ∃ a vs S', v = .ref a ∧ H a = some (.dT (ks.zip vs)) ∧ ks.length = vs.length ∧ Reps K H ds vs S' ∧ S = a :: S'
  | .exc _ _, _, _ => False
  | .scr ns, v, S => S = [] ∧ ∃ a, v = .ref a ∧ SqS K H a (ns.map V.int)
def Reps (K : PySem.W.Frag) (H : Hp) : List D → List V → List Addr → Prop
  | [], vs, S => vs = [] ∧ S = []
  | d :: ds, vs, S => ∃ v r S1 S2, vs = v :: r ∧ Rep K H d v S1 ∧ Reps K H ds r S2 ∧ S = S1 ++ S2
end
/-- all of S and all that cannot be changed stays -/
def Kp (S : List Addr) (H H' : Hp) : Prop := ∀ a o, H a = some o → (a ∈ S ∨ ¬ Mb o) → H' a = some o
theorem Kp.sub {S T : List Addr} {H H' : Hp} (k : Kp S H H') (h : ∀ a ∈ T, a ∈ S) : Kp T H H' := fun a o e q => k a o e (q.imp (h a) id)
theorem Kp.refl {S : List Addr} {H : Hp} : Kp S H H := fun _ _ e _ => e
theorem Kp.trans {S : List Addr} {H H1 H2 : Hp} (k : Kp S H H1) (k' : Kp S H1 H2) : Kp S H H2 := fun a o e q => k' a o (k a o e q) q
section
variable {K : PySem.W.Frag} {H H' : Hp}
theorem SqT.kp {S : List Addr} {a : Addr} {vs : List V} (h : SqT K H a vs) (k : Kp S H H') : SqT K H' a vs := by
  rcases h with (h | ⟨o, h⟩) | h
  · exact .inl (.inl (k a _ h (.inr fun z => z)))
  · exact .inl (.inr ⟨o, k a _ h (.inr fun z => z)⟩)
  · exact .inr h
theorem SqF.kp {S : List Addr} {a : Addr} {vs : List V} (h : SqF H a vs) (k : Kp S H H') : SqF H' a vs := by
  obtain ⟨o, h⟩ := h
  exact ⟨o, k a _ h (.inr fun z => z)⟩
mutual
theorem Rep.kp : ∀ (d : D) {v : V} {S : List Addr}, Rep K H d v S → Kp S H H' → Rep K H' d v S
  | .non, _, _, h, _ => h
  | .bl _, _, _, h, _ => h
  | .int _, _, _, h, _ => h
  | .str _, _, _, h, _ => h
  | .tup ds, _, _, h, k => by
    obtain ⟨rfl, a, vs, rfl, q, r⟩ := h
    exact ⟨rfl, a, vs, rfl, SqT.kp q k, Reps.kp ds r k⟩
  | .lst false ds, _, _, h, k => by
    obtain ⟨rfl, a, vs, rfl, q, r⟩ := h
    exact ⟨rfl, a, vs, rfl, SqF.kp q k, Reps.kp ds r k⟩
  | .lst true ds, _, _, h, k => by
    obtain ⟨a, vs, S', rfl, q, r, rfl⟩ := h
    exact ⟨a, vs, S', rfl, k a _ q (.inl List.mem_cons_self), Reps.kp ds r (k.sub fun b hb => List.mem_cons_of_mem _ hb), rfl⟩
  | .dk false ks ds, _, _, h, k => by
    obtain ⟨rfl, a, vs, o, rfl, q, l, r⟩ := h
    exact ⟨rfl, a, vs, o, rfl, k a _ q (.inr fun z => z), l, Reps.kp ds r k⟩
  | .dk true ks ds, _, _, h, k => by
    obtain ⟨a, vs, S', rfl, q, l, r, rfl⟩ := h
    exact ⟨a, vs, S', rfl, k a _ q (.inl List.mem_cons_self), l, Reps.kp ds r (k.sub fun b hb => List.mem_cons_of_mem _ hb), rfl⟩
  | .dt false ks ds, _, _, h, k => by
    obtain ⟨rfl, a, vs, o, rfl, q, l, r⟩ := h
    exact ⟨rfl, a, vs, o, rfl, k a _ q (.inr fun z => z), l, Reps.kp ds r k⟩
  | .dt true ks ds, _, _, h, k => by
    obtain ⟨a, vs, S', rfl, q, l, r, rfl⟩ := h
    exact ⟨a, vs, S', rfl, k a _ q (.inl List.mem_cons_self), l, Reps.kp ds r (k.sub fun b hb => List.mem_cons_of_mem _ hb), rfl⟩
  | .exc _ _, _, _, h, _ => h
  | .scr ns, _, _, h, k => by
    obtain ⟨rfl, a, rfl, q⟩ := h
    exact ⟨rfl, a, rfl, q.imp (fun ⟨o, q⟩ => ⟨o, k a _ q (.inr fun z => z)⟩) id⟩
theorem Reps.kp : ∀ (ds : List D) {vs : List V} {S : List Addr}, Reps K H ds vs S → Kp S H H' → Reps K H' ds vs S
  | [], _, _, h, _ => h
  | d :: ds, _, _, h, k => by
    obtain ⟨v, r, S1, S2, rfl, q1, q2, rfl⟩ := h
    exact ⟨v, r, S1, S2, rfl, Rep.kp d q1 (k.sub fun b hb => List.mem_append_left _ hb), Reps.kp ds q2 (k.sub fun b hb => List.mem_append_right _ hb), rfl⟩
end
/-- what may be changed is there, and is of a kind that may -/
def Owns (H : Hp) (S : List Addr) : Prop := ∀ a ∈ S, ∃ o, H a = some o ∧ Mb o
theorem Owns.app {S T : List Addr} (h : Owns H S) (h' : Owns H T) : Owns H (S ++ T) := fun a ha => (List.mem_append.mp ha).elim (h a) (h' a)
mutual
theorem Rep.owns : ∀ (d : D) {v : V} {S : List Addr}, Rep K H d v S → Owns H S
  | .non, _, _, h => by obtain ⟨_, rfl⟩ := h; exact fun a ha => absurd ha List.not_mem_nil
  | .bl _, _, _, h => by obtain ⟨_, rfl⟩ := h; exact fun a ha => absurd ha List.not_mem_nil
  | .int _, _, _, h => by obtain ⟨_, rfl⟩ := h; exact fun a ha => absurd ha List.not_mem_nil
  | .str _, _, _, h => by obtain ⟨_, rfl⟩ := h; exact fun a ha => absurd ha List.not_mem_nil
  | .tup ds, _, _, h => by obtain ⟨rfl, _⟩ := h; exact fun a ha => absurd ha List.not_mem_nil
  | .lst false ds, _, _, h => by obtain ⟨rfl, _⟩ := h; exact fun a ha => absurd ha List.not_mem_nil
  | .lst true ds, _, _, h => by
    obtain ⟨a, vs, S', rfl, q, r, rfl⟩ := h
    exact fun b hb => (List.mem_cons.mp hb).elim (fun e => ⟨.lst vs, e ▸ q, show Mb (.lst vs) from True.intro⟩) (Reps.owns ds r b)
  | .dk false ks ds, _, _, h => by obtain ⟨rfl, _⟩ := h; exact fun a ha => absurd ha List.not_mem_nil
  | .dk true ks ds, _, _, h => by
    obtain ⟨a, vs, S', rfl, q, l, r, rfl⟩ := h
    exact fun b hb => (List.mem_cons.mp hb).elim (fun e => ⟨.dK (ks.zip vs), e ▸ q, show Mb (.dK (ks.zip vs)) from True.intro⟩) (Reps.owns ds r b)
  | .dt false ks ds, _, _, h => by obtain ⟨rfl, _⟩ := h; exact fun a ha => absurd ha List.not_mem_nil
  | .dt true ks ds, _, _, h => by
    obtain ⟨a, vs, S', rfl, q, l, r, rfl⟩ := h
    exact fun b hb => (List.mem_cons.mp hb).elim (fun e => ⟨.dT (ks.zip vs), e ▸ q, show Mb (.dT (ks.zip vs)) from True.intro⟩) (Reps.owns ds r b)
  | .exc _ _, _, _, h => h.elim
  | .scr ns, _, _, h => by obtain ⟨rfl, _⟩ := h; exact fun a ha => absurd ha List.not_mem_nil
theorem Reps.owns : ∀ (ds : List D) {vs : List V} {S : List Addr}, Reps K H ds vs S → Owns H S
  | [], _, _, h => by obtain ⟨_, rfl⟩ := h; exact fun a ha => absurd ha List.not_mem_nil
  | d :: ds, _, _, h => by
    obtain ⟨v, r, S1, S2, rfl, q1, q2, rfl⟩ := h
    exact (Rep.owns d q1).app (Reps.owns ds q2)
end
theorem Rep.frz {d : D} {v : V} {S : List Addr} (h : Rep K H d v S) (hf : frzD d = true) : S = [] := by
  cases d with
  | non => exact h.2
  | bl _ => exact h.2
  | int _ => exact h.2
  | str _ => exact h.2
  | tup _ => exact h.1
  | lst o _ =>
    cases o with
    | false => exact h.1
    | true => cases hf
  | dk o _ _ =>
    cases o with
    | false => exact h.1
    | true => cases hf
  | dt o _ _ =>
    cases o with
    | false => exact h.1
    | true => cases hf
  | exc _ _ => exact h.elim
  | scr _ => exact h.1
theorem Reps.frz : ∀ {ds : List D} {vs : List V} {S : List Addr}, Reps K H ds vs S → ds.all frzD = true → S = []
  | [], _, _, h, _ => h.2
  | d :: ds, _, _, h, hf => by
    obtain ⟨v, r, S1, S2, rfl, q1, q2, rfl⟩ := h
    rw [List.all_cons, Bool.and_eq_true] at hf
    rw [q1.frz hf.1, Reps.frz q2 hf.2]
    rfl
theorem Reps.length : ∀ {ds : List D} {vs : List V} {S : List Addr}, Reps K H ds vs S → ds.length = vs.length
  | [], _, _, h => by rw [h.1]; rfl
  | d :: ds, _, _, h => by
    obtain ⟨v, r, S1, S2, rfl, q1, q2, rfl⟩ := h
    rw [List.length_cons, List.length_cons, Reps.length q2]
/-- one item -/
theorem Reps.get : ∀ {ds : List D} {vs : List V} {S : List Addr} {i : Nat} {d : D}, Reps K H ds vs S → ds[i]? = some d → ∃ v T, vs[i]? = some v ∧ Rep K H d v T ∧ ∀ a ∈ T, a ∈ S
  | [], _, _, _, _, _, e => by simp at e
  | d :: ds, _, _, 0, _, h, e => by
    obtain ⟨v, r, S1, S2, rfl, q1, q2, rfl⟩ := h
    simp at e
    subst e
    exact ⟨v, S1, rfl, q1, fun a ha => List.mem_append_left _ ha⟩
  | d :: ds, _, _, i + 1, _, h, e => by
    obtain ⟨v, r, S1, S2, rfl, q1, q2, rfl⟩ := h
    obtain ⟨v', T, e1, e2, e3⟩ := Reps.get (i := i) q2 (by simpa using e)
    exact ⟨v', T, by simpa using e1, e2, fun a ha => List.mem_append_right _ (e3 a ha)⟩
theorem Reps.get0 {ds : List D} {vs : List V} {i : Nat} {d : D} (h : Reps K H ds vs []) (e : ds[i]? = some d) : ∃ v, vs[i]? = some v ∧ Rep K H d v [] := by
  obtain ⟨v, T, e1, e2, e3⟩ := h.get e
  have : T = [] := List.eq_nil_iff_forall_not_mem.mpr fun a ha => absurd (e3 a ha) List.not_mem_nil
  subst this
  exact ⟨v, e1, e2⟩
theorem Reps.of_get : ∀ {ds : List D} {vs : List V} {i : Nat} {v : V} {S : List Addr}, Reps K H ds vs S → vs[i]? = some v → ∃ d T, ds[i]? = some d ∧ Rep K H d v T ∧ ∀ a ∈ T, a ∈ S := fun {ds vs i v S} h e => by
  have hl := h.length
  obtain ⟨hi, e1⟩ := List.getElem?_eq_some_iff.mp e
  have hi' : i < ds.length := by omega
  obtain ⟨v', T, e1', e2, e3⟩ := h.get (List.getElem?_eq_getElem hi')
  rw [e] at e1'
  cases e1'
  exact ⟨_, T, List.getElem?_eq_getElem hi', e2, e3⟩
theorem Reps.nil : Reps K H [] [] [] := ⟨rfl, rfl⟩
theorem Reps.cons {d : D} {v : V} {S1 S2 : List Addr} {ds : List D} {vs : List V} (h : Rep K H d v S1) (h' : Reps K H ds vs S2) : Reps K H (d :: ds) (v :: vs) (S1 ++ S2) := ⟨v, vs, S1, S2, rfl, h, h', rfl⟩
theorem Reps.app : ∀ {ds es : List D} {vs ws : List V} {S T : List Addr}, Reps K H ds vs S → Reps K H es ws T → Reps K H (ds ++ es) (vs ++ ws) (S ++ T)
  | [], _, _, _, _, _, h, h' => by
    obtain ⟨rfl, rfl⟩ := h
    exact h'
  | d :: ds, _, _, _, _, _, h, h' => by
    obtain ⟨v, r, S1, S2, rfl, q1, q2, rfl⟩ := h
    rw [List.append_assoc]
    exact Reps.cons q1 (Reps.app q2 h')
theorem Reps.take0 : ∀ {ds : List D} {vs : List V} (n : Nat), Reps K H ds vs [] → Reps K H (ds.take n) (vs.take n) []
  | [], _, n, h => by
    obtain ⟨rfl, _⟩ := h
    rw [List.take_nil, List.take_nil]
    exact Reps.nil
  | d :: ds, _, 0, h => Reps.nil
  | d :: ds, _, n + 1, h => by
    obtain ⟨v, r, S1, S2, rfl, q1, q2, e⟩ := h
    obtain ⟨rfl, rfl⟩ := List.append_eq_nil_iff.mp e.symm
    exact Reps.cons (S1 := []) (S2 := []) q1 (Reps.take0 n q2)
theorem Reps.drop0 : ∀ {ds : List D} {vs : List V} (n : Nat), Reps K H ds vs [] → Reps K H (ds.drop n) (vs.drop n) []
  | [], _, n, h => by
    obtain ⟨rfl, _⟩ := h
    rw [List.drop_nil, List.drop_nil]
    exact Reps.nil
  | d :: ds, _, 0, h => h
  | d :: ds, _, n + 1, h => by
    obtain ⟨v, r, S1, S2, rfl, q1, q2, e⟩ := h
    obtain ⟨rfl, rfl⟩ := List.append_eq_nil_iff.mp e.symm
    exact Reps.drop0 n q2

/-! ### a def's names -/
def Vars (K : PySem.W.Frag) (H : Hp) : Ev → St → List Addr → Prop
  | [], [], SV => SV = []
  | none :: ρ, _ :: σ, SV => Vars K H ρ σ SV
  | some d :: ρ, some v :: σ, SV => ∃ S R, Rep K H d v S ∧ Vars K H ρ σ R ∧ SV = S ++ R
  | _, _, _ => False
theorem Vars.length : ∀ {ρ : Ev} {σ : St} {SV : List Addr}, Vars K H ρ σ SV → ρ.length = σ.length
  | [], [], _, _ => rfl
  | none :: ρ, _ :: σ, _, h => congrArg (· + 1) (Vars.length (ρ := ρ) (σ := σ) h)
  | some d :: ρ, some v :: σ, _, h => by
    obtain ⟨S, R, _, h, _⟩ := h
    exact congrArg (· + 1) (Vars.length h)
  | some d :: ρ, none :: σ, _, h => h.elim
  | [], _ :: _, _, h => h.elim
  | none :: _, [], _, h => h.elim
  | some _ :: _, [], _, h => h.elim
theorem Vars.owns : ∀ {ρ : Ev} {σ : St} {SV : List Addr}, Vars K H ρ σ SV → Owns H SV
  | [], [], _, h => by
    have h : _ = [] := h
    subst h
    exact fun a ha => absurd ha List.not_mem_nil
  | none :: ρ, _ :: σ, _, h => Vars.owns (ρ := ρ) (σ := σ) h
  | some d :: ρ, some v :: σ, _, h => by
    obtain ⟨S, R, q, h, rfl⟩ := h
    exact (q.owns).app (Vars.owns h)
  | some d :: ρ, none :: σ, _, h => h.elim
  | [], _ :: _, _, h => h.elim
  | none :: _, [], _, h => h.elim
  | some _ :: _, [], _, h => h.elim
theorem Vars.kp : ∀ {ρ : Ev} {σ : St} {SV : List Addr}, Vars K H ρ σ SV → Kp SV H H' → Vars K H' ρ σ SV
  | [], [], _, h, _ => h
  | none :: ρ, _ :: σ, _, h, k => Vars.kp (ρ := ρ) (σ := σ) h k
  | some d :: ρ, some v :: σ, _, h, k => by
    obtain ⟨S, R, q, h, rfl⟩ := h
    exact ⟨S, R, q.kp d (k.sub fun a ha => List.mem_append_left _ ha), Vars.kp h (k.sub fun a ha => List.mem_append_right _ ha), rfl⟩
  | some d :: ρ, none :: σ, _, h, _ => h.elim
  | [], _ :: _, _, h, _ => h.elim
  | none :: _, [], _, h, _ => h.elim
  | some _ :: _, [], _, h, _ => h.elim
/-- one name apart from the others -/
structure Foc (K : PySem.W.Frag) (H : Hp) (ρ : Ev) (σ : St) (SV : List Addr) (i : Nat) (S R : List Addr) : Prop where
  perm : SV.Perm (S ++ R)
  here : ∀ d, ρ[i]? = some (some d) → ∃ v, σ[i]? = some (some v) ∧ Rep K H d v S
  nil : ρ[i]? = some none → S = []
  set : ∀ H' d' v' S', Kp R H H' → Rep K H' d' v' S' → ∃ SV', Vars K H' (ρ.set i (some d')) (σ.set i (some v')) SV' ∧ SV'.Perm (S' ++ R)
  out : ∀ H' σ', Kp R H H' → (∀ j, j ≠ i → σ'[j]? = σ[j]?) → σ'.length = σ.length → ∃ SV', Vars K H' (ρ.set i none) σ' SV' ∧ SV'.Perm R
theorem tail_eq {o o' : Option V} {σ σ' : List (Option V)} (h : ∀ j, j ≠ 0 → (o' :: σ')[j]? = (o :: σ)[j]?) : σ' = σ := by
  apply List.ext_getElem?
  intro j
  simpa using h (j + 1) (by omega)
theorem Vars.foc : ∀ {ρ : Ev} {σ : St} {SV : List Addr} (i : Nat), Vars K H ρ σ SV → i < ρ.length → ∃ S R, Foc K H ρ σ SV i S R
  | [], _, _, _, _, hi => absurd hi (Nat.not_lt_zero _)
  | none :: ρ, x :: σ, SV, 0, h, _ => by
    refine ⟨[], SV, .refl _, fun d e => by simp at e, fun _ => rfl, fun H' d' v' S' k r => ⟨S' ++ SV, ⟨S', SV, r, Vars.kp (ρ := ρ) (σ := σ) h k, rfl⟩, .refl _⟩, fun H' σ' k hs hl => ?_⟩
    cases σ' with
    | nil => simp at hl
    | cons y σ' =>
      have := tail_eq hs
      subst this
      exact ⟨SV, Vars.kp (ρ := ρ) (σ := σ') h k, .refl _⟩
  | some d :: ρ, some v :: σ, SV, 0, h, _ => by
    obtain ⟨S, R, q, h, rfl⟩ := h
    refine ⟨S, R, .refl _, fun d' e => by simp at e; subst e; exact ⟨v, rfl, q⟩, fun e => by simp at e, fun H' d' v' S' k r => ⟨S' ++ R, ⟨S', R, r, Vars.kp h k, rfl⟩, .refl _⟩, fun H' σ' k hs hl => ?_⟩
    cases σ' with
    | nil => simp at hl
    | cons y σ' =>
      have := tail_eq hs
      subst this
      exact ⟨R, Vars.kp h k, .refl _⟩
  | none :: ρ, x :: σ, SV, i + 1, h, hi => by
    obtain ⟨S, R, f⟩ := Vars.foc (ρ := ρ) (σ := σ) i h (by simpa using hi)
    refine ⟨S, R, f.perm, fun d e => by obtain ⟨v, e1, e2⟩ := f.here d (by simpa using e); exact ⟨v, by simpa using e1, e2⟩, fun e => f.nil (by simpa using e), fun H' d' v' S' k r => ?_, fun H' σ' k hs hl => ?_⟩
    · obtain ⟨SV', a, b⟩ := f.set H' d' v' S' k r
      exact ⟨SV', a, b⟩
    · cases σ' with
      | nil => simp at hl
      | cons y σ' =>
        obtain ⟨SV', a, b⟩ := f.out H' σ' k (fun j hj => by simpa using hs (j + 1) (by omega)) (by simpa using hl)
        exact ⟨SV', a, b⟩
  | some d :: ρ, some v :: σ, SV, i + 1, h, hi => by
    obtain ⟨S0, R0, q, h, rfl⟩ := h
    obtain ⟨S, R, f⟩ := Vars.foc i h (by simpa using hi)
    refine ⟨S, S0 ++ R, ?_, fun d e => by obtain ⟨v, e1, e2⟩ := f.here d (by simpa using e); exact ⟨v, by simpa using e1, e2⟩, fun e => f.nil (by simpa using e), fun H' d' v' S' k r => ?_, fun H' σ' k hs hl => ?_⟩
    · refine (f.perm.append_left S0).trans ?_
      rw [← List.append_assoc, ← List.append_assoc]
      exact (List.perm_append_comm).append_right R
    · obtain ⟨SV', a, b⟩ := f.set H' d' v' S' (k.sub fun a ha => List.mem_append_right _ ha) r
      refine ⟨S0 ++ SV', ⟨S0, SV', q.kp d (k.sub fun a ha => List.mem_append_left _ ha), a, rfl⟩, (b.append_left S0).trans ?_⟩
      rw [← List.append_assoc, ← List.append_assoc]
      exact (List.perm_append_comm).append_right R
    · cases σ' with
      | nil => simp at hl
      | cons y σ' =>
        obtain ⟨SV', a, b⟩ := f.out H' σ' (k.sub fun a ha => List.mem_append_right _ ha) (fun j hj => by simpa using hs (j + 1) (by omega)) (by simpa using hl)
        have hy : y = some v := by simpa using hs 0 (by omega)
        subst hy
        exact ⟨S0 ++ SV', ⟨S0, SV', q.kp d (k.sub fun a ha => List.mem_append_left _ ha), a, rfl⟩, b.append_left S0⟩
  | some d :: ρ, none :: σ, _, _, h, _ => h.elim
  | none :: _, [], _, _, h, _ => h.elim
  | some _ :: _, [], _, _, h, _ => h.elim
theorem getV_some {ρ : Ev} {i : Nat} {d : D} (h : getV ρ i = some d) : ρ[i]? = some (some d) ∧ i < ρ.length := by
  unfold getV at h
  by_cases hi : i < ρ.length
  · rw [List.getD_eq_getElem?_getD, List.getElem?_eq_getElem hi] at h
    rw [List.getElem?_eq_getElem hi]
    exact ⟨congrArg some h, hi⟩
  · rw [List.getD_eq_getElem?_getD, List.getElem?_eq_none (by omega)] at h
    cases h
theorem set_same {α : Type} : ∀ {l : List α} {i : Nat} {x : α}, l[i]? = some x → l.set i x = l
  | [], _, _, h => by simp at h
  | y :: l, 0, x, h => by simp at h; subst h; rfl
  | y :: l, i + 1, x, h => by
    rw [List.set_cons_succ, set_same (l := l) (by simpa using h)]
end
end Ly

namespace Ly
open PySem PySem.Spec L2
variable [Fns]

mutual
/-- its value is nobody else's to change -/
def own : E → Bool
  | .var _ => false
  | .o2 op _ _ => (match op with
    | .idx => false
    | _ => true)
  | .and a b => own a && own b
  | .or a b => own a && own b
  | .ite _ a b => own a && own b
  | _ => true
end
mutual
/-- it changes nothing -/
def quiet : E → Bool
  | .var _ => true
  | .mv _ => false
  | .mvo _ => false
  | .cst _ => true
  | .glo _ => true
  | .ck e => quiet e
  | .fz e => false
  | .o2 _ a b => quiet a && quiet b
  | .o1 _ a => quiet a
  | .and a b => quiet a && quiet b
  | .or a b => quiet a && quiet b
  | .ite c a b => quiet c && (quiet a && quiet b)
  | .tup es => quiets es
  | .lst es => quiets es
  | .slc a lo hi => quiet a && (quiets lo && quiets hi)
  | .call slots _ es => slots.all (·.isNone) && quiets es
  | .pop _ => false
  | .popAt _ _ => false
  | .lc _ _ _ _ _ => false
  | .dnil => true
  | .lrg es => quiets es
  | .me _ a es => quiet a && quiets es
  | .dc _ _ _ _ _ _ => false
def quiets : Es → Bool
  | .nil => true
  | .cons e es => quiet e && quiets es
  | .io _ es => quiets es
end
def owns : Es → Bool
  | .nil => true
  | .cons e es => own e && owns es
  | .io _ es => owns es

def Ext (SV : List Addr) (H H' : Hp) : Prop := ∀ a o, H a = some o → a ∉ SV → H' a = some o
theorem Ext.refl {SV : List Addr} {H : Hp} : Ext SV H H := fun _ _ e _ => e
theorem Ext.kp {SV S : List Addr} {H H' : Hp} (x : Ext SV H H') (ow : Owns H SV) (d : ∀ a ∈ S, a ∉ SV) : Kp S H H' := fun a o e q => by
  refine x a o e fun ha => ?_
  rcases q with q | q
  · exact d a q ha
  · obtain ⟨o', e', m⟩ := ow a ha
    rw [e] at e'
    cases e'
    exact q m
theorem Ext.all {H H' : Hp} (x : Ext [] H H') (S : List Addr) : Kp S H H' := fun a o e _ => x a o e List.not_mem_nil
theorem Ext.weak {H H' : Hp} (x : Ext [] H H') (S : List Addr) : Ext S H H' := fun a o e _ => x a o e List.not_mem_nil
theorem Ext.new {SV : List Addr} {H : Hp} {p : Addr} {o : HO} (h : H p = none) : Ext SV H (upd H p o) := fun a u e _ => by
  rw [upd_ne (ne_of_none e h)]
  exact e

/-- the names behind a step -/
structure EnvP (K : PySem.W.Frag) (SV : List Addr) (H : Hp) (σ : St) (ρ' : Ev) (H' : Hp) (SV' : List Addr) : Prop where
  vars : Vars K H' ρ' σ SV'
  nd : SV'.Nodup
  src : ∀ a ∈ SV', a ∈ SV ∨ H a = none
  ext : Ext SV H H'
section
variable {K : PySem.W.Frag} {SV SV1 SV2 : List Addr} {H H1 H2 : Hp} {σ : St} {ρ ρ1 ρ2 : Ev}
theorem EnvP.refl (v : Vars K H ρ σ SV) (nd : SV.Nodup) : EnvP K SV H σ ρ H SV := ⟨v, nd, fun _ h => .inl h, .refl⟩
theorem src_trans {S : List Addr} (e1 : EnvP K SV H σ ρ1 H1 SV1) (h : ∀ a ∈ S, a ∈ SV1 ∨ H1 a = none) : ∀ a ∈ S, a ∈ SV ∨ H a = none := fun a ha => by
  rcases h a ha with h | h
  · exact e1.src a h
  · by_cases hs : a ∈ SV
    · exact .inl hs
    · cases q : H a with
      | none => exact .inr rfl
      | some o =>
        have := e1.ext a o q hs
        rw [h] at this
        cases this
theorem EnvP.trans (e1 : EnvP K SV H σ ρ1 H1 SV1) (e2 : EnvP K SV1 H1 σ ρ2 H2 SV2) : EnvP K SV H σ ρ2 H2 SV2 :=
  ⟨e2.vars, e2.nd, src_trans e1 e2.src, fun a o e hs => e2.ext a o (e1.ext a o e hs) fun h1 => by
    rcases e1.src a h1 with h | h
    · exact hs h
    · rw [e] at h; cases h⟩
/-- a value -/
structure ResP (K : PySem.W.Frag) (SV : List Addr) (H : Hp) (SV' : List Addr) (H' : Hp) (o : Bool) (d : D) (v : V) (S : List Addr) : Prop where
  rep : Rep K H' d v S
  src : o = true → ∀ a ∈ S, a ∈ SV ∨ H a = none
  sep : o = true → (S ++ SV').Nodup
/-- nothing has been changed -/
def Qt (SV : List Addr) (H : Hp) (ρ ρ' : Ev) (H' : Hp) (SV' : List Addr) : Prop := ρ' = ρ ∧ SV' = SV ∧ Ext [] H H'
theorem ResP.carry {o q : Bool} {d : D} {v : V} {S : List Addr} (r : ResP K SV H SV1 H1 o d v S) (e2 : EnvP K SV1 H1 σ ρ2 H2 SV2) (e1 : EnvP K SV H σ ρ1 H1 SV1) (hq : q = true → Qt SV1 H1 ρ1 ρ2 H2 SV2) (h : o = true ∨ q = true) :
    Rep K H2 d v S ∧ (o = true → (S ++ SV2).Nodup) := by
  have sep : o = true → (∀ a ∈ S, a ∉ SV1) := fun ho a ha hb => by
    have := (List.nodup_append.mp (r.sep ho)).2.2 a ha a hb
    exact this rfl
  have kp : Kp S H1 H2 := by
    rcases h with h | h
    · exact e2.ext.kp e1.vars.owns (sep h)
    · exact (hq h).2.2.all S
  refine ⟨r.rep.kp d kp, fun ho => ?_⟩
  refine List.nodup_append.mpr ⟨(List.nodup_append.mp (r.sep ho)).1, e2.nd, fun a ha b hb e => ?_⟩
  subst e
  rcases e2.src a hb with z | z
  · exact sep ho a ha z
  · obtain ⟨o', e', _⟩ := r.rep.owns d a ha
    rw [z] at e'
    cases e'
end

/-- what an error's datum lies as -/
structure Cfg where
  K : PySem.W.Frag
  ER : D → Value → Option Addr → Hp → Prop
/-- what is asked of an outcome, begun at SV, H -/
def tK {α β : Type} (C : Cfg) (W : WX) (σ : St) (SV : List Addr) (H : Hp) (R : α → Ev → List Addr → Hp → β → Prop) (m : Out α) (Q : β → Hp → Prop) : Prop :=
  match m with
  | .ok d ρ' => ∀ v H' SV', EnvP C.K SV H σ ρ' H' SV' → R d ρ' SV' H' v → Q v H'
  | .exc x ρ' => ∀ cls dd H' SV', EnvP C.K SV H σ ρ' H' SV' → C.ER x cls dd H' → W cls dd σ H'
  | .bad => False
/-- an expression's value, begun at SV, H, ρ -/
def RD (K : PySem.W.Frag) (SV : List Addr) (H : Hp) (ρ : Ev) (o q : Bool) (d : D) (ρ' : Ev) (SV' : List Addr) (H' : Hp) (v : V) : Prop := (∃ S, ResP K SV H SV' H' o d v S) ∧ (q = true → Qt SV H ρ ρ' H' SV')
def tD (C : Cfg) (W : WX) (e : E) : TE := fun σ H Q => ∃ ρ SV, Vars C.K H ρ σ SV ∧ SV.Nodup ∧ tK C W σ SV H (RD C.K SV H ρ (own e) (quiet e)) (ev e ρ) Q
theorem tK_bind {α β γ δ : Type} {C : Cfg} {W : WX} {σ : St} {SV : List Addr} {H : Hp} {R : α → Ev → List Addr → Hp → β → Prop} {R' : γ → Ev → List Addr → Hp → δ → Prop} {m : Out α} {f : α → Ev → Out γ} {Q : δ → Hp → Prop} {Q1 : β → Hp → Prop}
    (h : tK C W σ SV H R' (m.bind f) Q)
    (k : ∀ d ρ1 v H1 SV1, EnvP C.K SV H σ ρ1 H1 SV1 → R d ρ1 SV1 H1 v → tK C W σ SV1 H1 (fun z ρ2 SV2 H2 w => EnvP C.K SV H σ ρ2 H2 SV2 ∧ R' z ρ2 SV2 H2 w) (f d ρ1) Q → Q1 v H1) : tK C W σ SV H R m Q1 := by
  cases m with
  | bad => exact h
  | exc x ρ' => exact h
  | ok d ρ1 =>
    intro v H1 SV1 e1 r1
    have h : tK C W σ SV H R' (f d ρ1) Q := h
    refine k d ρ1 v H1 SV1 e1 r1 ?_
    cases hf : f d ρ1 with
    | bad => rw [hf] at h; exact h
    | exc x ρ2 =>
      rw [hf] at h
      exact fun cls dd H2 SV2 e2 er => h cls dd H2 SV2 (e1.trans e2) er
    | ok z ρ2 =>
      rw [hf] at h
      exact fun w H2 SV2 e2 ⟨p1, p2⟩ => h w H2 SV2 p1 p2
/-- .. with what is asked as from the first beginning -/
theorem tK_bind0 {α β γ δ : Type} {C : Cfg} {W : WX} {σ : St} {SV : List Addr} {H : Hp} {R : α → Ev → List Addr → Hp → β → Prop} {R' : γ → Ev → List Addr → Hp → δ → Prop} {m : Out α} {f : α → Ev → Out γ} {Q : δ → Hp → Prop} {Q1 : β → Hp → Prop}
    (h : tK C W σ SV H R' (m.bind f) Q)
    (k : ∀ d ρ1 v H1 SV1, EnvP C.K SV H σ ρ1 H1 SV1 → R d ρ1 SV1 H1 v → tK C W σ SV H R' (f d ρ1) Q → Q1 v H1) : tK C W σ SV H R m Q1 := by
  cases m with
  | bad => exact h
  | exc x ρ' => exact h
  | ok d ρ1 => exact fun v H1 SV1 e1 r1 => k d ρ1 v H1 SV1 e1 r1 h
theorem tK_bindE {α β γ δ : Type} {C : Cfg} {W : WX} {σ : St} {SV : List Addr} {H : Hp} {R : α → Ev → List Addr → Hp → β → Prop} {R' : γ → Ev → List Addr → Hp → δ → Prop} {m : Out α} {f : α → Ev → Out γ} {Q : δ → Hp → Prop} {Q1 : β → Hp → Prop}
    (h : tK C W σ SV H R' (m.bind f) Q)
    (k : ∀ d ρ1 v H1 SV1, m = .ok d ρ1 → EnvP C.K SV H σ ρ1 H1 SV1 → R d ρ1 SV1 H1 v → tK C W σ SV H R' (f d ρ1) Q → Q1 v H1) : tK C W σ SV H R m Q1 := by
  cases m with
  | bad => exact h
  | exc x ρ' => exact h
  | ok d ρ1 => exact fun v H1 SV1 e1 r1 => k d ρ1 v H1 SV1 rfl e1 r1 h
theorem tK_lift {α β : Type} {C : Cfg} {W : WX} {σ : St} {SV : List Addr} {H : Hp} {R : α → Ev → List Addr → Hp → β → Prop} {o : Option α} {ρ : Ev} {Q : β → Hp → Prop} (h : tK C W σ SV H R (liftO o ρ) Q) :
    ∃ z, o = some z ∧ ∀ v H' SV', EnvP C.K SV H σ ρ H' SV' → R z ρ SV' H' v → Q v H' := by
  cases o with
  | none => exact h.elim
  | some z => exact ⟨z, rfl, h⟩

theorem pemono {X : Cx} {e : Expr} {t t' : TE} (h : PE X e t) (k : ∀ σ H Q, t' σ H Q → t σ H Q) : PE X e t' := ⟨fun pins s σ H Q I q => h.run pins s σ H Q I (k σ H Q q)⟩
theorem ptmono {X : Cx} {e : Expr} {t t' : TT} (h : PT X e t) (k : ∀ σ H Q, t' σ H Q → t σ H Q) : PT X e t' := ⟨fun pins s σ H Q I q => h.run pins s σ H Q I (k σ H Q q)⟩

/-! ### two values -/
/-- an operation whose result is new, or frozen -/
def rD (K : PySem.W.Frag) (g : D → D → Option D) : R2 := fun x y H Q => ∃ d e z S T, Rep K H d x S ∧ Rep K H e y T ∧ g d e = some z ∧ ∀ w H' S', Ext [] H H' → Rep K H' z w S' → S'.Nodup → (∀ a ∈ S', H a = none) → Q w H'
section
variable {K : PySem.W.Frag} {SV SV1 SV2 : List Addr} {H H1 H2 H' : Hp} {σ : St} {ρ ρ1 ρ2 : Ev}
/-- behind a new value -/
theorem EnvP.ext0 (e : EnvP K SV H σ ρ H1 SV1) (x : Ext [] H1 H') : EnvP K SV1 H1 σ ρ H' SV1 := ⟨e.vars.kp (x.all _), e.nd, fun a h => .inl h, x.weak _⟩
theorem fresh_sep {S' : List Addr} (e : EnvP K SV H σ ρ H1 SV1) (nd : S'.Nodup) (h : ∀ a ∈ S', H1 a = none) : (∀ a ∈ S', a ∈ SV ∨ H a = none) ∧ (S' ++ SV1).Nodup :=
  ⟨src_trans e fun a ha => .inr (h a ha), List.nodup_append.mpr ⟨nd, e.nd, fun a ha b hb q => by
    subst q
    obtain ⟨o, e1, _⟩ := e.vars.owns a hb
    rw [h a ha] at e1
    cases e1⟩⟩
theorem Qt.trans (a : Qt SV H ρ ρ1 H1 SV1) (b : Qt SV1 H1 ρ1 ρ2 H2 SV2) : Qt SV H ρ ρ2 H2 SV2 := by
  obtain ⟨rfl, rfl, x⟩ := a
  obtain ⟨rfl, rfl, y⟩ := b
  exact ⟨rfl, rfl, fun a o e h => y a o (x a o e h) h⟩
theorem Qt.ext (a : Qt SV H ρ ρ1 H1 SV1) (x : Ext [] H1 H') : Qt SV H ρ ρ1 H' SV1 := ⟨a.1, a.2.1, fun b o e h => x b o (a.2.2 b o e h) h⟩
end
/-- a value is at hand: go on -/
theorem tD_o2 {C : Cfg} {W : WX} {a b : E} {op : O2} {σ : St} {H : Hp} {Q : VK} (hop : own (.o2 op a b) = true) (hs : (own a || quiet b) = true) (h : tD C W (.o2 op a b) σ H Q) :
    tOp (rD C.K op.sem) (tD C W a) (tD C W b) σ H Q := by
  obtain ⟨ρ, SV, hv, nd, h⟩ := h
  have h : tK C W σ SV H (RD C.K SV H ρ (own (.o2 op a b)) (quiet a && quiet b)) ((ev a ρ).bind fun x ρ => (ev b ρ).bind fun y ρ => liftO (op.sem x y) ρ) Q := h
  refine ⟨ρ, SV, hv, nd, tK_bind h fun d ρ1 v H1 SV1 e1 r1 h1 => ⟨ρ1, SV1, e1.vars, e1.nd, tK_bind h1 fun e ρ2 u H2 SV2 e2 r2 h2 => ?_⟩⟩
  obtain ⟨z, hz, h2⟩ := tK_lift h2
  obtain ⟨⟨S, r1⟩, q1⟩ := r1
  obtain ⟨⟨T, r2⟩, q2⟩ := r2
  have hs' : own a = true ∨ quiet b = true := by simpa using hs
  obtain ⟨rep1, sep1⟩ := r1.carry e2 e1 q2 hs'
  have et := e1.trans e2
  refine ⟨d, e, z, S, T, rep1, r2.rep, hz, fun w H' S' x rep nd' new => ?_⟩
  have en := et.ext0 x
  obtain ⟨f1, f2⟩ := fresh_sep et nd' new
  refine h2 w H' SV2 en ⟨e2.trans en, et.trans en, ⟨S', rep, fun _ => f1, fun _ => f2⟩, fun q => ?_⟩
  rw [Bool.and_eq_true] at q
  exact ((q1 q.1).trans (q2 q.2)).ext x
theorem se_bin {X : Cx} {C : Cfg} {W : WX} {a b : Expr} {a' b' : E} {op : Operator} {o : O2} {pos : Pos} (ho : OpR X (binaryOp op) (rD C.K o.sem)) (ha : PE X a (tD C W a')) (hb : PE X b (tD C W b')) (hop : own (.o2 o a' b') = true) (hs : (own a' || quiet b') = true) :
    PE X (.BinOp a op b pos) (tD C W (.o2 o a' b')) := pemono (pe_op ho ha hb) fun _ _ _ h => tD_o2 hop hs h
end Ly

namespace Ly
open PySem PySem.Spec L2
variable [Fns]
section
variable {X : Cx} {K : PySem.W.Frag} {H : Hp}
theorem lim_eq : lim = sizeLine := sizeLine_eq.symm
/-- a value without parts that may be changed -/
theorem k0 {d : D} {v : V} {Q : VK} (k : ∀ w H' S', Ext [] H H' → Rep K H' d w S' → S'.Nodup → (∀ a ∈ S', H a = none) → Q w H') (r : Rep K H d v []) : Q v H := k v H [] .refl r .nil fun a ha => absurd ha List.not_mem_nil
theorem kInt {i : Int} {Q : VK} (k : ∀ w H' S', Ext [] H H' → Rep K H' (.int i) w S' → S'.Nodup → (∀ a ∈ S', H a = none) → Q w H') : Q (.int i) H := k0 k ⟨rfl, rfl⟩
theorem kBl {b : Bool} {Q : VK} (k : ∀ w H' S', Ext [] H H' → Rep K H' (.bl b) w S' → S'.Nodup → (∀ a ∈ S', H a = none) → Q w H') : Q (.bl b) H := k0 k ⟨rfl, rfl⟩
theorem kStr {x : Str} {Q : VK} (k : ∀ w H' S', Ext [] H H' → Rep K H' (.str x) w S' → S'.Nodup → (∀ a ∈ S', H a = none) → Q w H') : Q (.str x) H := k0 k ⟨rfl, rfl⟩
/-- a new tuple, a new list -/
theorem kTup {ds : List D} {vs : List V} {Q : VK} (k : ∀ w H' S', Ext [] H H' → Rep K H' (.tup ds) w S' → S'.Nodup → (∀ a ∈ S', H a = none) → Q w H') (r : Reps K H ds vs []) : ∀ p, H p = none → Q (.ref p) (upd H p (.tup vs)) := fun p hp =>
  k (.ref p) _ [] (Ext.new hp) ⟨rfl, p, vs, rfl, .inl (.inl upd_same), r.kp ds ((Ext.new (SV := []) hp).all _)⟩ .nil fun a ha => absurd ha List.not_mem_nil
theorem kLst {ds : List D} {vs : List V} {Q : VK} (k : ∀ w H' S', Ext [] H H' → Rep K H' (.lst true ds) w S' → S'.Nodup → (∀ a ∈ S', H a = none) → Q w H') (r : Reps K H ds vs []) : ∀ p, H p = none → Q (.ref p) (upd H p (.lst vs)) := fun p hp =>
  k (.ref p) _ [p] (Ext.new hp) ⟨p, vs, [], rfl, upd_same, r.kp ds ((Ext.new (SV := []) hp).all _), rfl⟩ (by simp) fun a ha => by
    have : a = p := by simpa using ha
    subst this
    exact hp
/-- a list's or tuple's items, frozen -/
theorem lst_sq {o : Bool} {ds : List D} {v : V} {S : List Addr} (r : Rep K H (.lst o ds) v S) : ∃ a vs T, v = .ref a ∧ Rd H a (.lst vs) ∧ Reps K H ds vs T ∧ ((o = false ∨ ds.all frzD = true) → T = []) := by
  cases o with
  | false =>
    obtain ⟨rfl, a, vs, rfl, q, r⟩ := r
    exact ⟨a, vs, [], rfl, .inr q, r, fun _ => rfl⟩
  | true =>
    obtain ⟨a, vs, S', rfl, q, r, rfl⟩ := r
    refine ⟨a, vs, S', rfl, .inl q, r, fun h => ?_⟩
    rcases h with h | h
    · cases h
    · exact r.frz h

/-! ### as the library's data -/
mutual
theorem rep_dp : ∀ (d : D) {v : V} {S : List Addr}, Rep K H d v S → (toP d).plain = true → Dp K H v (toP d)
  | .non, _, _, h, _ => by obtain ⟨rfl, _⟩ := h; exact .non
  | .bl b, _, _, h, _ => by obtain ⟨rfl, _⟩ := h; exact .bl b
  | .int i, _, _, h, _ => by obtain ⟨rfl, _⟩ := h; exact .int i
  | .str x, _, _, h, _ => by obtain ⟨rfl, _⟩ := h; exact .str x
  | .tup ds, _, _, h, p => by
    obtain ⟨rfl, a, vs, rfl, q, r⟩ := h
    exact .tup q (reps_dp ds r p)
  | .lst o ds, _, _, h, p => by
    obtain ⟨a, vs, T, rfl, q, r, _⟩ := lst_sq h
    exact .lst (.inl q) (reps_dp ds r p)
  | .dk _ _ _, _, _, _, p => by cases p
  | .dt _ _ _, _, _, _, p => by cases p
  | .exc _ _, _, _, _, p => by cases p
  | .scr _, _, _, _, p => by cases p
theorem reps_dp : ∀ (ds : List D) {vs : List V} {S : List Addr}, Reps K H ds vs S → PyData.plainAll (toPs ds) = true → DpAll K H vs (toPs ds)
  | [], _, _, h, _ => by obtain ⟨rfl, _⟩ := h; exact .nil
  | d :: ds, _, _, h, p => by
    obtain ⟨v, r, S1, S2, rfl, q1, q2, rfl⟩ := h
    have p : ((toP d).plain && PyData.plainAll (toPs ds)) = true := p
    rw [Bool.and_eq_true] at p
    exact .cons (rep_dp d q1 p.1) (reps_dp ds q2 p.2)
end

/-! ### arithmetic -/
theorem I2_some {f : Int → Int → D} {d e z : D} (h : I2 f d e = some z) : ∃ i j, d = .int i ∧ e = .int j ∧ z = f i j := by
  cases d <;> cases e <;> first | (cases h; exact ⟨_, _, rfl, rfl, rfl⟩) | cases h
theorem rI2 {f : Value → Value → Sem Value} {g : Int → Int → V} {gd : Int → Int → D} (hg : ∀ i j H, Rep K H (gd i j) (g i j) []) (ho : OpR X f (rI0 g)) : OpR X f (rD K (I2 gd)) := by
  intro pins s σ H x y v u Q I rx ry h
  obtain ⟨d, e, z, S, T, r1, r2, hz, k⟩ := h
  obtain ⟨i, j, rfl, rfl, rfl⟩ := I2_some hz
  exact ho pins s σ H x y v u Q I rx ry ⟨i, j, r1.1, r2.1, k0 k (hg i j H)⟩
theorem od_sub : OpR X (binaryOp .Sub) (rD X.K O2.sub.sem) := rI2 (gd := fun i j => .int (i - j)) (fun _ _ _ => ⟨rfl, rfl⟩) op_sub
theorem od_lt : OpR X (compareOp .Lt) (rD X.K O2.lt.sem) := rI2 (gd := fun i j => .bl (decide (i < j))) (fun _ _ _ => ⟨rfl, rfl⟩) op_lt
theorem od_le : OpR X (compareOp .LtE) (rD X.K O2.le.sem) := rI2 (gd := fun i j => .bl (decide (i ≤ j))) (fun _ _ _ => ⟨rfl, rfl⟩) op_le
theorem od_gt : OpR X (compareOp .Gt) (rD X.K O2.gt.sem) := rI2 (gd := fun i j => .bl (decide (j < i))) (fun _ _ _ => ⟨rfl, rfl⟩) op_gt
theorem od_ge : OpR X (compareOp .GtE) (rD X.K O2.ge.sem) := rI2 (gd := fun i j => .bl (decide (j ≤ i))) (fun _ _ _ => ⟨rfl, rfl⟩) op_ge
theorem od_mod : OpR X (binaryOp .Mod) (rD X.K O2.mod.sem) := by
  intro pins s σ H x y v u Q I rx ry h
  obtain ⟨d, e, z, S, T, r1, r2, hz, k⟩ := h
  cases d with
  | int i =>
    cases e with
    | int j =>
      change (if 0 < j then some (D.int (i % j)) else none) = some z at hz
      split at hz
      · rename_i hc
        cases hz
        exact op_mod pins s σ H x y v u Q I rx ry ⟨i, j, r1.1, r2.1, hc, kInt k⟩
      · cases hz
    | _ => cases hz
  | _ => cases e <;> cases hz
theorem log2_lt64 {j : Nat} (h : j < 18446744073709551616) : j.log2 < 9000 := by
  have : j.log2 < 64 := PySem.Flt.log2_lt_of (k := 64) (by decide) (by simpa using h)
  omega
theorem od_fdiv : OpR X (binaryOp .FloorDiv) (rD X.K O2.fdiv.sem) := by
  intro pins s σ H x y v u Q I rx ry h
  obtain ⟨d, e, z, S, T, r1, r2, hz, k⟩ := h
  cases d with
  | int i =>
    cases e with
    | int j =>
      change (if 0 < j ∧ j < 18446744073709551616 then some (D.int (i / j)) else none) = some z at hz
      split at hz
      · rename_i hc
        cases hz
        exact op_fdivW pins s σ H x y v u Q I rx ry ⟨i, j, r1.1, r2.1, ⟨hc.1, log2_lt64 (by omega)⟩, kInt k⟩
      · cases hz
    | _ => cases hz
  | _ => cases e <;> cases hz
theorem od_pow : OpR X (binaryOp .Pow) (rD X.K O2.pow.sem) := by
  intro pins s σ H x y v u Q I rx ry h
  obtain ⟨d, e, z, S, T, r1, r2, hz, k⟩ := h
  cases d with
  | int i =>
    cases e with
    | int j =>
      change (if (0 ≤ j ∧ j ≤ 1000000) ∧ (-18446744073709551616 < i ∧ i < 18446744073709551616) then some (D.int (i ^ j.toNat)) else none) = some z at hz
      split at hz
      · rename_i hc
        cases hz
        exact op_pow pins s σ H x y v u Q I rx ry ⟨i, j, r1.1, r2.1, ⟨hc.1.1, hc.1.2, by have := hc.2; omega⟩, kInt k⟩
      · cases hz
    | _ => cases hz
  | _ => cases e <;> cases hz
theorem rd_list {pins : List (Addr × Obj)} {s : Shared} {σ : St} {H : Hp} {a : Addr} {xs : List V} (I : Inv X pins σ H s) (h : Rd H a (.lst xs)) : xs.length ≤ sizeLine ∧ ∃ (its : List Value) (n : Nat), Vals xs its ∧ s.heap.get? a = some { cls := .type "list", data := .seq its.toArray n } := h.ok I.hok
/-- lists that are read, put together -/
theorem cat_any {pins : List (Addr × Obj)} {s : Shared} {σ : St} {H : Hp} {Q : VK} {a b : Addr} {xs ys : List V} (I : Inv X pins σ H s) (ha : Rd H a (.lst xs)) (hb : Rd H b (.lst ys)) (hz : xs.length + ys.length ≤ sizeLine)
    (q : ∀ p, H p = none → Q (.ref p) (upd H p (.lst (xs ++ ys)))) : wpAny (model X.prog X.w) X.A (binaryOp .Add (.ref a) (.ref b)) (EP X pins σ Q) X.xe s := by
  obtain ⟨z, its, n, r, e⟩ := rd_list I ha
  obtain ⟨z2, its2, n2, r2, e2⟩ := rd_list I hb
  have l1 := r.length
  have l2 := r2.length
  refine PySem.P.add_list e e2 ?_ (by rw [List.size_toArray, List.size_toArray]; omega)
  have ea : its.toArray ++ its2.toArray = (its ++ its2).toArray := by simp
  rw [ea]
  exact ⟨.ref _, _, I.lnew (t' := s.toks) (r.append r2) (by rw [List.length_append]; omega), rfl, q _ I.fresh⟩
theorem od_add : OpR X (binaryOp .Add) (rD X.K O2.add.sem) := by
  intro pins s σ H x y v u Q I rx ry h
  obtain ⟨d, e, z, S, T, r1, r2, hz, k⟩ := h
  cases d with
  | int i =>
    cases e with
    | int j =>
      cases hz
      exact op_add pins s σ H x y v u Q I rx ry ⟨i, j, r1.1, r2.1, kInt k⟩
    | _ => cases hz
  | str a =>
    cases e with
    | str b =>
      change (if a.length + b.length ≤ lim then some (D.str (a ++ b)) else none) = some z at hz
      split at hz
      · rename_i hc
        cases hz
        exact op_add_str pins s σ H x y v u Q I rx ry ⟨a, b, r1.1, r2.1, by rw [← lim_eq]; exact hc, kStr k⟩
      · cases hz
    | _ => cases hz
  | tup xs =>
    cases e with
    | tup ys =>
      change (if xs.length + ys.length ≤ lim then some (D.tup (xs ++ ys)) else none) = some z at hz
      split at hz
      · rename_i hc
        cases hz
        obtain ⟨_, a, vs, rfl, q1, rr1⟩ := r1
        obtain ⟨_, b, ws, rfl, q2, rr2⟩ := r2
        have l1 := rr1.length
        have l2 := rr2.length
        refine op_catA pins s σ H (.ref a) (.ref b) v u Q I rx ry ⟨a, b, vs, ws, rfl, rfl, q1, q2, by rw [← lim_eq, ← l1, ← l2]; exact hc, fun z => ?_, fun _ z => ?_, fun _ _ => ?_⟩
        · subst z
          have : xs = [] := List.length_eq_zero_iff.mp (by simpa using l1)
          subst this
          exact k0 k ⟨rfl, b, ws, rfl, q2, rr2⟩
        · subst z
          have : ys = [] := List.length_eq_zero_iff.mp (by simpa using l2)
          subst this
          rw [List.append_nil] at k
          exact k0 k ⟨rfl, a, vs, rfl, q1, rr1⟩
        · exact kTup k (rr1.app rr2)
      · cases hz
    | _ => cases hz
  | lst o xs =>
    cases e with
    | lst p ys =>
      change (if ((o = false ∨ xs.all frzD = true) ∧ (p = false ∨ ys.all frzD = true)) ∧ xs.length + ys.length ≤ lim then some (D.lst true (xs ++ ys)) else none) = some z at hz
      split at hz
      · rename_i hc
        cases hz
        obtain ⟨a, vs, T1, rfl, q1, rr1, f1⟩ := lst_sq r1
        obtain ⟨b, ws, T2, rfl, q2, rr2, f2⟩ := lst_sq r2
        have e1 := f1 hc.1.1
        have e2 := f2 hc.1.2
        subst e1 e2
        cases rx
        cases ry
        refine cat_any I q1 q2 (by rw [← lim_eq, ← rr1.length, ← rr2.length]; exact hc.2) (kLst k (rr1.app rr2))
      · cases hz
    | _ => cases hz
  | _ => cases e <;> cases hz
theorem rep_fold : ∀ (n : Nat) (x : Array Nat) (a : Array Nat), ((List.replicate n x).foldl (· ++ ·) a).toList = a.toList ++ (List.replicate n x.toList).flatten
  | 0, x, a => by simp
  | n + 1, x, a => by
    rw [List.replicate_succ, List.foldl_cons, rep_fold n x (a ++ x), List.replicate_succ, List.flatten_cons, Array.toList_append, List.append_assoc]
theorem op_smul : OpR X (binaryOp .Mult) (fun x y H Q => ∃ (a : Str) (n : Int), x = .str a ∧ y = .int n ∧ (-9223372036854775808 ≤ n ∧ n < 9223372036854775808) ∧ a.length * n.toNat ≤ 16777216 ∧ a.length ≤ 16777216 ∧ Q (.str (repS a n)) H) := by
  intro pins s σ H x y v u Q I rx ry h
  obtain ⟨a, n, rfl, rfl, ⟨h1, h2⟩, h3, h4, q⟩ := h
  obtain ⟨t, rfl⟩ := rx
  obtain ⟨t', rfl⟩ := ry
  have hsl : sizeLine = 16777216 := sizeLine_eq
  refine PySem.P.mul_str (by rw [decide_eq_false (by omega), decide_eq_false (by omega)]; rfl) (fun g1 g2 => ?_) (fun _ _ => ?_) ?_
  · have hn : 1 ≤ n := by omega
    have e : (a.length : Int) * n ≤ 16777216 := by
      have : ((a.length * n.toNat : Nat) : Int) ≤ 16777216 := by omega
      rw [Int.natCast_mul, Int.toNat_of_nonneg (by omega)] at this
      exact this
    have : (a.length : Int) ≤ (2 ^ 63 - 1) / n := by
      rw [Int.le_ediv_iff_mul_le (by omega)]
      omega
    omega
  · unfold PySem.Builtin.Str.tooLong
    exact decide_eq_false (by omega)
  · by_cases c1 : n < 1
    · rw [if_pos c1]
      have e : repS a n = Str.empty := by
        unfold repS
        rw [show n.toNat = 0 by omega]
        rfl
      exact ⟨by decide, ⟨.str (repS a n), H, I.tok _, ⟨_, by rw [e]⟩, q⟩⟩
    · rw [if_neg c1]
      by_cases c2 : (n == 1 || a.length == 0) = true
      · rw [if_pos c2]
        have e : repS a n = a := by
          unfold repS
          rw [Bool.or_eq_true, beq_iff_eq, beq_iff_eq] at c2
          rcases c2 with c2 | c2
          · subst c2
            show (⟨(List.replicate 1 a.cps.toList).flatten.toArray⟩ : Str) = a
            simp
          · have c2 : a.cps.size = 0 := c2
            have : a.cps.toList = [] := by
              apply List.eq_nil_of_length_eq_zero
              rw [Array.length_toList]
              exact c2
            rw [this]
            have e2 : (List.replicate n.toNat ([] : List Nat)).flatten = [] := by simp
            rw [e2]
            cases a with
            | mk cps =>
              have : cps = #[] := Array.toList_inj.mp this
              rw [this]
        exact ⟨.str (repS a n), H, I, ⟨t, by rw [e]⟩, q⟩
      · rw [if_neg c2]
        have e : (⟨(List.replicate n.toNat a.cps).foldl (· ++ ·) #[]⟩ : Str) = repS a n := by
          unfold repS
          congr 1
          apply Array.toList_inj.mp
          rw [rep_fold]
          simp
        rw [e]
        have hlen : (repS a n).length ≤ sizeLine := by
          show (repS a n).cps.size ≤ _
          unfold repS
          rw [List.size_toArray, List.length_flatten]
          simp only [List.map_replicate, List.sum_replicate_nat, Array.length_toList]
          rw [Nat.mul_comm]
          show a.length * n.toNat ≤ _
          omega
        exact ⟨by first | exact hlen | exact decide_eq_true hlen, ⟨.str (repS a n), H, I.tok _, ⟨_, rfl⟩, q⟩⟩
theorem od_mul : OpR X (binaryOp .Mult) (rD X.K O2.mul.sem) := by
  intro pins s σ H x y v u Q I rx ry h
  obtain ⟨d, e, z, S, T, r1, r2, hz, k⟩ := h
  cases d with
  | int i =>
    cases e with
    | int j =>
      change (if ((-18446744073709551616 < i ∧ i < 18446744073709551616) ∨ (-18446744073709551616 < j ∧ j < 18446744073709551616)) ∨ (i.natAbs.log2 < 2000 ∧ j.natAbs.log2 < 2000) then some (D.int (i * j)) else none) = some z at hz
      split at hz
      · rename_i hc
        cases hz
        rcases hc with hc | hc
        · exact op_mul pins s σ H x y v u Q I rx ry ⟨i, j, r1.1, r2.1, hc.imp (fun h => ⟨by omega, by omega⟩) (fun h => ⟨by omega, by omega⟩), kInt k⟩
        · exact op_mulW pins s σ H x y v u Q I rx ry ⟨i, j, r1.1, r2.1, show i.natAbs.log2 + j.natAbs.log2 < 1000000 by omega, kInt k⟩
      · cases hz
    | _ => cases hz
  | str a =>
    cases e with
    | int n =>
      change (if (-9223372036854775808 ≤ n ∧ n < 9223372036854775808) ∧ a.length * n.toNat ≤ lim ∧ a.length ≤ lim then some (D.str (repS a n)) else none) = some z at hz
      split at hz
      · rename_i hc
        cases hz
        exact op_smul pins s σ H x y v u Q I rx ry ⟨a, n, r1.1, r2.1, hc.1, hc.2.1, hc.2.2, kStr k⟩
      · cases hz
    | _ => cases hz
  | lst o xs =>
    cases o with
    | false => cases e <;> cases hz
    | true =>
      cases e with
      | int n =>
        change (if xs.all frzD = true ∧ (-9223372036854775808 ≤ n ∧ n < 9223372036854775808) ∧ xs.length * n.toNat ≤ lim then some (D.lst true (List.replicate n.toNat xs).flatten) else none) = some z at hz
        split at hz
        · rename_i hc
          cases hz
          obtain ⟨a, vs, S', rfl, q, r, rfl⟩ := r1
          have e1 := r.frz hc.1
          subst e1
          refine op_rep pins s σ H (.ref a) y v u Q I rx ry ⟨a, n, vs, rfl, r2.1, q, by omega, by omega, by rw [← lim_eq, ← r.length]; exact hc.2.2, kLst k ?_⟩
          generalize n.toNat = m
          induction m with
          | zero => exact Reps.nil
          | succ m ih =>
            rw [List.replicate_succ, List.replicate_succ, List.flatten_cons, List.flatten_cons]
            exact r.app ih
        · cases hz
      | _ => cases hz
  | _ => cases e <;> cases hz
theorem non_dec {d : D} {x : V} {S : List Addr} (r : Rep K H d x S) : decide (x = .non) = isNon d := by
  cases d with
  | non => rw [r.1]; rfl
  | bl _ => rw [r.1]; rfl
  | int _ => rw [r.1]; rfl
  | str _ => rw [r.1]; rfl
  | tup _ => obtain ⟨_, a, vs, rfl, _⟩ := r; rfl
  | lst o _ => obtain ⟨a, vs, T, rfl, _⟩ := lst_sq r; rfl
  | dk o _ _ =>
    cases o with
    | false => obtain ⟨_, a, vs, o, rfl, _⟩ := r; rfl
    | true => obtain ⟨a, vs, S', rfl, _⟩ := r; rfl
  | dt o _ _ =>
    cases o with
    | false => obtain ⟨_, a, vs, o, rfl, _⟩ := r; rfl
    | true => obtain ⟨a, vs, S', rfl, _⟩ := r; rfl
  | exc _ _ => exact r.elim
  | scr _ => obtain ⟨_, a, rfl, _⟩ := r; rfl
theorem isS_some {d e z : D} (h : isS d e = some z) : (e = .non ∧ z = .bl (isNon d)) ∨ ∃ a b, d = .bl a ∧ e = .bl b ∧ z = .bl (decide (a = b)) := by
  cases e with
  | non => cases h; exact .inl ⟨rfl, rfl⟩
  | bl b =>
    cases d with
    | bl a => cases h; exact .inr ⟨a, b, rfl, rfl, rfl⟩
    | _ => cases h
  | _ => cases h
theorem od_isN : OpR X (compareOp .Is) (rD X.K O2.isN.sem) := by
  intro pins s σ H x y v u Q I rx ry h
  obtain ⟨d, e, z, S, T, r1, r2, hz, k⟩ := h
  rcases isS_some hz with ⟨rfl, rfl⟩ | ⟨a, b, rfl, rfl, rfl⟩
  · exact op_isN pins s σ H x y v u Q I rx ry ⟨r2.1, by rw [non_dec r1]; exact kBl k⟩
  · exact op_isBl pins s σ H x y v u Q I rx ry ⟨a, b, r1.1, r2.1, kBl k⟩
theorem notS_some {o : Option D} {z : D} (h : notS o = some z) : ∃ b, o = some (.bl b) ∧ z = .bl (!b) := by
  unfold notS at h
  split at h
  · cases h; exact ⟨_, rfl, rfl⟩
  · cases h
theorem od_notN : OpR X (compareOp .IsNot) (rD X.K O2.notN.sem) := by
  intro pins s σ H x y v u Q I rx ry h
  obtain ⟨d, e, z, S, T, r1, r2, hz, k⟩ := h
  obtain ⟨b, hb, rfl⟩ := notS_some (show notS (isS d e) = some z from hz)
  rcases isS_some hb with ⟨rfl, e2⟩ | ⟨a, b', rfl, rfl, e2⟩
  · cases e2
    exact op_notN pins s σ H x y v u Q I rx ry ⟨r2.1, by rw [non_dec r1]; exact kBl k⟩
  · cases e2
    exact op_notBl pins s σ H x y v u Q I rx ry ⟨a, b', r1.1, r2.1, kBl k⟩

/-! ### equality of data, membership -/
theorem eqG_some {d e z : D} (h : eqG d e = some z) : (toP d).plain = true ∧ (toP e).plain = true ∧ min (toP d).depth (toP e).depth ≤ 64 ∧ z = .bl (PyData.eqv (toP d) (toP e)) := by
  unfold eqG at h
  split at h
  · rename_i hc
    cases h
    exact ⟨hc.1, hc.2.1, hc.2.2, rfl⟩
  · cases h
theorem eqS_some {d e z : D} (h : eqS d e = some z) : (toP d).plain = true ∧ (toP e).plain = true ∧ min (toP d).depth (toP e).depth ≤ 64 ∧ z = .bl (PyData.eqv (toP d) (toP e)) := by
  unfold eqS at h
  split at h
  · rename_i i j
    cases h
    exact ⟨rfl, rfl, by simp [toP, PyData.depth], by simp only [toP, PyData.eqv]; rw [Bool.beq_eq_decide_eq]⟩
  · rename_i i j
    cases h
    exact ⟨rfl, rfl, by simp [toP, PyData.depth], by simp only [toP, PyData.eqv]; rw [Bool.beq_eq_decide_eq]⟩
  · exact eqG_some h
theorem od_eq (hu : X.A.units + 64 < cLine) : OpR X (compareOp .Eq) (rD X.K O2.eq.sem) := by
  intro pins s σ H x y v u Q I rx ry h
  obtain ⟨d, e, z, S, T, r1, r2, hz, k⟩ := h
  obtain ⟨p1, p2, hd, rfl⟩ := eqS_some hz
  obtain ⟨as, ra⟩ := (rep_dp d r1 p1).reads I _ _ _ rx
  obtain ⟨bs, rb⟩ := (rep_dp e r2 p2).reads I _ _ _ ry
  exact SeqAt.eq_plain ra rb p1 p2 (by omega) ⟨.bl _, H, I, rfl, kBl k⟩
theorem od_ne (hu : X.A.units + 64 < cLine) : OpR X (compareOp .NotEq) (rD X.K O2.ne.sem) := by
  intro pins s σ H x y v u Q I rx ry h
  obtain ⟨d, e, z, S, T, r1, r2, hz, k⟩ := h
  obtain ⟨b, hb, rfl⟩ := notS_some (show notS (eqS d e) = some z from hz)
  obtain ⟨p1, p2, hd, e2⟩ := eqS_some hb
  cases e2
  obtain ⟨as, ra⟩ := (rep_dp d r1 p1).reads I _ _ _ rx
  obtain ⟨bs, rb⟩ := (rep_dp e r2 p2).reads I _ _ _ ry
  exact SeqAt.ne_plain ra rb p1 p2 (by omega) ⟨.bl _, H, I, rfl, kBl k⟩
theorem inS_seq {d : D} {xs : List D} {z : D} (h : (if (toP d).plain = true ∧ PyData.plainAll (toPs xs) = true ∧ min (PyData.depthAll (toPs xs)) (toP d).depth ≤ 64 then some (D.bl ((toPs xs).any fun y => PyData.eqv y (toP d))) else none) = some z) :
    (toP d).plain = true ∧ PyData.plainAll (toPs xs) = true ∧ min (PyData.depthAll (toPs xs)) (toP d).depth ≤ 64 ∧ z = D.bl ((toPs xs).any fun y => PyData.eqv y (toP d)) := by
  split at h
  · rename_i hc
    cases h
    exact ⟨hc.1, hc.2.1, hc.2.2, rfl⟩
  · cases h
/-- a dict with number and text keys, read -/
theorem dk_rd' {o : Bool} {ks : List Key} {ds : List D} {v : V} {S : List Addr} (r : Rep K H (.dk o ks ds) v S) : ∃ a vs T, v = .ref a ∧ Rd H a (.dK (ks.zip vs)) ∧ ks.length = vs.length ∧ Reps K H ds vs T ∧ (o = false → T = []) := by
  cases o with
  | false =>
    obtain ⟨rfl, a, vs, o, rfl, q, l, r⟩ := r
    exact ⟨a, vs, [], rfl, .inr ⟨o, q⟩, l, r, fun _ => rfl⟩
  | true =>
    obtain ⟨a, vs, S', rfl, q, l, r, rfl⟩ := r
    exact ⟨a, vs, S', rfl, .inl q, l, r, fun z => nomatch z⟩
theorem keyD_some {d : D} {k : Key} {v : V} {S : List Addr} (h : keyD d = some k) (r : Rep K H d v S) : v = kV k := by
  cases d with
  | int i => cases h; exact r.1
  | str x => cases h; exact r.1
  | _ => cases h
/-- what a dict holds: by data, by values -/
theorem look_val {κ : Type} [DecidableEq κ] (k : κ) : ∀ {ks : List κ} {ds : List D} {vs : List V} {S : List Addr}, Reps K H ds vs S → ks.length = vs.length →
    (∀ d, look k ks ds = some d → ∃ v T, valV (ks.zip vs) k = some v ∧ Rep K H d v T) ∧ (look k ks ds = none → valV (ks.zip vs) k = none)
  | [], [], vs, _, h, l => by
    obtain ⟨rfl, _⟩ := h
    refine ⟨fun d e => ?_, fun _ => rfl⟩
    have e : (none : Option D) = some d := e
    cases e
  | [], d :: ds, vs, _, h, l => by
    have := h.length
    have l : 0 = vs.length := l
    rw [← l] at this
    simp at this
  | j :: ks, [], vs, _, h, l => by
    obtain ⟨rfl, _⟩ := h
    simp at l
  | j :: ks, d :: ds, _, _, h, l => by
    obtain ⟨v, r, S1, S2, rfl, q1, q2, rfl⟩ := h
    obtain ⟨ih1, ih2⟩ := look_val k q2 (by simpa using l)
    have e : look k (j :: ks) (d :: ds) = if j = k then some d else look k ks ds := rfl
    rw [e, List.zip_cons_cons]
    by_cases hj : j = k
    · rw [if_pos hj, valV_pos (p := (j, v)) hj]
      exact ⟨fun d' e' => by cases e'; exact ⟨v, S1, rfl, q1⟩, fun e' => by cases e'⟩
    · rw [if_neg hj, valV_neg (p := (j, v)) hj]
      exact ⟨ih1, ih2⟩
theorem od_in (hu : X.A.units + 66 < cLine) : OpR X (compareOp .In) (rD X.K O2.isIn.sem) := by
  intro pins s σ H x y v u Q I rx ry h
  obtain ⟨d, e, z, S, T, r1, r2, hz, k⟩ := h
  replace hz : inS d e = some z := hz
  cases e with
  | tup xs =>
    obtain ⟨p1, p2, hd, rfl⟩ := inS_seq hz
    obtain ⟨as, ra⟩ := (rep_dp d r1 p1).reads I _ _ _ rx
    obtain ⟨bs, rb⟩ := (rep_dp (.tup xs) r2 p2).reads I _ _ _ ry
    exact SeqAt.in_tuple_data rb ra p2 p1 (by omega) ⟨.bl _, H, I, rfl, kBl k⟩
  | lst o xs =>
    obtain ⟨p1, p2, hd, rfl⟩ := inS_seq hz
    obtain ⟨as, ra⟩ := (rep_dp d r1 p1).reads I _ _ _ rx
    obtain ⟨bs, rb⟩ := (rep_dp (.lst o xs) r2 p2).reads I _ _ _ ry
    exact SeqAt.in_list_data rb ra p2 p1 (by omega) ⟨.bl _, H, I, rfl, kBl k⟩
  | str b =>
    cases d with
    | str a =>
      cases hz
      exact op_in_str pins s σ H x y v u Q I rx ry ⟨a, b, r1.1, r2.1, kBl k⟩
    | _ => cases hz
  | dk o ks vs =>
    change (match keyD d with | some k => some (D.bl (look k ks vs).isSome) | none => none) = some z at hz
    cases hk : keyD d with
    | none => rw [hk] at hz; cases hz
    | some key =>
      rw [hk] at hz
      cases hz
      have ex := keyD_some hk r1
      obtain ⟨a, ws, T', rfl, q, l, r, _⟩ := dk_rd' r2
      cases ry
      have g : DGet H a x (valV (ks.zip ws) key) := .inl ⟨_, key, q, ex, rfl⟩
      have es : (valV (ks.zip ws) key).isSome = (look key ks vs).isSome := by
        obtain ⟨h1, h2⟩ := look_val key r l
        cases e : look key ks vs with
        | none => rw [h2 e]; rfl
        | some d' =>
          obtain ⟨v', T, e1, _⟩ := h1 d' e
          rw [e1]
          rfl
      exact d_in (by omega) I g rx fun s3 I3 => ⟨.bl _, H, I3, rfl, by rw [es]; exact kBl k⟩
  | _ => cases hz
theorem od_notIn (hu : X.A.units + 66 < cLine) : OpR X (compareOp .NotIn) (rD X.K O2.notIn.sem) := by
  intro pins s σ H x y v u Q I rx ry h
  obtain ⟨d, e, z, S, T, r1, r2, hz, k⟩ := h
  obtain ⟨b, hb, rfl⟩ := notS_some (show notS (inS d e) = some z from hz)
  clear hz
  rename inS d e = some (.bl b) => hz
  cases e with
  | tup xs =>
    obtain ⟨p1, p2, hd, e2⟩ := inS_seq hz
    cases e2
    obtain ⟨as, ra⟩ := (rep_dp d r1 p1).reads I _ _ _ rx
    obtain ⟨bs, rb⟩ := (rep_dp (.tup xs) r2 p2).reads I _ _ _ ry
    exact SeqAt.notIn_tuple_data rb ra p2 p1 (by omega) ⟨.bl _, H, I, rfl, kBl k⟩
  | lst o xs =>
    obtain ⟨p1, p2, hd, e2⟩ := inS_seq hz
    cases e2
    obtain ⟨as, ra⟩ := (rep_dp d r1 p1).reads I _ _ _ rx
    obtain ⟨bs, rb⟩ := (rep_dp (.lst o xs) r2 p2).reads I _ _ _ ry
    exact SeqAt.notIn_list_data rb ra p2 p1 (by omega) ⟨.bl _, H, I, rfl, kBl k⟩
  | str b' =>
    cases d with
    | str a =>
      cases hz
      exact op_notIn_str pins s σ H x y v u Q I rx ry ⟨a, b', r1.1, r2.1, kBl k⟩
    | _ => cases hz
  | dk o ks vs =>
    change (match keyD d with | some k => some (D.bl (look k ks vs).isSome) | none => none) = some (.bl b) at hz
    cases hk : keyD d with
    | none => rw [hk] at hz; cases hz
    | some key =>
      rw [hk] at hz
      cases hz
      have ex := keyD_some hk r1
      obtain ⟨a, ws, T', rfl, q, l, r, _⟩ := dk_rd' r2
      cases ry
      have g : DGet H a x (valV (ks.zip ws) key) := .inl ⟨_, key, q, ex, rfl⟩
      have es : (valV (ks.zip ws) key).isSome = (look key ks vs).isSome := by
        obtain ⟨h1, h2⟩ := look_val key r l
        cases e : look key ks vs with
        | none => rw [h2 e]; rfl
        | some d' =>
          obtain ⟨v', T, e1, _⟩ := h1 d' e
          rw [e1]
          rfl
      exact d_notIn (by omega) I g rx fun s3 I3 => ⟨.bl _, H, I3, rfl, by rw [es]; exact kBl k⟩
  | _ => cases hz

/-! ### an item -/
theorem atI_rep {ds : List D} {vs : List V} {S : List Addr} {i : Int} {d : D} (r : Reps K H ds vs S) (h : atI ds i = some d) : ∃ v T, atI vs i = some v ∧ Rep K H d v T := by
  unfold atI at h ⊢
  rw [← r.length]
  cases e : ixN ds.length i with
  | none => rw [e] at h; cases h
  | some j =>
    rw [e] at h
    obtain ⟨v, T, e1, e2, _⟩ := r.get (show ds[j]? = some d from h)
    exact ⟨v, T, e1, e2⟩
/-- x[i]: nothing changes, the item is some part -/
def rIdxD (K : PySem.W.Frag) : R2 := fun x y H Q => ∃ d e z S T, Rep K H d x S ∧ Rep K H e y T ∧ idxS d e = some z ∧ ∀ w S', Rep K H z w S' → Q w H
theorem ix_any (hu : X.A.units + 1 < cLine) : IxR X (rIdxD X.K) := by
  intro value slice pins s σ H x y v u Q I rx ry h hs
  obtain ⟨d, e, z, S, T, r1, r2, hz, k⟩ := h
  cases d with
  | tup xs =>
    cases e with
    | int i =>
      obtain ⟨_, a, vs, rfl, q, r⟩ := r1
      obtain ⟨w, T', e1, e2⟩ := atI_rep r hz
      exact ix_tup value slice pins s σ H (.ref a) y v u Q I rx ry ⟨a, vs, i, w, rfl, r2.1, q, e1, k w T' e2⟩ hs
    | _ => cases hz
  | lst o xs =>
    cases e with
    | int i =>
      obtain ⟨a, vs, T1, rfl, q, r, _⟩ := lst_sq r1
      obtain ⟨w, T', e1, e2⟩ := atI_rep r hz
      exact ix_list value slice pins s σ H (.ref a) y v u Q I rx ry ⟨a, vs, i, w, rfl, r2.1, .inl q, e1, k w T' e2⟩ hs
    | _ => cases hz
  | scr ns =>
    cases e with
    | int i =>
      obtain ⟨_, a, rfl, q⟩ := r1
      change (match atI ns i with | some n => some (D.int n) | none => none) = some z at hz
      cases hn : atI ns i with
      | none => rw [hn] at hz; cases hz
      | some n =>
        rw [hn] at hz
        cases hz
        have e1 : atI (ns.map V.int) i = some (.int n) := by
          unfold atI at hn ⊢
          rw [List.length_map]
          cases e : ixN ns.length i with
          | none => rw [e] at hn; cases hn
          | some j =>
            rw [e] at hn
            show (ns.map V.int)[j]? = some (V.int n)
            rw [List.getElem?_map, show ns[j]? = some n from hn]
            rfl
        exact ix_list value slice pins s σ H (.ref a) y v u Q I rx ry ⟨a, _, i, _, rfl, r2.1, q.sq, e1, k _ [] ⟨rfl, rfl⟩⟩ hs
    | _ => cases hz
  | str a =>
    cases e with
    | int i =>
      change (if a.length ≤ lim then (match atI a.cps.toList i with | some c => some (D.str ⟨#[c]⟩) | none => none) else none) = some z at hz
      split at hz
      · rename_i hc
        cases e1 : atI a.cps.toList i with
        | none => rw [e1] at hz; cases hz
        | some c =>
          rw [e1] at hz
          cases hz
          exact ix_str value slice pins s σ H x y v u Q I rx ry ⟨a, i, c, r1.1, r2.1, by rw [← lim_eq]; exact hc, e1, k _ [] ⟨rfl, rfl⟩⟩ hs
      · cases hz
    | _ => cases hz
  | dk o ks vs =>
    change (match keyD e with | some k => look k ks vs | none => none) = some z at hz
    cases hk : keyD e with
    | none => rw [hk] at hz; cases hz
    | some key =>
      rw [hk] at hz
      have ey := keyD_some hk r2
      obtain ⟨a, ws, T', rfl, q, l, r, _⟩ := dk_rd' r1
      cases rx
      obtain ⟨w, T1, e1, e2⟩ := (look_val key r l).1 z hz
      have g : DGet H a y (some w) := .inl ⟨_, key, q, ey, e1.symm⟩
      exact PyProof.Rows.tail_any (dict_typeIs I g) PySem.F.slot_dict_getitem.lookup (d_getItem hu I g ry fun w' s3 I3 rw' => ⟨w, H, I3, rw', k w T1 e2⟩) hs
  | _ => cases e <;> cases hz
end
end Ly

namespace Ly
open PySem PySem.Spec L2
variable [Fns]
section
variable {X : Cx} {C : Cfg} {W : WX} {pos : Pos}

/-- reading a name -/
theorem var_at {K : PySem.W.Frag} {H : Hp} {ρ : Ev} {σ : St} {SV : List Addr} {i : Nat} {d : D} (hv : Vars K H ρ σ SV) (h : getV ρ i = some d) : ∃ v S R, σ[i]? = some (some v) ∧ Rep K H d v S ∧ Foc K H ρ σ SV i S R := by
  obtain ⟨e, hi⟩ := getV_some h
  obtain ⟨S, R, f⟩ := hv.foc i hi
  obtain ⟨v, e1, e2⟩ := f.here d e
  exact ⟨v, S, R, e1, e2, f⟩
theorem se_var {i : Nat} {x : Str} (hN : X.N[i]? = some x) (hv : Vis X.env.scope x) (hd : (x == ("__debug__" : Str)) = false) (hcd : (x == ("__classdict__" : Str)) = false) : PE X (.Name x pos) (tD C W (.var i)) := by
  refine pemono (pe_var hN hv hd hcd) fun σ H Q h => ?_
  obtain ⟨ρ, SV, hv, nd, h⟩ := h
  obtain ⟨d, hd, h⟩ := tK_lift (show tK C W σ SV H (RD C.K SV H ρ false true) (liftO (getV ρ i) ρ) Q from h)
  obtain ⟨v, S, R, e1, e2, f⟩ := var_at hv hd
  exact ⟨v, e1, h v H SV (.refl hv nd) ⟨⟨S, e2, (fun z => nomatch z), (fun z => nomatch z)⟩, fun _ => ⟨rfl, rfl, .refl⟩⟩⟩
/-- a constant -/
theorem tD_cst {d : D} {v : V} {e : E} {σ : St} {H : Hp} {Q : VK} (he : ∀ ρ, ev e ρ = .ok d ρ) (ho : own e = true) (hr : ∀ H, Rep C.K H d v []) (h : tD C W e σ H Q) : Q v H := by
  obtain ⟨ρ, SV, hv, nd, h⟩ := h
  rw [he] at h
  exact h v H SV (.refl hv nd) ⟨⟨[], hr H, (fun _ a ha => absurd ha List.not_mem_nil), (fun _ => nd)⟩, fun _ => ⟨rfl, rfl, .refl⟩⟩
theorem se_int {i : Int} {j : Nat} : PE X (.Constant (.int i) j pos) (tD C W (.cst (.int i))) := pemono pe_int fun _ _ _ h => tD_cst (d := .int i) (fun _ => rfl) rfl (fun _ => ⟨rfl, rfl⟩) h
theorem se_bl {i : Bool} {j : Nat} : PE X (.Constant (.bool i) j pos) (tD C W (.cst (.bl i))) := pemono pe_bl fun _ _ _ h => tD_cst (d := .bl i) (fun _ => rfl) rfl (fun _ => ⟨rfl, rfl⟩) h
theorem se_non {j : Nat} : PE X (.Constant .none j pos) (tD C W (.cst .non)) := pemono pe_non fun _ _ _ h => tD_cst (d := .non) (fun _ => rfl) rfl (fun _ => ⟨rfl, rfl⟩) h
theorem se_str {x : Str} {j : Nat} : PE X (.Constant (.str x) j pos) (tD C W (.cst (.str x))) := pemono pe_str fun _ _ _ h => tD_cst (d := .str x) (fun _ => rfl) rfl (fun _ => ⟨rfl, rfl⟩) h
theorem se_glo {x : Str} {k : Nat} {v : V} {u : Value} (hg : Gl X x) (hm : X.mg x = some u) (r : RelV v u) (hr : ∀ H, Rep C.K H (Fns.G k) v []) (hd : (x == ("__debug__" : Str)) = false) : PE X (.Name x pos) (tD C W (.glo k)) :=
  pemono (pe_glob hg hm r hd) fun _ _ _ h => tD_cst (d := Fns.G k) (fun _ => rfl) rfl hr h

/-! ### freezing -/
theorem upd_none' {H : Hp} {a b : Addr} {o : HO} (h : H a = none) (hb : H b ≠ none) : upd H b o a = none := by
  rw [upd_ne (fun e => hb (by rw [← e]; exact h))]
  exact h
/-- H' is H with what lies at S given up -/
def Fz (S : List Addr) (H H' : Hp) : Prop := Ext S H H' ∧ ∀ a, H a = none → H' a = none
theorem Fz.refl {S : List Addr} {H : Hp} : Fz S H H := ⟨.refl, fun _ h => h⟩
theorem lock_fz {pins : List (Addr × Obj)} {σ : St} {H : Hp} {s : Shared} {a : Addr} {u : HO} (I : Inv X pins σ H s) (h : H a = some u) (m : Mb u) : ∃ od, Inv X pins σ (upd H a (.frz od u)) s ∧ Fz [a] H (upd H a (.frz od u)) := by
  have mu : Mut (some u) := by cases u <;> first | exact True.intro | exact m.elim
  obtain ⟨od, I1⟩ := I.lock h mu
  refine ⟨od, I1, fun b o e hb => ?_, fun b hb => upd_none' hb (by rw [h]; simp)⟩
  rw [upd_ne (fun e => hb (by simp [e]))]
  exact e
theorem Fz.trans {S T : List Addr} {H H1 H2 : Hp} (f : Fz S H H1) (g : Fz T H1 H2) : Fz (S ++ T) H H2 :=
  ⟨fun a o e h => g.1 a o (f.1 a o e fun z => h (List.mem_append_left _ z)) fun z => h (List.mem_append_right _ z), fun a h => g.2 a (f.2 a h)⟩
theorem Fz.kp {S T : List Addr} {K : PySem.W.Frag} {H H' : Hp} (f : Fz S H H') (ow : Owns H S) (d : ∀ a ∈ T, a ∉ S) : Kp T H H' := f.1.kp ow d
theorem Fz.sub {S T : List Addr} {H H' : Hp} (f : Fz S H H') (h : ∀ a ∈ S, a ∈ T) : Fz T H H' := ⟨fun a o e hn => f.1 a o e fun z => hn (h a z), f.2⟩
theorem own1 {H : Hp} {a : Addr} {o : HO} (h : H a = some o) (m : Mb o) : Owns H [a] := fun b hb => by
  have e : b = a := by simpa using hb
  rw [e]
  exact ⟨o, h, m⟩
mutual
theorem frz_rep {pins : List (Addr × Obj)} {σ : St} {s : Shared} : ∀ (d : D) {H : Hp} {v : V} {S : List Addr}, Inv X pins σ H s → Rep X.K H d v S → S.Nodup → ∃ H', Inv X pins σ H' s ∧ Rep X.K H' (fzD d) v [] ∧ Fz S H H'
  | .non, H, v, S, I, r, _ => by obtain ⟨rfl, rfl⟩ := r; exact ⟨H, I, ⟨rfl, rfl⟩, .refl⟩
  | .bl b, H, v, S, I, r, _ => by obtain ⟨rfl, rfl⟩ := r; exact ⟨H, I, ⟨rfl, rfl⟩, .refl⟩
  | .int b, H, v, S, I, r, _ => by obtain ⟨rfl, rfl⟩ := r; exact ⟨H, I, ⟨rfl, rfl⟩, .refl⟩
  | .str b, H, v, S, I, r, _ => by obtain ⟨rfl, rfl⟩ := r; exact ⟨H, I, ⟨rfl, rfl⟩, .refl⟩
  | .tup ds, H, v, S, I, r, _ => by obtain ⟨rfl, r⟩ := r; exact ⟨H, I, ⟨rfl, r⟩, .refl⟩
  | .lst false ds, H, v, S, I, r, _ => by obtain ⟨rfl, r⟩ := r; exact ⟨H, I, ⟨rfl, r⟩, .refl⟩
  | .dk false ks ds, H, v, S, I, r, _ => by obtain ⟨rfl, r⟩ := r; exact ⟨H, I, ⟨rfl, r⟩, .refl⟩
  | .dt false ks ds, H, v, S, I, r, _ => by obtain ⟨rfl, r⟩ := r; exact ⟨H, I, ⟨rfl, r⟩, .refl⟩
  | .lst true ds, H, v, S, I, r, nd => by
    obtain ⟨a, vs, S', rfl, q, r, rfl⟩ := r
    obtain ⟨na, nd'⟩ := List.nodup_cons.mp nd
    obtain ⟨H1, I1, r1, f1⟩ := frz_reps ds I r nd'
    obtain ⟨od, I2, f2⟩ := lock_fz I1 (f1.1 a _ q na) (show Mb (.lst vs) from True.intro)
    refine ⟨_, I2, ⟨rfl, a, vs, rfl, ⟨od, upd_same⟩, r1.kp _ (f2.1.kp (own1 (f1.1 a _ q na) (show Mb (.lst vs) from True.intro)) fun b hb => absurd hb List.not_mem_nil)⟩, (f1.trans f2).sub fun b hb => ?_⟩
    rcases List.mem_append.mp hb with h | h
    · exact List.mem_cons_of_mem _ h
    · rw [show b = a by simpa using h]; exact List.mem_cons_self
  | .dk true ks ds, H, v, S, I, r, nd => by
    obtain ⟨a, vs, S', rfl, q, l, r, rfl⟩ := r
    obtain ⟨na, nd'⟩ := List.nodup_cons.mp nd
    obtain ⟨H1, I1, r1, f1⟩ := frz_reps ds I r nd'
    obtain ⟨od, I2, f2⟩ := lock_fz I1 (f1.1 a _ q na) (show Mb (.dK (ks.zip vs)) from True.intro)
    refine ⟨_, I2, ⟨rfl, a, vs, od, rfl, upd_same, l, r1.kp _ (f2.1.kp (own1 (f1.1 a _ q na) (show Mb (.dK (ks.zip vs)) from True.intro)) fun b hb => absurd hb List.not_mem_nil)⟩, (f1.trans f2).sub fun b hb => ?_⟩
    rcases List.mem_append.mp hb with h | h
    · exact List.mem_cons_of_mem _ h
    · rw [show b = a by simpa using h]; exact List.mem_cons_self
  | .dt true ks ds, H, v, S, I, r, nd => by
    obtain ⟨a, vs, S', rfl, q, l, r, rfl⟩ := r
    obtain ⟨na, nd'⟩ := List.nodup_cons.mp nd
    obtain ⟨H1, I1, r1, f1⟩ := frz_reps ds I r nd'
    obtain ⟨od, I2, f2⟩ := lock_fz I1 (f1.1 a _ q na) (show Mb (.dT (ks.zip vs)) from True.intro)
    refine ⟨_, I2, ⟨rfl, a, vs, od, rfl, upd_same, l, r1.kp _ (f2.1.kp (own1 (f1.1 a _ q na) (show Mb (.dT (ks.zip vs)) from True.intro)) fun b hb => absurd hb List.not_mem_nil)⟩, (f1.trans f2).sub fun b hb => ?_⟩
    rcases List.mem_append.mp hb with h | h
    · exact List.mem_cons_of_mem _ h
    · rw [show b = a by simpa using h]; exact List.mem_cons_self
  | .exc _ _, _, _, _, _, r, _ => r.elim
  | .scr _, H, v, S, I, r, _ => by obtain ⟨rfl, r⟩ := r; exact ⟨H, I, ⟨rfl, r⟩, .refl⟩
theorem frz_reps {pins : List (Addr × Obj)} {σ : St} {s : Shared} : ∀ (ds : List D) {H : Hp} {vs : List V} {S : List Addr}, Inv X pins σ H s → Reps X.K H ds vs S → S.Nodup → ∃ H', Inv X pins σ H' s ∧ Reps X.K H' (fzDs ds) vs [] ∧ Fz S H H'
  | [], H, vs, S, I, r, _ => by obtain ⟨rfl, rfl⟩ := r; exact ⟨H, I, ⟨rfl, rfl⟩, .refl⟩
  | d :: ds, H, _, _, I, r, nd => by
    obtain ⟨v, vs, S1, S2, rfl, q1, q2, rfl⟩ := r
    obtain ⟨n1, n2, n3⟩ := List.nodup_append.mp nd
    obtain ⟨H1, I1, r1, f1⟩ := frz_rep d I q1 n1
    have q2' : Reps X.K H1 ds vs S2 := q2.kp ds (f1.1.kp (q1.owns d) fun a ha hb => n3 a hb a ha rfl)
    obtain ⟨H2, I2, r2, f2⟩ := frz_reps ds I1 q2' n2
    exact ⟨H2, I2, Reps.cons (S1 := []) (S2 := []) (r1.kp _ (f2.1.kp (q2'.owns ds) fun a ha => absurd ha List.not_mem_nil)) r2, f1.trans f2⟩
end
/-- behind giving up S, which is no name's -/
theorem EnvP.fz {K : PySem.W.Frag} {SV SV1 S : List Addr} {H H1 H2 : Hp} {σ : St} {ρ : Ev} (e : EnvP K SV H σ ρ H1 SV1) (ow : Owns H1 S) (nd : (S ++ SV1).Nodup) (src : ∀ a ∈ S, a ∈ SV ∨ H a = none) (f : Fz S H1 H2) : EnvP K SV H σ ρ H2 SV1 := by
  have dis : ∀ a ∈ SV1, a ∉ S := fun a ha hb => (List.nodup_append.mp nd).2.2 a hb a ha rfl
  refine ⟨e.vars.kp (f.1.kp ow dis), e.nd, e.src, fun a o h hs => f.1 a o (e.ext a o h hs) fun z => ?_⟩
  rcases src a z with q | q
  · exact hs q
  · rw [h] at q; cases q
theorem fz_frz (d : D) : frzD (fzD d) = true := by
  cases d with
  | lst o _ => cases o <;> rfl
  | dk o _ _ => cases o <;> rfl
  | dt o _ _ => cases o <;> rfl
  | _ => rfl
theorem se_fz {e : Expr} {a : E} (hK : X.K = C.K) (ho : own a = true) (ha : PE X e (tD C W a)) : PE X e (tD C W (.fz a)) := by
  refine ⟨fun pins s σ H Q I h => ?_⟩
  obtain ⟨ρ, SV, hv, nd, h⟩ := h
  have h : tK C W σ SV H (RD C.K SV H ρ true false) ((ev a ρ).bind fun d ρ => .ok (fzD d) ρ) Q := h
  refine thn (ha.run pins s σ H (fun v H1 => ∃ d S, Rep X.K H1 d v S ∧ S.Nodup ∧ ∀ H2, Rep X.K H2 (fzD d) v [] → Fz S H1 H2 → Q v H2) I ⟨ρ, SV, hv, nd, tK_bind0 h fun d ρ1 v H1 SV1 e1 ⟨⟨S, r1⟩, _⟩ h1 => ?_⟩) fun u s1 ⟨v, H1, I1, rv, d, S, r, n, k⟩ => ?_
  · refine ⟨d, S, by rw [hK]; exact r1.rep, (List.nodup_append.mp (r1.sep ho)).1, fun H2 r2 f => ?_⟩
    have e2 : EnvP C.K SV H σ ρ1 H2 SV1 := e1.fz (r1.rep.owns d) (r1.sep ho) (r1.src ho) f
    exact h1 v H2 SV1 e2 ⟨⟨[], by rw [← hK]; exact r2, (fun _ a ha => absurd ha List.not_mem_nil), (fun _ => e1.nd)⟩, (fun z => nomatch z)⟩
  · obtain ⟨H2, I2, r2, f⟩ := frz_rep d I1 r n
    exact ⟨v, H2, I2, rv, k H2 r2 f⟩
theorem se_ck {e : Expr} {a : E} (ha : PE X e (tD C W a)) : PE X e (tD C W (.ck a)) := by
  refine pemono ha fun σ H Q h => ?_
  obtain ⟨ρ, SV, hv, nd, h⟩ := h
  have h : tK C W σ SV H (RD C.K SV H ρ true (quiet a)) ((ev a ρ).bind fun d ρ => if frzD d = true then .ok d ρ else .bad) Q := h
  refine ⟨ρ, SV, hv, nd, tK_bind0 h fun d ρ1 v H1 SV1 e1 ⟨⟨S, r1⟩, q1⟩ h1 => ?_⟩
  by_cases hf : frzD d = true
  · rw [if_pos hf] at h1
    have := r1.rep.frz hf
    subst this
    exact h1 v H1 SV1 e1 ⟨⟨[], r1.rep, (fun _ a ha => absurd ha List.not_mem_nil), (fun _ => e1.nd)⟩, q1⟩
  · rw [if_neg hf] at h1
    exact h1.elim
/-- a name given up -/
theorem se_mv {i : Nat} {x : Str} (hK : X.K = C.K) (hN : X.N[i]? = some x) (hv : Vis X.env.scope x) (hd : (x == ("__debug__" : Str)) = false) (hcd : (x == ("__classdict__" : Str)) = false) : PE X (.Name x pos) (tD C W (.mv i)) := by
  refine ⟨fun pins s σ H Q I h => ?_⟩
  obtain ⟨ρ, SV, hv', nd, h⟩ := h
  cases hg : getV ρ i with
  | none =>
    have h : tK C W σ SV H (RD C.K SV H ρ true false) (match getV ρ i with | some d => .ok (fzD d) (ρ.set i (some (fzD d))) | none => .bad) Q := h
    rw [hg] at h
    exact h.elim
  | some d =>
    have h : tK C W σ SV H (RD C.K SV H ρ true false) (match getV ρ i with | some d => .ok (fzD d) (ρ.set i (some (fzD d))) | none => .bad) Q := h
    rw [hg] at h
    obtain ⟨v, S, R, e1, e2, f⟩ := var_at hv' hg
    have ndp : (S ++ R).Nodup := f.perm.nodup_iff.mp nd
    refine thn ((pe_var hN hv hd hcd).run pins s σ H (fun w H1 => w = v ∧ H1 = H) I ⟨v, e1, rfl, rfl⟩) fun u s1 ⟨w, H1, I1, rv, ew, eH⟩ => ?_
    subst ew eH
    obtain ⟨H2, I2, r2, fz⟩ := frz_rep d I1 (by rw [hK]; exact e2) (List.nodup_append.mp ndp).1
    refine ⟨w, H2, I2, rv, ?_⟩
    have ow : Owns H1 S := e2.owns d
    have kR : Kp R H1 H2 := Fz.kp (K := C.K) fz ow fun a ha hb => (List.nodup_append.mp ndp).2.2 a hb a ha rfl
    rw [hK] at r2
    obtain ⟨SV', v1, p1⟩ := f.set H2 (fzD d) w [] kR r2
    rw [set_same e1] at v1
    have mem : ∀ a, a ∈ SV' → a ∈ SV := fun a ha => f.perm.mem_iff.mpr (List.mem_append_right _ (p1.mem_iff.mp ha))
    refine h w H2 SV' ⟨v1, p1.nodup_iff.mpr (List.nodup_append.mp ndp).2.1, fun a ha => .inl (mem a ha), fun a o e hs => fz.1 a o e fun z => hs (f.perm.mem_iff.mpr (List.mem_append_left _ z))⟩
      ⟨⟨[], r2, (fun _ a ha => absurd ha List.not_mem_nil), (fun _ => p1.nodup_iff.mpr (List.nodup_append.mp ndp).2.1)⟩, (fun z => nomatch z)⟩
theorem se_mvo {i : Nat} {x : Str} (hN : X.N[i]? = some x) (hv : Vis X.env.scope x) (hd : (x == ("__debug__" : Str)) = false) (hcd : (x == ("__classdict__" : Str)) = false) : PE X (.Name x pos) (tD C W (.mvo i)) := by
  refine pemono (pe_var hN hv hd hcd) fun σ H Q h => ?_
  obtain ⟨ρ, SV, hv', nd, h⟩ := h
  have h : tK C W σ SV H (RD C.K SV H ρ true false) (match getV ρ i with | some d => .ok d (ρ.set i none) | none => .bad) Q := h
  cases hg : getV ρ i with
  | none => rw [hg] at h; exact h.elim
  | some d =>
    rw [hg] at h
    obtain ⟨v, S, R, e1, e2, f⟩ := var_at hv' hg
    have ndp : (S ++ R).Nodup := f.perm.nodup_iff.mp nd
    obtain ⟨SV', v1, p1⟩ := f.out H σ .refl (fun _ _ => rfl) rfl
    refine ⟨v, e1, h v H SV' ⟨v1, p1.nodup_iff.mpr (List.nodup_append.mp ndp).2.1, fun a ha => .inl (f.perm.mem_iff.mpr (List.mem_append_right _ (p1.mem_iff.mp ha))), .refl⟩
      ⟨⟨S, e2, (fun _ a ha => .inl (f.perm.mem_iff.mpr (List.mem_append_left _ ha))), (fun _ => (p1.append_left S).nodup_iff.mpr ndp)⟩, (fun z => nomatch z)⟩⟩
end
end Ly

namespace Ly
open PySem PySem.Spec L2
variable [Fns]
section
variable {X : Cx} {C : Cfg} {W : WX} {pos : Pos} {a b c : Expr} {a' b' c' : E}
theorem se_bin' {op : Operator} {o : O2} (hK : X.K = C.K) (ho : OpR X (binaryOp op) (rD X.K o.sem)) (ha : PE X a (tD C W a')) (hb : PE X b (tD C W b')) (hop : own (.o2 o a' b') = true) (hs : (own a' || quiet b') = true) :
    PE X (.BinOp a op b pos) (tD C W (.o2 o a' b')) := se_bin (by rw [← hK]; exact ho) ha hb hop hs
theorem se_cmp {op : CmpOp} {o : O2} (hK : X.K = C.K) (ho : OpR X (compareOp op) (rD X.K o.sem)) (ha : PE X a (tD C W a')) (hb : PE X b (tD C W b')) (hop : own (.o2 o a' b') = true) (hs : (own a' || quiet b') = true) (hm : behindInMarks op b = false) :
    PE X (.Compare a [op] [b] pos) (tD C W (.o2 o a' b')) := pemono (pe_cmpR (by rw [← hK]; exact ho) ha hb hm) fun _ _ _ h => tD_o2 hop hs h
theorem se_idx (hK : X.K = C.K) (hu : X.A.units + 1 < cLine) (ha : PE X a (tD C W a')) (hb : PE X b (tD C W b')) (hs : (own a' || quiet b') = true) (hp : PlainIx b) : PE X (.Subscript a b pos) (tD C W (.o2 .idx a' b')) := by
  refine pemono (pe_ix (by rw [← hK]; exact ix_any hu : IxR X (rIdxD C.K)) ha hb hp) fun σ H Q h => ?_
  obtain ⟨ρ, SV, hv, nd, h⟩ := h
  have h : tK C W σ SV H (RD C.K SV H ρ false (quiet a' && quiet b')) ((ev a' ρ).bind fun x ρ => (ev b' ρ).bind fun y ρ => liftO (idxS x y) ρ) Q := h
  refine ⟨ρ, SV, hv, nd, tK_bind h fun d ρ1 v H1 SV1 e1 r1 h1 => ⟨ρ1, SV1, e1.vars, e1.nd, tK_bind h1 fun e ρ2 u H2 SV2 e2 r2 h2 => ?_⟩⟩
  obtain ⟨z, hz, h2⟩ := tK_lift h2
  obtain ⟨⟨S, r1⟩, q1⟩ := r1
  obtain ⟨⟨T, r2⟩, q2⟩ := r2
  have hs' : own a' = true ∨ quiet b' = true := by simpa using hs
  obtain ⟨rep1, sep1⟩ := r1.carry e2 e1 q2 hs'
  refine ⟨d, e, z, S, T, rep1, r2.rep, hz, fun w S' rep => ?_⟩
  have en : EnvP C.K SV2 H2 σ ρ2 H2 SV2 := .refl e2.vars e2.nd
  refine h2 w H2 SV2 en ⟨e2.trans en, (e1.trans e2).trans en, ⟨S', rep, (fun z => nomatch z), (fun z => nomatch z)⟩, fun q => ?_⟩
  rw [Bool.and_eq_true] at q
  exact (q1 q.1).trans (q2 q.2)

/-! ### one value -/
def rD1 (K : PySem.W.Frag) (g : D → Option D) : V → Hp → VK → Prop := fun x H Q => ∃ d z S, Rep K H d x S ∧ g d = some z ∧ ∀ w H' S', Ext [] H H' → Rep K H' z w S' → S'.Nodup → (∀ a ∈ S', H a = none) → Q w H'
theorem tD_o1 {o : O1} {σ : St} {H : Hp} {Q : VK} (h : tD C W (.o1 o a') σ H Q) : tUn (rD1 C.K o.sem) (tD C W a') σ H Q := by
  obtain ⟨ρ, SV, hv, nd, h⟩ := h
  have h : tK C W σ SV H (RD C.K SV H ρ true (quiet a')) ((ev a' ρ).bind fun x ρ => liftO (o.sem x) ρ) Q := h
  refine ⟨ρ, SV, hv, nd, tK_bind h fun d ρ1 v H1 SV1 e1 r1 h1 => ?_⟩
  obtain ⟨z, hz, h1⟩ := tK_lift h1
  obtain ⟨⟨S, r1⟩, q1⟩ := r1
  refine ⟨d, z, S, r1.rep, hz, fun w H' S' x rep nd' new => ?_⟩
  have en := e1.ext0 x
  obtain ⟨f1, f2⟩ := fresh_sep e1 nd' new
  exact h1 w H' SV1 en ⟨e1.trans en, ⟨S', rep, (fun _ => f1), (fun _ => f2)⟩, fun q => (q1 q).ext x⟩
theorem un_neg' : UnR X (unaryOp .USub) (rD1 X.K O1.neg.sem) := by
  intro pins s σ H x v Q I rx h
  obtain ⟨d, z, S, r1, hz, k⟩ := h
  cases d with
  | int i =>
    cases hz
    exact un_neg pins s σ H x v Q I rx ⟨i, r1.1, kInt k⟩
  | _ => cases hz
theorem se_neg (hK : X.K = C.K) (ha : PE X a (tD C W a')) : PE X (.UnaryOp .USub a pos) (tD C W (.o1 .neg a')) := pemono (pe_un (by rw [← hK]; exact un_neg' : UnR X (unaryOp .USub) (rD1 C.K O1.neg.sem)) ha) fun _ _ _ h => tD_o1 h
/-- truth by data -/
theorem tru_rep {K : PySem.W.Frag} {H : Hp} {d : D} {x : V} {S : List Addr} {k : Bool} (r : Rep K H d x S) (h : truth d = some k) : TruV K x H k := by
  cases d with
  | non => cases h; rw [r.1]; rfl
  | bl b => cases h; rw [r.1]; rfl
  | int i => cases h; rw [r.1]; rfl
  | str y =>
    rw [r.1]
    change (if y.length ≤ lim then some (y.length != 0) else none) = some k at h
    split at h
    · rename_i hc
      cases h
      refine ⟨by rw [← lim_eq]; exact hc, ?_⟩
      cases y.length <;> rfl
    · cases h
  | tup ds =>
    cases h
    obtain ⟨_, a, vs, rfl, q, r⟩ := r
    refine .inr (.inl ⟨vs, q, ?_⟩)
    have := r.length
    cases ds <;> cases vs <;> first | rfl | simp at this
  | lst o ds =>
    cases h
    obtain ⟨a, vs, T, rfl, q, r, _⟩ := lst_sq r
    refine .inl ⟨vs, .inl q, ?_⟩
    have := r.length
    cases ds <;> cases vs <;> first | rfl | simp at this
  | dk o ks ds =>
    cases o with
    | false => cases h
    | true =>
      cases h
      obtain ⟨a, vs, S', rfl, q, l, r, _⟩ := r
      refine .inr (.inr ⟨_, q, ?_⟩)
      cases ks <;> cases vs <;> first | rfl | simp at l
  | _ => cases h
/-- not x -/
theorem se_not (hK : X.K = C.K) (ha : PE X a (tD C W a')) : PE X (.UnaryOp .Not a pos) (tD C W (.o1 .notO a')) := by
  refine pemono (pe_notT ha) fun σ H Q h => ?_
  obtain ⟨ρ, SV, hv, nd, h⟩ := tD_o1 h
  refine ⟨ρ, SV, hv, nd, ?_⟩
  cases m : ev a' ρ with
  | bad => rw [m] at h; exact h
  | exc x ρ' => rw [m] at h; exact h
  | ok d ρ1 =>
    rw [m] at h
    intro v H1 SV1 e1 r1
    obtain ⟨d, z, S, r, hz, k⟩ := h v H1 SV1 e1 r1
    change (match truth d with | some b => some (D.bl (!b)) | none => none) = some z at hz
    cases ht : truth d with
    | none => rw [ht] at hz; cases hz
    | some t =>
      rw [ht] at hz
      cases hz
      exact ⟨t, by rw [hK]; exact tru_rep r ht, kBl k⟩
/-- x and y, x or y, by truth -/
theorem qt_and {SV SV1 SV2 : List Addr} {H H1 H2 : Hp} {ρ ρ1 ρ2 : Ev} {p q : Bool} (h1 : p = true → Qt SV H ρ ρ1 H1 SV1) (h2 : q = true → Qt SV1 H1 ρ1 ρ2 H2 SV2) : (p && q) = true → Qt SV H ρ ρ2 H2 SV2 := fun h => by
  rw [Bool.and_eq_true] at h
  exact (h1 h.1).trans (h2 h.2)
/-- the value of a second part is the value of the whole -/
theorem RD.next {K : PySem.W.Frag} {SV SV1 SV2 : List Addr} {H H1 H2 : Hp} {σ : St} {ρ ρ1 ρ2 : Ev} {o o' p q : Bool} {d : D} {v : V} (e1 : EnvP K SV H σ ρ1 H1 SV1) (h1 : p = true → Qt SV H ρ ρ1 H1 SV1) (r : RD K SV1 H1 ρ1 o q d ρ2 SV2 H2 v) (ho : o' = true → o = true) (q' : Bool) (hq : q' = true → p = true ∧ q = true) : RD K SV H ρ o' q' d ρ2 SV2 H2 v := by
  obtain ⟨⟨S, r⟩, r2⟩ := r
  exact ⟨⟨S, r.rep, (fun z => src_trans e1 (r.src (ho z))), (fun z => r.sep (ho z))⟩, fun z => (h1 (hq z).1).trans (r2 (hq z).2)⟩
theorem tK_next {σ : St} {SV SV1 : List Addr} {H H1 : Hp} {ρ ρ1 : Ev} {o o' p q q' : Bool} {m : Out D} {Q : VK} (e1 : EnvP C.K SV H σ ρ1 H1 SV1) (h1 : p = true → Qt SV H ρ ρ1 H1 SV1) (ho : o' = true → o = true) (hq : q' = true → p = true ∧ q = true)
    (h : tK C W σ SV1 H1 (fun z ρ2 SV2 H2 w => EnvP C.K SV H σ ρ2 H2 SV2 ∧ RD C.K SV H ρ o' q' z ρ2 SV2 H2 w) m Q) : tK C W σ SV1 H1 (RD C.K SV1 H1 ρ1 o q) m Q := by
  cases m with
  | bad => exact h
  | exc x ρ' => exact h
  | ok d ρ2 => exact fun v H2 SV2 e2 r2 => h v H2 SV2 e2 ⟨e1.trans e2, r2.next e1 h1 ho q' hq⟩
theorem se_and {rest : List Expr} (hK : X.K = C.K) (ha : PE X a (tD C W a')) (hb : PE X (.BoolOp .And (b :: rest) pos) (tD C W b')) : PE X (.BoolOp .And (a :: b :: rest) pos) (tD C W (.and a' b')) := by
  refine pemono (pe_andT ha hb) fun σ H Q h => ?_
  obtain ⟨ρ, SV, hv, nd, h⟩ := h
  have h : tK C W σ SV H (RD C.K SV H ρ (own a' && own b') (quiet a' && quiet b')) ((ev a' ρ).bind fun x ρ => (match truth x with | some true => ev b' ρ | some false => .ok x ρ | none => .bad)) Q := h
  refine ⟨ρ, SV, hv, nd, tK_bind h fun d ρ1 v H1 SV1 e1 ⟨⟨S, r1⟩, q1⟩ h1 => ?_⟩
  cases ht : truth d with
  | none => rw [ht] at h1; exact h1.elim
  | some t =>
    rw [ht] at h1
    refine ⟨t, by rw [hK]; exact tru_rep r1.rep ht, ?_⟩
    cases t with
    | true =>
      rw [if_pos rfl]
      exact ⟨ρ1, SV1, e1.vars, e1.nd, tK_next e1 q1 (fun z => (Bool.and_eq_true_iff.mp z).2) (fun z => Bool.and_eq_true_iff.mp z) h1⟩
    | false =>
      rw [if_neg Bool.false_ne_true]
      exact h1 v H1 SV1 (.refl e1.vars e1.nd) ⟨e1, ⟨S, r1.rep, (fun z => r1.src (Bool.and_eq_true_iff.mp z).1), (fun z => r1.sep (Bool.and_eq_true_iff.mp z).1)⟩, fun z => q1 (Bool.and_eq_true_iff.mp z).1⟩
theorem se_or {rest : List Expr} (hK : X.K = C.K) (ha : PE X a (tD C W a')) (hb : PE X (.BoolOp .Or (b :: rest) pos) (tD C W b')) : PE X (.BoolOp .Or (a :: b :: rest) pos) (tD C W (.or a' b')) := by
  refine pemono (pe_orT ha hb) fun σ H Q h => ?_
  obtain ⟨ρ, SV, hv, nd, h⟩ := h
  have h : tK C W σ SV H (RD C.K SV H ρ (own a' && own b') (quiet a' && quiet b')) ((ev a' ρ).bind fun x ρ => (match truth x with | some true => .ok x ρ | some false => ev b' ρ | none => .bad)) Q := h
  refine ⟨ρ, SV, hv, nd, tK_bind h fun d ρ1 v H1 SV1 e1 ⟨⟨S, r1⟩, q1⟩ h1 => ?_⟩
  cases ht : truth d with
  | none => rw [ht] at h1; exact h1.elim
  | some t =>
    rw [ht] at h1
    refine ⟨t, by rw [hK]; exact tru_rep r1.rep ht, ?_⟩
    cases t with
    | false =>
      rw [if_neg Bool.false_ne_true]
      exact ⟨ρ1, SV1, e1.vars, e1.nd, tK_next e1 q1 (fun z => (Bool.and_eq_true_iff.mp z).2) (fun z => Bool.and_eq_true_iff.mp z) h1⟩
    | true =>
      rw [if_pos rfl]
      exact h1 v H1 SV1 (.refl e1.vars e1.nd) ⟨e1, ⟨S, r1.rep, (fun z => r1.src (Bool.and_eq_true_iff.mp z).1), (fun z => r1.sep (Bool.and_eq_true_iff.mp z).1)⟩, fun z => q1 (Bool.and_eq_true_iff.mp z).1⟩

/-! ### tests -/
def evT (e : E) (ρ : Ev) : Out Bool := (ev e ρ).bind fun d ρ => liftO (truth d) ρ
def RB (SV : List Addr) (H : Hp) (ρ : Ev) (q : Bool) (b : Bool) (ρ' : Ev) (SV' : List Addr) (H' : Hp) (v : Bool) : Prop := v = b ∧ (q = true → Qt SV H ρ ρ' H' SV')
def tT (C : Cfg) (W : WX) (e : E) : TT := fun σ H Q => ∃ ρ SV, Vars C.K H ρ σ SV ∧ SV.Nodup ∧ tK C W σ SV H (RB SV H ρ (quiet e)) (evT e ρ) Q
theorem st_truth (hK : X.K = C.K) (ha : PE X a (tD C W a')) (he : ∀ whole, isTrue a X.env whole = (do let v ← whole; standAt a.pos; holding [v] (truthy v))) : PT X a (tT C W a') := by
  refine ptmono (pt_truth ha he) fun σ H Q h => ?_
  obtain ⟨ρ, SV, hv, nd, h⟩ := h
  refine ⟨ρ, SV, hv, nd, tK_bind h fun d ρ1 v H1 SV1 e1 ⟨⟨S, r1⟩, q1⟩ h1 => ?_⟩
  obtain ⟨t, ht, h1⟩ := tK_lift h1
  exact ⟨t, by rw [hK]; exact tru_rep r1.rep ht, h1 t H1 SV1 (.refl e1.vars e1.nd) ⟨e1, rfl, q1⟩⟩
def isCmp : O2 → Bool
  | .eq => true
  | .ne => true
  | .lt => true
  | .le => true
  | .gt => true
  | .ge => true
  | .isN => true
  | .notN => true
  | .isIn => true
  | .notIn => true
  | _ => false
theorem inS_bl {d e z : D} (hz : inS d e = some z) : ∃ b, z = .bl b := by
  cases e with
  | tup xs => exact ⟨_, (inS_seq hz).2.2.2⟩
  | lst o xs => exact ⟨_, (inS_seq hz).2.2.2⟩
  | str y => cases d <;> first | (cases hz; exact ⟨_, rfl⟩) | cases hz
  | dk o ks vs =>
    change (match keyD d with | some k => some (D.bl (look k ks vs).isSome) | none => none) = some z at hz
    cases hk : keyD d with
    | none => rw [hk] at hz; cases hz
    | some k => rw [hk] at hz; cases hz; exact ⟨_, rfl⟩
  | _ => cases hz
theorem cmp_bl {o : O2} (h : isCmp o = true) {d e z : D} (hz : o.sem d e = some z) : ∃ b, z = .bl b := by
  cases o with
  | eq => exact ⟨_, (eqS_some hz).2.2.2⟩
  | ne =>
    obtain ⟨b, _, e⟩ := notS_some (show notS (eqS d e) = some z from hz)
    exact ⟨_, e⟩
  | lt => obtain ⟨_, _, _, _, e⟩ := I2_some hz; exact ⟨_, e⟩
  | le => obtain ⟨_, _, _, _, e⟩ := I2_some hz; exact ⟨_, e⟩
  | gt => obtain ⟨_, _, _, _, e⟩ := I2_some hz; exact ⟨_, e⟩
  | ge => obtain ⟨_, _, _, _, e⟩ := I2_some hz; exact ⟨_, e⟩
  | isN => rcases isS_some hz with ⟨_, h2⟩ | ⟨_, _, _, _, h2⟩ <;> exact ⟨_, h2⟩
  | notN =>
    obtain ⟨b, _, e⟩ := notS_some (show notS (isS d e) = some z from hz)
    exact ⟨_, e⟩
  | isIn => exact inS_bl hz
  | notIn =>
    obtain ⟨b, _, e⟩ := notS_some (show notS (inS d e) = some z from hz)
    exact ⟨_, e⟩
  | _ => cases h
theorem ev_o2_ok {o : O2} {a b : E} {ρ ρ1 : Ev} {d : D} (h : ev (.o2 o a b) ρ = .ok d ρ1) : ∃ x y, o.sem x y = some d := by
  have h : ((ev a ρ).bind fun x ρ => (ev b ρ).bind fun y ρ => liftO (o.sem x y) ρ) = .ok d ρ1 := h
  cases ha : ev a ρ with
  | bad => rw [ha] at h; cases h
  | exc x ρ' => rw [ha] at h; cases h
  | ok x ρ' =>
    rw [ha] at h
    have h : ((ev b ρ').bind fun y ρ => liftO (o.sem x y) ρ) = .ok d ρ1 := h
    cases hb : ev b ρ' with
    | bad => rw [hb] at h; cases h
    | exc x ρ' => rw [hb] at h; cases h
    | ok y ρ'' =>
      rw [hb] at h
      have h : liftO (o.sem x y) ρ'' = .ok d ρ1 := h
      cases hs : o.sem x y with
      | none => rw [hs] at h; cases h
      | some z => rw [hs] at h; cases h; exact ⟨x, y, hs⟩
theorem st_cmp {op : CmpOp} {o : O2} (hK : X.K = C.K) (hc : isCmp o = true) (ho : OpR X (compareOp op) (rD X.K o.sem)) (ha : PE X a (tD C W a')) (hb : PE X b (tD C W b')) (hs : (own a' || quiet b') = true) (hm : behindInMarks op b = false) :
    PT X (.Compare a [op] [b] pos) (tT C W (.o2 o a' b')) := by
  refine ptmono (pt_cmpR (by rw [← hK]; exact ho : OpR X (compareOp op) (rD C.K o.sem)) ha hb hm) fun σ H Q h => ?_
  obtain ⟨ρ, SV, hv, nd, h⟩ := h
  have hop : own (.o2 o a' b') = true := by cases o <;> first | rfl | cases hc
  refine tD_o2 hop hs ⟨ρ, SV, hv, nd, tK_bindE (R := RD C.K SV H ρ (own (.o2 o a' b')) (quiet (.o2 o a' b'))) h fun d ρ1 v H1 SV1 hm e1 ⟨⟨S, r1⟩, q1⟩ h1 => ?_⟩
  obtain ⟨x, y, hz⟩ := ev_o2_ok hm
  obtain ⟨b, rfl⟩ := cmp_bl hc hz
  have h1 : ∀ v H' SV', EnvP C.K SV H σ ρ1 H' SV' → RB SV H ρ (quiet (.o2 o a' b')) b ρ1 SV' H' v → Q v H' := h1
  exact ⟨b, r1.rep.1, h1 b H1 SV1 e1 ⟨rfl, q1⟩⟩
/-- tests joined -/
theorem evT_and {a b : E} {ρ : Ev} : evT (.and a b) ρ = (evT a ρ).bind fun c ρ => if c = true then evT b ρ else .ok false ρ := by
  have e : evT (.and a b) ρ = ((ev a ρ).bind fun x ρ => (match truth x with | some true => ev b ρ | some false => .ok x ρ | none => .bad)).bind fun d ρ => liftO (truth d) ρ := rfl
  rw [e]
  unfold evT
  cases ev a ρ with
  | bad => rfl
  | exc x ρ' => rfl
  | ok x ρ' =>
    show Out.bind (match truth x with | some true => ev b ρ' | some false => .ok x ρ' | none => .bad) _ = Out.bind (liftO (truth x) ρ') _
    cases ht : truth x with
    | none => rfl
    | some t =>
      cases t with
      | true => rfl
      | false => show liftO (truth x) ρ' = _; rw [ht]; rfl
theorem evT_or {a b : E} {ρ : Ev} : evT (.or a b) ρ = (evT a ρ).bind fun c ρ => if c = true then .ok true ρ else evT b ρ := by
  have e : evT (.or a b) ρ = ((ev a ρ).bind fun x ρ => (match truth x with | some true => .ok x ρ | some false => ev b ρ | none => .bad)).bind fun d ρ => liftO (truth d) ρ := rfl
  rw [e]
  unfold evT
  cases ev a ρ with
  | bad => rfl
  | exc x ρ' => rfl
  | ok x ρ' =>
    show Out.bind (match truth x with | some true => .ok x ρ' | some false => ev b ρ' | none => .bad) _ = Out.bind (liftO (truth x) ρ') _
    cases ht : truth x with
    | none => rfl
    | some t =>
      cases t with
      | true => show liftO (truth x) ρ' = _; rw [ht]; rfl
      | false => rfl
theorem evT_not {a : E} {ρ : Ev} : evT (.o1 .notO a) ρ = (evT a ρ).bind fun c ρ => .ok (!c) ρ := by
  have e : evT (.o1 .notO a) ρ = ((ev a ρ).bind fun x ρ => liftO (match truth x with | some b => some (D.bl (!b)) | none => none) ρ).bind fun d ρ => liftO (truth d) ρ := by
    unfold evT
    have e : ∀ x, O1.notO.sem x = (match truth x with | some b => some (D.bl (!b)) | none => none) := fun x => by cases x <;> rfl
    show ((ev a ρ).bind fun x ρ => liftO (O1.notO.sem x) ρ).bind _ = _
    simp only [e]
  rw [e]
  unfold evT
  cases ev a ρ with
  | bad => rfl
  | exc x ρ' => rfl
  | ok x ρ' =>
    show Out.bind (liftO (match truth x with | some b => some (D.bl (!b)) | none => none) ρ') _ = Out.bind (liftO (truth x) ρ') _
    cases truth x <;> rfl
theorem tKB_next {σ : St} {SV SV1 : List Addr} {H H1 : Hp} {ρ ρ1 : Ev} {p q q' : Bool} {m : Out Bool} {Q : Bool → Hp → Prop} (e1 : EnvP C.K SV H σ ρ1 H1 SV1) (h1 : p = true → Qt SV H ρ ρ1 H1 SV1) (hq : q' = true → p = true ∧ q = true)
    (h : tK C W σ SV1 H1 (fun z ρ2 SV2 H2 w => EnvP C.K SV H σ ρ2 H2 SV2 ∧ RB SV H ρ q' z ρ2 SV2 H2 w) m Q) : tK C W σ SV1 H1 (RB SV1 H1 ρ1 q) m Q := by
  cases m with
  | bad => exact h
  | exc x ρ' => exact h
  | ok d ρ2 => exact fun v H2 SV2 e2 r2 => h v H2 SV2 e2 ⟨e1.trans e2, r2.1, fun z => (h1 (hq z).1).trans (r2.2 (hq z).2)⟩
theorem sw_and {rest : List Expr} (ha : PT X a (tT C W a')) (hb : PW X (.BoolOp .And (b :: rest) pos) (tT C W b')) : PW X (.BoolOp .And (a :: b :: rest) pos) (tT C W (.and a' b')) := by
  refine ⟨fun wh pins s σ H Q I h => (pw_and ha hb).run wh pins s σ H Q I ?_⟩
  obtain ⟨ρ, SV, hv, nd, h⟩ := h
  rw [evT_and] at h
  refine ⟨ρ, SV, hv, nd, tK_bind h fun d ρ1 v H1 SV1 e1 ⟨ed, q1⟩ h1 => ?_⟩
  subst ed
  cases v with
  | true =>
    rw [if_pos rfl] at h1 ⊢
    exact ⟨ρ1, SV1, e1.vars, e1.nd, tKB_next e1 q1 (fun z => Bool.and_eq_true_iff.mp z) h1⟩
  | false =>
    rw [if_neg Bool.false_ne_true] at h1 ⊢
    exact h1 false H1 SV1 (.refl e1.vars e1.nd) ⟨e1, rfl, fun z => q1 (Bool.and_eq_true_iff.mp z).1⟩
theorem sw_or {rest : List Expr} (ha : PT X a (tT C W a')) (hb : PW X (.BoolOp .Or (b :: rest) pos) (tT C W b')) : PW X (.BoolOp .Or (a :: b :: rest) pos) (tT C W (.or a' b')) := by
  refine ⟨fun wh pins s σ H Q I h => (pw_or ha hb).run wh pins s σ H Q I ?_⟩
  obtain ⟨ρ, SV, hv, nd, h⟩ := h
  rw [evT_or] at h
  refine ⟨ρ, SV, hv, nd, tK_bind h fun d ρ1 v H1 SV1 e1 ⟨ed, q1⟩ h1 => ?_⟩
  subst ed
  cases v with
  | false =>
    rw [if_neg Bool.false_ne_true] at h1 ⊢
    exact ⟨ρ1, SV1, e1.vars, e1.nd, tKB_next e1 q1 (fun z => Bool.and_eq_true_iff.mp z) h1⟩
  | true =>
    rw [if_pos rfl] at h1 ⊢
    exact h1 true H1 SV1 (.refl e1.vars e1.nd) ⟨e1, rfl, fun z => q1 (Bool.and_eq_true_iff.mp z).1⟩
theorem st_not (ha : PT X a (tT C W a')) : PT X (.UnaryOp .Not a pos) (tT C W (.o1 .notO a')) := by
  refine ptmono (pt_not ha) fun σ H Q h => ?_
  obtain ⟨ρ, SV, hv, nd, h⟩ := h
  rw [evT_not] at h
  refine ⟨ρ, SV, hv, nd, tK_bind0 h fun d ρ1 v H1 SV1 e1 ⟨ed, q1⟩ h1 => ?_⟩
  subst ed
  exact h1 (!v) H1 SV1 e1 ⟨rfl, q1⟩
/-- a if c else b -/
theorem se_ite (hc : PT X c (tT C W c')) (ha : PE X a (tD C W a')) (hb : PE X b (tD C W b')) : PE X (.IfExp c a b pos) (tD C W (.ite c' a' b')) := by
  refine pemono (pe_ifExp hc ha hb) fun σ H Q h => ?_
  obtain ⟨ρ, SV, hv, nd, h⟩ := h
  have e : ev (.ite c' a' b') ρ = (evT c' ρ).bind fun t ρ => if t = true then ev a' ρ else ev b' ρ := by
    have e : ev (.ite c' a' b') ρ = (ev c' ρ).bind fun x ρ => (match truth x with | some true => ev a' ρ | some false => ev b' ρ | none => .bad) := rfl
    rw [e]
    unfold evT
    cases ev c' ρ with
    | bad => rfl
    | exc x ρ' => rfl
    | ok x ρ' =>
      show (match truth x with | some true => ev a' ρ' | some false => ev b' ρ' | none => .bad) = Out.bind (liftO (truth x) ρ') _
      cases truth x with
      | none => rfl
      | some t => cases t <;> rfl
  rw [e] at h
  have h : tK C W σ SV H (RD C.K SV H ρ (own a' && own b') (quiet c' && (quiet a' && quiet b'))) ((evT c' ρ).bind fun t ρ => if t = true then ev a' ρ else ev b' ρ) Q := h
  refine ⟨ρ, SV, hv, nd, tK_bind h fun d ρ1 v H1 SV1 e1 ⟨ed, q1⟩ h1 => ?_⟩
  subst ed
  cases v with
  | true =>
    rw [if_pos rfl] at h1 ⊢
    exact ⟨ρ1, SV1, e1.vars, e1.nd, tK_next e1 q1 (fun z => (Bool.and_eq_true_iff.mp z).1) (fun z => ⟨(Bool.and_eq_true_iff.mp z).1, (Bool.and_eq_true_iff.mp (Bool.and_eq_true_iff.mp z).2).1⟩) h1⟩
  | false =>
    rw [if_neg Bool.false_ne_true] at h1 ⊢
    exact ⟨ρ1, SV1, e1.vars, e1.nd, tK_next e1 q1 (fun z => (Bool.and_eq_true_iff.mp z).2) (fun z => ⟨(Bool.and_eq_true_iff.mp z).1, (Bool.and_eq_true_iff.mp (Bool.and_eq_true_iff.mp z).2).2⟩) h1⟩
theorem sw_and1 (ha : PT X a (tT C W a')) : PW X (.BoolOp .And [a] pos) (tT C W a') := pw_and1 ha
theorem sw_or1 (ha : PT X a (tT C W a')) : PW X (.BoolOp .Or [a] pos) (tT C W a') := pw_or1 ha
end
end Ly

namespace Ly
open PySem PySem.Spec L2
variable [Fns]
/-- arguments: values for those that are expressions, the names' own values for those that are handed over -/
inductive AR (K : PySem.W.Frag) (H : Hp) (σ : St) : Es → List D → List V → List Addr → Prop
  | nil : AR K H σ .nil [] [] []
  | cons {e : E} {es : Es} {d : D} {ds : List D} {v : V} {vs : List V} {S T : List Addr} : Rep K H d v S → AR K H σ es ds vs T → AR K H σ (.cons e es) (d :: ds) (v :: vs) (S ++ T)
  | io {i : Nat} {es : Es} {ds : List D} {v : V} {vs : List V} {T : List Addr} : σ[i]? = some (some v) → AR K H σ es ds vs T → AR K H σ (.io i es) (.non :: ds) (v :: vs) T
theorem AR.kp {K : PySem.W.Frag} {H H' : Hp} {σ : St} : ∀ {es : Es} {ds : List D} {vs : List V} {S : List Addr}, AR K H σ es ds vs S → Kp S H H' → AR K H' σ es ds vs S
  | _, _, _, _, .nil, _ => .nil
  | _, _, _, _, .cons r t, k => .cons (r.kp _ (k.sub fun a ha => List.mem_append_left _ ha)) (AR.kp t (k.sub fun a ha => List.mem_append_right _ ha))
  | _, _, _, _, .io e t, k => .io e (AR.kp t k)
theorem AR.owns {K : PySem.W.Frag} {H : Hp} {σ : St} : ∀ {es : Es} {ds : List D} {vs : List V} {S : List Addr}, AR K H σ es ds vs S → Owns H S
  | _, _, _, _, .nil => fun a ha => absurd ha List.not_mem_nil
  | _, _, _, _, .cons r t => (r.owns _).app (AR.owns t)
  | _, _, _, _, .io e t => AR.owns t
/-- no name is handed over -/
def plainEs : Es → Bool
  | .nil => true
  | .cons _ es => plainEs es
  | .io _ _ => false
theorem AR.reps {K : PySem.W.Frag} {H : Hp} {σ : St} : ∀ {es : Es} {ds : List D} {vs : List V} {S : List Addr}, AR K H σ es ds vs S → plainEs es = true → Reps K H ds vs S
  | _, _, _, _, .nil, _ => Reps.nil
  | _, _, _, _, .cons r t, p => Reps.cons r (AR.reps t p)
  | _, _, _, _, .io _ _, p => by cases p
structure ResA (K : PySem.W.Frag) (SV : List Addr) (H : Hp) (σ : St) (SV' : List Addr) (H' : Hp) (es : Es) (ds : List D) (vs : List V) (S : List Addr) : Prop where
  rep : AR K H' σ es ds vs S
  src : ∀ a ∈ S, a ∈ SV ∨ H a = none
  sep : (S ++ SV').Nodup
def RA (K : PySem.W.Frag) (SV : List Addr) (H : Hp) (σ : St) (ρ : Ev) (es : Es) (ds : List D) (ρ' : Ev) (SV' : List Addr) (H' : Hp) (vs : List V) : Prop := (∃ S, ResA K SV H σ SV' H' es ds vs S) ∧ (quiets es = true → Qt SV H ρ ρ' H' SV')
def tA (C : Cfg) (W : WX) (es : Es) : TA := fun σ H Q => ∃ ρ SV, Vars C.K H ρ σ SV ∧ SV.Nodup ∧ tK C W σ SV H (RA C.K SV H σ ρ es) (evs es ρ) Q
theorem pamono {X : Cx} {es : List Expr} {t t' : TA} (h : PA X es t) (k : ∀ σ H Q, t' σ H Q → t σ H Q) : PA X es t' := ⟨fun pos pins s σ H Q I q => h.run pos pins s σ H Q I (k σ H Q q)⟩
section
variable {X : Cx} {C : Cfg} {W : WX} {pos : Pos} {e : Expr} {es : List Expr} {e' : E} {es' : Es}
theorem sa_nil : PA X [] (tA C W .nil) := by
  refine pamono pa_nil fun σ H Q h => ?_
  obtain ⟨ρ, SV, hv, nd, h⟩ := h
  exact h [] H SV (.refl hv nd) ⟨⟨[], .nil, fun a ha => absurd ha List.not_mem_nil, nd⟩, fun _ => ⟨rfl, rfl, .refl⟩⟩
theorem ta_cons_read {σ : St} {H : Hp} {Q : List V → Hp → Prop} (ho : own e' = true) (h : tA C W (.cons e' es') σ H Q) : tCons (tD C W e') (tA C W es') σ H Q := by
  obtain ⟨ρ, SV, hv, nd, h⟩ := h
  have h : tK C W σ SV H (RA C.K SV H σ ρ (.cons e' es')) ((ev e' ρ).bind fun d ρ => (evs es' ρ).bind fun ds ρ => .ok (d :: ds) ρ) Q := h
  refine ⟨ρ, SV, hv, nd, tK_bind h fun d ρ1 v H1 SV1 e1 ⟨⟨S, r1⟩, q1⟩ h1 => ⟨ρ1, SV1, e1.vars, e1.nd, tK_bind0 h1 fun ds ρ2 vs H2 SV2 e2 ⟨⟨T, r2⟩, q2⟩ h2 => ?_⟩⟩
  have hsep := r1.sep ho
  have sep1 : ∀ a ∈ S, a ∉ SV1 := fun a ha hb => (List.nodup_append.mp hsep).2.2 a ha a hb rfl
  have kS : Kp S H1 H2 := e2.ext.kp e1.vars.owns sep1
  have ow := r1.rep.owns d
  have et := e1.trans e2
  refine h2 (v :: vs) H2 SV2 e2 ⟨et, ⟨S ++ T, .cons (r1.rep.kp d kS) r2.rep, fun a ha => ?_, ?_⟩, fun q => ?_⟩
  · rcases List.mem_append.mp ha with h | h
    · exact r1.src ho a h
    · exact src_trans e1 r2.src a h
  · rw [List.append_assoc]
    refine List.nodup_append.mpr ⟨(List.nodup_append.mp hsep).1, r2.sep, fun a ha b hb e => ?_⟩
    subst e
    have bad : ¬ (a ∈ SV1 ∨ H1 a = none) := fun z => by
      rcases z with z | z
      · exact sep1 a ha z
      · obtain ⟨o, eo, _⟩ := ow a ha
        rw [z] at eo
        cases eo
    rcases List.mem_append.mp hb with h | h
    · exact bad (r2.src a h)
    · exact bad (e2.src a h)
  · have q : (quiet e' && quiets es') = true := q
    rw [Bool.and_eq_true] at q
    exact (q1 q.1).trans (q2 q.2)
theorem sa_cons (ho : own e' = true) (ha : PE X e (tD C W e')) (hr : PA X es (tA C W es')) (hs : starEach (e :: es) X.env = (false, eval e X.env) :: starEach es X.env) : PA X (e :: es) (tA C W (.cons e' es')) := by
  exact pamono (pa_cons ha hr hs) fun σ H Q h => ta_cons_read ho h
theorem sa_io {i : Nat} {x : Str} (hN : X.N[i]? = some x) (hv : Vis X.env.scope x) (hd : (x == ("__debug__" : Str)) = false) (hcd : (x == ("__classdict__" : Str)) = false) (hr : PA X es (tA C W es'))
    (hs : starEach (.Name x pos :: es) X.env = (false, eval (.Name x pos) X.env) :: starEach es X.env) : PA X (.Name x pos :: es) (tA C W (.io i es')) := by
  refine pamono (pa_cons (pe_var hN hv hd hcd) hr hs) fun σ H Q h => ?_
  obtain ⟨ρ, SV, hv, nd, h⟩ := h
  have h : tK C W σ SV H (RA C.K SV H σ ρ (.io i es')) (match getV ρ i with | some _ => (evs es' ρ).bind fun ds ρ => .ok (.non :: ds) ρ | none => .bad) Q := h
  cases hg : getV ρ i with
  | none => rw [hg] at h; exact h.elim
  | some d =>
    rw [hg] at h
    obtain ⟨v, S, R, ev, _, _⟩ := var_at hv hg
    refine ⟨v, ev, ρ, SV, hv, nd, tK_bind0 h fun ds ρ2 vs H2 SV2 e2 ⟨⟨T, r2⟩, q2⟩ h2 => ?_⟩
    exact h2 (v :: vs) H2 SV2 e2 ⟨⟨T, .io ev r2.rep, r2.src, r2.sep⟩, q2⟩
/-! ### displays -/
theorem se_tup {k : Nat} (hp : plainEs es' = true) (h : PA X es (tA C W es')) : PE X (.Tuple es k pos) (tD C W (.tup es')) := by
  refine pemono (pe_tup h) fun σ H Q h => ?_
  obtain ⟨ρ, SV, hv, nd, h⟩ := h
  have h : tK C W σ SV H (RD C.K SV H ρ true (quiets es')) ((evs es' ρ).bind fun ds ρ => if ds.all frzD = true ∧ ds.length ≤ lim then .ok (.tup ds) ρ else .bad) Q := h
  refine ⟨ρ, SV, hv, nd, tK_bind0 h fun ds ρ1 vs H1 SV1 e1 ⟨⟨S, r1⟩, q1⟩ h1 => ?_⟩
  by_cases hc : ds.all frzD = true ∧ ds.length ≤ lim
  · rw [if_pos hc] at h1
    have r := r1.rep.reps hp
    have := r.frz hc.1
    subst this
    refine ⟨by rw [← lim_eq, ← r.length]; exact hc.2, kTup (K := C.K) (fun w H' S' x rep nd' new => ?_) r⟩
    have en := e1.ext0 x
    obtain ⟨f1, f2⟩ := fresh_sep e1 nd' new
    exact h1 w H' SV1 (e1.trans en) ⟨⟨S', rep, (fun _ => f1), (fun _ => f2)⟩, fun q => (q1 q).ext x⟩
  · rw [if_neg hc] at h1
    exact h1.elim
theorem se_lst (hp : plainEs es' = true) (h : PA X es (tA C W es')) : PE X (.List es pos) (tD C W (.lst es')) := by
  refine pemono (pe_lst h) fun σ H Q h => ?_
  obtain ⟨ρ, SV, hv, nd, h⟩ := h
  have h : tK C W σ SV H (RD C.K SV H ρ true (quiets es')) ((evs es' ρ).bind fun ds ρ => if ds.length ≤ lim then .ok (.lst true ds) ρ else .bad) Q := h
  refine ⟨ρ, SV, hv, nd, tK_bind0 h fun ds ρ1 vs H1 SV1 e1 ⟨⟨S, r1⟩, q1⟩ h1 => ?_⟩
  by_cases hc : ds.length ≤ lim
  · rw [if_pos hc] at h1
    have r := r1.rep.reps hp
    refine ⟨by rw [← lim_eq, ← r.length]; exact hc, fun p hp => ?_⟩
    have x : Ext [] H1 (upd H1 p (.lst vs)) := Ext.new hp
    have en := e1.ext0 x
    have pS : p ∉ S := fun z => by
      obtain ⟨o, eo, _⟩ := r.owns ds p z
      rw [hp] at eo
      cases eo
    have pV : p ∉ SV1 := fun z => by
      obtain ⟨o, eo, _⟩ := e1.vars.owns p z
      rw [hp] at eo
      cases eo
    refine h1 (.ref p) _ SV1 (e1.trans en) ⟨⟨p :: S, ⟨p, vs, S, rfl, upd_same, r.kp ds (x.all _), rfl⟩, (fun _ a ha => ?_), (fun _ => ?_)⟩, fun q => (q1 q).ext x⟩
    · rcases List.mem_cons.mp ha with e | h
      · subst e
        exact src_trans e1 (S := [a]) (fun b hb => .inr (by rw [show b = a by simpa using hb]; exact hp)) a (by simp)
      · exact r1.src a h
    · rw [List.cons_append]
      exact List.nodup_cons.mpr ⟨fun z => (List.mem_append.mp z).elim pS pV, r1.sep⟩
  · rw [if_neg hc] at h1
    exact h1.elim

/-! ### one-argument built-ins -/
def rC1 (K : PySem.W.Frag) (g : D → Option D) : List V → Hp → VK → Prop := fun xs H Q => ∃ x, xs = [x] ∧ rD1 K g x H Q
theorem tD_c1 {o : O1} {a' : E} {σ : St} {H : Hp} {Q : VK} (h : tD C W (.o1 o a') σ H Q) : tCB (rC1 C.K o.sem) (tCons (tD C W a') tNil) σ H Q := by
  obtain ⟨ρ, SV, hv, nd, h⟩ := tD_o1 h
  refine ⟨ρ, SV, hv, nd, ?_⟩
  cases m : ev a' ρ with
  | bad => rw [m] at h; exact h
  | exc x ρ' => rw [m] at h; exact h
  | ok d ρ1 => rw [m] at h; exact fun v H1 SV1 e1 r1 => ⟨v, rfl, h v H1 SV1 e1 r1⟩
theorem se_cb {a : Expr} {a' : E} {o : O1} {x : Str} {id : String} {p : Pos} (hK : X.K = C.K) (hc : CallR X (.builtin id) (rC1 X.K o.sem)) (hg : Gl X x) (hm : X.mg x = none) (hv : bootBuiltins x = some (.builtin id)) (ha : PE X a (tD C W a')) (hn : x ≠ "__name__") (hdb : (x == ("__debug__" : Str)) = false)
    (he : starEach [a] X.env = (false, eval a X.env) :: starEach [] X.env) : PE X (.Call (.Name x p) [a] [] pos) (tD C W (.o1 o a')) :=
  pemono (pe_callB (by rw [← hK]; exact hc : CallR X (.builtin id) (rC1 C.K o.sem)) hg hm hv (pa_cons ha pa_nil he) hn hdb he) fun _ _ _ h => tD_c1 h
theorem se_ct {a : Expr} {a' : E} {o : O1} {x : Str} {T : String} {p : Pos} (hK : X.K = C.K) (hc : CallR X (.type T) (rC1 X.K o.sem)) (hg : Gl X x) (hm : X.mg x = none) (hv : bootBuiltins x = some (.type T)) (ha : PE X a (tD C W a')) (hn : x ≠ "__name__") (hdb : (x == ("__debug__" : Str)) = false)
    (he : starEach [a] X.env = (false, eval a X.env) :: starEach [] X.env) : PE X (.Call (.Name x p) [a] [] pos) (tD C W (.o1 o a')) :=
  pemono (pe_callTy (by rw [← hK]; exact hc : CallR X (.type T) (rC1 C.K o.sem)) hg hm hv (pa_cons ha pa_nil he) hn hdb he) fun _ _ _ h => tD_c1 h
end

/-! ### a def's promise -/
def AF (K : PySem.W.Frag) (H : Hp) : List Bool → List D → List V → List Addr → Prop
  | [], [], [], S => S = []
  | io :: r, d :: ds, v :: vs, S => ∃ S1 S2, Rep K H d v S1 ∧ (io = false → S1 = []) ∧ AF K H r ds vs S2 ∧ S = S1 ++ S2
  | _, _, _, _ => False
def OF (K : PySem.W.Frag) (H : Hp) : List Bool → List D → List V → List Addr → Prop
  | [], [], [], S => S = []
  | false :: r, os, _ :: vs, S => OF K H r os vs S
  | true :: r, o :: os, v :: vs, S => ∃ S1 S2, Rep K H o v S1 ∧ OF K H r os vs S2 ∧ S = S1 ++ S2
  | _, _, _, _ => False
def spD (C : Cfg) (io : List Bool) (sem : FSem) : Sp := fun vs H Q E => ∃ ds S, AF C.K H io ds vs S ∧ S.Nodup ∧
  match sem ds with
  | .ret d outs => ∀ v H' T U, Ext S H H' → Rep C.K H' d v T → OF C.K H' io outs vs U → (T ++ U).Nodup → (∀ a ∈ T ++ U, a ∈ S ∨ H a = none) → Q v H'
  | .exc x outs => ∀ cls dd H' U, Ext S H H' → OF C.K H' io outs vs U → U.Nodup → (∀ a ∈ U, a ∈ S ∨ H a = none) → C.ER x cls dd H' → E cls dd H'
  | .bad => False
theorem AF.length {K : PySem.W.Frag} {H : Hp} : ∀ {io : List Bool} {ds : List D} {vs : List V} {S : List Addr}, AF K H io ds vs S → vs.length = io.length
  | [], [], [], _, _ => rfl
  | _ :: _, _ :: _, _ :: _, _, h => by
    obtain ⟨S1, S2, _, _, h, _⟩ := h
    exact congrArg (· + 1) (AF.length h)
  | [], [], _ :: _, _, h => h.elim
  | [], _ :: _, _, _, h => h.elim
  | _ :: _, [], _, _, h => h.elim
  | _ :: _, _ :: _, [], _, h => h.elim
theorem AF.owns {K : PySem.W.Frag} {H : Hp} : ∀ {io : List Bool} {ds : List D} {vs : List V} {S : List Addr}, AF K H io ds vs S → Owns H S
  | [], [], [], _, h => by
    have h : _ = [] := h
    subst h
    exact fun a ha => absurd ha List.not_mem_nil
  | _ :: _, _ :: _, _ :: _, _, h => by
    obtain ⟨S1, S2, r, _, h, rfl⟩ := h
    exact (r.owns _).app (AF.owns h)
  | [], [], _ :: _, _, h => h.elim
  | [], _ :: _, _, _, h => h.elim
  | _ :: _, [], _, _, h => h.elim
  | _ :: _, _ :: _, [], _, h => h.elim

/-! ### the names handed over -/
def align : List (Option Nat) → Es → Bool
  | [], .nil => true
  | none :: r, .cons _ es => align r es
  | some i :: r, .io j es => i == j && align r es
  | _, _ => false
def ios (slots : List (Option Nat)) : List Nat := slots.filterMap id
theorem wb_set : ∀ {slots : List (Option Nat)} {os : List D} {ρ : Ev} {i : Nat} {x : Option D}, i ∉ ios slots → wb slots os (ρ.set i x) = (wb slots os ρ).map fun ρ' => ρ'.set i x
  | [], [], _, _, _, _ => rfl
  | [], _ :: _, _, _, _, _ => rfl
  | none :: r, os, ρ, i, x, h => wb_set (slots := r) (os := os) h
  | some j :: r, [], _, _, _, _ => rfl
  | some j :: r, o :: os, ρ, i, x, h => by
    have h1 : i ≠ j := fun e => h (by simp [ios, e])
    have h2 : i ∉ ios r := fun e => h (by simp [ios] at e ⊢; exact .inr e)
    show wb r os ((ρ.set i x).set j (some o)) = (wb r os (ρ.set j (some o))).map fun ρ' => ρ'.set i x
    rw [List.set_comm _ _ h1]
    exact wb_set h2
theorem fill_set : ∀ {slots : List (Option Nat)} {ds : List D} {ρ : Ev} {i : Nat} {x : Option D}, i ∉ ios slots → fill slots ds (ρ.set i x) = fill slots ds ρ
  | [], [], _, _, _, _ => rfl
  | [], _ :: _, _, _, _, _ => rfl
  | none :: r, [], _, _, _, _ => rfl
  | none :: r, d :: ds, ρ, i, x, h => by
    show (if frzD d = true then _ else _) = (if frzD d = true then _ else _)
    rw [fill_set (slots := r) (ds := ds) (show i ∉ ios r from h)]
  | some j :: r, [], _, _, _, _ => rfl
  | some j :: r, d :: ds, ρ, i, x, h => by
    have h1 : i ≠ j := fun e => h (by simp [ios, e])
    have h2 : i ∉ ios r := fun e => h (by simp [ios] at e ⊢; exact .inr e)
    have e : getV (ρ.set i x) j = getV ρ j := by
      unfold getV
      rw [List.getD_eq_getElem?_getD, List.getD_eq_getElem?_getD, List.getElem?_set_ne h1]
    show (match getV (ρ.set i x) j, fill r ds (ρ.set i x) with | some d, some l => some (d :: l) | _, _ => none) = (match getV ρ j, fill r ds ρ with | some d, some l => some (d :: l) | _, _ => none)
    rw [e, fill_set h2]
theorem call_args {K : PySem.W.Frag} {H : Hp} {σ : St} : ∀ {slots : List (Option Nat)} {es : Es} {ds ds' : List D} {vs : List V} {S SV : List Addr} {ρ : Ev}, AR K H σ es ds vs S → align slots es = true → (ios slots).Nodup → fill slots ds ρ = some ds' → Vars K H ρ σ SV →
    ∃ T R, AF K H (slots.map (·.isSome)) ds' vs T ∧ SV.Perm (T ++ R) ∧ S = [] ∧ ∀ H' outs U, Kp R H H' → OF K H' (slots.map (·.isSome)) outs vs U → ∃ ρ' SV', wb slots outs ρ = some ρ' ∧ Vars K H' ρ' σ SV' ∧ SV'.Perm (U ++ R)
  | [], _, _, _, _, _, SV, ρ, .nil, _, _, hf, hv => by
    cases hf
    refine ⟨[], SV, rfl, .refl _, rfl, fun H' outs U k h => ?_⟩
    cases outs with
    | nil =>
      have h : U = [] := h
      subst h
      exact ⟨ρ, SV, rfl, hv.kp k, .refl _⟩
    | cons _ _ => exact h.elim
  | none :: r, _, _, _, _, _, SV, ρ, @AR.cons _ _ _ e es d ds v vs S T rd t, ha, hn, hf, hv => by
    have hf : (if frzD d = true then (match fill r ds ρ with | some l => some (d :: l) | none => none) else none) = some _ := hf
    split at hf
    · rename_i hz
      cases hfl : fill r ds ρ with
      | none => rw [hfl] at hf; cases hf
      | some l =>
        rw [hfl] at hf
        cases hf
        obtain ⟨T', R, a1, a2, a3, a4⟩ := call_args t ha hn hfl hv
        have := rd.frz hz
        subst this a3
        exact ⟨T', R, ⟨[], T', rd, fun _ => rfl, a1, rfl⟩, a2, rfl, a4⟩
    · cases hf
  | some i :: r, _, _, _, _, _, SV, ρ, @AR.io _ _ _ j es ds v vs T hs t, ha, hn, hf, hv => by
    have ha : (i == j && align r es) = true := ha
    rw [Bool.and_eq_true] at ha
    have hij : i = j := by simpa using ha.1
    subst hij
    have hn : (i :: ios r).Nodup := hn
    obtain ⟨hi, hn⟩ := List.nodup_cons.mp hn
    have hf : (match getV ρ i, fill r ds ρ with | some d, some l => some (d :: l) | _, _ => none) = some _ := hf
    cases hg : getV ρ i with
    | none => rw [hg] at hf; cases hf
    | some d =>
      cases hfl : fill r ds ρ with
      | none => rw [hg, hfl] at hf; cases hf
      | some l =>
        rw [hg, hfl] at hf
        cases hf
        obtain ⟨v', S1, R1, e1, e2, f⟩ := var_at hv hg
        rw [hs] at e1
        cases e1
        obtain ⟨SV2, v2, p2⟩ := f.out H σ .refl (fun _ _ => rfl) rfl
        obtain ⟨T', R, a1, a2, a3, a4⟩ := call_args t ha.2 hn ((fill_set hi).trans hfl) v2
        refine ⟨S1 ++ T', R, ⟨S1, T', e2, (fun z => by cases z), a1, rfl⟩, ?_, a3, fun H' outs U k h => ?_⟩
        · refine f.perm.trans ?_
          rw [List.append_assoc]
          exact (p2.symm.trans a2).append_left S1
        · cases outs with
          | nil => exact h.elim
          | cons o os =>
            obtain ⟨U1, U2, h1, h2, rfl⟩ := h
            obtain ⟨ρ', SV', b1, b2, b3⟩ := a4 H' os U2 k h2
            have hlen : i < ρ'.length := by
              have l1 := b2.length
              have l2 := hv.length
              have := (getV_some hg).2
              omega
            rw [wb_set hi] at b1
            cases hw : wb r os ρ with
            | none => rw [hw] at b1; cases b1
            | some ρ2 =>
              rw [hw] at b1
              cases b1
              obtain ⟨S3, R3, f3⟩ := b2.foc i hlen
              have n3 : S3 = [] := f3.nil (by rw [List.getElem?_set_self (by simpa using hlen)])
              subst n3
              obtain ⟨SV4, c1, c2⟩ := f3.set H' o v U1 .refl h1
              rw [List.set_set, set_same hs] at c1
              refine ⟨_, SV4, by rw [show wb (some i :: r) (o :: os) ρ = wb r os (ρ.set i (some o)) from rfl, wb_set hi, hw]; rfl, c1, c2.trans ?_⟩
              rw [List.append_assoc]
              exact (f3.perm.symm.trans b3).append_left U1
  | [], _, _, _, _, _, _, _, .cons _ _, ha, _, _, _ => by cases ha
  | [], _, _, _, _, _, _, _, .io _ _, ha, _, _, _ => by cases ha
  | none :: _, _, _, _, _, _, _, _, .nil, ha, _, _, _ => by cases ha
  | none :: _, _, _, _, _, _, _, _, .io _ _, ha, _, _, _ => by cases ha
  | some _ :: _, _, _, _, _, _, _, _, .nil, ha, _, _, _ => by cases ha
  | some _ :: _, _, _, _, _, _, _, _, .cons _ _, ha, _, _, _ => by cases ha
end Ly

namespace Ly
open PySem PySem.Spec L2
variable [Fns]
theorem AF_no {K : PySem.W.Frag} {H : Hp} : ∀ {slots : List (Option Nat)} {ds : List D} {vs : List V} {T : List Addr}, slots.all (·.isNone) = true → AF K H (slots.map (·.isSome)) ds vs T → T = []
  | [], [], [], _, _, h => h
  | none :: r, _ :: _, _ :: _, _, hs, h => by
    obtain ⟨S1, S2, _, e1, h, rfl⟩ := h
    rw [e1 rfl, AF_no (slots := r) (by simpa using hs) h]
    rfl
  | some _ :: _, _, _, _, hs, _ => by simp at hs
  | [], [], _ :: _, _, _, h => h.elim
  | [], _ :: _, _, _, _, h => h.elim
  | none :: _, [], _, _, _, h => h.elim
  | none :: _, _ :: _, [], _, _, h => h.elim
theorem OF_no {K : PySem.W.Frag} {H : Hp} : ∀ {slots : List (Option Nat)} {os : List D} {vs : List V} {T : List Addr} {ρ ρ' : Ev}, slots.all (·.isNone) = true → OF K H (slots.map (·.isSome)) os vs T → wb slots os ρ = some ρ' → T = [] ∧ ρ' = ρ
  | [], [], [], _, _, _, _, h, e => ⟨h, by cases e; rfl⟩
  | none :: r, os, _ :: vs, _, ρ, ρ', hs, h, e => OF_no (slots := r) (os := os) (vs := vs) (by simpa using hs) h e
  | some _ :: _, _, _, _, _, _, hs, _, _ => by simp at hs
  | [], [], _ :: _, _, _, _, _, h, _ => h.elim
  | [], _ :: _, _, _, _, _, _, h, _ => h.elim
  | none :: _, [], [], _, _, _, _, h, _ => h.elim
  | none :: _, _ :: _, [], _, _, _, _, h, _ => h.elim
section
variable {X : Cx} {C : Cfg} {W : WX} {pos : Pos} {e : Expr} {es : List Expr} {es' : Es}
/-- a def that may be called here, by its name -/
def FnG (C : Cfg) (X : Cx) (k : Nat) (x : Str) (io : List Bool) (sem : FSem) : Prop :=
  ∃ (f : Addr) (fd : FuncData) (ps : List Str), X.mg x = some (.ref f) ∧ FnOk X.prog X.w X.K X.mg X.base (L2.CX X.prog X.w) k f fd ps (spD C io sem) ∧ PySem.W.keepIn X.K (.ref f) = true ∧ Binds X.K fd ps []
theorem call_post {K : PySem.W.Frag} {SV SV1 SV' T R U : List Addr} {H H1 H' : Hp} {σ : St} {ρ1 ρ' : Ev} (e1 : EnvP K SV H σ ρ1 H1 SV1) (p : SV1.Perm (T ++ R)) (x : Ext T H1 H') (src : ∀ a ∈ U, a ∈ T ∨ H1 a = none) (nd : U.Nodup) (v : Vars K H' ρ' σ SV') (p' : SV'.Perm (U ++ R)) :
    EnvP K SV1 H1 σ ρ' H' SV' := by
  have ndp := p.nodup_iff.mp e1.nd
  have ow : Owns H1 SV1 := e1.vars.owns
  refine ⟨v, p'.nodup_iff.mpr (List.nodup_append.mpr ⟨nd, (List.nodup_append.mp ndp).2.1, fun a ha b hb e => ?_⟩), fun a ha => ?_, fun a o e hs => x a o e fun z => hs (p.mem_iff.mpr (List.mem_append_left _ z))⟩
  · subst e
    rcases src a ha with z | z
    · exact (List.nodup_append.mp ndp).2.2 a z a hb rfl
    · obtain ⟨o, eo, _⟩ := ow a (p.mem_iff.mpr (List.mem_append_right _ hb))
      rw [z] at eo
      cases eo
  · rcases List.mem_append.mp (p'.mem_iff.mp ha) with h | h
    · exact (src a h).imp (fun z => p.mem_iff.mpr (List.mem_append_left _ z)) id
    · exact .inl (p.mem_iff.mpr (List.mem_append_right _ h))
theorem sp_call {slots : List (Option Nat)} {sem : FSem} {SV SV1 S : List Addr} {H H1 : Hp} {σ : St} {ρ ρ1 : Ev} {ds : List D} {vs : List V} {Q : VK} (hal : align slots es' = true) (hnd : (ios slots).Nodup) (e1 : EnvP C.K SV H σ ρ1 H1 SV1) (r1 : ResA C.K SV H σ SV1 H1 es' ds vs S) (q1 : quiets es' = true → Qt SV H ρ ρ1 H1 SV1)
    (h : tK C W σ SV H (RD C.K SV H ρ true (slots.all (·.isNone) && quiets es')) (callOut slots sem ds ρ1) Q) : spD C (slots.map (·.isSome)) sem vs H1 Q (WE W σ) := by
  cases hf : fill slots ds ρ1 with
  | none =>
    unfold callOut at h
    rw [hf] at h
    exact h.elim
  | some ds' =>
    obtain ⟨T, R, a1, a2, a3, a4⟩ := call_args r1.rep hal hnd hf e1.vars
    have ndp := a2.nodup_iff.mp e1.nd
    have kR : ∀ {H' : Hp}, Ext T H1 H' → Kp R H1 H' := fun x => x.kp a1.owns fun a ha hb => (List.nodup_append.mp ndp).2.2 a hb a ha rfl
    refine ⟨ds', T, a1, (List.nodup_append.mp ndp).1, ?_⟩
    have h : tK C W σ SV H (RD C.K SV H ρ true (slots.all (·.isNone) && quiets es')) (match sem ds' with
      | .ret d outs => (match wb slots outs ρ1 with
        | some ρ' => .ok d ρ'
        | none => .bad)
      | .exc x outs => (match wb slots outs ρ1 with
        | some ρ' => .exc x ρ'
        | none => .bad)
      | .bad => .bad) Q := by
      unfold callOut at h
      rw [hf] at h
      exact h
    cases hs : sem ds' with
    | bad =>
      rw [hs] at h
      exact h
    | exc x outs =>
      rw [hs] at h
      intro cls dd H' U xt hO nd src er
      obtain ⟨ρ', SV', w1, v', p'⟩ := a4 H' outs U (kR xt) hO
      have h : tK C W σ SV H (RD C.K SV H ρ true (slots.all (·.isNone) && quiets es')) (match wb slots outs ρ1 with | some ρ' => .exc x ρ' | none => .bad) Q := h
      rw [w1] at h
      exact h cls dd H' SV' (e1.trans (call_post e1 a2 xt src nd v' p')) er
    | ret d outs =>
      rw [hs] at h
      intro v H' T' U xt rep hO nd src
      obtain ⟨ρ', SV', w1, v', p'⟩ := a4 H' outs U (kR xt) hO
      have h9 : tK C W σ SV H (RD C.K SV H ρ true (slots.all (·.isNone) && quiets es')) (match wb slots outs ρ1 with | some ρ' => .ok d ρ' | none => .bad) Q := h
      rw [w1] at h9
      obtain ⟨n1, n2, n3⟩ := List.nodup_append.mp nd
      have srcT : ∀ a ∈ T', a ∈ SV1 ∨ H1 a = none := fun a ha => (src a (List.mem_append_left _ ha)).imp (fun z => a2.mem_iff.mpr (List.mem_append_left _ z)) id
      by_cases hq : slots.all (·.isNone) = true
      · obtain ⟨rfl, rfl⟩ := OF_no hq hO w1
        have := AF_no hq a1
        subst this
        have en := e1.ext0 xt
        have fr : ∀ a ∈ T', H1 a = none := fun a ha => by
          rcases src a (List.mem_append_left _ ha) with z | z
          · exact absurd z List.not_mem_nil
          · exact z
        obtain ⟨f1, f2⟩ := fresh_sep e1 n1 fr
        exact h9 v H' SV1 (e1.trans en) ⟨⟨T', rep, (fun _ => f1), (fun _ => f2)⟩, fun q => (q1 (Bool.and_eq_true_iff.mp q).2).ext xt⟩
      · have cp := call_post e1 a2 xt (fun a ha => src a (List.mem_append_right _ ha)) n2 v' p'
        refine h9 v H' SV' (e1.trans cp) ⟨⟨T', rep, (fun _ => src_trans e1 srcT), (fun _ => ?_)⟩, fun q => absurd (Bool.and_eq_true_iff.mp q).1 hq⟩
        refine List.nodup_append.mpr ⟨n1, cp.nd, fun a ha b hb e => ?_⟩
        subst e
        rcases List.mem_append.mp (p'.mem_iff.mp hb) with z | z
        · exact n3 a ha a z rfl
        · rcases src a (List.mem_append_left _ ha) with y | y
          · exact (List.nodup_append.mp ndp).2.2 a y a z rfl
          · obtain ⟨o, eo, _⟩ := e1.vars.owns a (a2.mem_iff.mpr (List.mem_append_right _ z))
            rw [y] at eo
            cases eo
theorem se_call {slots : List (Option Nat)} {j k : Nat} {x : Str} {p : Pos} (tk : Takes X W) (G : FnG C X k x (slots.map (·.isSome)) (Fns.F j)) (hr : Room k X.A) (hg : Gl X x) (hal : align slots es' = true) (hnd : (ios slots).Nodup) (ha : PA X (e :: es) (tA C W es')) (hdb : (x == ("__debug__" : Str)) = false)
    (he : starEach (e :: es) X.env = (false, eval e X.env) :: starEach es X.env) (hpl : (backTo pos (starEach es X.env)).any (·.1) = false) : PE X (.Call (.Name x p) (e :: es) [] pos) (tD C W (.call slots j es')) := by
  obtain ⟨f, fd, ps, hm, F, hk, hb⟩ := G
  refine pemono (pe_callS F hr hg hm hk hb (fun σ => passAt tk σ) ha hdb he hpl) fun σ H Q h => ?_
  obtain ⟨ρ, SV, hv, nd, h⟩ := h
  have h : tK C W σ SV H (RD C.K SV H ρ true (slots.all (·.isNone) && quiets es')) ((evs es' ρ).bind fun ds ρ => callOut slots (Fns.F j) ds ρ) Q := h
  exact ⟨ρ, SV, hv, nd, tK_bind0 h fun ds ρ1 vs H1 SV1 e1 ⟨⟨S, r1⟩, q1⟩ h1 => sp_call hal hnd e1 r1 q1 h1⟩
end
end Ly

namespace Ly
open PySem PySem.Spec L2
variable [Fns]
section
variable {X : Cx}
theorem cd_len : CallR X (.builtin "len") (rC1 X.K O1.len.sem) := by
  intro pins s σ H xs us Q I rx h
  obtain ⟨x, rfl, d, z, S, r, hz, k⟩ := h
  cases d with
  | tup ds =>
    cases hz
    obtain ⟨_, a, vs, rfl, q, r⟩ := r
    exact call_len_seq pins s σ H _ us Q I rx ⟨a, vs, rfl, .inr q, by rw [← r.length]; exact kInt k⟩
  | lst o ds =>
    cases hz
    obtain ⟨a, vs, T, rfl, q, r, _⟩ := lst_sq r
    exact call_len_seq pins s σ H _ us Q I rx ⟨a, vs, rfl, .inl (.inl q), by rw [← r.length]; exact kInt k⟩
  | scr ns =>
    cases hz
    obtain ⟨_, a, rfl, q⟩ := r
    exact call_len_seq pins s σ H _ us Q I rx ⟨a, _, rfl, .inl q.sq, by rw [List.length_map]; exact kInt k⟩
  | str y =>
    change (if y.length ≤ lim then some (D.int y.length) else none) = some z at hz
    split at hz
    · rename_i hc
      cases hz
      exact call_len_str pins s σ H _ us Q I rx ⟨y, by rw [r.1], by rw [← lim_eq]; exact hc, kInt k⟩
    · cases hz
  | dk o ks ds =>
    cases o with
    | false => cases hz
    | true =>
      cases hz
      obtain ⟨a, vs, S', rfl, q, l, r, _⟩ := r
      exact call_lenD pins s σ H _ us Q I rx ⟨a, _, rfl, q, by rw [List.length_zip, ← l, Nat.min_self]; exact kInt k⟩
  | _ => cases hz
theorem kids_some {d : D} {xs : List D} (h : kids d = some xs) : d = .tup xs ∨ ∃ o, d = .lst o xs ∧ (o = false ∨ xs.all frzD = true) := by
  cases d with
  | tup ys => cases h; exact .inl rfl
  | lst o ys =>
    cases o with
    | false => cases h; exact .inr ⟨_, rfl, .inl rfl⟩
    | true =>
      change (if ys.all frzD = true then some ys else none) = some xs at h
      split at h
      · rename_i hc; cases h; exact .inr ⟨_, rfl, .inr hc⟩
      · cases h
  | _ => cases h
theorem cd_tuple : CallR X (.type "tuple") (rC1 X.K O1.tuple.sem) := by
  intro pins s σ H xs us Q I rx h
  obtain ⟨x, rfl, d, z, S, r, hz, k⟩ := h
  change (match kids d with | some xs => some (D.tup xs) | none => none) = some z at hz
  cases hk : kids d with
  | none => rw [hk] at hz; cases hz
  | some ds =>
    rw [hk] at hz
    cases hz
    rcases kids_some hk with rfl | ⟨o, rfl, hc⟩
    · obtain ⟨_, a, vs, rfl, q, r⟩ := r
      exact call_tuple_of pins s σ H _ us Q I rx ⟨a, vs, rfl, .inr ⟨q, k0 k ⟨rfl, a, vs, rfl, q, r⟩⟩⟩
    · obtain ⟨a, vs, T, rfl, q, r, f⟩ := lst_sq r
      have := f hc
      subst this
      exact call_tuple_of pins s σ H _ us Q I rx ⟨a, vs, rfl, .inl ⟨.inl q, kTup k r⟩⟩
theorem cd_list : CallR X (.type "list") (rC1 X.K O1.list.sem) := by
  intro pins s σ H xs us Q I rx h
  obtain ⟨x, rfl, d, z, S, r, hz, k⟩ := h
  change (match kids d with | some xs => some (D.lst true xs) | none => none) = some z at hz
  cases hk : kids d with
  | none => rw [hk] at hz; cases hz
  | some ds =>
    rw [hk] at hz
    cases hz
    rcases kids_some hk with rfl | ⟨o, rfl, hc⟩
    · obtain ⟨_, a, vs, rfl, q, r⟩ := r
      exact call_list_of pins s σ H _ us Q I rx ⟨a, vs, rfl, .inr q, kLst k r⟩
    · obtain ⟨a, vs, T, rfl, q, r, f⟩ := lst_sq r
      have := f hc
      subst this
      exact call_list_of pins s σ H _ us Q I rx ⟨a, vs, rfl, .inl (.inl q), kLst k r⟩
theorem cd_int : CallR X (.type "int") (rC1 X.K O1.int.sem) := by
  intro pins s σ H xs us Q I rx h
  obtain ⟨x, rfl, d, z, S, r, hz, k⟩ := h
  cases d with
  | int i => cases hz; exact call_int1 pins s σ H _ us Q I rx (.inl ⟨i, by rw [r.1], kInt k⟩)
  | bl b => cases hz; exact call_int1 pins s σ H _ us Q I rx (.inr ⟨b, by rw [r.1], kInt k⟩)
  | _ => cases hz
theorem cd_abs : CallR X (.builtin "abs") (rC1 X.K O1.abs.sem) := by
  intro pins s σ H xs us Q I rx h
  obtain ⟨x, rfl, d, z, S, r, hz, k⟩ := h
  cases d with
  | int i => cases hz; exact call_abs pins s σ H _ us Q I rx ⟨i, by rw [r.1], kInt k⟩
  | _ => cases hz
theorem cd_str : CallR X (.type "str") (rC1 X.K O1.str.sem) := by
  intro pins s σ H xs us Q I rx h
  obtain ⟨x, rfl, d, z, S, r, hz, k⟩ := h
  cases d with
  | int i =>
    change (if -1000000000000000000 < i ∧ i < 1000000000000000000 then some (D.str (toString i)) else none) = some z at hz
    split at hz
    · rename_i hc
      cases hz
      refine call_str_int pins s σ H _ us Q I rx ⟨i, by rw [r.1], ?_, kStr k⟩
      have : i.natAbs.log2 < 64 := PySem.Flt.log2_lt_of (k := 64) (by decide) (by omega)
      omega
    · cases hz
  | _ => cases hz
theorem ints_rep {K : PySem.W.Frag} {H : Hp} : ∀ {ds : List D} {vs : List V} {S : List Addr} {r : List Int}, Reps K H ds vs S → ints? ds = some r → vs = r.map V.int
  | [], _, _, _, h, e => by
    obtain ⟨rfl, _⟩ := h
    cases e
    rfl
  | d :: ds, _, _, r, h, e => by
    obtain ⟨v, t, S1, S2, rfl, q1, q2, rfl⟩ := h
    cases d with
    | int i =>
      change (match ints? ds with | some r => some (i :: r) | none => none) = some r at e
      cases hi : ints? ds with
      | none => rw [hi] at e; cases e
      | some l =>
        rw [hi] at e
        cases e
        rw [ints_rep q2 hi, q1.1]
        rfl
    | _ => cases e
theorem cd_sum (hc : X.calm = true) : CallR X (.builtin "sum") (rC1 X.K O1.sum.sem) := by
  intro pins s σ H xs us Q I rx h
  obtain ⟨x, rfl, d, z, S, r, hz, k⟩ := h
  cases d with
  | lst o ds =>
    change (match ints? ds with | some r => some (D.int r.sum) | none => none) = some z at hz
    cases hi : ints? ds with
    | none => rw [hi] at hz; cases hz
    | some l =>
      rw [hi] at hz
      cases hz
      obtain ⟨a, vs, T, rfl, q, r, _⟩ := lst_sq r
      have := ints_rep r hi
      subst this
      exact cr_sum hc pins s σ H _ us Q I rx ⟨a, l, rfl, .inl q, kInt k⟩
  | _ => cases hz
theorem foldl_min (i : Int) : ∀ r : List Int, r.foldl min i ∈ i :: r ∧ ∀ y ∈ i :: r, r.foldl min i ≤ y := fun r => by
  induction r generalizing i with
  | nil => simp
  | cons j r ih =>
    obtain ⟨h1, h2⟩ := ih (min i j)
    rw [List.foldl_cons]
    refine ⟨?_, fun y hy => ?_⟩
    · rcases List.mem_cons.mp h1 with h | h
      · rw [h]
        by_cases c : i ≤ j
        · rw [Int.min_def, if_pos c]; simp
        · rw [Int.min_def, if_neg c]; simp
      · exact List.mem_cons_of_mem _ (List.mem_cons_of_mem _ h)
    · have hm := h2 (min i j) List.mem_cons_self
      rcases List.mem_cons.mp hy with h | h
      · omega
      · rcases List.mem_cons.mp h with h | h
        · omega
        · exact h2 y (List.mem_cons_of_mem _ h)
theorem foldl_max (i : Int) : ∀ r : List Int, r.foldl max i ∈ i :: r ∧ ∀ y ∈ i :: r, y ≤ r.foldl max i := fun r => by
  induction r generalizing i with
  | nil => simp
  | cons j r ih =>
    obtain ⟨h1, h2⟩ := ih (max i j)
    rw [List.foldl_cons]
    refine ⟨?_, fun y hy => ?_⟩
    · rcases List.mem_cons.mp h1 with h | h
      · rw [h]
        by_cases c : i ≤ j
        · rw [Int.max_def, if_pos c]; simp
        · rw [Int.max_def, if_neg c]; simp
      · exact List.mem_cons_of_mem _ (List.mem_cons_of_mem _ h)
    · have hm := h2 (max i j) List.mem_cons_self
      rcases List.mem_cons.mp hy with h | h
      · omega
      · rcases List.mem_cons.mp h with h | h
        · omega
        · exact h2 y (List.mem_cons_of_mem _ h)
theorem cd_min (hc : X.calm = true) : CallR X (.builtin "min") (rC1 X.K O1.minL.sem) := by
  intro pins s σ H xs us Q I rx h
  obtain ⟨x, rfl, d, z, S, r, hz, k⟩ := h
  cases d with
  | lst o ds =>
    change (match ints? ds with | some (i :: r) => some (D.int (r.foldl min i)) | _ => none) = some z at hz
    cases hi : ints? ds with
    | none => rw [hi] at hz; cases hz
    | some l =>
      rw [hi] at hz
      cases l with
      | nil => cases hz
      | cons i l =>
        cases hz
        obtain ⟨a, vs, T, rfl, q, r, _⟩ := lst_sq r
        have := ints_rep r hi
        subst this
        refine cr_min hc pins s σ H _ us Q I rx ⟨a, i :: l, rfl, .inl q, by simp, fun m hm hy => ?_⟩
        obtain ⟨h1, h2⟩ := foldl_min i l
        have := hy _ h1
        have := h2 m hm
        rw [show m = l.foldl min i by omega]
        exact kInt k
  | _ => cases hz
theorem cd_max (hc : X.calm = true) : CallR X (.builtin "max") (rC1 X.K O1.maxL.sem) := by
  intro pins s σ H xs us Q I rx h
  obtain ⟨x, rfl, d, z, S, r, hz, k⟩ := h
  cases d with
  | lst o ds =>
    change (match ints? ds with | some (i :: r) => some (D.int (r.foldl max i)) | _ => none) = some z at hz
    cases hi : ints? ds with
    | none => rw [hi] at hz; cases hz
    | some l =>
      rw [hi] at hz
      cases l with
      | nil => cases hz
      | cons i l =>
        cases hz
        obtain ⟨a, vs, T, rfl, q, r, _⟩ := lst_sq r
        have := ints_rep r hi
        subst this
        refine cr_max hc pins s σ H _ us Q I rx ⟨a, i :: l, rfl, .inl q, by simp, fun m hm hy => ?_⟩
        obtain ⟨h1, h2⟩ := foldl_max i l
        have := hy _ h1
        have := h2 m hm
        rw [show m = l.foldl max i by omega]
        exact kInt k
  | _ => cases hz

/-! ### two arguments -/
def rC2 (K : PySem.W.Frag) (g : D → D → Option D) : List V → Hp → VK → Prop := fun xs H Q => ∃ x y, xs = [x, y] ∧ rD K g x y H Q
variable {C : Cfg} {W : WX} {pos : Pos}
theorem se_cb2 {a b : Expr} {a' b' : E} {o : O2} {x : Str} {id : String} {p : Pos} (hK : X.K = C.K) (hc : CallR X (.builtin id) (rC2 X.K o.sem)) (hg : Gl X x) (hm : X.mg x = none) (hv : bootBuiltins x = some (.builtin id)) (ha : PE X a (tD C W a')) (hb : PE X b (tD C W b')) (hop : own (.o2 o a' b') = true) (hs : (own a' || quiet b') = true)
    (hn : x ≠ "__name__") (hdb : (x == ("__debug__" : Str)) = false) (he : starEach [a, b] X.env = (false, eval a X.env) :: starEach [b] X.env) (he2 : starEach [b] X.env = (false, eval b X.env) :: starEach [] X.env) (hpl : (backTo pos (starEach [b] X.env)).any (·.1) = false) : PE X (.Call (.Name x p) [a, b] [] pos) (tD C W (.o2 o a' b')) := by
  refine pemono (pe_callB (by rw [← hK]; exact hc : CallR X (.builtin id) (rC2 C.K o.sem)) hg hm hv (pa_cons ha (pa_cons hb pa_nil he2) he) hn hdb he hpl) fun σ H Q h => ?_
  obtain ⟨ρ, SV, hv, nd, h⟩ := tD_o2 hop hs h
  refine ⟨ρ, SV, hv, nd, ?_⟩
  cases m : ev a' ρ with
  | bad => rw [m] at h; exact h
  | exc x ρ' => rw [m] at h; exact h
  | ok d ρ1 =>
    rw [m] at h
    intro v H1 SV1 e1 r1
    obtain ⟨ρ2, SV2, hv2, nd2, h2⟩ := h v H1 SV1 e1 r1
    refine ⟨ρ2, SV2, hv2, nd2, ?_⟩
    cases m2 : ev b' ρ2 with
    | bad => rw [m2] at h2; exact h2
    | exc x ρ' => rw [m2] at h2; exact h2
    | ok d2 ρ3 => rw [m2] at h2; exact fun w H2 SV3 e2 r2 => ⟨v, w, rfl, h2 w H2 SV3 e2 r2⟩
theorem cd_min2 (hc : X.calm = true) : CallR X (.builtin "min") (rC2 X.K O2.min2.sem) := by
  intro pins s σ H xs us Q I rx h
  obtain ⟨x, y, rfl, d, e, z, S, T, r1, r2, hz, k⟩ := h
  obtain ⟨i, j, rfl, rfl, rfl⟩ := I2_some hz
  exact call_min2 hc pins s σ H _ us Q I rx ⟨i, j, by rw [r1.1, r2.1], kInt k⟩
theorem cd_max2 (hc : X.calm = true) : CallR X (.builtin "max") (rC2 X.K O2.max2.sem) := by
  intro pins s σ H xs us Q I rx h
  obtain ⟨x, y, rfl, d, e, z, S, T, r1, r2, hz, k⟩ := h
  obtain ⟨i, j, rfl, rfl, rfl⟩ := I2_some hz
  exact call_max2 hc pins s σ H _ us Q I rx ⟨i, j, by rw [r1.1, r2.1], kInt k⟩
end
end Ly

namespace Ly
open PySem PySem.Spec L2
variable [Fns]

/-- an iterator that hands out new tuples; Js: what stands of its sources; It i vs: its i-th tuple -/
def JT (n : Nat) (Js : Hp → Prop) (Itm : Nat → List V → Prop) : L2.It :=
  ⟨fun i H => Js H ∧ i < n, fun i H v H' => ∃ T vs, v = .ref T ∧ H T = none ∧ H' = upd H T (.tup vs) ∧ Itm i vs, fun i H => Js H ∧ i = n⟩
theorem turn_T {P : Program} {w : World} {K : PySem.W.Frag} {elts : List Expr} {kk : Nat} {tpos : Pos} {I : Addr} {fpT wr : List Addr} {n : Nat} {Js : Hp → Prop} {Itm : Nat → List V → Prop} {tn : Nat → Heap → Prop}
    (mem : I ∈ fpT) (hwr : ∀ b ∈ wr, b ∈ fpT) (obj : ∀ i h, tn i h → ∀ b ∈ fpT, ∃ o, h.get? b = some o ∧ ∀ v, o.data ≠ .cell v) (keep : ∀ i h h', tn i h → (∀ b ∈ fpT, ∀ o, h.get? b = some o → h'.get? b = some o) → tn i h')
    (slf : ∀ (A : Around) (i : Nat) (s : Shared) (Q : Value → Shared → Prop) (E : Value → Shared → Prop), tn i s.heap → Q (.ref I) s → wpAny (model P w) A (pyIter (.ref I)) Q E s) (small : ∀ i vs, Itm i vs → vs.length ≤ sizeLine)
    (src : ∀ (X : Cx), X.prog = P → X.w = w → X.K = K → X.calm = true → ∀ (i : Nat) (pins : List (Addr × Obj)) (s : Shared) (σ : St) (H : Hp), Inv X pins σ H s → (∀ b ∈ fpT, FpOk X pins H b) → tn i s.heap → Js H →
      ∃ (fp : List Addr) (Pt : Nat → Array Value → Prop) (St' : Nat → Heap → Prop) (Mid : Nat → Addr → Heap → Prop), WalksT P w X.A I fp wr n Pt St' Mid ∧ St' i s.heap ∧ (∀ h', St' (i + 1) h' → tn (i + 1) h') ∧ ∀ vals, Pt i vals → ∃ vs, Vals vs vals.toList ∧ Itm i vs) :
    Turn P w K (.Tuple elts kk tpos) (JT n Js Itm) fpT I tn where
  mem := mem
  obj := obj
  keep := keep
  item := by
    intro X hP hw hK hc i pins s σ H E Iv hf st hg
    obtain ⟨fp, Pt, St', Mid, W, st', up, itm⟩ := src X hP hw hK hc i pins s σ H Iv hf st hg.1
    subst hP hw hK
    have lt : ∀ b ∈ wr, b < s.heap.objs.size := fun b hb => by
      obtain ⟨o, ho, _⟩ := obj i s.heap st b (hwr b hb)
      exact Heap.lt_size ho
    refine W.item i s _ _ hg.2 st' fun T vals h' tk hPt hT htup hmid hk => ?_
    refine ⟨.ref T, rfl, W.go elts kk tpos i T { s with heap := h', toks := tk } _ _ hmid fun h'' hst'' hk'' => ?_⟩
    obtain ⟨vs, rv, im⟩ := itm vals hPt
    have hTw : T ∉ wr := W.apart i T h' hmid
    have htup2 : h''.IsTuple T vals := htup.at fun o e => hk'' T o hTw e
    have new : ObjOk X.prog X.w (upd H T (.tup vs)) h'' T (.tup vs) := ⟨small i vs im, vals.toList, rv, by rw [Array.toArray_toList]; exact htup2⟩
    have I1 : Inv X pins σ (upd H T (.tup vs)) { s with heap := h'', toks := tk } := Iv.turnedNew (ch := wr) (fun b o hb e => hk'' b o hb (hk b o hb e)) (fun b hb => hf b (hwr b hb)) hT new
    refine ⟨.ref T, _, I1, rfl, ⟨T, vs, rfl, Iv.hok.fresh hT, rfl, im⟩, up h'' hst'', fun b hb => ?_⟩
    obtain ⟨o, ho, _⟩ := obj i s.heap st b hb
    rw [upd_ne (Nat.ne_of_lt (Nat.lt_of_lt_of_le (Heap.lt_size ho) hT))]
    exact (hf b hb).1
  done := by
    intro X hP hw hK hc i pins s σ H E Iv hf st hg
    obtain ⟨fp, Pt, St', Mid, W, st', up, itm⟩ := src X hP hw hK hc i pins s σ H Iv hf st hg.1
    subst hP hw hK
    have st'' : St' n s.heap := by rw [← hg.2]; exact st'
    exact W.done s _ _ st'' fun h' tk hk => ⟨rfl, Iv.turnedL (ch := wr) (fun b o hb e => hk b o hb e) (fun b hb => hf b (hwr b hb))⟩
  self := slf

/-! ### a source by itself -/
/-- a value that is walked, as it stands: a list, a tuple, a text -/
inductive Sr where
  | L (a : Addr)
  | T (a : Addr)
  | S (x : Str) (t : Tok)
def Sr.val : Sr → Value
  | .L a => .ref a
  | .T a => .ref a
  | .S x t => .str x t
def Sr.obj : Sr → Obj
  | .L a => { cls := .type "list_iterator", data := .fields #[.ref a, .int 0 0] }
  | .T a => { cls := .type "tuple_iterator", data := .fields #[.ref a, .int 0 0] }
  | .S x t => { cls := .type (strIterType x), data := .fields #[.str x t, .int 0 0] }
/-- its items, in the abstract heap -/
def Sr.ok (K : PySem.W.Frag) (H : Hp) (vs : List V) : Sr → Prop
  | .L a => SqL K H a vs
  | .T a => SqT K H a vs
  | .S x _ => vs = x.cps.toList.map fun c => .str ⟨#[c]⟩
/-- its iterator at it, ahead of turn i -/
def Sr.at_ (it : Addr) (i : Nat) (h : Heap) : Sr → Prop
  | .L a => h.IsListIter it a i
  | .T a => h.IsTupleIter it a i
  | .S x t => h.IsStrIter it (strIterType x) x t i
def Sr.fp (it : Addr) : Sr → List Addr
  | .L a => [it, a]
  | .T a => [it, a]
  | .S _ _ => [it]
def Sr.st (h : Heap) (its : Array Value) : Sr → Prop
  | .L a => h.IsList a its
  | .T a => h.IsTuple a its
  | .S _ _ => True
def Sr.item (i : Nat) (its : Array Value) (v : Value) : Sr → Prop
  | .S x _ => ∃ c u, x.cps[i]? = some c ∧ v = .str ⟨#[c]⟩ u
  | _ => its[i]? = some v
theorem Sr.obj0 {it : Addr} {h : Heap} : ∀ s : Sr, h.get? it = some s.obj → s.at_ it 0 h
  | .L a, e => ⟨_, e, rfl, rfl⟩
  | .T a, e => ⟨_, e, rfl, rfl⟩
  | .S x t, e => ⟨_, e, rfl, rfl⟩
theorem Sr.atObj {it : Addr} {i : Nat} {h : Heap} : ∀ s : Sr, s.at_ it i h → ∃ o, h.get? it = some o ∧ (∃ c vs, o.cls = .type c ∧ o.data = .fields vs ∧ c ≠ "list" ∧ c ≠ "tuple")
  | .L a, ⟨o, e, c, d⟩ => ⟨o, e, _, _, c, d, by decide, by decide⟩
  | .T a, ⟨o, e, c, d⟩ => ⟨o, e, _, _, c, d, by decide, by decide⟩
  | .S x t, ⟨o, e, c, d⟩ => ⟨o, e, _, _, c, d, by unfold strIterType; split <;> decide, by unfold strIterType; split <;> decide⟩
theorem Sr.keep {it : Addr} {i : Nat} {h h' : Heap} (k : ∀ o, h.get? it = some o → h'.get? it = some o) : ∀ s : Sr, s.at_ it i h → s.at_ it i h'
  | .L a, e => e.at k
  | .T a, e => e.at k
  | .S x t, ⟨o, e, c, d⟩ => ⟨o, k o e, c, d⟩
section
variable {X : Cx} {pins : List (Addr × Obj)} {σ : St} {H : Hp} {s : Shared}
/-- a source in the machine -/
theorem Sr.there (I : Inv X pins σ H s) {vs : List V} : ∀ sr : Sr, sr.ok X.K H vs → ∃ its : Array Value, sr.st s.heap its ∧ Begins sr.val sr.obj (fun h => sr.st h its) ∧ (∀ i v, sr.item i its v → ∃ x, vs[i]? = some x ∧ RelV x v) ∧
    (match sr with | .S x _ => x.cps.size | _ => its.size) = vs.length
  | .L a, h => by
    obtain ⟨its, r, p, hz⟩ := I.list h
    refine ⟨its.toArray, p.isList, begins_list a its.toArray, fun i v e => ?_, by simp [r.length]⟩
    have e : its[i]? = some v := by simpa [Sr.item] using e
    obtain ⟨hi, ei⟩ := List.getElem?_eq_some_iff.mp e
    obtain ⟨u, e1, e2⟩ := r.get (List.getElem?_eq_getElem (show i < vs.length by rw [r.length]; exact hi))
    rw [e] at e1
    cases e1
    exact ⟨_, List.getElem?_eq_getElem _, e2⟩
  | .T a, h => by
    obtain ⟨its, r, p, hz⟩ := I.tuple h
    refine ⟨its.toArray, p, begins_tuple a its.toArray, fun i v e => ?_, by simp [r.length]⟩
    have e : its[i]? = some v := by simpa [Sr.item] using e
    obtain ⟨hi, ei⟩ := List.getElem?_eq_some_iff.mp e
    obtain ⟨u, e1, e2⟩ := r.get (List.getElem?_eq_getElem (show i < vs.length by rw [r.length]; exact hi))
    rw [e] at e1
    cases e1
    exact ⟨_, List.getElem?_eq_getElem _, e2⟩
  | .S x t, h => by
    have h : vs = x.cps.toList.map fun c => V.str ⟨#[c]⟩ := h
    subst h
    refine ⟨#[], trivial, begins_text x t, fun i v e => ?_, by simp⟩
    obtain ⟨c, u, ec, rfl⟩ := e
    refine ⟨.str ⟨#[c]⟩, ?_, u, rfl⟩
    rw [List.getElem?_map, Array.getElem?_toList, ec]
    rfl
theorem Sr.draws (hh : X.A.in1.handled = none) {its : Array Value} {it : Addr} {vs : List V} (hn : ∀ sr : Sr, (match sr with | .S x _ => x.cps.size | _ => its.size) = (match sr with | .S x _ => x.cps.size | _ => its.size)) : ∀ sr : Sr, (∀ a, sr = .L a ∨ sr = .T a → a ≠ it) →
    Draws X.prog X.w X.A.in1 it (sr.fp it) (match sr with | .S x _ => x.cps.size | _ => its.size) (fun i v => sr.item i its v) (fun i h => sr.at_ it i h ∧ sr.st h its)
  | .L a, h => Draws.list hh it a (h a (.inl rfl)) its
  | .T a, h => Draws.tuple hh it a (h a (.inr rfl)) its
  | .S x t, _ => by
    have D := Draws.text (prog := X.prog) (w := X.w) hh it x t
    exact ⟨fun i h st => D.live i h st.1, fun i h h' st k => ⟨D.frame i h h' st.1 k, trivial⟩, fun i s Q E hi st hQ => D.item i s Q E hi st.1 fun x h' tk p st' sb => hQ x h' tk p ⟨st', trivial⟩ sb, fun s Q E st hE => D.done s Q E st.1 hE⟩
theorem Sr.ne {sr : Sr} {its : Array Value} {it : Addr} {h : Heap} (st : sr.st h its) (at_ : ∃ o, h.get? it = some o ∧ (∃ c vs, o.cls = .type c ∧ o.data = .fields vs ∧ c ≠ "list" ∧ c ≠ "tuple")) : ∀ a, sr = .L a ∨ sr = .T a → a ≠ it := fun a e q => by
  subst q
  obtain ⟨o, ho, c, vs, hc, _, h1, h2⟩ := at_
  rcases e with rfl | rfl
  · obtain ⟨o', ho', hc', _⟩ := (show h.IsList a its from st)
    rw [ho] at ho'
    cases ho'
    rw [hc] at hc'
    exact h1 (by simpa using hc')
  · obtain ⟨o', ho', hc', _⟩ := (show h.IsTuple a its from st)
    rw [ho] at ho'
    cases ho'
    rw [hc] at hc'
    exact h2 (by simpa using hc')
theorem handled_in1 {A : Around} (h : A.handled = none) : A.in1.handled = none := h
end
end Ly

namespace Ly
open PySem PySem.Spec L2
variable [Fns]
open Sem (wp)
theorem meets_enum1 {v : Value} {o : Obj} {H : Heap → Prop} (B : Begins v o H) :
    Meets (Builtin.«enumerate.__new__» ⟨[.type "enumerate", v], []⟩) (fun _ R s => H s.heap ∧
      R (.ok (.ret (.ref (s.heap.push o).objs.size))) { s with heap := (s.heap.push o).push { cls := .type "enumerate", data := .fields #[.none, .bool false, .ref s.heap.objs.size, rawInt 0, .none, .none] } }) :=
  .of_wp fun prog w A R s h => by
    obtain ⟨hp, g, d, tk, os⟩ := s; obtain ⟨h1, h⟩ := h
    have hsub := sub_enumerate
    have q1 : ∀ {A' : Around} {E : Value → Shared → Prop} {Q : Value → Shared → Prop}, Q (.ref hp.objs.size) ⟨hp.push o, g, d, tk, os⟩ → wpAny (model prog w) A' (pyIter v) Q E ⟨hp, g, d, tk, os⟩ :=
      fun q => B.iter prog w _ _ ⟨hp, g, d, tk, os⟩ _ h1 q
    wp_walk using q1
    refine wpAny_stack_any fun st => wpAny_pure ?_
    split
    · rename_i c _ _ _ _ _
      cases (c == Value.type "enumerate")
      · wp_walk using q1
        exact ⟨_, rfl, h⟩
      · wp_walk using q1
        exact ⟨_, rfl, h⟩
    · wp_walk using q1
      exact ⟨_, rfl, h⟩
theorem enum_begins1 {prog : Program} {w : World} {A : Around} {E : Value → Shared → Prop} {s : Shared} {v : Value} {o : Obj} {H : Heap → Prop} {Q : Value → Shared → Prop} (B : Begins v o H) (h1 : H s.heap)
    (h : ∀ h', IsEnum h' (s.heap.objs.size + 1) s.heap.objs.size 0 .none → h'.get? s.heap.objs.size = some o → h'.objs.size = s.heap.objs.size + 2 →
      (∀ b o, s.heap.get? b = some o → h'.get? b = some o) → Q (.ref (s.heap.objs.size + 1)) { s with heap := h' }) :
    wpAny (model prog w) A (call (.type "enumerate") [v]) Q E s := by
  refine callType_new F.called_enumerate (by decide) (F.typeCall_enumerate_1 _) (F.newCall_enumerate_1 _) (fun obj => F.args_object_init_2 obj _) F.entry_enumerate_new (meets_enum1 B) ⟨h1, ?_⟩
  have hz : (s.heap.push o).objs.size = s.heap.objs.size + 1 := Heap.size_push ..
  show _ ∧ _
  rw [hz]
  have he : IsEnum ((s.heap.push o).push { cls := .type "enumerate", data := .fields #[.none, .bool false, .ref s.heap.objs.size, rawInt 0, .none, .none] }) (s.heap.objs.size + 1) s.heap.objs.size 0 .none := by
    have := Heap.get?_push_size (s.heap.push o) (o := { cls := .type "enumerate", data := .fields #[.none, .bool false, .ref s.heap.objs.size, rawInt 0, .none, .none] }) rfl
    rw [hz] at this; exact this
  refine ⟨⟨_, he, rfl⟩, h _ he (Heap.get?_push_of_some _ (Heap.get?_push_size _ B.free)) (by rw [Heap.size_push, hz]) fun b o x => Heap.get?_push_of_some _ (Heap.get?_push_of_some _ x)⟩

/-- the pairs of enumerate -/
def enumItm (vs : List V) (i : Nat) (ws : List V) : Prop := ∃ x, vs[i]? = some x ∧ ws = [.int (i : Nat), x]
theorem turn_enumS {P : Program} {w : World} {K : PySem.W.Frag} {elts : List Expr} {kk : Nat} {tpos : Pos} {sr : Sr} {vs : List V} {e it : Addr} :
    Turn P w K (.Tuple elts kk tpos) (JT vs.length (fun H => sr.ok K H vs) (enumItm vs)) [e, it] e (fun i h => (∃ old, IsEnum h e it ((i : Nat) : Int) old) ∧ sr.at_ it i h ∧ e ≠ it) := by
  refine turn_T (wr := [e, it]) (by simp) (fun b hb => hb) (fun i h st b hb => ?_) (fun i h h' st k => ?_) (fun A i s Q E st h => ?_) (fun i ws h => ?_) (fun X hP hw hK hc i pins s σ H Iv hf st hg => ?_)
  · obtain ⟨⟨old, he⟩, ha, _⟩ := st
    have e' : b = e ∨ b = it := by simpa using hb
    rcases e' with z | z
    · rw [z]; exact ⟨_, he, fun v q => nomatch q⟩
    · obtain ⟨o, ho, c, vs, _, hd, _⟩ := sr.atObj ha
      rw [z]; exact ⟨o, ho, fun v q => by rw [hd] at q; cases q⟩
  · obtain ⟨⟨old, he⟩, ha, hne⟩ := st
    exact ⟨⟨old, k e (by simp) _ he⟩, sr.keep (fun o q => k it (by simp) o q) ha, hne⟩
  · obtain ⟨⟨_, he⟩, _⟩ := st
    exact wpAny_pyIter_enum he h
  · obtain ⟨x, _, rfl⟩ := h
    show 2 ≤ sizeLine
    decide
  · subst hP hw hK
    obtain ⟨⟨old, he⟩, ha, hne⟩ := st
    obtain ⟨its, hst, B, itm, hlen⟩ := Sr.there Iv sr hg
    have hdi := Sr.ne hst (sr.atObj ha)
    have hde := Sr.ne hst (it := e) ⟨_, he, "enumerate", _, rfl, rfl, by decide, by decide⟩
    have D := Sr.draws (X := X) (its := its) (it := it) (vs := vs) (handled_in1 (Iv.ok.hd hc)) (fun _ => rfl) sr hdi
    rw [hlen] at D
    have hef : e ∉ sr.fp it := by
      cases sr with
      | L a => intro q; have q : e = it ∨ e = a := by simpa [Sr.fp] using q
               exact q.elim hne fun z => hde a (.inl rfl) z.symm
      | T a => intro q; have q : e = it ∨ e = a := by simpa [Sr.fp] using q
               exact q.elim hne fun z => hde a (.inr rfl) z.symm
      | S x t => intro q; have q : e = it := by simpa [Sr.fp] using q
                 exact hne q
    have hif : it ∈ sr.fp it := by cases sr <;> simp [Sr.fp]
    refine ⟨_, _, _, _, WalksT.enumerateD D e hne hef hif, ⟨⟨old, he⟩, ha, hst⟩, fun h' z => ⟨z.1, z.2.1, hne⟩, fun vals hp => ?_⟩
    obtain ⟨t, x, hx, rfl⟩ := hp
    obtain ⟨y, hy, ry⟩ := itm i x hx
    exact ⟨[.int i, y], .cons ⟨t, rfl⟩ (.cons ry .nil), y, hy, rfl⟩
section
variable {X : Cx}
/-- what a value is as a source -/
def srcOf (sr : Sr) (x : V) (u : Value) : Prop := RelV x u ∧ u = sr.val
def iEnumS (K : PySem.W.Frag) (ta : TA) : TI := fun σ H R => ta σ H fun ws H1 => ∃ x, ws = [x] ∧ ∀ u, RelV x u → ∃ (sr : Sr) (vs : List V), u = sr.val ∧ sr.ok K H1 vs ∧ R (JT vs.length (fun H => sr.ok K H vs) (enumItm vs)) H1
theorem pi_enumS {e : Expr} {ta : TA} {p pos tpos : Pos} {elts : List Expr} {kk : Nat} (hg : Gl X "enumerate") (hm : X.mg "enumerate" = none) (ha : PA X [e] ta) (hs : starEach [e] X.env = [(false, eval e X.env)]) :
    PI X (.Tuple elts kk tpos) (.Call (.Name "enumerate" p) [e] [] pos) (iEnumS X.K ta) := by
  refine ⟨fun pins s σ H R I h => ?_⟩
  refine PyProof.Rows.Call_ (ld_blt I hg hm PyProof.Rows.boot_enumerate (PyProof.Rows.callWith_type1 (thn (ha.run pos pins s σ H _ I h) fun us s1 ⟨ws, H1, I1, r1, q1⟩ => ?_) hs rfl))
  obtain ⟨x, ex, q⟩ := q1
  subst ex
  cases r1 with
  | cons r rr =>
    cases rr
    obtain ⟨sr, vs, rfl, hok, q⟩ := q _ r
    obtain ⟨its, hst, B, itm, hlen⟩ := Sr.there I1 sr hok
    refine enum_begins1 B hst fun h' he hit hsz hk => wpAny_pyIter_enum he ?_
    have I2 : Inv X pins σ H1 { s1 with heap := h' } := I1.kept (t' := s1.toks) hk
    refine ⟨s1.heap.objs.size + 1, [s1.heap.objs.size + 1, s1.heap.objs.size], _, _, H1, rfl, I2, turn_enumS (sr := sr) (vs := vs) (e := s1.heap.objs.size + 1) (it := s1.heap.objs.size), ⟨⟨.none, he⟩, sr.obj0 hit, Nat.succ_ne_self _⟩, fun b hb => ?_, q⟩
    have e' : b = s1.heap.objs.size + 1 ∨ b = s1.heap.objs.size := by simpa using hb
    have hle : s1.heap.objs.size ≤ b := by
      rcases e' with z | z
      · rw [z]; exact Nat.le_add_right _ _
      · rw [z]; exact Nat.le_refl _
    exact I1.fpOk hle (I1.hok.fresh hle)
end

/-! ### zip of two -/
def zipItm (vs ws : List V) (i : Nat) (us : List V) : Prop := ∃ x y, vs[i]? = some x ∧ ws[i]? = some y ∧ us = [x, y]
theorem Sr.notfp {sr : Sr} {its : Array Value} {it c : Addr} {h : Heap} (st : sr.st h its) (hne : c ≠ it) (hc : ∀ a, sr = .L a ∨ sr = .T a → a ≠ c) : c ∉ sr.fp it := by
  cases sr with
  | L a => intro q; have q : c = it ∨ c = a := by simpa [Sr.fp] using q
           exact q.elim hne fun z => hc a (.inl rfl) z.symm
  | T a => intro q; have q : c = it ∨ c = a := by simpa [Sr.fp] using q
           exact q.elim hne fun z => hc a (.inr rfl) z.symm
  | S x t => intro q; have q : c = it := by simpa [Sr.fp] using q
             exact hne q
theorem Sr.infp {sr : Sr} {it : Addr} : it ∈ sr.fp it := by cases sr <;> simp [Sr.fp]
/-- the source's own object is tracked, or one of the module: none of the iterators' cells -/
theorem Sr.notT {X : Cx} {pins : List (Addr × Obj)} {σ : St} {H : Hp} {s : Shared} {sr : Sr} {vs : List V} {c : Addr} (I : Inv X pins σ H s) (hok : sr.ok X.K H vs) (hc : FpOk X pins H c) : ∀ a, sr = .L a ∨ sr = .T a → a ≠ c := fun a e q => by
  subst q
  have base : ∀ o, X.K.lookup a = some o → False := fun o ho => by
    have hb : X.base.get? a = some o := I.ok.mod.kin a o ho
    rcases hc.2.2.2.1 with z | z
    · exact I.ok.noex a o hb z
    · have := (I.ok.bs a o hb).1
      exact absurd (Nat.lt_of_lt_of_le (Heap.lt_size this) z) (Nat.lt_irrefl _)
  have track : ∀ u, Rd H a u → False := fun u hu => by
    rcases hu with hu | ⟨o, hu⟩
    · rw [hc.1] at hu; cases hu
    · rw [hc.1] at hu; cases hu
  rcases e with rfl | rfl
  · rcases (show SqL X.K H a vs from hok) with z | ⟨o, _, _, z, _⟩
    · exact track _ z
    · exact base o z
  · rcases (show SqT X.K H a vs from hok) with z | ⟨o, _, _, z, _⟩
    · exact track _ z
    · exact base o z
theorem turn_zipS {P : Program} {w : World} {K : PySem.W.Frag} {elts : List Expr} {kk : Nat} {tpos : Pos} {sr1 sr2 : Sr} {vs ws : List V} {z TI TO i1 i2 : Addr} (nd : [z, TI, TO, i1, i2].Nodup) :
    Turn P w K (.Tuple elts kk tpos) (JT (min vs.length ws.length) (fun H => sr1.ok K H vs ∧ sr2.ok K H ws) (zipItm vs ws)) [z, TI, TO, i1, i2] z
      (fun i h => IsZip h z TI TO .none ∧ IsTupOf2 h TI (.ref i1) (.ref i2) ∧ (∃ a1 a2, IsTupOf2 h TO a1 a2) ∧ sr1.at_ i1 i h ∧ sr2.at_ i2 i h) := by
  simp only [List.nodup_cons, List.mem_cons, List.not_mem_nil, not_or, not_false_eq_true, and_true, List.nodup_nil, or_false] at nd
  obtain ⟨⟨n1, n2, n3, n4⟩, ⟨n5, n6, n7⟩, ⟨n8, n9⟩, n10⟩ := nd
  refine turn_T (wr := [z, TO, i1, i2]) (by simp) (fun b hb => ?_) (fun i h st b hb => ?_) (fun i h h' st k => ?_) (fun A i s Q E st h => ?_) (fun i us h => ?_) (fun X hP hw hK hc i pins s σ H Iv hf st hg => ?_)
  · have e' : b = z ∨ b = TO ∨ b = i1 ∨ b = i2 := by simpa using hb
    rcases e' with q | q | q | q <;> simp [q]
  · obtain ⟨hz, hTI, ⟨x, y, hTO⟩, h1, h2⟩ := st
    have e' : b = z ∨ b = TI ∨ b = TO ∨ b = i1 ∨ b = i2 := by simpa using hb
    rcases e' with q | q | q | q | q
    · rw [q]; exact ⟨_, hz, fun v q => nomatch q⟩
    · rw [q]; exact ⟨_, hTI, fun v q => nomatch q⟩
    · rw [q]; exact ⟨_, hTO, fun v q => nomatch q⟩
    · obtain ⟨o, ho, c, vs, _, hd, _⟩ := sr1.atObj h1
      rw [q]; exact ⟨o, ho, fun v q => by rw [hd] at q; cases q⟩
    · obtain ⟨o, ho, c, vs, _, hd, _⟩ := sr2.atObj h2
      rw [q]; exact ⟨o, ho, fun v q => by rw [hd] at q; cases q⟩
  · obtain ⟨hz, hTI, ⟨x, y, hTO⟩, h1, h2⟩ := st
    exact ⟨k z (by simp) _ hz, k TI (by simp) _ hTI, ⟨x, y, k TO (by simp) _ hTO⟩, sr1.keep (fun o q => k i1 (by simp) o q) h1, sr2.keep (fun o q => k i2 (by simp) o q) h2⟩
  · exact wpAny_pyIter_zip st.1 h
  · obtain ⟨x, y, _, _, rfl⟩ := h
    show 2 ≤ sizeLine
    decide
  · subst hP hw hK
    obtain ⟨hz, hTI, ⟨x, y, hTO⟩, h1, h2⟩ := st
    obtain ⟨its1, st1, B1, itm1, len1⟩ := Sr.there Iv sr1 hg.1
    obtain ⟨its2, st2, B2, itm2, len2⟩ := Sr.there Iv sr2 hg.2
    have m1 : ∀ c, c ∈ [z, TI, TO, i1, i2] → ∀ a, sr1 = .L a ∨ sr1 = .T a → a ≠ c := fun c hc => Sr.notT Iv hg.1 (hf c hc)
    have m2 : ∀ c, c ∈ [z, TI, TO, i1, i2] → ∀ a, sr2 = .L a ∨ sr2 = .T a → a ≠ c := fun c hc => Sr.notT Iv hg.2 (hf c hc)
    have D1 := Sr.draws (X := X) (its := its1) (it := i1) (vs := vs) (handled_in1 (Iv.ok.hd hc)) (fun _ => rfl) sr1 (m1 i1 (by simp))
    have D2 := Sr.draws (X := X) (its := its2) (it := i2) (vs := ws) (handled_in1 (Iv.ok.hd hc)) (fun _ => rfl) sr2 (m2 i2 (by simp))
    rw [len1] at D1
    rw [len2] at D2
    have S : ZipSep2 z TI TO i1 i2 (sr1.fp i1) (sr2.fp i2) :=
      { TIz := Ne.symm n1, TOz := Ne.symm n2, TITO := n5, TIi1 := n6, mem1 := Sr.infp, zf1 := Sr.notfp st1 n3 (m1 z (by simp)), Tf1 := Sr.notfp st1 n8 (m1 TO (by simp)),
        TIi2 := n7, mem2 := Sr.infp, zf2 := Sr.notfp st2 n4 (m2 z (by simp)), Tf2 := Sr.notfp st2 n9 (m2 TO (by simp)),
        sep1_2 := Sr.notfp st2 n10 (m2 i1 (by simp)), sep2_1 := Sr.notfp st1 (Ne.symm n10) (m1 i2 (by simp)) }
    refine ⟨_, _, _, _, WalksT.zipD2 S D1 D2, ⟨hz, hTI, ⟨x, y, hTO⟩, ⟨h1, st1⟩, ⟨h2, st2⟩⟩, fun h' q => ⟨q.1, q.2.1, q.2.2.1, q.2.2.2.1.1, q.2.2.2.2.1⟩, fun vals hp => ?_⟩
    obtain ⟨x1, x2, p1, p2, rfl⟩ := hp
    obtain ⟨y1, e1, r1⟩ := itm1 i x1 p1
    obtain ⟨y2, e2, r2⟩ := itm2 i x2 p2
    exact ⟨[y1, y2], .cons r1 (.cons r2 .nil), y1, y2, e1, e2, rfl⟩
section
variable {X : Cx}
def iZipS (K : PySem.W.Frag) (ta : TA) : TI := fun σ H R => ta σ H fun xs H1 => ∃ x y, xs = [x, y] ∧ ∀ u v, RelV x u → RelV y v → ∃ (sr1 sr2 : Sr) (vs ws : List V), u = sr1.val ∧ v = sr2.val ∧ sr1.ok K H1 vs ∧ sr2.ok K H1 ws ∧
  R (JT (min vs.length ws.length) (fun H => sr1.ok K H vs ∧ sr2.ok K H ws) (zipItm vs ws)) H1
theorem pi_zipS {e e2 : Expr} {ta : TA} {p pos tpos : Pos} {elts : List Expr} {kk : Nat} (hg : Gl X "zip") (hm : X.mg "zip" = none) (ha : PA X [e, e2] ta) (hs : starEach [e, e2] X.env = (false, eval e X.env) :: starEach [e2] X.env) (hpl : (backTo pos (starEach [e2] X.env)).any (·.1) = false) :
    PI X (.Tuple elts kk tpos) (.Call (.Name "zip" p) [e, e2] [] pos) (iZipS X.K ta) := by
  refine ⟨fun pins s σ H R I h => ?_⟩
  refine PyProof.Rows.Call_ (ld_blt I hg hm PyProof.Rows.boot_zip (PyProof.Rows.callWith_type1 (thn (ha.run pos pins s σ H _ I h) fun us s1 ⟨xs, H1, I1, r1, q1⟩ => ?_) hs hpl))
  obtain ⟨x, y, ex, q⟩ := q1
  subst ex
  cases r1 with
  | cons r rr =>
    cases rr with
    | cons r' rr =>
      cases rr
      obtain ⟨sr1, sr2, vs, ws, rfl, rfl, ok1, ok2, q⟩ := q _ _ r r'
      obtain ⟨its1, st1, B1, itm1, len1⟩ := Sr.there I1 sr1 ok1
      obtain ⟨its2, st2, B2, itm2, len2⟩ := Sr.there I1 sr2 ok2
      refine zip_begins2 B1 B2 st1 st2 fun h' hz hTI hTO h1 h2 hsz hk => wpAny_pyIter_zip hz ?_
      have I2 : Inv X pins σ H1 { s1 with heap := h' } := I1.kept (t' := s1.toks) hk
      refine ⟨s1.heap.objs.size + 4, [s1.heap.objs.size + 4, s1.heap.objs.size + 2, s1.heap.objs.size + 3, s1.heap.objs.size, s1.heap.objs.size + 1], _, _, H1, rfl, I2, turn_zipS (sr1 := sr1) (sr2 := sr2) (vs := vs) (ws := ws) ?_, ⟨hz, hTI, ⟨_, _, hTO⟩, sr1.obj0 h1, sr2.obj0 h2⟩, fun c hcm => ?_, q⟩
      · generalize s1.heap.objs.size = n
        have ne : ∀ a b : Nat, a ≠ b → n + a ≠ n + b := fun a b h e => h (Nat.add_left_cancel e)
        have ne0 : ∀ a : Nat, a ≠ 0 → n + a ≠ n := fun a h e => h (by have e : n + a = n + 0 := e; exact Nat.add_left_cancel e)
        simp only [List.nodup_cons, List.mem_cons, List.not_mem_nil, not_or, not_false_eq_true, and_true, List.nodup_nil, or_false]
        exact ⟨⟨ne 4 2 (by decide), ne 4 3 (by decide), ne0 4 (by decide), ne 4 1 (by decide)⟩, ⟨ne 2 3 (by decide), ne0 2 (by decide), ne 2 1 (by decide)⟩, ⟨ne0 3 (by decide), ne 3 1 (by decide)⟩, fun e => ne0 1 (by decide) e.symm⟩
      · have e' : c = s1.heap.objs.size + 4 ∨ c = s1.heap.objs.size + 2 ∨ c = s1.heap.objs.size + 3 ∨ c = s1.heap.objs.size ∨ c = s1.heap.objs.size + 1 := by simpa using hcm
        have hle : s1.heap.objs.size ≤ c := by
          rcases e' with z | z | z | z | z
          · rw [z]; exact Nat.le_add_right _ _
          · rw [z]; exact Nat.le_add_right _ _
          · rw [z]; exact Nat.le_add_right _ _
          · rw [z]; exact Nat.le_refl _
          · rw [z]; exact Nat.le_add_right _ _
        exact I1.fpOk hle (I1.hok.fresh hle)
end
end Ly

namespace Ly
open PySem PySem.Spec L2
variable [Fns]
/-- what is walked: ds, frozen, as long as what is frozen in H0 stands -/
structure Wk (K : PySem.W.Frag) (J : L2.It) (H0 : Hp) (ds : List D) : Prop where
  goes : ∀ i H, i < ds.length → Kp [] H0 H → J.go i H
  stops : ∀ H, Kp [] H0 H → J.stop ds.length H
  yields : ∀ i H x H' d, ds[i]? = some d → Kp [] H0 H → J.yld i H x H' → Ext [] H H' ∧ Rep K H' d x []
def tI (C : Cfg) (W : WX) (it : It) : TI := fun σ H R => ∃ ρ SV, Vars C.K H ρ σ SV ∧ SV.Nodup ∧ tK C W σ SV H (fun ds _ _ H' (J : L2.It) => Wk C.K J H' ds) (evIt it ρ) R
theorem wk_of {K : PySem.W.Frag} {J : L2.It} {H0 : Hp} {ds : List D} {vs : List V} {G : Hp → Prop} (w : L2.Walk J vs.length G (YAt vs)) (g : ∀ H, Kp [] H0 H → G H) (r : Reps K H0 ds vs []) : Wk K J H0 ds := by
  have l := r.length
  refine ⟨fun i H hi k => w.goes i H (by omega) (g H k), fun H k => by rw [l]; exact w.stops H (g H k), fun i H x H' d hd k y => ?_⟩
  have hi : i < vs.length := by
    obtain ⟨h, _⟩ := List.getElem?_eq_some_iff.mp hd
    omega
  obtain ⟨rfl, hx⟩ := w.yields i H x H' hi (g H k) y
  obtain ⟨v, e, rv⟩ := r.get0 hd
  rw [hx] at e
  cases e
  exact ⟨.refl, rv.kp d k⟩
section
variable {K : PySem.W.Frag} {H H' : Hp}
theorem SqS.kp {S : List Addr} {a : Addr} {vs : List V} (h : SqS K H a vs) (k : Kp S H H') : SqS K H' a vs := h.imp (fun ⟨o, q⟩ => ⟨o, k a _ q (.inr fun z => z)⟩) id
theorem reps_ints : ∀ ns : List Int, Reps K H (ns.map D.int) (ns.map V.int) []
  | [] => Reps.nil
  | n :: ns => Reps.cons (S1 := []) (S2 := []) (show Rep K H (.int n) (.int n) [] from ⟨rfl, rfl⟩) (reps_ints ns)
theorem reps_strs : ∀ cs : List Nat, Reps K H (cs.map fun c => D.str ⟨#[c]⟩) (cs.map fun c => V.str ⟨#[c]⟩) []
  | [] => Reps.nil
  | c :: cs => Reps.cons (S1 := []) (S2 := []) (show Rep K H (.str ⟨#[c]⟩) (.str ⟨#[c]⟩) [] from ⟨rfl, rfl⟩) (reps_strs cs)
/-- what a sequence lies as -/
theorem seq_cases {d : D} {x : V} {S : List Addr} {ds : List D} (r : Rep K H d x S) (h : seqOf d = some ds) :
    (∃ a vs, x = .ref a ∧ SqT K H a vs ∧ Reps K H ds vs []) ∨ (∃ a vs, x = .ref a ∧ SqS K H a vs ∧ Reps K H ds vs []) ∨ ∃ z, x = .str z ∧ d = .str z ∧ ds = z.cps.toList.map fun c => .str ⟨#[c]⟩ := by
  cases d with
  | tup xs =>
    cases h
    obtain ⟨_, a, vs, rfl, q, r⟩ := r
    exact .inl ⟨a, vs, rfl, q, r⟩
  | lst o xs =>
    cases o with
    | true => cases h
    | false =>
      cases h
      obtain ⟨_, a, vs, rfl, q, r⟩ := r
      exact .inr (.inl ⟨a, vs, rfl, .inl q, r⟩)
  | scr ns =>
    cases h
    obtain ⟨_, a, rfl, q⟩ := r
    exact .inr (.inl ⟨a, _, rfl, q, reps_ints ns⟩)
  | str z =>
    cases h
    exact .inr (.inr ⟨z, r.1, rfl, rfl⟩)
  | _ => cases h
theorem src_of {d : D} {x : V} {S : List Addr} {ds : List D} {u : Value} (r : Rep K H d x S) (h : seqOf d = some ds) (rx : RelV x u) : ∃ sr vs, u = Sr.val sr ∧ (∀ H', Kp [] H H' → sr.ok K H' vs) ∧ Reps K H ds vs [] := by
  rcases seq_cases r h with ⟨a, vs, rfl, q, r⟩ | ⟨a, vs, rfl, q, r⟩ | ⟨z, rfl, rfl, rfl⟩
  · cases rx
    exact ⟨.T a, vs, rfl, fun H' k => SqT.kp q k, r⟩
  · cases rx
    exact ⟨.L a, vs, rfl, fun H' k => (q.kp k).sq, r⟩
  · obtain ⟨t, rfl⟩ := rx
    exact ⟨.S z t, _, rfl, fun H' k => rfl, reps_strs _⟩
theorem wk_range {lo : Int} {n : Nat} : Wk K (Itr lo n) H (rngD lo n) := by
  have len : ∀ (n : Nat) (lo : Int), (rngD lo n).length = n := by
    intro n
    induction n with
    | zero => intro lo; rfl
    | succ n ih => intro lo; show (rngD (lo + 1) n).length + 1 = _; rw [ih]
  have get : ∀ (n : Nat) (lo : Int) (i : Nat) (d : D), (rngD lo n)[i]? = some d → d = .int (lo + i) := by
    intro n
    induction n with
    | zero => intro lo i d h; cases h
    | succ n ih =>
      intro lo i d h
      cases i with
      | zero => cases h; simp
      | succ i =>
        have := ih (lo + 1) i d (by simpa [rngD] using h)
        rw [this]
        congr 1
        push_cast
        omega
  refine ⟨fun i H hi _ => by rw [len] at hi; exact hi, fun H _ => by rw [len]; exact Nat.le_refl n, fun i H x H' d hd _ y => ?_⟩
  obtain ⟨rfl, rfl⟩ := y
  rw [get n lo i d hd]
  exact ⟨.refl, rfl, rfl⟩
theorem enumD_len : ∀ (ds : List D) (n : Nat), (enumD n ds).length = ds.length
  | [], _ => rfl
  | d :: ds, n => congrArg (· + 1) (enumD_len ds (n + 1))
theorem enumD_get : ∀ (ds : List D) (n i : Nat), (enumD n ds)[i]? = ds[i]?.map fun d => .tup [.int ((n + i : Nat) : Int), d]
  | [], _, _ => rfl
  | d :: ds, n, 0 => rfl
  | d :: ds, n, i + 1 => by
    show (enumD (n + 1) ds)[i]? = ds[i]?.map _
    rw [enumD_get ds (n + 1) i, show n + 1 + i = n + (i + 1) by omega]
theorem zipD_len : ∀ (xs ys : List D), (zipD xs ys).length = min xs.length ys.length
  | [], _ => by simp [zipD]
  | _ :: _, [] => by simp [zipD]
  | x :: xs, y :: ys => by
    show (zipD xs ys).length + 1 = _
    rw [zipD_len xs ys, List.length_cons, List.length_cons, Nat.succ_min_succ]
theorem zipD_get : ∀ (xs ys : List D) (i : Nat) (d : D), (zipD xs ys)[i]? = some d → ∃ x y, xs[i]? = some x ∧ ys[i]? = some y ∧ d = .tup [x, y]
  | [], _, _, _, h => by simp [zipD] at h
  | _ :: _, [], _, _, h => by simp [zipD] at h
  | x :: xs, y :: ys, 0, d, h => by cases h; exact ⟨x, y, rfl, rfl, rfl⟩
  | x :: xs, y :: ys, i + 1, d, h => zipD_get xs ys i d h
theorem rep_pair {T : Addr} {d e : D} {x y : V} (hT : H T = none) (r1 : Rep K H d x []) (r2 : Rep K H e y []) : Ext [] H (upd H T (.tup [x, y])) ∧ Rep K (upd H T (.tup [x, y])) (.tup [d, e]) (.ref T) [] := by
  have ex : Ext [] H (upd H T (.tup [x, y])) := Ext.new hT
  exact ⟨ex, rfl, T, _, rfl, .inl (.inl upd_same), Reps.cons (S1 := []) (S2 := []) (r1.kp _ (ex.all _)) (Reps.cons (S1 := []) (S2 := []) (r2.kp _ (ex.all _)) Reps.nil)⟩
theorem wk_enum {sr : Sr} {vs : List V} {ds : List D} (h : ∀ H', Kp [] H H' → sr.ok K H' vs) (r : Reps K H ds vs []) : Wk K (JT vs.length (fun H => sr.ok K H vs) (enumItm vs)) H (enumD 0 ds) := by
  have l := r.length
  refine ⟨fun i H hi k => ⟨h H k, by rw [enumD_len, l] at hi; exact hi⟩, fun H k => ⟨h H k, by rw [enumD_len, l]⟩, fun i H x H' d hd k y => ?_⟩
  obtain ⟨T, ws, rfl, hT, rfl, v, hv, rfl⟩ := y
  rw [enumD_get] at hd
  cases hi : ds[i]? with
  | none => rw [hi] at hd; cases hd
  | some e =>
    rw [hi] at hd
    cases hd
    obtain ⟨v', e1, rv⟩ := r.get0 hi
    rw [hv] at e1
    cases e1
    rw [Nat.zero_add]
    exact rep_pair hT ⟨rfl, rfl⟩ (rv.kp _ k)
theorem wk_zip {s1 s2 : Sr} {vs ws : List V} {ds es : List D} (h1 : ∀ H', Kp [] H H' → s1.ok K H' vs) (h2 : ∀ H', Kp [] H H' → s2.ok K H' ws) (r1 : Reps K H ds vs []) (r2 : Reps K H es ws []) : Wk K (JT (min vs.length ws.length) (fun H => s1.ok K H vs ∧ s2.ok K H ws) (zipItm vs ws)) H (zipD ds es) := by
  have l1 := r1.length
  have l2 := r2.length
  refine ⟨fun i H hi k => ⟨⟨h1 H k, h2 H k⟩, by rw [zipD_len, l1, l2] at hi; exact hi⟩, fun H k => ⟨⟨h1 H k, h2 H k⟩, by rw [zipD_len, l1, l2]⟩, fun i H x H' d hd k y => ?_⟩
  obtain ⟨T, us, rfl, hT, rfl, x, y, hx, hy, rfl⟩ := y
  obtain ⟨d1, d2, e1, e2, rfl⟩ := zipD_get ds es i d hd
  obtain ⟨x', q1, p1⟩ := r1.get0 e1
  obtain ⟨y', q2, p2⟩ := r2.get0 e2
  rw [hx] at q1
  rw [hy] at q2
  cases q1
  cases q2
  exact rep_pair hT (p1.kp _ k) (p2.kp _ k)
end
section
variable {X : Cx} {C : Cfg} {W : WX} {pos : Pos} {tg e : Expr} {e' : E}
/-- a sequence walked -/
theorem pi_seq (hK : X.K = C.K) (he : PE X e (tD C W e')) : PI X tg e (tI C W (.seq e')) := by
  refine ⟨fun pins s σ H R I h => ?_⟩
  obtain ⟨ρ, SV, hv, nd, h⟩ := h
  have h : tK C W σ SV H (fun ds _ _ H' (J : L2.It) => Wk C.K J H' ds) ((ev e' ρ).bind fun d ρ => liftO (seqOf d) ρ) R := h
  cases hev : ev e' ρ with
  | bad => rw [hev] at h; exact h.elim
  | exc x ρ1 =>
    rw [hev] at h
    refine (pi_tup he).run pins s σ H R I ⟨ρ, SV, hv, nd, ?_⟩
    rw [hev]
    exact h
  | ok d ρ1 =>
    rw [hev] at h
    obtain ⟨ds, hds, h⟩ := tK_lift (show tK C W σ SV H (fun ds _ _ H' (J : L2.It) => Wk C.K J H' ds) (liftO (seqOf d) ρ1) R from h)
    cases d with
    | tup xs =>
      cases hds
      refine (pi_tup he).run pins s σ H R I ⟨ρ, SV, hv, nd, ?_⟩
      rw [hev]
      rintro v H1 SV1 e1 ⟨⟨S, r⟩, _⟩
      obtain ⟨_, a, vs, rfl, q, r⟩ := r.rep
      rw [hK]
      exact ⟨a, rfl, ⟨vs, q⟩, h _ H1 SV1 e1 (wk_of walk_tup (fun H k => SqT.kp q k) r)⟩
    | lst o xs =>
      cases o with
      | true => cases hds
      | false =>
        cases hds
        refine (pi_list he).run pins s σ H R I ⟨ρ, SV, hv, nd, ?_⟩
        rw [hev]
        rintro v H1 SV1 e1 ⟨⟨S, r⟩, _⟩
        obtain ⟨_, a, vs, rfl, q, r⟩ := r.rep
        rw [hK]
        exact ⟨a, rfl, ⟨vs, q.sq⟩, h _ H1 SV1 e1 (wk_of walk_list (fun H k => (q.kp k).sq) r)⟩
    | scr ns =>
      cases hds
      refine (pi_list he).run pins s σ H R I ⟨ρ, SV, hv, nd, ?_⟩
      rw [hev]
      rintro v H1 SV1 e1 ⟨⟨S, r⟩, _⟩
      obtain ⟨_, a, rfl, q⟩ := r.rep
      rw [hK]
      exact ⟨a, rfl, ⟨_, q.sq⟩, h _ H1 SV1 e1 (wk_of walk_list (fun H k => (q.kp k).sq) (reps_ints ns))⟩
    | str z =>
      cases hds
      refine (pi_str he).run pins s σ H R I ⟨ρ, SV, hv, nd, ?_⟩
      rw [hev]
      rintro v H1 SV1 e1 ⟨⟨S, r⟩, _⟩
      refine ⟨z, r.rep.1, h _ H1 SV1 e1 (wk_of (vs := z.cps.toList.map fun c => V.str ⟨#[c]⟩) (G := fun _ => True) ?_ (fun _ _ => trivial) (reps_strs _))⟩
      have l : (z.cps.toList.map fun c => V.str ⟨#[c]⟩).length = z.cps.size := by simp
      rw [l]
      refine walk_str.mono (fun _ h => h) fun i H x H' _ _ ⟨e, c, hc, hx⟩ => ⟨e, ?_⟩
      rw [List.getElem?_map, Array.getElem?_toList, hc, hx]
      rfl
    | _ => cases hds
theorem pi_rng1 {a : Expr} {a' : E} {p : Pos} (hg : Gl X "range") (hm : X.mg "range" = none) (ha : PA X [a] (tA C W (.cons a' .nil))) (hs : starEach [a] X.env = [(false, eval a X.env)]) : PI X tg (.Call (.Name "range" p) [a] [] pos) (tI C W (.rng (.cons a' .nil))) := by
  refine ⟨fun pins s σ H R I h => (pi_range1 hg hm ha hs).run pins s σ H R I ?_⟩
  obtain ⟨ρ, SV, hv, nd, h⟩ := h
  have h : tK C W σ SV H (fun ds _ _ H' (J : L2.It) => Wk C.K J H' ds) ((evs (.cons a' .nil) ρ).bind fun ds ρ => liftO (rngOf ds) ρ) R := h
  refine ⟨ρ, SV, hv, nd, tK_bind0 h fun ds ρ1 vs H1 SV1 e1 ⟨⟨S, r1⟩, q1⟩ h1 => ?_⟩
  obtain ⟨l, hl, h1⟩ := tK_lift h1
  have r := r1.rep.reps rfl
  match ds, hl, r with
  | [.int j], hl, r =>
    change (if -4611686018427387904 ≤ j ∧ j < 4611686018427387904 then some (rngD 0 j.toNat) else none) = some l at hl
    split at hl
    · rename_i hc
      cases hl
      obtain ⟨v, vs', S1, S2, rfl, rd, rn, _⟩ := r
      obtain ⟨rfl, _⟩ := rn
      exact ⟨j, by rw [rd.1], hc.1, hc.2, h1 _ H1 SV1 e1 wk_range⟩
    · cases hl
  | [.int i, .int j], hl, r => cases r1.rep with | cons _ t => cases t
theorem pi_rng2 {a b : Expr} {a' b' : E} {p : Pos} (hg : Gl X "range") (hm : X.mg "range" = none) (ha : PA X [a, b] (tA C W (.cons a' (.cons b' .nil)))) (hs : starEach [a, b] X.env = [(false, eval a X.env), (false, eval b X.env)]) (hs2 : starEach [b] X.env = [(false, eval b X.env)]) : PI X tg (.Call (.Name "range" p) [a, b] [] pos) (tI C W (.rng (.cons a' (.cons b' .nil)))) := by
  refine ⟨fun pins s σ H R I h => (pi_range2 hg hm ha hs hs2).run pins s σ H R I ?_⟩
  obtain ⟨ρ, SV, hv, nd, h⟩ := h
  have h : tK C W σ SV H (fun ds _ _ H' (J : L2.It) => Wk C.K J H' ds) ((evs (.cons a' (.cons b' .nil)) ρ).bind fun ds ρ => liftO (rngOf ds) ρ) R := h
  refine ⟨ρ, SV, hv, nd, tK_bind0 h fun ds ρ1 vs H1 SV1 e1 ⟨⟨S, r1⟩, q1⟩ h1 => ?_⟩
  obtain ⟨l, hl, h1⟩ := tK_lift h1
  have r := r1.rep.reps rfl
  match ds, hl, r with
  | [.int i, .int j], hl, r =>
    change (if (-4611686018427387904 ≤ i ∧ i < 4611686018427387904) ∧ (-4611686018427387904 ≤ j ∧ j < 4611686018427387904) then some (rngD i (j - i).toNat) else none) = some l at hl
    split at hl
    · rename_i hc
      cases hl
      obtain ⟨v, vs', S1, S2, rfl, rd, ⟨w, vs2, S3, S4, rfl, rd2, rn, _⟩, _⟩ := r
      obtain ⟨rfl, _⟩ := rn
      exact ⟨i, j, by rw [rd.1, rd2.1], ⟨hc.1.1, hc.1.2, hc.2.1, hc.2.2⟩, h1 _ H1 SV1 e1 wk_range⟩
    · cases hl
  | [.int j], hl, r => cases r1.rep with | cons _ t => cases t
theorem pi_enum' {p tpos : Pos} {elts : List Expr} {kk : Nat} (hK : X.K = C.K) (hg : Gl X "enumerate") (hm : X.mg "enumerate" = none) (ha : PA X [e] (tA C W (.cons e' .nil))) (hs : starEach [e] X.env = [(false, eval e X.env)]) : PI X (.Tuple elts kk tpos) (.Call (.Name "enumerate" p) [e] [] pos) (tI C W (.enum e')) := by
  refine ⟨fun pins s σ H R I h => (pi_enumS hg hm ha hs).run pins s σ H R I ?_⟩
  obtain ⟨ρ, SV, hv, nd, h⟩ := h
  have h : tK C W σ SV H (fun ds _ _ H' (J : L2.It) => Wk C.K J H' ds) ((ev e' ρ).bind fun d ρ => liftO ((seqOf d).map (enumD 0)) ρ) R := h
  have h2 : tK C W σ SV H (fun ds _ _ H' (J : L2.It) => Wk C.K J H' ds) ((evs (.cons e' .nil) ρ).bind fun ds ρ => match ds with | [d] => liftO ((seqOf d).map (enumD 0)) ρ | _ => .bad) R := by
    have e : evs (.cons e' .nil) ρ = (ev e' ρ).bind fun d ρ => .ok [d] ρ := rfl
    rw [e]
    cases hev : ev e' ρ <;> rw [hev] at h <;> exact h
  refine ⟨ρ, SV, hv, nd, tK_bind0 h2 fun ds ρ1 vs H1 SV1 e1 ⟨⟨S, r1⟩, q1⟩ h1 => ?_⟩
  cases r1.rep with
  | @cons _ _ d ds v vs S T rd t =>
    cases t
    obtain ⟨l, hl, h1⟩ := tK_lift (show tK C W σ SV H (fun ds _ _ H' (J : L2.It) => Wk C.K J H' ds) (liftO ((seqOf d).map (enumD 0)) ρ1) R from h1)
    cases hsq : seqOf d with
    | none => rw [hsq] at hl; cases hl
    | some es =>
      rw [hsq] at hl
      cases hl
      refine ⟨v, rfl, fun u ru => ?_⟩
      obtain ⟨sr, ws, eu, ok, r⟩ := src_of rd hsq ru
      rw [hK]
      exact ⟨sr, ws, eu, ok H1 .refl, h1 _ H1 SV1 e1 (wk_enum ok r)⟩
theorem pi_zip' {a b : Expr} {a' b' : E} {p tpos : Pos} {elts : List Expr} {kk : Nat} (hK : X.K = C.K) (hg : Gl X "zip") (hm : X.mg "zip" = none) (ha : PA X [a, b] (tA C W (.cons a' (.cons b' .nil)))) (hs : starEach [a, b] X.env = (false, eval a X.env) :: starEach [b] X.env) (hpl : (backTo pos (starEach [b] X.env)).any (·.1) = false) :
    PI X (.Tuple elts kk tpos) (.Call (.Name "zip" p) [a, b] [] pos) (tI C W (.zip a' b')) := by
  refine ⟨fun pins s σ H R I h => (pi_zipS hg hm ha hs hpl).run pins s σ H R I ?_⟩
  obtain ⟨ρ, SV, hv, nd, h⟩ := h
  have h : tK C W σ SV H (fun ds _ _ H' (J : L2.It) => Wk C.K J H' ds) ((ev a' ρ).bind fun x ρ => (ev b' ρ).bind fun y ρ => (match seqOf x, seqOf y with | some xs, some ys => .ok (zipD xs ys) ρ | _, _ => .bad)) R := h
  have h2 : tK C W σ SV H (fun ds _ _ H' (J : L2.It) => Wk C.K J H' ds) ((evs (.cons a' (.cons b' .nil)) ρ).bind fun ds ρ => match ds with | [x, y] => (match seqOf x, seqOf y with | some xs, some ys => .ok (zipD xs ys) ρ | _, _ => .bad) | _ => .bad) R := by
    have e : evs (.cons a' (.cons b' .nil)) ρ = (ev a' ρ).bind fun d ρ => ((ev b' ρ).bind fun d ρ => .ok [d] ρ).bind fun ds ρ => .ok (d :: ds) ρ := rfl
    rw [e]
    cases hev : ev a' ρ with
    | bad => rw [hev] at h; exact h
    | exc x ρ1 => rw [hev] at h; exact h
    | ok d ρ1 =>
      rw [hev] at h
      have h : tK C W σ SV H (fun ds _ _ H' (J : L2.It) => Wk C.K J H' ds) ((ev b' ρ1).bind fun y ρ => (match seqOf d, seqOf y with | some xs, some ys => .ok (zipD xs ys) ρ | _, _ => .bad)) R := h
      show tK C W σ SV H _ ((((ev b' ρ1).bind fun d ρ => .ok [d] ρ).bind fun ds ρ => .ok (d :: ds) ρ).bind _) R
      cases hev2 : ev b' ρ1 <;> rw [hev2] at h <;> exact h
  refine ⟨ρ, SV, hv, nd, tK_bind0 h2 fun ds ρ1 vs H1 SV1 e1 ⟨⟨S, r1⟩, q1⟩ h1 => ?_⟩
  cases r1.rep with
  | @cons _ _ d ds v vs S T rd t =>
    cases t with
    | @cons _ _ d2 ds v2 vs S2 T2 rd2 t =>
      cases t
      have h1 : tK C W σ SV H (fun ds _ _ H' (J : L2.It) => Wk C.K J H' ds) (match seqOf d, seqOf d2 with | some xs, some ys => .ok (zipD xs ys) ρ1 | _, _ => .bad) R := h1
      cases hs1 : seqOf d with
      | none => rw [hs1] at h1; exact h1.elim
      | some xs =>
        cases hs2 : seqOf d2 with
        | none => rw [hs1, hs2] at h1; exact h1.elim
        | some ys =>
          rw [hs1, hs2] at h1
          refine ⟨v, v2, rfl, fun u u2 ru ru2 => ?_⟩
          obtain ⟨sr, ws, eu, ok, r⟩ := src_of rd hs1 ru
          obtain ⟨sr2, ws2, eu2, ok2, r2⟩ := src_of rd2 hs2 ru2
          rw [hK]
          exact ⟨sr, sr2, ws, ws2, eu, eu2, ok H1 .refl, ok2 H1 .refl, h1 _ H1 SV1 e1 (wk_zip ok ok2 r r2)⟩
end
end Ly

namespace Ly
open PySem PySem.Spec L2
variable [Fns]
section
variable {K : PySem.W.Frag} {SV SV1 SV2 : List Addr} {H H1 H2 : Hp} {σ τ : St} {ρ ρ1 ρ2 : Ev}
/-- a name set to an owned value -/
theorem vars_set {d : D} {v : V} {S : List Addr} (i : Nat) (hv : Vars K H ρ σ SV) (r : Rep K H d v S) (nd : (S ++ SV).Nodup) : ∃ SV', Vars K H (ρ.set i (some d)) (σ.set i (some v)) SV' ∧ SV'.Nodup ∧ ∀ a ∈ SV', a ∈ S ++ SV := by
  have l := hv.length
  by_cases hi : i < ρ.length
  · obtain ⟨S0, R, f⟩ := hv.foc i hi
    obtain ⟨SV', v', p⟩ := f.set H d v S .refl r
    refine ⟨SV', v', p.nodup_iff.mpr ?_, fun a ha => ?_⟩
    · refine List.nodup_append.mpr ⟨(List.nodup_append.mp nd).1, (List.nodup_append.mp (f.perm.nodup_iff.mp (List.nodup_append.mp nd).2.1)).2.1, fun a ha b hb e => ?_⟩
      exact (List.nodup_append.mp nd).2.2 a ha b (f.perm.mem_iff.mpr (List.mem_append_right _ hb)) e
    · rcases List.mem_append.mp (p.mem_iff.mp ha) with h | h
      · exact List.mem_append_left _ h
      · exact List.mem_append_right _ (f.perm.mem_iff.mpr (List.mem_append_right _ h))
  · rw [List.set_eq_of_length_le (by omega), List.set_eq_of_length_le (by omega)]
    exact ⟨SV, hv, (List.nodup_append.mp nd).2.1, fun a ha => List.mem_append_right _ ha⟩
theorem vars_set0 {d : D} {v : V} (i : Nat) (hv : Vars K H ρ σ SV) (r : Rep K H d v []) (nd : SV.Nodup) : ∃ SV', Vars K H (ρ.set i (some d)) (σ.set i (some v)) SV' ∧ SV'.Nodup ∧ ∀ a ∈ SV', a ∈ SV := vars_set i hv r nd
/-- a name without a value -/
theorem vars_out (i : Nat) (x : Option V) (hv : Vars K H ρ σ SV) (nd : SV.Nodup) : ∃ SV', Vars K H (ρ.set i none) (σ.set i x) SV' ∧ SV'.Nodup ∧ ∀ a ∈ SV', a ∈ SV := by
  have l := hv.length
  by_cases hi : i < ρ.length
  · obtain ⟨S0, R, f⟩ := hv.foc i hi
    obtain ⟨SV', v', p⟩ := f.out H (σ.set i x) .refl (fun j hj => List.getElem?_set_ne (Ne.symm hj)) (by simp)
    exact ⟨SV', v', p.nodup_iff.mpr (List.nodup_append.mp (f.perm.nodup_iff.mp nd)).2.1, fun a ha => f.perm.mem_iff.mpr (List.mem_append_right _ (p.mem_iff.mp ha))⟩
  · rw [List.set_eq_of_length_le (by omega), List.set_eq_of_length_le (by omega)]
    exact ⟨SV, hv, nd, fun a ha => ha⟩
theorem vars_wipe (hv : Vars K H ρ σ SV) (nd : SV.Nodup) : ∀ vs : List Nat, ∃ SV', Vars K H (wipeE ρ vs) (wipe σ vs) SV' ∧ SV'.Nodup ∧ ∀ a ∈ SV', a ∈ SV
  | [] => ⟨SV, hv, nd, fun _ h => h⟩
  | v :: vs => by
    obtain ⟨SV1, v1, n1, s1⟩ := vars_wipe hv nd vs
    obtain ⟨SV2, v2, n2, s2⟩ := vars_out v none v1 n1
    exact ⟨SV2, v2, n2, fun a ha => s1 a (s2 a ha)⟩
theorem vars_agree : ∀ {ρ : Ev} {σ τ : St} {SV : List Addr}, Vars K H ρ σ SV → τ.length = σ.length → (∀ (i : Nat) d, ρ[i]? = some (some d) → τ[i]? = σ[i]?) → Vars K H ρ τ SV
  | [], [], [], _, h, _, _ => h
  | [], [], _ :: _, _, _, h, _ => by simp at h
  | none :: ρ, _ :: σ, x :: τ, SV, h, l, ag => vars_agree (ρ := ρ) (σ := σ) (τ := τ) (SV := SV) h (by simpa using l) fun i d e => by simpa using ag (i + 1) d (by simpa using e)
  | none :: ρ, _ :: σ, [], _, _, l, _ => by simp at l
  | some d :: ρ, some v :: σ, x :: τ, _, h, l, ag => by
    obtain ⟨S, R, r, h, rfl⟩ := h
    have e : x = some v := by simpa using ag 0 d rfl
    subst e
    exact ⟨S, R, r, vars_agree h (by simpa using l) fun i d e => by simpa using ag (i + 1) d (by simpa using e), rfl⟩
  | some d :: ρ, some v :: σ, [], _, _, l, _ => by simp at l
  | some d :: ρ, none :: σ, _, _, h, _, _ => h.elim
  | [], _ :: _, _, _, h, _, _ => h.elim
  | none :: _, [], _, _, h, _, _ => h.elim
  | some _ :: _, [], _, _, h, _, _ => h.elim
theorem wipeE_not {i : Nat} {d : D} : ∀ {vs : List Nat}, (wipeE ρ vs)[i]? = some (some d) → i ∉ vs
  | [], _ => List.not_mem_nil
  | v :: vs, h => by
    have h : ((wipeE ρ vs).set v none)[i]? = some (some d) := h
    by_cases e : v = i
    · subst e
      by_cases hl : v < (wipeE ρ vs).length
      · rw [List.getElem?_set_self hl] at h; cases h
      · rw [List.getElem?_eq_none (by simpa using hl)] at h; cases h
    · rw [List.getElem?_set_ne e] at h
      exact fun z => (List.mem_cons.mp z).elim (fun q => e q.symm) (wipeE_not h)
theorem wipe_get {i : Nat} : ∀ {vs : List Nat}, i ∉ vs → (wipe σ vs)[i]? = σ[i]?
  | [], _ => rfl
  | v :: vs, h => by
    show ((wipe σ vs).set v none)[i]? = σ[i]?
    rw [List.getElem?_set_ne (fun e => h (by rw [e]; exact List.mem_cons_self))]
    exact wipe_get fun z => h (List.mem_cons_of_mem _ z)
theorem wipe_none {i : Nat} {vs : List Nat} (h : i ∈ vs) (hi : i < σ.length) : (wipe σ vs)[i]? = some none := by
  induction vs with
  | nil => cases h
  | cons v vs ih =>
    show ((wipe σ vs).set v none)[i]? = some none
    by_cases e : v = i
    · subst e
      rw [List.getElem?_set_self (by rw [wipe_length]; exact hi)]
    · rw [List.getElem?_set_ne e]
      rcases List.mem_cons.mp h with z | z
      · exact absurd z.symm e
      · exact ih z
theorem wipe_eq {vs : List Nat} (l : τ.length = σ.length) (h : ∀ i, i ∉ vs → τ[i]? = (wipe σ vs)[i]?) : wipe τ vs = wipe σ vs := by
  apply List.ext_getElem?
  intro i
  by_cases hi : i ∈ vs
  · by_cases hl : i < σ.length
    · rw [wipe_none hi (by omega), wipe_none hi hl]
    · rw [List.getElem?_eq_none (by rw [wipe_length]; omega), List.getElem?_eq_none (by rw [wipe_length]; omega)]
  · rw [wipe_get hi, h i hi]
theorem EnvP.tr (e1 : EnvP K SV H τ ρ1 H1 SV1) (e2 : EnvP K SV1 H1 σ ρ2 H2 SV2) : EnvP K SV H σ ρ2 H2 SV2 :=
  ⟨e2.vars, e2.nd, src_trans e1 e2.src, fun a o e hs => e2.ext a o (e1.ext a o e hs) fun h1 => by
    rcases e1.src a h1 with h | h
    · exact hs h
    · rw [e] at h; cases h⟩
theorem EnvP.apart (e : EnvP K SV H σ ρ1 H1 SV1) {a : Addr} {o : HO} (h : a ∉ SV) (ho : H a = some o) : a ∉ SV1 ∧ H1 a = some o := ⟨fun z => (e.src a z).elim h fun q => (by rw [ho] at q; cases q), e.ext a o ho h⟩
theorem EnvP.sub {SV' : List Addr} (v : Vars K H ρ σ SV') (nd : SV'.Nodup) (h : ∀ a ∈ SV', a ∈ SV) : EnvP K SV H σ ρ H SV' := ⟨v, nd, fun a ha => .inl (h a ha), .refl⟩
theorem kp_upd {S : List Addr} {a : Addr} {o o' : HO} (h : H a = some o) (m : Mb o) (n : a ∉ S) : Kp S H (upd H a o') := fun b u e q => by
  rw [upd_ne (fun z => ?_)]
  · exact e
  · subst z
    rw [h] at e
    cases e
    exact q.elim n fun z => z m
end

/-! ### targets -/
mutual
def tns : Tg → List Nat
  | .nm i => [i]
  | .tp ts => tnss ts
def tnss : Tgs → List Nat
  | .nil => []
  | .cons t ts => tns t ++ tnss ts
end
def tG (K : PySem.W.Frag) (tg : Tg) : TG := fun v σ H Q => ∃ d ρ SV ρ', Rep K H d v [] ∧ Vars K H ρ σ SV ∧ SV.Nodup ∧ bindT tg d ρ = some ρ' ∧
  ∀ σ' SV', Vars K H ρ' σ' SV' → SV'.Nodup → (∀ a ∈ SV', a ∈ SV) → (∀ i, i ∉ tns tg → σ'[i]? = σ[i]?) → σ'.length = σ.length → Q σ' H
def tGs (K : PySem.W.Frag) (tg : Tgs) : TGs := fun vs σ H Q => ∃ ds ρ SV ρ', Reps K H ds vs [] ∧ Vars K H ρ σ SV ∧ SV.Nodup ∧ bindTs tg ds ρ = some ρ' ∧
  ∀ σ' SV', Vars K H ρ' σ' SV' → SV'.Nodup → (∀ a ∈ SV', a ∈ SV) → (∀ i, i ∉ tnss tg → σ'[i]? = σ[i]?) → σ'.length = σ.length → Q σ' H
section
variable {X : Cx} {K : PySem.W.Frag} {pos : Pos}
theorem sg_name {i : Nat} {x : Str} (hN : X.N.Nodup) (hi : X.N[i]? = some x) (hx : Loc X.env.scope x) (hf : X.fn x = true ∨ X.env.scope.names.lookup x = some .local) : PG X (.Name x pos) (tG K (.nm i)) := by
  refine ⟨fun pins s σ H v u Q I r h => (pg_name hN hi hx hf).run pins s σ H v u Q I r ?_⟩
  obtain ⟨d, ρ, SV, ρ', rd, hv, nd, hb, k⟩ := h
  cases hb
  obtain ⟨SV', v', n', s'⟩ := vars_set0 i hv rd nd
  exact k _ SV' v' n' s' (fun j hj => List.getElem?_set_ne (fun e => hj (by rw [e]; exact List.mem_singleton_self _))) (by simp)
theorem sgs_nil : PGs X [] (tGs K .nil) := by
  refine ⟨fun pins s σ H vs us Q I r h => pgs_nil.run pins s σ H vs us Q I r ?_⟩
  obtain ⟨ds, ρ, SV, ρ', rd, hv, nd, hb, k⟩ := h
  cases ds with
  | cons _ _ => cases hb
  | nil =>
    cases hb
    exact ⟨rd.1, k σ SV hv nd (fun _ h => h) (fun _ _ => rfl) rfl⟩
theorem sgs_cons {e : Expr} {es : List Expr} {t : Tg} {ts : Tgs} (h1 : PG X e (tG K t)) (h2 : PGs X es (tGs K ts)) (hs : (assignEach (e :: es) X.env).map (·.2) = assign e X.env :: (assignEach es X.env).map (·.2)) : PGs X (e :: es) (tGs K (.cons t ts)) := by
  refine ⟨fun pins s σ H vs us Q I r h => (pgs_cons h1 h2 hs).run pins s σ H vs us Q I r ?_⟩
  obtain ⟨ds, ρ, SV, ρ', rd, hv, nd, hb, k⟩ := h
  cases ds with
  | nil => cases hb
  | cons d ds =>
    change (match bindT t d ρ with | some ρ' => bindTs ts ds ρ' | none => none) = some ρ' at hb
    cases ht : bindT t d ρ with
    | none => rw [ht] at hb; cases hb
    | some ρ1 =>
      rw [ht] at hb
      obtain ⟨v, vs', S1, S2, rfl, r1, r2, e⟩ := rd
      obtain ⟨rfl, rfl⟩ := List.append_eq_nil_iff.mp e.symm
      refine ⟨v, vs', rfl, d, ρ, SV, ρ1, r1, hv, nd, ht, fun σ1 SV1 v1 n1 s1 a1 l1 => ?_⟩
      exact ⟨ds, ρ1, SV1, ρ', r2, v1, n1, hb, fun σ2 SV2 v2 n2 s2 a2 l2 => k σ2 SV2 v2 n2 (fun a ha => s1 a (s2 a ha)) (fun j hj => by
        have hj : j ∉ tns t ++ tnss ts := hj
        rw [List.mem_append, not_or] at hj
        rw [a2 j hj.2, a1 j hj.1]) (by omega)⟩
def tlen : Tgs → Nat
  | .nil => 0
  | .cons _ ts => tlen ts + 1
theorem bindTs_tlen : ∀ {ts : Tgs} {ds : List D} {ρ ρ' : Ev}, bindTs ts ds ρ = some ρ' → ds.length = tlen ts
  | .nil, [], _, _, _ => rfl
  | .nil, _ :: _, _, _, h => by cases h
  | .cons t ts, [], _, _, h => by cases h
  | .cons t ts, d :: ds, ρ, ρ', h => by
    change (match bindT t d ρ with | some ρ' => bindTs ts ds ρ' | none => none) = some ρ' at h
    cases ht : bindT t d ρ with
    | none => rw [ht] at h; cases h
    | some ρ1 => rw [ht] at h; exact congrArg (· + 1) (bindTs_tlen h)
theorem sg_tup {es : List Expr} {k : Nat} {ts : Tgs} (hK : X.K = K) (hc : X.calm = true) (h : PGs X es (tGs K ts)) (hn : (assignEach es X.env).length = tlen ts) (hst : (assignEach es X.env).findIdx? (·.1) = none) : PG X (.Tuple es k pos) (tG K (.tp ts)) := by
  refine ⟨fun pins s σ H v u Q I r hw => ?_⟩
  obtain ⟨d, ρ, SV, ρ', rd, hv, nd, hb, kk⟩ := hw
  cases d with
  | tup xs =>
    obtain ⟨_, a, vs, rfl, q, rs⟩ := rd
    refine (pg_tup hc h hn hst).run pins s σ H _ u Q I r ?_
    rw [hK]
    exact ⟨a, vs, rfl, q, by rw [← rs.length]; exact bindTs_tlen hb, xs, ρ, SV, ρ', rs, hv, nd, hb, kk⟩
  | lst o xs =>
    cases o with
    | true => cases hb
    | false =>
      obtain ⟨_, a, vs, rfl, q, rs⟩ := rd
      refine (pg_lst hc h hn hst).run pins s σ H _ u Q I r ?_
      rw [hK]
      exact ⟨a, vs, rfl, q.sq, by rw [← rs.length]; exact bindTs_tlen hb, xs, ρ, SV, ρ', rs, hv, nd, hb, kk⟩
  | _ => cases hb
end

/-! ### comprehensions -/
theorem Wk.walk {K : PySem.W.Frag} {J : L2.It} {H0 : Hp} {ds : List D} (w : Wk K J H0 ds) : L2.Walk J ds.length (fun H => Kp [] H0 H) (fun i H x H' => ∀ d, ds[i]? = some d → Ext [] H H' ∧ Rep K H' d x []) :=
  ⟨fun i H hi k => w.goes i H hi k, fun H k => w.stops H k, fun i H x H' _ k y d hd => w.yields i H x H' d hd k y⟩
/-- the tests of a comprehension -/
def tCs (C : Cfg) (W : WX) (c : Es) : TT := fun σ H Q => ∃ ρ SV, Vars C.K H ρ σ SV ∧ SV.Nodup ∧ tK C W σ SV H (fun b _ _ _ v => v = b) (evC c ρ) Q
theorem tcs_nil {X : Cx} {C : Cfg} {W : WX} : PTs X [] (tCs C W .nil) := ⟨fun pins s σ H Q I ⟨ρ, SV, hv, nd, h⟩ => pts_nil.run pins s σ H Q I (h true H SV (.refl hv nd) rfl)⟩
theorem tcs_one {X : Cx} {C : Cfg} {W : WX} {c : Expr} {c' : E} (h : PT X c (tT C W c')) : PTs X [c] (tCs C W (.cons c' .nil)) :=
  ⟨fun pins s σ H Q I ⟨ρ, SV, hv, nd, hq⟩ => (pts_one h).run pins s σ H Q I ⟨ρ, SV, hv, nd, by
    have hq : tK C W σ SV H (fun b _ _ _ v => v = b) (evT c' ρ) Q := hq
    cases he : evT c' ρ with
    | bad => rw [he] at hq; exact hq
    | exc x ρ' => rw [he] at hq; exact hq
    | ok b ρ' => rw [he] at hq; exact fun v H' SV' e r => hq v H' SV' e r.1⟩⟩
def WF : WX := fun _ _ _ _ => False
theorem bind_ok {α β : Type} {m : Out α} {f : α → Ev → Out β} {z : β} {ρ : Ev} (h : m.bind f = .ok z ρ) : ∃ a ρ1, m = .ok a ρ1 ∧ f a ρ1 = .ok z ρ := by
  cases m with
  | bad => cases h
  | exc x ρ' => cases h
  | ok a ρ1 => exact ⟨a, ρ1, rfl, h⟩
theorem lcF_ok {ow : List Nat} {tg : Tg} {c : Es} {elt : E} {d : D} {ρ ρa : Ev} {x : List D} (h : lcF ow tg c elt d ρ = .ok x ρa) : ∃ ρb b ρc, bindT tg d ρ = some ρb ∧ evC c ρb = .ok b ρc ∧
    ((b = true ∧ ∃ y ρd, ev elt ρc = .ok y ρd ∧ x = [y] ∧ ρa = wipeE ρd ow) ∨ (b = false ∧ x = [] ∧ ρa = wipeE ρc ow)) := by
  unfold lcF at h
  cases hb : bindT tg d ρ with
  | none => rw [hb] at h; cases h
  | some ρb =>
    rw [hb] at h
    obtain ⟨b, ρc, h1, h⟩ := bind_ok h
    refine ⟨ρb, b, ρc, rfl, h1, ?_⟩
    cases b with
    | true =>
      rw [if_pos rfl] at h
      obtain ⟨y, ρd, h2, h⟩ := bind_ok h
      cases h
      exact .inl ⟨rfl, y, ρd, h2, rfl, rfl⟩
    | false =>
      rw [if_neg Bool.false_ne_true] at h
      cases h
      exact .inr ⟨rfl, rfl, rfl⟩
theorem nodup_mid {S T U : List Addr} {a : Addr} (h : (a :: (S ++ U)).Nodup) (ht : (T ++ U).Nodup) (hd : ∀ b ∈ T, b ≠ a ∧ b ∉ S) : (a :: ((S ++ T) ++ U)).Nodup := by
  obtain ⟨h1, h2⟩ := List.nodup_cons.mp h
  obtain ⟨n1, n2, n3⟩ := List.nodup_append.mp h2
  obtain ⟨m1, m2, m3⟩ := List.nodup_append.mp ht
  refine List.nodup_cons.mpr ⟨fun z => ?_, ?_⟩
  · rcases List.mem_append.mp z with z | z
    · rcases List.mem_append.mp z with z | z
      · exact h1 (List.mem_append_left _ z)
      · exact (hd a z).1 rfl
    · exact h1 (List.mem_append_right _ z)
  · rw [List.append_assoc]
    refine List.nodup_append.mpr ⟨n1, ht, fun x hx y hy e => ?_⟩
    subst e
    rcases List.mem_append.mp hy with z | z
    · exact (hd x z).2 hx
    · exact n3 x hx x z rfl
theorem lc_read {C : Cfg} {W : WX} {ow : List Nat} {tg : Tg} {it : It} {c : Es} {elt : E} {σ : St} {H : Hp} {Q : VK} (ho : own elt = true) (ht : ∀ i ∈ tns tg, i ∈ ow) (h : tD C W (.lc ow tg it c elt) σ H Q) :
    tLc (tI C W it) (tG C.K tg) (tCs C WF c) (tD C WF elt) ow σ H Q := by
  obtain ⟨ρ, SV, hv, nd, h⟩ := h
  have h : tK C W σ SV H (RD C.K SV H ρ true false) ((evIt it ρ).bind fun items ρ1 =>
    match lcLoop (lcF ow tg c elt) items (wipeE ρ1 ow) with
    | .ok ys ρ2 => if ys.length ≤ lim then .ok (.lst true ys) ρ2 else .bad
    | .exc _ _ => .bad
    | .bad => .bad) Q := h
  refine ⟨ρ, SV, hv, nd, tK_bind0 h fun ds ρ1 J H1 SV1 e1 wk h1 Dn hD => ?_⟩
  cases hl : lcLoop (lcF ow tg c elt) ds (wipeE ρ1 ow) with
  | bad => rw [hl] at h1; exact h1.elim
  | exc x ρ' => rw [hl] at h1; exact h1.elim
  | ok YS ρE =>
    rw [hl] at h1
    have h1 : tK C W σ SV H (RD C.K SV H ρ true false) (if YS.length ≤ lim then .ok (.lst true YS) ρE else .bad) Q := h1
    by_cases hlim : YS.length ≤ lim
    case neg => rw [if_neg hlim] at h1; exact h1.elim
    rw [if_pos hlim] at h1
    have dV : Dn ∉ SV1 := fun z => by
      obtain ⟨o, eo, _⟩ := e1.vars.owns Dn z
      rw [hD] at eo; cases eo
    refine L2.lc_it wk.walk (fun i H' => ∃ ρi SVi acc accV S, EnvP C.K SV1 H1 (wipe σ ow) ρi H' SVi ∧ (∀ (j : Nat) d, ρi[j]? = some (some d) → j ∉ ow) ∧ H' Dn = some (.lst accV) ∧ Reps C.K H' acc accV S ∧ (Dn :: (S ++ SVi)).Nodup ∧ (∀ a ∈ S, a ∈ SV1 ∨ H1 a = none) ∧ ∃ ys, lcLoop (lcF ow tg c elt) (ds.drop i) ρi = .ok ys ρE ∧ acc ++ ys = YS) ?_ ?_ ?_ ?_
    · obtain ⟨SV2, v2, n2, s2⟩ := vars_wipe e1.vars e1.nd ow
      have x : Ext [] H1 (upd H1 Dn (.lst [])) := Ext.new hD
      exact ⟨wipeE ρ1 ow, SV2, [], [], [], ⟨v2.kp (x.all _), n2, fun a ha => .inl (s2 a ha), x.weak _⟩, fun j d e => wipeE_not e, upd_same, Reps.nil, List.nodup_cons.mpr ⟨fun z => dV (s2 _ z), n2⟩, fun a ha => absurd ha List.not_mem_nil, YS, hl, rfl⟩
    · rintro i H' _ ⟨ρi, SVi, acc, accV, S, e, _⟩
      exact e.ext.kp e1.vars.owns fun a ha => absurd ha List.not_mem_nil
    · rintro i x Ha Hb hi ⟨ρi, SVi, acc, accV, S, e, nov, hDa, ra, ndp, srcS, ys, hys, hacc⟩ y
      obtain ⟨x1, rd⟩ := y ds[i] (by simp [hi])
      rw [List.drop_eq_getElem_cons hi] at hys
      obtain ⟨xs, ρa, hf, hys⟩ := bind_ok (show ((lcF ow tg c elt ds[i] ρi).bind fun x ρ1 => (lcLoop (lcF ow tg c elt) (ds.drop (i + 1)) ρ1).bind fun r ρ2 => .ok (x ++ r) ρ2) = .ok ys ρE from hys)
      obtain ⟨r, ρ2, hr, hys⟩ := bind_ok hys
      cases hys
      obtain ⟨ρb, b, ρc, hb1, hb2, hb3⟩ := lcF_ok hf
      have eb : EnvP C.K SV1 H1 (wipe σ ow) ρi Hb SVi := e.tr (e.ext0 x1)
      obtain ⟨nD, ndS⟩ := List.nodup_cons.mp ndp
      refine ⟨ds[i], ρi, SVi, ρb, rd, eb.vars, eb.nd, hb1, fun σ2 SV2 v2 n2 s2 ag len => ?_⟩
      have e2 : EnvP C.K SV1 H1 σ2 ρb Hb SV2 := eb.tr (EnvP.sub v2 n2 s2)
      have hw : wipe σ2 ow = wipe σ ow := wipe_eq (by rw [len, wipe_length]) fun j hj => ag j fun z => hj (ht j z)
      refine ⟨hw, ρb, SV2, v2, n2, ?_⟩
      rw [hb2]
      rintro v Hc SV3 e3 rfl
      -- what the list holds stays apart
      have own : ∀ a ∈ Dn :: S, ∃ o, Hb a = some o := fun a ha => by
        rcases List.mem_cons.mp ha with z | z
        · rw [z]; exact ⟨_, x1 _ _ hDa List.not_mem_nil⟩
        · obtain ⟨o, ho, _⟩ := ra.owns acc a z
          exact ⟨o, x1 _ _ ho List.not_mem_nil⟩
      have ap2 : ∀ a ∈ Dn :: S, a ∉ SV2 := fun a ha z => by
        rcases List.mem_cons.mp ha with q | q
        · exact nD (List.mem_append_right _ (by rw [← q]; exact s2 a z))
        · exact (List.nodup_append.mp ndS).2.2 a q a (s2 a z) rfl
      have ap3 : ∀ a ∈ Dn :: S, a ∉ SV3 := fun a ha => by
        obtain ⟨o, ho⟩ := own a ha
        exact (e3.apart (ap2 a ha) ho).1
      have k3 : Kp (Dn :: S) Hb Hc := e3.ext.kp v2.owns ap2
      have hDb : Hb Dn = some (.lst accV) := x1 _ _ hDa List.not_mem_nil
      have hDc : Hc Dn = some (.lst accV) := k3 _ _ hDb (.inl List.mem_cons_self)
      have rb : Reps C.K Hb acc accV S := ra.kp acc (x1.all _)
      have rc : Reps C.K Hc acc accV S := rb.kp acc (k3.sub fun a ha => List.mem_cons_of_mem _ ha)
      have ec : EnvP C.K SV1 H1 σ2 ρc Hc SV3 := e2.tr e3
      rcases hb3 with ⟨rfl, y, ρd, he, rfl, rfl⟩ | ⟨rfl, rfl, rfl⟩
      · rw [if_pos rfl]
        refine ⟨ρc, SV3, e3.vars, e3.nd, ?_⟩
        rw [he]
        rintro v Hd SV4 e4 ⟨⟨T, rT⟩, _⟩
        have k4 : Kp (Dn :: S) Hc Hd := e4.ext.kp e3.vars.owns ap3
        have hDd : Hd Dn = some (.lst accV) := k4 _ _ hDc (.inl List.mem_cons_self)
        have rd' : Reps C.K Hd acc accV S := rc.kp acc (k4.sub fun a ha => List.mem_cons_of_mem _ ha)
        have srcT : ∀ a ∈ T, a ∈ SV1 ∨ H1 a = none := src_trans ec (rT.src ho)
        have apT : ∀ a ∈ T, a ≠ Dn ∧ a ∉ S := fun a ha => by
          have bad : a ∉ Dn :: S := fun z => by
            obtain ⟨o, hoz⟩ := own a z
            rcases rT.src ho a ha with q | q
            · exact ap3 a z q
            · have := k3 a o hoz (.inl z)
              rw [q] at this; cases this
          exact ⟨fun z => bad (by rw [z]; exact List.mem_cons_self), fun z => bad (List.mem_cons_of_mem _ z)⟩
        have ap4 : ∀ a ∈ Dn :: S, a ∉ SV4 := fun a ha => by
          obtain ⟨o, hoz⟩ := own a ha
          exact (e4.apart (ap3 a ha) (k3 a o hoz (.inl ha))).1
        have ed : EnvP C.K SV1 H1 σ2 ρd Hd SV4 := ec.tr e4
        obtain ⟨SV5, v5, n5, s5⟩ := vars_wipe e4.vars e4.nd ow
        rw [hw] at v5
        have nT := rT.sep ho
        have n4 : (Dn :: (S ++ SV4)).Nodup := by
          refine List.nodup_cons.mpr ⟨fun z => ?_, List.nodup_append.mpr ⟨(List.nodup_append.mp ndS).1, e4.nd, fun a ha b hb q => ap4 a (List.mem_cons_of_mem _ ha) (by rw [q]; exact hb)⟩⟩
          rcases List.mem_append.mp z with z | z
          · exact nD (List.mem_append_left _ z)
          · exact ap4 Dn List.mem_cons_self z
        have n9 := nodup_mid n4 nT apT
        have n10 : (Dn :: ((S ++ T) ++ SV5)).Nodup := by
          obtain ⟨q1, q2⟩ := List.nodup_cons.mp n9
          obtain ⟨q3, q4, q5⟩ := List.nodup_append.mp q2
          refine List.nodup_cons.mpr ⟨fun z => q1 ?_, List.nodup_append.mpr ⟨q3, n5, fun a ha b hb => q5 a ha b (s5 b hb)⟩⟩
          rcases List.mem_append.mp z with z | z
          · exact List.mem_append_left _ z
          · exact List.mem_append_right _ (s5 _ z)
        obtain ⟨q1, q2⟩ := List.nodup_cons.mp n10
        refine ⟨accV, hDd, ?_, ?_⟩
        · rw [← rd'.length]
          have : acc.length + 1 ≤ YS.length := by rw [← hacc]; simp
          have := lim_eq
          omega
        have mb : Mb (.lst accV) := True.intro
        have kU : Kp ((S ++ T) ++ SV5) Hd (upd Hd Dn (.lst (accV ++ [v]))) := kp_upd hDd mb q1
        refine ⟨wipeE ρd ow, SV5, acc ++ [y], accV ++ [v], S ++ T, ⟨v5.kp (kU.sub fun a ha => List.mem_append_right _ ha), n5, fun a ha => ed.src a (s5 a ha), fun a o ha hs => ?_⟩, fun j d e => wipeE_not e, upd_same, ?_, n10, fun a ha => ?_, r, hr, by rw [← hacc]; simp⟩
        · rw [upd_ne (fun z => by rw [z, hD] at ha; cases ha)]
          exact ed.ext a o ha hs
        · have r9 := rd'.app (Reps.cons (S2 := []) rT.rep Reps.nil)
          rw [List.append_nil] at r9
          exact r9.kp _ (kU.sub fun a ha => List.mem_append_left _ ha)
        · rcases List.mem_append.mp ha with z | z
          · exact srcS a z
          · exact srcT a z
      · rw [if_neg Bool.false_ne_true]
        obtain ⟨SV5, v5, n5, s5⟩ := vars_wipe e3.vars e3.nd ow
        rw [hw] at v5
        refine ⟨wipeE ρc ow, SV5, acc, accV, S, ⟨v5, n5, fun a ha => ec.src a (s5 a ha), ec.ext⟩, fun j d e => wipeE_not e, hDc, rc, ?_, srcS, r, hr, by rw [← hacc]; rfl⟩
        refine List.nodup_cons.mpr ⟨fun z => ?_, List.nodup_append.mpr ⟨(List.nodup_append.mp ndS).1, n5, fun a ha b hb q => ap3 a (List.mem_cons_of_mem _ ha) (by rw [q]; exact s5 b hb)⟩⟩
        rcases List.mem_append.mp z with z | z
        · exact nD (List.mem_append_left _ z)
        · exact ap3 Dn List.mem_cons_self (s5 _ z)
    · rintro H' ⟨ρi, SVi, acc, accV, S, e, nov, hDa, ra, ndp, srcS, ys, hys, hacc⟩
      rw [List.drop_length] at hys
      cases hys
      rw [List.append_nil] at hacc
      subst hacc
      have l1 := e1.vars.length
      have vv : Vars C.K H' ρE σ SVi := vars_agree e.vars (by rw [wipe_length]) fun j d hj => (wipe_get (nov j d hj)).symm
      have es : EnvP C.K SV1 H1 σ ρE H' SVi := ⟨vv, e.nd, e.src, e.ext⟩
      refine h1 (.ref Dn) H' SVi (e1.trans es) ⟨⟨Dn :: S, ⟨Dn, accV, S, rfl, hDa, ra, rfl⟩, (fun _ => src_trans e1 fun a ha => ?_), (fun _ => ndp)⟩, (fun z => nomatch z)⟩
      rcases List.mem_cons.mp ha with z | z
      · rw [z]; exact .inr hD
      · exact srcS a z
end Ly

namespace Ly
open PySem PySem.Spec L2
variable [Fns]
/-- the names P stand as they stood -/
structure Kept (P : List Nat) (σ σ' : St) : Prop where
  at_ : ∀ i ∈ P, σ'[i]? = σ[i]?
  len : σ'.length = σ.length
theorem Kept.refl {P : List Nat} {σ : St} : Kept P σ σ := ⟨fun _ _ => rfl, rfl⟩
theorem Kept.trans {P : List Nat} {σ σ1 σ2 : St} (a : Kept P σ σ1) (b : Kept P σ1 σ2) : Kept P σ σ2 := ⟨fun i h => (b.at_ i h).trans (a.at_ i h), b.len.trans a.len⟩
/-- a value is given back -/
def RtP (K : PySem.W.Frag) (SV : List Addr) (H : Hp) (d : D) (SV' : List Addr) (H' : Hp) (v : V) : Prop := ∃ S, Rep K H' d v S ∧ (∀ a ∈ S, a ∈ SV ∨ H a = none) ∧ (S ++ SV').Nodup
/-- what is asked of a statement's outcome -/
def sK (C : Cfg) (W : WX) (P : List Nat) (σ : St) (SV : List Addr) (H : Hp) (D : Ends) (m : Out Fl) : Prop :=
  match m with
  | .ok .nx ρ' => ∀ σ' H' SV', EnvP C.K SV H σ' ρ' H' SV' → Kept P σ σ' → D.nx σ' H'
  | .ok .bk ρ' => ∀ σ' H' SV', EnvP C.K SV H σ' ρ' H' SV' → Kept P σ σ' → D.bk σ' H'
  | .ok .ct ρ' => ∀ σ' H' SV', EnvP C.K SV H σ' ρ' H' SV' → Kept P σ σ' → D.ct σ' H'
  | .ok (.rt d) ρ' => ∀ v σ' H' SV', EnvP C.K SV H σ' ρ' H' SV' → Kept P σ σ' → RtP C.K SV H d SV' H' v → D.rt v H'
  | .exc x ρ' => ∀ cls dd σ' H' SV', EnvP C.K SV H σ' ρ' H' SV' → Kept P σ σ' → C.ER x cls dd H' → W cls dd σ' H'
  | .bad => False
section
variable {C : Cfg} {W : WX} {P : List Nat} {SV SV1 : List Addr} {H H1 : Hp} {σ σ1 : St} {ρ ρ1 : Ev} {D : Ends} {m : Out Fl}
theorem RtP.re {d : _} {SV' : List Addr} {H' : Hp} {v : V} (e1 : EnvP C.K SV H σ1 ρ1 H1 SV1) (r : RtP C.K SV1 H1 d SV' H' v) : RtP C.K SV H d SV' H' v := by
  obtain ⟨S, a, b, c⟩ := r
  exact ⟨S, a, src_trans e1 b, c⟩
/-- begun again behind a part -/
theorem sK_re (e1 : EnvP C.K SV H σ1 ρ1 H1 SV1) (k : Kept P σ σ1) (h : sK C W P σ SV H D m) : sK C W P σ1 SV1 H1 D m := by
  cases m with
  | bad => exact h
  | exc x ρ' => exact fun cls dd σ' H' SV' e k' er => h cls dd σ' H' SV' (e1.tr e) (k.trans k') er
  | ok f ρ' =>
    cases f with
    | nx => exact fun σ' H' SV' e k' => h σ' H' SV' (e1.tr e) (k.trans k')
    | bk => exact fun σ' H' SV' e k' => h σ' H' SV' (e1.tr e) (k.trans k')
    | ct => exact fun σ' H' SV' e k' => h σ' H' SV' (e1.tr e) (k.trans k')
    | rt d => exact fun v σ' H' SV' e k' r => h v σ' H' SV' (e1.tr e) (k.trans k') (r.re e1)
theorem sK_bind {α β : Type} {R : α → Ev → List Addr → Hp → β → Prop} {m : Out α} {f : α → Ev → Out Fl} {Q1 : β → Hp → Prop}
    (h : sK C W P σ SV H D (m.bind f)) (k : ∀ d ρ1 v H1 SV1, EnvP C.K SV H σ ρ1 H1 SV1 → R d ρ1 SV1 H1 v → sK C W P σ SV H D (f d ρ1) → Q1 v H1) : tK C W σ SV H R m Q1 := by
  cases m with
  | bad => exact h
  | exc x ρ' => exact fun cls dd H' SV' e er => h cls dd σ H' SV' e .refl er
  | ok d ρ1 => exact fun v H1 SV1 e1 r1 => k d ρ1 v H1 SV1 e1 r1 h
theorem sK_lift {α : Type} {o : Option α} {f : α → Ev → Out Fl} (h : sK C W P σ SV H D ((liftO o ρ).bind f)) : ∃ z, o = some z ∧ sK C W P σ SV H D (f z ρ) := by
  cases o with
  | none => exact h.elim
  | some z => exact ⟨z, rfl, h⟩
end
def tS (C : Cfg) (W : WX) (P : List Nat) (b : S) : TS := fun D σ H => ∃ ρ SV, Vars C.K H ρ σ SV ∧ SV.Nodup ∧ sK C W P σ SV H D (ex b ρ)
def tSs (C : Cfg) (W : WX) (P : List Nat) (b : Ss) : TS := fun D σ H => ∃ ρ SV, Vars C.K H ρ σ SV ∧ SV.Nodup ∧ sK C W P σ SV H D (exs b ρ)
theorem psmono {X : Cx} {st : Stmt} {t t' : TS} (h : PS X st t) (k : ∀ D σ H, t' D σ H → t D σ H) : PS X st t' := ⟨fun pins s σ H D I q => h.run pins s σ H D I (k D σ H q)⟩
theorem pssmono {X : Cx} {st : List Stmt} {t t' : TS} (h : PSs X st t) (k : ∀ D σ H, t' D σ H → t D σ H) : PSs X st t' := ⟨fun pins s σ H D I q => h.run pins s σ H D I (k D σ H q)⟩
section
variable {X : Cx} {C : Cfg} {W : WX} {P : List Nat} {st : Stmt} {sts : List Stmt} {pos : Pos} {e : Expr} {e' : E} {b : S} {bs : Ss}
theorem ss_nil : PSs X [] (tSs C W P .nil) := pssmono pss_nil fun D σ H ⟨ρ, SV, hv, nd, h⟩ => h σ H SV (.refl hv nd) .refl
theorem ss_cons (h1 : PS X st (tS C W P b)) (h2 : PSs X sts (tSs C W P bs)) : PSs X (st :: sts) (tSs C W P (.cons b bs)) := by
  refine pssmono (pss_cons h1 h2) fun D σ H ⟨ρ, SV, hv, nd, h⟩ => ⟨ρ, SV, hv, nd, ?_⟩
  have h : sK C W P σ SV H D (match ex b ρ with | .ok .nx ρ' => exs bs ρ' | r => r) := h
  cases hx : ex b ρ with
  | bad => rw [hx] at h; exact h
  | exc x ρ' => rw [hx] at h; exact h
  | ok f ρ' =>
    rw [hx] at h
    cases f with
    | nx => exact fun σ' H' SV' e k => ⟨ρ', SV', e.vars, e.nd, sK_re e k h⟩
    | bk => exact h
    | ct => exact h
    | rt d => exact h
theorem s_pass : PS X (.Pass pos) (tS C W P .pass) := psmono ps_pass fun D σ H ⟨ρ, SV, hv, nd, h⟩ => h σ H SV (.refl hv nd) .refl
theorem s_doc {x j pos'} : PS X (.Expr (.Constant (.str x) j pos) pos') (tS C W P .pass) := psmono ps_doc fun D σ H ⟨ρ, SV, hv, nd, h⟩ => h σ H SV (.refl hv nd) .refl
theorem s_brk : PS X (.Break pos) (tS C W P .brk) := psmono ps_break fun D σ H ⟨ρ, SV, hv, nd, h⟩ => h σ H SV (.refl hv nd) .refl
theorem s_cnt : PS X (.Continue pos) (tS C W P .cnt) := psmono ps_continue fun D σ H ⟨ρ, SV, hv, nd, h⟩ => h σ H SV (.refl hv nd) .refl
theorem s_retN : PS X (.Return none pos) (tS C W P .retN) := psmono ps_retN fun D σ H ⟨ρ, SV, hv, nd, h⟩ => h .non σ H SV (.refl hv nd) .refl ⟨[], ⟨rfl, rfl⟩, (fun a ha => absurd ha List.not_mem_nil), nd⟩
theorem s_expr (he : PE X e (tD C W e')) (hs : swapsWith e none pos.line X.env = pure false) : PS X (.Expr e pos) (tS C W P (.expr e')) := by
  refine psmono (ps_expr he hs) fun D σ H ⟨ρ, SV, hv, nd, h⟩ => ⟨ρ, SV, hv, nd, ?_⟩
  exact sK_bind (show sK C W P σ SV H D ((ev e' ρ).bind fun _ ρ => .ok .nx ρ) from h) fun d ρ1 v H1 SV1 e1 _ h1 => h1 σ H1 SV1 e1 .refl
theorem s_ret (ho : own e' = true) (he : PE X e (tD C W e')) : PS X (.Return (some e) pos) (tS C W P (.ret e')) := by
  refine psmono (ps_ret he) fun D σ H ⟨ρ, SV, hv, nd, h⟩ => ⟨ρ, SV, hv, nd, ?_⟩
  exact sK_bind (show sK C W P σ SV H D ((ev e' ρ).bind fun d ρ => .ok (.rt d) ρ) from h) fun d ρ1 v H1 SV1 e1 ⟨⟨S, r⟩, _⟩ h1 => h1 v σ H1 SV1 e1 .refl ⟨S, r.rep, r.src ho, r.sep ho⟩
/-- a name set -/
theorem envp_set {K : PySem.W.Frag} {SV SV1 S : List Addr} {H H1 : Hp} {σ : St} {ρ1 : Ev} {d : D} {v : V} (i : Nat) (e1 : EnvP K SV H σ ρ1 H1 SV1) (rep : Rep K H1 d v S) (src : ∀ a ∈ S, a ∈ SV ∨ H a = none) (sep : (S ++ SV1).Nodup) : ∃ SV2, EnvP K SV H (σ.set i (some v)) (ρ1.set i (some d)) H1 SV2 ∧ ∀ a ∈ SV2, a ∈ S ++ SV1 := by
  obtain ⟨SV2, v2, n2, s2⟩ := vars_set i e1.vars rep sep
  refine ⟨SV2, ⟨v2, n2, fun a ha => ?_, e1.ext⟩, s2⟩
  rcases List.mem_append.mp (s2 a ha) with h | h
  · exact src a h
  · exact e1.src a h
theorem kept_set {σ : St} {i : Nat} {x : Option V} (h : i ∉ P) : Kept P σ (σ.set i x) := ⟨fun j hj => List.getElem?_set_ne (fun e => h (by rw [e]; exact hj)), by simp⟩
theorem s_asg {i : Nat} {x : Str} {pos' : Pos} (ho : own e' = true) (hP : i ∉ P) (hN : X.N.Nodup) (hi : X.N[i]? = some x) (hx : Loc X.env.scope x) (hf : X.fn x = true ∨ X.env.scope.names.lookup x = some .local) (he : PE X e (tD C W e')) (hs : swapsWith e (some (.Name x pos')) pos.line X.env = pure false) :
    PS X (.Assign [.Name x pos'] e pos) (tS C W P (.asg i e')) := by
  refine psmono (ps_set hN hi hx he hs hf) fun D σ H ⟨ρ, SV, hv, nd, h⟩ => ⟨ρ, SV, hv, nd, ?_⟩
  exact sK_bind (show sK C W P σ SV H D ((ev e' ρ).bind fun d ρ => .ok .nx (ρ.set i (some d))) from h) fun d ρ1 v H1 SV1 e1 ⟨⟨S, r⟩, _⟩ h1 => by
    obtain ⟨SV2, e2, _⟩ := envp_set i e1 r.rep (r.src ho) (r.sep ho)
    exact h1 _ H1 SV2 e2 (kept_set hP)
/-- y = [..] on one line -/
theorem s_asgLc {i : Nat} {y : Str} {py : Pos} {elt tg iter : Expr} {ifs : List Expr} {scope : Scope} {ow : List (Str × Nat)} {spos : Pos} {tg' : Tg} {it : It} {c : Es} {elt' : E} (ho : own elt' = true) (ht : ∀ i ∈ tns tg', i ∈ ow.map (·.2)) (hP : i ∉ P) (hc : X.calm = true) (hN : X.N.Nodup) (hy : X.N[i]? = some y) (hyl : X.env.scope.names.lookup y = some .local)
    (hsw : swapsWith (.ListComp elt [⟨tg, iter, ifs, 0⟩] scope pos) (some (.Name y py)) spos.line X.env = pure true) (hi : PI X tg iter (tI C W it)) (ok : BlkOk X.N X.env.scope scope ow)
    (hg : ∀ (s : Shared) (H : Hp) (Cc : Addr) (cl : List (Str × Addr)) (fp : List Addr), PG (X.blk s H scope (compEnvC scope cl Cc X.env) fp) tg (tG C.K tg')) (htt : ∀ (s : Shared) (H : Hp) (Cc : Addr) (cl : List (Str × Addr)) (fp : List Addr), PTs (X.blk s H scope (compEnvC scope cl Cc X.env) fp) ifs (tCs C WF c))
    (he : ∀ (s : Shared) (H : Hp) (Cc : Addr) (cl : List (Str × Addr)) (fp : List Addr), PE (X.blk s H scope (compEnvC scope cl Cc X.env) fp) elt (tD C WF elt')) (hs : ∀ x, foldedSetIterable iter X.env x = pure x) :
    PS X (.Assign [.Name y py] (.ListComp elt [⟨tg, iter, ifs, 0⟩] scope pos) spos) (tS C W P (.asg i (.lc (ow.map (·.2)) tg' it c elt'))) := by
  refine psmono (ps_setLc hc hN hy hyl hsw hi ok hg htt he hs) fun D σ H ⟨ρ, SV, hv, nd, h⟩ => lc_read ho ht ⟨ρ, SV, hv, nd, ?_⟩
  exact sK_bind (R := RD C.K SV H ρ true false) (show sK C W P σ SV H D ((ev (.lc (ow.map (·.2)) tg' it c elt') ρ).bind fun d ρ => .ok .nx (ρ.set i (some d))) from h) fun d ρ1 v H1 SV1 e1 ⟨⟨S, r⟩, _⟩ h1 => by
    obtain ⟨SV2, e2, _⟩ := envp_set i e1 r.rep (r.src rfl) (r.sep rfl)
    exact h1 _ H1 SV2 e2 (kept_set hP)
theorem se_lc {elt tg iter : Expr} {ifs : List Expr} {scope : Scope} {ow : List (Str × Nat)} {tg' : Tg} {it : It} {c : Es} {elt' : E} (ho : own elt' = true) (ht : ∀ i ∈ tns tg', i ∈ ow.map (·.2)) (hc : X.calm = true) (hN : X.N.Nodup) (hi : PI X tg iter (tI C W it)) (ok : BlkOk X.N X.env.scope scope ow)
    (hg : ∀ (s : Shared) (H : Hp) (Cc : Addr) (cl : List (Str × Addr)) (fp : List Addr), PG (X.blk s H scope (compEnvC scope cl Cc X.env) fp) tg (tG C.K tg')) (htt : ∀ (s : Shared) (H : Hp) (Cc : Addr) (cl : List (Str × Addr)) (fp : List Addr), PTs (X.blk s H scope (compEnvC scope cl Cc X.env) fp) ifs (tCs C WF c))
    (he : ∀ (s : Shared) (H : Hp) (Cc : Addr) (cl : List (Str × Addr)) (fp : List Addr), PE (X.blk s H scope (compEnvC scope cl Cc X.env) fp) elt (tD C WF elt')) (hs : ∀ x, foldedSetIterable iter X.env x = pure x) :
    PE X (.ListComp elt [⟨tg, iter, ifs, 0⟩] scope pos) (tD C W (.lc (ow.map (·.2)) tg' it c elt')) := pemono (pe_lc hc hN hi ok hg htt he hs) fun σ H Q h => lc_read ho ht h
/-- (a, b) = e -/
theorem s_asgT {tg : Expr} {ts : Tgs} (hP : ∀ i ∈ tnss ts, i ∉ P) (he : PE X e (tD C W e')) (hg : PG X tg (tG C.K (.tp ts))) (hs : swapsWithSole [tg] e pos.line X.env = pure false) (hw : swappedStores [tg] e X.env = pure none) (h1 : (assignEach [tg] X.env).map (·.2) = [assign tg X.env]) :
    PS X (.Assign [tg] e pos) (tS C W P (.asgT (.tp ts) e')) := by
  refine psmono (ps_asg he hg hs hw h1) fun D σ H ⟨ρ, SV, hv, nd, h⟩ => ⟨ρ, SV, hv, nd, ?_⟩
  refine sK_bind (show sK C W P σ SV H D ((ev e' ρ).bind fun d ρ => (match bindT (.tp ts) d ρ with | some ρ' => .ok .nx ρ' | none => .bad)) from h) fun d ρ1 v H1 SV1 e1 ⟨⟨S, r⟩, _⟩ h1 => ?_
  cases hb : bindT (.tp ts) d ρ1 with
  | none => rw [hb] at h1; exact h1.elim
  | some ρ2 =>
    rw [hb] at h1
    have hf : frzD d = true := by
      cases d with
      | tup _ => rfl
      | lst o _ => cases o with | true => cases hb | false => rfl
      | _ => cases hb
    have := r.rep.frz hf
    subst this
    refine ⟨d, ρ1, SV1, ρ2, r.rep, e1.vars, e1.nd, hb, fun σ' SV' v' n' s' ag l => ?_⟩
    exact h1 σ' H1 SV' (e1.tr (EnvP.sub v' n' s')) ⟨fun i hi => ag i fun z => hP i z hi, l⟩
/-- a, b = x, y -/
theorem s_asgP {i j : Nat} {x y : Str} {a b : Expr} {a' b' : E} {px py pt : Pos} {kt k2 pt2} (hPi : i ∉ P) (hPj : j ∉ P) (hc : X.calm = true) (hN : X.N.Nodup) (hi : X.N[i]? = some x) (hj : X.N[j]? = some y) (hij : i ≠ j)
    (hx : X.env.scope.names.lookup x = some .local) (hy : X.env.scope.names.lookup y = some .local) (ha : PA X [a, b] (tA C W (.cons a' (.cons b' .nil))))
    (hw : swappedStores [.Tuple [.Name x px, .Name y py] kt pt] (.Tuple [a, b] k2 pt2) X.env = pure (some [x, y]))
    (hs : swapsWithSole [.Tuple [.Name x px, .Name y py] kt pt] (.Tuple [a, b] k2 pt2) pos.line X.env = pure false) :
    PS X (.Assign [.Tuple [.Name x px, .Name y py] kt pt] (.Tuple [a, b] k2 pt2) pos) (tS C W P (.asgP i j a' b')) := by
  refine psmono (ps_par hc hN hi hj hij hx hy ha hw hs) fun D σ H ⟨ρ, SV, hv, nd, h⟩ => ⟨ρ, SV, hv, nd, ?_⟩
  have h : sK C W P σ SV H D ((ev a' ρ).bind fun x ρ => (ev b' ρ).bind fun y ρ => .ok .nx ((ρ.set i (some x)).set j (some y))) := h
  have h2 : sK C W P σ SV H D ((evs (.cons a' (.cons b' .nil)) ρ).bind fun ds ρ => match ds with | [x, y] => .ok .nx ((ρ.set i (some x)).set j (some y)) | _ => .bad) := by
    have e : evs (.cons a' (.cons b' .nil)) ρ = (ev a' ρ).bind fun d ρ => ((ev b' ρ).bind fun d ρ => .ok [d] ρ).bind fun ds ρ => .ok (d :: ds) ρ := rfl
    rw [e]
    cases hev : ev a' ρ with
    | bad => rw [hev] at h; exact h
    | exc x ρ1 => rw [hev] at h; exact h
    | ok d ρ1 =>
      rw [hev] at h
      have h : sK C W P σ SV H D ((ev b' ρ1).bind fun y ρ => .ok .nx ((ρ.set i (some d)).set j (some y))) := h
      show sK C W P σ SV H D ((((ev b' ρ1).bind fun d ρ => .ok [d] ρ).bind fun ds ρ => .ok (d :: ds) ρ).bind _)
      cases hev2 : ev b' ρ1 <;> rw [hev2] at h <;> exact h
  refine sK_bind h2 fun ds ρ1 vs H1 SV1 e1 ⟨⟨S, r1⟩, _⟩ h1 => ?_
  have hsep := r1.sep
  have hsrc := r1.src
  cases r1.rep with
  | @cons _ _ d ds v vs S T rd t =>
    cases t with
    | @cons _ _ d2 ds v2 vs S2 T2 rd2 t =>
      cases t
      rw [List.append_nil] at hsep hsrc
      rw [List.append_assoc] at hsep
      obtain ⟨n1, n2, n3⟩ := List.nodup_append.mp hsep
      refine ⟨v, v2, rfl, ?_⟩
      have sepA : (S ++ SV1).Nodup := List.nodup_append.mpr ⟨n1, e1.nd, fun a ha b hb => n3 a ha b (List.mem_append_right _ hb)⟩
      obtain ⟨SV2, e2, m2⟩ := envp_set i e1 rd (fun a ha => hsrc a (List.mem_append_left _ ha)) sepA
      have sepB : (S2 ++ SV2).Nodup := List.nodup_append.mpr ⟨(List.nodup_append.mp n2).1, e2.nd, fun a ha b hb q => by
        subst q
        rcases List.mem_append.mp (m2 a hb) with z | z
        · exact n3 a z a (List.mem_append_left _ ha) rfl
        · exact (List.nodup_append.mp n2).2.2 a ha a z rfl⟩
      obtain ⟨SV3, e3, m3⟩ := envp_set j e2 rd2 (fun a ha => hsrc a (List.mem_append_right _ ha)) sepB
      exact h1 _ H1 SV3 e3 ((kept_set hPi).trans (kept_set hPj))
/-- x op= e, numbers -/
def ipOp : Operator → Option O2
  | .Add => some .add
  | .Sub => some .sub
  | _ => none
theorem s_aug {i : Nat} {x : Str} {op : Operator} {o : O2} {pos' : Pos} (hop : ipOp op = some o) (hP : i ∉ P) (hN : X.N.Nodup) (hi : X.N[i]? = some x) (hx : Loc X.env.scope x) (hf : X.fn x = true ∨ X.env.scope.names.lookup x = some .local) (he : PE X e (tD C W e')) :
    PS X (.AugAssign (.Name x pos') op e pos) (tS C W P (.aug i o e')) := by
  have key : ∃ f : Int → Int → Int, PIp X op (ipI f) ∧ (∀ m n, o.sem (.int m) (.int n) = some (.int (f m n))) := by
    cases op <;> first | (cases hop; exact ⟨_, ip_add, fun _ _ => rfl⟩) | (cases hop; exact ⟨_, ip_sub, fun _ _ => rfl⟩) | cases hop
  obtain ⟨f, hip, hsem⟩ := key
  refine psmono (ps_aug hN hi hx he hip hf) fun D σ H ⟨ρ, SV, hv, nd, h⟩ => ?_
  have h : sK C W P σ SV H D (match getV ρ i with
    | some (.int m) => (ev e' ρ).bind fun y ρ => (match y with | .int n => (match o.sem (.int m) (.int n) with | some z => .ok .nx (ρ.set i (some z)) | none => .bad) | _ => .bad)
    | _ => .bad) := h
  cases hg : getV ρ i with
  | none => rw [hg] at h; exact h.elim
  | some d =>
    rw [hg] at h
    cases d with
    | int m =>
      obtain ⟨v, S, R, ev1, rv, _⟩ := var_at hv hg
      refine ⟨v, ev1, ρ, SV, hv, nd, sK_bind h fun y ρ1 w H1 SV1 e1 ⟨⟨T, r⟩, _⟩ h1 => ?_⟩
      cases y with
      | int n =>
        have h1 : sK C W P σ SV H D (match o.sem (.int m) (.int n) with | some z => .ok .nx (ρ1.set i (some z)) | none => .bad) := h1
        rw [hsem] at h1
        refine ⟨m, n, rv.1, r.rep.1, ?_⟩
        obtain ⟨SV2, e2, _⟩ := envp_set (d := .int (f m n)) (v := .int (f m n)) (S := []) i e1 ⟨rfl, rfl⟩ (fun a ha => absurd ha List.not_mem_nil) e1.nd
        exact h1 _ H1 SV2 e2 (kept_set hP)
      | _ => exact h1.elim
    | _ => exact h.elim
/-- if -/
theorem s_iff {c : Expr} {c' : E} {as bs : List Stmt} {as' bs' : Ss} (hc : PT X c (tT C W c')) (ha : PSs X as (tSs C W P as')) (hb : PSs X bs (tSs C W P bs')) : PS X (.If c as bs pos) (tS C W P (.iff c' as' bs')) := by
  refine psmono (ps_if hc ha hb) fun D σ H ⟨ρ, SV, hv, nd, h⟩ => ⟨ρ, SV, hv, nd, ?_⟩
  have h : sK C W P σ SV H D ((ev c' ρ).bind fun x ρ => (match truth x with | some true => exs as' ρ | some false => exs bs' ρ | none => .bad)) := h
  have h2 : sK C W P σ SV H D ((evT c' ρ).bind fun x ρ => if x = true then exs as' ρ else exs bs' ρ) := by
    unfold evT
    cases hx : ev c' ρ with
    | bad => rw [hx] at h; exact h
    | exc x ρ' => rw [hx] at h; exact h
    | ok x ρ' =>
      rw [hx] at h
      have h : sK C W P σ SV H D (match truth x with | some true => exs as' ρ' | some false => exs bs' ρ' | none => .bad) := h
      show sK C W P σ SV H D ((liftO (truth x) ρ').bind _)
      cases ht : truth x with
      | none => rw [ht] at h; exact h
      | some t => rw [ht] at h; cases t <;> exact h
  refine sK_bind h2 fun t ρ1 v H1 SV1 e1 ⟨r, _⟩ h1 => ?_
  subst r
  cases v with
  | true => rw [if_pos rfl] at h1 ⊢; exact ⟨ρ1, SV1, e1.vars, e1.nd, sK_re e1 .refl h1⟩
  | false => rw [if_neg Bool.false_ne_true] at h1 ⊢; exact ⟨ρ1, SV1, e1.vars, e1.nd, sK_re e1 .refl h1⟩
/-- while -/
theorem s_whl {c : Expr} {c' : E} {bs : List Stmt} {bs' : Ss} (hp : PassesOwn (model X.prog X.w) X.A X.env X.xe) (hc : PT X c (tT C W c')) (hb : PSs X bs (tSs C W P bs')) : PS X (.While c bs [] pos) (tS C W P (.whl c' bs')) := by
  refine psmono (ps_while hp hc hb) fun D σ H ⟨ρ, SV, hv, nd, h⟩ => ?_
  refine ⟨fun m σ H => ∃ ρ SV, Vars C.K H ρ σ SV ∧ SV.Nodup ∧ sK C W P σ SV H D (whLoop (ev c') (exs bs') m ρ), ⟨FUEL, ρ, SV, hv, nd, h⟩, ?_⟩
  rintro m σ H ⟨ρ, SV, hv, nd, h⟩
  cases m with
  | zero => exact h.elim
  | succ m =>
    have h2 : sK C W P σ SV H D ((evT c' ρ).bind fun t ρ1 => if t = true then (match exs bs' ρ1 with
        | .ok .nx ρ2 => whLoop (ev c') (exs bs') m ρ2
        | .ok .ct ρ2 => whLoop (ev c') (exs bs') m ρ2
        | .ok .bk ρ2 => .ok .nx ρ2
        | .ok (.rt v) ρ2 => .ok (.rt v) ρ2
        | .exc x ρ2 => .exc x ρ2
        | .bad => .bad) else .ok .nx ρ1) := by
      unfold whLoop at h
      unfold evT
      cases hx : ev c' ρ with
      | bad => rw [hx] at h; exact h
      | exc x ρ' => rw [hx] at h; exact h
      | ok x ρ' =>
        rw [hx] at h
        show sK C W P σ SV H D ((liftO (truth x) ρ').bind _)
        cases ht : truth x with
        | none => simp only [ht] at h; exact h
        | some t => simp only [ht] at h; cases t <;> exact h
    refine ⟨ρ, SV, hv, nd, sK_bind h2 fun t ρ1 v H1 SV1 e1 ⟨r, _⟩ h1 => ?_⟩
    subst r
    cases v with
    | false => rw [if_neg Bool.false_ne_true] at h1 ⊢; exact h1 σ H1 SV1 e1 .refl
    | true =>
      rw [if_pos rfl] at h1 ⊢
      refine ⟨fun σ H => ∃ ρ SV, Vars C.K H ρ σ SV ∧ SV.Nodup ∧ sK C W P σ SV H D (whLoop (ev c') (exs bs') m ρ), fun σ' H' q => ⟨m, Nat.lt_succ_self m, q⟩, ρ1, SV1, e1.vars, e1.nd, ?_⟩
      have h1 := sK_re e1 .refl h1
      cases hx : exs bs' ρ1 with
      | bad => rw [hx] at h1; exact h1
      | exc x ρ' => rw [hx] at h1; exact h1
      | ok f ρ2 =>
        rw [hx] at h1
        cases f with
        | nx => exact fun σ' H' SV' e k => ⟨ρ2, SV', e.vars, e.nd, sK_re e k h1⟩
        | ct => exact fun σ' H' SV' e k => ⟨ρ2, SV', e.vars, e.nd, sK_re e k h1⟩
        | bk => exact h1
        | rt d => exact h1
/-- for -/
theorem s_for {tg iter : Expr} {tg' : Tg} {it : It} {bs : List Stmt} {bs' : Ss} (hP : ∀ i ∈ tns tg', i ∉ P) (hp : PassesOwn (model X.prog X.w) X.A X.env X.xe) (hc : X.calm = true) (hi : PI X tg iter (tI C W it)) (hg : PG X tg (tG C.K tg')) (hb : PSs X bs (tSs C W P bs')) (hs : ∀ x, foldedSetIterable iter X.env x = pure x) :
    PS X (.For tg iter bs [] pos) (tS C W P (.forr tg' it bs')) := by
  refine psmono (ps_for hp hc hi hg hb hs) fun D σ H ⟨ρ, SV, hv, nd, h⟩ => ?_
  have h : sK C W P σ SV H D ((evIt it ρ).bind fun items ρ => forLoop tg' (exs bs') items ρ) := h
  refine ⟨ρ, SV, hv, nd, sK_bind h fun ds ρ1 J H1 SV1 e1 wk h1 => ?_⟩
  have h1 := sK_re e1 .refl h1
  refine L2.for_it wk.walk (fun i σ' H' => ∃ ρ' SV', EnvP C.K SV1 H1 σ' ρ' H' SV' ∧ sK C W P σ' SV' H' D (forLoop tg' (exs bs') (ds.drop i) ρ')) ⟨ρ1, SV1, .refl e1.vars e1.nd, h1⟩ ?_ ?_ ?_
  · rintro i σ' H' _ ⟨ρ', SV', e, _⟩
    exact e.ext.kp e1.vars.owns fun a ha => absurd ha List.not_mem_nil
  · rintro i x σ' Ha Hb hi' ⟨ρi, SVi, e, hk⟩ y
    obtain ⟨x1, rd⟩ := y ds[i] (by simp [hi'])
    rw [List.drop_eq_getElem_cons hi'] at hk
    have ei : EnvP C.K SVi Ha σ' ρi Hb SVi := (EnvP.refl e.vars e.nd).ext0 x1
    have hk : sK C W P σ' SVi Ha D (match bindT tg' ds[i] ρi with
      | none => .bad
      | some ρ1 => match exs bs' ρ1 with
        | .ok .nx ρ2 => forLoop tg' (exs bs') (ds.drop (i + 1)) ρ2
        | .ok .ct ρ2 => forLoop tg' (exs bs') (ds.drop (i + 1)) ρ2
        | .ok .bk ρ2 => .ok .nx ρ2
        | .ok (.rt v) ρ2 => .ok (.rt v) ρ2
        | .exc x ρ2 => .exc x ρ2
        | .bad => .bad) := hk
    cases hbd : bindT tg' ds[i] ρi with
    | none => rw [hbd] at hk; exact hk.elim
    | some ρb =>
      rw [hbd] at hk
      refine ⟨ds[i], ρi, SVi, ρb, rd, ei.vars, ei.nd, hbd, fun σ2 SV2 v2 n2 s2 ag len => ⟨ρb, SV2, v2, n2, ?_⟩⟩
      have e2 : EnvP C.K SVi Ha σ2 ρb Hb SV2 := ei.tr (EnvP.sub v2 n2 s2)
      have k2 : Kept P σ' σ2 := ⟨fun j hj => ag j fun z => hP j z hj, len⟩
      have hk := sK_re e2 k2 hk
      dsimp only at hk
      have e3 : EnvP C.K SV1 H1 σ2 ρb Hb SV2 := e.tr e2
      cases hx : exs bs' ρb with
      | bad => rw [hx] at hk; exact hk
      | exc x ρ' => rw [hx] at hk; exact hk
      | ok f ρ2 =>
        rw [hx] at hk
        cases f with
        | nx => exact fun σ' H' SV' e k => ⟨ρ2, SV', e3.tr e, sK_re e k hk⟩
        | ct => exact fun σ' H' SV' e k => ⟨ρ2, SV', e3.tr e, sK_re e k hk⟩
        | bk => exact hk
        | rt d => exact hk
  · rintro σ' H' ⟨ρi, SVi, e, hk⟩
    rw [List.drop_length] at hk
    exact hk σ' H' SVi (.refl e.vars e.nd) .refl
end
end Ly

namespace Ly
open PySem PySem.Spec L2
variable [Fns]
section
variable {K : PySem.W.Frag} {SV SV1 : List Addr} {H H1 : Hp} {σ : St} {ρ ρ1 : Ev}
/-- the object at a of the name i is written -/
theorem obj_write {i : Nat} {a : Addr} {S' S2 R : List Addr} {o o2 : HO} {d2 : D} (e1 : EnvP K SV H σ ρ1 H1 SV1) (f : Foc K H1 ρ1 σ SV1 i (a :: S') R) (hσ : σ[i]? = some (some (.ref a))) (ho : H1 a = some o) (m : Mb o)
    (rep : Rep K (upd H1 a o2) d2 (.ref a) (a :: S2)) (nd : (a :: (S2 ++ R)).Nodup) (src : ∀ b ∈ S2, b ∈ SV ∨ H b = none) :
    ∃ SV2, EnvP K SV H σ (ρ1.set i (some d2)) (upd H1 a o2) SV2 ∧ SV2.Perm (a :: (S2 ++ R)) := by
  have aR : a ∉ R := fun z => (List.nodup_cons.mp nd).1 (List.mem_append_right _ z)
  have kR : Kp R H1 (upd H1 a o2) := kp_upd ho m aR
  obtain ⟨SV2, v2, p2⟩ := f.set _ d2 _ _ kR rep
  rw [set_same hσ] at v2
  have p2' : SV2.Perm (a :: (S2 ++ R)) := p2
  have a1 : a ∈ SV1 := f.perm.mem_iff.mpr (List.mem_append_left _ List.mem_cons_self)
  refine ⟨SV2, ⟨v2, p2'.nodup_iff.mpr nd, fun b hb => ?_, fun b u hb hs => ?_⟩, p2'⟩
  · rcases List.mem_cons.mp (p2'.mem_iff.mp hb) with z | z
    · rw [z]; exact e1.src a a1
    · rcases List.mem_append.mp z with z | z
      · exact src b z
      · exact e1.src b (f.perm.mem_iff.mpr (List.mem_append_right _ z))
  · rw [upd_ne (fun z => ?_)]
    · exact e1.ext b u hb hs
    · subst z
      rcases e1.src b a1 with q | q
      · exact hs q
      · rw [hb] at q; cases q
/-- an own list of a name -/
theorem lst_at {i : Nat} {xs : List D} (hv : Vars K H ρ σ SV) (h : getV ρ i = some (.lst true xs)) : ∃ a vs S' R, σ[i]? = some (some (.ref a)) ∧ H a = some (.lst vs) ∧ Reps K H xs vs S' ∧ Foc K H ρ σ SV i (a :: S') R := by
  obtain ⟨v, S, R, e1, r, f⟩ := var_at hv h
  obtain ⟨a, vs, S', rfl, q, rs, rfl⟩ := r
  exact ⟨a, vs, S', R, e1, q, rs, f⟩
theorem isL_some {i : Nat} (h : isL ρ i = true) : ∃ xs, getV ρ i = some (.lst true xs) := by
  unfold isL at h
  split at h
  · rename_i xs e; exact ⟨xs, e⟩
  · cases h
theorem Reps.split : ∀ {ds : List D} {vs : List V} {S : List Addr} {k : Nat} {d : D}, Reps K H ds vs S → ds[k]? = some d → ∃ v T R, vs[k]? = some v ∧ Rep K H d v T ∧ S.Perm (T ++ R) ∧ Reps K H (ds.eraseIdx k) (vs.eraseIdx k) R ∧ ∀ d' v' T', Rep K H d' v' T' → ∃ S2, Reps K H (ds.set k d') (vs.set k v') S2 ∧ S2.Perm (T' ++ R)
  | [], _, _, _, _, _, h => by simp at h
  | e :: ds, _, _, 0, d, h, hk => by
    obtain ⟨v, r, S1, S2, rfl, q1, q2, rfl⟩ := h
    cases (show e = d by simpa using hk)
    exact ⟨v, S1, S2, rfl, q1, .refl _, q2, fun d' v' T' r' => ⟨T' ++ S2, Reps.cons r' q2, .refl _⟩⟩
  | e :: ds, _, _, k + 1, d, h, hk => by
    obtain ⟨v, r, S1, S2, rfl, q1, q2, rfl⟩ := h
    obtain ⟨v1, T, R, h1, h2, h3, h4, h5⟩ := Reps.split (k := k) q2 (by simpa using hk)
    refine ⟨v1, T, S1 ++ R, by simpa using h1, h2, ?_, Reps.cons q1 h4, fun d' v' T' r' => ?_⟩
    · refine (h3.append_left S1).trans ?_
      rw [← List.append_assoc, ← List.append_assoc]
      exact (List.perm_append_comm).append_right R
    · obtain ⟨S3, h6, h7⟩ := h5 d' v' T' r'
      refine ⟨S1 ++ S3, Reps.cons q1 h6, (h7.append_left S1).trans ?_⟩
      rw [← List.append_assoc, ← List.append_assoc]
      exact (List.perm_append_comm).append_right R
end
section
variable {X : Cx} {C : Cfg} {W : WX} {P : List Nat} {pos : Pos} {e : Expr} {e' : E}
theorem sK_bind2 {α β : Type} {SV SV1 : List Addr} {H H1 : Hp} {σ : St} {ρ1 : Ev} {D : Ends} {R : α → Ev → List Addr → Hp → β → Prop} {m : Out α} {f : α → Ev → Out Fl} {Q1 : β → Hp → Prop} (e1 : EnvP C.K SV H σ ρ1 H1 SV1)
    (h : sK C W P σ SV H D (m.bind f)) (k : ∀ d ρ2 v H2 SV2, EnvP C.K SV1 H1 σ ρ2 H2 SV2 → R d ρ2 SV2 H2 v → sK C W P σ SV H D (f d ρ2) → Q1 v H2) : tK C W σ SV1 H1 R m Q1 := by
  cases m with
  | bad => exact h
  | exc x ρ' => exact fun cls dd H' SV' e er => h cls dd σ H' SV' (e1.trans e) .refl er
  | ok d ρ2 => exact fun v H2 SV2 e2 r2 => k d ρ2 v H2 SV2 e2 r2 h
/-- x.append(e) -/
theorem s_app {i : Nat} {x : Str} {p apos cpos pos : Pos} (hK : X.K = C.K) (ho : own e' = true) (hN : X.N[i]? = some x) (hv : Vis X.env.scope x) (hd : (x == ("__debug__" : Str)) = false) (hcd : (x == ("__classdict__" : Str)) = false) (ha : PA X [e] (tA C W (.cons e' .nil)))
    (hbase : attributeBase (.Name x p) "append" X.env (eval (.Name x p) X.env) = eval (.Name x p) X.env)
    (hfew : ((backTo cpos (starEach [e] X.env)).all (fun x => !x.1) && (backToKw cpos (keywordEach [] X.env)).all (fun x => x.1.isSome)
      && decide (([e] : List Expr).length + ([] : List Keyword).length + (if ([] : List Keyword).isEmpty then 0 else 1) < 30)) = true)
    (hline : (apos.endLine == cpos.line) = true) (hs : starEach [e] X.env = (false, eval e X.env) :: starEach [] X.env) (hplain : (backTo cpos (starEach [] X.env)).any (·.1) = false) (hsw : swapsWith (.Call (.Attribute (.Name x p) "append" apos) [e] [] cpos) none pos.line X.env = pure false) :
    PS X (.Expr (.Call (.Attribute (.Name x p) "append" apos) [e] [] cpos) pos) (tS C W P (.app i e')) := by
  refine psmono (ps_expr (pe_bm PySem.F.plainAttrs_list PySem.F.slot_list_append PySem.F.type_list_append mt_append (pe_var hN hv hd hcd) ha hbase hfew hline hs hplain) hsw) fun D σ H ⟨ρ, SV, hv', nd, h⟩ => ?_
  have h : sK C W P σ SV H D (if isL ρ i = true then (ev e' ρ).bind fun d ρ => (onL (appF d) i ρ).bind fun _ ρ => .ok .nx ρ else .bad) := h
  by_cases hl : isL ρ i = true
  case neg => rw [if_neg hl] at h; exact h.elim
  rw [if_pos hl] at h
  obtain ⟨xs0, h0⟩ := isL_some hl
  obtain ⟨a, vs0, S0, R0, hσ, hH0, _, _⟩ := lst_at hv' h0
  refine ⟨.ref a, hσ, .inl ⟨rfl, vs0, .inl (.inl hH0)⟩, ρ, SV, hv', nd, ?_⟩
  have e3 : evs (.cons e' .nil) ρ = (ev e' ρ).bind fun d ρ => .ok [d] ρ := rfl
  have h2 : sK C W P σ SV H D ((evs (.cons e' .nil) ρ).bind fun ds ρ => match ds with | [d] => (onL (appF d) i ρ).bind fun _ ρ => .ok .nx ρ | _ => .bad) := by
    rw [e3]
    cases hev : ev e' ρ <;> rw [hev] at h <;> exact h
  refine sK_bind h2 fun ds ρ1 vs H1 SV1 e1 ⟨⟨S, r1⟩, _⟩ h1 => ?_
  have hsep := r1.sep
  have hsrc := r1.src
  cases r1.rep with
  | @cons _ _ d ds v vs T T' rd t =>
    cases t
    rw [List.append_nil] at hsep hsrc
    have h1 : sK C W P σ SV H D ((onL (appF d) i ρ1).bind fun _ ρ => .ok .nx ρ) := h1
    unfold onL at h1
    cases hg : getV ρ1 i with
    | none => rw [hg] at h1; exact h1.elim
    | some z =>
      rw [hg] at h1
      match z, hg, h1 with
      | .lst true xs, hg, h1 =>
        obtain ⟨a', vs1, S', R, hσ', hH1, rs, f⟩ := lst_at e1.vars hg
        rw [hσ] at hσ'
        cases hσ'
        dsimp only at h1
        unfold appF at h1
        by_cases hlim : xs.length < lim
        case neg => rw [if_neg hlim] at h1; exact h1.elim
        rw [if_pos hlim] at h1
        have h1 : sK C W P σ SV H D (.ok .nx (ρ1.set i (some (.lst true (xs ++ [d]))))) := h1
        refine ⟨a, vs1, v, rfl, rfl, hH1, by rw [← rs.length]; have := lim_eq; omega, ?_⟩
        have ndf : ((a :: S') ++ R).Nodup := f.perm.nodup_iff.mp e1.nd
        obtain ⟨na, ndf'⟩ := List.nodup_cons.mp (show (a :: (S' ++ R)).Nodup from ndf)
        have mem1 : ∀ b ∈ a :: (S' ++ R), b ∈ SV1 := fun b hb => f.perm.mem_iff.mpr hb
        have tdis : ∀ b ∈ T, b ≠ a ∧ b ∉ S' := fun b hb => ⟨fun q => (List.nodup_append.mp hsep).2.2 b hb a (mem1 a List.mem_cons_self) q, fun q => (List.nodup_append.mp hsep).2.2 b hb b (mem1 b (List.mem_cons_of_mem _ (List.mem_append_left _ q))) rfl⟩
        have ndT : (T ++ R).Nodup := List.nodup_append.mpr ⟨(List.nodup_append.mp hsep).1, (List.nodup_append.mp ndf').2.1, fun b hb c hc q => (List.nodup_append.mp hsep).2.2 b hb c (mem1 c (List.mem_cons_of_mem _ (List.mem_append_right _ hc))) q⟩
        have nd2 := nodup_mid (S := S') (T := T) (U := R) (a := a) ndf ndT tdis
        have kU : Kp (S' ++ T) H1 (upd H1 a (.lst (vs1 ++ [v]))) := kp_upd hH1 (show Mb (.lst vs1) from True.intro) fun z => (List.nodup_cons.mp nd2).1 (List.mem_append_left _ z)
        have rall := (rs.app (Reps.cons (S2 := []) rd Reps.nil))
        rw [List.append_nil] at rall
        have rep2 : Rep C.K (upd H1 a (.lst (vs1 ++ [v]))) (.lst true (xs ++ [d])) (.ref a) (a :: (S' ++ T)) := ⟨a, _, _, rfl, upd_same, rall.kp _ kU, rfl⟩
        obtain ⟨SV2, e2, _⟩ := obj_write e1 f hσ hH1 (show Mb (.lst vs1) from True.intro) rep2 nd2 (fun b hb => by
          rcases List.mem_append.mp hb with q | q
          · exact e1.src b (mem1 b (List.mem_cons_of_mem _ (List.mem_append_left _ q)))
          · exact hsrc b q)
        exact h1 σ _ SV2 e2 .refl
      | .lst false _, _, h1 => exact h1.elim
      | .non, _, h1 => exact h1.elim
      | .bl _, _, h1 => exact h1.elim
      | .int _, _, h1 => exact h1.elim
      | .str _, _, h1 => exact h1.elim
      | .tup _, _, h1 => exact h1.elim
      | .dk _ _ _, _, h1 => exact h1.elim
      | .dt _ _ _, _, h1 => exact h1.elim
      | .exc _ _, _, h1 => exact h1.elim
      | .scr _, _, h1 => exact h1.elim
/-- x[i] = e -/
def rSetZ : TSet := fun o i v H Q => rSetL o i v H Q ∨ rSetD o i v H Q
theorem set_any (hu : X.A.units + 1 < cLine) : PSet X rSetZ := fun pins s σ H o i v ov iv u Q I r1 r2 r3 h => h.elim (set_list pins s σ H o i v ov iv u Q I r1 r2 r3) (set_dict hu pins s σ H o i v ov iv u Q I r1 r2 r3)
end
theorem keyD_kV {K : PySem.W.Frag} {H : Hp} {d : D} {u : V} {S : List Addr} {k : Key} (r : Rep K H d u S) (h : keyD d = some k) : u = kV k := by
  cases d with
  | int i => cases h; exact r.1
  | str x => cases h; exact r.1
  | _ => cases h
theorem any_zip {κ : Type} [DecidableEq κ] {k : κ} : ∀ {ks : List κ} {vs : List V}, ks.length = vs.length → ((ks.zip vs).any fun kv => decide (kv.1 = k)) = ks.any fun j => decide (j = k)
  | [], _, _ => rfl
  | _ :: _, [], h => by simp at h
  | j :: ks, v :: vs, h => by
    rw [List.zip_cons_cons, List.any_cons, List.any_cons, any_zip (by simpa using h)]
theorem map_zip {κ : Type} [DecidableEq κ] {k : κ} {z : V} : ∀ {ks : List κ} {vs : List V}, (ks.zip vs).map (fun kv => if kv.1 = k then (kv.1, z) else kv) = ks.zip (List.zipWith (fun j w => if j = k then z else w) ks vs)
  | [], _ => by simp
  | _ :: _, [] => by simp
  | j :: ks, v :: vs => by
    rw [List.zip_cons_cons, List.map_cons, map_zip, List.zipWith_cons_cons, List.zip_cons_cons]
    congr 1
    by_cases e : j = k <;> simp [e]
theorem reps_zipWith {κ : Type} [DecidableEq κ] {K : PySem.W.Frag} {H : Hp} {k : κ} {d : D} {z : V} (r : Rep K H d z []) : ∀ {ks : List κ} {ds : List D} {vs : List V} {S : List Addr}, ks.length = ds.length → Reps K H ds vs S →
    ∃ S2, Reps K H (List.zipWith (fun j w => if j = k then d else w) ks ds) (List.zipWith (fun j w => if j = k then z else w) ks vs) S2 ∧ S2.Sublist S
  | [], [], _, S, _, h => by obtain ⟨rfl, rfl⟩ := h; exact ⟨[], Reps.nil, .refl _⟩
  | [], _ :: _, _, _, h, _ => by simp at h
  | _ :: _, [], _, _, h, _ => by simp at h
  | j :: ks, e :: ds, _, _, hl, h => by
    obtain ⟨v, vs, S1, S2, rfl, q1, q2, rfl⟩ := h
    obtain ⟨S3, h1, h2⟩ := reps_zipWith r (by simpa using hl) q2
    rw [List.zipWith_cons_cons, List.zipWith_cons_cons]
    by_cases e : j = k
    · rw [if_pos e, if_pos e]
      exact ⟨S3, Reps.cons (S1 := []) r h1, h2.trans (List.sublist_append_right _ _)⟩
    · rw [if_neg e, if_neg e]
      exact ⟨S1 ++ S3, Reps.cons q1 h1, h2.append_left _⟩
/-- a dict's entries behind d[k] = v -/
theorem put_rep {κ : Type} [DecidableEq κ] {K : PySem.W.Frag} {H : Hp} {k : κ} {d : D} {z : V} {ks : List κ} {ds : List D} {vs : List V} {S : List Addr} (hl : ks.length = vs.length) (rs : Reps K H ds vs S) (r : Rep K H d z []) :
    ∃ vs2 S2, putK (ks.zip vs) k z = (put k d ks ds).1.zip vs2 ∧ (put k d ks ds).1.length = vs2.length ∧ Reps K H (put k d ks ds).2 vs2 S2 ∧ S2.Sublist S := by
  have hl2 := rs.length
  unfold putK put
  rw [any_zip hl]
  by_cases h : (ks.any fun j => decide (j = k)) = true
  · rw [if_pos h, if_pos h]
    obtain ⟨S2, h1, h2⟩ := reps_zipWith (k := k) r (ks := ks) (by omega) rs
    exact ⟨_, S2, map_zip, by show ks.length = _; rw [List.length_zipWith]; omega, h1, h2⟩
  · rw [if_neg h, if_neg h]
    have := rs.app (Reps.cons (S1 := []) (S2 := []) r Reps.nil)
    exact ⟨vs ++ [z], S ++ [], (by have := List.zip_append (l₁ := ks) (l₂ := vs) (r₁ := [k]) (r₂ := [z]) hl; exact this.symm), by simp [hl], this, by rw [List.append_nil]; exact .refl _⟩
theorem dk_at {K : PySem.W.Frag} {H : Hp} {ρ : Ev} {σ : St} {SV : List Addr} {i : Nat} {ks : List Key} {ds : List D} (hv : Vars K H ρ σ SV) (h : getV ρ i = some (.dk true ks ds)) : ∃ a vs S' R, σ[i]? = some (some (.ref a)) ∧ H a = some (.dK (ks.zip vs)) ∧ ks.length = vs.length ∧ Reps K H ds vs S' ∧ Foc K H ρ σ SV i (a :: S') R := by
  obtain ⟨v, S, R, e1, r, f⟩ := var_at hv h
  obtain ⟨a, vs, S', rfl, q, l, rs, rfl⟩ := r
  exact ⟨a, vs, S', R, e1, q, l, rs, f⟩
section
variable {X : Cx} {C : Cfg} {W : WX} {P : List Nat} {pos : Pos} {e : Expr} {e' : E}
theorem s_setI {i : Nat} {x : Str} {p tpos : Pos} {ix : Expr} {ix' : E} (hK : X.K = C.K) (hu : X.A.units + 1 < cLine) (ho : own e' = true) (hN : X.N[i]? = some x) (hv : Vis X.env.scope x) (hd : (x == ("__debug__" : Str)) = false) (hcd : (x == ("__classdict__" : Str)) = false) (he : PE X e (tD C W e')) (hix : PE X ix (tD C W ix'))
    (hq : quiet ix' = true)
    (ha : ∀ v, assign (.Subscript (.Name x p) ix tpos) X.env v = (do
      let ov ← holding [v] (eval (.Name x p) X.env)
      let iv ← holding [v, ov] (eval ix X.env)
      standAt tpos
      holding [v, ov, iv] (setItem ov iv v)
      release [v, ov, iv] []))
    (hs : swapsWithSole [.Subscript (.Name x p) ix tpos] e pos.line X.env = pure false) (hw : swappedStores [.Subscript (.Name x p) ix tpos] e X.env = pure none) (h1 : (assignEach [.Subscript (.Name x p) ix tpos] X.env).map (·.2) = [assign (.Subscript (.Name x p) ix tpos) X.env]) :
    PS X (.Assign [.Subscript (.Name x p) ix tpos] e pos) (tS C W P (.setI i ix' e')) := by
  refine psmono (ps_asg he (pg_sub (pe_var hN hv hd hcd) hix (set_any hu) ha) hs hw h1) fun D σ H ⟨ρ, SV, hv', nd, h⟩ => ⟨ρ, SV, hv', nd, ?_⟩
  refine sK_bind (show sK C W P σ SV H D ((ev e' ρ).bind fun d ρ => (match getV ρ i with
    | some x => (ev ix' ρ).bind fun k ρ => (match x, k with
      | .lst true xs, .int j => (match ixN xs.length j with
        | some n => .ok .nx (ρ.set i (some (.lst true (xs.set n d))))
        | none => .bad)
      | .dk true ks vs, k => (match keyD k with
        | some j => if frzD d = true ∧ ks.length < lim then .ok .nx (ρ.set i (some (.dk true (put j d ks vs).1 (put j d ks vs).2))) else .bad
        | none => .bad)
      | _, _ => .bad)
    | none => .bad)) from h) fun d ρ1 v H1 SV1 e1 ⟨⟨T, r1⟩, _⟩ h1 => ?_
  cases hg : getV ρ1 i with
  | none => rw [hg] at h1; exact h1.elim
  | some x0 =>
    rw [hg] at h1
    obtain ⟨w, S0, R0, hσ, _, _⟩ := var_at e1.vars hg
    have hsep := r1.sep ho
    have hsrc := r1.src ho
    refine ⟨w, hσ, ρ1, SV1, e1.vars, e1.nd, sK_bind2 e1 h1 fun k ρ2 u H2 SV2 e2 ⟨⟨Sk, rk⟩, q2⟩ h2 => ?_⟩
    obtain ⟨rfl, rfl, x2⟩ := q2 hq
    have rd : Rep C.K H2 d v T := r1.rep.kp d (x2.all _)
    have e12 : EnvP C.K SV H σ ρ2 H2 SV2 := e1.trans e2
    match x0, k, hg, h2 with
    | .lst true xs, .int j, hg, h2 =>
      dsimp only at h2
      obtain ⟨a, vs1, S', R, hσ', hH2, rs, f⟩ := lst_at e12.vars hg
      rw [hσ] at hσ'
      cases hσ'
      cases hj : ixN xs.length j with
      | none => rw [hj] at h2; exact h2.elim
      | some n =>
        rw [hj] at h2
        have hn : n < xs.length := (ixN_seq hj).2.2.2 |> fun _ => by
          have := (ixN_seq hj).2.1
          omega
        obtain ⟨v0, T0, R0, g1, g2, g3, g4, g5⟩ := Reps.split rs (List.getElem?_eq_getElem hn)
        have ndf : ((a :: S') ++ R).Nodup := f.perm.nodup_iff.mp e12.nd
        obtain ⟨na, ndf'⟩ := List.nodup_cons.mp (show (a :: (S' ++ R)).Nodup from ndf)
        have mem1 : ∀ b ∈ a :: (S' ++ R), b ∈ SV2 := fun b hb => f.perm.mem_iff.mpr hb
        have memR : ∀ b ∈ R0, b ∈ S' := fun b hb => g3.mem_iff.mpr (List.mem_append_right _ hb)
        have ndR0 : R0.Nodup := (List.nodup_append.mp (g3.nodup_iff.mp (List.nodup_append.mp ndf').1)).2.1
        have tdis : ∀ b ∈ T, ∀ c ∈ a :: (S' ++ R), b ≠ c := fun b hb c hc q => (List.nodup_append.mp hsep).2.2 b hb c (mem1 c hc) q
        have nd2 : (a :: ((T ++ R0) ++ R)).Nodup := by
          refine List.nodup_cons.mpr ⟨fun z => ?_, List.nodup_append.mpr ⟨List.nodup_append.mpr ⟨(List.nodup_append.mp hsep).1, ndR0, fun b hb c hc => tdis b hb c (List.mem_cons_of_mem _ (List.mem_append_left _ (memR c hc)))⟩, (List.nodup_append.mp ndf').2.1, fun b hb c hc => ?_⟩⟩
          · rcases List.mem_append.mp z with z | z
            · rcases List.mem_append.mp z with z | z
              · exact tdis a z a List.mem_cons_self rfl
              · exact na (List.mem_append_left _ (memR a z))
            · exact na (List.mem_append_right _ z)
          · rcases List.mem_append.mp hb with z | z
            · exact tdis b z c (List.mem_cons_of_mem _ (List.mem_append_right _ hc))
            · exact (List.nodup_append.mp ndf').2.2 b (memR b z) c hc
        have kU : Kp (T ++ R0) H2 (upd H2 a (.lst (vs1.set n v))) := kp_upd hH2 (show Mb (.lst vs1) from True.intro) fun z => (List.nodup_cons.mp nd2).1 (List.mem_append_left _ z)
        obtain ⟨S2, h5, h6⟩ := g5 d v T rd
        have rep2 : Rep C.K (upd H2 a (.lst (vs1.set n v))) (.lst true (xs.set n d)) (.ref a) (a :: S2) := ⟨a, _, _, rfl, upd_same, h5.kp _ (kU.sub fun b hb => h6.mem_iff.mp hb), rfl⟩
        obtain ⟨SV3, e3, _⟩ := obj_write e12 f hσ hH2 (show Mb (.lst vs1) from True.intro) rep2 (((h6.append_right R).cons a).nodup_iff.mpr nd2) (fun b hb => by
          rcases List.mem_append.mp (h6.mem_iff.mp hb) with q | q
          · exact hsrc b q
          · exact e12.src b (mem1 b (List.mem_cons_of_mem _ (List.mem_append_left _ (memR b q)))))
        refine .inl ⟨a, vs1, j, n, rfl, rk.rep.1, hH2, by rw [← rs.length]; exact hj, h2 σ _ SV3 e3 .refl⟩
    | .dk true ks ds, k, hg, h2 =>
      obtain ⟨a, vs1, S', R, hσ', hH2, hl, rs, f⟩ := dk_at e12.vars hg
      rw [hσ] at hσ'
      cases hσ'
      have h2 : sK C W P σ SV H D (match keyD k with
        | some j => if frzD d = true ∧ ks.length < lim then .ok .nx (ρ2.set i (some (.dk true (put j d ks ds).1 (put j d ks ds).2))) else .bad
        | none => .bad) := by cases k <;> exact h2
      cases hk : keyD k with
      | none => rw [hk] at h2; exact h2.elim
      | some j =>
        rw [hk] at h2
        dsimp only at h2
        by_cases hc : frzD d = true ∧ ks.length < lim
        case neg => rw [if_neg hc] at h2; exact h2.elim
        rw [if_pos hc] at h2
        have := rd.frz hc.1
        subst this
        obtain ⟨vs2, S2, p1, p2, p3, p4⟩ := put_rep (k := j) hl rs rd
        have ndf : ((a :: S') ++ R).Nodup := f.perm.nodup_iff.mp e12.nd
        obtain ⟨na, ndf'⟩ := List.nodup_cons.mp (show (a :: (S' ++ R)).Nodup from ndf)
        have mem1 : ∀ b ∈ a :: (S' ++ R), b ∈ SV2 := fun b hb => f.perm.mem_iff.mpr hb
        have nd2 : (a :: (S2 ++ R)).Nodup := List.Nodup.sublist ((p4.append_right R).cons_cons a) ndf
        have kU : Kp S2 H2 (upd H2 a (.dK ((put j d ks ds).1.zip vs2))) := kp_upd hH2 (show Mb (.dK (ks.zip vs1)) from True.intro) fun z => (List.nodup_cons.mp nd2).1 (List.mem_append_left _ z)
        have rep2 : Rep C.K (upd H2 a (.dK ((put j d ks ds).1.zip vs2))) (.dk true (put j d ks ds).1 (put j d ks ds).2) (.ref a) (a :: S2) := ⟨a, vs2, S2, rfl, upd_same, p2, p3.kp _ kU, rfl⟩
        obtain ⟨SV3, e3, _⟩ := obj_write e12 f hσ hH2 (show Mb (.dK (ks.zip vs1)) from True.intro) rep2 nd2 (fun b hb => e12.src b (mem1 b (List.mem_cons_of_mem _ (List.mem_append_left _ (p4.subset hb)))))
        refine .inr ⟨a, _, rfl, .inl ⟨_, j, hH2, keyD_kV rk.rep hk, ?_, by rw [p1]⟩, h2 σ _ SV3 e3 .refl⟩
        rw [List.length_zip, ← hl, Nat.min_self]
        have := lim_eq
        omega
    | .lst true xs, .non, _, h2 => exact h2.elim
    | .lst true xs, .bl _, _, h2 => exact h2.elim
    | .lst true xs, .str _, _, h2 => exact h2.elim
    | .lst true xs, .tup _, _, h2 => exact h2.elim
    | .lst true xs, .lst _ _, _, h2 => exact h2.elim
    | .lst true xs, .dk _ _ _, _, h2 => exact h2.elim
    | .lst true xs, .dt _ _ _, _, h2 => exact h2.elim
    | .lst true xs, .exc _ _, _, h2 => exact h2.elim
    | .lst true xs, .scr _, _, h2 => exact h2.elim
    | .lst false _, k, _, h2 => cases k <;> exact h2.elim
    | .dk false _ _, k, _, h2 => cases k <;> exact h2.elim
    | .non, k, _, h2 => cases k <;> exact h2.elim
    | .bl _, k, _, h2 => cases k <;> exact h2.elim
    | .int _, k, _, h2 => cases k <;> exact h2.elim
    | .str _, k, _, h2 => cases k <;> exact h2.elim
    | .tup _, k, _, h2 => cases k <;> exact h2.elim
    | .dt _ _ _, k, _, h2 => cases k <;> exact h2.elim
    | .exc _ _, k, _, h2 => cases k <;> exact h2.elim
    | .scr _, k, _, h2 => cases k <;> exact h2.elim
end
end Ly

namespace Ly
open PySem PySem.Spec L2
variable [Fns]
section
variable {K : PySem.W.Frag} {H : Hp}
theorem vars_none {m : Nat} : Vars K H (List.replicate m none) (List.replicate m none) [] := by
  induction m with
  | zero => exact rfl
  | succ m ih => exact ih
theorem vars_start {m : Nat} : ∀ {io : List Bool} {ds : List D} {vs : List V} {S : List Addr}, AF K H io ds vs S → Vars K H (ds.map some ++ List.replicate m none) (vs.map some ++ List.replicate m none) S
  | [], [], [], _, h => by
    have h : _ = [] := h
    subst h
    exact vars_none
  | b :: io, d :: ds, v :: vs, _, h => by
    obtain ⟨S1, S2, r, _, h, rfl⟩ := h
    exact ⟨S1, S2, r, vars_start h, rfl⟩
  | [], [], _ :: _, _, h => h.elim
  | [], _ :: _, _, _, h => h.elim
  | _ :: _, [], _, _, h => h.elim
  | _ :: _, _ :: _, [], _, h => h.elim
theorem AF.len {io : List Bool} {ds : List D} {vs : List V} {S : List Addr} : AF K H io ds vs S → ds.length = io.length := by
  induction io generalizing ds vs S with
  | nil =>
    intro h
    cases ds with
    | nil => rfl
    | cons _ _ => exact h.elim
  | cons b io ih =>
    intro h
    cases ds with
    | nil => exact h.elim
    | cons d ds =>
      cases vs with
      | nil => exact h.elim
      | cons v vs =>
        obtain ⟨S1, S2, _, _, h, _⟩ := h
        exact congrArg (· + 1) (ih h)
theorem outsOf_map {x : Option D} : ∀ {is : List Nat} {ρ : Ev}, outsOf (is.map (· + 1)) (x :: ρ) = outsOf is ρ
  | [], _ => rfl
  | i :: is, ρ => by
    show (match getV (x :: ρ) (i + 1), outsOf (is.map (· + 1)) (x :: ρ) with | some d, some l => some (d :: l) | _, _ => none) = _
    rw [outsOf_map]
    rfl
theorem of_vars : ∀ {io : List Bool} {vs : List V} {outs : List D} {ρ : Ev} {σ : St} {SV : List Addr}, Vars K H ρ σ SV → io.length ≤ ρ.length → io.length = vs.length → (∀ (i : Nat) v, io[i]? = some true → vs[i]? = some v → σ[i]? = some (some v)) → outsOf (ixs io) ρ = some outs →
    ∃ U, OF K H io outs vs U ∧ U.Sublist SV
  | [], [], _, _, _, _, _, _, _, _, h => by cases h; exact ⟨[], rfl, List.nil_sublist _⟩
  | [], _ :: _, _, _, _, _, _, _, h, _, _ => by simp at h
  | _ :: _, [], _, _, _, _, _, _, h, _, _ => by simp at h
  | b :: io, v :: vs, outs, [], _, _, _, h, _, _, _ => by simp at h
  | b :: io, v :: vs, outs, none :: ρ, [], _, hv, _, _, _, _ => hv.elim
  | b :: io, v :: vs, outs, some _ :: ρ, [], _, hv, _, _, _, _ => hv.elim
  | false :: io, v :: vs, outs, none :: ρ, x :: σ, SV, hv, h1, h2, h3, h4 => by
    have h4 : outsOf ((ixs io).map (· + 1)) (none :: ρ) = some outs := h4
    rw [outsOf_map] at h4
    exact of_vars (io := io) (vs := vs) (σ := σ) (SV := SV) hv (by simpa using h1) (by simpa using h2) (fun i w e1 e2 => by simpa using h3 (i + 1) w (by simpa using e1) (by simpa using e2)) h4
  | false :: io, v :: vs, outs, some d :: ρ, some y :: σ, _, hv, h1, h2, h3, h4 => by
    obtain ⟨S, R, r, hv, rfl⟩ := hv
    have h4 : outsOf ((ixs io).map (· + 1)) (some d :: ρ) = some outs := h4
    rw [outsOf_map] at h4
    obtain ⟨U, a1, a2⟩ := of_vars (io := io) (vs := vs) hv (by simpa using h1) (by simpa using h2) (fun i w e1 e2 => by simpa using h3 (i + 1) w (by simpa using e1) (by simpa using e2)) h4
    exact ⟨U, a1, a2.trans (List.sublist_append_right _ _)⟩
  | b :: io, v :: vs, outs, some d :: ρ, none :: σ, _, hv, _, _, _, _ => hv.elim
  | true :: io, v :: vs, outs, none :: ρ, x :: σ, SV, hv, h1, h2, h3, h4 => by cases h4
  | true :: io, v :: vs, outs, some d :: ρ, some y :: σ, _, hv, h1, h2, h3, h4 => by
    obtain ⟨S, R, r, hv, rfl⟩ := hv
    have h4 : (match some d, outsOf ((ixs io).map (· + 1)) (some d :: ρ) with | some d, some l => some (d :: l) | _, _ => none) = some outs := h4
    rw [outsOf_map] at h4
    cases h5 : outsOf (ixs io) ρ with
    | none => rw [h5] at h4; cases h4
    | some l =>
      rw [h5] at h4
      cases h4
      obtain ⟨U, a1, a2⟩ := of_vars (io := io) (vs := vs) hv (by simpa using h1) (by simpa using h2) (fun i w e1 e2 => by simpa using h3 (i + 1) w (by simpa using e1) (by simpa using e2)) h5
      have : some y = some v := by simpa using h3 0 v rfl rfl
      cases this
      exact ⟨S ++ U, ⟨S, U, r, a1, rfl⟩, a2.append_left _⟩
theorem ixs_mem {io : List Bool} : ∀ {i : Nat}, i ∈ ixs io ↔ io[i]? = some true := by
  induction io with
  | nil => intro i; simp [ixs]
  | cons b io ih =>
    intro i
    cases b with
    | true =>
      show i ∈ 0 :: (ixs io).map (· + 1) ↔ _
      cases i with
      | zero => simp
      | succ i => simp [ih]
    | false =>
      show i ∈ (ixs io).map (· + 1) ↔ _
      cases i with
      | zero => simp
      | succ i => simp [ih]
end
/-- the body's run, against the promise -/
theorem body_ok {C : Cfg} {N ps : List Str} {io : List Bool} {sem : FSem} {bs : Ss} {vs : List V} {H : Hp} {Q : VK} {E : XK} (hio : io.length = ps.length) (hps : ps.length ≤ N.length) (hsem : ∀ ds, sem ds ≠ .bad → runFn N.length io bs ds = sem ds)
    (h : spD C io sem vs H Q E) : tSs C (fun cls d _ H => E cls d H) (ixs io) bs { nx := fun _ H' => Q .non H', rt := Q } (L2.start N vs) H := by
  obtain ⟨ds, S, haf, nd, h⟩ := h
  have l1 := haf.length
  have l2 := haf.len
  have hv : Vars C.K H (ds.map some ++ List.replicate (N.length - ds.length) none) (L2.start N vs) S := by
    unfold L2.start
    rw [show N.length - vs.length = N.length - ds.length by omega]
    exact vars_start haf
  refine ⟨_, S, hv, nd, ?_⟩
  have hs := hsem ds (fun z => by rw [z] at h; exact h)
  rw [← hs] at h
  unfold runFn at h
  have σio : ∀ {σ' : St}, Kept (ixs io) (L2.start N vs) σ' → ∀ (i : Nat) v, io[i]? = some true → vs[i]? = some v → σ'[i]? = some (some v) := fun {σ'} k i v e1 e2 => by
    rw [k.at_ i (ixs_mem.mpr e1)]
    unfold L2.start
    have hi : i < vs.length := (List.getElem?_eq_some_iff.mp e2).1
    rw [List.getElem?_append_left (by simpa using hi), List.getElem?_map, e2]
    rfl
  have lenE : ∀ {ρ' : Ev} {σ' : St} {H' : Hp} {SV' : List Addr}, EnvP C.K S H σ' ρ' H' SV' → Kept (ixs io) (L2.start N vs) σ' → io.length ≤ ρ'.length := fun e k => by
    rw [e.vars.length, k.len]
    unfold L2.start
    rw [List.length_append, List.length_map, List.length_replicate]
    omega
  cases hx : exs bs (ds.map some ++ List.replicate (N.length - ds.length) none) with
  | bad => rw [hx] at h; exact h
  | exc x ρ' =>
    rw [hx] at h
    intro cls dd σ' H' SV' e k er
    dsimp only at h
    cases ho : outsOf (ixs io) ρ' with
    | none => rw [ho] at h; exact h.elim
    | some outs =>
      rw [ho] at h
      obtain ⟨U, u1, u2⟩ := of_vars e.vars (lenE e k) (by omega) (σio k) ho
      exact h cls dd H' U e.ext u1 (e.nd.sublist u2) (fun a ha => e.src a (u2.subset ha)) er
  | ok f ρ' =>
    rw [hx] at h
    cases f with
    | bk => exact h.elim
    | ct => exact h.elim
    | nx =>
      intro σ' H' SV' e k
      dsimp only at h
      cases ho : outsOf (ixs io) ρ' with
      | none => rw [ho] at h; exact h.elim
      | some outs =>
        rw [ho] at h
        obtain ⟨U, u1, u2⟩ := of_vars e.vars (lenE e k) (by omega) (σio k) ho
        exact h .non H' [] U e.ext ⟨rfl, rfl⟩ u1 (e.nd.sublist u2) (fun a ha => e.src a (u2.subset ha))
    | rt d =>
      rintro v σ' H' SV' e k ⟨T, r1, r2, r3⟩
      dsimp only at h
      cases ho : outsOf (ixs io) ρ' with
      | none => rw [ho] at h; exact h.elim
      | some outs =>
        rw [ho] at h
        obtain ⟨U, u1, u2⟩ := of_vars e.vars (lenE e k) (by omega) (σio k) ho
        refine h v H' T U e.ext r1 u1 (r3.sublist (u2.append_left T)) fun a ha => ?_
        rcases List.mem_append.mp ha with z | z
        · exact r2 a z
        · exact e.src a (u2.subset z)
section
variable {C : Cfg} {P : Program} {w : World} {mg : Str → Option Value} {base : Heap} {x qual : Str} {params : Arguments} {body : List Stmt} {scope : Scope} {dvs : List V} {kws : List (Str × V)} {f : Addr} {fd : FuncData}
/-- THE RULE: a def -/
theorem fn_ok {N ps : List Str} {io : List Bool} {k : Nat} {sem : FSem} {bs : Ss} (F : FunD C.K x qual params body scope dvs kws f fd) (S : FnScope N ps scope) (hio : io.length = ps.length) (hsem : ∀ ds, sem ds ≠ .bad → runFn N.length io bs ds = sem ds)
    (hb : ∀ (cdv : Value) (A : Around) (outer : List Env) (s : Shared) (H : Hp) (E : XK), Room k (A.deeper (PyProof.Rows.envOfC qual scope s.heap.objs.size f cdv)) →
      PSs (cxOf (L2.CX P w) P w C.K mg base N qual scope f cdv A outer s H E) body (tSs C (fun cls d _ H => E cls d H) (ixs io) bs)) :
    FnOk P w C.K mg base (L2.CX P w) (k + 1) f fd ps (spD C io sem) := by
  have hps : ps.length ≤ N.length := by have := congrArg List.length S.pre; rw [List.length_take] at this; omega
  refine F.ok S (fun vs H Q E h => ?_) fun cdv A outer s H vs Q E hr h => ⟨_, hb cdv A outer s H E hr, body_ok hio hps hsem h⟩
  obtain ⟨ds, S', haf, _⟩ := h
  rw [haf.length, hio]
end
end Ly

namespace Ly
open PySem PySem.Spec L2
variable [Fns]
section
variable {X : Cx} {C : Cfg} {W : WX} {pos : Pos} {a : Expr} {a' : E}
theorem se_dnil : PE X (.Dict [] [] pos) (tD C W .dnil) := by
  refine pemono pe_dnewK fun σ H Q h => ?_
  obtain ⟨ρ, SV, hv, nd, h⟩ := h
  have h : ∀ v H' SV', EnvP C.K SV H σ ρ H' SV' → RD C.K SV H ρ true true (.dk true [] []) ρ SV' H' v → Q v H' := h
  intro p hp
  have x : Ext [] H (upd H p (.dK [])) := Ext.new hp
  have en : EnvP C.K SV H σ ρ (upd H p (.dK [])) SV := (EnvP.refl hv nd).ext0 x
  have pV : p ∉ SV := fun z => by
    obtain ⟨o, eo, _⟩ := hv.owns p z
    rw [hp] at eo
    cases eo
  refine h (.ref p) _ SV en ⟨⟨[p], ⟨p, [], [], rfl, upd_same, rfl, Reps.nil, rfl⟩, (fun _ b hb => ?_), (fun _ => List.nodup_cons.mpr ⟨pV, nd⟩)⟩, fun _ => ⟨rfl, rfl, x⟩⟩
  rw [show b = p by simpa using hb]
  exact .inr hp
/-! ### isinstance -/
def tyN : Ty → String
  | .int => "int"
  | .str => "str"
  | .bool => "bool"
  | .tuple => "tuple"
  | .list => "list"
  | .dict => "dict"
def dTy : D → String
  | .non => "NoneType"
  | .bl _ => "bool"
  | .int _ => "int"
  | .str _ => "str"
  | .tup _ => "tuple"
  | .lst _ _ => "list"
  | .scr _ => "list"
  | .dk _ _ _ => "dict"
  | .dt _ _ _ => "dict"
  | .exc _ _ => ""
def noScr : D → Bool
  | .scr _ => false
  | _ => true
/-- plain data, of which the kind is asked -/
def isSome' : D → Bool
  | .dt _ _ _ => false
  | .exc _ _ => false
  | _ => true
theorem ty_rep {K : PySem.W.Frag} {H : Hp} {d : D} {v : V} {S : List Addr} (r : Rep K H d v S) (h : isSome' d = true) : TyX K H v (.type (dTy d)) := by
  cases d with
  | non => rw [r.1]; exact .base .non
  | bl b => rw [r.1]; exact .base (.bl b)
  | int i => rw [r.1]; exact .base (.int i)
  | str x => rw [r.1]; exact .base (.str x)
  | tup xs =>
    obtain ⟨_, a, vs, rfl, q, _⟩ := r
    rcases q with (q | ⟨o, q⟩) | ⟨o, its, n, q, c, _⟩
    · exact .base (.tup q)
    · exact .fTuple q
    · exact .kTuple q c
  | lst o xs =>
    obtain ⟨a, vs, T, rfl, q, _⟩ := lst_sq r
    rcases q with q | ⟨o, q⟩
    · exact .base (.lst q)
    · exact .base (.frz q)
  | scr ns =>
    obtain ⟨_, a, rfl, q⟩ := r
    rcases q with ⟨o, q⟩ | ⟨o, its, n, q, c, _⟩
    · exact .base (.frz q)
    · exact .kList q c
  | dk o ks ds =>
    cases o with
    | true =>
      obtain ⟨a, vs, S', rfl, q, _⟩ := r
      exact .base (.dK q)
    | false =>
      obtain ⟨_, a, vs, o, rfl, q, _⟩ := r
      exact .fDict q
  | _ => cases h
theorem kit_tab (K : PySem.W.Frag) (d : D) (h : isSome' d = true) (T : Ty) : PySem.W.kitOne K (.type (dTy d)) (.type (tyN T)) = some (T.is d || (match T, d with | .list, .scr _ => true | _, _ => false)) := by
  cases T <;> cases d <;> first
    | (cases h; done)
    | kernel_rfl
theorem kit_tab' (K : PySem.W.Frag) (d : D) (h : isSome' d = true) (T : Ty) (hs : noScr d = true) : PySem.W.kitOne K (.type (dTy d)) (.type (tyN T)) = some (T.is d) := by
  rw [kit_tab K d h T]
  cases T <;> cases d <;> first
    | rfl
    | (cases hs; done)
    | (rw [Bool.or_false])
theorem isTS_some {T : Ty} {d z : D} (h : isTS T d = some z) : isSome' d = true ∧ noScr d = true ∧ z = .bl (T.is d) := by
  cases d <;> first
    | (cases h; done)
    | (cases h; exact ⟨rfl, rfl, rfl⟩)
theorem se_isT {p q : Pos} {T : Ty} {g h : Str} (hK : X.K = C.K) (hv : bootBuiltins g = some (.builtin "isinstance")) (hb : bootBuiltins h = some (.type (tyN T))) (hg : Gl X g) (hm : X.mg g = none) (hng : g ≠ "__name__") (hdg : (g == ("__debug__" : Str)) = false) (hg2 : Gl X h) (hm2 : X.mg h = none) (hn : h ≠ "__name__") (hd : (h == ("__debug__" : Str)) = false) (ha : PE X a (tD C W a')) (hs : starEach [a, .Name h q] X.env = (false, eval a X.env) :: starEach [.Name h q] X.env) : PE X (.Call (.Name g p) [a, .Name h q] [] pos) (tD C W (.o1 (.isT T) a')) := by
  refine pemono (pe_callB call_isi hg hm hv (pa_cons ha (pa_cons (pe_bltn (v := .ty (tyN T)) hg2 hm2 hb rfl hn hd) pa_nil rfl) hs) hng hdg hs rfl) fun σ H Q h => ?_
  obtain ⟨ρ, SV, hv, nd, h⟩ := tD_o1 h
  refine ⟨ρ, SV, hv, nd, ?_⟩
  cases m : ev a' ρ with
  | bad => rw [m] at h; exact h
  | exc x ρ' => rw [m] at h; exact h
  | ok d ρ1 =>
    rw [m] at h
    intro v H1 SV1 e1 r1
    obtain ⟨d, z, S, r, hz, k⟩ := h v H1 SV1 e1 r1
    obtain ⟨h1, h2, rfl⟩ := isTS_some (show isTS T d = some z from hz)
    exact ⟨v, .ty (tyN T), .type (dTy d), .type (tyN T), T.is d, rfl, .ty _, by rw [hK]; exact ty_rep r h1, kit_tab' _ d h1 T h2, kBl k⟩
/-! ### slices -/
def rSlD (K : PySem.W.Frag) : V → Option Int → Option Int → Hp → VK → Prop := fun x lo hi H Q => ∃ d S z, Rep K H d x S ∧ slcS d lo hi = some z ∧ ∀ w H' S', Ext [] H H' → Rep K H' z w S' → S'.Nodup → (∀ a ∈ S', H a = none) → Q w H'
theorem sl_any : SlR X (rSlD X.K) := by
  intro pins s σ H x v vl vu lo hi sl Q I rx hs pl pu h
  obtain ⟨d, S, z, r, hz, k⟩ := h
  cases d with
  | tup ds =>
    cases hz
    obtain ⟨_, a, vs, rfl, q, rs⟩ := r
    have l := rs.length
    refine sl_tupA pins s σ H _ v vl vu lo hi sl Q I rx hs pl pu ⟨a, vs, rfl, q, fun hw => ?_, fun hw p hp => ?_⟩
    · rw [← l] at hw
      have e : (ds.drop (HT.sIx ds.length 0 lo)).take (HT.sIx ds.length ds.length hi - HT.sIx ds.length 0 lo) = ds := by
        rw [hw.1, hw.2, List.drop_zero, Nat.sub_zero, List.take_length]
      exact k _ H [] .refl (by rw [e]; exact ⟨rfl, a, vs, rfl, q, rs⟩) .nil fun a ha => absurd ha List.not_mem_nil
    · refine kTup (K := X.K) k ?_ p hp
      unfold cutV
      rw [← l]
      exact (rs.drop0 _).take0 _
  | lst o ds =>
    change (if o = false ∨ ds.all frzD = true then some (D.lst true ((ds.drop (HT.sIx ds.length 0 lo)).take (HT.sIx ds.length ds.length hi - HT.sIx ds.length 0 lo))) else none) = some z at hz
    split at hz
    · rename_i hc
      cases hz
      obtain ⟨a, vs, T, rfl, q, rs, hT⟩ := lst_sq r
      have := hT hc
      subst this
      have l := rs.length
      refine sl_list pins s σ H _ v vl vu lo hi sl Q I rx hs pl pu ⟨a, vs, rfl, .inl q, fun p hp => kLst (K := X.K) k ?_ p hp⟩
      unfold cutV
      rw [← l]
      exact (rs.drop0 _).take0 _
    · cases hz
  | scr ns =>
    cases hz
    obtain ⟨_, a, rfl, q⟩ := r
    refine sl_list pins s σ H _ v vl vu lo hi sl Q I rx hs pl pu ⟨a, _, rfl, q.sq, fun p hp => kLst (K := X.K) k ?_ p hp⟩
    unfold cutV
    rw [List.length_map, ← List.map_drop, ← List.map_take]
    exact reps_ints _
  | str y =>
    change (if y.length ≤ lim then some (D.str (cutS y lo hi)) else none) = some z at hz
    split at hz
    · rename_i hc
      cases hz
      exact sl_str pins s σ H _ v vl vu lo hi sl Q I rx hs pl pu ⟨y, r.1, by rw [← lim_eq]; exact hc, kStr k⟩
    · cases hz
  | _ => cases hz
/-- a part of a slice -/
def tPx (C : Cfg) (W : WX) : Es → TO
  | .cons e .nil => tPart (tD C W e)
  | _ => tNoPart
theorem part_read {lo : Es} {σ : St} {SV : List Addr} {H : Hp} {ρ : Ev} {α β : Type} {R : α → Ev → List Addr → Hp → β → Prop} {f : Option Int → Ev → Out α} {Q : β → Hp → Prop} {Q1 : Option Int → Hp → Prop} (hl : (match lo with | .nil => true | .cons _ .nil => true | _ => false) = true) (hv : Vars C.K H ρ σ SV) (nd : SV.Nodup)
    (h : tK C W σ SV H R ((evs lo ρ).bind fun l ρ => (match partS l with | some l' => f l' ρ | none => .bad)) Q)
    (k : ∀ l ρ1 H1 SV1, EnvP C.K SV H σ ρ1 H1 SV1 → (quiets lo = true → Qt SV H ρ ρ1 H1 SV1) → tK C W σ SV1 H1 (fun z ρ2 SV2 H2 w => EnvP C.K SV H σ ρ2 H2 SV2 ∧ R z ρ2 SV2 H2 w) (f l ρ1) Q → Q1 l H1) : tPx C W lo σ H Q1 := by
  match lo, hl with
  | .nil, _ =>
    refine k none ρ H SV (.refl hv nd) (fun _ => ⟨rfl, rfl, .refl⟩) ?_
    have h : tK C W σ SV H R (f none ρ) Q := h
    cases hf : f none ρ with
    | bad => rw [hf] at h; exact h
    | exc x ρ2 => rw [hf] at h; exact h
    | ok z ρ2 => rw [hf] at h; exact fun w H2 SV2 e2 ⟨p1, p2⟩ => h w H2 SV2 p1 p2
  | .cons e .nil, _ =>
    have e0 : evs (.cons e .nil) ρ = (ev e ρ).bind fun d ρ => .ok [d] ρ := rfl
    have h2 : tK C W σ SV H R ((ev e ρ).bind fun d ρ => (match partS [d] with | some l' => f l' ρ | none => .bad)) Q := by
      rw [e0] at h
      cases he : ev e ρ <;> rw [he] at h <;> exact h
    refine ⟨ρ, SV, hv, nd, tK_bind h2 fun d ρ1 v H1 SV1 e1 ⟨⟨S, r⟩, q⟩ h3 => ?_⟩
    cases d with
    | int i => exact ⟨i, r.rep.1, k (some i) ρ1 H1 SV1 e1 (fun z => q (by have z : (quiet e && true) = true := z; rw [Bool.and_true] at z; exact z)) h3⟩
    | _ => exact h3.elim
theorem se_slc {p2 : Pos} {lo hi : Option Expr} {l' h' : Es} (hK : X.K = C.K) (hl : (match l' with | .nil => true | .cons _ .nil => true | _ => false) = true) (hh : (match h' with | .nil => true | .cons _ .nil => true | _ => false) = true) (ha : PE X a (tD C W a')) (h1 : PO X lo (tPx C W l')) (h2 : PO X hi (tPx C W h')) (hs : (own a' || (quiets l' && quiets h')) = true) :
    PE X (.Subscript a (.Slice lo hi none p2) pos) (tD C W (.slc a' l' h')) := by
  refine pemono (pe_slice (by rw [← hK]; exact sl_any : SlR X (rSlD C.K)) ha h1 h2) fun σ H Q h => ?_
  obtain ⟨ρ, SV, hv, nd, h⟩ := h
  have h : tK C W σ SV H (RD C.K SV H ρ true (quiet a' && (quiets l' && quiets h'))) ((ev a' ρ).bind fun x ρ => (evs l' ρ).bind fun l ρ => (match partS l with
    | some l0 => (evs h' ρ).bind fun h ρ => (match partS h with
      | some h0 => liftO (slcS x l0 h0) ρ
      | none => .bad)
    | none => .bad)) Q := h
  refine ⟨ρ, SV, hv, nd, tK_bind h fun d ρ1 v H1 SV1 e1 ⟨⟨S, r1⟩, q1⟩ g1 => ?_⟩
  refine part_read hl e1.vars e1.nd g1 fun l ρ2 H2 SV2 e2 q2 g2 => ?_
  refine part_read hh e2.vars e2.nd g2 fun u ρ3 H3 SV3 e3 q3 g3 => ?_
  obtain ⟨z, hz, g3⟩ := tK_lift g3
  have hs' : own a' = true ∨ (quiets l' && quiets h') = true := by simpa using hs
  have e23 := e2.trans e3
  obtain ⟨rep, _⟩ := r1.carry e23 e1 (q := quiets l' && quiets h') (fun z => (q2 (Bool.and_eq_true_iff.mp z).1).trans (q3 (Bool.and_eq_true_iff.mp z).2)) hs'
  have et := e1.trans e23
  refine ⟨d, S, z, rep, hz, fun w H' S' x rep' nd' new => ?_⟩
  have en := et.ext0 x
  obtain ⟨f1, f2⟩ := fresh_sep et nd' new
  have e3' := e3.trans en
  refine g3 w H' SV3 en ⟨e3', e2.trans e3', et.trans en, ⟨S', rep', fun _ => f1, fun _ => f2⟩, fun q => ?_⟩
  obtain ⟨qa, qb⟩ := Bool.and_eq_true_iff.mp q
  obtain ⟨qc, qd⟩ := Bool.and_eq_true_iff.mp qb
  exact ((q1 qa).trans ((q2 qc).trans (q3 qd))).ext x
/-! ### dict comprehensions -/
theorem dcF_ok {ow : List Nat} {tg : Tg} {c : Es} {ke e : E} {d : D} {ρ ρa : Ev} {x : Option (Key × D)} (h : dcF ow tg c ke e d ρ = .ok x ρa) : ∃ ρb b ρc, bindT tg d ρ = some ρb ∧ evC c ρb = .ok b ρc ∧
    ((b = true ∧ ∃ kd ρd y ρe j, ev ke ρc = .ok kd ρd ∧ ev e ρd = .ok y ρe ∧ keyD kd = some j ∧ frzD y = true ∧ x = some (j, y) ∧ ρa = wipeE ρe ow) ∨ (b = false ∧ x = none ∧ ρa = wipeE ρc ow)) := by
  unfold dcF at h
  cases hb : bindT tg d ρ with
  | none => rw [hb] at h; cases h
  | some ρb =>
    rw [hb] at h
    obtain ⟨b, ρc, h1, h⟩ := bind_ok h
    refine ⟨ρb, b, ρc, rfl, h1, ?_⟩
    cases b with
    | true =>
      rw [if_pos rfl] at h
      obtain ⟨kd, ρd, h2, h⟩ := bind_ok h
      obtain ⟨y, ρe, h3, h⟩ := bind_ok h
      cases hk : keyD kd with
      | none => rw [hk] at h; cases h
      | some j =>
        rw [hk] at h
        dsimp only at h
        by_cases hf : frzD y = true
        · rw [if_pos hf] at h
          cases h
          exact .inl ⟨rfl, kd, ρd, y, ρe, j, h2, h3, hk, hf, rfl, rfl⟩
        · rw [if_neg hf] at h
          cases h
    | false =>
      rw [if_neg Bool.false_ne_true] at h
      cases h
      exact .inr ⟨rfl, rfl, rfl⟩
theorem put_len (k : Key) (v : D) (ks : List Key) (vs : List D) : ks.length ≤ (put k v ks vs).1.length := by
  unfold put
  split
  · exact Nat.le_refl _
  · show ks.length ≤ (ks ++ [k]).length
    rw [List.length_append]
    exact Nat.le_add_right _ _
theorem dcLoop_len {f : D → Ev → Out (Option (Key × D))} : ∀ {ds : List D} {acc r : List Key × List D} {ρ ρ' : Ev}, dcLoop f ds acc ρ = .ok r ρ' → acc.1.length ≤ r.1.length
  | [], acc, r, ρ, ρ', h => by cases h; exact Nat.le_refl _
  | d :: ds, acc, r, ρ, ρ', h => by
    obtain ⟨x, ρ1, h1, h2⟩ := bind_ok (show ((f d ρ).bind fun x ρ1 => dcLoop f ds (match x with | some (k, v) => put k v acc.1 acc.2 | none => acc) ρ1) = .ok r ρ' from h)
    have := dcLoop_len h2
    cases x with
    | none => exact this
    | some kv => exact Nat.le_trans (put_len kv.1 kv.2 acc.1 acc.2) this
theorem dc_read {ow : List Nat} {tg : Tg} {it : It} {c : Es} {ke e : E} {σ : St} {H : Hp} {Q : VK} (ho : own e = true) (ht : ∀ i ∈ tns tg, i ∈ ow) (h : tD C W (.dc ow tg it c ke e) σ H Q) :
    tDc (tI C W it) (tG C.K tg) (tCs C WF c) (tD C WF ke) (tD C WF e) ow σ H Q := by
  obtain ⟨ρ, SV, hv, nd, h⟩ := h
  have h : tK C W σ SV H (RD C.K SV H ρ true false) ((evIt it ρ).bind fun items ρ1 =>
    match dcLoop (dcF ow tg c ke e) items ([], []) (wipeE ρ1 ow) with
    | .ok ks ρ2 => if ks.1.length < lim then .ok (.dk true ks.1 ks.2) ρ2 else .bad
    | .exc _ _ => .bad
    | .bad => .bad) Q := h
  refine ⟨ρ, SV, hv, nd, tK_bind0 h fun ds ρ1 J H1 SV1 e1 wk h1 Dn hD => ?_⟩
  cases hl : dcLoop (dcF ow tg c ke e) ds ([], []) (wipeE ρ1 ow) with
  | bad => rw [hl] at h1; exact h1.elim
  | exc x ρ' => rw [hl] at h1; exact h1.elim
  | ok KV ρE =>
    rw [hl] at h1
    have h1 : tK C W σ SV H (RD C.K SV H ρ true false) (if KV.1.length < lim then .ok (.dk true KV.1 KV.2) ρE else .bad) Q := h1
    by_cases hlim : KV.1.length < lim
    case neg => rw [if_neg hlim] at h1; exact h1.elim
    rw [if_pos hlim] at h1
    have dV : Dn ∉ SV1 := fun z => by
      obtain ⟨o, eo, _⟩ := e1.vars.owns Dn z
      rw [hD] at eo; cases eo
    let Pv : Nat → Hp → Prop := fun i H' => ∃ ρi SVi ks ds' vs, EnvP C.K SV1 H1 (wipe σ ow) ρi H' SVi ∧ (∀ (j : Nat) d, ρi[j]? = some (some d) → j ∉ ow) ∧ H' Dn = some (.dK (ks.zip vs)) ∧ ks.length = vs.length ∧ Reps C.K H' ds' vs [] ∧ Dn ∉ SVi ∧ dcLoop (dcF ow tg c ke e) (ds.drop i) (ks, ds') ρi = .ok KV ρE
    refine ⟨fun i m H => m = ds.length - i ∧ i ≤ ds.length ∧ Pv i H, ⟨ds.length, by simp, Nat.zero_le _, ?_⟩, ?_⟩
    · obtain ⟨SV2, v2, n2, s2⟩ := vars_wipe e1.vars e1.nd ow
      have x : Ext [] H1 (upd H1 Dn (.dK [])) := Ext.new hD
      exact ⟨wipeE ρ1 ow, SV2, [], [], [], ⟨v2.kp (x.all _), n2, fun a ha => .inl (s2 a ha), x.weak _⟩, fun j d e => wipeE_not e, upd_same, rfl, Reps.nil, fun z => dV (s2 _ z), hl⟩
    · rintro i m Ha ⟨rfl, hi0, ρi, SVi, ks, ds', vs, eI, nov, hDa, hlen, ra, nDV, hys⟩
      have kp1 : Kp [] H1 Ha := eI.ext.kp e1.vars.owns fun a ha => absurd ha List.not_mem_nil
      by_cases hi : i < ds.length
      · refine .inr ⟨wk.goes i Ha hi kp1, Pv (i + 1), fun H' p' => ⟨ds.length - (i + 1), by omega, rfl, hi, p'⟩, fun x Hb y => ?_⟩
        obtain ⟨x1, rd⟩ := wk.yields i Ha x Hb ds[i] (by simp [hi]) kp1 y
        rw [List.drop_eq_getElem_cons hi] at hys
        obtain ⟨xs, ρa, hf, hys⟩ := bind_ok (show ((dcF ow tg c ke e ds[i] ρi).bind fun x ρ1 => dcLoop (dcF ow tg c ke e) (ds.drop (i + 1)) (match x with | some (k, v) => put k v ks ds' | none => (ks, ds')) ρ1) = .ok KV ρE from hys)
        obtain ⟨ρb, b, ρc, hb1, hb2, hb3⟩ := dcF_ok hf
        have eb : EnvP C.K SV1 H1 (wipe σ ow) ρi Hb SVi := eI.tr ((EnvP.refl eI.vars eI.nd).ext0 x1)
        refine ⟨ds[i], ρi, SVi, ρb, rd, eb.vars, eb.nd, hb1, fun σ2 SV2 v2 n2 s2 ag len => ?_⟩
        have e2 : EnvP C.K SV1 H1 σ2 ρb Hb SV2 := eb.tr (EnvP.sub v2 n2 s2)
        have hw : wipe σ2 ow = wipe σ ow := wipe_eq (by rw [len, wipe_length]) fun j hj => ag j fun z => hj (ht j z)
        refine ⟨hw, ρb, SV2, v2, n2, ?_⟩
        rw [hb2]
        rintro v Hc SV3 e3 rfl
        have hDb : Hb Dn = some (.dK (ks.zip vs)) := x1 _ _ hDa List.not_mem_nil
        have a2 : Dn ∉ SV2 := fun z => nDV (s2 _ z)
        obtain ⟨a3, hDc⟩ := e3.apart a2 hDb
        have rb : Reps C.K Hb ds' vs [] := ra.kp ds' (x1.all _)
        have k3 : Kp [] Hb Hc := e3.ext.kp v2.owns fun a ha => absurd ha List.not_mem_nil
        have rc : Reps C.K Hc ds' vs [] := rb.kp ds' k3
        have ec : EnvP C.K SV1 H1 σ2 ρc Hc SV3 := e2.tr e3
        rcases hb3 with ⟨rfl, kd, ρd, yd, ρe, j, he1, he2, hj, hfz, rfl, rfl⟩ | ⟨rfl, rfl, rfl⟩
        · rw [if_pos rfl]
          refine ⟨ρc, SV3, e3.vars, e3.nd, ?_⟩
          rw [he1]
          rintro kv Hd SV4 e4 ⟨⟨Tk, rk⟩, _⟩
          refine ⟨ρd, SV4, e4.vars, e4.nd, ?_⟩
          rw [he2]
          rintro z He SV5 e5 ⟨⟨Tz, rz⟩, _⟩
          have := rz.rep.frz hfz
          subst this
          obtain ⟨a4, hDd⟩ := e4.apart a3 hDc
          obtain ⟨a5, hDe⟩ := e5.apart a4 hDd
          have k4 : Kp [] Hc Hd := e4.ext.kp e3.vars.owns fun a ha => absurd ha List.not_mem_nil
          have k5 : Kp [] Hd He := e5.ext.kp e4.vars.owns fun a ha => absurd ha List.not_mem_nil
          have re : Reps C.K He ds' vs [] := (rc.kp ds' k4).kp ds' k5
          obtain ⟨vs2, S2, p1, p2, p3, p4⟩ := put_rep (k := j) hlen re rz.rep
          have hS2 : S2 = [] := List.sublist_nil.mp p4
          subst hS2
          have ee : EnvP C.K SV1 H1 σ2 ρe He SV5 := (ec.tr e4).tr e5
          obtain ⟨SV6, v6, n6, s6⟩ := vars_wipe e5.vars e5.nd ow
          rw [hw] at v6
          have a6 : Dn ∉ SV6 := fun z => a5 (s6 _ z)
          have mb : Mb (.dK (ks.zip vs)) := True.intro
          have kU : Kp SV6 He (upd He Dn (.dK (putK (ks.zip vs) j z))) := kp_upd hDe mb a6
          have kN : Kp [] He (upd He Dn (.dK (putK (ks.zip vs) j z))) := kp_upd hDe mb List.not_mem_nil
          refine ⟨ks.zip vs, j, keyD_kV rk.rep hj, hDe, ?_, ?_⟩
          · rw [List.length_zip, ← hlen, Nat.min_self]
            have q1 := dcLoop_len hys
            have q2 := put_len j yd ks ds'
            have q1 : (put j yd ks ds').1.length ≤ KV.1.length := q1
            have := lim_eq
            omega
          · refine ⟨wipeE ρe ow, SV6, (put j yd ks ds').1, (put j yd ks ds').2, vs2, ⟨v6.kp kU, n6, fun a ha => ee.src a (s6 a ha), fun a o ha hs => ?_⟩, fun j d e => wipeE_not e, by rw [upd_same, p1], p2, p3.kp _ kN, a6, hys⟩
            rw [upd_ne (fun z => by rw [z, hD] at ha; cases ha)]
            exact ee.ext a o ha hs
        · rw [if_neg Bool.false_ne_true]
          obtain ⟨SV6, v6, n6, s6⟩ := vars_wipe e3.vars e3.nd ow
          rw [hw] at v6
          exact ⟨wipeE ρc ow, SV6, ks, ds', vs, ⟨v6, n6, fun a ha => ec.src a (s6 a ha), ec.ext⟩, fun j d e => wipeE_not e, hDc, hlen, rc, fun z => a3 (s6 _ z), hys⟩
      · have hie : i = ds.length := by omega
        subst hie
        refine .inl ⟨wk.stops Ha kp1, ?_⟩
        rw [List.drop_length] at hys
        cases hys
        have vv : Vars C.K Ha ρE σ SVi := vars_agree eI.vars (by rw [wipe_length]) fun j d hj => (wipe_get (nov j d hj)).symm
        have es : EnvP C.K SV1 H1 σ ρE Ha SVi := ⟨vv, eI.nd, eI.src, eI.ext⟩
        refine h1 (.ref Dn) Ha SVi (e1.trans es) ⟨⟨[Dn], ⟨Dn, vs, [], rfl, hDa, hlen, ra, rfl⟩, (fun _ => src_trans e1 fun a ha => ?_), (fun _ => List.nodup_cons.mpr ⟨nDV, eI.nd⟩)⟩, (fun z => nomatch z)⟩
        rw [show a = Dn by simpa using ha]
        exact .inr hD
theorem se_dc {kx vx tg iter : Expr} {ifs : List Expr} {scope : Scope} {ow : List (Str × Nat)} {tg' : Tg} {it : It} {c : Es} {k' e' : E} (ho : own e' = true) (ht : ∀ i ∈ tns tg', i ∈ ow.map (·.2)) (hc : X.calm = true) (hN : X.N.Nodup) (hi : PI X tg iter (tI C W it)) (ok : BlkOk X.N X.env.scope scope ow)
    (hg : ∀ (s : Shared) (H : Hp) (Cc : Addr) (cl : List (Str × Addr)) (fp : List Addr), PG (X.blk s H scope (compEnvC scope cl Cc X.env) fp) tg (tG C.K tg')) (htt : ∀ (s : Shared) (H : Hp) (Cc : Addr) (cl : List (Str × Addr)) (fp : List Addr), PTs (X.blk s H scope (compEnvC scope cl Cc X.env) fp) ifs (tCs C WF c))
    (hk : ∀ (s : Shared) (H : Hp) (Cc : Addr) (cl : List (Str × Addr)) (fp : List Addr), PE (X.blk s H scope (compEnvC scope cl Cc X.env) fp) kx (tD C WF k'))
    (he : ∀ (s : Shared) (H : Hp) (Cc : Addr) (cl : List (Str × Addr)) (fp : List Addr), PE (X.blk s H scope (compEnvC scope cl Cc X.env) fp) vx (tD C WF e')) (hs : ∀ x, foldedSetIterable iter X.env x = pure x) :
    PE X (.DictComp kx vx [⟨tg, iter, ifs, 0⟩] scope pos) (tD C W (.dc (ow.map (·.2)) tg' it c k' e')) := pemono (pe_dc hc hN hi ok hg htt hk he hs) fun σ H Q h => dc_read ho ht h
/-! ### calls by keywords alone -/
theorem sk_nil : PK X [] (tA C W .nil) := ⟨fun pos pins s σ H Q I ⟨ρ, SV, hv, nd, h⟩ => pk_nil.run pos pins s σ H Q I (h [] H SV (.refl hv nd) ⟨⟨[], .nil, fun a ha => absurd ha List.not_mem_nil, nd⟩, fun _ => ⟨rfl, rfl, .refl⟩⟩)⟩
theorem sk_cons {nm : Option Str} {kpos : Pos} {kws : List Keyword} {es' : Es} (ho : own a' = true) (ha : PE X a (tD C W a')) (hr : PK X kws (tA C W es')) : PK X (⟨nm, a, kpos⟩ :: kws) (tA C W (.cons a' es')) :=
  ⟨fun pos pins s σ H Q I h => (pk_cons ha hr).run pos pins s σ H Q I (ta_cons_read ho h)⟩
/-- f(a = .., b = ..): bound by the names -/
def KB0 (K : PySem.W.Frag) (fd : FuncData) (ps ks : List Str) : Prop := ∀ (s : Shared) (ws : List Value), K.In s.heap → ws.length = ps.length → BindsTo s fd ⟨[], ks.zip ws⟩ (ps.zip ws)
theorem pe_callKS {k : Nat} {f : Addr} {fd : FuncData} {ps ks : List Str} {sp : Sp} {x : Str} {p : Pos} {kws : List Keyword} {tk : TA} (F : FnOk X.prog X.w X.K X.mg X.base (L2.CX X.prog X.w) k f fd ps sp) (hr : Room k X.A) (hg : Gl X x) (hm : X.mg x = some (.ref f)) (hk : PySem.W.keepIn X.K (.ref f) = true)
    (hb : KB0 X.K fd ps ks) (tks : Takes X W) (hkw : PK X kws tk) (hall : (backToKw pos (keywordEach kws X.env)).all (·.1.isSome) = true) (hks : (backToKw pos (keywordEach kws X.env)).filterMap (·.1) = ks)
    (hdb : (x == ("__debug__" : Str)) = false) (hpl : ((backTo pos (starEach [] X.env)).any (·.1) || (backToKw pos (keywordEach kws X.env)).any (·.1.isNone)) = false) :
    PE X (.Call (.Name x p) [] kws pos) (fun σ H Q => tk σ H fun zs H2 => sp zs H2 Q (WE W σ)) := by
  refine ⟨fun pins s σ H Q I h => ?_⟩
  refine wpAny_Call_Name_kw (ld_glob I hg hm ?_ hdb)
  refine PySem.W.callWith_KW0 (h₀ := X.base) I.ok.mod.kin hk hall ?_ hpl
  refine thn (hkw.run pos pins s σ H _ I h) fun ws s2 ⟨zs, H2, I2, rz, q2⟩ => ⟨I2.kIn, ?_⟩
  rw [hks]
  have hl : ws.length = ps.length := by rw [← rz.length]; exact F.len _ _ _ _ q2
  refine wpAny_call (codeAny_mono (F.run X.A X.stack s2 H2 ⟨[], ks.zip ws⟩ ws zs Q (WE W σ) hr I2.env0 (hb s2 ws I2.kIn hl) rz q2) fun r s' hq => ?_)
  cases r with
  | error e => exact passAt tks σ pins H2 s2 e s' I2 hq
  | ok fl =>
    cases fl with
    | ret u => exact I2.after hq
    | next => exact False.elim hq
    | brk => exact False.elim hq
    | cont => exact False.elim hq
/-- a def that may be called by keywords -/
def FnGK (C : Cfg) (X : Cx) (k : Nat) (x : Str) (io : List Bool) (ps : List Str) (sem : FSem) : Prop :=
  ∃ (f : Addr) (fd : FuncData), X.mg x = some (.ref f) ∧ FnOk X.prog X.w X.K X.mg X.base (L2.CX X.prog X.w) k f fd ps (spD C io sem) ∧ PySem.W.keepIn X.K (.ref f) = true ∧ KB0 X.K fd ps ps
theorem se_callK {slots : List (Option Nat)} {j k : Nat} {x : Str} {p : Pos} {kws : List Keyword} {ps : List Str} {es' : Es} (tk : Takes X W) (G : FnGK C X k x (slots.map (·.isSome)) ps (Fns.F j)) (hr : Room k X.A) (hg : Gl X x) (hal : align slots es' = true) (hnd : (ios slots).Nodup) (ha : PK X kws (tA C W es')) (hdb : (x == ("__debug__" : Str)) = false)
    (hall : (backToKw pos (keywordEach kws X.env)).all (·.1.isSome) = true) (hks : (backToKw pos (keywordEach kws X.env)).filterMap (·.1) = ps) (hpl : ((backTo pos (starEach [] X.env)).any (·.1) || (backToKw pos (keywordEach kws X.env)).any (·.1.isNone)) = false) : PE X (.Call (.Name x p) [] kws pos) (tD C W (.call slots j es')) := by
  obtain ⟨f, fd, hm, F, hk, hb⟩ := G
  refine pemono (pe_callKS F hr hg hm hk hb tk ha hall hks hdb hpl) fun σ H Q h => ?_
  obtain ⟨ρ, SV, hv, nd, h⟩ := h
  have h : tK C W σ SV H (RD C.K SV H ρ true (slots.all (·.isNone) && quiets es')) ((evs es' ρ).bind fun ds ρ => callOut slots (Fns.F j) ds ρ) Q := h
  exact ⟨ρ, SV, hv, nd, tK_bind0 h fun ds ρ1 vs H1 SV1 e1 ⟨⟨S, r1⟩, q1⟩ h1 => sp_call hal hnd e1 r1 q1 h1⟩
end
end Ly

namespace Ly
open PySem PySem.Spec L2
variable [Fns]
section
variable {X : Cx} {K : PySem.W.Frag} {H : Hp}
open PySem.W in
theorem reps_each {pins : List (Addr × Obj)} {σ : St} {s : Shared} : ∀ {ds : List D} {vs : List V} {us : List Value}, Reps K H ds vs [] → Vals vs us → EachIs (fun v d => ∃ x, RelV x v ∧ Rep K H d x []) us ds
  | [], _, us, h, r => by
    obtain ⟨rfl, _⟩ := h
    cases r
    exact .nil
  | d :: ds, _, us, h, r => by
    obtain ⟨v, t, S1, S2, rfl, q1, q2, e⟩ := h
    obtain ⟨rfl, rfl⟩ := List.append_eq_nil_iff.mp e.symm
    cases r with
    | cons r1 r2 => exact .cons ⟨v, r1, q1⟩ (reps_each (pins := pins) (σ := σ) (s := s) q2 r2)
open PySem.W in
theorem each_reps : ∀ {ds : List D} {us : List Value}, EachIs (fun v d => ∃ x, RelV x v ∧ Rep K H d x []) us ds → ∃ vs, Vals vs us ∧ Reps K H ds vs []
  | _, _, .nil => ⟨[], .nil, Reps.nil⟩
  | _, _, .cons ⟨x, r, q⟩ t => by
    obtain ⟨vs, h1, h2⟩ := each_reps t
    exact ⟨x :: vs, .cons r h1, Reps.cons (S1 := []) (S2 := []) q h2⟩
theorem plain_all {xs : List D} (h : (xs.all fun x => (toP x).plain && decide ((toP x).depth ≤ 32)) = true) {x : D} (hx : x ∈ xs) : (toP x).plain = true ∧ (toP x).depth ≤ 32 := by
  have := List.all_eq_true.mp h x hx
  rw [Bool.and_eq_true] at this
  exact ⟨this.1, of_decide_eq_true this.2⟩
theorem each_imp {α β : Type} {R S : α → β → Prop} {l : List α} : ∀ {m : List β}, PySem.W.EachIs R l m → (∀ a b, b ∈ m → R a b → S a b) → PySem.W.EachIs S l m := by
  intro m h
  induction h with
  | nil => exact fun _ => .nil
  | cons r t ih => exact fun k => .cons (k _ _ List.mem_cons_self r) (ih fun a b hb => k a b (List.mem_cons_of_mem _ hb))
theorem cd_sorted (hu : X.A.units + 40 < cLine) : CallR X (.builtin "sorted") (rC1 X.K O1.srt.sem) := by
  intro pins s σ H xs us Q I rx h
  obtain ⟨x, rfl, d, z, S, r, hz, k⟩ := h
  cases d with
  | lst o ds =>
    change sortS ds = some z at hz
    unfold sortS at hz
    split at hz
    · rename_i hc
      cases hz
      obtain ⟨⟨⟨ho, hk⟩, hf⟩, hl, hp⟩ := hc
      obtain ⟨a, vs, T, rfl, q, rs, f⟩ := lst_sq r
      have := rs.frz hf
      subst this
      obtain ⟨its, rv, hL, hsz⟩ := I.list (.inl q)
      rw [Vals.ref1 rx]
      have e := reps_each (pins := pins) (σ := σ) (s := s) rs rv
      have hal : PySem.W.AllAlike (ds.map toP) := fun p hp' q hq => by
        obtain ⟨x, hx, rfl⟩ := List.mem_map.mp hp'
        obtain ⟨y, hy, rfl⟩ := List.mem_map.mp hq
        exact List.all_eq_true.mp (List.all_eq_true.mp ho x hx) y hy
      have hsrt : PySem.W.Sortable (ds.map toP) := by
        rcases hk with hk | hk
        · refine .inl fun p hp' => ?_
          obtain ⟨x, hx, rfl⟩ := List.mem_map.mp hp'
          have := List.all_eq_true.mp hk x hx
          cases x with
          | tup xs =>
            cases xs with
            | nil => cases this
            | cons y ys => exact ⟨_, _, rfl⟩
          | _ => cases this
        · refine .inr fun p hp' => ?_
          obtain ⟨x, hx, rfl⟩ := List.mem_map.mp hp'
          have := List.all_eq_true.mp hk x hx
          cases x <;> first
            | (cases this; done)
            | exact ⟨(fun z => by cases z), (fun xs z => by cases z)⟩
      refine PySem.W.sorted_data (enc := toP) (bs := ds) hL.isList e (each_imp e fun v d hd ⟨x, r1, r2⟩ => (rep_dp d r2 (plain_all hp hd).1).reads I _ _ _ r1) hal hsrt (by have := lim_eq; omega) (fun b hb => by have := (plain_all hp hb).2; omega) fun out hlen eo => ?_
      obtain ⟨ws, w1, w2⟩ := each_reps eo
      obtain ⟨ep, he'⟩ := PyProof.Rows.sortedAll_at s.heap its out.toArray
      have hwl : ws.length ≤ sizeLine := by
        rw [← w2.length]
        show (ds.mergeSort _).length ≤ _
        rw [List.length_mergeSort]
        have := lim_eq
        omega
      exact ⟨.ref _, upd H (s.heap.objs.size + 1) (.lst ws), I.laid (t' := s.toks) (fun _ _ => PyProof.Rows.sortedAll_old) (Nat.le_succ _) ⟨hwl, out, ep, w1, he'⟩, rfl, kLst k w2 _ (I.hok.fresh (Nat.le_succ _))⟩
    · cases hz
  | _ => cases hz
/-! ### pops -/
variable {C : Cfg} {W : WX} {pos : Pos}
theorem onL_some {α : Type} {f : List D → Option (α × List D)} {i : Nat} {ρ ρ' : Ev} {d : α} (h : onL f i ρ = .ok d ρ') : ∃ xs ys, getV ρ i = some (.lst true xs) ∧ f xs = some (d, ys) ∧ ρ' = ρ.set i (some (.lst true ys)) := by
  unfold onL at h
  split at h
  · rename_i xs e
    split at h
    · rename_i a ys e2
      cases h
      exact ⟨xs, ys, e, e2, rfl⟩
    · cases h
  · cases h
theorem onL_exc {α : Type} {f : List D → Option (α × List D)} {i : Nat} {ρ ρ' : Ev} {x : D} (h : onL f i ρ = .exc x ρ') : False := by
  unfold onL at h
  split at h
  · split at h <;> cases h
  · cases h
theorem drop_erase {α : Type} : ∀ (l : List α), l.dropLast = l.eraseIdx (l.length - 1)
  | [] => rfl
  | [x] => rfl
  | x :: y :: l => by
    have := drop_erase (y :: l)
    simp only [List.dropLast_cons_of_ne_nil (List.cons_ne_nil y l), List.length_cons, Nat.add_sub_cancel] at this ⊢
    rw [this]
    rfl
/-- the item k is taken out of the list of the name i -/
theorem take_out {SV SV1 : List Addr} {H H1 : Hp} {σ : St} {ρ1 : Ev} {i k : Nat} {xs : List D} {d : D} (e1 : EnvP C.K SV H σ ρ1 H1 SV1) (hg : getV ρ1 i = some (.lst true xs)) (hk : xs[k]? = some d) (hf : frzD d = true) :
    ∃ a vs v, σ[i]? = some (some (.ref a)) ∧ H1 a = some (.lst vs) ∧ vs.length = xs.length ∧ vs[k]? = some v ∧ ∃ SV2, EnvP C.K SV H σ (ρ1.set i (some (.lst true (xs.eraseIdx k)))) (upd H1 a (.lst (vs.eraseIdx k))) SV2 ∧ Rep C.K (upd H1 a (.lst (vs.eraseIdx k))) d v [] := by
  obtain ⟨a, vs, S', R, hσ, hH, rs, f⟩ := lst_at e1.vars hg
  obtain ⟨v, T, R0, g1, g2, g3, g4, _⟩ := Reps.split rs hk
  have := g2.frz hf
  subst this
  have ndf : ((a :: S') ++ R).Nodup := f.perm.nodup_iff.mp e1.nd
  obtain ⟨na, ndf'⟩ := List.nodup_cons.mp (show (a :: (S' ++ R)).Nodup from ndf)
  have p0 : S'.Perm R0 := g3
  have memR : ∀ b ∈ R0, b ∈ S' := fun b hb => p0.mem_iff.mpr hb
  have nd2 : (a :: (R0 ++ R)).Nodup := ((p0.append_right R).cons a).nodup_iff.mp ndf
  have kU : Kp R0 H1 (upd H1 a (.lst (vs.eraseIdx k))) := kp_upd hH (show Mb (.lst vs) from True.intro) fun z => na (List.mem_append_left _ (memR a z))
  have rep2 : Rep C.K (upd H1 a (.lst (vs.eraseIdx k))) (.lst true (xs.eraseIdx k)) (.ref a) (a :: R0) := ⟨a, _, _, rfl, upd_same, g4.kp _ kU, rfl⟩
  have mem1 : ∀ b ∈ a :: (S' ++ R), b ∈ SV1 := fun b hb => f.perm.mem_iff.mpr hb
  obtain ⟨SV2, e2, _⟩ := obj_write e1 f hσ hH (show Mb (.lst vs) from True.intro) rep2 nd2 (fun b hb => e1.src b (mem1 b (List.mem_cons_of_mem _ (List.mem_append_left _ (memR b hb)))))
  exact ⟨a, vs, v, hσ, hH, rs.length.symm, g1, SV2, e2, g2.kp d (kp_upd (S := []) hH (show Mb (.lst vs) from True.intro) List.not_mem_nil)⟩
theorem res_frz {SV SV2 : List Addr} {H H2 : Hp} {σ : St} {ρ ρ2 : Ev} {d : D} {v : V} (e2 : EnvP C.K SV H σ ρ2 H2 SV2) (r : Rep C.K H2 d v []) : RD C.K SV H ρ true false d ρ2 SV2 H2 v :=
  ⟨⟨[], r, (fun _ a ha => absurd ha List.not_mem_nil), (fun _ => e2.nd)⟩, fun q => by cases q⟩
theorem se_pop {i : Nat} {x : Str} {p apos cpos : Pos} (hN : X.N[i]? = some x) (hv : Vis X.env.scope x) (hd : (x == ("__debug__" : Str)) = false) (hcd : (x == ("__classdict__" : Str)) = false)
    (hbase : attributeBase (.Name x p) "pop" X.env (eval (.Name x p) X.env) = eval (.Name x p) X.env) (hline : (apos.endLine == cpos.line) = true) :
    PE X (.Call (.Attribute (.Name x p) "pop" apos) [] [] cpos) (tD C W (.pop i)) := by
  refine pemono (pe_bm0 PySem.F.plainAttrs_list PySem.F.slot_list_pop PySem.F.type_list_pop mt_pop (pe_var hN hv hd hcd) hbase hline) fun σ H Q ⟨ρ, SV, hv', nd, h⟩ => ?_
  have h : tK C W σ SV H (RD C.K SV H ρ true false) (onL popF i ρ) Q := h
  cases ho : onL popF i ρ with
  | bad => rw [ho] at h; exact h.elim
  | exc x ρ' => exact (onL_exc ho).elim
  | ok d ρ' =>
    rw [ho] at h
    obtain ⟨xs, ys, h1, h2, rfl⟩ := onL_some ho
    unfold popF at h2
    split at h2
    · rename_i d' hx
      split at h2
      · rename_i hf
        cases h2
        obtain ⟨a, vs, v, hσ, hH, hl, hvk, SV2, e2, r⟩ := take_out (EnvP.refl hv' nd) h1 hx hf
        rw [← drop_erase] at e2
        rw [hl.symm] at e2 r hvk
        rw [← drop_erase] at e2 r
        exact ⟨.ref a, hσ, .inl ⟨rfl, vs, .inl (.inl hH)⟩, a, vs, v, rfl, rfl, hH, hvk, h v _ SV2 e2 (res_frz e2 r)⟩
      · cases h2
    · cases h2
theorem se_popAt {i : Nat} {e : Expr} {e' : E} {x : Str} {p apos cpos : Pos} (ho : own e' = true) (hN : X.N[i]? = some x) (hv : Vis X.env.scope x) (hd : (x == ("__debug__" : Str)) = false) (hcd : (x == ("__classdict__" : Str)) = false) (ha : PA X [e] (tA C W (.cons e' .nil)))
    (hbase : attributeBase (.Name x p) "pop" X.env (eval (.Name x p) X.env) = eval (.Name x p) X.env)
    (hfew : ((backTo cpos (starEach [e] X.env)).all (fun x => !x.1) && (backToKw cpos (keywordEach [] X.env)).all (fun x => x.1.isSome)
      && decide (([e] : List Expr).length + ([] : List Keyword).length + (if ([] : List Keyword).isEmpty then 0 else 1) < 30)) = true)
    (hline : (apos.endLine == cpos.line) = true) (hs : starEach [e] X.env = (false, eval e X.env) :: starEach [] X.env) (hplain : (backTo cpos (starEach [] X.env)).any (·.1) = false) :
    PE X (.Call (.Attribute (.Name x p) "pop" apos) [e] [] cpos) (tD C W (.popAt i e')) := by
  refine pemono (pe_bm PySem.F.plainAttrs_list PySem.F.slot_list_pop PySem.F.type_list_pop mt_popAt (pe_var hN hv hd hcd) ha hbase hfew hline hs hplain) fun σ H Q ⟨ρ, SV, hv', nd, h⟩ => ?_
  have h : tK C W σ SV H (RD C.K SV H ρ true false) (if isL ρ i = true then (ev e' ρ).bind fun x ρ => (match x with
    | .int k => onL (popAtF k) i ρ
    | _ => .bad) else .bad) Q := h
  by_cases hl : isL ρ i = true
  case neg => rw [if_neg hl] at h; exact h.elim
  rw [if_pos hl] at h
  obtain ⟨xs0, h0⟩ := isL_some hl
  obtain ⟨a, vs0, S0, R0, hσ, hH0, _, _⟩ := lst_at hv' h0
  refine ⟨.ref a, hσ, .inl ⟨rfl, vs0, .inl (.inl hH0)⟩, ρ, SV, hv', nd, ?_⟩
  have e3 : evs (.cons e' .nil) ρ = (ev e' ρ).bind fun d ρ => .ok [d] ρ := rfl
  have h2 : tK C W σ SV H (RD C.K SV H ρ true false) ((evs (.cons e' .nil) ρ).bind fun ds ρ => match ds with
    | [.int k] => onL (popAtF k) i ρ
    | _ => .bad) Q := by
    rw [e3]
    cases hev : ev e' ρ with
    | bad => rw [hev] at h; exact h
    | exc x ρ' => rw [hev] at h; exact h
    | ok d ρ' => rw [hev] at h; cases d <;> exact h
  refine tK_bind0 h2 fun ds ρ1 vs H1 SV1 e1 ⟨⟨S, r1⟩, _⟩ h1 => ?_
  cases r1.rep with
  | @cons _ _ d ds v vs T T' rd t =>
    cases t
    cases d with
    | int k =>
      have h1 : tK C W σ SV H (RD C.K SV H ρ true false) (onL (popAtF k) i ρ1) Q := h1
      have := rd.1
      subst this
      cases ho : onL (popAtF k) i ρ1 with
      | bad => rw [ho] at h1; exact h1.elim
      | exc x ρ' => exact (onL_exc ho).elim
      | ok d ρ' =>
        rw [ho] at h1
        obtain ⟨xs, ys, g1, g2, rfl⟩ := onL_some ho
        unfold popAtF at g2
        split at g2
        · rename_i j hj
          split at g2
          · rename_i d' hx
            split at g2
            · rename_i hf
              cases g2
              obtain ⟨a', vs, v, hσ', hH, hl', hvk, SV2, e2, r⟩ := take_out e1 g1 hx hf.1
              rw [hσ] at hσ'
              cases hσ'
              obtain ⟨j1, j2, j3, j4⟩ := ixN_seq hj
              have hz := hf.2
              have hlm := lim_eq
              have hsl := sizeLine_eq
              exact ⟨a, vs, k, j, v, rfl, rfl, hH, by omega, by omega, by rw [hl']; exact j1, hvk, h1 v _ SV2 e2 (res_frz e2 r)⟩
            · cases g2
          · cases g2
        · cases g2
    | _ => exact h1.elim
/-! ### list(range(..)) -/
theorem rng_reps {n : Nat} {lo : Int} : Reps K H (rngD lo n) ((List.range n).map fun i => V.int (lo + (i : Nat))) [] := by
  induction n generalizing lo with
  | zero => exact Reps.nil
  | succ n ih =>
    rw [List.range_succ_eq_map, List.map_cons, List.map_map]
    refine Reps.cons (S1 := []) (S2 := []) ⟨by simp, rfl⟩ ?_
    have := ih (lo := lo + 1)
    have e : (fun i : Nat => V.int (lo + 1 + (i : Nat))) = ((fun i : Nat => V.int (lo + (i : Nat))) ∘ Nat.succ) := by
      funext i
      show V.int _ = V.int _
      congr 1
      push_cast
      omega
    rw [e] at this
    exact this
theorem rngD_len : ∀ (n : Nat) (lo : Int), (rngD lo n).length = n
  | 0, _ => rfl
  | n + 1, lo => congrArg (· + 1) (rngD_len n (lo + 1))
theorem se_lrg1 {a : Expr} {a' : E} {p p2 pos pos2 : Pos} (hc : X.calm = true) (hg : Gl X "list") (hm : X.mg "list" = none) (hg2 : Gl X "range") (hm2 : X.mg "range" = none) (ha : PE X a (tD C W a')) (na : starEach [a] X.env = (false, eval a X.env) :: starEach [] X.env) :
    PE X (.Call (.Name "list" p) [.Call (.Name "range" p2) [a] [] pos2] [] pos) (tD C W (.lrg (.cons a' .nil))) := by
  refine pemono (pe_listRg hc hg hm (prg_1 hg2 hm2 ha na) rfl) fun σ H Q ⟨ρ, SV, hv, nd, h⟩ => ?_
  have h : tK C W σ SV H (RD C.K SV H ρ true (quiet a' && true)) ((ev a' ρ).bind fun d ρ => liftO (lrgS [d]) ρ) Q := by
    have h : tK C W σ SV H (RD C.K SV H ρ true (quiet a' && true)) ((evs (.cons a' .nil) ρ).bind fun ds ρ => liftO (lrgS ds) ρ) Q := h
    have e3 : evs (.cons a' .nil) ρ = (ev a' ρ).bind fun d ρ => .ok [d] ρ := rfl
    rw [e3] at h
    cases hev : ev a' ρ <;> rw [hev] at h <;> exact h
  refine ⟨ρ, SV, hv, nd, tK_bind0 h fun d ρ1 v H1 SV1 e1 ⟨⟨S, r1⟩, q1⟩ h1 => ?_⟩
  obtain ⟨z, hz, h2⟩ := tK_lift h1
  cases d with
  | int j =>
    unfold lrgS rngOf at hz
    dsimp only at hz
    split at hz
    · rename_i l hl
      split at hl
      · rename_i hb
        cases hl
        split at hz
        · rename_i hlen
          cases hz
          rw [rngD_len] at hlen
          have hlen : j.toNat ≤ 16777216 := hlen
          refine ⟨j, r1.rep.1, ⟨by omega, by omega, by omega, by omega, by rw [Int.sub_zero]; omega⟩, kLst (K := C.K) (ds := rngD 0 j.toNat) (fun w H' S' x rep nd' new => ?_) ?_⟩
          · have en := e1.ext0 x
            obtain ⟨f1, f2⟩ := fresh_sep e1 nd' new
            exact h2 w H' SV1 (e1.trans en) ⟨⟨S', rep, (fun _ => f1), (fun _ => f2)⟩, fun q => (q1 (by simpa using q)).ext x⟩
          · unfold rgV
            rw [Int.sub_zero]
            exact rng_reps
        · cases hz
      · cases hl
    · cases hz
  | _ => cases hz
theorem se_lrg2 {a b : Expr} {a' b' : E} {p p2 pos pos2 : Pos} (hc : X.calm = true) (hg : Gl X "list") (hm : X.mg "list" = none) (hg2 : Gl X "range") (hm2 : X.mg "range" = none) (ha : PE X a (tD C W a')) (hb : PE X b (tD C W b')) (na : starEach [a, b] X.env = (false, eval a X.env) :: starEach [b] X.env) (nb : starEach [b] X.env = (false, eval b X.env) :: starEach [] X.env) (hp : (backTo pos2 (starEach [b] X.env)).any (·.1) = false) :
    PE X (.Call (.Name "list" p) [.Call (.Name "range" p2) [a, b] [] pos2] [] pos) (tD C W (.lrg (.cons a' (.cons b' .nil)))) := by
  refine pemono (pe_listRg hc hg hm (prg_2 hg2 hm2 ha hb na nb hp) rfl) fun σ H Q ⟨ρ, SV, hv, nd, h⟩ => ?_
  have h : tK C W σ SV H (RD C.K SV H ρ true (quiet a' && (quiet b' && true))) ((ev a' ρ).bind fun d ρ => (ev b' ρ).bind fun e ρ => liftO (lrgS [d, e]) ρ) Q := by
    have h : tK C W σ SV H (RD C.K SV H ρ true (quiet a' && (quiet b' && true))) ((evs (.cons a' (.cons b' .nil)) ρ).bind fun ds ρ => liftO (lrgS ds) ρ) Q := h
    have e3 : evs (.cons a' (.cons b' .nil)) ρ = (ev a' ρ).bind fun d ρ => ((ev b' ρ).bind fun e ρ => .ok [e] ρ).bind fun es ρ => .ok (d :: es) ρ := rfl
    rw [e3] at h
    cases hev : ev a' ρ with
    | bad => rw [hev] at h; exact h
    | exc x ρ' => rw [hev] at h; exact h
    | ok d ρ1 =>
      rw [hev] at h
      show tK C W σ SV H _ ((ev b' ρ1).bind fun e ρ => liftO (lrgS [d, e]) ρ) Q
      have h : tK C W σ SV H (RD C.K SV H ρ true (quiet a' && (quiet b' && true))) ((((ev b' ρ1).bind fun e ρ => .ok [e] ρ).bind fun es ρ => .ok (d :: es) ρ).bind fun ds ρ => liftO (lrgS ds) ρ) Q := h
      cases hev2 : ev b' ρ1 <;> rw [hev2] at h <;> exact h
  refine ⟨ρ, SV, hv, nd, tK_bind h fun d ρ1 v H1 SV1 e1 ⟨⟨S, r1⟩, q1⟩ h1 => ⟨ρ1, SV1, e1.vars, e1.nd, tK_bind h1 fun e ρ2 u H2 SV2 e2 ⟨⟨S2, r2⟩, q2⟩ h2 => ?_⟩⟩
  obtain ⟨z, hz, h3⟩ := tK_lift h2
  have iD : ∀ w : D, (match w with | .int _ => True | _ => False) ∨ ¬ (match w with | .int _ => True | _ => False) := fun w => by cases w <;> simp
  have hd : ∃ i j, d = .int i ∧ e = .int j := by
    cases d <;> first
      | (cases hz; done)
      | (cases e <;> first
        | (cases hz; done)
        | exact ⟨_, _, rfl, rfl⟩)
  obtain ⟨i, j, rfl, rfl⟩ := hd
  unfold lrgS rngOf at hz
  dsimp only at hz
  split at hz
  · rename_i l hl
    split at hl
    · rename_i hb
      cases hl
      split at hz
      · rename_i hlen
        cases hz
        rw [rngD_len] at hlen
        have hlen : (j - i).toNat ≤ 16777216 := hlen
        have et := e1.trans e2
        refine ⟨i, j, r1.rep.1, r2.rep.1, ⟨by omega, by omega, by omega, by omega, by omega⟩, kLst (K := C.K) (ds := rngD i (j - i).toNat) (fun w H' S' x rep nd' new => ?_) ?_⟩
        · have en := et.ext0 x
          obtain ⟨f1, f2⟩ := fresh_sep et nd' new
          refine h3 w H' SV2 en ⟨e2.trans en, et.trans en, ⟨S', rep, fun _ => f1, fun _ => f2⟩, fun q => ?_⟩
          have q : (quiet a' && (quiet b' && true)) = true := q
          rw [Bool.and_true, Bool.and_eq_true] at q
          exact ((q1 q.1).trans (q2 q.2)).ext x
        · exact rng_reps
      · cases hz
    · cases hl
  · cases hz
/-! ### methods that change nothing -/
theorem idxOf_some {d : PyData} : ∀ {zs : List PyData} {n m : Nat}, idxOf d zs n = some m → ∃ j z, m = n + j ∧ zs[j]? = some z ∧ PyData.eqv z d = true ∧ ∀ (k : Nat) (z' : PyData), k < j → zs[k]? = some z' → PyData.eqv z' d = false
  | [], _, _, h => by cases h
  | z :: zs, n, m, h => by
    unfold idxOf at h
    by_cases hz : PyData.eqv z d = true
    · rw [if_pos hz] at h
      cases h
      exact ⟨0, z, rfl, rfl, hz, fun k z' hk => absurd hk (Nat.not_lt_zero _)⟩
    · rw [if_neg hz] at h
      obtain ⟨j, y, rfl, h1, h2, h3⟩ := idxOf_some h
      refine ⟨j + 1, y, by omega, by simpa using h1, h2, fun k z' hk hz' => ?_⟩
      cases k with
      | zero =>
        cases (show z = z' by simpa using hz')
        simpa using hz
      | succ k => exact h3 k z' (by omega) (by simpa using hz')
theorem flat_rep {d : D} {v : V} {S : List Addr} (r : Rep K H d v S) (f : flatD d = true) : flatV v = true ∧ ∀ {d2 : D} {v2 : V} {S2 : List Addr}, Rep K H d2 v2 S2 → flatD d2 = true → eqV v v2 = PyData.eqv (toP d) (toP d2) := by
  cases d <;> first
    | (cases f; done)
    | (obtain ⟨rfl, _⟩ := r
       refine ⟨rfl, fun {d2 v2 S2} r2 f2 => ?_⟩
       cases d2 <;> first
         | (cases f2; done)
         | (obtain ⟨rfl, _⟩ := r2; rfl))
theorem toPs_get : ∀ {ds : List D} {i : Nat} {z : PyData}, (toPs ds)[i]? = some z → ∃ d, ds[i]? = some d ∧ z = toP d
  | [], _, _, h => by simp [toPs] at h
  | d :: ds, 0, z, h => by
    have h : some (toP d) = some z := h
    cases h
    exact ⟨d, rfl, rfl⟩
  | d :: ds, i + 1, z, h => by
    have h : (toPs ds)[i]? = some z := h
    obtain ⟨e, h1, h2⟩ := toPs_get h
    exact ⟨e, h1, h2⟩
theorem get_toPs : ∀ {ds : List D} {i : Nat} {d : D}, ds[i]? = some d → (toPs ds)[i]? = some (toP d)
  | [], _, _, h => by simp at h
  | e :: ds, 0, d, h => by
    cases (show e = d by simpa using h)
    rfl
  | e :: ds, i + 1, d, h => get_toPs (ds := ds) (i := i) (by simpa using h)
theorem mt_idx (hu : X.A.units + 65 < cLine) : MtR X "list.index" (fun x xs H Q => rIndex X.K x xs H Q ∨ rIndexD X.K x xs H Q) := fun pins s σ H x xs v us Q I rx rxs h => h.elim (mt_index pins s σ H x xs v us Q I rx rxs) (mt_indexD hu pins s σ H x xs v us Q I rx rxs)
theorem se_index {o e : Expr} {a' e' : E} {apos cpos : Pos} (hK : X.K = C.K) (hu : X.A.units + 65 < cLine) (hs' : own a' = true ∨ quiets (.cons e' .nil) = true) (ho : PE X o (tD C W a')) (ha : PA X [e] (tA C W (.cons e' .nil)))
    (hbase : attributeBase o "index" X.env (eval o X.env) = eval o X.env)
    (hfew : ((backTo cpos (starEach [e] X.env)).all (fun x => !x.1) && (backToKw cpos (keywordEach [] X.env)).all (fun x => x.1.isSome)
      && decide (([e] : List Expr).length + ([] : List Keyword).length + (if ([] : List Keyword).isEmpty then 0 else 1) < 30)) = true)
    (hline : (apos.endLine == cpos.line) = true) (hs : starEach [e] X.env = (false, eval e X.env) :: starEach [] X.env) (hplain : (backTo cpos (starEach [] X.env)).any (·.1) = false) :
    PE X (.Call (.Attribute o "index" apos) [e] [] cpos) (tD C W (.me .index a' (.cons e' .nil))) := by
  refine pemono (pe_bm PySem.F.plainAttrs_list PySem.F.slot_list_index PySem.F.type_list_index (mt_idx hu) ho ha hbase hfew hline hs hplain) fun σ H Q ⟨ρ, SV, hv', nd, h⟩ => ?_
  have h : tK C W σ SV H (RD C.K SV H ρ true (quiet a' && quiets (.cons e' .nil))) ((ev a' ρ).bind fun x ρ => if Mth.index.recv x = true then (evs (.cons e' .nil) ρ).bind fun ds ρ => liftO (Mth.index.sem x ds) ρ else .bad) Q := h
  refine ⟨ρ, SV, hv', nd, tK_bind h fun d ρ1 v H1 SV1 e1 ⟨⟨S, r1⟩, q1⟩ h1 => ?_⟩
  by_cases hr : Mth.index.recv d = true
  case neg => rw [if_neg hr] at h1; exact h1.elim
  rw [if_pos hr] at h1
  cases d with
  | lst oo xs =>
    obtain ⟨a, vs, T, rfl, q, rs, _⟩ := lst_sq r1.rep
    refine ⟨.inl ⟨rfl, vs, .inl q⟩, ρ1, SV1, e1.vars, e1.nd, tK_bind h1 fun ds ρ2 us H2 SV2 e2 ⟨⟨T2, r2⟩, q2⟩ h2 => ?_⟩
    obtain ⟨rep1, _⟩ := r1.carry e2 e1 q2 hs'
    obtain ⟨z, hz, h3⟩ := tK_lift h2
    cases r2.rep with
    | @cons _ _ y ds u us S2 T3 rd t =>
      cases t
      change indexS (.lst oo xs) y = some z at hz
      unfold indexS at hz
      dsimp only at hz
      split at hz
      · rename_i hc
        cases hi : idxOf (toP y) (toPs xs) 0 with
        | none => rw [hi] at hz; cases hz
        | some m =>
          rw [hi] at hz
          cases hz
          obtain ⟨j, zz, rfl, i1, i2, i3⟩ := idxOf_some hi
          have et := e1.trans e2
          have fin : Q (.int (j : Nat)) H2 := by
            have en : EnvP C.K SV2 H2 σ ρ2 H2 SV2 := .refl e2.vars e2.nd
            refine h3 (.int (j : Nat)) H2 SV2 en ⟨e2.trans en, et.trans en, ⟨[], ⟨by rw [Nat.zero_add], rfl⟩, (fun _ a ha => absurd ha List.not_mem_nil), (fun _ => e2.nd)⟩, fun q => ?_⟩
            rw [Bool.and_eq_true] at q
            exact (q1 q.1).trans (q2 q.2)
          rcases hc with ⟨f1, f2⟩ | ⟨c1, c2, c3, c4⟩
          · obtain ⟨a2, vs2, T4, ea, q4, rs2, _⟩ := lst_sq rep1
            cases ea
            have fl := flat_rep rd f1
            have fA : ∀ z ∈ xs, flatD z = true := fun z hz => List.all_eq_true.mp f2 z hz
            obtain ⟨zd, hzd, rfl⟩ := toPs_get i1
            obtain ⟨zv, T5, hzv, rz, _⟩ := rs2.get hzd
            refine .inl ⟨a, vs2, u, j, zv, rfl, rfl, by rw [hK]; exact .inl q4, fl.1, ?_, hzv, ?_, fun k z' hk hz' => ?_, fin⟩
            · rw [List.all_eq_true]
              intro w hw
              obtain ⟨k, hk, e⟩ := List.mem_iff_getElem.mp hw
              obtain ⟨dd, T6, g1, g2, _⟩ := rs2.of_get (i := k) (v := w) (by rw [List.getElem?_eq_getElem hk, e])
              exact (flat_rep g2 (fA dd (List.mem_of_getElem? g1))).1
            · rw [(flat_rep rz (fA zd (List.mem_of_getElem? hzd))).2 rd f1]
              exact i2
            · obtain ⟨dd, T6, g1, g2, _⟩ := rs2.of_get hz'
              rw [(flat_rep g2 (fA dd (List.mem_of_getElem? g1))).2 rd f1]
              exact i3 k (toP dd) hk (get_toPs g1)
          · exact .inr ⟨a, u, toP y, toPs xs, j, zz, rfl, rfl, by rw [hK]; exact rep_dp (.lst oo xs) rep1 c4, by rw [hK]; exact rep_dp y rd c3, c1, c2, i1, i2, i3, fin⟩
      · cases hz
  | _ => cases hr
end
end Ly

namespace Ly
open PySem PySem.Spec L2
/-- what is known of the names of a block -/
structure Ct where
  N : List Str
  sc : Scope
  fa : Bool
  s0 : Scope
  fns : List (Str × List Bool)
  gls : List Str
  free : List Str
  kws : List (Str × List Str)
def visB (ct : Ct) (x : Str) : Bool := match ct.sc.names.lookup x with
  | some .local => true
  | some .cell => true
  | some .free => true
  | _ => false
def locB (ct : Ct) (x : Str) : Bool := match ct.sc.names.lookup x with
  | some .local => true
  | some .cell => ct.fa || (ct.s0.names.lookup x == some .cell)
  | _ => false
def lclB (ct : Ct) (x : Str) : Bool := match ct.sc.names.lookup x with
  | some .local => true
  | _ => false
def glB (ct : Ct) (x : Str) : Bool := match ct.sc.names.lookup x with
  | some .globalImplicit => true
  | _ => false
def okN (x : Str) : Bool := !(x == ("__debug__" : Str)) && !(x == ("__classdict__" : Str))
def nmB (ct : Ct) (i : Nat) (x : Str) : Bool := decide (ct.N[i]? = some x)
def vrB (ct : Ct) (i : Nat) (x : Str) : Bool := nmB ct i x && (visB ct x && okN x)
def frB (ct : Ct) (x : Str) : Bool := glB ct x && (ct.free.contains x && okN x)
def noStar : Expr → Bool
  | .Starred _ _ => false
  | _ => true
def noComp : Expr → Bool
  | .ListComp _ _ _ _ => false
  | .SetComp _ _ _ _ => false
  | .DictComp _ _ _ _ _ => false
  | _ => true
def noSet : Expr → Bool
  | .Set _ _ _ => false
  | _ => true
def noSlice : Expr → Bool
  | .Slice _ _ _ _ => false
  | _ => true
def noTup : Expr → Bool
  | .Tuple _ _ _ => false
  | _ => true
def binO : Operator → Option O2
  | .Add => some .add
  | .Sub => some .sub
  | .Mult => some .mul
  | .FloorDiv => some .fdiv
  | .Mod => some .mod
  | .Pow => some .pow
  | _ => none
def cmpO : CmpOp → Option O2
  | .Eq => some .eq
  | .NotEq => some .ne
  | .Lt => some .lt
  | .LtE => some .le
  | .Gt => some .gt
  | .GtE => some .ge
  | .Is => some .isN
  | .IsNot => some .notN
  | .In => some .isIn
  | .NotIn => some .notIn
def bt1 (o : O1) (x : Str) : Bool := match o with
  | .len => x == ("len" : Str)
  | .tuple => x == ("tuple" : Str)
  | .list => x == ("list" : Str)
  | .int => x == ("int" : Str)
  | .str => x == ("str" : Str)
  | .abs => x == ("abs" : Str)
  | .sum => x == ("sum" : Str)
  | .minL => x == ("min" : Str)
  | .maxL => x == ("max" : Str)
  | .srt => x == ("sorted" : Str)
  | _ => false
/-- a method's name -/
def mthN : Mth → Str
  | .index => "index"
def noCall : Expr → Bool
  | .Call _ _ _ _ => false
  | _ => true
def isI (o : O1) (g h : Str) : Bool := match o with
  | .isT T => g == ("isinstance" : Str) && h == Str.ofString (tyN T)
  | _ => false
def bt2 (o : O2) (x : Str) : Bool := match o with
  | .min2 => x == ("min" : Str)
  | .max2 => x == ("max" : Str)
  | _ => false
def isNeg : O1 → Bool
  | .neg => true
  | _ => false
def isNotO : O1 → Bool
  | .notO => true
  | _ => false
def cstB (d : D) (c : Const) : Bool := match d, c with
  | .int i, .int j => decide (i = j)
  | .str x, .str y => decide (x = y)
  | .bl a, .bool b => a == b
  | .non, .none => true
  | _, _ => false
def ownN (ct : Ct) (own : List Nat) : List (Str × Nat) := own.map fun i => (ct.N.getD i "", i)
def Ct.blk (ct : Ct) (scope : Scope) : Ct := { ct with sc := relS scope ct.sc, fa := false, s0 := scope }
mutual
def chkTg : Tg → Ct → Expr → Bool
  | .nm i, ct, e => (match e with
    | .Name x _ => nmB ct i x && locB ct x
    | _ => false)
  | .tp ts, ct, e => (match e with
    | .Tuple es _ _ => chkTgs ts ct es
    | _ => false)
def chkTgs : Tgs → Ct → List Expr → Bool
  | .nil, _, es => (match es with
    | [] => true
    | _ => false)
  | .cons t ts, ct, es => (match es with
    | e :: r => noStar e && (chkTg t ct e && chkTgs ts ct r)
    | [] => false)
end
mutual
/-- t: as a test -/
def chkE : E → Bool → Ct → Expr → Bool
  | .var i, _, ct, e => (match e with
    | .Name x _ => vrB ct i x
    | _ => false)
  | .mv i, t, ct, e => (match e with
    | .Name x _ => !t && vrB ct i x
    | _ => false)
  | .mvo i, t, ct, e => (match e with
    | .Name x _ => !t && vrB ct i x
    | _ => false)
  | .cst d, t, ct, e => (match e with
    | .Constant c _ _ => !t && cstB d c
    | _ => false)
  | .glo k, t, ct, e => (match e with
    | .Name x _ => !t && (decide (ct.gls[k]? = some x) && (glB ct x && okN x))
    | _ => false)
  | .ck a, t, ct, e => !t && chkE a false ct e
  | .fz a, t, ct, e => !t && (own a && chkE a false ct e)
  | .o2 op a b, t, ct, e => (own a || quiet b) && (match e with
    | .BinOp l o r _ => !t && (decide (binO o = some op) && (chkE a false ct l && chkE b false ct r))
    | .Compare l os rs _ => (match os, rs with
      | [o], [r] => decide (cmpO o = some op) && (!(behindInMarks o r) && (chkE a false ct l && chkE b false ct r))
      | _, _ => false)
    | .Subscript l r _ => decide (op = .idx) && (noSlice r && (chkE a false ct l && chkE b false ct r))
    | .Call f as ks _ => (match f, as, ks with
      | .Name x _, [l, r], [] => bt2 op x && (frB ct x && (noStar l && (noStar r && (!t && (chkE a false ct l && chkE b false ct r)))))
      | _, _, _ => false)
    | _ => false)
  | .o1 op a, t, ct, e => (match e with
    | .UnaryOp u x _ => (match u with
      | .USub => !t && (isNeg op && chkE a false ct x)
      | .Not => isNotO op && chkE a t ct x
      | _ => false)
    | .Call f as ks _ => (match f, as, ks with
      | .Name g _, [x], [] => bt1 op g && (frB ct g && (noStar x && chkE a false ct x))
      | .Name g _, [x, y], [] => (match y with
        | .Name h _ => isI op g h && (frB ct g && (frB ct h && (noStar x && chkE a false ct x)))
        | _ => false)
      | _, _, _ => false)
    | _ => false)
  | .and a b, t, ct, e => (match e with
    | .BoolOp o vs p => (match o, vs with
      | .And, x :: y :: rest => chkE a t ct x && (match rest with
        | [] => chkE b t ct y
        | _ => chkE b t ct (.BoolOp .And (y :: rest) p))
      | _, _ => false)
    | _ => false)
  | .or a b, t, ct, e => (match e with
    | .BoolOp o vs p => (match o, vs with
      | .Or, x :: y :: rest => chkE a t ct x && (match rest with
        | [] => chkE b t ct y
        | _ => chkE b t ct (.BoolOp .Or (y :: rest) p))
      | _, _ => false)
    | _ => false)
  | .ite c a b, t, ct, e => (match e with
    | .IfExp x y z _ => !t && (chkE c true ct x && (chkE a false ct y && chkE b false ct z))
    | _ => false)
  | .tup es, t, ct, e => (match e with
    | .Tuple xs _ _ => !t && (plainEs es && chkEs es ct xs)
    | _ => false)
  | .lst es, t, ct, e => (match e with
    | .List xs _ => !t && (plainEs es && chkEs es ct xs)
    | _ => false)
  | .slc a lo hi, t, ct, e => (own a || (quiets lo && quiets hi)) && (match e with
    | .Subscript x sl _ => (match sl with
      | .Slice l h st _ => (match st with
        | none => chkE a false ct x && (chkO lo ct l && chkO hi ct h)
        | some _ => false)
      | _ => false)
    | _ => false)
  | .call slots k es, t, ct, e => (match e with
    | .Call f as ks _ => (match f, as, ks with
      | .Name x _, y :: ys, [] => decide (ct.fns[k]? = some (x, slots.map (·.isSome))) && (align slots es && (decide ((ios slots).Nodup) && (glB ct x && (okN x && chkEs es ct (y :: ys)))))
      | .Name x _, [], kw :: kws => decide (ct.fns[k]? = some (x, slots.map (·.isSome))) && (align slots es && (decide ((ios slots).Nodup) && (glB ct x && (okN x && (match ct.kws.lookup x with
        | some ps => chkKs es ct ps (kw :: kws)
        | none => false)))))
      | _, _, _ => false)
    | _ => false)
  | .pop i, t, ct, e => (match e with
    | .Call f as ks cpos => (match f, as, ks with
      | .Attribute (.Name x _) m apos, [], [] => !t && (m == ("pop" : Str) && (apos.endLine == cpos.line && vrB ct i x))
      | _, _, _ => false)
    | _ => false)
  | .popAt i a, t, ct, e => (match e with
    | .Call f as ks cpos => (match f, as, ks with
      | .Attribute (.Name x _) m apos, [y], [] => !t && (m == ("pop" : Str) && (apos.endLine == cpos.line && (vrB ct i x && (noStar y && (own a && chkE a false ct y)))))
      | _, _, _ => false)
    | _ => false)
  | .lrg (.cons a' .nil), t, ct, e => (match e with
    | .Call f as ks _ => (match f, as, ks with
      | .Name z _, [.Call g bs ks2 _], [] => (match g, bs, ks2 with
        | .Name x _, [a], [] => !t && (z == ("list" : Str) && (frB ct z && (x == ("range" : Str) && (frB ct x && (noStar a && chkE a' false ct a)))))
        | _, _, _ => false)
      | _, _, _ => false)
    | _ => false)
  | .lrg (.cons a' (.cons b' .nil)), t, ct, e => (match e with
    | .Call f as ks _ => (match f, as, ks with
      | .Name z _, [.Call g bs ks2 _], [] => (match g, bs, ks2 with
        | .Name x _, [a, b], [] => !t && (z == ("list" : Str) && (frB ct z && (x == ("range" : Str) && (frB ct x && (noStar a && (noStar b && ((own a' || quiet b') && (chkE a' false ct a && chkE b' false ct b))))))))
        | _, _, _ => false)
      | _, _, _ => false)
    | _ => false)
  | .lrg _, _, _, _ => false
  | .me m a (.cons b .nil), t, ct, e => (own a || quiet b) && (match e with
    | .Call f as ks cpos => (match f, as, ks with
      | .Attribute o nm apos, [y], [] => !t && (decide (m = .index) && (nm == mthN m && (apos.endLine == cpos.line && (noCall o && (noStar y && (own b && (chkE a false ct o && chkE b false ct y)))))))
      | _, _, _ => false)
    | _ => false)
  | .me _ _ _, _, _, _ => false
  | .lc ow tg it c elt, t, ct, e => (match e with
    | .ListComp x gs scope _ => (match gs with
      | [⟨tg', iter, ifs, 0⟩] => !t && (own elt && ((tns tg).all (ow.contains ·) && (chkIt it ct tg' iter && (blkC ct.N ct.sc scope (ownN ct ow) && (chkTg tg (ct.blk scope) tg' && (chkC c (ct.blk scope) ifs && chkE elt false (ct.blk scope) x))))))
      | _ => false)
    | _ => false)
  | .dnil, t, _, e => (match e with
    | .Dict ks vs _ => (match ks, vs with
      | [], [] => !t
      | _, _ => false)
    | _ => false)
  | .dc ow tg it c k v, t, ct, e => (match e with
    | .DictComp kx x gs scope _ => (match gs with
      | [⟨tg', iter, ifs, 0⟩] => !t && (own v && ((tns tg).all (ow.contains ·) && (chkIt it ct tg' iter && (blkC ct.N ct.sc scope (ownN ct ow) && (chkTg tg (ct.blk scope) tg' && (chkC c (ct.blk scope) ifs && (chkE k false (ct.blk scope) kx && chkE v false (ct.blk scope) x)))))))
      | _ => false)
    | _ => false)
def chkEs : Es → Ct → List Expr → Bool
  | .nil, _, es => (match es with
    | [] => true
    | _ => false)
  | .cons e' es', ct, es => (match es with
    | e :: r => noStar e && (own e' && (chkE e' false ct e && chkEs es' ct r))
    | [] => false)
  | .io i es', ct, es => (match es with
    | e :: r => (match e with
      | .Name x _ => vrB ct i x && chkEs es' ct r
      | _ => false)
    | [] => false)
/-- keywords in the parameters' order -/
def chkKs : Es → Ct → List Str → List Keyword → Bool
  | .nil, _, ps, ks => (match ps, ks with
    | [], [] => true
    | _, _ => false)
  | .cons a r, ct, ps, ks => (match ps, ks with
    | n :: ps, kw :: ks => kw.arg == some n && (own a && (chkE a false ct kw.value && chkKs r ct ps ks))
    | _, _ => false)
  | .io _ _, _, _, _ => false
/-- a part of a slice -/
def chkO : Es → Ct → Option Expr → Bool
  | .nil, _, o => (match o with
    | none => true
    | some _ => false)
  | .cons a .nil, ct, o => (match o with
    | some e => chkE a false ct e
    | none => false)
  | .cons _ (.cons _ _), _, _ => false
  | .cons _ (.io _ _), _, _ => false
  | .io _ _, _, _ => false
def chkC : Es → Ct → List Expr → Bool
  | .nil, _, es => (match es with
    | [] => true
    | _ => false)
  | .cons e' es', ct, es => (match es, es' with
    | [e], .nil => chkE e' true ct e
    | _, _ => false)
  | .io _ _, _, _ => false
def chkIt : It → Ct → Expr → Expr → Bool
  | .seq e', ct, _, it => noSet it && chkE e' false ct it
  | .rng (.cons a' .nil), ct, _, it => (match it with
    | .Call f as ks _ => (match f, as, ks with
      | .Name x _, [a], [] => x == ("range" : Str) && (frB ct x && (noStar a && (own a' && chkE a' false ct a)))
      | _, _, _ => false)
    | _ => false)
  | .rng (.cons a' (.cons b' .nil)), ct, _, it => (match it with
    | .Call f as ks _ => (match f, as, ks with
      | .Name x _, [a, b], [] => x == ("range" : Str) && (frB ct x && (noStar a && (noStar b && (own a' && (own b' && (chkE a' false ct a && chkE b' false ct b))))))
      | _, _, _ => false)
    | _ => false)
  | .rng _, _, _, _ => false
  | .enum e', ct, tg, it => (match tg with
    | .Tuple _ _ _ => (match it with
      | .Call f as ks _ => (match f, as, ks with
        | .Name x _, [a], [] => x == ("enumerate" : Str) && (frB ct x && (noStar a && (own e' && chkE e' false ct a)))
        | _, _, _ => false)
      | _ => false)
    | _ => false)
  | .zip a' b', ct, tg, it => (match tg with
    | .Tuple _ _ _ => (match it with
      | .Call f as ks _ => (match f, as, ks with
        | .Name x _, [a, b], [] => x == ("zip" : Str) && (frB ct x && (noStar a && (noStar b && (own a' && (own b' && (chkE a' false ct a && chkE b' false ct b))))))
        | _, _, _ => false)
      | _ => false)
    | _ => false)
end
end Ly

namespace Ly
open PySem PySem.Spec L2
variable [Fns]
structure Good (X : Cx) (C : Cfg) (W : WX) (ct : Ct) : Prop where
  N : X.N = ct.N
  nd : ct.N.Nodup
  sc : X.env.scope = ct.sc
  kind : ct.sc.kind = .function
  fn : ∀ x, (ct.fa || (ct.s0.names.lookup x == some .cell)) = true → X.fn x = true
  K : X.K = C.K
  calm : X.calm = true
  un : X.A.units + 70 < cLine
  tk : Takes X W
  fns : ∀ k x io, ct.fns[k]? = some (x, io) → ∃ r, FnG C X r x io (Fns.F k) ∧ Room r X.A
  gls : ∀ (k : Nat) x, ct.gls[k]? = some x → ∃ v u, X.mg x = some u ∧ RelV v u ∧ ∀ H, Rep C.K H (Fns.G k) v []
  free : ∀ x, ct.free.contains x = true → X.mg x = none
  kw : ∀ k x io ps, ct.fns[k]? = some (x, io) → ct.kws.lookup x = some ps → ∃ r, FnGK C X r x io ps (Fns.F k) ∧ Room r X.A
section
variable {X : Cx} {C : Cfg} {W : WX} {ct : Ct} {pos : Pos}
theorem and2 {a b : Bool} (h : (a && b) = true) : a = true ∧ b = true := Bool.and_eq_true_iff.mp h
theorem Good.vis (G : Good X C W ct) {x : Str} (h : visB ct x = true) : Vis X.env.scope x := by
  rw [G.sc]
  unfold visB at h
  unfold Vis
  split at h
  · exact .inl ‹_›
  · exact .inr (.inl ‹_›)
  · exact .inr (.inr ‹_›)
  · cases h
theorem Good.loc (G : Good X C W ct) {x : Str} (h : locB ct x = true) : L2.Loc X.env.scope x ∧ (X.fn x = true ∨ X.env.scope.names.lookup x = some .local) := by
  rw [G.sc]
  unfold locB at h
  unfold L2.Loc
  split at h
  · exact ⟨.inl ‹_›, .inr ‹_›⟩
  · exact ⟨.inr ‹_›, .inl (G.fn x h)⟩
  · cases h
theorem Good.gl (G : Good X C W ct) {x : Str} (h : glB ct x = true) : Gl X x := by
  unfold Gl
  show X.env.scope.names.lookup x = _
  rw [G.sc]
  unfold glB at h
  split at h
  · assumption
  · cases h
theorem okN_d {x : Str} (h : okN x = true) : (x == ("__debug__" : Str)) = false := by
  have := (and2 h).1
  simpa using this
theorem okN_c {x : Str} (h : okN x = true) : (x == ("__classdict__" : Str)) = false := by
  have := (and2 h).2
  simpa using this
theorem Good.nm (G : Good X C W ct) {i : Nat} {x : Str} (h : nmB ct i x = true) : X.N[i]? = some x := by
  rw [G.N]
  exact of_decide_eq_true h
theorem Good.vr (G : Good X C W ct) {i : Nat} {x : Str} (h : vrB ct i x = true) : X.N[i]? = some x ∧ Vis X.env.scope x ∧ (x == ("__debug__" : Str)) = false ∧ (x == ("__classdict__" : Str)) = false := by
  obtain ⟨h1, h⟩ := and2 h
  obtain ⟨h2, h3⟩ := and2 h
  exact ⟨G.nm h1, G.vis h2, okN_d h3, okN_c h3⟩
theorem Good.fr (G : Good X C W ct) {x : Str} (h : frB ct x = true) : Gl X x ∧ X.mg x = none ∧ (x == ("__debug__" : Str)) = false := by
  obtain ⟨h1, h⟩ := and2 h
  obtain ⟨h2, h3⟩ := and2 h
  exact ⟨G.gl h1, G.free x h2, okN_d h3⟩
theorem star_cons {e : Expr} {es : List Expr} {env : Env} (h : noStar e = true) : starEach (e :: es) env = (false, eval e env) :: starEach es env := by
  cases e <;> first | rfl | cases h
theorem star_one {e : Expr} {env : Env} (h : noStar e = true) : starEach [e] env = [(false, eval e env)] := star_cons h
def noStars (es : List Expr) : Bool := es.all noStar
theorem star_any {es : List Expr} {env : Env} (h : noStars es = true) : (backTo pos (starEach es env)).any (·.1) = false := by
  induction es with
  | nil => rfl
  | cons e es ih =>
    have h : (noStar e && es.all noStar) = true := h
    obtain ⟨h1, h2⟩ := and2 h
    rw [star_cons h1]
    show (false || (backTo pos (starEach es env)).any (·.1)) = false
    rw [Bool.false_or]
    exact ih h2
theorem star_all {es : List Expr} {env : Env} (h : noStars es = true) : (backTo pos (starEach es env)).all (fun x => !x.1) = true := by
  induction es with
  | nil => rfl
  | cons e es ih =>
    have h : (noStar e && es.all noStar) = true := h
    obtain ⟨h1, h2⟩ := and2 h
    rw [star_cons h1]
    show (true && (backTo pos (starEach es env)).all (fun x => !x.1)) = true
    rw [Bool.true_and]
    exact ih h2
theorem asg_cons {e : Expr} {es : List Expr} {env : Env} (h : noStar e = true) : assignEach (e :: es) env = (false, assign e env) :: assignEach es env := by
  cases e <;> first | rfl | cases h
theorem folded_no {e : Expr} {env : Env} (h : noSet e = true) : ∀ x, foldedSetIterable e env x = pure x := by
  intro x
  cases e <;> first | rfl | cases h
theorem Good.op2 (G : Good X C W ct) {o : Operator} {op : O2} (h : binO o = some op) : OpR X (binaryOp o) (rD X.K op.sem) := by
  cases o <;> first
    | cases h; exact od_add
    | cases h; exact od_sub
    | cases h; exact od_mul
    | cases h; exact od_fdiv
    | cases h; exact od_mod
    | cases h; exact od_pow
    | cases h
theorem Good.cmp (G : Good X C W ct) {o : CmpOp} {op : O2} (h : cmpO o = some op) : OpR X (compareOp o) (rD X.K op.sem) := by
  have := G.un
  cases o <;> first
    | cases h; exact od_lt
    | cases h; exact od_le
    | cases h; exact od_gt
    | cases h; exact od_ge
    | cases h; exact od_isN
    | cases h; exact od_notN
    | cases h; exact od_eq (by omega)
    | cases h; exact od_ne (by omega)
    | cases h; exact od_in (by omega)
    | cases h; exact od_notIn (by omega)
theorem cmp_own {o : CmpOp} {op : O2} {a b : E} (h : cmpO o = some op) : own (.o2 op a b) = true ∧ isCmp op = true := by
  cases o <;> cases h <;> exact ⟨rfl, rfl⟩
theorem bin_own {o : Operator} {op : O2} {a b : E} (h : binO o = some op) : own (.o2 op a b) = true := by
  cases o <;> cases h <;> rfl
theorem plain_ix {b : Expr} (h : noSlice b = true) : PlainIx b := by
  intro o i
  cases b <;> first | rfl | cases h
theorem bt1_cases {o : O1} {g : Str} (h : bt1 o g = true) : (o = .len ∧ g = "len") ∨ (o = .tuple ∧ g = "tuple") ∨ (o = .list ∧ g = "list") ∨ (o = .int ∧ g = "int") ∨ (o = .str ∧ g = "str") ∨ (o = .abs ∧ g = "abs") ∨ (o = .sum ∧ g = "sum") ∨ (o = .minL ∧ g = "min") ∨ (o = .maxL ∧ g = "max") ∨ (o = .srt ∧ g = "sorted") := by
  cases o <;> first
    | (cases h)
    | (have h := eq_of_beq h; subst h; simp)
theorem boot_len : bootBuiltins "len" = some (.builtin "len") := by decide +kernel
theorem boot_tuple : bootBuiltins "tuple" = some (.type "tuple") := by decide +kernel
theorem boot_list : bootBuiltins "list" = some (.type "list") := by decide +kernel
theorem boot_int : bootBuiltins "int" = some (.type "int") := by decide +kernel
theorem boot_str : bootBuiltins "str" = some (.type "str") := by decide +kernel
theorem boot_abs : bootBuiltins "abs" = some (.builtin "abs") := by decide +kernel
theorem boot_sum : bootBuiltins "sum" = some (.builtin "sum") := by decide +kernel
theorem boot_min : bootBuiltins "min" = some (.builtin "min") := by decide +kernel
theorem boot_max : bootBuiltins "max" = some (.builtin "max") := by decide +kernel
theorem boot_sorted : bootBuiltins "sorted" = some (.builtin "sorted") := by decide +kernel
theorem boot_range0 : bootBuiltins "range" = some (.type "range") := by decide +kernel
theorem se_bt1 (G : Good X C W ct) {o : O1} {g : Str} {p : Pos} {a : Expr} {a' : E} (h : bt1 o g = true) (hf : frB ct g = true) (hs : noStar a = true) (ha : PE X a (tD C W a')) : PE X (.Call (.Name g p) [a] [] pos) (tD C W (.o1 o a')) := by
  obtain ⟨f1, f2, f3⟩ := G.fr hf
  rcases bt1_cases h with ⟨rfl, rfl⟩ | ⟨rfl, rfl⟩ | ⟨rfl, rfl⟩ | ⟨rfl, rfl⟩ | ⟨rfl, rfl⟩ | ⟨rfl, rfl⟩ | ⟨rfl, rfl⟩ | ⟨rfl, rfl⟩ | ⟨rfl, rfl⟩ | ⟨rfl, rfl⟩
  · exact se_cb G.K cd_len f1 f2 boot_len ha (by decide +kernel) f3 (star_cons hs)
  · exact se_ct G.K cd_tuple f1 f2 boot_tuple ha (by decide +kernel) f3 (star_cons hs)
  · exact se_ct G.K cd_list f1 f2 boot_list ha (by decide +kernel) f3 (star_cons hs)
  · exact se_ct G.K cd_int f1 f2 boot_int ha (by decide +kernel) f3 (star_cons hs)
  · exact se_ct G.K cd_str f1 f2 boot_str ha (by decide +kernel) f3 (star_cons hs)
  · exact se_cb G.K cd_abs f1 f2 boot_abs ha (by decide +kernel) f3 (star_cons hs)
  · exact se_cb G.K (cd_sum G.calm) f1 f2 boot_sum ha (by decide +kernel) f3 (star_cons hs)
  · exact se_cb G.K (cd_min G.calm) f1 f2 boot_min ha (by decide +kernel) f3 (star_cons hs)
  · exact se_cb G.K (cd_max G.calm) f1 f2 boot_max ha (by decide +kernel) f3 (star_cons hs)
  · exact se_cb G.K (cd_sorted (by have := G.un; omega)) f1 f2 boot_sorted ha (by decide +kernel) f3 (star_cons hs)
theorem base_any {o : Expr} {nm : Str} {env : Env} {w : Sem Value} (h : noCall o = true) : attributeBase o nm env w = w := by
  cases o <;> first | rfl | cases h
theorem se_bt2 (G : Good X C W ct) {o : O2} {g : Str} {p : Pos} {a b : Expr} {a' b' : E} (h : bt2 o g = true) (hf : frB ct g = true) (hs : noStar a = true) (hs2 : noStar b = true) (hq : (own a' || quiet b') = true) (ha : PE X a (tD C W a')) (hb : PE X b (tD C W b')) : PE X (.Call (.Name g p) [a, b] [] pos) (tD C W (.o2 o a' b')) := by
  obtain ⟨f1, f2, f3⟩ := G.fr hf
  have hb2 : noStars [b] = true := by
    show (noStar b && true) = true
    rw [hs2]
    rfl
  have hc : (o = .min2 ∧ g = "min") ∨ (o = .max2 ∧ g = "max") := by
    cases o <;> first
      | (cases h)
      | (have h := eq_of_beq h; subst h; simp)
  rcases hc with ⟨rfl, rfl⟩ | ⟨rfl, rfl⟩
  · exact se_cb2 G.K (cd_min2 G.calm) f1 f2 boot_min ha hb rfl hq (by decide +kernel) f3 (star_cons hs) (star_cons hs2) (star_any hb2)
  · exact se_cb2 G.K (cd_max2 G.calm) f1 f2 boot_max ha hb rfl hq (by decide +kernel) f3 (star_cons hs) (star_cons hs2) (star_any hb2)
theorem boot_isi : bootBuiltins "isinstance" = some (.builtin "isinstance") := by decide +kernel
theorem boot_ty (T : Ty) : bootBuiltins (Str.ofString (tyN T)) = some (.type (tyN T)) ∧ Str.ofString (tyN T) ≠ "__name__" := by
  cases T <;> exact ⟨by decide +kernel, by decide +kernel⟩
theorem se_isI (G : Good X C W ct) {o : O1} {g h : Str} {p q : Pos} {a : Expr} {a' : E} (hi : isI o g h = true) (hf : frB ct g = true) (hf2 : frB ct h = true) (hs : noStar a = true) (ha : PE X a (tD C W a')) : PE X (.Call (.Name g p) [a, .Name h q] [] pos) (tD C W (.o1 o a')) := by
  obtain ⟨f1, f2, f3⟩ := G.fr hf
  obtain ⟨g1, g2, g3⟩ := G.fr hf2
  cases o with
  | isT T =>
    obtain ⟨h1, h2⟩ := and2 hi
    have h1 := eq_of_beq h1
    have h2 := eq_of_beq h2
    subst h1
    subst h2
    exact se_isT G.K boot_isi (boot_ty T).1 f1 f2 (by decide +kernel) f3 g1 g2 (boot_ty T).2 g3 ha (star_cons hs)
  | _ => cases hi
/-- a block within -/
theorem Good.blk (G : Good X C W ct) (s : Shared) (H : Hp) (scope : Scope) (hk : scope.kind = .function) (Cc : Addr) (cl : List (Str × Addr)) (fp : List Addr) : Good (X.blk s H scope (compEnvC scope cl Cc X.env) fp) C WF (ct.blk scope) where
  N := G.N
  nd := G.nd
  sc := by
    show relS scope X.env.scope = relS scope ct.sc
    rw [G.sc]
  kind := hk
  fn := fun x h => by
    have h : (false || (scope.names.lookup x == some .cell)) = true := h
    rw [Bool.false_or] at h
    exact h
  K := G.K
  calm := G.calm
  un := G.un
  tk := takes0
  fns := G.fns
  gls := G.gls
  free := G.free
  kw := G.kw
theorem own_map {ow : List Nat} : (ownN ct ow).map (·.2) = ow := by
  unfold ownN
  rw [List.map_map]
  exact List.map_id ow
theorem blk_kind {N : List Str} {sc scope : Scope} {ow : List (Str × Nat)} (h : blkC N sc scope ow = true) : scope.kind = .function := (blkOk_by h).kind
end
mutual
theorem snd_tg : ∀ (t : Tg) {X : Cx} {C : Cfg} {W : WX} {ct : Ct} {e : Expr}, Good X C W ct → chkTg t ct e = true → PG X e (tG C.K t)
  | .nm i, X, C, W, ct, e, G, h => by
    unfold chkTg at h
    cases e <;> first
      | (cases h; done)
      | skip
    obtain ⟨h1, h2⟩ := and2 h
    exact sg_name (by rw [G.N]; exact G.nd) (G.nm h1) (G.loc h2).1 (G.loc h2).2
  | .tp ts, X, C, W, ct, e, G, h => by
    unfold chkTg at h
    cases e <;> first
      | (cases h; done)
      | skip
    obtain ⟨h1, h2, h3⟩ := snd_tgs ts G h
    exact sg_tup G.K G.calm h1 h2 h3
theorem snd_tgs : ∀ (ts : Tgs) {X : Cx} {C : Cfg} {W : WX} {ct : Ct} {es : List Expr}, Good X C W ct → chkTgs ts ct es = true → PGs X es (tGs C.K ts) ∧ (assignEach es X.env).length = tlen ts ∧ (assignEach es X.env).findIdx? (·.1) = none
  | .nil, X, C, W, ct, es, G, h => by
    unfold chkTgs at h
    cases es with
    | nil => exact ⟨sgs_nil, rfl, rfl⟩
    | cons _ _ => cases h
  | .cons t ts, X, C, W, ct, es, G, h => by
    unfold chkTgs at h
    cases es with
    | nil => cases h
    | cons e r =>
      obtain ⟨h1, h⟩ := and2 h
      obtain ⟨h2, h3⟩ := and2 h
      obtain ⟨g1, g2, g3⟩ := snd_tgs ts G h3
      have e0 := asg_cons (es := r) (env := X.env) h1
      refine ⟨sgs_cons (snd_tg t G h2) g1 (by rw [e0]; rfl), by rw [e0, List.length_cons, g2]; rfl, ?_⟩
      rw [e0, List.findIdx?_cons]
      simp [g3]
end
end Ly

namespace Ly
open PySem PySem.Spec L2
variable [Fns]
section
variable {X : Cx} {C : Cfg} {W : WX} {ct : Ct} {e : Expr} {e' : E} {t : Bool}
def Both (X : Cx) (C : Cfg) (W : WX) (e : Expr) (e' : E) (t : Bool) : Prop := (t = false → PE X e (tD C W e')) ∧ (t = true → PT X e (tT C W e'))
theorem leaf (G : Good X C W ct) (h : PE X e (tD C W e')) (he : ∀ whole, isTrue e X.env whole = (do let v ← whole; standAt e.pos; holding [v] (truthy v))) : Both X C W e e' t := ⟨fun _ => h, fun _ => st_truth G.K h he⟩
theorem valu (ht : (!t) = true) (h : PE X e (tD C W e')) : Both X C W e e' t := ⟨fun _ => h, fun z => by rw [z] at ht; cases ht⟩
end
mutual
theorem snd_e : ∀ (e' : E) {t : Bool} {X : Cx} {C : Cfg} {W : WX} {ct : Ct} {e : Expr}, Good X C W ct → chkE e' t ct e = true → Both X C W e e' t
  | .var i, t, X, C, W, ct, e, G, h => by
    unfold chkE at h
    cases e <;> first
      | (cases h; done)
      | skip
    obtain ⟨h1, h2, h3, h4⟩ := G.vr h
    exact leaf G (se_var h1 h2 h3 h4) (fun _ => rfl)
  | .mv i, t, X, C, W, ct, e, G, h => by
    unfold chkE at h
    cases e <;> first
      | (cases h; done)
      | skip
    obtain ⟨h0, h⟩ := and2 h
    obtain ⟨h1, h2, h3, h4⟩ := G.vr h
    exact valu h0 (se_mv G.K h1 h2 h3 h4)
  | .mvo i, t, X, C, W, ct, e, G, h => by
    unfold chkE at h
    cases e <;> first
      | (cases h; done)
      | skip
    obtain ⟨h0, h⟩ := and2 h
    obtain ⟨h1, h2, h3, h4⟩ := G.vr h
    exact valu h0 (se_mvo h1 h2 h3 h4)
  | .cst d, t, X, C, W, ct, e, G, h => by
    unfold chkE at h
    cases e with
    | Constant c k pos =>
      obtain ⟨h0, h⟩ := and2 h
      refine valu h0 ?_
      unfold cstB at h
      split at h
      · have h := of_decide_eq_true h; subst h; exact se_int
      · have h := of_decide_eq_true h; subst h; exact se_str
      · have h := eq_of_beq h; subst h; exact se_bl
      · exact se_non
      · cases h
    | _ => cases h
  | .glo k, t, X, C, W, ct, e, G, h => by
    unfold chkE at h
    cases e <;> first
      | (cases h; done)
      | skip
    obtain ⟨h0, h⟩ := and2 h
    obtain ⟨h1, h⟩ := and2 h
    obtain ⟨h2, h3⟩ := and2 h
    obtain ⟨v, u, e1, e2, e3⟩ := G.gls k _ (of_decide_eq_true h1)
    exact valu h0 (se_glo (G.gl h2) e1 e2 e3 (okN_d h3))
  | .ck a, t, X, C, W, ct, e, G, h => by
    unfold chkE at h
    obtain ⟨h0, h⟩ := and2 h
    exact valu h0 (se_ck ((snd_e a G h).1 rfl))
  | .fz a, t, X, C, W, ct, e, G, h => by
    unfold chkE at h
    obtain ⟨h0, h⟩ := and2 h
    obtain ⟨h1, h⟩ := and2 h
    exact valu h0 (se_fz G.K h1 ((snd_e a G h).1 rfl))
  | .o2 op a b, t, X, C, W, ct, e, G, h => by
    unfold chkE at h
    obtain ⟨hq, h⟩ := and2 h
    cases e with
    | BinOp l o r pos =>
      obtain ⟨h0, h⟩ := and2 h
      obtain ⟨h1, h⟩ := and2 h
      obtain ⟨h2, h3⟩ := and2 h
      have h1 := of_decide_eq_true h1
      exact valu h0 (se_bin' G.K (G.op2 h1) ((snd_e a G h2).1 rfl) ((snd_e b G h3).1 rfl) (bin_own h1) hq)
    | Compare l os rs pos =>
      match os, rs, h with
      | [o], [r], h =>
        obtain ⟨h1, h⟩ := and2 h
        obtain ⟨h0, h⟩ := and2 h
        obtain ⟨h2, h3⟩ := and2 h
        have h1 := of_decide_eq_true h1
        have hb : behindInMarks o r = false := by simpa using h0
        exact ⟨fun _ => se_cmp G.K (G.cmp h1) ((snd_e a G h2).1 rfl) ((snd_e b G h3).1 rfl) (cmp_own h1).1 hq hb, fun _ => st_cmp G.K (cmp_own (a := a) (b := b) h1).2 (G.cmp h1) ((snd_e a G h2).1 rfl) ((snd_e b G h3).1 rfl) hq hb⟩
    | Subscript l r pos =>
      obtain ⟨h1, h⟩ := and2 h
      obtain ⟨h0, h⟩ := and2 h
      obtain ⟨h2, h3⟩ := and2 h
      have h1 := of_decide_eq_true h1
      subst h1
      exact leaf G (se_idx G.K (by have := G.un; omega) ((snd_e a G h2).1 rfl) ((snd_e b G h3).1 rfl) hq (plain_ix h0)) (fun _ => rfl)
    | Call f as ks pos =>
      match f, as, ks, h with
      | .Name x p, [l, r], [], h =>
        obtain ⟨h1, h⟩ := and2 h
        obtain ⟨h2, h⟩ := and2 h
        obtain ⟨h3, h⟩ := and2 h
        obtain ⟨h4, h⟩ := and2 h
        obtain ⟨h0, h⟩ := and2 h
        obtain ⟨h5, h6⟩ := and2 h
        exact valu h0 (se_bt2 G h1 h2 h3 h4 hq ((snd_e a G h5).1 rfl) ((snd_e b G h6).1 rfl))
    | _ => cases h
  | .o1 op a, t, X, C, W, ct, e, G, h => by
    unfold chkE at h
    cases e with
    | UnaryOp u x pos =>
      cases u with
      | USub =>
        obtain ⟨h0, h⟩ := and2 h
        obtain ⟨h1, h⟩ := and2 h
        have e1 : op = .neg := by cases op <;> first | rfl | cases h1
        subst e1
        exact valu h0 (se_neg G.K ((snd_e a G h).1 rfl))
      | Not =>
        obtain ⟨h1, h⟩ := and2 h
        have e1 : op = .notO := by cases op <;> first | rfl | cases h1
        subst e1
        exact ⟨fun z => se_not G.K ((snd_e a G h).1 z), fun z => st_not ((snd_e a G h).2 z)⟩
      | _ => cases h
    | Call f as ks pos =>
      match f, as, ks, h with
      | .Name g p, [x], [], h =>
        obtain ⟨h1, h⟩ := and2 h
        obtain ⟨h2, h⟩ := and2 h
        obtain ⟨h3, h⟩ := and2 h
        exact leaf G (se_bt1 G h1 h2 h3 ((snd_e a G h).1 rfl)) (fun _ => rfl)
      | .Name g p, [x, y], [], h =>
        cases y with
        | Name hh q =>
          obtain ⟨h1, h⟩ := and2 h
          obtain ⟨h2, h⟩ := and2 h
          obtain ⟨h3, h⟩ := and2 h
          obtain ⟨h4, h⟩ := and2 h
          exact leaf G (se_isI G h1 h2 h3 h4 ((snd_e a G h).1 rfl)) (fun _ => rfl)
        | _ => cases h
    | _ => cases h
  | .and a b, t, X, C, W, ct, e, G, h => by
    unfold chkE at h
    cases e with
    | BoolOp o vs p =>
      match o, vs, h with
      | .And, x :: y :: rest, h =>
        obtain ⟨h1, h⟩ := and2 h
        cases rest with
        | nil => exact ⟨fun z => se_and G.K ((snd_e a G h1).1 z) (pe_one ((snd_e b G h).1 z)), fun z => (sw_and ((snd_e a G h1).2 z) (sw_and1 ((snd_e b G h).2 z))).pt⟩
        | cons w rest =>
          refine ⟨fun z => se_and G.K ((snd_e a G h1).1 z) ((snd_e b G h).1 z), fun z => (sw_and ((snd_e a G h1).2 z) ⟨fun wh pins s σ H Q I q => ?_⟩).pt⟩
          exact ((snd_e b G h).2 z).run pins s σ H Q I q
    | _ => cases h
  | .or a b, t, X, C, W, ct, e, G, h => by
    unfold chkE at h
    cases e with
    | BoolOp o vs p =>
      match o, vs, h with
      | .Or, x :: y :: rest, h =>
        obtain ⟨h1, h⟩ := and2 h
        cases rest with
        | nil => exact ⟨fun z => se_or G.K ((snd_e a G h1).1 z) (pe_one ((snd_e b G h).1 z)), fun z => (sw_or ((snd_e a G h1).2 z) (sw_or1 ((snd_e b G h).2 z))).pt⟩
        | cons w rest =>
          refine ⟨fun z => se_or G.K ((snd_e a G h1).1 z) ((snd_e b G h).1 z), fun z => (sw_or ((snd_e a G h1).2 z) ⟨fun wh pins s σ H Q I q => ?_⟩).pt⟩
          exact ((snd_e b G h).2 z).run pins s σ H Q I q
    | _ => cases h
  | .ite c a b, t, X, C, W, ct, e, G, h => by
    unfold chkE at h
    cases e <;> first
      | (cases h; done)
      | skip
    obtain ⟨h0, h⟩ := and2 h
    obtain ⟨h1, h⟩ := and2 h
    obtain ⟨h2, h3⟩ := and2 h
    exact valu h0 (se_ite ((snd_e c G h1).2 rfl) ((snd_e a G h2).1 rfl) ((snd_e b G h3).1 rfl))
  | .tup es, t, X, C, W, ct, e, G, h => by
    unfold chkE at h
    cases e <;> first
      | (cases h; done)
      | skip
    obtain ⟨h0, h⟩ := and2 h
    obtain ⟨h1, h⟩ := and2 h
    exact valu h0 (se_tup h1 (snd_es es G h).1)
  | .lst es, t, X, C, W, ct, e, G, h => by
    unfold chkE at h
    cases e <;> first
      | (cases h; done)
      | skip
    obtain ⟨h0, h⟩ := and2 h
    obtain ⟨h1, h⟩ := and2 h
    exact valu h0 (se_lst h1 (snd_es es G h).1)
  | .slc a lo hi, t, X, C, W, ct, e, G, h => by
    unfold chkE at h
    obtain ⟨hq, h⟩ := and2 h
    cases e with
    | Subscript x sl pos =>
      cases sl with
      | Slice l hh st p2 =>
        cases st with
        | none =>
          obtain ⟨h1, h⟩ := and2 h
          obtain ⟨h2, h3⟩ := and2 h
          obtain ⟨p1, q1⟩ := snd_o lo (W := W) G h2
          obtain ⟨p2, q2⟩ := snd_o hi (W := W) G h3
          exact leaf G (se_slc G.K q1 q2 ((snd_e a G h1).1 rfl) p1 p2 hq) (fun _ => rfl)
        | some _ => cases h
      | _ => cases h
    | _ => cases h
  | .call slots k es, t, X, C, W, ct, e, G, h => by
    unfold chkE at h
    cases e with
    | Call f as ks pos =>
      match f, as, ks, h with
      | .Name x p, y :: ys, [], h =>
        obtain ⟨h1, h⟩ := and2 h
        obtain ⟨h2, h⟩ := and2 h
        obtain ⟨h3, h⟩ := and2 h
        obtain ⟨h4, h⟩ := and2 h
        obtain ⟨h5, h⟩ := and2 h
        obtain ⟨r, F, hr⟩ := G.fns k x _ (of_decide_eq_true h1)
        obtain ⟨pa, ns⟩ := snd_es es G h
        have ns : (noStar y && ys.all noStar) = true := ns
        exact leaf G (se_call G.tk F hr (G.gl h4) h2 (of_decide_eq_true h3) pa (okN_d h5) (star_cons (and2 ns).1) (star_any (and2 ns).2)) (fun _ => rfl)
      | .Name x p, [], kw :: kws, h =>
        obtain ⟨h1, h⟩ := and2 h
        obtain ⟨h2, h⟩ := and2 h
        obtain ⟨h3, h⟩ := and2 h
        obtain ⟨h4, h⟩ := and2 h
        obtain ⟨h5, h⟩ := and2 h
        cases hl : ct.kws.lookup x with
        | none => rw [hl] at h; cases h
        | some ps =>
          rw [hl] at h
          obtain ⟨r, F, hr⟩ := G.kw k x _ ps (of_decide_eq_true h1) hl
          obtain ⟨pk, ks⟩ := snd_ks es G h
          obtain ⟨k1, k2, k3⟩ := ks pos X.env
          exact leaf G (se_callK G.tk F hr (G.gl h4) h2 (of_decide_eq_true h3) pk (okN_d h5) k2 k1 (by rw [k3]; rfl)) (fun _ => rfl)
    | _ => cases h
  | .pop i, t, X, C, W, ct, e, G, h => by
    unfold chkE at h
    cases e with
    | Call f as ks cpos =>
      match f, as, ks, h with
      | .Attribute (.Name x p') m apos, [], [], h =>
        obtain ⟨h0, h⟩ := and2 h
        obtain ⟨h1, h⟩ := and2 h
        obtain ⟨h2, h3⟩ := and2 h
        obtain ⟨v1, v2, v3, v4⟩ := G.vr h3
        have h1 := eq_of_beq h1
        subst h1
        exact valu h0 (se_pop v1 v2 v3 v4 rfl h2)
    | _ => cases h
  | .popAt i a, t, X, C, W, ct, e, G, h => by
    unfold chkE at h
    cases e with
    | Call f as ks cpos =>
      match f, as, ks, h with
      | .Attribute (.Name x p') m apos, [y], [], h =>
        obtain ⟨h0, h⟩ := and2 h
        obtain ⟨h1, h⟩ := and2 h
        obtain ⟨h2, h⟩ := and2 h
        obtain ⟨h3, h⟩ := and2 h
        obtain ⟨h4, h⟩ := and2 h
        obtain ⟨h5, h6⟩ := and2 h
        obtain ⟨v1, v2, v3, v4⟩ := G.vr h3
        have pe := (snd_e a G h6).1 rfl
        have h1 := eq_of_beq h1
        subst h1
        have hb2 : noStars [y] = true := by
          show (noStar y && true) = true
          rw [h4]
          rfl
        exact valu h0 (se_popAt h5 v1 v2 v3 v4 (sa_cons h5 pe sa_nil (star_cons h4)) rfl (by rw [star_all hb2]; rfl) h2 (star_cons h4) rfl)
    | _ => cases h
  | .lrg (.cons a' .nil), t, X, C, W, ct, e, G, h => by
    unfold chkE at h
    cases e with
    | Call f as ks pos =>
      match f, as, ks, h with
      | .Name z p, [.Call g bs ks2 pos2], [], h =>
        match g, bs, ks2, h with
        | .Name x p2, [a], [], h =>
          obtain ⟨h0, h⟩ := and2 h
          obtain ⟨h1, h⟩ := and2 h
          obtain ⟨h2, h⟩ := and2 h
          obtain ⟨h3, h⟩ := and2 h
          obtain ⟨h4, h⟩ := and2 h
          obtain ⟨h5, h6⟩ := and2 h
          obtain ⟨f1, f2, f3⟩ := G.fr h2
          obtain ⟨g1, g2, g3⟩ := G.fr h4
          have h1 := eq_of_beq h1
          have h3 := eq_of_beq h3
          have pe := (snd_e a' G h6).1 rfl
          subst h1
          subst h3
          exact valu h0 (se_lrg1 G.calm f1 f2 g1 g2 pe (star_cons h5))
    | _ => cases h
  | .lrg (.cons a' (.cons b' .nil)), t, X, C, W, ct, e, G, h => by
    unfold chkE at h
    cases e with
    | Call f as ks pos =>
      match f, as, ks, h with
      | .Name z p, [.Call g bs ks2 pos2], [], h =>
        match g, bs, ks2, h with
        | .Name x p2, [a, b], [], h =>
          obtain ⟨h0, h⟩ := and2 h
          obtain ⟨h1, h⟩ := and2 h
          obtain ⟨h2, h⟩ := and2 h
          obtain ⟨h3, h⟩ := and2 h
          obtain ⟨h4, h⟩ := and2 h
          obtain ⟨h5, h⟩ := and2 h
          obtain ⟨h6, h⟩ := and2 h
          obtain ⟨h7, h⟩ := and2 h
          obtain ⟨h8, h9⟩ := and2 h
          obtain ⟨f1, f2, f3⟩ := G.fr h2
          obtain ⟨g1, g2, g3⟩ := G.fr h4
          have h1 := eq_of_beq h1
          have h3 := eq_of_beq h3
          have pe := (snd_e a' G h8).1 rfl
          have pe2 := (snd_e b' G h9).1 rfl
          have hb2 : noStars [b] = true := by
            show (noStar b && true) = true
            rw [h6]
            rfl
          subst h1
          subst h3
          exact valu h0 (se_lrg2 G.calm f1 f2 g1 g2 pe pe2 (star_cons h5) (star_cons h6) (star_any hb2))
    | _ => cases h
  | .lrg .nil, t, X, C, W, ct, e, G, h => by unfold chkE at h; cases h
  | .lrg (.io _ _), t, X, C, W, ct, e, G, h => by unfold chkE at h; cases h
  | .lrg (.cons _ (.io _ _)), t, X, C, W, ct, e, G, h => by unfold chkE at h; cases h
  | .lrg (.cons _ (.cons _ (.cons _ _))), t, X, C, W, ct, e, G, h => by unfold chkE at h; cases h
  | .lrg (.cons _ (.cons _ (.io _ _))), t, X, C, W, ct, e, G, h => by unfold chkE at h; cases h
  | .me m a (.cons b .nil), t, X, C, W, ct, e, G, h => by
    unfold chkE at h
    obtain ⟨hq, h⟩ := and2 h
    cases e with
    | Call f as ks cpos =>
      match f, as, ks, h with
      | .Attribute o nm apos, [y], [], h =>
        obtain ⟨h0, h⟩ := and2 h
        obtain ⟨h1, h⟩ := and2 h
        obtain ⟨h2, h⟩ := and2 h
        obtain ⟨h3, h⟩ := and2 h
        obtain ⟨h4, h⟩ := and2 h
        obtain ⟨h5, h⟩ := and2 h
        obtain ⟨h6, h⟩ := and2 h
        obtain ⟨h7, h8⟩ := and2 h
        have po := (snd_e a G h7).1 rfl
        have pe := (snd_e b G h8).1 rfl
        have h1 := of_decide_eq_true h1
        subst h1
        have h2 := eq_of_beq h2
        subst h2
        have hb2 : noStars [y] = true := by
          show (noStar y && true) = true
          rw [h5]
          rfl
        have hs' : own a = true ∨ quiets (.cons b .nil) = true := by
          have hq : own a = true ∨ quiet b = true := by simpa using hq
          refine hq.imp id fun z => ?_
          show (quiet b && true) = true
          rw [z]
          rfl
        exact valu h0 (se_index G.K (by have := G.un; omega) hs' po (sa_cons h6 pe sa_nil (star_cons h5)) (base_any h4) (by rw [star_all hb2]; rfl) h3 (star_cons h5) rfl)
    | _ => cases h
  | .me _ _ .nil, t, X, C, W, ct, e, G, h => by unfold chkE at h; cases h
  | .me _ _ (.io _ _), t, X, C, W, ct, e, G, h => by unfold chkE at h; cases h
  | .me _ _ (.cons _ (.cons _ _)), t, X, C, W, ct, e, G, h => by unfold chkE at h; cases h
  | .me _ _ (.cons _ (.io _ _)), t, X, C, W, ct, e, G, h => by unfold chkE at h; cases h
  | .lc ow tg it c elt, t, X, C, W, ct, e, G, h => by
    unfold chkE at h
    cases e with
    | ListComp x gs scope pos =>
      match gs, h with
      | [⟨tg', iter, ifs, 0⟩], h =>
        obtain ⟨h0, h⟩ := and2 h
        obtain ⟨h1, h⟩ := and2 h
        obtain ⟨h2, h⟩ := and2 h
        obtain ⟨h3, h⟩ := and2 h
        obtain ⟨h4, h⟩ := and2 h
        obtain ⟨h5, h⟩ := and2 h
        obtain ⟨h6, h7⟩ := and2 h
        have hk := blk_kind h4
        have hm := own_map (ct := ct) (ow := ow)
        obtain ⟨p1, p2⟩ := snd_it it G h3
        have := se_lc (X := X) (C := C) (W := W) (ow := ownN ct ow) (pos := pos) h1 (by
          rw [hm]
          intro i hi
          have := List.all_eq_true.mp h2 i hi
          simpa using this) G.calm (by rw [G.N]; exact G.nd) p1 (by rw [G.N, G.sc]; exact blkOk_by h4)
          (fun s H Cc cl fp => snd_tg tg (G.blk s H scope hk Cc cl fp) h5) (fun s H Cc cl fp => snd_c c (G.blk s H scope hk Cc cl fp) h6)
          (fun s H Cc cl fp => (snd_e elt (G.blk s H scope hk Cc cl fp) h7).1 rfl) (p2 X.env)
        rw [hm] at this
        exact valu h0 this
    | _ => cases h
  | .dnil, t, X, C, W, ct, e, G, h => by
    unfold chkE at h
    cases e with
    | Dict ks vs pos =>
      match ks, vs, h with
      | [], [], h => exact valu h se_dnil
    | _ => cases h
  | .dc ow tg it c k v, t, X, C, W, ct, e, G, h => by
    unfold chkE at h
    cases e with
    | DictComp kx x gs scope pos =>
      match gs, h with
      | [⟨tg', iter, ifs, 0⟩], h =>
        obtain ⟨h0, h⟩ := and2 h
        obtain ⟨h1, h⟩ := and2 h
        obtain ⟨h2, h⟩ := and2 h
        obtain ⟨h3, h⟩ := and2 h
        obtain ⟨h4, h⟩ := and2 h
        obtain ⟨h5, h⟩ := and2 h
        obtain ⟨h6, h⟩ := and2 h
        obtain ⟨h7, h8⟩ := and2 h
        have hk := blk_kind h4
        have hm := own_map (ct := ct) (ow := ow)
        obtain ⟨p1, p2⟩ := snd_it it G h3
        have := se_dc (X := X) (C := C) (W := W) (ow := ownN ct ow) (pos := pos) h1 (by
          rw [hm]
          intro i hi
          have := List.all_eq_true.mp h2 i hi
          simpa using this) G.calm (by rw [G.N]; exact G.nd) p1 (by rw [G.N, G.sc]; exact blkOk_by h4)
          (fun s H Cc cl fp => snd_tg tg (G.blk s H scope hk Cc cl fp) h5) (fun s H Cc cl fp => snd_c c (G.blk s H scope hk Cc cl fp) h6)
          (fun s H Cc cl fp => (snd_e k (G.blk s H scope hk Cc cl fp) h7).1 rfl) (fun s H Cc cl fp => (snd_e v (G.blk s H scope hk Cc cl fp) h8).1 rfl) (p2 X.env)
        rw [hm] at this
        exact valu h0 this
    | _ => cases h
theorem snd_es : ∀ (es' : Es) {X : Cx} {C : Cfg} {W : WX} {ct : Ct} {es : List Expr}, Good X C W ct → chkEs es' ct es = true → PA X es (tA C W es') ∧ noStars es = true
  | .nil, X, C, W, ct, es, G, h => by
    unfold chkEs at h
    cases es with
    | nil => exact ⟨sa_nil, rfl⟩
    | cons _ _ => cases h
  | .cons a r, X, C, W, ct, es, G, h => by
    unfold chkEs at h
    cases es with
    | nil => cases h
    | cons e es =>
      obtain ⟨h1, h⟩ := and2 h
      obtain ⟨h2, h⟩ := and2 h
      obtain ⟨h3, h4⟩ := and2 h
      obtain ⟨g1, g2⟩ := snd_es r G h4
      exact ⟨sa_cons h2 ((snd_e a G h3).1 rfl) g1 (star_cons h1), by show (noStar e && noStars es) = true; rw [h1, g2]; rfl⟩
  | .io i r, X, C, W, ct, es, G, h => by
    unfold chkEs at h
    cases es with
    | nil => cases h
    | cons e es =>
      cases e <;> first
        | (cases h; done)
        | skip
      obtain ⟨h1, h⟩ := and2 h
      obtain ⟨g1, g2⟩ := snd_es r G h
      obtain ⟨v1, v2, v3, v4⟩ := G.vr h1
      exact ⟨sa_io v1 v2 v3 v4 g1 (star_cons rfl), by show (true && noStars es) = true; rw [g2]; rfl⟩
theorem snd_ks : ∀ (es' : Es) {X : Cx} {C : Cfg} {W : WX} {ct : Ct} {ps : List Str} {kws : List Keyword}, Good X C W ct → chkKs es' ct ps kws = true → PK X kws (tA C W es') ∧ ∀ pos env, (backToKw pos (keywordEach kws env)).filterMap (·.1) = ps ∧ (backToKw pos (keywordEach kws env)).all (·.1.isSome) = true ∧ (backToKw pos (keywordEach kws env)).any (·.1.isNone) = false
  | .nil, X, C, W, ct, ps, kws, G, h => by
    unfold chkKs at h
    match ps, kws, h with
    | [], [], _ => exact ⟨sk_nil, fun _ _ => ⟨rfl, rfl, rfl⟩⟩
  | .cons a r, X, C, W, ct, ps, kws, G, h => by
    unfold chkKs at h
    match ps, kws, h with
    | n :: ps, kw :: kws, h =>
      obtain ⟨h1, h⟩ := and2 h
      obtain ⟨h2, h⟩ := and2 h
      obtain ⟨h3, h4⟩ := and2 h
      obtain ⟨p1, p2⟩ := snd_ks r G h4
      have pe := (snd_e a G h3).1 rfl
      obtain ⟨arg, e, kp⟩ := kw
      have h1 : arg = some n := eq_of_beq h1
      subst h1
      refine ⟨sk_cons h2 pe p1, fun pos env => ?_⟩
      obtain ⟨q1, q2, q3⟩ := p2 pos env
      refine ⟨?_, ?_, ?_⟩
      · show n :: (backToKw pos (keywordEach kws env)).filterMap (·.1) = n :: ps
        rw [q1]
      · show (true && (backToKw pos (keywordEach kws env)).all (·.1.isSome)) = true
        rw [q2]; rfl
      · show (false || (backToKw pos (keywordEach kws env)).any (·.1.isNone)) = false
        rw [q3]; rfl
  | .io _ _, X, C, W, ct, ps, kws, G, h => by unfold chkKs at h; cases h
theorem snd_o : ∀ (lo : Es) {X : Cx} {C : Cfg} {W : WX} {ct : Ct} {o : Option Expr}, Good X C W ct → chkO lo ct o = true → PO X o (tPx C W lo) ∧ (match lo with | .nil => true | .cons _ .nil => true | _ => false) = true
  | .nil, X, C, W, ct, o, G, h => by
    unfold chkO at h
    cases o with
    | none => exact ⟨po_none, rfl⟩
    | some _ => cases h
  | .cons a .nil, X, C, W, ct, o, G, h => by
    unfold chkO at h
    cases o with
    | none => cases h
    | some e => exact ⟨po_some ((snd_e a G h).1 rfl), rfl⟩
  | .cons _ (.cons _ _), X, C, W, ct, o, G, h => by unfold chkO at h; cases h
  | .cons _ (.io _ _), X, C, W, ct, o, G, h => by unfold chkO at h; cases h
  | .io _ _, X, C, W, ct, o, G, h => by unfold chkO at h; cases h
theorem snd_c : ∀ (c : Es) {X : Cx} {C : Cfg} {W : WX} {ct : Ct} {ifs : List Expr}, Good X C W ct → chkC c ct ifs = true → PTs X ifs (tCs C W c)
  | .nil, X, C, W, ct, es, G, h => by
    unfold chkC at h
    cases es with
    | nil => exact tcs_nil
    | cons _ _ => cases h
  | .cons a r, X, C, W, ct, es, G, h => by
    unfold chkC at h
    match es, r, h with
    | [e], .nil, h => exact tcs_one ((snd_e a G h).2 rfl)
  | .io i r, X, C, W, ct, es, G, h => by unfold chkC at h; cases h
theorem snd_it : ∀ (it : It) {X : Cx} {C : Cfg} {W : WX} {ct : Ct} {tg iter : Expr}, Good X C W ct → chkIt it ct tg iter = true → PI X tg iter (tI C W it) ∧ ∀ env x, foldedSetIterable iter env x = pure x
  | .seq a, X, C, W, ct, tg, iter, G, h => by
    unfold chkIt at h
    obtain ⟨h1, h2⟩ := and2 h
    exact ⟨pi_seq G.K ((snd_e a G h2).1 rfl), fun env => folded_no h1⟩
  | .rng (.cons a' .nil), X, C, W, ct, tg, iter, G, h => by
    unfold chkIt at h
    cases iter with
    | Call f as ks pos =>
      match f, as, ks, h with
      | .Name x p, [a], [], h =>
        obtain ⟨h1, k1⟩ := and2 h
        obtain ⟨h2, k2⟩ := and2 k1
        obtain ⟨h3, k3⟩ := and2 k2
        obtain ⟨h4, k4⟩ := and2 k3
        have h1 := eq_of_beq h1
        obtain ⟨f1, f2, f3⟩ := G.fr h2
        have pe := (snd_e a' G k4).1 rfl
        subst h1
        exact ⟨pi_rng1 f1 f2 (sa_cons h4 pe sa_nil (star_cons h3)) (star_one h3), fun env x => rfl⟩
    | _ => cases h
  | .rng (.cons a' (.cons b' .nil)), X, C, W, ct, tg, iter, G, h => by
    unfold chkIt at h
    cases iter with
    | Call f as ks pos =>
      match f, as, ks, h with
      | .Name x p, [a, b], [], h =>
        obtain ⟨h1, k1⟩ := and2 h
        obtain ⟨h2, k2⟩ := and2 k1
        obtain ⟨h3, k3⟩ := and2 k2
        obtain ⟨h4, k4⟩ := and2 k3
        obtain ⟨h5, k5⟩ := and2 k4
        obtain ⟨h6, k6⟩ := and2 k5
        obtain ⟨h7, h8⟩ := and2 k6
        have h1 := eq_of_beq h1
        obtain ⟨f1, f2, f3⟩ := G.fr h2
        have pe := (snd_e a' G h7).1 rfl
        have pe2 := (snd_e b' G h8).1 rfl
        subst h1
        exact ⟨pi_rng2 f1 f2 (sa_cons h5 pe (sa_cons h6 pe2 sa_nil (star_cons h4)) (star_cons h3)) (by rw [star_cons h3, star_one h4]) (star_one h4), fun env x => rfl⟩
    | _ => cases h
  | .rng .nil, X, C, W, ct, tg, iter, G, h => by unfold chkIt at h; cases h
  | .rng (.io _ _), X, C, W, ct, tg, iter, G, h => by unfold chkIt at h; cases h
  | .rng (.cons _ (.io _ _)), X, C, W, ct, tg, iter, G, h => by unfold chkIt at h; cases h
  | .rng (.cons _ (.cons _ (.cons _ _))), X, C, W, ct, tg, iter, G, h => by unfold chkIt at h; cases h
  | .rng (.cons _ (.cons _ (.io _ _))), X, C, W, ct, tg, iter, G, h => by unfold chkIt at h; cases h
  | .enum a, X, C, W, ct, tg, iter, G, h => by
    unfold chkIt at h
    cases tg with
    | Tuple elts kk tpos =>
      cases iter with
      | Call f as ks pos =>
        match f, as, ks, h with
        | .Name x p, [b], [], h =>
          obtain ⟨h1, k1⟩ := and2 h
          obtain ⟨h2, k2⟩ := and2 k1
          obtain ⟨h3, k3⟩ := and2 k2
          obtain ⟨h4, k4⟩ := and2 k3
          have h1 := eq_of_beq h1
          obtain ⟨f1, f2, f3⟩ := G.fr h2
          have pe := (snd_e a G k4).1 rfl
          subst h1
          exact ⟨pi_enum' G.K f1 f2 (sa_cons h4 pe sa_nil (star_cons h3)) (star_one h3), fun env x => rfl⟩
      | _ => cases h
    | _ => cases h
  | .zip a' b', X, C, W, ct, tg, iter, G, h => by
    unfold chkIt at h
    cases tg with
    | Tuple elts kk tpos =>
      cases iter with
      | Call f as ks pos =>
        match f, as, ks, h with
        | .Name x p, [a, b], [], h =>
          obtain ⟨h1, k1⟩ := and2 h
          obtain ⟨h2, k2⟩ := and2 k1
          obtain ⟨h3, k3⟩ := and2 k2
          obtain ⟨h4, k4⟩ := and2 k3
          obtain ⟨h5, k5⟩ := and2 k4
          obtain ⟨h6, k6⟩ := and2 k5
          obtain ⟨h7, h8⟩ := and2 k6
          have h1 := eq_of_beq h1
          obtain ⟨f1, f2, f3⟩ := G.fr h2
          have pe := (snd_e a' G h7).1 rfl
          have pe2 := (snd_e b' G h8).1 rfl
          subst h1
          have hb2 : noStars [b] = true := by
            show (noStar b && true) = true
            rw [h4]
            rfl
          exact ⟨pi_zip' G.K f1 f2 (sa_cons h5 pe (sa_cons h6 pe2 sa_nil (star_cons h4)) (star_cons h3)) (star_cons h3) (star_any hb2), fun env x => rfl⟩
      | _ => cases h
    | _ => cases h
end
end Ly

namespace Ly
open PySem PySem.Spec L2
def swB (ct : Ct) (t : Str) (p vp : Pos) (scope : Scope) : Bool := ct.sc.names.lookup t == some .local && p.line == vp.line && !(scope.names.any fun (n, k) => n == t && (k == .local || k == .cell))
def isLc : E → Bool
  | .lc _ _ _ _ _ => true
  | _ => false
mutual
def chkS : S → List Nat → Ct → Stmt → Bool
  | .pass, P, ct, st => (match st with
    | .Pass _ => true
    | .Expr v _ => (match v with
      | .Constant (.str _) _ _ => true
      | _ => false)
    | _ => false)
  | .expr e', P, ct, st => (match st with
    | .Expr e _ => noComp e && chkE e' false ct e
    | _ => false)
  | .asg i e', P, ct, st => own e' && (!(P.contains i) && (match st with
    | .Assign ts e _ => (match ts with
      | [.Name x py] => nmB ct i x && (locB ct x && (chkE e' false ct e && (match e with
        | .ListComp _ _ scope vp => isLc e' || !(swB ct x py vp scope)
        | .DictComp _ _ _ scope vp => !(swB ct x py vp scope)
        | _ => noComp e)))
      | _ => false)
    | _ => false))
  | .asgT (.tp tg) e', P, ct, st => (tnss tg).all (fun i => !(P.contains i)) && (match st with
    | .Assign ts e _ => (match ts with
      | [.Tuple xs k p] => noTup e && (chkTg (.tp tg) ct (.Tuple xs k p) && chkE e' false ct e)
      | _ => false)
    | _ => false)
  | .asgT (.nm _) _, _, _, _ => false
  | .asgP i j a b, P, ct, st => !(P.contains i) && (!(P.contains j) && (decide (i ≠ j) && (match st with
    | .Assign ts e _ => (match ts, e with
      | [.Tuple [.Name x px, .Name y py] _ _], .Tuple [l, r] _ _ => nmB ct i x && (nmB ct j y && (lclB ct x && (lclB ct y && (py.line == px.line && (!(x == y) && (noStar l && (noStar r && (!([l, r].all (foldedForSure 8)) && (!([l, r].all (constantsAlone 8)) && (own a && (own b && (chkE a false ct l && chkE b false ct r))))))))))))
      | _, _ => false)
    | _ => false)))
  | .aug i o e', P, ct, st => !(P.contains i) && (match st with
    | .AugAssign t op e _ => (match t with
      | .Name x _ => decide (ipOp op = some o) && (nmB ct i x && (locB ct x && chkE e' false ct e))
      | _ => false)
    | _ => false)
  | .setI i ix' e', P, ct, st => own e' && (quiet ix' && (match st with
    | .Assign ts e _ => (match ts with
      | [.Subscript (.Name x _) ix _] => vrB ct i x && (noSlice ix && (chkE e' false ct e && chkE ix' false ct ix))
      | _ => false)
    | _ => false))
  | .app i e', P, ct, st => own e' && (match st with
    | .Expr v _ => (match v with
      | .Call f as ks cpos => (match f, as, ks with
        | .Attribute (.Name x _) m apos, [e], [] => m == ("append" : Str) && (apos.endLine == cpos.line && (vrB ct i x && (noStar e && chkE e' false ct e)))
        | _, _, _ => false)
      | _ => false)
    | _ => false)
  | .iff c a b, P, ct, st => (match st with
    | .If x as bs _ => chkE c true ct x && (chkSs a P ct as && chkSs b P ct bs)
    | _ => false)
  | .whl c b, P, ct, st => (match st with
    | .While x bs es _ => (match es with
      | [] => chkE c true ct x && chkSs b P ct bs
      | _ => false)
    | _ => false)
  | .forr tg it b, P, ct, st => (tns tg).all (fun i => !(P.contains i)) && (match st with
    | .For t iter bs es _ => (match es with
      | [] => chkTg tg ct t && (chkIt it ct t iter && chkSs b P ct bs)
      | _ => false)
    | _ => false)
  | .ret e', P, ct, st => own e' && (match st with
    | .Return v _ => (match v with
      | some e => chkE e' false ct e
      | none => false)
    | _ => false)
  | .retN, P, ct, st => (match st with
    | .Return v _ => (match v with
      | none => true
      | _ => false)
    | _ => false)
  | .brk, P, ct, st => (match st with
    | .Break _ => true
    | _ => false)
  | .cnt, P, ct, st => (match st with
    | .Continue _ => true
    | _ => false)
def chkSs : Ss → List Nat → Ct → List Stmt → Bool
  | .nil, P, ct, sts => (match sts with
    | [] => true
    | _ => false)
  | .cons s ss, P, ct, sts => (match sts with
    | st :: r => chkS s P ct st && chkSs ss P ct r
    | [] => false)
end
variable [Fns]
section
variable {X : Cx} {C : Cfg} {W : WX} {ct : Ct} {P : List Nat}
theorem notP {P : List Nat} {i : Nat} (h : (!(P.contains i)) = true) : i ∉ P := by simpa using h
theorem allP {P is : List Nat} (h : is.all (fun i => !(P.contains i)) = true) : ∀ i ∈ is, i ∉ P := fun i hi => notP (List.all_eq_true.mp h i hi)
theorem sw_no {e : Expr} {t : Option Expr} {n : Nat} {env : Env} (h : noComp e = true) : swapsWith e t n env = pure false := by
  cases e <;> first | rfl | cases h
theorem sw_tup {e : Expr} {xs : List Expr} {k : Nat} {p : Pos} {n : Nat} {env : Env} : swapsWithSole [.Tuple xs k p] e n env = pure false := by
  cases e <;> rfl
theorem sw_sub {e o ix : Expr} {p : Pos} {n : Nat} {env : Env} : swapsWithSole [.Subscript o ix p] e n env = pure false := by
  cases e <;> rfl
theorem ss_no {xs : List Expr} {k : Nat} {p : Pos} {e : Expr} {env : Env} (h : noTup e = true) : swappedStores [.Tuple xs k p] e env = pure none := by
  cases e <;> first
    | (cases h; done)
    | rfl
theorem ss_sub {o ix : Expr} {p : Pos} {e : Expr} {env : Env} : swappedStores [.Subscript o ix p] e env = pure none := by
  cases e <;> rfl
theorem dups {x y : Str} (h : (x == y) = false) : [x, y].eraseDups = [x, y] := by
  have hyx : (y == x) = false := by rw [BEq.comm]; exact h
  show List.eraseDupsBy.loop (· == ·) [x, y] [] = [x, y]
  unfold List.eraseDupsBy.loop
  show List.eraseDupsBy.loop (· == ·) [y] [x] = [x, y]
  unfold List.eraseDupsBy.loop
  have e : ([x].any fun z => y == z) = false := by
    show ((y == x) || false) = false
    rw [hyx]; rfl
  simp only [e]
  rfl
theorem Good.bk (G : Good X C W ct) : X.env.blockKind = .function := by
  unfold Env.blockKind
  rw [G.sc, G.kind]
  rfl
theorem Good.ko (G : Good X C W ct) (x : Str) : X.env.kindOf x = ct.sc.names.lookup x := by
  show X.env.scope.names.lookup x = _
  rw [G.sc]
theorem sw_lc (G : Good X C W ct) {elt : Expr} {gs : List Comprehension} {scope : Scope} {vp py : Pos} {x : Str} {n : Nat} : swapsWith (.ListComp elt gs scope vp) (some (.Name x py)) n X.env = pure (swB ct x py vp scope) := by
  show pure (X.env.blockKind == .function && X.env.kindOf x == some .local && py.line == vp.line && !(scope.names.any fun (n, k) => n == x && (k == .local || k == .cell))) = _
  rw [G.bk, G.ko]
  rfl
theorem sw_dc (G : Good X C W ct) {k elt : Expr} {gs : List Comprehension} {scope : Scope} {vp py : Pos} {x : Str} {n : Nat} : swapsWith (.DictComp k elt gs scope vp) (some (.Name x py)) n X.env = pure (swB ct x py vp scope) := by
  show pure (X.env.blockKind == .function && X.env.kindOf x == some .local && py.line == vp.line && !(scope.names.any fun (n, k) => n == x && (k == .local || k == .cell))) = _
  rw [G.bk, G.ko]
  rfl
theorem lclB_some {x : Str} (h : lclB ct x = true) : ct.sc.names.lookup x = some .local := by
  unfold lclB at h
  split at h
  · assumption
  · cases h
def nmsOf (env : Env) (n : Nat) (e : Expr) : Option Str := match e with
  | .Name id pos => if (env.kindOf id == some NameKind.local && pos.line == n) = true then some id else none
  | _ => none
theorem ss_two (G : Good X C W ct) {x y : Str} {px py pt pt2 : Pos} {kt k2 : Nat} {l r : Expr} (hx : lclB ct x = true) (hy : lclB ct y = true) (hl : (py.line == px.line) = true) (hn : (!(x == y)) = true) (nl : noStar l = true) (nr : noStar r = true) (hf : (!([l, r].all (foldedForSure 8))) = true) (hc : (!([l, r].all (constantsAlone 8))) = true) :
    swappedStores [.Tuple [.Name x px, .Name y py] kt pt] (.Tuple [l, r] k2 pt2) X.env = pure (some [x, y]) := by
  have kx := (G.ko x).trans (lclB_some hx)
  have ky := (G.ko y).trans (lclB_some hy)
  have e2 : (x == y) = false := by simpa using hn
  have e3 : ¬ ([l, r].all (foldedForSure 8) = true) := fun z => by rw [z] at hf; cases hf
  have e4 : ¬ ([l, r].all (constantsAlone 8) = true) := fun z => by rw [z] at hc; cases hc
  have e5 : ¬ (([l, r].any fun e => match e with | .Starred _ _ => true | _ => false) = true) := by
    cases l <;> cases r <;> first | (cases nl; done) | (cases nr; done) | exact Bool.false_ne_true
  have e7 : List.filterMap (nmsOf X.env px.line) [Expr.Name x px, Expr.Name y py] = [x, y] := by
    rw [List.filterMap_cons_some (b := x) (by show (if (X.env.kindOf x == some NameKind.local && px.line == px.line) = true then some x else none) = some x; rw [kx, if_pos (by rw [show (px.line == px.line) = true from beq_self_eq_true _]; rfl)]),
      List.filterMap_cons_some (b := y) (by show (if (X.env.kindOf y == some NameKind.local && py.line == px.line) = true then some y else none) = some y; rw [ky, hl, if_pos (by rfl)]), List.filterMap_nil]
  unfold swappedStores
  show (if (!(2 == 2 || 2 == 3) || 2 != 2 || X.env.blockKind != ScopeKind.function) = true then pure none else
    if ([l, r].any fun e => match e with | .Starred _ _ => true | _ => false) = true then pure none else
    if ((List.filterMap (nmsOf X.env px.line) [Expr.Name x px, Expr.Name y py]).length != 2 || (List.filterMap (nmsOf X.env px.line) [Expr.Name x px, Expr.Name y py]).eraseDups.length != (List.filterMap (nmsOf X.env px.line) [Expr.Name x px, Expr.Name y py]).length) = true then pure none else
    if [l, r].all (foldedForSure 8) = true then pure none else
    if [l, r].all (constantsAlone 8) = true then (do unsupported "assign.tuple-of-constant-expressions:order-of-the-stores"; pure (some (List.filterMap (nmsOf X.env px.line) [Expr.Name x px, Expr.Name y py]))) else pure (some (List.filterMap (nmsOf X.env px.line) [Expr.Name x px, Expr.Name y py]))) = _
  rw [e7, dups e2, if_neg (by rw [G.bk]; exact fun z => by cases z), if_neg e5, if_neg (fun z : ([x, y].length != 2 || [x, y].length != [x, y].length) = true => by cases z), if_neg e3, if_neg e4]
theorem asg_one {tg : Expr} {env : Env} (h : noStar tg = true) : (assignEach [tg] env).map (·.2) = [assign tg env] := by rw [asg_cons h]; rfl
theorem asg_sub {o ix : Expr} {p : Pos} {env : Env} (h : noSlice ix = true) : ∀ v, assign (.Subscript o ix p) env v = (do
      let ov ← holding [v] (eval o env)
      let iv ← holding [v, ov] (eval ix env)
      standAt p
      holding [v, ov, iv] (setItem ov iv v)
      release [v, ov, iv] []) := by
  intro v
  cases ix <;> first | rfl | cases h
/-- a comprehension's parts -/
theorem lc_parts (G : Good X C W ct) {ow : List Nat} {tg : Tg} {it : It} {c : Es} {elt : E} {x tg' iter : Expr} {ifs : List Expr} {scope : Scope} {vp : Pos} (h : chkE (.lc ow tg it c elt) false ct (.ListComp x [⟨tg', iter, ifs, 0⟩] scope vp) = true) :
    own elt = true ∧ (∀ i ∈ tns tg, i ∈ (ownN ct ow).map (·.2)) ∧ PI X tg' iter (tI C W it) ∧ BlkOk X.N X.env.scope scope (ownN ct ow) ∧
    (∀ (s : Shared) (H : Hp) (Cc : Addr) (cl : List (Str × Addr)) (fp : List Addr), PG (X.blk s H scope (compEnvC scope cl Cc X.env) fp) tg' (tG C.K tg)) ∧ (∀ (s : Shared) (H : Hp) (Cc : Addr) (cl : List (Str × Addr)) (fp : List Addr), PTs (X.blk s H scope (compEnvC scope cl Cc X.env) fp) ifs (tCs C WF c)) ∧
    (∀ (s : Shared) (H : Hp) (Cc : Addr) (cl : List (Str × Addr)) (fp : List Addr), PE (X.blk s H scope (compEnvC scope cl Cc X.env) fp) x (tD C WF elt)) ∧ ∀ env x, foldedSetIterable iter env x = pure x := by
  unfold chkE at h
  obtain ⟨h0, h⟩ := and2 h
  obtain ⟨h1, h⟩ := and2 h
  obtain ⟨h2, h⟩ := and2 h
  obtain ⟨h3, h⟩ := and2 h
  obtain ⟨h4, h⟩ := and2 h
  obtain ⟨h5, h⟩ := and2 h
  obtain ⟨h6, h7⟩ := and2 h
  have hk := blk_kind h4
  obtain ⟨p1, p2⟩ := snd_it it G h3
  refine ⟨h1, ?_, p1, by rw [G.N, G.sc]; exact blkOk_by h4, fun s H Cc cl fp => snd_tg tg (G.blk s H scope hk Cc cl fp) h5, fun s H Cc cl fp => snd_c c (G.blk s H scope hk Cc cl fp) h6, fun s H Cc cl fp => (snd_e elt (G.blk s H scope hk Cc cl fp) h7).1 rfl, p2⟩
  rw [own_map]
  intro i hi
  have := List.all_eq_true.mp h2 i hi
  simpa using this
end
mutual
theorem snd_s : ∀ (b : S) {X : Cx} {C : Cfg} {W : WX} {ct : Ct} {P : List Nat} {st : Stmt}, Good X C W ct → PassesOwn (model X.prog X.w) X.A X.env X.xe → chkS b P ct st = true → PS X st (tS C W P b)
  | .pass, X, C, W, ct, P, st, G, po, h => by
    unfold chkS at h
    cases st with
    | Pass p => exact s_pass
    | Expr v p =>
      match v, h with
      | .Constant (.str x) j p', h => exact s_doc
    | _ => cases h
  | .expr e', X, C, W, ct, P, st, G, po, h => by
    unfold chkS at h
    cases st with
    | Expr v p =>
      obtain ⟨h1, h2⟩ := and2 h
      exact s_expr ((snd_e e' G h2).1 rfl) (sw_no h1)
    | _ => cases h
  | .asg i e', X, C, W, ct, P, st, G, po, h => by
    unfold chkS at h
    obtain ⟨ho, h⟩ := and2 h
    obtain ⟨hP, h⟩ := and2 h
    cases st with
    | Assign ts e p =>
      match ts, h with
      | [.Name x py], h =>
        obtain ⟨h1, h⟩ := and2 h
        obtain ⟨h2, h⟩ := and2 h
        obtain ⟨h3, h⟩ := and2 h
        have pe := (snd_e e' G h3).1 rfl
        have hN : X.N.Nodup := by rw [G.N]; exact G.nd
        by_cases hc : noComp e = true
        · exact s_asg ho (notP hP) hN (G.nm h1) (G.loc h2).1 (G.loc h2).2 pe (sw_no hc)
        · cases e with
          | ListComp elt gs scope vp =>
            have h : (isLc e' || !(swB ct x py vp scope)) = true := h
            by_cases hs : swB ct x py vp scope = true
            · have hl : isLc e' = true := by rw [hs] at h; simpa using h
              cases e' with
              | lc ow tg it c elt' =>
                have h3' := h3
                unfold chkE at h3'
                match gs, h3', h3 with
                | [⟨tg', iter, ifs, 0⟩], _, h3 =>
                  obtain ⟨q1, q2, q3, q4, q5, q6, q7, q8⟩ := lc_parts G h3
                  have hx : X.env.scope.names.lookup x = some .local := by
                    rw [G.sc]
                    have := (and2 (and2 hs).1).1
                    exact eq_of_beq this
                  have := s_asgLc (W := W) (P := P) (ow := ownN ct ow) (spos := p) (pos := vp) (py := py) q1 q2 (notP hP) G.calm hN (G.nm h1) hx (by rw [sw_lc G, hs]) q3 q4 q5 q6 q7 (q8 X.env)
                  rw [own_map] at this
                  exact this
              | _ => cases hl
            · exact s_asg ho (notP hP) hN (G.nm h1) (G.loc h2).1 (G.loc h2).2 pe (by rw [sw_lc G]; simp [hs])
          | SetComp _ _ _ _ => cases h
          | DictComp kx elt gs scope vp =>
            have h : (!(swB ct x py vp scope)) = true := h
            exact s_asg ho (notP hP) hN (G.nm h1) (G.loc h2).1 (G.loc h2).2 pe (by rw [sw_dc G]; congr 1; simpa using h)
          | _ => exact absurd rfl hc
    | _ => cases h
  | .asgT (.tp tg) e', X, C, W, ct, P, st, G, po, h => by
    unfold chkS at h
    obtain ⟨hP, h⟩ := and2 h
    cases st with
    | Assign ts e p =>
      match ts, h with
      | [.Tuple xs k p'], h =>
        obtain ⟨h1, h⟩ := and2 h
        obtain ⟨h2, h3⟩ := and2 h
        exact s_asgT (allP hP) ((snd_e e' G h3).1 rfl) (snd_tg (.tp tg) G h2) sw_tup (ss_no h1) (asg_one rfl)
    | _ => cases h
  | .asgT (.nm _) _, X, C, W, ct, P, st, G, po, h => by unfold chkS at h; cases h
  | .asgP i j a b, X, C, W, ct, P, st, G, po, h => by
    unfold chkS at h
    obtain ⟨hPi, h⟩ := and2 h
    obtain ⟨hPj, h⟩ := and2 h
    obtain ⟨hij, h⟩ := and2 h
    cases st with
    | Assign ts e p =>
      match ts, e, h with
      | [.Tuple [.Name x px, .Name y py] kt pt], .Tuple [l, r] k2 pt2, h =>
        obtain ⟨h1, h⟩ := and2 h
        obtain ⟨h2, h⟩ := and2 h
        obtain ⟨h3, h⟩ := and2 h
        obtain ⟨h4, h⟩ := and2 h
        obtain ⟨h5, h⟩ := and2 h
        obtain ⟨h6, h⟩ := and2 h
        obtain ⟨h7, h⟩ := and2 h
        obtain ⟨h8, h⟩ := and2 h
        obtain ⟨h9, h⟩ := and2 h
        obtain ⟨ha, h⟩ := and2 h
        obtain ⟨hb, h⟩ := and2 h
        obtain ⟨hc, h⟩ := and2 h
        obtain ⟨hd, he⟩ := and2 h
        exact s_asgP (notP hPi) (notP hPj) G.calm (by rw [G.N]; exact G.nd) (G.nm h1) (G.nm h2) (of_decide_eq_true hij) (by rw [G.sc]; exact lclB_some h3) (by rw [G.sc]; exact lclB_some h4)
          (sa_cons hb ((snd_e a G hd).1 rfl) (sa_cons hc ((snd_e b G he).1 rfl) sa_nil (star_cons h8)) (star_cons h7)) (ss_two G h3 h4 h5 h6 h7 h8 h9 ha) sw_tup
    | _ => cases h
  | .aug i o e', X, C, W, ct, P, st, G, po, h => by
    unfold chkS at h
    obtain ⟨hP, h⟩ := and2 h
    cases st with
    | AugAssign t op e p =>
      cases t with
      | Name x p' =>
        obtain ⟨h1, h⟩ := and2 h
        obtain ⟨h2, h⟩ := and2 h
        obtain ⟨h3, h4⟩ := and2 h
        exact s_aug (of_decide_eq_true h1) (notP hP) (by rw [G.N]; exact G.nd) (G.nm h2) (G.loc h3).1 (G.loc h3).2 ((snd_e e' G h4).1 rfl)
      | _ => cases h
    | _ => cases h
  | .setI i ix' e', X, C, W, ct, P, st, G, po, h => by
    unfold chkS at h
    obtain ⟨ho, h⟩ := and2 h
    obtain ⟨hq, h⟩ := and2 h
    cases st with
    | Assign ts e p =>
      match ts, h with
      | [.Subscript (.Name x p') ix tp], h =>
        obtain ⟨h1, h⟩ := and2 h
        obtain ⟨h2, h⟩ := and2 h
        obtain ⟨h3, h4⟩ := and2 h
        obtain ⟨v1, v2, v3, v4⟩ := G.vr h1
        exact s_setI G.K (by have := G.un; omega) ho v1 v2 v3 v4 ((snd_e e' G h3).1 rfl) ((snd_e ix' G h4).1 rfl) hq (asg_sub h2) sw_sub ss_sub (asg_one rfl)
    | _ => cases h
  | .app i e', X, C, W, ct, P, st, G, po, h => by
    unfold chkS at h
    obtain ⟨ho, h⟩ := and2 h
    cases st with
    | Expr v p =>
      cases v with
      | Call f as ks cpos =>
        match f, as, ks, h with
        | .Attribute (.Name x p') m apos, [e], [], h =>
          obtain ⟨h1, k1⟩ := and2 h
          obtain ⟨h2, k2⟩ := and2 k1
          obtain ⟨h3, k3⟩ := and2 k2
          obtain ⟨h4, k4⟩ := and2 k3
          obtain ⟨v1, v2, v3, v4⟩ := G.vr h3
          have pe := (snd_e e' G k4).1 rfl
          have h1 := eq_of_beq h1
          subst h1
          have hb2 : noStars [e] = true := by
            show (noStar e && true) = true
            rw [h4]
            rfl
          exact s_app G.K ho v1 v2 v3 v4 (sa_cons ho pe sa_nil (star_cons h4)) rfl (by rw [star_all hb2]; rfl) h2 (star_cons h4) rfl rfl
      | _ => cases h
    | _ => cases h
  | .iff c a b, X, C, W, ct, P, st, G, po, h => by
    unfold chkS at h
    cases st with
    | If x as bs p =>
      obtain ⟨h1, h⟩ := and2 h
      obtain ⟨h2, h3⟩ := and2 h
      exact s_iff ((snd_e c G h1).2 rfl) (snd_ss a G po h2) (snd_ss b G po h3)
    | _ => cases h
  | .whl c b, X, C, W, ct, P, st, G, po, h => by
    unfold chkS at h
    cases st with
    | While x bs es p =>
      match es, h with
      | [], h =>
        obtain ⟨h1, h2⟩ := and2 h
        exact s_whl po ((snd_e c G h1).2 rfl) (snd_ss b G po h2)
    | _ => cases h
  | .forr tg it b, X, C, W, ct, P, st, G, po, h => by
    unfold chkS at h
    obtain ⟨hP, h⟩ := and2 h
    cases st with
    | For t iter bs es p =>
      match es, h with
      | [], h =>
        obtain ⟨h1, h⟩ := and2 h
        obtain ⟨h2, h3⟩ := and2 h
        obtain ⟨p1, p2⟩ := snd_it it G h2
        exact s_for (allP hP) po G.calm p1 (snd_tg tg G h1) (snd_ss b G po h3) (p2 X.env)
    | _ => cases h
  | .ret e', X, C, W, ct, P, st, G, po, h => by
    unfold chkS at h
    obtain ⟨ho, h⟩ := and2 h
    cases st with
    | Return v p =>
      cases v with
      | some e => exact s_ret ho ((snd_e e' G h).1 rfl)
      | none => cases h
    | _ => cases h
  | .retN, X, C, W, ct, P, st, G, po, h => by
    unfold chkS at h
    cases st with
    | Return v p =>
      cases v with
      | some e => cases h
      | none => exact s_retN
    | _ => cases h
  | .brk, X, C, W, ct, P, st, G, po, h => by
    unfold chkS at h
    cases st with
    | Break p => exact s_brk
    | _ => cases h
  | .cnt, X, C, W, ct, P, st, G, po, h => by
    unfold chkS at h
    cases st with
    | Continue p => exact s_cnt
    | _ => cases h
theorem snd_ss : ∀ (b : Ss) {X : Cx} {C : Cfg} {W : WX} {ct : Ct} {P : List Nat} {sts : List Stmt}, Good X C W ct → PassesOwn (model X.prog X.w) X.A X.env X.xe → chkSs b P ct sts = true → PSs X sts (tSs C W P b)
  | .nil, X, C, W, ct, P, sts, G, po, h => by
    unfold chkSs at h
    cases sts with
    | nil => exact ss_nil
    | cons _ _ => cases h
  | .cons b bs, X, C, W, ct, P, sts, G, po, h => by
    unfold chkSs at h
    cases sts with
    | nil => cases h
    | cons st r =>
      obtain ⟨h1, h2⟩ := and2 h
      exact ss_cons (snd_s b G po h1) (snd_ss bs G po h2)
end
end Ly

namespace Ly
open PySem PySem.Spec L2
/-- the def x may be called: its rank, what it may change, what it does -/
def FnM (C : Cfg) (P : Program) (w : World) (mg : Str → Option Value) (base : Heap) (k : Nat) (x : Str) (io : List Bool) (sem : FSem) : Prop :=
  ∃ (f : Addr) (fd : FuncData) (ps : List Str), mg x = some (.ref f) ∧ FnOk P w C.K mg base (L2.CX P w) k f fd ps (spD C io sem) ∧ PySem.W.keepIn C.K (.ref f) = true ∧ Binds C.K fd ps []
/-- .. by keywords -/
def FnMK (C : Cfg) (P : Program) (w : World) (mg : Str → Option Value) (base : Heap) (k : Nat) (x : Str) (io : List Bool) (ps : List Str) (sem : FSem) : Prop :=
  ∃ (f : Addr) (fd : FuncData), mg x = some (.ref f) ∧ FnOk P w C.K mg base (L2.CX P w) k f fd ps (spD C io sem) ∧ PySem.W.keepIn C.K (.ref f) = true ∧ KB0 C.K fd ps ps
section
variable {C : Cfg} {P : Program} {w : World} {mg : Str → Option Value} {base : Heap} {x qual : Str} {params : Arguments} {body : List Stmt} {scope : Scope} {kws : List (Str × V)} {f : Addr} {fd : FuncData}
theorem def_ok [Fns] {N ps : List Str} {io : List Bool} {k : Nat} {sem : FSem} {bs : Ss} {fns : List (Str × List Bool)} {gls free : List Str} {kws' : List (Str × List Str)} (F : FunD C.K x qual params body scope [] kws f fd) (S : FnScope N ps scope) (hio : io.length = ps.length) (hsem : ∀ ds, sem ds ≠ .bad → runFn N.length io bs ds = sem ds)
    (hf : ∀ (j : Nat) y ioj, fns[j]? = some (y, ioj) → ∃ r, r ≤ k ∧ FnM C P w mg base r y ioj (Fns.F j))
    (hg : ∀ (j : Nat) y, gls[j]? = some y → ∃ v u, mg y = some u ∧ RelV v u ∧ ∀ H, Rep C.K H (Fns.G j) v [])
    (hr : ∀ y, free.contains y = true → mg y = none) (hk : ∀ (j : Nat) y ioj psj, fns[j]? = some (y, ioj) → kws'.lookup y = some psj → ∃ r, r ≤ k ∧ FnMK C P w mg base r y ioj psj (Fns.F j)) (hc : chkSs bs (ixs io) ⟨N, scope, true, scope, fns, gls, free, kws'⟩ body = true) :
    FnOk P w C.K mg base (L2.CX P w) (k + 1) f fd ps (spD C io sem) := by
  refine fn_ok F S hio hsem fun cdv A outer s H E hroom => ?_
  have G : Good (cxOf (L2.CX P w) P w C.K mg base N qual scope f cdv A outer s H E) C (fun cls d _ H => E cls d H) ⟨N, scope, true, scope, fns, gls, free, kws'⟩ :=
    { N := rfl
      nd := S.nd
      sc := rfl
      kind := S.kind
      fn := fun _ _ => rfl
      K := rfl
      calm := rfl
      un := by
        have := hroom.un
        show (A.deeper (PyProof.Rows.envOfC qual scope s.heap.objs.size f cdv)).units + 70 < cLine
        omega
      tk := takes_of rfl rfl rfl rfl
      fns := fun j y ioj h => by
        obtain ⟨r, hrk, f', fd', ps', h1, h2, h3, h4⟩ := hf j y ioj h
        exact ⟨r, ⟨f', fd', ps', h1, h2, h3, h4⟩, hroom.mono hrk⟩
      gls := hg
      free := hr
      kw := fun j y ioj psj h h' => by
        obtain ⟨r, hrk, f', fd', h1, h2, h3, h4⟩ := hk j y ioj psj h h'
        exact ⟨r, ⟨f', fd', h1, h2, h3, h4⟩, hroom.mono hrk⟩ }
  exact snd_ss bs G (passes_of rfl) hc
theorem kb0_of {ps : List Str} (F : FunD C.K x qual params body scope [] kws f fd) (h : ∀ (kV doc pm : Value) (an : Option Addr) (cdv ct : Value) (ws : List Value), ws.length = ps.length → bindArgs (PySem.W.fnOf x qual params body scope .none kV doc pm an cdv ct) ⟨[], ps.zip ws⟩ = pure (ps.zip ws)) : KB0 C.K fd ps ps := by
  obtain ⟨oc, od, dV, kV, doc, pm, an, cdv, ct, osl, rfl, lk, hcd, hD, hK⟩ := F.ex
  rcases hD with ⟨_, rfl⟩ | ⟨e, _⟩
  · exact fun s ws _ hl => .of_eq (h kV doc pm an cdv ct ws hl)
  · exact absurd rfl e
/-- all that may be called so far -/
def AllF (C : Cfg) (P : Program) (w : World) (mg : Str → Option Value) (base : Heap) (fns : List (Str × List Bool)) (tab : List FSem) (k : Nat) : Prop :=
  fns.length = tab.length ∧ ∀ (j : Nat) y io, fns[j]? = some (y, io) → ∃ r, r ≤ k ∧ FnM C P w mg base r y io (tab.getD j fun _ => .bad)
theorem AllF.nil : AllF C P w mg base [] [] 0 := ⟨rfl, fun j y io h => by simp at h⟩
theorem AllF.snoc {fns : List (Str × List Bool)} {tab : List FSem} {k : Nat} {y : Str} {io : List Bool} {sem : FSem} (a : AllF C P w mg base fns tab k) (F : FnM C P w mg base (k + 1) y io sem) : AllF C P w mg base (fns ++ [(y, io)]) (tab ++ [sem]) (k + 1) := by
  obtain ⟨l, a⟩ := a
  refine ⟨by rw [List.length_append, List.length_append, l]; rfl, fun j z ioz h => ?_⟩
  by_cases hj : j < fns.length
  · rw [List.getElem?_append_left hj] at h
    obtain ⟨r, h1, h2⟩ := a j z ioz h
    refine ⟨r, Nat.le_succ_of_le h1, ?_⟩
    rw [List.getD_eq_getElem?_getD, List.getElem?_append_left (by omega), ← List.getD_eq_getElem?_getD]
    exact h2
  · rw [List.getElem?_append_right (by omega)] at h
    have hj2 : j - fns.length = 0 := by
      cases hh : j - fns.length with
      | zero => rfl
      | succ m => rw [hh] at h; simp at h
    rw [hj2] at h
    cases h
    have e : j = tab.length := by omega
    refine ⟨k + 1, Nat.le_refl _, ?_⟩
    rw [e, List.getD_eq_getElem?_getD, List.getElem?_append_right (Nat.le_refl _), Nat.sub_self]
    exact F
theorem FnM.mk {k : Nat} {io : List Bool} {sem : FSem} {ps : List Str} (hx : mg x = some (.ref f)) (F : FunD C.K x qual params body scope [] kws f fd) (h : FnOk P w C.K mg base (L2.CX P w) k f fd ps (spD C io sem)) (b : Binds C.K fd ps []) : FnM C P w mg base k x io sem := ⟨f, fd, ps, hx, h, F.kp, b⟩
end
theorem no_kw {α : Type} {a : Option α} {p : α} (e : a = none) (h : a = some p) : False := by rw [e] at h; cases h
/-- the law's def lets nothing out -/
theorem to0 {P : Program} {w : World} {K : PySem.W.Frag} {mg : Str → Option Value} {base : Heap} {k : Nat} {f : Addr} {fd : FuncData} {ps : List Str} {sp : Sp} (F : FnOk P w K mg base (L2.CX P w) k f fd ps sp) : FnOk P w K mg base (fun _ _ _ _ _ _ => False) k f fd ps (fun vs H Q _ => sp vs H Q fun _ _ _ => False) := by
  refine ⟨fun vs H Q E h => F.len vs H Q _ h, fun A outer s H args us vs Q E hr he hb hv h => ?_⟩
  refine codeAny_mono (F.run A outer s H args us vs Q _ hr he hb hv h) fun r s' hq => ?_
  cases r with
  | ok fl => cases fl <;> exact hq
  | error e =>
    obtain ⟨_, _, _, _, _, _, _, _, _, _, _, _, z⟩ := hq
    exact z.elim
/-- the script -/
theorem sp_law {C : Cfg} {sem : FSem} {H : Hp} {a : Addr} {ns : List Int} (h : sem [.scr ns] = .ret (.bl true) []) (hS : SqS C.K H a (ns.map V.int)) : spD C [false] sem [.ref a] H (fun v _ => v = .bl true) fun _ _ _ => False := by
  refine ⟨[.scr ns], [], ⟨[], [], ⟨rfl, a, rfl, hS⟩, fun _ => rfl, rfl, rfl⟩, .nil, ?_⟩
  rw [h]
  exact fun v H' T U _ r _ _ _ => r.1
theorem sq_only {K : PySem.W.Frag} {H : Hp} {a : Addr} {xs : List V} (o : Only H) (h : SqL K H a xs) : SqS K H a xs := by
  rcases h with (h | h) | h
  · rcases o a with z | ⟨_, _, z⟩ <;> rw [h] at z <;> cases z
  · exact .inl h
  · exact .inr h
end Ly

namespace Ly
open PySem PySem.Spec L2
variable [Fns]
mutual
def wpE : E → Ev → (D → Ev → Prop) → Prop
  | .var i, ρ, Q => ∃ d, getV ρ i = some d ∧ Q d ρ
  | .mv i, ρ, Q => ∃ d, getV ρ i = some d ∧ Q (fzD d) (ρ.set i (some (fzD d)))
  | .mvo i, ρ, Q => ∃ d, getV ρ i = some d ∧ Q d (ρ.set i none)
  | .cst d, ρ, Q => Q d ρ
  | .glo k, ρ, Q => Q (Fns.G k) ρ
  | .ck e, ρ, Q => wpE e ρ fun d ρ => frzD d = true ∧ Q d ρ
  | .fz e, ρ, Q => wpE e ρ fun d ρ => Q (fzD d) ρ
  | .o2 op a b, ρ, Q => wpE a ρ fun x ρ => wpE b ρ fun y ρ => ∃ z, op.sem x y = some z ∧ Q z ρ
  | .o1 op a, ρ, Q => wpE a ρ fun x ρ => ∃ z, op.sem x = some z ∧ Q z ρ
  | .and a b, ρ, Q => wpE a ρ fun x ρ => ∃ t, truth x = some t ∧ (t = true → wpE b ρ Q) ∧ (t = false → Q x ρ)
  | .or a b, ρ, Q => wpE a ρ fun x ρ => ∃ t, truth x = some t ∧ (t = true → Q x ρ) ∧ (t = false → wpE b ρ Q)
  | .ite c a b, ρ, Q => wpE c ρ fun x ρ => ∃ t, truth x = some t ∧ (t = true → wpE a ρ Q) ∧ (t = false → wpE b ρ Q)
  | .tup es, ρ, Q => wpEs es ρ fun ds ρ => (ds.all frzD = true ∧ ds.length ≤ lim) ∧ Q (.tup ds) ρ
  | .lst es, ρ, Q => wpEs es ρ fun ds ρ => ds.length ≤ lim ∧ Q (.lst true ds) ρ
  | .slc a lo hi, ρ, Q => wpE a ρ fun x ρ => wpEs lo ρ fun l ρ => ∃ l', partS l = some l' ∧ wpEs hi ρ fun h ρ => ∃ h', partS h = some h' ∧ ∃ z, slcS x l' h' = some z ∧ Q z ρ
  | .call slots k es, ρ, Q => wpEs es ρ fun ds ρ => ∃ ds', fill slots ds ρ = some ds' ∧ ∃ d outs, Fns.F k ds' = .ret d outs ∧ ∃ ρ', wb slots outs ρ = some ρ' ∧ Q d ρ'
  | .pop i, ρ, Q => ∃ d ρ', onL popF i ρ = .ok d ρ' ∧ Q d ρ'
  | .popAt i a, ρ, Q => isL ρ i = true ∧ wpE a ρ fun x ρ => ∃ k d ρ', x = .int k ∧ onL (popAtF k) i ρ = .ok d ρ' ∧ Q d ρ'
  | .lc own tg it c elt, ρ, Q => wpIt it ρ fun items ρ1 => ∃ I : Nat → List D → Ev → Prop, I 0 [] (wipeE ρ1 own) ∧
      (∀ i d acc ρ, items[i]? = some d → I i acc ρ → ∃ ρ', bindT tg d ρ = some ρ' ∧ wpC c ρ' fun t ρ => (t = true → wpE elt ρ fun y ρ => I (i + 1) (acc ++ [y]) (wipeE ρ own)) ∧ (t = false → I (i + 1) acc (wipeE ρ own))) ∧
      ∀ acc ρ, I items.length acc ρ → acc.length ≤ lim ∧ Q (.lst true acc) ρ
  | .dnil, ρ, Q => Q (.dk true [] []) ρ
  | .me m a es, ρ, Q => wpE a ρ fun x ρ => m.recv x = true ∧ wpEs es ρ fun ds ρ => ∃ z, m.sem x ds = some z ∧ Q z ρ
  | .lrg es, ρ, Q => wpEs es ρ fun ds ρ => ∃ l, rngOf ds = some l ∧ l.length ≤ lim ∧ Q (.lst true l) ρ
  | .dc own tg it c k e, ρ, Q => wpIt it ρ fun items ρ1 => ∃ I : Nat → List Key × List D → Ev → Prop, I 0 ([], []) (wipeE ρ1 own) ∧
      (∀ i d acc ρ, items[i]? = some d → I i acc ρ → ∃ ρ', bindT tg d ρ = some ρ' ∧ wpC c ρ' fun t ρ => (t = true → wpE k ρ fun x ρ => wpE e ρ fun y ρ => ∃ j, keyD x = some j ∧ frzD y = true ∧ I (i + 1) (put j y acc.1 acc.2) (wipeE ρ own)) ∧ (t = false → I (i + 1) acc (wipeE ρ own))) ∧
      ∀ acc ρ, I items.length acc ρ → acc.1.length < lim ∧ Q (.dk true acc.1 acc.2) ρ
def wpEs : Es → Ev → (List D → Ev → Prop) → Prop
  | .nil, ρ, Q => Q [] ρ
  | .cons e es, ρ, Q => wpE e ρ fun d ρ => wpEs es ρ fun ds ρ => Q (d :: ds) ρ
  | .io i es, ρ, Q => ∃ d, getV ρ i = some d ∧ wpEs es ρ fun ds ρ => Q (.non :: ds) ρ
def wpC : Es → Ev → (Bool → Ev → Prop) → Prop
  | .nil, ρ, Q => Q true ρ
  | .cons e _, ρ, Q => wpE e ρ fun d ρ => ∃ t, truth d = some t ∧ Q t ρ
  | .io _ _, _, _ => False
def wpIt : It → Ev → (List D → Ev → Prop) → Prop
  | .seq e, ρ, Q => wpE e ρ fun d ρ => ∃ l, seqOf d = some l ∧ Q l ρ
  | .rng es, ρ, Q => wpEs es ρ fun ds ρ => ∃ l, rngOf ds = some l ∧ Q l ρ
  | .enum e, ρ, Q => wpE e ρ fun d ρ => ∃ l, seqOf d = some l ∧ Q (enumD 0 l) ρ
  | .zip a b, ρ, Q => wpE a ρ fun x ρ => wpE b ρ fun y ρ => ∃ l m, seqOf x = some l ∧ seqOf y = some m ∧ Q (zipD l m) ρ
end
theorem lc_wp {f : D → Ev → Out (List D)} {I : Nat → List D → Ev → Prop} {items : List D} : ∀ (n i : Nat) (acc : List D) (ρ : Ev), n + i = items.length → I i acc ρ → (∀ i d acc ρ, items[i]? = some d → I i acc ρ → ∃ x ρ', f d ρ = .ok x ρ' ∧ I (i + 1) (acc ++ x) ρ') →
    ∃ ys ρ', lcLoop f (items.drop i) ρ = .ok ys ρ' ∧ I items.length (acc ++ ys) ρ'
  | 0, i, acc, ρ, hn, h, hs => by
    have : i = items.length := by omega
    subst this
    rw [List.drop_length]
    exact ⟨[], ρ, rfl, by rw [List.append_nil]; exact h⟩
  | n + 1, i, acc, ρ, hn, h, hs => by
    have hi : i < items.length := by omega
    obtain ⟨x, ρ1, h1, h2⟩ := hs i items[i] acc ρ (by simp [hi]) h
    obtain ⟨ys, ρ2, h3, h4⟩ := lc_wp n (i + 1) (acc ++ x) ρ1 (by omega) h2 hs
    rw [List.drop_eq_getElem_cons hi]
    refine ⟨x ++ ys, ρ2, ?_, by rw [← List.append_assoc]; exact h4⟩
    show ((f items[i] ρ).bind fun x ρ1 => (lcLoop f (items.drop (i + 1)) ρ1).bind fun r ρ2 => .ok (x ++ r) ρ2) = _
    rw [h1]
    show ((lcLoop f (items.drop (i + 1)) ρ1).bind fun r ρ2 => .ok (x ++ r) ρ2) = _
    rw [h3]
    rfl
theorem dc_wp {f : D → Ev → Out (Option (Key × D))} {I : Nat → List Key × List D → Ev → Prop} {items : List D} : ∀ (n i : Nat) (acc : List Key × List D) (ρ : Ev), n + i = items.length → I i acc ρ → (∀ i d acc ρ, items[i]? = some d → I i acc ρ → ∃ x ρ', f d ρ = .ok x ρ' ∧ I (i + 1) (match x with | some (k, v) => put k v acc.1 acc.2 | none => acc) ρ') →
    ∃ r ρ', dcLoop f (items.drop i) acc ρ = .ok r ρ' ∧ I items.length r ρ'
  | 0, i, acc, ρ, hn, h, hs => by
    have : i = items.length := by omega
    subst this
    rw [List.drop_length]
    exact ⟨acc, ρ, rfl, h⟩
  | n + 1, i, acc, ρ, hn, h, hs => by
    have hi : i < items.length := by omega
    obtain ⟨x, ρ1, h1, h2⟩ := hs i items[i] acc ρ (by simp [hi]) h
    obtain ⟨r, ρ2, h3, h4⟩ := dc_wp n (i + 1) _ ρ1 (by omega) h2 hs
    rw [List.drop_eq_getElem_cons hi]
    refine ⟨r, ρ2, ?_, h4⟩
    show ((f items[i] ρ).bind fun x ρ1 => dcLoop f (items.drop (i + 1)) (match x with | some (k, v) => put k v acc.1 acc.2 | none => acc) ρ1) = _
    rw [h1]
    exact h3
mutual
theorem wpE_ok : ∀ (e : E) {ρ : Ev} {Q : D → Ev → Prop}, wpE e ρ Q → ∃ d ρ', ev e ρ = .ok d ρ' ∧ Q d ρ'
  | .var i, ρ, Q, h => by
    obtain ⟨d, h1, h2⟩ := h
    exact ⟨d, ρ, by show liftO (getV ρ i) ρ = _; rw [h1]; rfl, h2⟩
  | .mv i, ρ, Q, h => by
    obtain ⟨d, h1, h2⟩ := h
    exact ⟨_, _, by show (match getV ρ i with | some d => Out.ok (fzD d) (ρ.set i (some (fzD d))) | none => .bad) = _; rw [h1], h2⟩
  | .mvo i, ρ, Q, h => by
    obtain ⟨d, h1, h2⟩ := h
    exact ⟨_, _, by show (match getV ρ i with | some d => Out.ok d (ρ.set i none) | none => .bad) = _; rw [h1], h2⟩
  | .cst d, ρ, Q, h => ⟨d, ρ, rfl, h⟩
  | .glo k, ρ, Q, h => ⟨_, ρ, rfl, h⟩
  | .ck e, ρ, Q, h => by
    obtain ⟨d, ρ1, h1, h2, h3⟩ := wpE_ok e (show wpE e ρ _ from h)
    exact ⟨d, ρ1, by show (ev e ρ).bind _ = _; rw [h1]; show (if frzD d = true then Out.ok d ρ1 else .bad) = _; rw [if_pos h2], h3⟩
  | .fz e, ρ, Q, h => by
    obtain ⟨d, ρ1, h1, h2⟩ := wpE_ok e (show wpE e ρ _ from h)
    exact ⟨_, ρ1, by show (ev e ρ).bind _ = _; rw [h1]; rfl, h2⟩
  | .o2 op a b, ρ, Q, h => by
    obtain ⟨x, ρ1, h1, h⟩ := wpE_ok a (show wpE a ρ _ from h)
    obtain ⟨y, ρ2, h2, z, h3, h⟩ := wpE_ok b h
    exact ⟨z, ρ2, by show (ev a ρ).bind _ = _; rw [h1]; show (ev b ρ1).bind _ = _; rw [h2]; show liftO (op.sem x y) ρ2 = _; rw [h3]; rfl, h⟩
  | .o1 op a, ρ, Q, h => by
    obtain ⟨x, ρ1, h1, z, h3, h⟩ := wpE_ok a (show wpE a ρ _ from h)
    exact ⟨z, ρ1, by show (ev a ρ).bind _ = _; rw [h1]; show liftO (op.sem x) ρ1 = _; rw [h3]; rfl, h⟩
  | .and a b, ρ, Q, h => by
    obtain ⟨x, ρ1, h1, t, ht, ha, hb⟩ := wpE_ok a (show wpE a ρ _ from h)
    cases t with
    | true =>
      obtain ⟨y, ρ2, h2, h⟩ := wpE_ok b (ha rfl)
      exact ⟨y, ρ2, by show (ev a ρ).bind _ = _; rw [h1]; show (match truth x with | some true => ev b ρ1 | some false => Out.ok x ρ1 | none => .bad) = _; rw [ht]; exact h2, h⟩
    | false => exact ⟨x, ρ1, by show (ev a ρ).bind _ = _; rw [h1]; show (match truth x with | some true => ev b ρ1 | some false => Out.ok x ρ1 | none => .bad) = _; rw [ht], hb rfl⟩
  | .or a b, ρ, Q, h => by
    obtain ⟨x, ρ1, h1, t, ht, ha, hb⟩ := wpE_ok a (show wpE a ρ _ from h)
    cases t with
    | false =>
      obtain ⟨y, ρ2, h2, h⟩ := wpE_ok b (hb rfl)
      exact ⟨y, ρ2, by show (ev a ρ).bind _ = _; rw [h1]; show (match truth x with | some true => Out.ok x ρ1 | some false => ev b ρ1 | none => .bad) = _; rw [ht]; exact h2, h⟩
    | true => exact ⟨x, ρ1, by show (ev a ρ).bind _ = _; rw [h1]; show (match truth x with | some true => Out.ok x ρ1 | some false => ev b ρ1 | none => .bad) = _; rw [ht], ha rfl⟩
  | .ite c a b, ρ, Q, h => by
    obtain ⟨x, ρ1, h1, t, ht, ha, hb⟩ := wpE_ok c (show wpE c ρ _ from h)
    cases t with
    | true =>
      obtain ⟨y, ρ2, h2, h⟩ := wpE_ok a (ha rfl)
      exact ⟨y, ρ2, by show (ev c ρ).bind _ = _; rw [h1]; show (match truth x with | some true => ev a ρ1 | some false => ev b ρ1 | none => .bad) = _; rw [ht]; exact h2, h⟩
    | false =>
      obtain ⟨y, ρ2, h2, h⟩ := wpE_ok b (hb rfl)
      exact ⟨y, ρ2, by show (ev c ρ).bind _ = _; rw [h1]; show (match truth x with | some true => ev a ρ1 | some false => ev b ρ1 | none => .bad) = _; rw [ht]; exact h2, h⟩
  | .tup es, ρ, Q, h => by
    obtain ⟨ds, ρ1, h1, h2, h3⟩ := wpEs_ok es (show wpEs es ρ _ from h)
    exact ⟨_, ρ1, by show (evs es ρ).bind _ = _; rw [h1]; show (if ds.all frzD = true ∧ ds.length ≤ lim then Out.ok (D.tup ds) ρ1 else .bad) = _; rw [if_pos h2], h3⟩
  | .lst es, ρ, Q, h => by
    obtain ⟨ds, ρ1, h1, h2, h3⟩ := wpEs_ok es (show wpEs es ρ _ from h)
    exact ⟨_, ρ1, by show (evs es ρ).bind _ = _; rw [h1]; show (if ds.length ≤ lim then Out.ok (D.lst true ds) ρ1 else .bad) = _; rw [if_pos h2], h3⟩
  | .slc a lo hi, ρ, Q, h => by
    obtain ⟨x, ρ1, h1, h⟩ := wpE_ok a (show wpE a ρ _ from h)
    obtain ⟨l, ρ2, h2, l', hl, h⟩ := wpEs_ok lo h
    obtain ⟨u, ρ3, h3, u', hu, z, hz, h⟩ := wpEs_ok hi h
    refine ⟨z, ρ3, ?_, h⟩
    show (ev a ρ).bind _ = _
    rw [h1]
    show (evs lo ρ1).bind _ = _
    rw [h2]
    show (match partS l with | some l' => (evs hi ρ2).bind fun h ρ => (match partS h with | some h' => liftO (slcS x l' h') ρ | none => .bad) | none => .bad) = _
    rw [hl]
    show (evs hi ρ2).bind _ = _
    rw [h3]
    show (match partS u with | some h' => liftO (slcS x l' h') ρ3 | none => .bad) = _
    rw [hu]
    show liftO (slcS x l' u') ρ3 = _
    rw [hz]
    rfl
  | .call slots k es, ρ, Q, h => by
    obtain ⟨ds, ρ1, h1, ds', h2, d, outs, h3, ρ', h4, h⟩ := wpEs_ok es (show wpEs es ρ _ from h)
    refine ⟨d, ρ', ?_, h⟩
    show (evs es ρ).bind _ = _
    rw [h1]
    show callOut slots (Fns.F k) ds ρ1 = _
    unfold callOut
    rw [h2]
    dsimp only
    rw [h3]
    dsimp only
    rw [h4]
  | .pop i, ρ, Q, h => h
  | .popAt i a, ρ, Q, h => by
    obtain ⟨hl, h⟩ := h
    obtain ⟨x, ρ1, h1, k, d, ρ', rfl, h2, h⟩ := wpE_ok a h
    refine ⟨d, ρ', ?_, h⟩
    show (if isL ρ i = true then (ev a ρ).bind _ else .bad) = _
    rw [if_pos hl, h1]
    exact h2
  | .lc own tg it c elt, ρ, Q, h => by
    obtain ⟨items, ρ1, h1, I, h0, hs, he⟩ := wpIt_ok it (show wpIt it ρ _ from h)
    obtain ⟨ys, ρ2, h2, h3⟩ := lc_wp (f := lcF own tg c elt) (I := I) (items := items) items.length 0 [] (wipeE ρ1 own) (by omega) h0 (fun i d acc ρ hd hI => by
        obtain ⟨ρ', hb, hc⟩ := hs i d acc ρ hd hI
        obtain ⟨t, ρ3, h4, ht, hf⟩ := wpC_ok c hc
        cases t with
        | true =>
          obtain ⟨y, ρ4, h5, h6⟩ := wpE_ok elt (ht rfl)
          exact ⟨[y], _, by unfold lcF; rw [hb]; show (evC c ρ').bind _ = _; rw [h4]; show (ev elt ρ3).bind _ = _; rw [h5]; rfl, h6⟩
        | false => exact ⟨[], _, by unfold lcF; rw [hb]; show (evC c ρ').bind _ = _; rw [h4]; rfl, by rw [List.append_nil]; exact hf rfl⟩)
    obtain ⟨h4, h5⟩ := he _ _ h3
    rw [List.drop_zero] at h2
    refine ⟨_, ρ2, ?_, h5⟩
    show (evIt it ρ).bind _ = _
    rw [h1]
    show (match lcLoop (lcF own tg c elt) items (wipeE ρ1 own) with | .ok ys ρ2 => if ys.length ≤ lim then Out.ok (D.lst true ys) ρ2 else .bad | .exc _ _ => .bad | .bad => .bad) = _
    rw [h2]
    rw [List.nil_append] at h4 ⊢
    show (if ys.length ≤ lim then Out.ok (D.lst true ys) ρ2 else .bad) = _
    rw [if_pos h4]
  | .dnil, ρ, Q, h => ⟨_, ρ, rfl, h⟩
  | .me m a es, ρ, Q, h => by
    obtain ⟨x, ρ1, h1, h2, h⟩ := wpE_ok a (show wpE a ρ _ from h)
    obtain ⟨ds, ρ2, h3, z, h4, h⟩ := wpEs_ok es h
    exact ⟨z, ρ2, by show (ev a ρ).bind _ = _; rw [h1]; show (if m.recv x = true then (evs es ρ1).bind fun ds ρ => liftO (m.sem x ds) ρ else .bad) = _; rw [if_pos h2, h3]; show liftO (m.sem x ds) ρ2 = _; rw [h4]; rfl, h⟩
  | .lrg es, ρ, Q, h => by
    obtain ⟨ds, ρ1, h1, l, h2, h3, h4⟩ := wpEs_ok es (show wpEs es ρ _ from h)
    exact ⟨_, ρ1, by show (evs es ρ).bind _ = _; rw [h1]; show liftO (lrgS ds) ρ1 = _; unfold lrgS; rw [h2]; show liftO (if l.length ≤ lim then some (D.lst true l) else none) ρ1 = _; rw [if_pos h3]; rfl, h4⟩
  | .dc own tg it c k e, ρ, Q, h => by
    obtain ⟨items, ρ1, h1, I, h0, hs, he⟩ := wpIt_ok it (show wpIt it ρ _ from h)
    obtain ⟨r, ρ2, h2, h3⟩ := dc_wp (f := dcF own tg c k e) (I := I) (items := items) items.length 0 ([], []) (wipeE ρ1 own) (by omega) h0 (fun i d acc ρ hd hI => by
        obtain ⟨ρ', hb, hc⟩ := hs i d acc ρ hd hI
        obtain ⟨t, ρ3, h4, ht, hf⟩ := wpC_ok c hc
        cases t with
        | true =>
          obtain ⟨x, ρ4, h5, h6⟩ := wpE_ok k (ht rfl)
          obtain ⟨y, ρ5, h7, j, hj, hz, h8⟩ := wpE_ok e h6
          refine ⟨some (j, y), _, ?_, h8⟩
          unfold dcF
          rw [hb]
          show (evC c ρ').bind _ = _
          rw [h4]
          show (ev k ρ3).bind _ = _
          rw [h5]
          show (ev e ρ4).bind _ = _
          rw [h7]
          show (match keyD x with | some j => if frzD y = true then Out.ok (some (j, y)) (wipeE ρ5 own) else .bad | none => .bad) = _
          rw [hj]
          show (if frzD y = true then Out.ok (some (j, y)) (wipeE ρ5 own) else .bad) = _
          rw [if_pos hz]
        | false => exact ⟨none, _, by unfold dcF; rw [hb]; show (evC c ρ').bind _ = _; rw [h4]; rfl, hf rfl⟩)
    obtain ⟨h4, h5⟩ := he _ _ h3
    rw [List.drop_zero] at h2
    refine ⟨_, ρ2, ?_, h5⟩
    show (evIt it ρ).bind _ = _
    rw [h1]
    show (match dcLoop (dcF own tg c k e) items ([], []) (wipeE ρ1 own) with | .ok ks ρ2 => if ks.1.length < lim then Out.ok (D.dk true ks.1 ks.2) ρ2 else .bad | .exc _ _ => .bad | .bad => .bad) = _
    rw [h2]
    show (if r.1.length < lim then Out.ok (D.dk true r.1 r.2) ρ2 else .bad) = _
    rw [if_pos h4]
theorem wpEs_ok : ∀ (es : Es) {ρ : Ev} {Q : List D → Ev → Prop}, wpEs es ρ Q → ∃ ds ρ', evs es ρ = .ok ds ρ' ∧ Q ds ρ'
  | .nil, ρ, Q, h => ⟨[], ρ, rfl, h⟩
  | .cons e es, ρ, Q, h => by
    obtain ⟨d, ρ1, h1, h⟩ := wpE_ok e (show wpE e ρ _ from h)
    obtain ⟨ds, ρ2, h2, h⟩ := wpEs_ok es h
    exact ⟨d :: ds, ρ2, by show (ev e ρ).bind _ = _; rw [h1]; show (evs es ρ1).bind _ = _; rw [h2]; rfl, h⟩
  | .io i es, ρ, Q, h => by
    obtain ⟨d, h0, h⟩ := h
    obtain ⟨ds, ρ2, h2, h⟩ := wpEs_ok es h
    exact ⟨.non :: ds, ρ2, by show (match getV ρ i with | some _ => (evs es ρ).bind fun ds ρ => Out.ok (D.non :: ds) ρ | none => .bad) = _; rw [h0]; show (evs es ρ).bind _ = _; rw [h2]; rfl, h⟩
theorem wpC_ok : ∀ (c : Es) {ρ : Ev} {Q : Bool → Ev → Prop}, wpC c ρ Q → ∃ t ρ', evC c ρ = .ok t ρ' ∧ Q t ρ'
  | .nil, ρ, Q, h => ⟨true, ρ, rfl, h⟩
  | .cons e _, ρ, Q, h => by
    obtain ⟨d, ρ1, h1, t, ht, h⟩ := wpE_ok e (show wpE e ρ _ from h)
    exact ⟨t, ρ1, by show (ev e ρ).bind _ = _; rw [h1]; show liftO (truth d) ρ1 = _; rw [ht]; rfl, h⟩
  | .io _ _, ρ, Q, h => h.elim
theorem wpIt_ok : ∀ (it : It) {ρ : Ev} {Q : List D → Ev → Prop}, wpIt it ρ Q → ∃ l ρ', evIt it ρ = .ok l ρ' ∧ Q l ρ'
  | .seq e, ρ, Q, h => by
    obtain ⟨d, ρ1, h1, l, hl, h⟩ := wpE_ok e (show wpE e ρ _ from h)
    exact ⟨l, ρ1, by show (ev e ρ).bind _ = _; rw [h1]; show liftO (seqOf d) ρ1 = _; rw [hl]; rfl, h⟩
  | .rng es, ρ, Q, h => by
    obtain ⟨ds, ρ1, h1, l, hl, h⟩ := wpEs_ok es (show wpEs es ρ _ from h)
    exact ⟨l, ρ1, by show (evs es ρ).bind _ = _; rw [h1]; show liftO (rngOf ds) ρ1 = _; rw [hl]; rfl, h⟩
  | .enum e, ρ, Q, h => by
    obtain ⟨d, ρ1, h1, l, hl, h⟩ := wpE_ok e (show wpE e ρ _ from h)
    exact ⟨_, ρ1, by show (ev e ρ).bind _ = _; rw [h1]; show liftO ((seqOf d).map (enumD 0)) ρ1 = _; rw [hl]; rfl, h⟩
  | .zip a b, ρ, Q, h => by
    obtain ⟨x, ρ1, h1, h⟩ := wpE_ok a (show wpE a ρ _ from h)
    obtain ⟨y, ρ2, h2, l, m, hl, hm, h⟩ := wpE_ok b h
    exact ⟨_, ρ2, by show (ev a ρ).bind _ = _; rw [h1]; show (ev b ρ1).bind _ = _; rw [h2]; show (match seqOf x, seqOf y with | some xs, some ys => Out.ok (zipD xs ys) ρ2 | _, _ => .bad) = _; rw [hl, hm], h⟩
end
mutual
def wpS : S → Ev → (Fl → Ev → Prop) → Prop
  | .pass, ρ, Q => Q .nx ρ
  | .expr e, ρ, Q => wpE e ρ fun _ ρ => Q .nx ρ
  | .asg i e, ρ, Q => wpE e ρ fun d ρ => Q .nx (ρ.set i (some d))
  | .asgT tg e, ρ, Q => wpE e ρ fun d ρ => ∃ ρ', bindT tg d ρ = some ρ' ∧ Q .nx ρ'
  | .asgP i j a b, ρ, Q => wpE a ρ fun x ρ => wpE b ρ fun y ρ => Q .nx ((ρ.set i (some x)).set j (some y))
  | .aug i op e, ρ, Q => ∃ m, getV ρ i = some (.int m) ∧ wpE e ρ fun y ρ => ∃ n z, y = .int n ∧ op.sem (.int m) (.int n) = some z ∧ Q .nx (ρ.set i (some z))
  | .setI i ix e, ρ, Q => wpE e ρ fun d ρ => ∃ x, getV ρ i = some x ∧ wpE ix ρ fun k ρ =>
      (∃ xs j n, x = .lst true xs ∧ k = .int j ∧ ixN xs.length j = some n ∧ Q .nx (ρ.set i (some (.lst true (xs.set n d))))) ∨
      ∃ ks vs j, x = .dk true ks vs ∧ keyD k = some j ∧ (frzD d = true ∧ ks.length < lim) ∧ Q .nx (ρ.set i (some (.dk true (put j d ks vs).1 (put j d ks vs).2)))
  | .app i e, ρ, Q => isL ρ i = true ∧ wpE e ρ fun d ρ => ∃ xs, getV ρ i = some (.lst true xs) ∧ xs.length < lim ∧ Q .nx (ρ.set i (some (.lst true (xs ++ [d]))))
  | .iff c a b, ρ, Q => wpE c ρ fun x ρ => ∃ t, truth x = some t ∧ (t = true → wpSs a ρ Q) ∧ (t = false → wpSs b ρ Q)
  | .whl c b, ρ, Q => ∃ I : Nat → Ev → Prop, (∃ n, n < FUEL ∧ I n ρ) ∧ ∀ n ρ, I n ρ → wpE c ρ fun x ρ => ∃ t, truth x = some t ∧ (t = true → wpSs b ρ fun f ρ => match f with
      | .nx => ∃ m, m < n ∧ I m ρ
      | .ct => ∃ m, m < n ∧ I m ρ
      | .bk => Q .nx ρ
      | .rt v => Q (.rt v) ρ) ∧ (t = false → Q .nx ρ)
  | .forr tg it b, ρ, Q => wpIt it ρ fun items ρ => ∃ I : Nat → Ev → Prop, I 0 ρ ∧ (∀ i d ρ, items[i]? = some d → I i ρ → ∃ ρ', bindT tg d ρ = some ρ' ∧ wpSs b ρ' fun f ρ => match f with
      | .nx => I (i + 1) ρ
      | .ct => I (i + 1) ρ
      | .bk => Q .nx ρ
      | .rt v => Q (.rt v) ρ) ∧ ∀ ρ, I items.length ρ → Q .nx ρ
  | .ret e, ρ, Q => wpE e ρ fun d ρ => Q (.rt d) ρ
  | .retN, ρ, Q => Q (.rt .non) ρ
  | .brk, ρ, Q => Q .bk ρ
  | .cnt, ρ, Q => Q .ct ρ
def wpSs : Ss → Ev → (Fl → Ev → Prop) → Prop
  | .nil, ρ, Q => Q .nx ρ
  | .cons s ss, ρ, Q => wpS s ρ fun f ρ => match f with
    | .nx => wpSs ss ρ Q
    | .bk => Q .bk ρ
    | .ct => Q .ct ρ
    | .rt v => Q (.rt v) ρ
end
theorem for_wp {tg : Tg} {body : Ev → Out Fl} {I : Nat → Ev → Prop} {items : List D} {Q : Fl → Ev → Prop} : ∀ (n i : Nat) (ρ : Ev), n + i = items.length → I i ρ → (∀ i d ρ, items[i]? = some d → I i ρ → ∃ ρ', bindT tg d ρ = some ρ' ∧ ∃ f ρ2, body ρ' = .ok f ρ2 ∧ match f with
      | .nx => I (i + 1) ρ2
      | .ct => I (i + 1) ρ2
      | .bk => Q .nx ρ2
      | .rt v => Q (.rt v) ρ2) → (∀ ρ, I items.length ρ → Q .nx ρ) → ∃ f ρ', forLoop tg body (items.drop i) ρ = .ok f ρ' ∧ Q f ρ'
  | 0, i, ρ, hn, h, hs, he => by
    have : i = items.length := by omega
    subst this
    rw [List.drop_length]
    exact ⟨.nx, ρ, rfl, he ρ h⟩
  | n + 1, i, ρ, hn, h, hs, he => by
    have hi : i < items.length := by omega
    obtain ⟨ρ1, h1, f, ρ2, h2, h3⟩ := hs i items[i] ρ (by simp [hi]) h
    rw [List.drop_eq_getElem_cons hi]
    unfold forLoop
    rw [h1]
    dsimp only
    rw [h2]
    cases f with
    | nx => exact for_wp n (i + 1) ρ2 (by omega) h3 hs he
    | ct => exact for_wp n (i + 1) ρ2 (by omega) h3 hs he
    | bk => exact ⟨_, _, rfl, h3⟩
    | rt v => exact ⟨_, _, rfl, h3⟩
theorem while_wp {c : Ev → Out D} {body : Ev → Out Fl} {I : Nat → Ev → Prop} {Q : Fl → Ev → Prop} (hs : ∀ n ρ, I n ρ → ∃ x ρ1, c ρ = .ok x ρ1 ∧ ∃ t, truth x = some t ∧ (t = true → ∃ f ρ2, body ρ1 = .ok f ρ2 ∧ match f with
      | .nx => ∃ m, m < n ∧ I m ρ2
      | .ct => ∃ m, m < n ∧ I m ρ2
      | .bk => Q .nx ρ2
      | .rt v => Q (.rt v) ρ2) ∧ (t = false → Q .nx ρ1)) : ∀ (k n : Nat) (ρ : Ev), n < k → I n ρ → ∃ f ρ', whLoop c body k ρ = .ok f ρ' ∧ Q f ρ'
  | 0, n, ρ, hk, _ => absurd hk (Nat.not_lt_zero _)
  | k + 1, n, ρ, hk, h => by
    obtain ⟨x, ρ1, h1, t, ht, ha, hb⟩ := hs n ρ h
    unfold whLoop
    rw [h1]
    dsimp only
    rw [ht]
    cases t with
    | false => exact ⟨_, _, rfl, hb rfl⟩
    | true =>
      dsimp only
      obtain ⟨f, ρ2, h2, h3⟩ := ha rfl
      rw [h2]
      cases f with
      | nx => obtain ⟨m, hm, h3⟩ := h3; exact while_wp hs k m ρ2 (by omega) h3
      | ct => obtain ⟨m, hm, h3⟩ := h3; exact while_wp hs k m ρ2 (by omega) h3
      | bk => exact ⟨_, _, rfl, h3⟩
      | rt v => exact ⟨_, _, rfl, h3⟩
mutual
theorem wpS_ok : ∀ (s : S) {ρ : Ev} {Q : Fl → Ev → Prop}, wpS s ρ Q → ∃ f ρ', ex s ρ = .ok f ρ' ∧ Q f ρ'
  | .pass, ρ, Q, h => ⟨_, _, rfl, h⟩
  | .expr e, ρ, Q, h => by
    obtain ⟨d, ρ1, h1, h⟩ := wpE_ok e (show wpE e ρ _ from h)
    exact ⟨_, _, by show (ev e ρ).bind _ = _; rw [h1]; rfl, h⟩
  | .asg i e, ρ, Q, h => by
    obtain ⟨d, ρ1, h1, h⟩ := wpE_ok e (show wpE e ρ _ from h)
    exact ⟨_, _, by show (ev e ρ).bind _ = _; rw [h1]; rfl, h⟩
  | .asgT tg e, ρ, Q, h => by
    obtain ⟨d, ρ1, h1, ρ', hb, h⟩ := wpE_ok e (show wpE e ρ _ from h)
    exact ⟨_, _, by show (ev e ρ).bind _ = _; rw [h1]; show (match bindT tg d ρ1 with | some ρ' => Out.ok Fl.nx ρ' | none => .bad) = _; rw [hb], h⟩
  | .asgP i j a b, ρ, Q, h => by
    obtain ⟨x, ρ1, h1, h⟩ := wpE_ok a (show wpE a ρ _ from h)
    obtain ⟨y, ρ2, h2, h⟩ := wpE_ok b h
    exact ⟨_, _, by show (ev a ρ).bind _ = _; rw [h1]; show (ev b ρ1).bind _ = _; rw [h2]; rfl, h⟩
  | .aug i op e, ρ, Q, h => by
    obtain ⟨m, hm, h⟩ := h
    obtain ⟨y, ρ1, h1, n, z, rfl, hz, h⟩ := wpE_ok e h
    refine ⟨_, _, ?_, h⟩
    unfold ex
    rw [hm]
    show (ev e ρ).bind _ = _
    rw [h1]
    show (match op.sem (.int m) (.int n) with | some z => Out.ok Fl.nx (ρ1.set i (some z)) | none => .bad) = _
    rw [hz]
  | .setI i ix e, ρ, Q, h => by
    obtain ⟨d, ρ1, h1, x, hx, h⟩ := wpE_ok e (show wpE e ρ _ from h)
    obtain ⟨k, ρ2, h2, h⟩ := wpE_ok ix h
    rcases h with ⟨xs, j, n, rfl, rfl, hn, h⟩ | ⟨ks, vs, j, rfl, hj, hc, h⟩
    · refine ⟨_, _, ?_, h⟩
      unfold ex
      rw [h1]
      show (match getV ρ1 i with | some x => _ | none => Out.bad) = _
      rw [hx]
      dsimp only
      rw [h2]
      show (match ixN xs.length j with | some n => Out.ok Fl.nx (ρ2.set i (some (.lst true (xs.set n d)))) | none => .bad) = _
      rw [hn]
    · refine ⟨_, _, ?_, h⟩
      unfold ex
      rw [h1]
      show (match getV ρ1 i with | some x => _ | none => Out.bad) = _
      rw [hx]
      dsimp only
      rw [h2]
      have e0 : ∀ k : D, keyD k = some j → (match D.dk true ks vs, k with
        | .lst true xs, .int j => (match ixN xs.length j with
          | some n => Out.ok Fl.nx (ρ2.set i (some (.lst true (xs.set n d))))
          | none => .bad)
        | .dk true ks vs, k => (match keyD k with
          | some j => if frzD d = true ∧ ks.length < lim then .ok .nx (ρ2.set i (some (.dk true (put j d ks vs).1 (put j d ks vs).2))) else .bad
          | none => .bad)
        | _, _ => .bad) = .ok .nx (ρ2.set i (some (.dk true (put j d ks vs).1 (put j d ks vs).2))) := fun k hk => by
          cases k <;> first
            | (cases hk; done)
            | (dsimp only; rw [hk]; dsimp only; rw [if_pos hc])
      exact e0 k hj
  | .app i e, ρ, Q, h => by
    obtain ⟨hl, h⟩ := h
    obtain ⟨d, ρ1, h1, xs, hx, hn, h⟩ := wpE_ok e h
    refine ⟨_, _, ?_, h⟩
    unfold ex
    rw [if_pos hl, h1]
    show (onL (appF d) i ρ1).bind _ = _
    unfold onL appF
    rw [hx]
    dsimp only
    rw [if_pos hn]
    rfl
  | .iff c a b, ρ, Q, h => by
    obtain ⟨x, ρ1, h1, t, ht, ha, hb⟩ := wpE_ok c (show wpE c ρ _ from h)
    cases t with
    | true =>
      obtain ⟨f, ρ2, h2, h⟩ := wpSs_ok a (ha rfl)
      exact ⟨_, _, by show (ev c ρ).bind _ = _; rw [h1]; show (match truth x with | some true => exs a ρ1 | some false => exs b ρ1 | none => .bad) = _; rw [ht]; exact h2, h⟩
    | false =>
      obtain ⟨f, ρ2, h2, h⟩ := wpSs_ok b (hb rfl)
      exact ⟨_, _, by show (ev c ρ).bind _ = _; rw [h1]; show (match truth x with | some true => exs a ρ1 | some false => exs b ρ1 | none => .bad) = _; rw [ht]; exact h2, h⟩
  | .whl c b, ρ, Q, h => by
    obtain ⟨I, ⟨n, hn, h0⟩, hs⟩ := h
    exact while_wp (c := ev c) (body := exs b) (I := I) (fun n ρ hI => by
      obtain ⟨x, ρ1, h1, t, ht, ha, hb⟩ := wpE_ok c (hs n ρ hI)
      exact ⟨x, ρ1, h1, t, ht, fun z => wpSs_ok b (ha z), hb⟩) FUEL n ρ hn h0
  | .forr tg it b, ρ, Q, h => by
    obtain ⟨items, ρ1, h1, I, h0, hs, he⟩ := wpIt_ok it (show wpIt it ρ _ from h)
    obtain ⟨f, ρ2, h2, h3⟩ := for_wp (tg := tg) (body := exs b) (I := I) (Q := Q) items.length 0 ρ1 (by omega) h0 (fun i d ρ hd hI => by
      obtain ⟨ρ', hb, hw⟩ := hs i d ρ hd hI
      exact ⟨ρ', hb, wpSs_ok b hw⟩) he
    rw [List.drop_zero] at h2
    exact ⟨_, _, by show (evIt it ρ).bind _ = _; rw [h1]; exact h2, h3⟩
  | .ret e, ρ, Q, h => by
    obtain ⟨d, ρ1, h1, h⟩ := wpE_ok e (show wpE e ρ _ from h)
    exact ⟨_, _, by show (ev e ρ).bind _ = _; rw [h1]; rfl, h⟩
  | .retN, ρ, Q, h => ⟨_, _, rfl, h⟩
  | .brk, ρ, Q, h => ⟨_, _, rfl, h⟩
  | .cnt, ρ, Q, h => ⟨_, _, rfl, h⟩
theorem wpSs_ok : ∀ (s : Ss) {ρ : Ev} {Q : Fl → Ev → Prop}, wpSs s ρ Q → ∃ f ρ', exs s ρ = .ok f ρ' ∧ Q f ρ'
  | .nil, ρ, Q, h => ⟨_, _, rfl, h⟩
  | .cons s ss, ρ, Q, h => by
    obtain ⟨f, ρ1, h1, h⟩ := wpS_ok s (show wpS s ρ _ from h)
    unfold exs
    rw [h1]
    cases f with
    | nx => exact wpSs_ok ss h
    | bk => exact ⟨_, _, rfl, h⟩
    | ct => exact ⟨_, _, rfl, h⟩
    | rt v => exact ⟨_, _, rfl, h⟩
end
/-- a def's result -/
def wpF (n : Nat) (io : List Bool) (b : Ss) (ds : List D) (Q : D → List D → Prop) : Prop :=
  wpSs b (ds.map some ++ List.replicate (n - ds.length) none) fun f ρ => match f with
    | .nx => ∃ l, outsOf (ixs io) ρ = some l ∧ Q .non l
    | .rt d => ∃ l, outsOf (ixs io) ρ = some l ∧ Q d l
    | _ => False
theorem wpF_ok {n : Nat} {io : List Bool} {b : Ss} {ds : List D} {Q : D → List D → Prop} (h : wpF n io b ds Q) : ∃ d l, runFn n io b ds = .ret d l ∧ Q d l := by
  obtain ⟨f, ρ, h1, h⟩ := wpSs_ok b h
  unfold runFn
  rw [h1]
  cases f with
  | nx =>
    obtain ⟨l, h2, h⟩ := h
    dsimp only
    rw [h2]
    exact ⟨_, _, rfl, h⟩
  | rt d =>
    obtain ⟨l, h2, h⟩ := h
    dsimp only
    rw [h2]
    exact ⟨_, _, rfl, h⟩
  | bk => exact h.elim
  | ct => exact h.elim
theorem wpF_eq {n : Nat} {io : List Bool} {b : Ss} {ds : List D} {d : D} {l : List D} (h : wpF n io b ds fun d' l' => d' = d ∧ l' = l) : runFn n io b ds = .ret d l := by
  obtain ⟨d', l', h1, rfl, rfl⟩ := wpF_ok h
  exact h1
end Ly

namespace Hd
open PySem PySem.Spec PyProof.Rows L2 Ly

def top (i : Nat) : Stmt := PySem.Challenge.pw_fringes_k34_struck_and_within.main.body.getD i (.Pass ⟨0, 0, 0, 0⟩)
/-- place_numbers(chart): 0 chart, 1 number, 2 place -/
def n0 : List PySem.Str := ["chart", "number", "place"]
def io0 : List Bool := [false]
def b0 : Ss := .cons (.ret (.fz (.dc [1, 2] (.tp (.cons (.nm 1) (.cons (.nm 2) .nil))) (.enum (.ck (.o2 .idx (.var 0) (.cst (.int 1))))) .nil (.ck (.o2 .idx (.var 2) (.cst (.int 0)))) (.ck (.var 1))))) .nil
/-- tie_ends(chart): 0 chart, 1 numbers, 2 tie -/
def n1 : List PySem.Str := ["chart", "numbers", "tie"]
def io1 : List Bool := [false]
def b1 : Ss := .cons (.asg 1 (.call [none] 0 (.cons (.ck (.var 0)) .nil))) (.cons (.ret (.fz (.lc [2] (.nm 2) (.seq (.o2 .idx (.var 0) (.cst (.int 2)))) .nil (.tup (.cons (.ck (.o2 .idx (.var 1) (.o2 .idx (.var 2) (.cst (.int 1))))) (.cons (.ck (.o2 .idx (.var 1) (.o2 .idx (.var 2) (.cst (.int 2))))) .nil)))))) .nil)
/-- differences_of(chart, land): 0 chart, 1 land, 2 one, 3 other -/
def n2 : List PySem.Str := ["chart", "land", "one", "other"]
def io2 : List Bool := [false, false]
def b2 : Ss := .cons (.ret (.fz (.lc [2, 3] (.tp (.cons (.nm 2) (.cons (.nm 3) .nil))) (.seq (.call [none] 1 (.cons (.ck (.var 0)) .nil))) .nil (.o2 .sub (.o2 .idx (.var 1) (.var 3)) (.o2 .idx (.var 1) (.var 2)))))) .nil
/-- keeps(tie, difference): 0 tie, 1 difference, 2 low, 3 high -/
def n3 : List PySem.Str := ["tie", "difference", "low", "high"]
def io3 : List Bool := [false, false]
def b3 : Ss := .cons (.asgP 2 3 (.ck (.o2 .idx (.var 0) (.cst (.int 3)))) (.ck (.o2 .idx (.var 0) (.cst (.int 4))))) (.cons (.ret (.and (.or (.o2 .isN (.var 2) (.cst .non)) (.o2 .ge (.var 1) (.var 2))) (.or (.o2 .isN (.var 3) (.cst .non)) (.o2 .le (.var 1) (.var 3))))) .nil)
/-- unfit_ties(chart, land): 0 chart, 1 land, 2 told, 3 number, 4 tie -/
def n4 : List PySem.Str := ["chart", "land", "told", "number", "tie"]
def io4 : List Bool := [false, false]
def b4 : Ss := .cons (.asg 2 (.call [none, none] 2 (.cons (.ck (.var 0)) (.cons (.ck (.var 1)) .nil)))) (.cons (.ret (.o1 .tuple (.lc [3, 4] (.tp (.cons (.nm 3) (.cons (.nm 4) .nil))) (.enum (.ck (.o2 .idx (.var 0) (.cst (.int 2))))) (.cons (.o1 .notO (.call [none, none] 3 (.cons (.ck (.var 4)) (.cons (.ck (.o2 .idx (.var 2) (.var 3))) .nil)))) .nil) (.ck (.var 3))))) .nil)
/-- struck_tie(tie): 0 tie -/
def n5 : List PySem.Str := ["tie"]
def io5 : List Bool := [false]
def b5 : Ss := .cons (.ret (.tup (.cons (.ck (.o2 .idx (.var 0) (.cst (.int 0)))) (.cons (.ck (.o2 .idx (.var 0) (.cst (.int 1)))) (.cons (.ck (.o2 .idx (.var 0) (.cst (.int 2)))) (.cons (.cst .non) (.cons (.cst .non) (.cons (.ck (.o2 .idx (.var 0) (.cst (.int 5)))) .nil)))))))) .nil
/-- struck_chart(chart, ties): 0 chart, 1 ties, 2 let, 3 held, 4 tie, 5 number -/
def n6 : List PySem.Str := ["chart", "ties", "let", "held", "tie", "number"]
def io6 : List Bool := [false, false]
def b6 : Ss := .cons (.asg 2 (.fz (.dc [4] (.nm 4) (.seq (.var 1)) .nil (.ck (.var 4)) (.cst (.bl true))))) (.cons (.asg 3 (.lc [4, 5] (.tp (.cons (.nm 5) (.cons (.nm 4) .nil))) (.enum (.ck (.o2 .idx (.var 0) (.cst (.int 2))))) .nil (.ite (.o2 .isIn (.var 5) (.var 2)) (.call [none] 5 (.cons (.ck (.var 4)) .nil)) (.ck (.var 4))))) (.cons (.ret (.tup (.cons (.ck (.o2 .idx (.var 0) (.cst (.int 0)))) (.cons (.ck (.o2 .idx (.var 0) (.cst (.int 1)))) (.cons (.o1 .tuple (.var 3)) .nil))))) .nil))
/-- is_within(chart, land, many): 0 chart, 1 land, 2 many -/
def n7 : List PySem.Str := ["chart", "land", "many"]
def io7 : List Bool := [false, false, false]
def b7 : Ss := .cons (.ret (.o2 .le (.o1 .len (.call [none, none] 4 (.cons (.ck (.var 0)) (.cons (.ck (.var 1)) .nil)))) (.var 2))) .nil
/-- _law_pool(script): 0 script, 1 great, 2 mixed, 3 cell, 4 here -/
def n8 : List PySem.Str := ["script", "great", "mixed", "cell", "here"]
def io8 : List Bool := [false]
def b8 : Ss := .cons (.asg 1 (.cst (.int 0))) (.cons (.asg 2 (.o2 .add (.cst (.int 340211)) (.o1 .len (.var 0)))) (.cons (.forr (.nm 3) (.seq (.fz (.slc (.var 0) .nil (.cons (.cst (.int 63)) .nil)))) (.cons (.asg 4 (.o1 .int (.var 3))) (.cons (.iff (.o2 .lt (.var 4) (.cst (.int 0))) (.cons (.asg 4 (.o2 .sub (.cst (.int 1)) (.var 4))) .nil) .nil) (.cons (.iff (.and (.o2 .eq (.var 1) (.cst (.int 0))) (.o2 .ge (.var 4) (.o2 .pow (.cst (.int 10)) (.cst (.int 18))))) (.cons (.asg 1 (.o2 .mod (.var 4) (.o2 .mul (.o2 .mul (.o2 .mul (.o2 .pow (.cst (.int 10)) (.cst (.int 60))) (.o2 .pow (.cst (.int 10)) (.cst (.int 60)))) (.o2 .pow (.cst (.int 10)) (.cst (.int 60)))) (.o2 .pow (.cst (.int 10)) (.cst (.int 60)))))) .nil) .nil) (.cons (.asg 2 (.o2 .mod (.o1 .int (.o2 .add (.o2 .add (.o2 .mul (.var 2) (.cst (.int 69621))) (.o2 .mul (.o2 .mod (.var 4) (.cst (.int 999979))) (.cst (.int 13)))) (.cst (.int 11)))) (.cst (.int 2147483647)))) .nil))))) (.cons (.ret (.lst (.cons (.ck (.var 1)) (.cons (.ck (.var 2)) (.cons (.cst (.int 0)) .nil))))) .nil)))
/-- _law_draw(pool, many): 0 pool, 1 many, 2 pick -/
def n9 : List PySem.Str := ["pool", "many", "pick"]
def io9 : List Bool := [true, false]
def b9 : Ss := .cons (.iff (.o2 .gt (.o2 .idx (.var 0) (.cst (.int 0))) (.cst (.int 0))) (.cons (.asg 2 (.o2 .mod (.o1 .int (.o2 .idx (.var 0) (.cst (.int 0)))) (.var 1))) (.cons (.setI 0 (.cst (.int 0)) (.o2 .fdiv (.o2 .idx (.var 0) (.cst (.int 0))) (.var 1))) (.cons (.ret (.ck (.var 2))) .nil))) .nil) (.cons (.setI 0 (.cst (.int 2)) (.o2 .add (.o2 .idx (.var 0) (.cst (.int 2))) (.cst (.int 1)))) (.cons (.setI 0 (.cst (.int 1)) (.o2 .mod (.o1 .int (.o2 .add (.o2 .add (.o2 .mul (.o2 .idx (.var 0) (.cst (.int 1))) (.cst (.int 45991))) (.o2 .mul (.o2 .idx (.var 0) (.cst (.int 2))) (.cst (.int 3119)))) (.cst (.int 77)))) (.cst (.int 2147483563)))) (.cons (.ret (.o2 .mod (.o1 .int (.o2 .fdiv (.o2 .idx (.var 0) (.cst (.int 1))) (.cst (.int 47)))) (.var 1))) .nil)))
/-- _law_names(pool, many): 0 pool, 1 many, 2 letters, 3 style, 4 start, 5 tails, 6 k -/
def n10 : List PySem.Str := ["pool", "many", "letters", "style", "start", "tails", "k"]
def io10 : List Bool := [true, false]
def b10 : Ss := .cons (.asg 2 (.cst (.str "acdefghijkmnopqrstuvwxyz"))) (.cons (.asg 3 (.call [some 0, none] 9 (.io 0 (.cons (.cst (.int 3)) .nil)))) (.cons (.asg 4 (.call [some 0, none] 9 (.io 0 (.cons (.cst (.int 24)) .nil)))) (.cons (.iff (.and (.o2 .eq (.var 3) (.cst (.int 0))) (.o2 .lt (.var 1) (.cst (.int 25)))) (.cons (.ret (.fz (.o1 .srt (.lc [6] (.nm 6) (.rng (.cons (.ck (.var 1)) .nil)) .nil (.ck (.o2 .idx (.var 2) (.o2 .mod (.o1 .int (.o2 .add (.var 4) (.o2 .mul (.cst (.int 7)) (.var 6)))) (.cst (.int 24))))))))) .nil) .nil) (.cons (.iff (.and (.o2 .eq (.var 3) (.cst (.int 1))) (.o2 .lt (.var 1) (.cst (.int 8)))) (.cons (.ret (.fz (.o1 .srt (.lc [6] (.nm 6) (.rng (.cons (.ck (.var 1)) .nil)) .nil (.o2 .add (.o2 .idx (.var 2) (.var 4)) (.o2 .mul (.cst (.str "0")) (.var 6))))))) .nil) .nil) (.cons (.asg 5 (.fz (.lst (.cons (.cst (.str "")) (.cons (.cst (.str "")) (.cons (.cst (.str "z")) (.cons (.cst (.str "a9")) (.cons (.cst (.str "m0c0")) .nil)))))))) (.cons (.ret (.fz (.o1 .srt (.lc [6] (.nm 6) (.rng (.cons (.ck (.var 1)) .nil)) .nil (.o2 .add (.o2 .add (.o2 .idx (.ck (.var 2)) (.call [some 0, none] 9 (.io 0 (.cons (.cst (.int 24)) .nil)))) (.o1 .str (.var 6))) (.o2 .idx (.ck (.var 5)) (.call [some 0, none] 9 (.io 0 (.cons (.cst (.int 5)) .nil))))))))) .nil))))))
/-- _law_same(told, due): 0 told, 1 due, 2 left, 3 lap, 4 one, 5 other, 6 k -/
def n11 : List PySem.Str := ["told", "due", "left", "lap", "one", "other", "k"]
def io11 : List Bool := [false, false]
def b11 : Ss := .cons (.asg 2 (.lst (.cons (.tup (.cons (.ck (.var 0)) (.cons (.ck (.var 1)) .nil))) .nil))) (.cons (.forr (.nm 3) (.rng (.cons (.cst (.int 200000)) .nil)) (.cons (.iff (.o2 .eq (.o1 .len (.var 2)) (.cst (.int 0))) (.cons (.ret (.cst (.bl true))) .nil) .nil) (.cons (.asgT (.tp (.cons (.nm 4) (.cons (.nm 5) .nil))) (.pop 2)) (.cons (.iff (.o2 .isN (.var 5) (.cst .non)) (.cons (.iff (.o2 .notN (.var 4) (.cst .non)) (.cons (.ret (.cst (.bl false))) .nil) .nil) .nil) (.cons (.iff (.o1 (.isT .bool) (.var 5)) (.cons (.iff (.or (.o1 .notO (.o1 (.isT .bool) (.var 4))) (.o2 .ne (.var 4) (.var 5))) (.cons (.ret (.cst (.bl false))) .nil) .nil) .nil) (.cons (.iff (.o1 (.isT .int) (.var 5)) (.cons (.iff (.or (.o1 .notO (.o1 (.isT .int) (.var 4))) (.or (.o1 (.isT .bool) (.var 4)) (.o2 .ne (.var 4) (.var 5)))) (.cons (.ret (.cst (.bl false))) .nil) .nil) .nil) (.cons (.iff (.o1 (.isT .str) (.var 5)) (.cons (.iff (.or (.o1 .notO (.o1 (.isT .str) (.var 4))) (.o2 .ne (.var 4) (.var 5))) (.cons (.ret (.cst (.bl false))) .nil) .nil) .nil) (.cons (.iff (.and (.o1 (.isT .tuple) (.var 5)) (.and (.o1 (.isT .tuple) (.var 4)) (.o2 .eq (.o1 .len (.var 4)) (.o1 .len (.var 5))))) (.cons (.forr (.nm 6) (.rng (.cons (.o1 .len (.var 5)) .nil)) (.cons (.app 2 (.tup (.cons (.ck (.o2 .idx (.var 4) (.var 6))) (.cons (.ck (.o2 .idx (.var 5) (.var 6))) .nil)))) .nil)) .nil) (.cons (.ret (.cst (.bl false))) .nil)) .nil)) .nil)) .nil)) .nil)) .nil)))) (.cons (.ret (.cst (.bl false))) .nil))
/-- _law_pulls(pool): 0 pool, 1 pulls, 2 at, 3 k, 4 weights -/
def n12 : List PySem.Str := ["pool", "pulls", "at", "k", "weights"]
def io12 : List Bool := [true]
def b12 : Ss := .cons (.asg 1 (.lst .nil)) (.cons (.asg 2 (.o2 .sub (.call [some 0, none] 9 (.io 0 (.cons (.cst (.int 41)) .nil))) (.cst (.int 20)))) (.cons (.forr (.nm 3) (.rng (.cons (.o2 .max2 (.cst (.int 0)) (.o2 .sub (.call [some 0, none] 9 (.io 0 (.cons (.cst (.int 7)) .nil))) (.cst (.int 2)))) .nil)) (.cons (.asg 4 (.ck (.o2 .idx (.lst (.cons (.tup (.cons (.cst (.int 0)) (.cons (.cst (.int 1)) .nil))) (.cons (.tup (.cons (.cst (.int 1)) (.cons (.cst (.int 0)) .nil))) (.cons (.tup (.cons (.cst (.int 3)) (.cons (.cst (.int 3)) .nil))) (.cons (.tup (.cons (.cst (.int 1000000)) (.cons (.cst (.int 2)) .nil))) (.cons (.tup (.cons (.cst (.int 5)) (.cons (.cst (.int 999999)) .nil))) .nil)))))) (.call [some 0, none] 9 (.io 0 (.cons (.cst (.int 5)) .nil)))))) (.cons (.app 1 (.tup (.cons (.ck (.var 2)) (.cons (.ck (.o2 .idx (.var 4) (.cst (.int 0)))) (.cons (.ck (.o2 .idx (.var 4) (.cst (.int 1)))) .nil))))) (.cons (.asg 2 (.o2 .add (.o2 .add (.var 2) (.cst (.int 1))) (.call [some 0, none] 9 (.io 0 (.cons (.cst (.int 9)) .nil))))) .nil)))) (.cons (.ret (.o1 .tuple (.var 1))) .nil)))
/-- _law_bounds(pool, here, kind, broken): 0 pool, 1 here, 2 kind, 3 broken, 4 by, 5 low, 6 high, 7 value -/
def n13 : List PySem.Str := ["pool", "here", "kind", "broken", "by", "low", "high", "value"]
def io13 : List Bool := [true, false, false, false]
def b13 : Ss := .cons (.asg 4 (.ck (.o2 .idx (.lst (.cons (.cst (.int 0)) (.cons (.cst (.int 0)) (.cons (.cst (.int 1)) (.cons (.cst (.int 7)) (.cons (.cst (.int 250000000)) .nil)))))) (.call [some 0, none] 9 (.io 0 (.cons (.cst (.int 5)) .nil)))))) (.cons (.iff (.o2 .eq (.var 2) (.cst (.int 0))) (.cons (.ret (.tup (.cons (.cst .non) (.cons (.cst .non) .nil)))) .nil) .nil) (.cons (.iff (.o2 .eq (.var 2) (.cst (.int 4))) (.cons (.asg 7 (.o2 .add (.ck (.var 1)) (.o2 .mul (.o1 .int (.var 3)) (.o2 .idx (.lst (.cons (.cst (.int 1)) (.cons (.o1 .neg (.cst (.int 1))) (.cons (.o2 .add (.cst (.int 1)) (.var 4)) (.cons (.o2 .sub (.o1 .neg (.cst (.int 1))) (.var 4)) .nil))))) (.call [some 0, none] 9 (.io 0 (.cons (.cst (.int 4)) .nil))))))) (.cons (.ret (.tup (.cons (.ck (.var 7)) (.cons (.ck (.var 7)) .nil)))) .nil)) .nil) (.cons (.asg 5 (.o2 .sub (.var 1) (.var 4))) (.cons (.asg 6 (.o2 .add (.ck (.var 1)) (.o2 .idx (.lst (.cons (.cst (.int 0)) (.cons (.cst (.int 0)) (.cons (.cst (.int 1)) (.cons (.cst (.int 5)) (.cons (.cst (.int 300000000)) .nil)))))) (.call [some 0, none] 9 (.io 0 (.cons (.cst (.int 5)) .nil)))))) (.cons (.iff (.and (.var 3) (.or (.o2 .eq (.var 2) (.cst (.int 1))) (.and (.o2 .eq (.var 2) (.cst (.int 3))) (.o2 .eq (.o2 .mod (.var 4) (.cst (.int 2))) (.cst (.int 0)))))) (.cons (.asg 5 (.o2 .add (.o2 .add (.var 1) (.cst (.int 1))) (.var 4))) (.cons (.asg 6 (.o2 .add (.var 5) (.var 4))) .nil)) (.cons (.iff (.var 3) (.cons (.asg 6 (.o2 .sub (.o2 .sub (.var 1) (.cst (.int 1))) (.var 4))) (.cons (.asg 5 (.o2 .sub (.var 6) (.var 4))) .nil)) .nil) .nil)) (.cons (.iff (.o2 .eq (.var 2) (.cst (.int 1))) (.cons (.ret (.tup (.cons (.ck (.var 5)) (.cons (.cst .non) .nil)))) .nil) .nil) (.cons (.iff (.o2 .eq (.var 2) (.cst (.int 2))) (.cons (.ret (.tup (.cons (.cst .non) (.cons (.ck (.var 6)) .nil)))) .nil) .nil) (.cons (.ret (.tup (.cons (.ck (.var 5)) (.cons (.ck (.var 6)) .nil)))) .nil))))))))
/-- _law_lands(pool, modulus, many): 0 pool, 1 modulus, 2 many, 3 readings, 4 style, 5 heights, 6 k, 7 far, 8 turns -/
def n14 : List PySem.Str := ["pool", "modulus", "many", "readings", "style", "heights", "k", "far", "turns"]
def io14 : List Bool := [true, false, false]
def b14 : Ss := .cons (.asg 3 (.lc [6] (.nm 6) (.rng (.cons (.ck (.var 2)) .nil)) .nil (.call [some 0, none] 9 (.io 0 (.cons (.ck (.var 1)) .nil))))) (.cons (.asg 4 (.call [some 0, none] 9 (.io 0 (.cons (.cst (.int 4)) .nil)))) (.cons (.asg 5 (.lst .nil)) (.cons (.forr (.nm 6) (.rng (.cons (.ck (.var 2)) .nil)) (.cons (.asg 7 (.o2 .mul (.o2 .fdiv (.cst (.int 200000000)) (.var 1)) (.o2 .sub (.call [some 0, none] 9 (.io 0 (.cons (.cst (.int 3)) .nil))) (.cst (.int 1))))) (.cons (.asg 8 (.ck (.o2 .idx (.lst (.cons (.cst (.int 0)) (.cons (.o2 .sub (.call [some 0, none] 9 (.io 0 (.cons (.cst (.int 7)) .nil))) (.cst (.int 3))) (.cons (.o2 .sub (.cst (.int 5)) (.call [some 0, none] 9 (.io 0 (.cons (.cst (.int 11)) .nil)))) (.cons (.ck (.var 7)) .nil))))) (.var 4)))) (.cons (.app 5 (.o2 .add (.o2 .idx (.var 3) (.var 6)) (.o2 .mul (.var 1) (.var 8)))) .nil)))) (.cons (.ret (.tup (.cons (.mv 3) (.cons (.mv 5) .nil)))) .nil))))
/-- _law_scene(pool, wide): 0 pool, 1 wide, 2 modulus, 3 names, 4 ties, 5 broken, 6 fewest, 7 left, 8 sure, 9 often, 10 labels, 11 k, 12 places, 13 readings, 14 heights, 15 u, 16 v, 17 here, 18 kind, 19 bad, 20 bounds -/
def n15 : List PySem.Str := ["pool", "wide", "modulus", "names", "ties", "broken", "fewest", "left", "sure", "often", "labels", "k", "places", "readings", "heights", "u", "v", "here", "kind", "bad", "bounds"]
def io15 : List Bool := [true, false]
def b15 : Ss := .cons (.asg 2 (.ck (.o2 .idx (.lst (.cons (.cst (.int 1)) (.cons (.cst (.int 2)) (.cons (.cst (.int 3)) (.cons (.cst (.int 4)) (.cons (.cst (.int 10)) (.cons (.cst (.int 360)) (.cons (.cst (.int 10000)) (.cons (.o2 .add (.cst (.int 1)) (.call [some 0, none] 9 (.io 0 (.cons (.cst (.int 9999)) .nil)))) .nil))))))))) (.call [some 0, none] 9 (.io 0 (.cons (.cst (.int 8)) .nil)))))) (.cons (.asg 3 (.call [some 0, none] 10 (.io 0 (.cons (.ite (.var 1) (.cst (.int 40)) (.o2 .add (.cst (.int 2)) (.call [some 0, none] 9 (.io 0 (.cons (.cst (.int 7)) .nil))))) .nil)))) (.cons (.asgT (.tp (.cons (.nm 13) (.cons (.nm 14) .nil))) (.call [some 0, none, none] 14 (.io 0 (.cons (.ck (.var 2)) (.cons (.o1 .len (.var 3)) .nil))))) (.cons (.asg 4 (.lst .nil)) (.cons (.asg 5 (.lst .nil)) (.cons (.asg 6 (.ite (.var 1) (.cst (.int 80)) (.o2 .add (.cst (.int 1)) (.call [some 0, none] 9 (.io 0 (.cons (.cst (.int 12)) .nil)))))) (.cons (.asg 7 (.cst (.int 19))) (.cons (.asg 8 (.call [some 0, none] 9 (.io 0 (.cons (.ck (.var 6)) .nil)))) (.cons (.asg 9 (.o2 .add (.cst (.int 1)) (.call [some 0, none] 9 (.io 0 (.cons (.cst (.int 6)) .nil))))) (.cons (.asg 10 (.call [some 0, none] 10 (.io 0 (.cons (.ck (.var 6)) .nil)))) (.cons (.forr (.nm 11) (.rng (.cons (.ck (.var 6)) .nil)) (.cons (.asg 15 (.call [some 0, none] 9 (.io 0 (.cons (.o2 .sub (.o1 .len (.var 3)) (.cst (.int 1))) .nil)))) (.cons (.asg 16 (.o2 .add (.o2 .add (.var 15) (.cst (.int 1))) (.call [some 0, none] 9 (.io 0 (.cons (.o2 .sub (.o2 .sub (.o1 .len (.var 3)) (.cst (.int 1))) (.var 15)) .nil))))) (.cons (.asg 17 (.o2 .sub (.o2 .idx (.var 14) (.var 16)) (.o2 .idx (.var 14) (.var 15)))) (.cons (.asg 18 (.call [some 0, none] 9 (.io 0 (.cons (.cst (.int 5)) .nil)))) (.cons (.asg 19 (.or (.o2 .eq (.var 11) (.var 8)) (.o2 .eq (.call [some 0, none] 9 (.io 0 (.cons (.ck (.var 9)) .nil))) (.cst (.int 0))))) (.cons (.iff (.o2 .eq (.var 11) (.var 8)) (.cons (.asg 18 (.o2 .add (.cst (.int 1)) (.call [some 0, none] 9 (.io 0 (.cons (.cst (.int 4)) .nil))))) .nil) (.cons (.iff (.or (.o2 .eq (.var 7) (.cst (.int 0))) (.and (.var 1) (.o2 .gt (.call [some 0, none] 9 (.io 0 (.cons (.cst (.int 4)) .nil))) (.cst (.int 0))))) (.cons (.asg 18 (.cst (.int 0))) .nil) .nil) .nil)) (.cons (.iff (.and (.o2 .gt (.var 18) (.cst (.int 0))) (.o2 .ne (.var 11) (.var 8))) (.cons (.asg 7 (.o2 .sub (.var 7) (.cst (.int 1)))) .nil) .nil) (.cons (.iff (.and (.var 19) (.o2 .gt (.var 18) (.cst (.int 0)))) (.cons (.app 5 (.ck (.var 11))) .nil) .nil) (.cons (.asg 20 (.call [some 0, none, none, none] 13 (.io 0 (.cons (.ck (.var 17)) (.cons (.ck (.var 18)) (.cons (.ck (.var 19)) .nil)))))) (.cons (.app 4 (.tup (.cons (.ck (.o2 .idx (.var 10) (.var 11))) (.cons (.ck (.o2 .idx (.var 3) (.var 15))) (.cons (.ck (.o2 .idx (.var 3) (.var 16))) (.cons (.ck (.o2 .idx (.var 20) (.cst (.int 0)))) (.cons (.ck (.o2 .idx (.var 20) (.cst (.int 1)))) (.cons (.call [some 0] 12 (.io 0 .nil)) .nil)))))))) .nil))))))))))) (.cons (.asg 12 (.o1 .tuple (.lc [11] (.nm 11) (.rng (.cons (.o1 .len (.var 3)) .nil)) .nil (.tup (.cons (.ck (.o2 .idx (.var 3) (.var 11))) (.cons (.ck (.o2 .idx (.var 13) (.var 11))) .nil)))))) (.cons (.ret (.tup (.cons (.tup (.cons (.ck (.var 2)) (.cons (.ck (.var 12)) (.cons (.o1 .tuple (.var 4)) .nil)))) (.cons (.o1 .tuple (.var 14)) (.cons (.mv 5) .nil))))) .nil))))))))))))
/-- _law_struck(chart, numbers): 0 chart, 1 numbers, 2 ties, 3 k, 4 tie -/
def n16 : List PySem.Str := ["chart", "numbers", "ties", "k", "tie"]
def io16 : List Bool := [false, false]
def b16 : Ss := .cons (.asg 2 (.lst .nil)) (.cons (.forr (.nm 3) (.rng (.cons (.o1 .len (.o2 .idx (.var 0) (.cst (.int 2)))) .nil)) (.cons (.asg 4 (.ck (.o2 .idx (.o2 .idx (.var 0) (.cst (.int 2))) (.var 3)))) (.cons (.iff (.o2 .isIn (.var 3) (.var 1)) (.cons (.asg 4 (.fz (.o2 .add (.o2 .add (.slc (.var 4) .nil (.cons (.cst (.int 3)) .nil)) (.tup (.cons (.cst .non) (.cons (.cst .non) .nil)))) (.slc (.var 4) (.cons (.cst (.int 5)) .nil) .nil)))) .nil) .nil) (.cons (.app 2 (.ck (.var 4))) .nil)))) (.cons (.ret (.tup (.cons (.ck (.o2 .idx (.var 0) (.cst (.int 0)))) (.cons (.ck (.o2 .idx (.var 0) (.cst (.int 1)))) (.cons (.o1 .tuple (.var 2)) .nil))))) .nil))
/-- _law_broken(chart, land): 0 chart, 1 land, 2 names, 3 found, 4 k, 5 tie, 6 here, 7 place -/
def n17 : List PySem.Str := ["chart", "land", "names", "found", "k", "tie", "here", "place"]
def io17 : List Bool := [false, false]
def b17 : Ss := .cons (.asg 2 (.lc [7] (.nm 7) (.seq (.o2 .idx (.var 0) (.cst (.int 1)))) .nil (.ck (.o2 .idx (.var 7) (.cst (.int 0)))))) (.cons (.asg 3 (.lst .nil)) (.cons (.forr (.nm 4) (.rng (.cons (.o1 .len (.o2 .idx (.var 0) (.cst (.int 2)))) .nil)) (.cons (.asg 5 (.ck (.o2 .idx (.o2 .idx (.var 0) (.cst (.int 2))) (.var 4)))) (.cons (.asg 6 (.o2 .sub (.o2 .idx (.var 1) (.me .index (.var 2) (.cons (.ck (.o2 .idx (.var 5) (.cst (.int 2)))) .nil))) (.o2 .idx (.var 1) (.me .index (.var 2) (.cons (.ck (.o2 .idx (.var 5) (.cst (.int 1)))) .nil))))) (.cons (.iff (.or (.and (.o2 .notN (.o2 .idx (.var 5) (.cst (.int 3))) (.cst .non)) (.o2 .lt (.var 6) (.o2 .idx (.var 5) (.cst (.int 3))))) (.and (.o2 .notN (.o2 .idx (.var 5) (.cst (.int 4))) (.cst .non)) (.o2 .gt (.var 6) (.o2 .idx (.var 5) (.cst (.int 4)))))) (.cons (.app 3 (.ck (.var 4))) .nil) .nil) .nil)))) (.cons (.ret (.mv 3)) .nil)))
/-- _law_within(chart, land): 0 chart, 1 land, 2 many, 3 most, 4 told -/
def n18 : List PySem.Str := ["chart", "land", "many", "most", "told"]
def io18 : List Bool := [false, false]
def b18 : Ss := .cons (.asg 2 (.o1 .len (.call [none, none] 17 (.cons (.ck (.var 0)) (.cons (.ck (.var 1)) .nil))))) (.cons (.forr (.nm 3) (.rng (.cons (.cst (.int 3)) .nil)) (.cons (.asg 4 (.call [none, none, none] 7 (.cons (.ck (.var 0)) (.cons (.ck (.var 1)) (.cons (.ck (.var 3)) .nil))))) (.cons (.iff (.or (.o1 .notO (.o1 (.isT .bool) (.var 4))) (.o2 .ne (.var 4) (.o2 .le (.var 2) (.var 3)))) (.cons (.ret (.cst (.bl false))) .nil) .nil) .nil))) (.cons (.ret (.cst (.bl true))) .nil))
/-- _law_strikes(pool, chart, broken): 0 pool, 1 chart, 2 broken, 3 size, 4 often, 5 drawn, 6 numbers, 7 once, 8 k -/
def n19 : List PySem.Str := ["pool", "chart", "broken", "size", "often", "drawn", "numbers", "once", "k"]
def io19 : List Bool := [true, false, false]
def b19 : Ss := .cons (.asg 3 (.o1 .len (.o2 .idx (.var 1) (.cst (.int 2))))) (.cons (.asg 4 (.o2 .add (.cst (.int 1)) (.call [some 0, none] 9 (.io 0 (.cons (.cst (.int 4)) .nil))))) (.cons (.asg 5 (.lc [8] (.nm 8) (.rng (.cons (.ck (.var 3)) .nil)) (.cons (.o2 .eq (.call [some 0, none] 9 (.io 0 (.cons (.ck (.var 4)) .nil))) (.cst (.int 0))) .nil) (.ck (.var 8)))) (.cons (.forr (.nm 6) (.seq (.fz (.lst (.cons (.mv 5) (.cons (.fz (.lst .nil)) (.cons (.fz (.lrg (.cons (.ck (.var 3)) .nil))) (.cons (.ck (.var 2)) (.cons (.fz (.lst (.cons (.o2 .sub (.var 3) (.cst (.int 1))) .nil))) .nil)))))))) (.cons (.iff (.o1 .notO (.call [none, none] 11 (.cons (.call [none, none] 6 (.cons (.ck (.var 1)) (.cons (.o1 .tuple (.var 6)) .nil))) (.cons (.call [none, none] 16 (.cons (.ck (.var 1)) (.cons (.ck (.var 6)) .nil))) .nil)))) (.cons (.ret (.cst (.bl false))) .nil) .nil) .nil)) (.cons (.asg 7 (.call [none, none] 16 (.cons (.ck (.var 1)) (.cons (.mv 5) .nil)))) (.cons (.ret (.call [none, none] 11 (.cons (.call [none, none] 6 (.cons (.ck (.var 7)) (.cons (.o1 .tuple (.var 2)) .nil))) (.cons (.call [none, none] 16 (.cons (.ck (.var 7)) (.cons (.ck (.var 2)) .nil))) .nil)))) .nil)))))
/-- _law_exact(chart, land, broken): 0 chart, 1 land, 2 broken, 3 few, 4 left -/
def n20 : List PySem.Str := ["chart", "land", "broken", "few", "left"]
def io20 : List Bool := [false, false, false]
def b20 : Ss := .cons (.forr (.nm 3) (.rng (.cons (.o2 .min2 (.cst (.int 4)) (.o2 .add (.o1 .len (.var 2)) (.cst (.int 1)))) .nil)) (.cons (.asg 4 (.call [none, none] 16 (.cons (.ck (.var 0)) (.cons (.fz (.slc (.var 2) (.cons (.ck (.var 3)) .nil) .nil)) .nil)))) (.cons (.iff (.and (.o2 .lt (.var 3) (.cst (.int 3))) (.o2 .notN (.call [none, none, none] 7 (.cons (.ck (.var 4)) (.cons (.ck (.var 1)) (.cons (.ck (.var 3)) .nil)))) (.cst (.bl true)))) (.cons (.ret (.cst (.bl false))) .nil) .nil) (.cons (.iff (.and (.o2 .gt (.var 3) (.cst (.int 0))) (.o2 .notN (.call [none, none, none] 7 (.cons (.ck (.var 4)) (.cons (.ck (.var 1)) (.cons (.o2 .sub (.var 3) (.cst (.int 1))) .nil)))) (.cst (.bl false)))) (.cons (.ret (.cst (.bl false))) .nil) .nil) .nil)))) (.cons (.ret (.cst (.bl true))) .nil)
/-- law(script): 0 script, 1 pool, 2 wide, 3 lap, 4 bare, 5 none, 6 chart, 7 land, 8 broken, 9 at, 10 by -/
def n21 : List PySem.Str := ["script", "pool", "wide", "lap", "bare", "none", "chart", "land", "broken", "at", "by"]
def io21 : List Bool := [false]
def b21 : Ss := .cons (.asg 1 (.call [none] 8 (.cons (.ck (.var 0)) .nil))) (.cons (.asg 2 (.o2 .eq (.call [some 1, none] 9 (.io 1 (.cons (.cst (.int 13)) .nil))) (.cst (.int 6)))) (.cons (.asgT (.tp (.cons (.nm 6) (.cons (.nm 7) (.cons (.nm 8) .nil)))) (.call [some 1, none] 15 (.io 1 (.cons (.ck (.var 2)) .nil)))) (.cons (.iff (.o2 .ne (.var 8) (.call [none, none] 17 (.cons (.ck (.var 6)) (.cons (.ck (.var 7)) .nil)))) (.cons (.ret (.cst (.bl false))) .nil) .nil) (.cons (.iff (.or (.o1 .notO (.call [some 1, none, none] 19 (.io 1 (.cons (.ck (.var 6)) (.cons (.ck (.var 8)) .nil))))) (.or (.o1 .notO (.call [none, none, none] 20 (.cons (.ck (.var 6)) (.cons (.ck (.var 7)) (.cons (.ck (.var 8)) .nil))))) (.o1 .notO (.call [none, none] 18 (.cons (.ck (.var 6)) (.cons (.ck (.var 7)) .nil)))))) (.cons (.ret (.cst (.bl false))) .nil) .nil) (.cons (.forr (.nm 3) (.rng (.cons (.cst (.int 2)) .nil)) (.cons (.asg 9 (.call [some 1, none] 9 (.io 1 (.cons (.o1 .len (.var 7)) .nil)))) (.cons (.asg 10 (.o2 .mul (.ck (.o2 .idx (.var 6) (.cst (.int 0)))) (.o2 .idx (.lst (.cons (.cst (.int 1)) (.cons (.o1 .neg (.cst (.int 1))) (.cons (.cst (.int 2)) (.cons (.o1 .neg (.cst (.int 3))) .nil))))) (.call [some 1, none] 9 (.io 1 (.cons (.cst (.int 4)) .nil)))))) (.cons (.iff (.o1 .notO (.call [none, none] 18 (.cons (.ck (.var 6)) (.cons (.fz (.o2 .add (.o2 .add (.slc (.var 7) .nil (.cons (.ck (.var 9)) .nil)) (.tup (.cons (.o2 .add (.o2 .idx (.var 7) (.var 9)) (.var 10)) .nil))) (.slc (.var 7) (.cons (.o2 .add (.var 9) (.cst (.int 1))) .nil) .nil))) .nil)))) (.cons (.ret (.cst (.bl false))) .nil) .nil) .nil)))) (.cons (.asg 4 (.tup (.cons (.ck (.o2 .idx (.var 6) (.cst (.int 0)))) (.cons (.ck (.o2 .idx (.var 6) (.cst (.int 1)))) (.cons (.tup .nil) .nil))))) (.cons (.asg 5 (.tup (.cons (.ck (.o2 .idx (.var 6) (.cst (.int 0)))) (.cons (.tup .nil) (.cons (.tup .nil) .nil))))) (.cons (.iff (.or (.o1 .notO (.call [none, none] 11 (.cons (.call [none, none] 6 (.cons (.ck (.var 4)) (.cons (.tup .nil) .nil))) (.cons (.ck (.var 4)) .nil)))) (.o1 .notO (.call [none, none] 11 (.cons (.call [none, none] 6 (.cons (.ck (.var 5)) (.cons (.tup .nil) .nil))) (.cons (.ck (.var 5)) .nil))))) (.cons (.ret (.cst (.bl false))) .nil) .nil) (.cons (.ret (.and (.o2 .isN (.call [none, none, none] 7 (.cons (.ck (.var 4)) (.cons (.ck (.var 7)) (.cons (.cst (.int 0)) .nil)))) (.cst (.bl true))) (.o2 .isN (.call [none, none, none] 7 (.cons (.ck (.var 5)) (.cons (.tup .nil) (.cons (.call [some 1, none] 9 (.io 1 (.cons (.cst (.int 3)) .nil))) .nil)))) (.cst (.bl true))))) .nil)))))))))
abbrev inst (l : List FSem) : Fns := ⟨fun k => l.getD k (fun _ => .bad), fun _ => .non⟩
def t0 : List FSem := []
def f0 : List (PySem.Str × List Bool) := []
def s0 : FSem := @runFn (inst t0) n0.length io0 b0
def t1 : List FSem := t0 ++ [s0]
def f1 : List (PySem.Str × List Bool) := f0 ++ [(("place_numbers" : PySem.Str), io0)]
def s1 : FSem := @runFn (inst t1) n1.length io1 b1
def t2 : List FSem := t1 ++ [s1]
def f2 : List (PySem.Str × List Bool) := f1 ++ [(("tie_ends" : PySem.Str), io1)]
def s2 : FSem := @runFn (inst t2) n2.length io2 b2
def t3 : List FSem := t2 ++ [s2]
def f3 : List (PySem.Str × List Bool) := f2 ++ [(("differences_of" : PySem.Str), io2)]
def s3 : FSem := @runFn (inst t3) n3.length io3 b3
def t4 : List FSem := t3 ++ [s3]
def f4 : List (PySem.Str × List Bool) := f3 ++ [(("keeps" : PySem.Str), io3)]
def s4 : FSem := @runFn (inst t4) n4.length io4 b4
def t5 : List FSem := t4 ++ [s4]
def f5 : List (PySem.Str × List Bool) := f4 ++ [(("unfit_ties" : PySem.Str), io4)]
def s5 : FSem := @runFn (inst t5) n5.length io5 b5
def t6 : List FSem := t5 ++ [s5]
def f6 : List (PySem.Str × List Bool) := f5 ++ [(("struck_tie" : PySem.Str), io5)]
def s6 : FSem := @runFn (inst t6) n6.length io6 b6
def t7 : List FSem := t6 ++ [s6]
def f7 : List (PySem.Str × List Bool) := f6 ++ [(("struck_chart" : PySem.Str), io6)]
def s7 : FSem := @runFn (inst t7) n7.length io7 b7
def t8 : List FSem := t7 ++ [s7]
def f8 : List (PySem.Str × List Bool) := f7 ++ [(("is_within" : PySem.Str), io7)]
def s8 : FSem := @runFn (inst t8) n8.length io8 b8
def t9 : List FSem := t8 ++ [s8]
def f9 : List (PySem.Str × List Bool) := f8 ++ [(("_law_pool" : PySem.Str), io8)]
def s9 : FSem := @runFn (inst t9) n9.length io9 b9
def t10 : List FSem := t9 ++ [s9]
def f10 : List (PySem.Str × List Bool) := f9 ++ [(("_law_draw" : PySem.Str), io9)]
def s10 : FSem := @runFn (inst t10) n10.length io10 b10
def t11 : List FSem := t10 ++ [s10]
def f11 : List (PySem.Str × List Bool) := f10 ++ [(("_law_names" : PySem.Str), io10)]
def s11 : FSem := @runFn (inst t11) n11.length io11 b11
def t12 : List FSem := t11 ++ [s11]
def f12 : List (PySem.Str × List Bool) := f11 ++ [(("_law_same" : PySem.Str), io11)]
def s12 : FSem := @runFn (inst t12) n12.length io12 b12
def t13 : List FSem := t12 ++ [s12]
def f13 : List (PySem.Str × List Bool) := f12 ++ [(("_law_pulls" : PySem.Str), io12)]
def s13 : FSem := @runFn (inst t13) n13.length io13 b13
def t14 : List FSem := t13 ++ [s13]
def f14 : List (PySem.Str × List Bool) := f13 ++ [(("_law_bounds" : PySem.Str), io13)]
def s14 : FSem := @runFn (inst t14) n14.length io14 b14
def t15 : List FSem := t14 ++ [s14]
def f15 : List (PySem.Str × List Bool) := f14 ++ [(("_law_lands" : PySem.Str), io14)]
def s15 : FSem := @runFn (inst t15) n15.length io15 b15
def t16 : List FSem := t15 ++ [s15]
def f16 : List (PySem.Str × List Bool) := f15 ++ [(("_law_scene" : PySem.Str), io15)]
def s16 : FSem := @runFn (inst t16) n16.length io16 b16
def t17 : List FSem := t16 ++ [s16]
def f17 : List (PySem.Str × List Bool) := f16 ++ [(("_law_struck" : PySem.Str), io16)]
def s17 : FSem := @runFn (inst t17) n17.length io17 b17
def t18 : List FSem := t17 ++ [s17]
def f18 : List (PySem.Str × List Bool) := f17 ++ [(("_law_broken" : PySem.Str), io17)]
def s18 : FSem := @runFn (inst t18) n18.length io18 b18
def t19 : List FSem := t18 ++ [s18]
def f19 : List (PySem.Str × List Bool) := f18 ++ [(("_law_within" : PySem.Str), io18)]
def s19 : FSem := @runFn (inst t19) n19.length io19 b19
def t20 : List FSem := t19 ++ [s19]
def f20 : List (PySem.Str × List Bool) := f19 ++ [(("_law_strikes" : PySem.Str), io19)]
def s20 : FSem := @runFn (inst t20) n20.length io20 b20
def t21 : List FSem := t20 ++ [s20]
def f21 : List (PySem.Str × List Bool) := f20 ++ [(("_law_exact" : PySem.Str), io20)]
def s21 : FSem := @runFn (inst t21) n21.length io21 b21
def t22 : List FSem := t21 ++ [s21]
def f22 : List (PySem.Str × List Bool) := f21 ++ [(("law" : PySem.Str), io21)]
def free : List PySem.Str := ["bool", "enumerate", "int", "isinstance", "len", "list", "max", "min", "range", "sorted", "str", "tuple"]
def kws : List (PySem.Str × List PySem.Str) := [("struck_chart", ["chart", "ties"]), ("is_within", ["chart", "land", "many"])]
theorem sc0 : FnScope n0 ["chart"] (defScope (top 1)) := ⟨rfl, rfl, rfl, by decide +kernel, rfl, by decide +kernel, by decide +kernel⟩
theorem ch0 : chkSs b0 (ixs io0) ⟨n0, defScope (top 1), true, defScope (top 1), f0, [], free, kws⟩ (defBody (top 1)) = true := by kernel_rfl
theorem sc1 : FnScope n1 ["chart"] (defScope (top 2)) := ⟨rfl, rfl, rfl, by decide +kernel, rfl, by decide +kernel, by decide +kernel⟩
theorem ch1 : chkSs b1 (ixs io1) ⟨n1, defScope (top 2), true, defScope (top 2), f1, [], free, kws⟩ (defBody (top 2)) = true := by kernel_rfl
theorem sc2 : FnScope n2 ["chart", "land"] (defScope (top 4)) := ⟨rfl, rfl, rfl, by decide +kernel, rfl, by decide +kernel, by decide +kernel⟩
theorem ch2 : chkSs b2 (ixs io2) ⟨n2, defScope (top 4), true, defScope (top 4), f2, [], free, kws⟩ (defBody (top 4)) = true := by kernel_rfl
theorem sc3 : FnScope n3 ["tie", "difference"] (defScope (top 5)) := ⟨rfl, rfl, rfl, by decide +kernel, rfl, by decide +kernel, by decide +kernel⟩
theorem ch3 : chkSs b3 (ixs io3) ⟨n3, defScope (top 5), true, defScope (top 5), f3, [], free, kws⟩ (defBody (top 5)) = true := by kernel_rfl
theorem sc4 : FnScope n4 ["chart", "land"] (defScope (top 6)) := ⟨rfl, rfl, rfl, by decide +kernel, rfl, by decide +kernel, by decide +kernel⟩
theorem ch4 : chkSs b4 (ixs io4) ⟨n4, defScope (top 6), true, defScope (top 6), f4, [], free, kws⟩ (defBody (top 6)) = true := by kernel_rfl
theorem sc5 : FnScope n5 ["tie"] (defScope (top 8)) := ⟨rfl, rfl, rfl, by decide +kernel, rfl, by decide +kernel, by decide +kernel⟩
theorem ch5 : chkSs b5 (ixs io5) ⟨n5, defScope (top 8), true, defScope (top 8), f5, [], free, kws⟩ (defBody (top 8)) = true := by kernel_rfl
theorem sc6 : FnScope n6 ["chart", "ties"] (defScope (top 9)) := ⟨rfl, rfl, rfl, by decide +kernel, rfl, by decide +kernel, by decide +kernel⟩
theorem ch6 : chkSs b6 (ixs io6) ⟨n6, defScope (top 9), true, defScope (top 9), f6, [], free, kws⟩ (defBody (top 9)) = true := by kernel_rfl
theorem sc7 : FnScope n7 ["chart", "land", "many"] (defScope (top 10)) := ⟨rfl, rfl, rfl, by decide +kernel, rfl, by decide +kernel, by decide +kernel⟩
theorem ch7 : chkSs b7 (ixs io7) ⟨n7, defScope (top 10), true, defScope (top 10), f7, [], free, kws⟩ (defBody (top 10)) = true := by kernel_rfl
theorem sc8 : FnScope n8 ["script"] (defScope (top 12)) := ⟨rfl, rfl, rfl, by decide +kernel, rfl, by decide +kernel, by decide +kernel⟩
theorem ch8 : chkSs b8 (ixs io8) ⟨n8, defScope (top 12), true, defScope (top 12), f8, [], free, kws⟩ (defBody (top 12)) = true := by kernel_rfl
theorem sc9 : FnScope n9 ["pool", "many"] (defScope (top 13)) := ⟨rfl, rfl, rfl, by decide +kernel, rfl, by decide +kernel, by decide +kernel⟩
theorem ch9 : chkSs b9 (ixs io9) ⟨n9, defScope (top 13), true, defScope (top 13), f9, [], free, kws⟩ (defBody (top 13)) = true := by kernel_rfl
theorem sc10 : FnScope n10 ["pool", "many"] (defScope (top 14)) := ⟨rfl, rfl, rfl, by decide +kernel, rfl, by decide +kernel, by decide +kernel⟩
theorem ch10 : chkSs b10 (ixs io10) ⟨n10, defScope (top 14), true, defScope (top 14), f10, [], free, kws⟩ (defBody (top 14)) = true := by kernel_rfl
theorem sc11 : FnScope n11 ["told", "due"] (defScope (top 15)) := ⟨rfl, rfl, rfl, by decide +kernel, rfl, by decide +kernel, by decide +kernel⟩
theorem ch11 : chkSs b11 (ixs io11) ⟨n11, defScope (top 15), true, defScope (top 15), f11, [], free, kws⟩ (defBody (top 15)) = true := by kernel_rfl
theorem sc12 : FnScope n12 ["pool"] (defScope (top 16)) := ⟨rfl, rfl, rfl, by decide +kernel, rfl, by decide +kernel, by decide +kernel⟩
theorem ch12 : chkSs b12 (ixs io12) ⟨n12, defScope (top 16), true, defScope (top 16), f12, [], free, kws⟩ (defBody (top 16)) = true := by kernel_rfl
theorem sc13 : FnScope n13 ["pool", "here", "kind", "broken"] (defScope (top 17)) := ⟨rfl, rfl, rfl, by decide +kernel, rfl, by decide +kernel, by decide +kernel⟩
theorem ch13 : chkSs b13 (ixs io13) ⟨n13, defScope (top 17), true, defScope (top 17), f13, [], free, kws⟩ (defBody (top 17)) = true := by kernel_rfl
theorem sc14 : FnScope n14 ["pool", "modulus", "many"] (defScope (top 18)) := ⟨rfl, rfl, rfl, by decide +kernel, rfl, by decide +kernel, by decide +kernel⟩
theorem ch14 : chkSs b14 (ixs io14) ⟨n14, defScope (top 18), true, defScope (top 18), f14, [], free, kws⟩ (defBody (top 18)) = true := by kernel_rfl
theorem sc15 : FnScope n15 ["pool", "wide"] (defScope (top 19)) := ⟨rfl, rfl, rfl, by decide +kernel, rfl, by decide +kernel, by decide +kernel⟩
theorem ch15 : chkSs b15 (ixs io15) ⟨n15, defScope (top 19), true, defScope (top 19), f15, [], free, kws⟩ (defBody (top 19)) = true := by kernel_rfl
theorem sc16 : FnScope n16 ["chart", "numbers"] (defScope (top 20)) := ⟨rfl, rfl, rfl, by decide +kernel, rfl, by decide +kernel, by decide +kernel⟩
theorem ch16 : chkSs b16 (ixs io16) ⟨n16, defScope (top 20), true, defScope (top 20), f16, [], free, kws⟩ (defBody (top 20)) = true := by kernel_rfl
theorem sc17 : FnScope n17 ["chart", "land"] (defScope (top 21)) := ⟨rfl, rfl, rfl, by decide +kernel, rfl, by decide +kernel, by decide +kernel⟩
theorem ch17 : chkSs b17 (ixs io17) ⟨n17, defScope (top 21), true, defScope (top 21), f17, [], free, kws⟩ (defBody (top 21)) = true := by kernel_rfl
theorem sc18 : FnScope n18 ["chart", "land"] (defScope (top 22)) := ⟨rfl, rfl, rfl, by decide +kernel, rfl, by decide +kernel, by decide +kernel⟩
theorem ch18 : chkSs b18 (ixs io18) ⟨n18, defScope (top 22), true, defScope (top 22), f18, [], free, kws⟩ (defBody (top 22)) = true := by kernel_rfl
theorem sc19 : FnScope n19 ["pool", "chart", "broken"] (defScope (top 23)) := ⟨rfl, rfl, rfl, by decide +kernel, rfl, by decide +kernel, by decide +kernel⟩
theorem ch19 : chkSs b19 (ixs io19) ⟨n19, defScope (top 23), true, defScope (top 23), f19, [], free, kws⟩ (defBody (top 23)) = true := by kernel_rfl
theorem sc20 : FnScope n20 ["chart", "land", "broken"] (defScope (top 24)) := ⟨rfl, rfl, rfl, by decide +kernel, rfl, by decide +kernel, by decide +kernel⟩
theorem ch20 : chkSs b20 (ixs io20) ⟨n20, defScope (top 24), true, defScope (top 24), f20, [], free, kws⟩ (defBody (top 24)) = true := by kernel_rfl
theorem sc21 : FnScope n21 ["script"] (defScope (top 25)) := ⟨rfl, rfl, rfl, by decide +kernel, rfl, by decide +kernel, by decide +kernel⟩
theorem ch21 : chkSs b21 (ixs io21) ⟨n21, defScope (top 25), true, defScope (top 25), f21, [], free, kws⟩ (defBody (top 25)) = true := by kernel_rfl
abbrev d0 : He.DefD := ⟨("place_numbers", none), "place_numbers", "place_numbers", defArgs (top 1), defBody (top 1), defScope (top 1), [], []⟩
abbrev d1 : He.DefD := ⟨("tie_ends", none), "tie_ends", "tie_ends", defArgs (top 2), defBody (top 2), defScope (top 2), [], []⟩
abbrev d2 : He.DefD := ⟨("differences_of", none), "differences_of", "differences_of", defArgs (top 4), defBody (top 4), defScope (top 4), [], []⟩
abbrev d3 : He.DefD := ⟨("keeps", none), "keeps", "keeps", defArgs (top 5), defBody (top 5), defScope (top 5), [], []⟩
abbrev d4 : He.DefD := ⟨("unfit_ties", none), "unfit_ties", "unfit_ties", defArgs (top 6), defBody (top 6), defScope (top 6), [], []⟩
abbrev d5 : He.DefD := ⟨("struck_tie", none), "struck_tie", "struck_tie", defArgs (top 8), defBody (top 8), defScope (top 8), [], []⟩
abbrev d6 : He.DefD := ⟨("struck_chart", none), "struck_chart", "struck_chart", defArgs (top 9), defBody (top 9), defScope (top 9), [], []⟩
abbrev d7 : He.DefD := ⟨("is_within", none), "is_within", "is_within", defArgs (top 10), defBody (top 10), defScope (top 10), [], []⟩
abbrev d8 : He.DefD := ⟨("_law_pool", none), "_law_pool", "_law_pool", defArgs (top 12), defBody (top 12), defScope (top 12), [], []⟩
abbrev d9 : He.DefD := ⟨("_law_draw", none), "_law_draw", "_law_draw", defArgs (top 13), defBody (top 13), defScope (top 13), [], []⟩
abbrev d10 : He.DefD := ⟨("_law_names", none), "_law_names", "_law_names", defArgs (top 14), defBody (top 14), defScope (top 14), [], []⟩
abbrev d11 : He.DefD := ⟨("_law_same", none), "_law_same", "_law_same", defArgs (top 15), defBody (top 15), defScope (top 15), [], []⟩
abbrev d12 : He.DefD := ⟨("_law_pulls", none), "_law_pulls", "_law_pulls", defArgs (top 16), defBody (top 16), defScope (top 16), [], []⟩
abbrev d13 : He.DefD := ⟨("_law_bounds", none), "_law_bounds", "_law_bounds", defArgs (top 17), defBody (top 17), defScope (top 17), [], []⟩
abbrev d14 : He.DefD := ⟨("_law_lands", none), "_law_lands", "_law_lands", defArgs (top 18), defBody (top 18), defScope (top 18), [], []⟩
abbrev d15 : He.DefD := ⟨("_law_scene", none), "_law_scene", "_law_scene", defArgs (top 19), defBody (top 19), defScope (top 19), [], []⟩
abbrev d16 : He.DefD := ⟨("_law_struck", none), "_law_struck", "_law_struck", defArgs (top 20), defBody (top 20), defScope (top 20), [], []⟩
abbrev d17 : He.DefD := ⟨("_law_broken", none), "_law_broken", "_law_broken", defArgs (top 21), defBody (top 21), defScope (top 21), [], []⟩
abbrev d18 : He.DefD := ⟨("_law_within", none), "_law_within", "_law_within", defArgs (top 22), defBody (top 22), defScope (top 22), [], []⟩
abbrev d19 : He.DefD := ⟨("_law_strikes", none), "_law_strikes", "_law_strikes", defArgs (top 23), defBody (top 23), defScope (top 23), [], []⟩
abbrev d20 : He.DefD := ⟨("_law_exact", none), "_law_exact", "_law_exact", defArgs (top 24), defBody (top 24), defScope (top 24), [], []⟩
abbrev d21 : He.DefD := ⟨("law", none), "law", "law", defArgs (top 25), defBody (top 25), defScope (top 25), [], []⟩
def fn : List He.DefD := [d0, d1, d2, d3, d4, d5, d6, d7, d8, d9, d10, d11, d12, d13, d14, d15, d16, d17, d18, d19, d20, d21]
def fa0 : List He.Fa := [.glo "place_numbers", .glo "tie_ends", .glo "differences_of", .glo "keeps", .glo "unfit_ties", .glo "struck_tie", .glo "struck_chart", .glo "is_within", .glo "_law_pool", .glo "_law_draw", .glo "_law_names", .glo "_law_same", .glo "_law_pulls", .glo "_law_bounds", .glo "_law_lands", .glo "_law_scene", .glo "_law_struck", .glo "_law_broken", .glo "_law_within", .glo "_law_strikes", .glo "_law_exact", .glo "law", .free "bool", .free "enumerate", .free "int", .free "isinstance", .free "len", .free "list", .free "max", .free "min"]
def fa1 : List He.Fa := [.free "range", .free "sorted", .free "str", .free "tuple"]
def fa : List He.Fa := fa0 ++ (fa1)
abbrev R : PySem.W.OpenRow := PySem.W.OpenLaw.row PySem.Challenge.rw_fringes_k34_struck_and_within
abbrev hk : PySem.W.Hook := He.hookD 4 fa fn
def ob (s : PySem.W.SharedT) : He.AlD := He.obsDG 4 fa fn (HandSHeadRun.getT s)
theorem ob_eq (s : PySem.W.SharedT) : ob s = hk.obs s.abs := He.obsDG_eq (HandSHeadRun.getT_eq s)
def names0 : List PySem.Str := ["place_numbers", "tie_ends", "differences_of", "keeps", "unfit_ties", "struck_tie", "struck_chart", "is_within", "_law_pool", "_law_draw", "_law_names", "_law_same", "_law_pulls", "_law_bounds", "_law_lands", "_law_scene", "_law_struck", "_law_broken", "_law_within", "_law_strikes", "_law_exact"]
def names : List PySem.Str := names0
theorem run (w : World) : HandSHeadRun.RunEq R (PySem.W.view R.prog [25]) hk ob 4000 names w := by
  intro os
  kernel_rfl
section
variable {P : Program} {w : World} {K : PySem.W.Frag} {mg : PySem.Str → Option Value} {base : Heap} {ER : D → Value → Option Addr → Hp → Prop}

theorem kw0 : ∀ (j : Nat) (y : PySem.Str) (ioj : List Bool) (psj : List PySem.Str), f0[j]? = some (y, ioj) → kws.lookup y = some psj → ∃ r, r ≤ 0 ∧ FnMK ⟨K, ER⟩ P w mg base r y ioj psj ((inst t0).F j) := by
  intro j y ioj psj h h'
  simp [f0] at h
theorem ok0 {f : Addr} {fd : FuncData} (F : FunD K "place_numbers" "place_numbers" (defArgs (top 1)) (defBody (top 1)) (defScope (top 1)) [] [] f fd) (a : AllF ⟨K, ER⟩ P w mg base f0 t0 0) (hr : ∀ y, free.contains y = true → mg y = none) :
    FnOk P w K mg base (L2.CX P w) 1 f fd ["chart"] (spD ⟨K, ER⟩ io0 s0) :=
  @def_ok ⟨K, ER⟩ P w mg base "place_numbers" "place_numbers" _ _ _ [] f fd (inst t0) n0 ["chart"] io0 0 s0 b0 f0 [] free kws F sc0 rfl (fun _ _ => rfl) a.2 (fun j y h => by simp at h) hr (fun j y ioj psj h h' => by
    exact kw0 (ER := ER) (P := P) (w := w) (K := K) (mg := mg) (base := base)  j y ioj psj h h') ch0
theorem kw1 : ∀ (j : Nat) (y : PySem.Str) (ioj : List Bool) (psj : List PySem.Str), f1[j]? = some (y, ioj) → kws.lookup y = some psj → ∃ r, r ≤ 1 ∧ FnMK ⟨K, ER⟩ P w mg base r y ioj psj ((inst t1).F j) := by
  intro j y ioj psj h h'
  match j, h with
  | 0, h => cases h; exact (no_kw (by decide +kernel) h').elim
  | j + 1, h => cases h
theorem ok1 {f : Addr} {fd : FuncData} (F : FunD K "tie_ends" "tie_ends" (defArgs (top 2)) (defBody (top 2)) (defScope (top 2)) [] [] f fd) (a : AllF ⟨K, ER⟩ P w mg base f1 t1 1) (hr : ∀ y, free.contains y = true → mg y = none) :
    FnOk P w K mg base (L2.CX P w) 2 f fd ["chart"] (spD ⟨K, ER⟩ io1 s1) :=
  @def_ok ⟨K, ER⟩ P w mg base "tie_ends" "tie_ends" _ _ _ [] f fd (inst t1) n1 ["chart"] io1 1 s1 b1 f1 [] free kws F sc1 rfl (fun _ _ => rfl) a.2 (fun j y h => by simp at h) hr (fun j y ioj psj h h' => by
    exact kw1 (ER := ER) (P := P) (w := w) (K := K) (mg := mg) (base := base)  j y ioj psj h h') ch1
theorem kw2 : ∀ (j : Nat) (y : PySem.Str) (ioj : List Bool) (psj : List PySem.Str), f2[j]? = some (y, ioj) → kws.lookup y = some psj → ∃ r, r ≤ 2 ∧ FnMK ⟨K, ER⟩ P w mg base r y ioj psj ((inst t2).F j) := by
  intro j y ioj psj h h'
  match j, h with
  | 0, h => cases h; exact (no_kw (by decide +kernel) h').elim
  | 1, h => cases h; exact (no_kw (by decide +kernel) h').elim
  | j + 2, h => cases h
theorem ok2 {f : Addr} {fd : FuncData} (F : FunD K "differences_of" "differences_of" (defArgs (top 4)) (defBody (top 4)) (defScope (top 4)) [] [] f fd) (a : AllF ⟨K, ER⟩ P w mg base f2 t2 2) (hr : ∀ y, free.contains y = true → mg y = none) :
    FnOk P w K mg base (L2.CX P w) 3 f fd ["chart", "land"] (spD ⟨K, ER⟩ io2 s2) :=
  @def_ok ⟨K, ER⟩ P w mg base "differences_of" "differences_of" _ _ _ [] f fd (inst t2) n2 ["chart", "land"] io2 2 s2 b2 f2 [] free kws F sc2 rfl (fun _ _ => rfl) a.2 (fun j y h => by simp at h) hr (fun j y ioj psj h h' => by
    exact kw2 (ER := ER) (P := P) (w := w) (K := K) (mg := mg) (base := base)  j y ioj psj h h') ch2
theorem kw3 : ∀ (j : Nat) (y : PySem.Str) (ioj : List Bool) (psj : List PySem.Str), f3[j]? = some (y, ioj) → kws.lookup y = some psj → ∃ r, r ≤ 3 ∧ FnMK ⟨K, ER⟩ P w mg base r y ioj psj ((inst t3).F j) := by
  intro j y ioj psj h h'
  match j, h with
  | 0, h => cases h; exact (no_kw (by decide +kernel) h').elim
  | 1, h => cases h; exact (no_kw (by decide +kernel) h').elim
  | 2, h => cases h; exact (no_kw (by decide +kernel) h').elim
  | j + 3, h => cases h
theorem ok3 {f : Addr} {fd : FuncData} (F : FunD K "keeps" "keeps" (defArgs (top 5)) (defBody (top 5)) (defScope (top 5)) [] [] f fd) (a : AllF ⟨K, ER⟩ P w mg base f3 t3 3) (hr : ∀ y, free.contains y = true → mg y = none) :
    FnOk P w K mg base (L2.CX P w) 4 f fd ["tie", "difference"] (spD ⟨K, ER⟩ io3 s3) :=
  @def_ok ⟨K, ER⟩ P w mg base "keeps" "keeps" _ _ _ [] f fd (inst t3) n3 ["tie", "difference"] io3 3 s3 b3 f3 [] free kws F sc3 rfl (fun _ _ => rfl) a.2 (fun j y h => by simp at h) hr (fun j y ioj psj h h' => by
    exact kw3 (ER := ER) (P := P) (w := w) (K := K) (mg := mg) (base := base)  j y ioj psj h h') ch3
theorem kw4 : ∀ (j : Nat) (y : PySem.Str) (ioj : List Bool) (psj : List PySem.Str), f4[j]? = some (y, ioj) → kws.lookup y = some psj → ∃ r, r ≤ 4 ∧ FnMK ⟨K, ER⟩ P w mg base r y ioj psj ((inst t4).F j) := by
  intro j y ioj psj h h'
  match j, h with
  | 0, h => cases h; exact (no_kw (by decide +kernel) h').elim
  | 1, h => cases h; exact (no_kw (by decide +kernel) h').elim
  | 2, h => cases h; exact (no_kw (by decide +kernel) h').elim
  | 3, h => cases h; exact (no_kw (by decide +kernel) h').elim
  | j + 4, h => cases h
theorem ok4 {f : Addr} {fd : FuncData} (F : FunD K "unfit_ties" "unfit_ties" (defArgs (top 6)) (defBody (top 6)) (defScope (top 6)) [] [] f fd) (a : AllF ⟨K, ER⟩ P w mg base f4 t4 4) (hr : ∀ y, free.contains y = true → mg y = none) :
    FnOk P w K mg base (L2.CX P w) 5 f fd ["chart", "land"] (spD ⟨K, ER⟩ io4 s4) :=
  @def_ok ⟨K, ER⟩ P w mg base "unfit_ties" "unfit_ties" _ _ _ [] f fd (inst t4) n4 ["chart", "land"] io4 4 s4 b4 f4 [] free kws F sc4 rfl (fun _ _ => rfl) a.2 (fun j y h => by simp at h) hr (fun j y ioj psj h h' => by
    exact kw4 (ER := ER) (P := P) (w := w) (K := K) (mg := mg) (base := base)  j y ioj psj h h') ch4
theorem kw5 : ∀ (j : Nat) (y : PySem.Str) (ioj : List Bool) (psj : List PySem.Str), f5[j]? = some (y, ioj) → kws.lookup y = some psj → ∃ r, r ≤ 5 ∧ FnMK ⟨K, ER⟩ P w mg base r y ioj psj ((inst t5).F j) := by
  intro j y ioj psj h h'
  match j, h with
  | 0, h => cases h; exact (no_kw (by decide +kernel) h').elim
  | 1, h => cases h; exact (no_kw (by decide +kernel) h').elim
  | 2, h => cases h; exact (no_kw (by decide +kernel) h').elim
  | 3, h => cases h; exact (no_kw (by decide +kernel) h').elim
  | 4, h => cases h; exact (no_kw (by decide +kernel) h').elim
  | j + 5, h => cases h
theorem ok5 {f : Addr} {fd : FuncData} (F : FunD K "struck_tie" "struck_tie" (defArgs (top 8)) (defBody (top 8)) (defScope (top 8)) [] [] f fd) (a : AllF ⟨K, ER⟩ P w mg base f5 t5 5) (hr : ∀ y, free.contains y = true → mg y = none) :
    FnOk P w K mg base (L2.CX P w) 6 f fd ["tie"] (spD ⟨K, ER⟩ io5 s5) :=
  @def_ok ⟨K, ER⟩ P w mg base "struck_tie" "struck_tie" _ _ _ [] f fd (inst t5) n5 ["tie"] io5 5 s5 b5 f5 [] free kws F sc5 rfl (fun _ _ => rfl) a.2 (fun j y h => by simp at h) hr (fun j y ioj psj h h' => by
    exact kw5 (ER := ER) (P := P) (w := w) (K := K) (mg := mg) (base := base)  j y ioj psj h h') ch5
theorem kw6 : ∀ (j : Nat) (y : PySem.Str) (ioj : List Bool) (psj : List PySem.Str), f6[j]? = some (y, ioj) → kws.lookup y = some psj → ∃ r, r ≤ 6 ∧ FnMK ⟨K, ER⟩ P w mg base r y ioj psj ((inst t6).F j) := by
  intro j y ioj psj h h'
  match j, h with
  | 0, h => cases h; exact (no_kw (by decide +kernel) h').elim
  | 1, h => cases h; exact (no_kw (by decide +kernel) h').elim
  | 2, h => cases h; exact (no_kw (by decide +kernel) h').elim
  | 3, h => cases h; exact (no_kw (by decide +kernel) h').elim
  | 4, h => cases h; exact (no_kw (by decide +kernel) h').elim
  | 5, h => cases h; exact (no_kw (by decide +kernel) h').elim
  | j + 6, h => cases h
theorem ok6 {f : Addr} {fd : FuncData} (F : FunD K "struck_chart" "struck_chart" (defArgs (top 9)) (defBody (top 9)) (defScope (top 9)) [] [] f fd) (a : AllF ⟨K, ER⟩ P w mg base f6 t6 6) (hr : ∀ y, free.contains y = true → mg y = none) :
    FnOk P w K mg base (L2.CX P w) 7 f fd ["chart", "ties"] (spD ⟨K, ER⟩ io6 s6) :=
  @def_ok ⟨K, ER⟩ P w mg base "struck_chart" "struck_chart" _ _ _ [] f fd (inst t6) n6 ["chart", "ties"] io6 6 s6 b6 f6 [] free kws F sc6 rfl (fun _ _ => rfl) a.2 (fun j y h => by simp at h) hr (fun j y ioj psj h h' => by
    exact kw6 (ER := ER) (P := P) (w := w) (K := K) (mg := mg) (base := base)  j y ioj psj h h') ch6
theorem kw7 (q6 : ∃ r, r ≤ 7 ∧ FnMK ⟨K, ER⟩ P w mg base r "struck_chart" io6 ["chart", "ties"] s6) : ∀ (j : Nat) (y : PySem.Str) (ioj : List Bool) (psj : List PySem.Str), f7[j]? = some (y, ioj) → kws.lookup y = some psj → ∃ r, r ≤ 7 ∧ FnMK ⟨K, ER⟩ P w mg base r y ioj psj ((inst t7).F j) := by
  intro j y ioj psj h h'
  match j, h with
  | 0, h => cases h; exact (no_kw (by decide +kernel) h').elim
  | 1, h => cases h; exact (no_kw (by decide +kernel) h').elim
  | 2, h => cases h; exact (no_kw (by decide +kernel) h').elim
  | 3, h => cases h; exact (no_kw (by decide +kernel) h').elim
  | 4, h => cases h; exact (no_kw (by decide +kernel) h').elim
  | 5, h => cases h; exact (no_kw (by decide +kernel) h').elim
  | 6, h => cases h; cases h'; exact q6
  | j + 7, h => cases h
theorem ok7 {f : Addr} {fd : FuncData} (F : FunD K "is_within" "is_within" (defArgs (top 10)) (defBody (top 10)) (defScope (top 10)) [] [] f fd) (a : AllF ⟨K, ER⟩ P w mg base f7 t7 7) (hr : ∀ y, free.contains y = true → mg y = none) (q6 : ∃ r, r ≤ 7 ∧ FnMK ⟨K, ER⟩ P w mg base r "struck_chart" io6 ["chart", "ties"] s6) :
    FnOk P w K mg base (L2.CX P w) 8 f fd ["chart", "land", "many"] (spD ⟨K, ER⟩ io7 s7) :=
  @def_ok ⟨K, ER⟩ P w mg base "is_within" "is_within" _ _ _ [] f fd (inst t7) n7 ["chart", "land", "many"] io7 7 s7 b7 f7 [] free kws F sc7 rfl (fun _ _ => rfl) a.2 (fun j y h => by simp at h) hr (fun j y ioj psj h h' => by
    exact kw7 (ER := ER) (P := P) (w := w) (K := K) (mg := mg) (base := base) q6 j y ioj psj h h') ch7
theorem kw8 (q6 : ∃ r, r ≤ 8 ∧ FnMK ⟨K, ER⟩ P w mg base r "struck_chart" io6 ["chart", "ties"] s6) (q7 : ∃ r, r ≤ 8 ∧ FnMK ⟨K, ER⟩ P w mg base r "is_within" io7 ["chart", "land", "many"] s7) : ∀ (j : Nat) (y : PySem.Str) (ioj : List Bool) (psj : List PySem.Str), f8[j]? = some (y, ioj) → kws.lookup y = some psj → ∃ r, r ≤ 8 ∧ FnMK ⟨K, ER⟩ P w mg base r y ioj psj ((inst t8).F j) := by
  intro j y ioj psj h h'
  match j, h with
  | 0, h => cases h; exact (no_kw (by decide +kernel) h').elim
  | 1, h => cases h; exact (no_kw (by decide +kernel) h').elim
  | 2, h => cases h; exact (no_kw (by decide +kernel) h').elim
  | 3, h => cases h; exact (no_kw (by decide +kernel) h').elim
  | 4, h => cases h; exact (no_kw (by decide +kernel) h').elim
  | 5, h => cases h; exact (no_kw (by decide +kernel) h').elim
  | 6, h => cases h; cases h'; exact q6
  | 7, h => cases h; cases h'; exact q7
  | j + 8, h => cases h
theorem ok8 {f : Addr} {fd : FuncData} (F : FunD K "_law_pool" "_law_pool" (defArgs (top 12)) (defBody (top 12)) (defScope (top 12)) [] [] f fd) (a : AllF ⟨K, ER⟩ P w mg base f8 t8 8) (hr : ∀ y, free.contains y = true → mg y = none) (q6 : ∃ r, r ≤ 8 ∧ FnMK ⟨K, ER⟩ P w mg base r "struck_chart" io6 ["chart", "ties"] s6) (q7 : ∃ r, r ≤ 8 ∧ FnMK ⟨K, ER⟩ P w mg base r "is_within" io7 ["chart", "land", "many"] s7) :
    FnOk P w K mg base (L2.CX P w) 9 f fd ["script"] (spD ⟨K, ER⟩ io8 s8) :=
  @def_ok ⟨K, ER⟩ P w mg base "_law_pool" "_law_pool" _ _ _ [] f fd (inst t8) n8 ["script"] io8 8 s8 b8 f8 [] free kws F sc8 rfl (fun _ _ => rfl) a.2 (fun j y h => by simp at h) hr (fun j y ioj psj h h' => by
    exact kw8 (ER := ER) (P := P) (w := w) (K := K) (mg := mg) (base := base) q6 q7 j y ioj psj h h') ch8
theorem kw9 (q6 : ∃ r, r ≤ 9 ∧ FnMK ⟨K, ER⟩ P w mg base r "struck_chart" io6 ["chart", "ties"] s6) (q7 : ∃ r, r ≤ 9 ∧ FnMK ⟨K, ER⟩ P w mg base r "is_within" io7 ["chart", "land", "many"] s7) : ∀ (j : Nat) (y : PySem.Str) (ioj : List Bool) (psj : List PySem.Str), f9[j]? = some (y, ioj) → kws.lookup y = some psj → ∃ r, r ≤ 9 ∧ FnMK ⟨K, ER⟩ P w mg base r y ioj psj ((inst t9).F j) := by
  intro j y ioj psj h h'
  match j, h with
  | 0, h => cases h; exact (no_kw (by decide +kernel) h').elim
  | 1, h => cases h; exact (no_kw (by decide +kernel) h').elim
  | 2, h => cases h; exact (no_kw (by decide +kernel) h').elim
  | 3, h => cases h; exact (no_kw (by decide +kernel) h').elim
  | 4, h => cases h; exact (no_kw (by decide +kernel) h').elim
  | 5, h => cases h; exact (no_kw (by decide +kernel) h').elim
  | 6, h => cases h; cases h'; exact q6
  | 7, h => cases h; cases h'; exact q7
  | 8, h => cases h; exact (no_kw (by decide +kernel) h').elim
  | j + 9, h => cases h
theorem ok9 {f : Addr} {fd : FuncData} (F : FunD K "_law_draw" "_law_draw" (defArgs (top 13)) (defBody (top 13)) (defScope (top 13)) [] [] f fd) (a : AllF ⟨K, ER⟩ P w mg base f9 t9 9) (hr : ∀ y, free.contains y = true → mg y = none) (q6 : ∃ r, r ≤ 9 ∧ FnMK ⟨K, ER⟩ P w mg base r "struck_chart" io6 ["chart", "ties"] s6) (q7 : ∃ r, r ≤ 9 ∧ FnMK ⟨K, ER⟩ P w mg base r "is_within" io7 ["chart", "land", "many"] s7) :
    FnOk P w K mg base (L2.CX P w) 10 f fd ["pool", "many"] (spD ⟨K, ER⟩ io9 s9) :=
  @def_ok ⟨K, ER⟩ P w mg base "_law_draw" "_law_draw" _ _ _ [] f fd (inst t9) n9 ["pool", "many"] io9 9 s9 b9 f9 [] free kws F sc9 rfl (fun _ _ => rfl) a.2 (fun j y h => by simp at h) hr (fun j y ioj psj h h' => by
    exact kw9 (ER := ER) (P := P) (w := w) (K := K) (mg := mg) (base := base) q6 q7 j y ioj psj h h') ch9
theorem kw10 (q6 : ∃ r, r ≤ 10 ∧ FnMK ⟨K, ER⟩ P w mg base r "struck_chart" io6 ["chart", "ties"] s6) (q7 : ∃ r, r ≤ 10 ∧ FnMK ⟨K, ER⟩ P w mg base r "is_within" io7 ["chart", "land", "many"] s7) : ∀ (j : Nat) (y : PySem.Str) (ioj : List Bool) (psj : List PySem.Str), f10[j]? = some (y, ioj) → kws.lookup y = some psj → ∃ r, r ≤ 10 ∧ FnMK ⟨K, ER⟩ P w mg base r y ioj psj ((inst t10).F j) := by
  intro j y ioj psj h h'
  match j, h with
  | 0, h => cases h; exact (no_kw (by decide +kernel) h').elim
  | 1, h => cases h; exact (no_kw (by decide +kernel) h').elim
  | 2, h => cases h; exact (no_kw (by decide +kernel) h').elim
  | 3, h => cases h; exact (no_kw (by decide +kernel) h').elim
  | 4, h => cases h; exact (no_kw (by decide +kernel) h').elim
  | 5, h => cases h; exact (no_kw (by decide +kernel) h').elim
  | 6, h => cases h; cases h'; exact q6
  | 7, h => cases h; cases h'; exact q7
  | 8, h => cases h; exact (no_kw (by decide +kernel) h').elim
  | 9, h => cases h; exact (no_kw (by decide +kernel) h').elim
  | j + 10, h => cases h
theorem ok10 {f : Addr} {fd : FuncData} (F : FunD K "_law_names" "_law_names" (defArgs (top 14)) (defBody (top 14)) (defScope (top 14)) [] [] f fd) (a : AllF ⟨K, ER⟩ P w mg base f10 t10 10) (hr : ∀ y, free.contains y = true → mg y = none) (q6 : ∃ r, r ≤ 10 ∧ FnMK ⟨K, ER⟩ P w mg base r "struck_chart" io6 ["chart", "ties"] s6) (q7 : ∃ r, r ≤ 10 ∧ FnMK ⟨K, ER⟩ P w mg base r "is_within" io7 ["chart", "land", "many"] s7) :
    FnOk P w K mg base (L2.CX P w) 11 f fd ["pool", "many"] (spD ⟨K, ER⟩ io10 s10) :=
  @def_ok ⟨K, ER⟩ P w mg base "_law_names" "_law_names" _ _ _ [] f fd (inst t10) n10 ["pool", "many"] io10 10 s10 b10 f10 [] free kws F sc10 rfl (fun _ _ => rfl) a.2 (fun j y h => by simp at h) hr (fun j y ioj psj h h' => by
    exact kw10 (ER := ER) (P := P) (w := w) (K := K) (mg := mg) (base := base) q6 q7 j y ioj psj h h') ch10
theorem kw11 (q6 : ∃ r, r ≤ 11 ∧ FnMK ⟨K, ER⟩ P w mg base r "struck_chart" io6 ["chart", "ties"] s6) (q7 : ∃ r, r ≤ 11 ∧ FnMK ⟨K, ER⟩ P w mg base r "is_within" io7 ["chart", "land", "many"] s7) : ∀ (j : Nat) (y : PySem.Str) (ioj : List Bool) (psj : List PySem.Str), f11[j]? = some (y, ioj) → kws.lookup y = some psj → ∃ r, r ≤ 11 ∧ FnMK ⟨K, ER⟩ P w mg base r y ioj psj ((inst t11).F j) := by
  intro j y ioj psj h h'
  match j, h with
  | 0, h => cases h; exact (no_kw (by decide +kernel) h').elim
  | 1, h => cases h; exact (no_kw (by decide +kernel) h').elim
  | 2, h => cases h; exact (no_kw (by decide +kernel) h').elim
  | 3, h => cases h; exact (no_kw (by decide +kernel) h').elim
  | 4, h => cases h; exact (no_kw (by decide +kernel) h').elim
  | 5, h => cases h; exact (no_kw (by decide +kernel) h').elim
  | 6, h => cases h; cases h'; exact q6
  | 7, h => cases h; cases h'; exact q7
  | 8, h => cases h; exact (no_kw (by decide +kernel) h').elim
  | 9, h => cases h; exact (no_kw (by decide +kernel) h').elim
  | 10, h => cases h; exact (no_kw (by decide +kernel) h').elim
  | j + 11, h => cases h
theorem ok11 {f : Addr} {fd : FuncData} (F : FunD K "_law_same" "_law_same" (defArgs (top 15)) (defBody (top 15)) (defScope (top 15)) [] [] f fd) (a : AllF ⟨K, ER⟩ P w mg base f11 t11 11) (hr : ∀ y, free.contains y = true → mg y = none) (q6 : ∃ r, r ≤ 11 ∧ FnMK ⟨K, ER⟩ P w mg base r "struck_chart" io6 ["chart", "ties"] s6) (q7 : ∃ r, r ≤ 11 ∧ FnMK ⟨K, ER⟩ P w mg base r "is_within" io7 ["chart", "land", "many"] s7) :
    FnOk P w K mg base (L2.CX P w) 12 f fd ["told", "due"] (spD ⟨K, ER⟩ io11 s11) :=
  @def_ok ⟨K, ER⟩ P w mg base "_law_same" "_law_same" _ _ _ [] f fd (inst t11) n11 ["told", "due"] io11 11 s11 b11 f11 [] free kws F sc11 rfl (fun _ _ => rfl) a.2 (fun j y h => by simp at h) hr (fun j y ioj psj h h' => by
    exact kw11 (ER := ER) (P := P) (w := w) (K := K) (mg := mg) (base := base) q6 q7 j y ioj psj h h') ch11
theorem kw12 (q6 : ∃ r, r ≤ 12 ∧ FnMK ⟨K, ER⟩ P w mg base r "struck_chart" io6 ["chart", "ties"] s6) (q7 : ∃ r, r ≤ 12 ∧ FnMK ⟨K, ER⟩ P w mg base r "is_within" io7 ["chart", "land", "many"] s7) : ∀ (j : Nat) (y : PySem.Str) (ioj : List Bool) (psj : List PySem.Str), f12[j]? = some (y, ioj) → kws.lookup y = some psj → ∃ r, r ≤ 12 ∧ FnMK ⟨K, ER⟩ P w mg base r y ioj psj ((inst t12).F j) := by
  intro j y ioj psj h h'
  match j, h with
  | 0, h => cases h; exact (no_kw (by decide +kernel) h').elim
  | 1, h => cases h; exact (no_kw (by decide +kernel) h').elim
  | 2, h => cases h; exact (no_kw (by decide +kernel) h').elim
  | 3, h => cases h; exact (no_kw (by decide +kernel) h').elim
  | 4, h => cases h; exact (no_kw (by decide +kernel) h').elim
  | 5, h => cases h; exact (no_kw (by decide +kernel) h').elim
  | 6, h => cases h; cases h'; exact q6
  | 7, h => cases h; cases h'; exact q7
  | 8, h => cases h; exact (no_kw (by decide +kernel) h').elim
  | 9, h => cases h; exact (no_kw (by decide +kernel) h').elim
  | 10, h => cases h; exact (no_kw (by decide +kernel) h').elim
  | 11, h => cases h; exact (no_kw (by decide +kernel) h').elim
  | j + 12, h => cases h
theorem ok12 {f : Addr} {fd : FuncData} (F : FunD K "_law_pulls" "_law_pulls" (defArgs (top 16)) (defBody (top 16)) (defScope (top 16)) [] [] f fd) (a : AllF ⟨K, ER⟩ P w mg base f12 t12 12) (hr : ∀ y, free.contains y = true → mg y = none) (q6 : ∃ r, r ≤ 12 ∧ FnMK ⟨K, ER⟩ P w mg base r "struck_chart" io6 ["chart", "ties"] s6) (q7 : ∃ r, r ≤ 12 ∧ FnMK ⟨K, ER⟩ P w mg base r "is_within" io7 ["chart", "land", "many"] s7) :
    FnOk P w K mg base (L2.CX P w) 13 f fd ["pool"] (spD ⟨K, ER⟩ io12 s12) :=
  @def_ok ⟨K, ER⟩ P w mg base "_law_pulls" "_law_pulls" _ _ _ [] f fd (inst t12) n12 ["pool"] io12 12 s12 b12 f12 [] free kws F sc12 rfl (fun _ _ => rfl) a.2 (fun j y h => by simp at h) hr (fun j y ioj psj h h' => by
    exact kw12 (ER := ER) (P := P) (w := w) (K := K) (mg := mg) (base := base) q6 q7 j y ioj psj h h') ch12
theorem kw13 (q6 : ∃ r, r ≤ 13 ∧ FnMK ⟨K, ER⟩ P w mg base r "struck_chart" io6 ["chart", "ties"] s6) (q7 : ∃ r, r ≤ 13 ∧ FnMK ⟨K, ER⟩ P w mg base r "is_within" io7 ["chart", "land", "many"] s7) : ∀ (j : Nat) (y : PySem.Str) (ioj : List Bool) (psj : List PySem.Str), f13[j]? = some (y, ioj) → kws.lookup y = some psj → ∃ r, r ≤ 13 ∧ FnMK ⟨K, ER⟩ P w mg base r y ioj psj ((inst t13).F j) := by
  intro j y ioj psj h h'
  match j, h with
  | 0, h => cases h; exact (no_kw (by decide +kernel) h').elim
  | 1, h => cases h; exact (no_kw (by decide +kernel) h').elim
  | 2, h => cases h; exact (no_kw (by decide +kernel) h').elim
  | 3, h => cases h; exact (no_kw (by decide +kernel) h').elim
  | 4, h => cases h; exact (no_kw (by decide +kernel) h').elim
  | 5, h => cases h; exact (no_kw (by decide +kernel) h').elim
  | 6, h => cases h; cases h'; exact q6
  | 7, h => cases h; cases h'; exact q7
  | 8, h => cases h; exact (no_kw (by decide +kernel) h').elim
  | 9, h => cases h; exact (no_kw (by decide +kernel) h').elim
  | 10, h => cases h; exact (no_kw (by decide +kernel) h').elim
  | 11, h => cases h; exact (no_kw (by decide +kernel) h').elim
  | 12, h => cases h; exact (no_kw (by decide +kernel) h').elim
  | j + 13, h => cases h
theorem ok13 {f : Addr} {fd : FuncData} (F : FunD K "_law_bounds" "_law_bounds" (defArgs (top 17)) (defBody (top 17)) (defScope (top 17)) [] [] f fd) (a : AllF ⟨K, ER⟩ P w mg base f13 t13 13) (hr : ∀ y, free.contains y = true → mg y = none) (q6 : ∃ r, r ≤ 13 ∧ FnMK ⟨K, ER⟩ P w mg base r "struck_chart" io6 ["chart", "ties"] s6) (q7 : ∃ r, r ≤ 13 ∧ FnMK ⟨K, ER⟩ P w mg base r "is_within" io7 ["chart", "land", "many"] s7) :
    FnOk P w K mg base (L2.CX P w) 14 f fd ["pool", "here", "kind", "broken"] (spD ⟨K, ER⟩ io13 s13) :=
  @def_ok ⟨K, ER⟩ P w mg base "_law_bounds" "_law_bounds" _ _ _ [] f fd (inst t13) n13 ["pool", "here", "kind", "broken"] io13 13 s13 b13 f13 [] free kws F sc13 rfl (fun _ _ => rfl) a.2 (fun j y h => by simp at h) hr (fun j y ioj psj h h' => by
    exact kw13 (ER := ER) (P := P) (w := w) (K := K) (mg := mg) (base := base) q6 q7 j y ioj psj h h') ch13
theorem kw14 (q6 : ∃ r, r ≤ 14 ∧ FnMK ⟨K, ER⟩ P w mg base r "struck_chart" io6 ["chart", "ties"] s6) (q7 : ∃ r, r ≤ 14 ∧ FnMK ⟨K, ER⟩ P w mg base r "is_within" io7 ["chart", "land", "many"] s7) : ∀ (j : Nat) (y : PySem.Str) (ioj : List Bool) (psj : List PySem.Str), f14[j]? = some (y, ioj) → kws.lookup y = some psj → ∃ r, r ≤ 14 ∧ FnMK ⟨K, ER⟩ P w mg base r y ioj psj ((inst t14).F j) := by
  intro j y ioj psj h h'
  match j, h with
  | 0, h => cases h; exact (no_kw (by decide +kernel) h').elim
  | 1, h => cases h; exact (no_kw (by decide +kernel) h').elim
  | 2, h => cases h; exact (no_kw (by decide +kernel) h').elim
  | 3, h => cases h; exact (no_kw (by decide +kernel) h').elim
  | 4, h => cases h; exact (no_kw (by decide +kernel) h').elim
  | 5, h => cases h; exact (no_kw (by decide +kernel) h').elim
  | 6, h => cases h; cases h'; exact q6
  | 7, h => cases h; cases h'; exact q7
  | 8, h => cases h; exact (no_kw (by decide +kernel) h').elim
  | 9, h => cases h; exact (no_kw (by decide +kernel) h').elim
  | 10, h => cases h; exact (no_kw (by decide +kernel) h').elim
  | 11, h => cases h; exact (no_kw (by decide +kernel) h').elim
  | 12, h => cases h; exact (no_kw (by decide +kernel) h').elim
  | 13, h => cases h; exact (no_kw (by decide +kernel) h').elim
  | j + 14, h => cases h
theorem ok14 {f : Addr} {fd : FuncData} (F : FunD K "_law_lands" "_law_lands" (defArgs (top 18)) (defBody (top 18)) (defScope (top 18)) [] [] f fd) (a : AllF ⟨K, ER⟩ P w mg base f14 t14 14) (hr : ∀ y, free.contains y = true → mg y = none) (q6 : ∃ r, r ≤ 14 ∧ FnMK ⟨K, ER⟩ P w mg base r "struck_chart" io6 ["chart", "ties"] s6) (q7 : ∃ r, r ≤ 14 ∧ FnMK ⟨K, ER⟩ P w mg base r "is_within" io7 ["chart", "land", "many"] s7) :
    FnOk P w K mg base (L2.CX P w) 15 f fd ["pool", "modulus", "many"] (spD ⟨K, ER⟩ io14 s14) :=
  @def_ok ⟨K, ER⟩ P w mg base "_law_lands" "_law_lands" _ _ _ [] f fd (inst t14) n14 ["pool", "modulus", "many"] io14 14 s14 b14 f14 [] free kws F sc14 rfl (fun _ _ => rfl) a.2 (fun j y h => by simp at h) hr (fun j y ioj psj h h' => by
    exact kw14 (ER := ER) (P := P) (w := w) (K := K) (mg := mg) (base := base) q6 q7 j y ioj psj h h') ch14
theorem kw15 (q6 : ∃ r, r ≤ 15 ∧ FnMK ⟨K, ER⟩ P w mg base r "struck_chart" io6 ["chart", "ties"] s6) (q7 : ∃ r, r ≤ 15 ∧ FnMK ⟨K, ER⟩ P w mg base r "is_within" io7 ["chart", "land", "many"] s7) : ∀ (j : Nat) (y : PySem.Str) (ioj : List Bool) (psj : List PySem.Str), f15[j]? = some (y, ioj) → kws.lookup y = some psj → ∃ r, r ≤ 15 ∧ FnMK ⟨K, ER⟩ P w mg base r y ioj psj ((inst t15).F j) := by
  intro j y ioj psj h h'
  match j, h with
  | 0, h => cases h; exact (no_kw (by decide +kernel) h').elim
  | 1, h => cases h; exact (no_kw (by decide +kernel) h').elim
  | 2, h => cases h; exact (no_kw (by decide +kernel) h').elim
  | 3, h => cases h; exact (no_kw (by decide +kernel) h').elim
  | 4, h => cases h; exact (no_kw (by decide +kernel) h').elim
  | 5, h => cases h; exact (no_kw (by decide +kernel) h').elim
  | 6, h => cases h; cases h'; exact q6
  | 7, h => cases h; cases h'; exact q7
  | 8, h => cases h; exact (no_kw (by decide +kernel) h').elim
  | 9, h => cases h; exact (no_kw (by decide +kernel) h').elim
  | 10, h => cases h; exact (no_kw (by decide +kernel) h').elim
  | 11, h => cases h; exact (no_kw (by decide +kernel) h').elim
  | 12, h => cases h; exact (no_kw (by decide +kernel) h').elim
  | 13, h => cases h; exact (no_kw (by decide +kernel) h').elim
  | 14, h => cases h; exact (no_kw (by decide +kernel) h').elim
  | j + 15, h => cases h
theorem ok15 {f : Addr} {fd : FuncData} (F : FunD K "_law_scene" "_law_scene" (defArgs (top 19)) (defBody (top 19)) (defScope (top 19)) [] [] f fd) (a : AllF ⟨K, ER⟩ P w mg base f15 t15 15) (hr : ∀ y, free.contains y = true → mg y = none) (q6 : ∃ r, r ≤ 15 ∧ FnMK ⟨K, ER⟩ P w mg base r "struck_chart" io6 ["chart", "ties"] s6) (q7 : ∃ r, r ≤ 15 ∧ FnMK ⟨K, ER⟩ P w mg base r "is_within" io7 ["chart", "land", "many"] s7) :
    FnOk P w K mg base (L2.CX P w) 16 f fd ["pool", "wide"] (spD ⟨K, ER⟩ io15 s15) :=
  @def_ok ⟨K, ER⟩ P w mg base "_law_scene" "_law_scene" _ _ _ [] f fd (inst t15) n15 ["pool", "wide"] io15 15 s15 b15 f15 [] free kws F sc15 rfl (fun _ _ => rfl) a.2 (fun j y h => by simp at h) hr (fun j y ioj psj h h' => by
    exact kw15 (ER := ER) (P := P) (w := w) (K := K) (mg := mg) (base := base) q6 q7 j y ioj psj h h') ch15
theorem kw16 (q6 : ∃ r, r ≤ 16 ∧ FnMK ⟨K, ER⟩ P w mg base r "struck_chart" io6 ["chart", "ties"] s6) (q7 : ∃ r, r ≤ 16 ∧ FnMK ⟨K, ER⟩ P w mg base r "is_within" io7 ["chart", "land", "many"] s7) : ∀ (j : Nat) (y : PySem.Str) (ioj : List Bool) (psj : List PySem.Str), f16[j]? = some (y, ioj) → kws.lookup y = some psj → ∃ r, r ≤ 16 ∧ FnMK ⟨K, ER⟩ P w mg base r y ioj psj ((inst t16).F j) := by
  intro j y ioj psj h h'
  match j, h with
  | 0, h => cases h; exact (no_kw (by decide +kernel) h').elim
  | 1, h => cases h; exact (no_kw (by decide +kernel) h').elim
  | 2, h => cases h; exact (no_kw (by decide +kernel) h').elim
  | 3, h => cases h; exact (no_kw (by decide +kernel) h').elim
  | 4, h => cases h; exact (no_kw (by decide +kernel) h').elim
  | 5, h => cases h; exact (no_kw (by decide +kernel) h').elim
  | 6, h => cases h; cases h'; exact q6
  | 7, h => cases h; cases h'; exact q7
  | 8, h => cases h; exact (no_kw (by decide +kernel) h').elim
  | 9, h => cases h; exact (no_kw (by decide +kernel) h').elim
  | 10, h => cases h; exact (no_kw (by decide +kernel) h').elim
  | 11, h => cases h; exact (no_kw (by decide +kernel) h').elim
  | 12, h => cases h; exact (no_kw (by decide +kernel) h').elim
  | 13, h => cases h; exact (no_kw (by decide +kernel) h').elim
  | 14, h => cases h; exact (no_kw (by decide +kernel) h').elim
  | 15, h => cases h; exact (no_kw (by decide +kernel) h').elim
  | j + 16, h => cases h
theorem ok16 {f : Addr} {fd : FuncData} (F : FunD K "_law_struck" "_law_struck" (defArgs (top 20)) (defBody (top 20)) (defScope (top 20)) [] [] f fd) (a : AllF ⟨K, ER⟩ P w mg base f16 t16 16) (hr : ∀ y, free.contains y = true → mg y = none) (q6 : ∃ r, r ≤ 16 ∧ FnMK ⟨K, ER⟩ P w mg base r "struck_chart" io6 ["chart", "ties"] s6) (q7 : ∃ r, r ≤ 16 ∧ FnMK ⟨K, ER⟩ P w mg base r "is_within" io7 ["chart", "land", "many"] s7) :
    FnOk P w K mg base (L2.CX P w) 17 f fd ["chart", "numbers"] (spD ⟨K, ER⟩ io16 s16) :=
  @def_ok ⟨K, ER⟩ P w mg base "_law_struck" "_law_struck" _ _ _ [] f fd (inst t16) n16 ["chart", "numbers"] io16 16 s16 b16 f16 [] free kws F sc16 rfl (fun _ _ => rfl) a.2 (fun j y h => by simp at h) hr (fun j y ioj psj h h' => by
    exact kw16 (ER := ER) (P := P) (w := w) (K := K) (mg := mg) (base := base) q6 q7 j y ioj psj h h') ch16
theorem kw17 (q6 : ∃ r, r ≤ 17 ∧ FnMK ⟨K, ER⟩ P w mg base r "struck_chart" io6 ["chart", "ties"] s6) (q7 : ∃ r, r ≤ 17 ∧ FnMK ⟨K, ER⟩ P w mg base r "is_within" io7 ["chart", "land", "many"] s7) : ∀ (j : Nat) (y : PySem.Str) (ioj : List Bool) (psj : List PySem.Str), f17[j]? = some (y, ioj) → kws.lookup y = some psj → ∃ r, r ≤ 17 ∧ FnMK ⟨K, ER⟩ P w mg base r y ioj psj ((inst t17).F j) := by
  intro j y ioj psj h h'
  match j, h with
  | 0, h => cases h; exact (no_kw (by decide +kernel) h').elim
  | 1, h => cases h; exact (no_kw (by decide +kernel) h').elim
  | 2, h => cases h; exact (no_kw (by decide +kernel) h').elim
  | 3, h => cases h; exact (no_kw (by decide +kernel) h').elim
  | 4, h => cases h; exact (no_kw (by decide +kernel) h').elim
  | 5, h => cases h; exact (no_kw (by decide +kernel) h').elim
  | 6, h => cases h; cases h'; exact q6
  | 7, h => cases h; cases h'; exact q7
  | 8, h => cases h; exact (no_kw (by decide +kernel) h').elim
  | 9, h => cases h; exact (no_kw (by decide +kernel) h').elim
  | 10, h => cases h; exact (no_kw (by decide +kernel) h').elim
  | 11, h => cases h; exact (no_kw (by decide +kernel) h').elim
  | 12, h => cases h; exact (no_kw (by decide +kernel) h').elim
  | 13, h => cases h; exact (no_kw (by decide +kernel) h').elim
  | 14, h => cases h; exact (no_kw (by decide +kernel) h').elim
  | 15, h => cases h; exact (no_kw (by decide +kernel) h').elim
  | 16, h => cases h; exact (no_kw (by decide +kernel) h').elim
  | j + 17, h => cases h
theorem ok17 {f : Addr} {fd : FuncData} (F : FunD K "_law_broken" "_law_broken" (defArgs (top 21)) (defBody (top 21)) (defScope (top 21)) [] [] f fd) (a : AllF ⟨K, ER⟩ P w mg base f17 t17 17) (hr : ∀ y, free.contains y = true → mg y = none) (q6 : ∃ r, r ≤ 17 ∧ FnMK ⟨K, ER⟩ P w mg base r "struck_chart" io6 ["chart", "ties"] s6) (q7 : ∃ r, r ≤ 17 ∧ FnMK ⟨K, ER⟩ P w mg base r "is_within" io7 ["chart", "land", "many"] s7) :
    FnOk P w K mg base (L2.CX P w) 18 f fd ["chart", "land"] (spD ⟨K, ER⟩ io17 s17) :=
  @def_ok ⟨K, ER⟩ P w mg base "_law_broken" "_law_broken" _ _ _ [] f fd (inst t17) n17 ["chart", "land"] io17 17 s17 b17 f17 [] free kws F sc17 rfl (fun _ _ => rfl) a.2 (fun j y h => by simp at h) hr (fun j y ioj psj h h' => by
    exact kw17 (ER := ER) (P := P) (w := w) (K := K) (mg := mg) (base := base) q6 q7 j y ioj psj h h') ch17
theorem kw18 (q6 : ∃ r, r ≤ 18 ∧ FnMK ⟨K, ER⟩ P w mg base r "struck_chart" io6 ["chart", "ties"] s6) (q7 : ∃ r, r ≤ 18 ∧ FnMK ⟨K, ER⟩ P w mg base r "is_within" io7 ["chart", "land", "many"] s7) : ∀ (j : Nat) (y : PySem.Str) (ioj : List Bool) (psj : List PySem.Str), f18[j]? = some (y, ioj) → kws.lookup y = some psj → ∃ r, r ≤ 18 ∧ FnMK ⟨K, ER⟩ P w mg base r y ioj psj ((inst t18).F j) := by
  intro j y ioj psj h h'
  match j, h with
  | 0, h => cases h; exact (no_kw (by decide +kernel) h').elim
  | 1, h => cases h; exact (no_kw (by decide +kernel) h').elim
  | 2, h => cases h; exact (no_kw (by decide +kernel) h').elim
  | 3, h => cases h; exact (no_kw (by decide +kernel) h').elim
  | 4, h => cases h; exact (no_kw (by decide +kernel) h').elim
  | 5, h => cases h; exact (no_kw (by decide +kernel) h').elim
  | 6, h => cases h; cases h'; exact q6
  | 7, h => cases h; cases h'; exact q7
  | 8, h => cases h; exact (no_kw (by decide +kernel) h').elim
  | 9, h => cases h; exact (no_kw (by decide +kernel) h').elim
  | 10, h => cases h; exact (no_kw (by decide +kernel) h').elim
  | 11, h => cases h; exact (no_kw (by decide +kernel) h').elim
  | 12, h => cases h; exact (no_kw (by decide +kernel) h').elim
  | 13, h => cases h; exact (no_kw (by decide +kernel) h').elim
  | 14, h => cases h; exact (no_kw (by decide +kernel) h').elim
  | 15, h => cases h; exact (no_kw (by decide +kernel) h').elim
  | 16, h => cases h; exact (no_kw (by decide +kernel) h').elim
  | 17, h => cases h; exact (no_kw (by decide +kernel) h').elim
  | j + 18, h => cases h
theorem ok18 {f : Addr} {fd : FuncData} (F : FunD K "_law_within" "_law_within" (defArgs (top 22)) (defBody (top 22)) (defScope (top 22)) [] [] f fd) (a : AllF ⟨K, ER⟩ P w mg base f18 t18 18) (hr : ∀ y, free.contains y = true → mg y = none) (q6 : ∃ r, r ≤ 18 ∧ FnMK ⟨K, ER⟩ P w mg base r "struck_chart" io6 ["chart", "ties"] s6) (q7 : ∃ r, r ≤ 18 ∧ FnMK ⟨K, ER⟩ P w mg base r "is_within" io7 ["chart", "land", "many"] s7) :
    FnOk P w K mg base (L2.CX P w) 19 f fd ["chart", "land"] (spD ⟨K, ER⟩ io18 s18) :=
  @def_ok ⟨K, ER⟩ P w mg base "_law_within" "_law_within" _ _ _ [] f fd (inst t18) n18 ["chart", "land"] io18 18 s18 b18 f18 [] free kws F sc18 rfl (fun _ _ => rfl) a.2 (fun j y h => by simp at h) hr (fun j y ioj psj h h' => by
    exact kw18 (ER := ER) (P := P) (w := w) (K := K) (mg := mg) (base := base) q6 q7 j y ioj psj h h') ch18
theorem kw19 (q6 : ∃ r, r ≤ 19 ∧ FnMK ⟨K, ER⟩ P w mg base r "struck_chart" io6 ["chart", "ties"] s6) (q7 : ∃ r, r ≤ 19 ∧ FnMK ⟨K, ER⟩ P w mg base r "is_within" io7 ["chart", "land", "many"] s7) : ∀ (j : Nat) (y : PySem.Str) (ioj : List Bool) (psj : List PySem.Str), f19[j]? = some (y, ioj) → kws.lookup y = some psj → ∃ r, r ≤ 19 ∧ FnMK ⟨K, ER⟩ P w mg base r y ioj psj ((inst t19).F j) := by
  intro j y ioj psj h h'
  match j, h with
  | 0, h => cases h; exact (no_kw (by decide +kernel) h').elim
  | 1, h => cases h; exact (no_kw (by decide +kernel) h').elim
  | 2, h => cases h; exact (no_kw (by decide +kernel) h').elim
  | 3, h => cases h; exact (no_kw (by decide +kernel) h').elim
  | 4, h => cases h; exact (no_kw (by decide +kernel) h').elim
  | 5, h => cases h; exact (no_kw (by decide +kernel) h').elim
  | 6, h => cases h; cases h'; exact q6
  | 7, h => cases h; cases h'; exact q7
  | 8, h => cases h; exact (no_kw (by decide +kernel) h').elim
  | 9, h => cases h; exact (no_kw (by decide +kernel) h').elim
  | 10, h => cases h; exact (no_kw (by decide +kernel) h').elim
  | 11, h => cases h; exact (no_kw (by decide +kernel) h').elim
  | 12, h => cases h; exact (no_kw (by decide +kernel) h').elim
  | 13, h => cases h; exact (no_kw (by decide +kernel) h').elim
  | 14, h => cases h; exact (no_kw (by decide +kernel) h').elim
  | 15, h => cases h; exact (no_kw (by decide +kernel) h').elim
  | 16, h => cases h; exact (no_kw (by decide +kernel) h').elim
  | 17, h => cases h; exact (no_kw (by decide +kernel) h').elim
  | 18, h => cases h; exact (no_kw (by decide +kernel) h').elim
  | j + 19, h => cases h
theorem ok19 {f : Addr} {fd : FuncData} (F : FunD K "_law_strikes" "_law_strikes" (defArgs (top 23)) (defBody (top 23)) (defScope (top 23)) [] [] f fd) (a : AllF ⟨K, ER⟩ P w mg base f19 t19 19) (hr : ∀ y, free.contains y = true → mg y = none) (q6 : ∃ r, r ≤ 19 ∧ FnMK ⟨K, ER⟩ P w mg base r "struck_chart" io6 ["chart", "ties"] s6) (q7 : ∃ r, r ≤ 19 ∧ FnMK ⟨K, ER⟩ P w mg base r "is_within" io7 ["chart", "land", "many"] s7) :
    FnOk P w K mg base (L2.CX P w) 20 f fd ["pool", "chart", "broken"] (spD ⟨K, ER⟩ io19 s19) :=
  @def_ok ⟨K, ER⟩ P w mg base "_law_strikes" "_law_strikes" _ _ _ [] f fd (inst t19) n19 ["pool", "chart", "broken"] io19 19 s19 b19 f19 [] free kws F sc19 rfl (fun _ _ => rfl) a.2 (fun j y h => by simp at h) hr (fun j y ioj psj h h' => by
    exact kw19 (ER := ER) (P := P) (w := w) (K := K) (mg := mg) (base := base) q6 q7 j y ioj psj h h') ch19
theorem kw20 (q6 : ∃ r, r ≤ 20 ∧ FnMK ⟨K, ER⟩ P w mg base r "struck_chart" io6 ["chart", "ties"] s6) (q7 : ∃ r, r ≤ 20 ∧ FnMK ⟨K, ER⟩ P w mg base r "is_within" io7 ["chart", "land", "many"] s7) : ∀ (j : Nat) (y : PySem.Str) (ioj : List Bool) (psj : List PySem.Str), f20[j]? = some (y, ioj) → kws.lookup y = some psj → ∃ r, r ≤ 20 ∧ FnMK ⟨K, ER⟩ P w mg base r y ioj psj ((inst t20).F j) := by
  intro j y ioj psj h h'
  match j, h with
  | 0, h => cases h; exact (no_kw (by decide +kernel) h').elim
  | 1, h => cases h; exact (no_kw (by decide +kernel) h').elim
  | 2, h => cases h; exact (no_kw (by decide +kernel) h').elim
  | 3, h => cases h; exact (no_kw (by decide +kernel) h').elim
  | 4, h => cases h; exact (no_kw (by decide +kernel) h').elim
  | 5, h => cases h; exact (no_kw (by decide +kernel) h').elim
  | 6, h => cases h; cases h'; exact q6
  | 7, h => cases h; cases h'; exact q7
  | 8, h => cases h; exact (no_kw (by decide +kernel) h').elim
  | 9, h => cases h; exact (no_kw (by decide +kernel) h').elim
  | 10, h => cases h; exact (no_kw (by decide +kernel) h').elim
  | 11, h => cases h; exact (no_kw (by decide +kernel) h').elim
  | 12, h => cases h; exact (no_kw (by decide +kernel) h').elim
  | 13, h => cases h; exact (no_kw (by decide +kernel) h').elim
  | 14, h => cases h; exact (no_kw (by decide +kernel) h').elim
  | 15, h => cases h; exact (no_kw (by decide +kernel) h').elim
  | 16, h => cases h; exact (no_kw (by decide +kernel) h').elim
  | 17, h => cases h; exact (no_kw (by decide +kernel) h').elim
  | 18, h => cases h; exact (no_kw (by decide +kernel) h').elim
  | 19, h => cases h; exact (no_kw (by decide +kernel) h').elim
  | j + 20, h => cases h
theorem ok20 {f : Addr} {fd : FuncData} (F : FunD K "_law_exact" "_law_exact" (defArgs (top 24)) (defBody (top 24)) (defScope (top 24)) [] [] f fd) (a : AllF ⟨K, ER⟩ P w mg base f20 t20 20) (hr : ∀ y, free.contains y = true → mg y = none) (q6 : ∃ r, r ≤ 20 ∧ FnMK ⟨K, ER⟩ P w mg base r "struck_chart" io6 ["chart", "ties"] s6) (q7 : ∃ r, r ≤ 20 ∧ FnMK ⟨K, ER⟩ P w mg base r "is_within" io7 ["chart", "land", "many"] s7) :
    FnOk P w K mg base (L2.CX P w) 21 f fd ["chart", "land", "broken"] (spD ⟨K, ER⟩ io20 s20) :=
  @def_ok ⟨K, ER⟩ P w mg base "_law_exact" "_law_exact" _ _ _ [] f fd (inst t20) n20 ["chart", "land", "broken"] io20 20 s20 b20 f20 [] free kws F sc20 rfl (fun _ _ => rfl) a.2 (fun j y h => by simp at h) hr (fun j y ioj psj h h' => by
    exact kw20 (ER := ER) (P := P) (w := w) (K := K) (mg := mg) (base := base) q6 q7 j y ioj psj h h') ch20
theorem kw21 (q6 : ∃ r, r ≤ 21 ∧ FnMK ⟨K, ER⟩ P w mg base r "struck_chart" io6 ["chart", "ties"] s6) (q7 : ∃ r, r ≤ 21 ∧ FnMK ⟨K, ER⟩ P w mg base r "is_within" io7 ["chart", "land", "many"] s7) : ∀ (j : Nat) (y : PySem.Str) (ioj : List Bool) (psj : List PySem.Str), f21[j]? = some (y, ioj) → kws.lookup y = some psj → ∃ r, r ≤ 21 ∧ FnMK ⟨K, ER⟩ P w mg base r y ioj psj ((inst t21).F j) := by
  intro j y ioj psj h h'
  match j, h with
  | 0, h => cases h; exact (no_kw (by decide +kernel) h').elim
  | 1, h => cases h; exact (no_kw (by decide +kernel) h').elim
  | 2, h => cases h; exact (no_kw (by decide +kernel) h').elim
  | 3, h => cases h; exact (no_kw (by decide +kernel) h').elim
  | 4, h => cases h; exact (no_kw (by decide +kernel) h').elim
  | 5, h => cases h; exact (no_kw (by decide +kernel) h').elim
  | 6, h => cases h; cases h'; exact q6
  | 7, h => cases h; cases h'; exact q7
  | 8, h => cases h; exact (no_kw (by decide +kernel) h').elim
  | 9, h => cases h; exact (no_kw (by decide +kernel) h').elim
  | 10, h => cases h; exact (no_kw (by decide +kernel) h').elim
  | 11, h => cases h; exact (no_kw (by decide +kernel) h').elim
  | 12, h => cases h; exact (no_kw (by decide +kernel) h').elim
  | 13, h => cases h; exact (no_kw (by decide +kernel) h').elim
  | 14, h => cases h; exact (no_kw (by decide +kernel) h').elim
  | 15, h => cases h; exact (no_kw (by decide +kernel) h').elim
  | 16, h => cases h; exact (no_kw (by decide +kernel) h').elim
  | 17, h => cases h; exact (no_kw (by decide +kernel) h').elim
  | 18, h => cases h; exact (no_kw (by decide +kernel) h').elim
  | 19, h => cases h; exact (no_kw (by decide +kernel) h').elim
  | 20, h => cases h; exact (no_kw (by decide +kernel) h').elim
  | j + 21, h => cases h
theorem ok21 {f : Addr} {fd : FuncData} (F : FunD K "law" "law" (defArgs (top 25)) (defBody (top 25)) (defScope (top 25)) [] [] f fd) (a : AllF ⟨K, ER⟩ P w mg base f21 t21 21) (hr : ∀ y, free.contains y = true → mg y = none) (q6 : ∃ r, r ≤ 21 ∧ FnMK ⟨K, ER⟩ P w mg base r "struck_chart" io6 ["chart", "ties"] s6) (q7 : ∃ r, r ≤ 21 ∧ FnMK ⟨K, ER⟩ P w mg base r "is_within" io7 ["chart", "land", "many"] s7) :
    FnOk P w K mg base (L2.CX P w) 22 f fd ["script"] (spD ⟨K, ER⟩ io21 s21) :=
  @def_ok ⟨K, ER⟩ P w mg base "law" "law" _ _ _ [] f fd (inst t21) n21 ["script"] io21 21 s21 b21 f21 [] free kws F sc21 rfl (fun _ _ => rfl) a.2 (fun j y h => by simp at h) hr (fun j y ioj psj h h' => by
    exact kw21 (ER := ER) (P := P) (w := w) (K := K) (mg := mg) (base := base) q6 q7 j y ioj psj h h') ch21
end
theorem facts {P : Program} {w : World} {K : PySem.W.Frag} {h : Heap} {mg : PySem.Str → Option Value} {f : Addr} (X : K.In h) (G : h.Ns mainGlobals mg) (hfa : mg ("law" : PySem.Str) = some (.ref f)) (c : He.SaysD fa fn K) :
    ∃ fd : FuncData, (∀ (s : Shared) (v : Value), BindsTo s fd ⟨[v], []⟩ [("script", v)]) ∧ ∀ base : Heap, K.In base → base.Ns mainGlobals mg → FnOk P w K mg base (L2.CX P w) 22 f fd ["script"] (spD ⟨K, fun _ _ _ _ => False⟩ io21 s21) := by
  obtain ⟨fd0, F0⟩ := c.def_ 0 (d := d0) rfl
  have g0 := He.glo_ok X G (c.fact 0 (f := .glo "place_numbers") rfl)
  obtain ⟨fd1, F1⟩ := c.def_ 1 (d := d1) rfl
  have g1 := He.glo_ok X G (c.fact 1 (f := .glo "tie_ends") rfl)
  obtain ⟨fd2, F2⟩ := c.def_ 2 (d := d2) rfl
  have g2 := He.glo_ok X G (c.fact 2 (f := .glo "differences_of") rfl)
  obtain ⟨fd3, F3⟩ := c.def_ 3 (d := d3) rfl
  have g3 := He.glo_ok X G (c.fact 3 (f := .glo "keeps") rfl)
  obtain ⟨fd4, F4⟩ := c.def_ 4 (d := d4) rfl
  have g4 := He.glo_ok X G (c.fact 4 (f := .glo "unfit_ties") rfl)
  obtain ⟨fd5, F5⟩ := c.def_ 5 (d := d5) rfl
  have g5 := He.glo_ok X G (c.fact 5 (f := .glo "struck_tie") rfl)
  obtain ⟨fd6, F6⟩ := c.def_ 6 (d := d6) rfl
  have g6 := He.glo_ok X G (c.fact 6 (f := .glo "struck_chart") rfl)
  obtain ⟨fd7, F7⟩ := c.def_ 7 (d := d7) rfl
  have g7 := He.glo_ok X G (c.fact 7 (f := .glo "is_within") rfl)
  obtain ⟨fd8, F8⟩ := c.def_ 8 (d := d8) rfl
  have g8 := He.glo_ok X G (c.fact 8 (f := .glo "_law_pool") rfl)
  obtain ⟨fd9, F9⟩ := c.def_ 9 (d := d9) rfl
  have g9 := He.glo_ok X G (c.fact 9 (f := .glo "_law_draw") rfl)
  obtain ⟨fd10, F10⟩ := c.def_ 10 (d := d10) rfl
  have g10 := He.glo_ok X G (c.fact 10 (f := .glo "_law_names") rfl)
  obtain ⟨fd11, F11⟩ := c.def_ 11 (d := d11) rfl
  have g11 := He.glo_ok X G (c.fact 11 (f := .glo "_law_same") rfl)
  obtain ⟨fd12, F12⟩ := c.def_ 12 (d := d12) rfl
  have g12 := He.glo_ok X G (c.fact 12 (f := .glo "_law_pulls") rfl)
  obtain ⟨fd13, F13⟩ := c.def_ 13 (d := d13) rfl
  have g13 := He.glo_ok X G (c.fact 13 (f := .glo "_law_bounds") rfl)
  obtain ⟨fd14, F14⟩ := c.def_ 14 (d := d14) rfl
  have g14 := He.glo_ok X G (c.fact 14 (f := .glo "_law_lands") rfl)
  obtain ⟨fd15, F15⟩ := c.def_ 15 (d := d15) rfl
  have g15 := He.glo_ok X G (c.fact 15 (f := .glo "_law_scene") rfl)
  obtain ⟨fd16, F16⟩ := c.def_ 16 (d := d16) rfl
  have g16 := He.glo_ok X G (c.fact 16 (f := .glo "_law_struck") rfl)
  obtain ⟨fd17, F17⟩ := c.def_ 17 (d := d17) rfl
  have g17 := He.glo_ok X G (c.fact 17 (f := .glo "_law_broken") rfl)
  obtain ⟨fd18, F18⟩ := c.def_ 18 (d := d18) rfl
  have g18 := He.glo_ok X G (c.fact 18 (f := .glo "_law_within") rfl)
  obtain ⟨fd19, F19⟩ := c.def_ 19 (d := d19) rfl
  have g19 := He.glo_ok X G (c.fact 19 (f := .glo "_law_strikes") rfl)
  obtain ⟨fd20, F20⟩ := c.def_ 20 (d := d20) rfl
  have g20 := He.glo_ok X G (c.fact 20 (f := .glo "_law_exact") rfl)
  obtain ⟨fd21, F21⟩ := c.def_ 21 (d := d21) rfl
  have g21 := He.glo_ok X G (c.fact 21 (f := .glo "law") rfl)
  have hr : ∀ y, free.contains y = true → mg y = none := by
    intro y hy
    have hy : y ∈ free := by simpa using hy
    exact (show ∀ y ∈ (["bool", "enumerate", "int", "isinstance", "len", "list", "max", "min", "range", "sorted", "str", "tuple"] : List PySem.Str), mg y = none from List.forall_mem_cons.mpr ⟨He.free_ok X G (c.fact 22 (f := .free "bool") rfl), List.forall_mem_cons.mpr ⟨He.free_ok X G (c.fact 23 (f := .free "enumerate") rfl), List.forall_mem_cons.mpr ⟨He.free_ok X G (c.fact 24 (f := .free "int") rfl), List.forall_mem_cons.mpr ⟨He.free_ok X G (c.fact 25 (f := .free "isinstance") rfl), List.forall_mem_cons.mpr ⟨He.free_ok X G (c.fact 26 (f := .free "len") rfl), List.forall_mem_cons.mpr ⟨He.free_ok X G (c.fact 27 (f := .free "list") rfl), List.forall_mem_cons.mpr ⟨He.free_ok X G (c.fact 28 (f := .free "max") rfl), List.forall_mem_cons.mpr ⟨He.free_ok X G (c.fact 29 (f := .free "min") rfl), List.forall_mem_cons.mpr ⟨He.free_ok X G (c.fact 30 (f := .free "range") rfl), List.forall_mem_cons.mpr ⟨He.free_ok X G (c.fact 31 (f := .free "sorted") rfl), List.forall_mem_cons.mpr ⟨He.free_ok X G (c.fact 32 (f := .free "str") rfl), List.forall_mem_cons.mpr ⟨He.free_ok X G (c.fact 33 (f := .free "tuple") rfl), fun _ z => absurd z List.not_mem_nil⟩⟩⟩⟩⟩⟩⟩⟩⟩⟩⟩⟩) y hy
  cases hfa.symm.trans g21
  have bl := FunD.bindsA (ps := ["script"]) F21 fun _ _ _ _ _ _ us hl => match us, hl with | [_], _ => rfl
  refine ⟨fd21, fun s v => bl s [v] rfl, fun base _ _ => ?_⟩
  have a0 : AllF ⟨K, fun _ _ _ _ => False⟩ P w mg base f0 t0 0 := AllF.nil
  have o0 := ok0 F0 a0 hr 
  have a1 : AllF ⟨K, fun _ _ _ _ => False⟩ P w mg base f1 t1 1 := a0.snoc (FnM.mk g0 F0 o0 (F0.bindsN fun _ _ _ _ _ _ us hl => match us, hl with | [_], _ => rfl))
  have o1 := ok1 F1 a1 hr 
  have a2 : AllF ⟨K, fun _ _ _ _ => False⟩ P w mg base f2 t2 2 := a1.snoc (FnM.mk g1 F1 o1 (F1.bindsN fun _ _ _ _ _ _ us hl => match us, hl with | [_], _ => rfl))
  have o2 := ok2 F2 a2 hr 
  have a3 : AllF ⟨K, fun _ _ _ _ => False⟩ P w mg base f3 t3 3 := a2.snoc (FnM.mk g2 F2 o2 (F2.bindsN fun _ _ _ _ _ _ us hl => match us, hl with | [_, _], _ => rfl))
  have o3 := ok3 F3 a3 hr 
  have a4 : AllF ⟨K, fun _ _ _ _ => False⟩ P w mg base f4 t4 4 := a3.snoc (FnM.mk g3 F3 o3 (F3.bindsN fun _ _ _ _ _ _ us hl => match us, hl with | [_, _], _ => rfl))
  have o4 := ok4 F4 a4 hr 
  have a5 : AllF ⟨K, fun _ _ _ _ => False⟩ P w mg base f5 t5 5 := a4.snoc (FnM.mk g4 F4 o4 (F4.bindsN fun _ _ _ _ _ _ us hl => match us, hl with | [_, _], _ => rfl))
  have o5 := ok5 F5 a5 hr 
  have a6 : AllF ⟨K, fun _ _ _ _ => False⟩ P w mg base f6 t6 6 := a5.snoc (FnM.mk g5 F5 o5 (F5.bindsN fun _ _ _ _ _ _ us hl => match us, hl with | [_], _ => rfl))
  have o6 := ok6 F6 a6 hr 
  have a7 : AllF ⟨K, fun _ _ _ _ => False⟩ P w mg base f7 t7 7 := a6.snoc (FnM.mk g6 F6 o6 (F6.bindsN fun _ _ _ _ _ _ us hl => match us, hl with | [_, _], _ => rfl))
  have q6 : FnMK ⟨K, fun _ _ _ _ => False⟩ P w mg base 7 "struck_chart" io6 ["chart", "ties"] s6 := ⟨_, _, g6, o6, F6.kp, kb0_of F6 fun _ _ _ _ _ _ us hl => match us, hl with | [_, _], _ => rfl⟩
  have o7 := ok7 F7 a7 hr ⟨_, by decide, q6⟩
  have a8 : AllF ⟨K, fun _ _ _ _ => False⟩ P w mg base f8 t8 8 := a7.snoc (FnM.mk g7 F7 o7 (F7.bindsN fun _ _ _ _ _ _ us hl => match us, hl with | [_, _, _], _ => rfl))
  have q7 : FnMK ⟨K, fun _ _ _ _ => False⟩ P w mg base 8 "is_within" io7 ["chart", "land", "many"] s7 := ⟨_, _, g7, o7, F7.kp, kb0_of F7 fun _ _ _ _ _ _ us hl => match us, hl with | [_, _, _], _ => rfl⟩
  have o8 := ok8 F8 a8 hr ⟨_, by decide, q6⟩ ⟨_, by decide, q7⟩
  have a9 : AllF ⟨K, fun _ _ _ _ => False⟩ P w mg base f9 t9 9 := a8.snoc (FnM.mk g8 F8 o8 (F8.bindsN fun _ _ _ _ _ _ us hl => match us, hl with | [_], _ => rfl))
  have o9 := ok9 F9 a9 hr ⟨_, by decide, q6⟩ ⟨_, by decide, q7⟩
  have a10 : AllF ⟨K, fun _ _ _ _ => False⟩ P w mg base f10 t10 10 := a9.snoc (FnM.mk g9 F9 o9 (F9.bindsN fun _ _ _ _ _ _ us hl => match us, hl with | [_, _], _ => rfl))
  have o10 := ok10 F10 a10 hr ⟨_, by decide, q6⟩ ⟨_, by decide, q7⟩
  have a11 : AllF ⟨K, fun _ _ _ _ => False⟩ P w mg base f11 t11 11 := a10.snoc (FnM.mk g10 F10 o10 (F10.bindsN fun _ _ _ _ _ _ us hl => match us, hl with | [_, _], _ => rfl))
  have o11 := ok11 F11 a11 hr ⟨_, by decide, q6⟩ ⟨_, by decide, q7⟩
  have a12 : AllF ⟨K, fun _ _ _ _ => False⟩ P w mg base f12 t12 12 := a11.snoc (FnM.mk g11 F11 o11 (F11.bindsN fun _ _ _ _ _ _ us hl => match us, hl with | [_, _], _ => rfl))
  have o12 := ok12 F12 a12 hr ⟨_, by decide, q6⟩ ⟨_, by decide, q7⟩
  have a13 : AllF ⟨K, fun _ _ _ _ => False⟩ P w mg base f13 t13 13 := a12.snoc (FnM.mk g12 F12 o12 (F12.bindsN fun _ _ _ _ _ _ us hl => match us, hl with | [_], _ => rfl))
  have o13 := ok13 F13 a13 hr ⟨_, by decide, q6⟩ ⟨_, by decide, q7⟩
  have a14 : AllF ⟨K, fun _ _ _ _ => False⟩ P w mg base f14 t14 14 := a13.snoc (FnM.mk g13 F13 o13 (F13.bindsN fun _ _ _ _ _ _ us hl => match us, hl with | [_, _, _, _], _ => rfl))
  have o14 := ok14 F14 a14 hr ⟨_, by decide, q6⟩ ⟨_, by decide, q7⟩
  have a15 : AllF ⟨K, fun _ _ _ _ => False⟩ P w mg base f15 t15 15 := a14.snoc (FnM.mk g14 F14 o14 (F14.bindsN fun _ _ _ _ _ _ us hl => match us, hl with | [_, _, _], _ => rfl))
  have o15 := ok15 F15 a15 hr ⟨_, by decide, q6⟩ ⟨_, by decide, q7⟩
  have a16 : AllF ⟨K, fun _ _ _ _ => False⟩ P w mg base f16 t16 16 := a15.snoc (FnM.mk g15 F15 o15 (F15.bindsN fun _ _ _ _ _ _ us hl => match us, hl with | [_, _], _ => rfl))
  have o16 := ok16 F16 a16 hr ⟨_, by decide, q6⟩ ⟨_, by decide, q7⟩
  have a17 : AllF ⟨K, fun _ _ _ _ => False⟩ P w mg base f17 t17 17 := a16.snoc (FnM.mk g16 F16 o16 (F16.bindsN fun _ _ _ _ _ _ us hl => match us, hl with | [_, _], _ => rfl))
  have o17 := ok17 F17 a17 hr ⟨_, by decide, q6⟩ ⟨_, by decide, q7⟩
  have a18 : AllF ⟨K, fun _ _ _ _ => False⟩ P w mg base f18 t18 18 := a17.snoc (FnM.mk g17 F17 o17 (F17.bindsN fun _ _ _ _ _ _ us hl => match us, hl with | [_, _], _ => rfl))
  have o18 := ok18 F18 a18 hr ⟨_, by decide, q6⟩ ⟨_, by decide, q7⟩
  have a19 : AllF ⟨K, fun _ _ _ _ => False⟩ P w mg base f19 t19 19 := a18.snoc (FnM.mk g18 F18 o18 (F18.bindsN fun _ _ _ _ _ _ us hl => match us, hl with | [_, _], _ => rfl))
  have o19 := ok19 F19 a19 hr ⟨_, by decide, q6⟩ ⟨_, by decide, q7⟩
  have a20 : AllF ⟨K, fun _ _ _ _ => False⟩ P w mg base f20 t20 20 := a19.snoc (FnM.mk g19 F19 o19 (F19.bindsN fun _ _ _ _ _ _ us hl => match us, hl with | [_, _, _], _ => rfl))
  have o20 := ok20 F20 a20 hr ⟨_, by decide, q6⟩ ⟨_, by decide, q7⟩
  have a21 : AllF ⟨K, fun _ _ _ _ => False⟩ P w mg base f21 t21 21 := a20.snoc (FnM.mk g20 F20 o20 (F20.bindsN fun _ _ _ _ _ _ us hl => match us, hl with | [_, _, _], _ => rfl))
  exact ok21 F21 a21 hr ⟨_, by decide, q6⟩ ⟨_, by decide, q7⟩

theorem mul_r {i j : Int} (h1 : -18446744073709551616 < j) (h2 : j < 18446744073709551616) : O2.mul.sem (.int i) (.int j) = some (.int (i * j)) := if_pos (.inl (.inr ⟨h1, h2⟩))
theorem mul_l {i j : Int} (h1 : -18446744073709551616 < i) (h2 : i < 18446744073709551616) : O2.mul.sem (.int i) (.int j) = some (.int (i * j)) := if_pos (.inl (.inl ⟨h1, h2⟩))
theorem mod_k {i j : Int} (h : 0 < j) : O2.mod.sem (.int i) (.int j) = some (.int (i % j)) := if_pos h
theorem fdiv_k {i j : Int} (h : 0 < j) (h2 : j < 18446744073709551616) : O2.fdiv.sem (.int i) (.int j) = some (.int (i / j)) := if_pos ⟨h, h2⟩
abbrev Pl := Int × Int × Int
def plD (p : Pl) : D := .tup [.int p.1, .int p.2.1, .int p.2.2]
def plsD (l : List Pl) : D := .tup (l.map plD)
theorem map_get {α β : Type} {f : α → β} {l : List α} {i : Nat} {d : β} (h : (l.map f)[i]? = some d) : ∃ p, l[i]? = some p ∧ d = f p := by
  rw [List.getElem?_map] at h
  cases hl : l[i]? with
  | none => rw [hl] at h; cases h
  | some p => rw [hl] at h; cases h; exact ⟨p, rfl, rfl⟩
structure Ti where
  nm : PySem.Str
  u : PySem.Str
  v : PySem.Str
  lo : Option Int
  hi : Option Int
  ps : List Pl
  iu : Nat
  iv : Nat
def oD : Option Int → D
  | none => .non
  | some i => .int i
def tiD (t : Ti) : D := .tup [.str t.nm, .str t.u, .str t.v, oD t.lo, oD t.hi, plsD t.ps]
def geO : Int → Option Int → Bool
  | _, none => true
  | x, some l => decide (l ≤ x)
def leO : Int → Option Int → Bool
  | _, none => true
  | x, some l => decide (x ≤ l)
theorem keeps_ok (t : Ti) (x : Int) : s3 [tiD t, .int x] = .ret (.bl (geO x t.lo && leO x t.hi)) [] := by
  refine @wpF_eq (inst t3) n3.length io3 b3 _ _ _ ?_
  refine ⟨_, rfl, oD t.lo, rfl, by cases t.lo <;> rfl, _, rfl, oD t.hi, rfl, by cases t.hi <;> rfl, ?_⟩
  have hiP : ∀ ρ2 : Ev, ρ2 = [some (tiD t), some (.int x), some (oD t.lo), some (oD t.hi)] → geO x t.lo = true → @wpE (inst t3) (.or (.o2 .isN (.var 3) (.cst .non)) (.o2 .le (.var 1) (.var 3))) ρ2 (fun d ρ => ∃ l, outsOf (ixs io3) ρ = some l ∧ d = .bl (geO x t.lo && leO x t.hi) ∧ l = []) := by
    rintro ρ2 rfl hg
    cases hh : t.hi with
    | none => exact ⟨_, rfl, _, rfl, _, rfl, (fun _ => ⟨_, rfl, by rw [hg]; rfl, rfl⟩), fun z => nomatch z⟩
    | some h => exact ⟨_, rfl, _, rfl, _, rfl, (fun z => nomatch z), fun _ => ⟨_, rfl, _, rfl, _, rfl, _, rfl, by rw [hg]; rfl, rfl⟩⟩
  cases hl : t.lo with
  | none => exact ⟨_, rfl, _, rfl, _, rfl, (fun _ => ⟨_, rfl, (fun _ => by rw [← hl]; exact hiP _ (by rw [hl]; rfl) (by rw [hl]; rfl)), fun z => nomatch z⟩), fun z => nomatch z⟩
  | some l =>
    refine ⟨_, rfl, _, rfl, _, rfl, (fun z => nomatch z), fun _ => ⟨_, rfl, _, rfl, _, rfl, _, rfl, fun z => ?_, fun z => ?_⟩⟩
    · rw [← hl]; exact hiP _ (by rw [hl]; rfl) (by rw [hl]; exact z)
    · refine ⟨_, rfl, ?_, rfl⟩
      show D.bl (decide (l ≤ x)) = D.bl (decide (l ≤ x) && leO x t.hi)
      rw [z]; rfl
theorem nt {b : Bool} (h : (!b) = true) : b = false := by cases b <;> first | rfl | cases h
theorem nf {b : Bool} (h : (!b) = false) : b = true := by cases b <;> first | rfl | cases h
theorem atI_nat {α : Type} {l : List α} {i : Nat} {d : α} (h : l[i]? = some d) : atI l (i : Int) = some d := by
  have hi : i < l.length := (List.getElem?_eq_some_iff.mp h).1
  have e : ixN l.length (i : Int) = some i := by
    unfold ixN
    rw [if_pos (by omega)]
    simp [hi]
  unfold atI
  rw [e]
  exact h
def chD (m : Int) (P : List D) (ts : List Ti) : D := .tup [.int m, .tup P, .tup (ts.map tiD)]
theorem tie_at {m : Int} {P : List D} {ts : List Ti} {i : Nat} {t : Ti} (h : ts[i]? = some t) : O2.idx.sem (.tup (ts.map tiD)) (.int (i : Int)) = some (tiD t) := atI_nat (by rw [List.getElem?_map, h]; rfl)
abbrev Pc := PySem.Str × Int
def pcD (p : Pc) : D := .tup [.str p.1, .int p.2]
def keyP (p : Pc) : Key := .inr p.1
def intsD (n : Nat) : List D := (List.range n).map fun k : Nat => D.int (k : Int)
def numsD (pl : List Pc) : D := .dk false (pl.map keyP) (intsD pl.length)
theorem enum_get : ∀ (ds : List D) (n i : Nat), (enumD n ds)[i]? = ds[i]?.map fun d => .tup [.int ((n + i : Nat) : Int), d]
  | [], _, _ => rfl
  | d :: ds, n, 0 => rfl
  | d :: ds, n, i + 1 => by
    show (enumD (n + 1) ds)[i]? = ds[i]?.map _
    rw [enum_get ds (n + 1) i, show n + 1 + i = n + (i + 1) by omega]
theorem enum_len : ∀ (ds : List D) (n : Nat), (enumD n ds).length = ds.length
  | [], _ => rfl
  | d :: ds, n => congrArg (· + 1) (enum_len ds (n + 1))
theorem enum_some {α : Type} {f : α → D} {l : List α} {i : Nat} {d : D} (h : (enumD 0 (l.map f))[i]? = some d) : ∃ p, l[i]? = some p ∧ d = .tup [.int (i : Int), f p] := by
  rw [enum_get, Nat.zero_add] at h
  cases hd : (l.map f)[i]? with
  | none => rw [hd] at h; cases h
  | some z =>
    rw [hd] at h
    cases h
    obtain ⟨p, h1, rfl⟩ := map_get hd
    exact ⟨p, h1, rfl⟩
theorem fz_ints (n : Nat) : fzDs (intsD n) = intsD n := by
  unfold intsD
  induction (List.range n) with
  | nil => rfl
  | cons k r ih => exact congrArg (D.int k :: ·) ih
theorem intsD_succ (n : Nat) : intsD (n + 1) = intsD n ++ [.int (n : Int)] := by
  unfold intsD
  rw [List.range_succ, List.map_append]
  rfl
theorem take_map {α β : Type} {f : α → β} {l : List α} {i : Nat} {p : α} (h : l[i]? = some p) : (l.take (i + 1)).map f = (l.take i).map f ++ [f p] := by
  rw [List.take_succ, h, List.map_append]
  rfl
theorem numbers_ok (m : Int) (pl : List Pc) (ts : List Ti) (nd : (pl.map (·.1)).Nodup) (hl : pl.length ≤ 1000) : s0 [chD m (pl.map pcD) ts] = .ret (numsD pl) [] := by
  refine @wpF_eq (inst t0) n0.length io0 b0 _ _ _ ?_
  refine ⟨_, rfl, _, rfl, rfl, _, rfl, fun i acc ρ => acc = ((pl.take i).map keyP, intsD i) ∧ ρ = [some (chD m (pl.map pcD) ts), none, none], ⟨rfl, rfl⟩, ?_, ?_⟩
  · rintro i d acc ρ hd ⟨rfl, rfl⟩
    obtain ⟨p, hp, rfl⟩ := enum_some hd
    refine ⟨_, rfl, (fun _ => ⟨_, rfl, _, rfl, rfl, _, rfl, rfl, _, rfl, rfl, ?_, rfl⟩), fun z => nomatch z⟩
    have hno : ((pl.take i).map keyP).any (fun j => decide (j = (.inr p.1 : Key))) = false := by
      rw [List.any_eq_false]
      intro k hk
      obtain ⟨q, hq, rfl⟩ := List.mem_map.mp hk
      obtain ⟨j, hj, hq⟩ := List.mem_iff_getElem.mp hq
      have hj' : j < i := by rw [List.length_take] at hj; omega
      have hjl : j < pl.length := by rw [List.length_take] at hj; omega
      rw [List.getElem_take] at hq
      obtain ⟨hi, hpe⟩ := List.getElem?_eq_some_iff.mp hp
      intro he
      have he : (Sum.inr q.1 : Key) = .inr p.1 := of_decide_eq_true he
      have he : q.1 = p.1 := Sum.inr.inj he
      have := (List.pairwise_iff_getElem.mp nd) j i (by simpa using hjl) (by simpa using hi) hj'
      rw [List.getElem_map, List.getElem_map, hq, hpe] at this
      exact this he
    unfold put
    rw [if_neg (by rw [hno]; exact Bool.false_ne_true), take_map hp, intsD_succ]
    rfl
  · rintro acc ρ ⟨rfl, rfl⟩
    have e0 : (enumD 0 (pl.map pcD)).length = pl.length := by rw [enum_len, List.length_map]
    rw [e0, List.take_length]
    refine ⟨by rw [List.length_map]; show pl.length < 16777216; omega, _, rfl, ?_, rfl⟩
    show D.dk false (pl.map keyP) (fzDs (intsD pl.length)) = _
    rw [fz_ints]
    rfl
theorem look_num : ∀ (pl : List Pc) (c : Nat) (i : Nat) (p : Pc), (pl.map (·.1)).Nodup → pl[i]? = some p → look (.inr p.1 : Key) (pl.map keyP) ((List.range' c pl.length).map fun k : Nat => D.int (k : Int)) = some (.int ((c + i : Nat) : Int))
  | [], _, _, _, _, h => by simp at h
  | q :: pl, c, 0, p, _, h => by
    cases (show q = p by simpa using h)
    show (if (keyP q) = (.inr q.1 : Key) then some (D.int (c : Int)) else _) = _
    rw [if_pos (show keyP q = (.inr q.1 : Key) from rfl)]
    rfl
  | q :: pl, c, i + 1, p, nd, h => by
    have h : pl[i]? = some p := by simpa using h
    obtain ⟨n1, n2⟩ := List.nodup_cons.mp (show (q.1 :: pl.map (·.1)).Nodup from nd)
    have hne : ¬ keyP q = (.inr p.1 : Key) := fun e => n1 (by
      have e : q.1 = p.1 := Sum.inr.inj e
      rw [e]
      exact List.mem_map.mpr ⟨p, List.mem_of_getElem? h, rfl⟩)
    show (if (keyP q) = (.inr p.1 : Key) then some (D.int (c : Int)) else look (.inr p.1) (pl.map keyP) ((List.range' (c + 1) pl.length).map fun k : Nat => D.int (k : Int))) = _
    rw [if_neg hne, look_num pl (c + 1) i p n2 h, show c + 1 + i = c + (i + 1) by omega]
theorem num_at {pl : List Pc} {i : Nat} {p : Pc} (nd : (pl.map (·.1)).Nodup) (h : pl[i]? = some p) : O2.idx.sem (numsD pl) (.str p.1) = some (.int (i : Int)) := by
  show look (.inr p.1 : Key) (pl.map keyP) (intsD pl.length) = _
  have := look_num pl 0 i p nd h
  rw [Nat.zero_add] at this
  unfold intsD
  rw [List.range_eq_range']
  exact this
/-- ties between places of the chart -/
def okT (pl : List Pc) (t : Ti) : Prop := (∃ r, pl[t.iu]? = some (t.u, r)) ∧ (∃ r, pl[t.iv]? = some (t.v, r))
def endD (t : Ti) : D := .tup [.int (t.iu : Int), .int (t.iv : Int)]
theorem ends_ok (m : Int) (pl : List Pc) (ts : List Ti) (nd : (pl.map (·.1)).Nodup) (hl : pl.length ≤ 1000) (ht : ts.length ≤ 1000) (ok : ∀ t ∈ ts, okT pl t) : s1 [chD m (pl.map pcD) ts] = .ret (.lst false (ts.map endD)) [] := by
  refine @wpF_eq (inst t1) n1.length io1 b1 _ _ _ ?_
  refine ⟨_, rfl, rfl, _, rfl, _, _, numbers_ok m pl ts nd hl, _, rfl, ?_⟩
  refine ⟨_, rfl, _, rfl, _, rfl, fun i acc ρ => acc = (ts.take i).map endD ∧ ρ = [some (chD m (pl.map pcD) ts), some (numsD pl), none], ⟨rfl, rfl⟩, ?_, ?_⟩
  · rintro i d acc ρ hd ⟨rfl, rfl⟩
    obtain ⟨t, hp, rfl⟩ := map_get hd
    obtain ⟨⟨r1, h1⟩, ⟨r2, h2⟩⟩ := ok t (List.mem_of_getElem? hp)
    refine ⟨_, rfl, (fun _ => ⟨_, rfl, _, rfl, _, rfl, _, num_at nd h1, rfl, _, rfl, _, rfl, _, rfl, _, num_at nd h2, rfl, ⟨rfl, (by show 2 ≤ 16777216; omega)⟩, ?_, rfl⟩), fun z => nomatch z⟩
    rw [take_map hp]
    rfl
  · rintro acc ρ ⟨rfl, rfl⟩
    have e0 : (ts.map tiD).length = ts.length := by rw [List.length_map]
    rw [e0, List.take_length]
    refine ⟨by rw [List.length_map]; show ts.length ≤ 16777216; omega, _, rfl, ?_, rfl⟩
    show D.lst false (fzDs (ts.map endD)) = _
    have : ∀ l : List Ti, fzDs (l.map endD) = l.map endD := fun l => by
      induction l with
      | nil => rfl
      | cons t l ih => exact congrArg (endD t :: ·) ih
    rw [this]
def dif (ls : List Int) (t : Ti) : Int := ls.getD t.iv 0 - ls.getD t.iu 0
def landD (ls : List Int) : D := .tup (ls.map D.int)
theorem land_at {ls : List Int} {i : Nat} (h : i < ls.length) : O2.idx.sem (landD ls) (.int (i : Int)) = some (.int (ls.getD i 0)) := atI_nat (by rw [List.getElem?_map, List.getElem?_eq_getElem h, List.getD_eq_getElem?_getD, List.getElem?_eq_getElem h]; rfl)
theorem differences_ok (m : Int) (pl : List Pc) (ts : List Ti) (ls : List Int) (nd : (pl.map (·.1)).Nodup) (hl : pl.length ≤ 1000) (ht : ts.length ≤ 1000) (hls : ls.length = pl.length) (ok : ∀ t ∈ ts, okT pl t) : s2 [chD m (pl.map pcD) ts, landD ls] = .ret (.lst false (ts.map fun t => .int (dif ls t))) [] := by
  refine @wpF_eq (inst t2) n2.length io2 b2 _ _ _ ?_
  refine ⟨_, rfl, rfl, _, rfl, _, _, ends_ok m pl ts nd hl ht ok, _, rfl, _, rfl, ?_⟩
  refine ⟨fun i acc ρ => acc = (ts.take i).map (fun t => D.int (dif ls t)) ∧ ρ = [some (chD m (pl.map pcD) ts), some (landD ls), none, none], ⟨rfl, rfl⟩, ?_, ?_⟩
  · rintro i d acc ρ hd ⟨rfl, rfl⟩
    obtain ⟨t, hp, rfl⟩ := map_get hd
    obtain ⟨⟨r1, h1⟩, ⟨r2, h2⟩⟩ := ok t (List.mem_of_getElem? hp)
    have l1 : t.iu < ls.length := by rw [hls]; exact (List.getElem?_eq_some_iff.mp h1).1
    have l2 : t.iv < ls.length := by rw [hls]; exact (List.getElem?_eq_some_iff.mp h2).1
    refine ⟨_, rfl, (fun _ => ⟨_, rfl, _, rfl, _, land_at l2, _, rfl, _, rfl, _, land_at l1, _, rfl, ?_, rfl⟩), fun z => nomatch z⟩
    rw [take_map hp]
    rfl
  · rintro acc ρ ⟨rfl, rfl⟩
    have e0 : (ts.map endD).length = ts.length := by rw [List.length_map]
    rw [e0, List.take_length]
    refine ⟨by rw [List.length_map]; show ts.length ≤ 16777216; omega, _, rfl, ?_, rfl⟩
    show D.lst false (fzDs (ts.map fun t => D.int (dif ls t))) = _
    have : ∀ l : List Ti, fzDs (l.map fun t => D.int (dif ls t)) = l.map fun t => D.int (dif ls t) := fun l => by
      induction l with
      | nil => rfl
      | cons t l ih => exact congrArg (D.int (dif ls t) :: ·) ih
    rw [this]
theorem pick {l : List D} {r : Int} {P : D → Prop} (h0 : 0 ≤ r) (h1 : r < l.length) (hP : ∀ d ∈ l, P d) : ∃ d, O2.idx.sem (.tup l) (.int r) = some d ∧ P d := by
  have hn : r.toNat < l.length := by omega
  refine ⟨l[r.toNat], ?_, hP _ (List.getElem_mem hn)⟩
  have := atI_nat (l := l) (i := r.toNat) (d := l[r.toNat]) (by simp [hn])
  rw [show ((r.toNat : Nat) : Int) = r by omega] at this
  exact this
theorem rng_len : ∀ (n : Nat) (lo : Int), (rngD lo n).length = n
  | 0, _ => rfl
  | n + 1, lo => congrArg (· + 1) (rng_len n (lo + 1))
theorem rng_get : ∀ (n : Nat) (lo : Int) (i : Nat) (d : D), (rngD lo n)[i]? = some d → d = .int (lo + i) ∧ i < n
  | 0, _, _, _, h => by cases h
  | n + 1, lo, 0, d, h => by cases h; exact ⟨by simp, by omega⟩
  | n + 1, lo, i + 1, d, h => by
    obtain ⟨h1, h2⟩ := rng_get n (lo + 1) i d (by simpa [rngD] using h)
    refine ⟨?_, by omega⟩
    rw [h1]
    congr 1
    push_cast
    omega
theorem pl_frz (l : List Pl) : (l.map plD).all frzD = true := by
  rw [List.all_eq_true]
  intro d hd
  obtain ⟨p, _, rfl⟩ := List.mem_map.mp hd
  rfl
theorem rng1 {j : Int} (h0 : -4611686018427387904 ≤ j) (h1 : j < 4611686018427387904) : rngOf [.int j] = some (rngD 0 j.toNat) := if_pos ⟨h0, h1⟩
theorem fz_map (l : List Int) : fzDs (l.map D.int) = l.map D.int := by
  induction l with
  | nil => rfl
  | cons i l ih => exact congrArg (D.int i :: ·) ih
theorem ints_frz (l : List Int) : (l.map D.int).all frzD = true := by
  rw [List.all_eq_true]
  intro d hd
  obtain ⟨p, _, rfl⟩ := List.mem_map.mp hd
  rfl
theorem tuple_k {o : Bool} {xs : List D} (h : xs.all frzD = true) : O1.tuple.sem (.lst o xs) = some (.tup xs) := by
  show (match kids (.lst o xs) with | some xs => some (D.tup xs) | none => none) = _
  have : kids (.lst o xs) = some xs := by
    cases o with
    | true => exact if_pos h
    | false => rfl
  rw [this]
theorem ti_frz (l : List Ti) : (l.map tiD).all frzD = true := by
  rw [List.all_eq_true]
  intro d hd
  obtain ⟨p, _, rfl⟩ := List.mem_map.mp hd
  rfl
theorem pc_frz (l : List Pc) : (l.map pcD).all frzD = true := by
  rw [List.all_eq_true]
  intro d hd
  obtain ⟨p, _, rfl⟩ := List.mem_map.mp hd
  rfl
theorem nth_nat {r : Int} (h : 0 ≤ r) : ∃ n : Nat, r = (n : Int) := ⟨r.toNat, by omega⟩
theorem getD_at {ls : List Int} {i : Nat} (h : i < ls.length) : (ls.map D.int)[i]? = some (.int (ls.getD i 0)) := by
  rw [List.getElem?_map, List.getElem?_eq_getElem h, List.getD_eq_getElem?_getD, List.getElem?_eq_getElem h]; rfl


def keepB (ls : List Int) (t : Ti) : Bool := geO (dif ls t) t.lo && leO (dif ls t) t.hi
def badAt (ls : List Int) (ts : List Ti) (k : Nat) : Bool := match ts[k]? with
  | some t => !keepB ls t
  | none => false
def unf (ls : List Int) (ts : List Ti) (i : Nat) : List Nat := (List.range i).filter (badAt ls ts)
def natsD (l : List Nat) : List D := l.map fun k : Nat => D.int (k : Int)
theorem unf_succ {ls : List Int} {ts : List Ti} {i : Nat} {t : Ti} (h : ts[i]? = some t) : unf ls ts (i + 1) = unf ls ts i ++ if keepB ls t = true then [] else [i] := by
  unfold unf
  rw [List.range_succ, List.filter_append]
  have : badAt ls ts i = !keepB ls t := by unfold badAt; rw [h]
  congr 1
  show (match badAt ls ts i with | true => i :: [] | false => []) = _
  rw [this]
  cases keepB ls t <;> rfl
theorem nats_app (l m : List Nat) : natsD (l ++ m) = natsD l ++ natsD m := List.map_append
theorem nats_frz (l : List Nat) : (natsD l).all frzD = true := by
  rw [List.all_eq_true]
  intro d hd
  obtain ⟨p, _, rfl⟩ := List.mem_map.mp hd
  rfl
theorem nats_fz (l : List Nat) : fzDs (natsD l) = natsD l := by
  induction l with
  | nil => rfl
  | cons k r ih => exact congrArg (D.int k :: ·) ih
theorem nats_len (l : List Nat) : (natsD l).length = l.length := List.length_map _
theorem unf_len (ls : List Int) (ts : List Ti) (i : Nat) : (unf ls ts i).length ≤ i := by
  have := List.length_filter_le (badAt ls ts) (List.range i)
  rw [List.length_range] at this
  exact this
theorem unfit_ok (m : Int) (pl : List Pc) (ts : List Ti) (ls : List Int) (nd : (pl.map (·.1)).Nodup) (hl : pl.length ≤ 1000) (ht : ts.length ≤ 1000) (hls : ls.length = pl.length) (ok : ∀ t ∈ ts, okT pl t) : s4 [chD m (pl.map pcD) ts, landD ls] = .ret (.tup (natsD (unf ls ts ts.length))) [] := by
  refine @wpF_eq (inst t4) n4.length io4 b4 _ _ _ ?_
  repeat (first | refine ⟨_, rfl, ?_⟩ | refine ⟨rfl, ?_⟩ | refine ⟨⟨rfl, Nat.le_of_ble_eq_true rfl⟩, ?_⟩ | refine ⟨Nat.le_of_ble_eq_true rfl, ?_⟩)
  refine ⟨_, _, differences_ok m pl ts ls nd hl ht hls ok, ?_⟩
  repeat (first | refine ⟨_, rfl, ?_⟩ | refine ⟨rfl, ?_⟩ | refine ⟨⟨rfl, Nat.le_of_ble_eq_true rfl⟩, ?_⟩ | refine ⟨Nat.le_of_ble_eq_true rfl, ?_⟩)
  refine ⟨fun i acc ρ => acc = natsD (unf ls ts i) ∧ ρ = [some (chD m (pl.map pcD) ts), some (landD ls), some (.lst false (ts.map fun t => .int (dif ls t))), none, none], ⟨rfl, rfl⟩, ?_, ?_⟩
  · rintro i d acc ρ hd ⟨rfl, rfl⟩
    obtain ⟨t, hp, rfl⟩ := enum_some hd
    repeat (first | refine ⟨_, rfl, ?_⟩ | refine ⟨rfl, ?_⟩ | refine ⟨⟨rfl, Nat.le_of_ble_eq_true rfl⟩, ?_⟩ | refine ⟨Nat.le_of_ble_eq_true rfl, ?_⟩)
    refine ⟨.int (dif ls t), atI_nat (by rw [List.getElem?_map, hp]; rfl), ?_⟩
    repeat (first | refine ⟨_, rfl, ?_⟩ | refine ⟨rfl, ?_⟩ | refine ⟨⟨rfl, Nat.le_of_ble_eq_true rfl⟩, ?_⟩ | refine ⟨Nat.le_of_ble_eq_true rfl, ?_⟩)
    refine ⟨_, _, keeps_ok t (dif ls t), ?_⟩
    repeat (first | refine ⟨_, rfl, ?_⟩ | refine ⟨rfl, ?_⟩ | refine ⟨⟨rfl, Nat.le_of_ble_eq_true rfl⟩, ?_⟩ | refine ⟨Nat.le_of_ble_eq_true rfl, ?_⟩)
    refine ⟨fun z => ?_, fun z => ?_⟩
    · repeat (first | refine ⟨_, rfl, ?_⟩ | refine ⟨rfl, ?_⟩ | refine ⟨⟨rfl, Nat.le_of_ble_eq_true rfl⟩, ?_⟩ | refine ⟨Nat.le_of_ble_eq_true rfl, ?_⟩)
      refine ⟨?_, rfl⟩
      rw [unf_succ hp, if_neg (show ¬ keepB ls t = true from fun q => by rw [show keepB ls t = false from nt z] at q; cases q), nats_app]
      rfl
    · refine ⟨?_, rfl⟩
      rw [unf_succ hp, if_pos (show keepB ls t = true from nf z), List.append_nil]
  · rintro acc ρ ⟨rfl, rfl⟩
    have e0 : (enumD 0 (ts.map tiD)).length = ts.length := by rw [enum_len, List.length_map]
    rw [e0]
    have := unf_len ls ts ts.length
    refine ⟨by rw [nats_len]; show _ ≤ 16777216; omega, _, tuple_k (nats_frz _), ?_⟩
    exact ⟨_, rfl, rfl, rfl⟩
def strk (t : Ti) : Ti := { t with lo := none, hi := none }
theorem strk_ok (t : Ti) : s5 [tiD t] = .ret (tiD (strk t)) [] := by
  refine @wpF_eq (inst t5) n5.length io5 b5 _ _ _ ?_
  repeat (first | refine ⟨_, rfl, ?_⟩ | refine ⟨rfl, ?_⟩ | refine ⟨⟨rfl, Nat.le_of_ble_eq_true rfl⟩, ?_⟩ | refine ⟨Nat.le_of_ble_eq_true rfl, ?_⟩)
  rfl
def strkL (S : List Nat) (ts : List Ti) : List Ti := ts.mapIdx fun i t => if i ∈ S then strk t else t
theorem look_put {κ : Type} [DecidableEq κ] {k j : κ} {v : D} : ∀ {ks : List κ} {vs : List D}, ks.length = vs.length → (look k (put j v ks vs).1 (put j v ks vs).2).isSome = (decide (j = k) || (look k ks vs).isSome) := by
  have zw : ∀ {ks : List κ} {vs : List D}, ks.length = vs.length → (look k ks (List.zipWith (fun i w => if i = j then v else w) ks vs)).isSome = (look k ks vs).isSome := by
    intro ks
    induction ks with
    | nil => intro vs h; cases vs with
      | nil => rfl
      | cons _ _ => simp at h
    | cons i ks ih => intro vs h; cases vs with
      | nil => simp at h
      | cons w vs =>
        rw [List.zipWith_cons_cons]
        show (if i = k then some _ else look k ks _).isSome = (if i = k then some w else look k ks vs).isSome
        split
        · rfl
        · exact ih (by simpa using h)
  have ap : ∀ {ks : List κ} {vs : List D}, ks.length = vs.length → (look k (ks ++ [j]) (vs ++ [v])).isSome = (decide (j = k) || (look k ks vs).isSome) := by
    intro ks
    induction ks with
    | nil => intro vs h; cases vs with
      | nil =>
        show (if j = k then some v else none).isSome = _
        by_cases e : j = k <;> simp [e, look]
      | cons _ _ => simp at h
    | cons i ks ih => intro vs h; cases vs with
      | nil => simp at h
      | cons w vs =>
        show (if i = k then some w else look k (ks ++ [j]) (vs ++ [v])).isSome = (decide (j = k) || (if i = k then some w else look k ks vs).isSome)
        split
        · simp
        · exact ih (by simpa using h)
  have mem : ∀ {ks : List κ} {vs : List D}, ks.length = vs.length → j ∈ ks → (look j ks vs).isSome = true := by
    intro ks
    induction ks with
    | nil => intro vs h hm; cases hm
    | cons i ks ih => intro vs h hm; cases vs with
      | nil => simp at h
      | cons w vs =>
        show (if i = j then some w else look j ks vs).isSome = true
        split
        · rfl
        · rename_i hne
          exact ih (by simpa using h) ((List.mem_cons.mp hm).resolve_left fun e => hne e.symm)
  intro ks vs h
  unfold put
  split
  · rename_i ha
    rw [zw h]
    obtain ⟨i, hi, e⟩ := List.any_eq_true.mp ha
    have e := of_decide_eq_true e
    subst e
    by_cases e : i = k
    · subst e
      rw [mem h hi]
      simp
    · simp [e]
  · exact ap h
theorem put_len {κ : Type} [DecidableEq κ] {j : κ} {v : D} {ks : List κ} {vs : List D} (h : ks.length = vs.length) : (put j v ks vs).1.length = (put j v ks vs).2.length := by
  unfold put
  split
  · show ks.length = _; rw [List.length_zipWith, ← h, Nat.min_self]
  · simp [h]
theorem put_len1 {κ : Type} [DecidableEq κ] {j : κ} {v : D} {ks : List κ} {vs : List D} : (put j v ks vs).1.length ≤ ks.length + 1 := by
  unfold put
  split
  · exact Nat.le_succ _
  · simp
theorem look_fz {k : Key} : ∀ {ks : List Key} {vs : List D}, (look k ks (fzDs vs)).isSome = (look k ks vs).isSome
  | [], _ => by cases ‹List D› <;> rfl
  | j :: ks, [] => rfl
  | j :: ks, v :: vs => by
    show (if j = k then some (fzD v) else look k ks (fzDs vs)).isSome = (if j = k then some v else look k ks vs).isSome
    split
    · rfl
    · exact look_fz
theorem strkL_take {S : List Nat} {ts : List Ti} {i : Nat} {t : Ti} (h : ts[i]? = some t) : (strkL S ts)[i]? = some (if i ∈ S then strk t else t) := by
  unfold strkL
  rw [List.getElem?_mapIdx, h]
  rfl
theorem strkL_len {S : List Nat} {ts : List Ti} : (strkL S ts).length = ts.length := List.length_mapIdx
theorem struck_ok (m : Int) (P : List D) (ts : List Ti) (S : List Nat) (ht : ts.length ≤ 1000) (hS : S.length ≤ 1000) : s6 [chD m P ts, .tup (natsD S)] = .ret (chD m P (strkL S ts)) [] := by
  refine @wpF_eq (inst t6) n6.length io6 b6 _ _ _ ?_
  repeat (first | refine ⟨_, rfl, ?_⟩ | refine ⟨rfl, ?_⟩ | refine ⟨⟨rfl, Nat.le_of_ble_eq_true rfl⟩, ?_⟩ | refine ⟨Nat.le_of_ble_eq_true rfl, ?_⟩)
  refine ⟨fun i acc ρ => acc.1.length = acc.2.length ∧ acc.1.length ≤ i ∧ (∀ k : Nat, (look (.inl (k : Int)) acc.1 acc.2).isSome = decide (k ∈ S.take i)) ∧ ρ = [some (chD m P ts), some (.tup (natsD S)), none, none, none, none], ⟨rfl, Nat.le_refl _, fun k => by simp [look], rfl⟩, ?_, ?_⟩
  · rintro i d acc ρ hd ⟨h1, h2, h3, rfl⟩
    obtain ⟨k, hk, rfl⟩ := map_get hd
    repeat (first | refine ⟨_, rfl, ?_⟩ | refine ⟨rfl, ?_⟩ | refine ⟨⟨rfl, Nat.le_of_ble_eq_true rfl⟩, ?_⟩ | refine ⟨Nat.le_of_ble_eq_true rfl, ?_⟩)
    refine ⟨fun _ => ?_, fun z => nomatch z⟩
    repeat (first | refine ⟨_, rfl, ?_⟩ | refine ⟨rfl, ?_⟩ | refine ⟨⟨rfl, Nat.le_of_ble_eq_true rfl⟩, ?_⟩ | refine ⟨Nat.le_of_ble_eq_true rfl, ?_⟩)
    refine ⟨put_len h1, Nat.le_trans put_len1 (by omega), fun j => ?_, rfl⟩
    rw [look_put h1, h3, List.take_succ, hk]
    have e : (decide ((Sum.inl (k : Int) : Key) = .inl (j : Int))) = decide (j = k) := by
      congr 1
      apply propext
      constructor
      · intro q
        have := Sum.inl.inj q
        omega
      · intro q; subst q; rfl
    rw [e]
    simp [Bool.or_comm]
  · rintro ⟨ks, vs⟩ ρ ⟨h1, h2, h3, rfl⟩
    rw [nats_len] at h2 h3
    rw [List.take_length] at h3
    refine ⟨by show ks.length < 16777216; have : ks.length ≤ S.length := h2; omega, ?_⟩
    repeat (first | refine ⟨_, rfl, ?_⟩ | refine ⟨rfl, ?_⟩ | refine ⟨⟨rfl, Nat.le_of_ble_eq_true rfl⟩, ?_⟩ | refine ⟨Nat.le_of_ble_eq_true rfl, ?_⟩)
    refine ⟨fun i acc ρ => acc = ((strkL S ts).take i).map tiD ∧ ρ = [some (chD m P ts), some (.tup (natsD S)), some (.dk false ks (fzDs vs)), none, none, none], ⟨rfl, rfl⟩, ?_, ?_⟩
    · rintro i d acc ρ hd ⟨rfl, rfl⟩
      obtain ⟨t, hp, rfl⟩ := enum_some hd
      repeat (first | refine ⟨_, rfl, ?_⟩ | refine ⟨rfl, ?_⟩ | refine ⟨⟨rfl, Nat.le_of_ble_eq_true rfl⟩, ?_⟩ | refine ⟨Nat.le_of_ble_eq_true rfl, ?_⟩)
      refine ⟨fun _ => ?_, fun z => nomatch z⟩
      repeat (first | refine ⟨_, rfl, ?_⟩ | refine ⟨rfl, ?_⟩ | refine ⟨⟨rfl, Nat.le_of_ble_eq_true rfl⟩, ?_⟩ | refine ⟨Nat.le_of_ble_eq_true rfl, ?_⟩)
      have e : (look (.inl (i : Int)) ks (fzDs vs)).isSome = decide (i ∈ S) := by rw [look_fz]; exact h3 i
      refine ⟨fun z => ?_, fun z => ?_⟩
      · have z : (look (.inl (i : Int)) ks (fzDs vs)).isSome = true := z
        rw [e] at z
        repeat (first | refine ⟨_, rfl, ?_⟩ | refine ⟨rfl, ?_⟩ | refine ⟨⟨rfl, Nat.le_of_ble_eq_true rfl⟩, ?_⟩ | refine ⟨Nat.le_of_ble_eq_true rfl, ?_⟩)
        refine ⟨_, _, strk_ok t, ?_⟩
        repeat (first | refine ⟨_, rfl, ?_⟩ | refine ⟨rfl, ?_⟩ | refine ⟨⟨rfl, Nat.le_of_ble_eq_true rfl⟩, ?_⟩ | refine ⟨Nat.le_of_ble_eq_true rfl, ?_⟩)
        refine ⟨?_, rfl⟩
        rw [take_map (strkL_take hp), if_pos (of_decide_eq_true z)]
      · have z : (look (.inl (i : Int)) ks (fzDs vs)).isSome = false := z
        rw [e] at z
        repeat (first | refine ⟨_, rfl, ?_⟩ | refine ⟨rfl, ?_⟩ | refine ⟨⟨rfl, Nat.le_of_ble_eq_true rfl⟩, ?_⟩ | refine ⟨Nat.le_of_ble_eq_true rfl, ?_⟩)
        refine ⟨?_, rfl⟩
        rw [take_map (strkL_take hp), if_neg (of_decide_eq_false z)]
    · rintro acc ρ ⟨rfl, rfl⟩
      have e0 : (enumD 0 (ts.map tiD)).length = ts.length := by rw [enum_len, List.length_map]
      rw [e0, List.take_of_length_le (by rw [strkL_len]; exact Nat.le_refl _)]
      refine ⟨by rw [List.length_map, strkL_len]; show _ ≤ 16777216; omega, ?_⟩
      repeat (first | refine ⟨_, rfl, ?_⟩ | refine ⟨rfl, ?_⟩ | refine ⟨⟨rfl, Nat.le_of_ble_eq_true rfl⟩, ?_⟩ | refine ⟨Nat.le_of_ble_eq_true rfl, ?_⟩)
      refine ⟨_, tuple_k (ti_frz _), ?_⟩
      repeat (first | refine ⟨_, rfl, ?_⟩ | refine ⟨rfl, ?_⟩ | refine ⟨⟨rfl, Nat.le_of_ble_eq_true rfl⟩, ?_⟩ | refine ⟨Nat.le_of_ble_eq_true rfl, ?_⟩)
      rfl
theorem within_ok (m : Int) (pl : List Pc) (ts : List Ti) (ls : List Int) (k : Int) (nd : (pl.map (·.1)).Nodup) (hl : pl.length ≤ 1000) (ht : ts.length ≤ 1000) (hls : ls.length = pl.length) (ok : ∀ t ∈ ts, okT pl t) : s7 [chD m (pl.map pcD) ts, landD ls, .int k] = .ret (.bl (decide (((unf ls ts ts.length).length : Int) ≤ k))) [] := by
  refine @wpF_eq (inst t7) n7.length io7 b7 _ _ _ ?_
  repeat (first | refine ⟨_, rfl, ?_⟩ | refine ⟨rfl, ?_⟩ | refine ⟨⟨rfl, Nat.le_of_ble_eq_true rfl⟩, ?_⟩ | refine ⟨Nat.le_of_ble_eq_true rfl, ?_⟩)
  refine ⟨_, _, unfit_ok m pl ts ls nd hl ht hls ok, ?_⟩
  repeat (first | refine ⟨_, rfl, ?_⟩ | refine ⟨rfl, ?_⟩ | refine ⟨⟨rfl, Nat.le_of_ble_eq_true rfl⟩, ?_⟩ | refine ⟨Nat.le_of_ble_eq_true rfl, ?_⟩)
  refine ⟨?_, rfl⟩
  show D.bl (decide (((natsD (unf ls ts ts.length)).length : Int) ≤ k)) = _
  rw [nats_len]


/-! ### drawing -/
abbrev po (g mx c : Int) : D := .lst true [.int g, .int mx, .int c]
theorem draw_ex (g mx c m : Int) (h0 : 0 < m) (h1 : m < 18446744073709551616) : ∃ r g' mx' c', 0 ≤ r ∧ r < m ∧ s9 [po g mx c, .int m] = .ret (.int r) [po g' mx' c'] := by
  by_cases hg : 0 < g
  · refine ⟨g % m, g / m, mx, c, Int.emod_nonneg _ (by omega), Int.emod_lt_of_pos _ h0, @wpF_eq (inst t9) n9.length io9 b9 _ _ _ ?_⟩
    repeat (first | refine ⟨_, rfl, ?_⟩ | refine ⟨rfl, ?_⟩ | refine ⟨⟨rfl, Nat.le_of_ble_eq_true rfl⟩, ?_⟩ | refine ⟨Nat.le_of_ble_eq_true rfl, ?_⟩)
    refine ⟨fun _ => ?_, fun z => absurd hg (of_decide_eq_false z)⟩
    repeat (first | refine ⟨_, rfl, ?_⟩ | refine ⟨rfl, ?_⟩ | refine ⟨⟨rfl, Nat.le_of_ble_eq_true rfl⟩, ?_⟩ | refine ⟨Nat.le_of_ble_eq_true rfl, ?_⟩)
    refine ⟨_, mod_k h0, ?_⟩
    repeat (first | refine ⟨_, rfl, ?_⟩ | refine ⟨rfl, ?_⟩ | refine ⟨⟨rfl, Nat.le_of_ble_eq_true rfl⟩, ?_⟩ | refine ⟨Nat.le_of_ble_eq_true rfl, ?_⟩)
    refine ⟨_, fdiv_k h0 h1, ?_⟩
    repeat (first | refine ⟨_, rfl, ?_⟩ | refine ⟨rfl, ?_⟩ | refine ⟨⟨rfl, Nat.le_of_ble_eq_true rfl⟩, ?_⟩ | refine ⟨Nat.le_of_ble_eq_true rfl, ?_⟩)
    refine .inl ⟨_, _, _, rfl, rfl, rfl, ?_⟩
    repeat (first | refine ⟨_, rfl, ?_⟩ | refine ⟨rfl, ?_⟩ | refine ⟨⟨rfl, Nat.le_of_ble_eq_true rfl⟩, ?_⟩ | refine ⟨Nat.le_of_ble_eq_true rfl, ?_⟩)
    rfl
  · have main : @wpF (inst t9) n9.length io9 b9 [po g mx c, .int m] (fun d l => ∃ r g' mx' c', 0 ≤ r ∧ r < m ∧ d = .int r ∧ l = [po g' mx' c']) := by
      repeat (first | refine ⟨_, rfl, ?_⟩ | refine ⟨rfl, ?_⟩ | refine ⟨⟨rfl, Nat.le_of_ble_eq_true rfl⟩, ?_⟩ | refine ⟨Nat.le_of_ble_eq_true rfl, ?_⟩)
      refine ⟨fun z => absurd (of_decide_eq_true z) hg, fun _ => ?_⟩
      repeat (first | refine ⟨_, rfl, ?_⟩ | refine ⟨rfl, ?_⟩ | refine ⟨⟨rfl, Nat.le_of_ble_eq_true rfl⟩, ?_⟩ | refine ⟨Nat.le_of_ble_eq_true rfl, ?_⟩)
      refine .inl ⟨_, _, _, rfl, rfl, rfl, ?_⟩
      repeat (first | refine ⟨_, rfl, ?_⟩ | refine ⟨rfl, ?_⟩ | refine ⟨⟨rfl, Nat.le_of_ble_eq_true rfl⟩, ?_⟩ | refine ⟨Nat.le_of_ble_eq_true rfl, ?_⟩)
      refine ⟨_, mul_r (by omega) (by omega), ?_⟩
      repeat (first | refine ⟨_, rfl, ?_⟩ | refine ⟨rfl, ?_⟩ | refine ⟨⟨rfl, Nat.le_of_ble_eq_true rfl⟩, ?_⟩ | refine ⟨Nat.le_of_ble_eq_true rfl, ?_⟩)
      refine ⟨_, mul_r (by omega) (by omega), ?_⟩
      repeat (first | refine ⟨_, rfl, ?_⟩ | refine ⟨rfl, ?_⟩ | refine ⟨⟨rfl, Nat.le_of_ble_eq_true rfl⟩, ?_⟩ | refine ⟨Nat.le_of_ble_eq_true rfl, ?_⟩)
      refine .inl ⟨_, _, _, rfl, rfl, rfl, ?_⟩
      repeat (first | refine ⟨_, rfl, ?_⟩ | refine ⟨rfl, ?_⟩ | refine ⟨⟨rfl, Nat.le_of_ble_eq_true rfl⟩, ?_⟩ | refine ⟨Nat.le_of_ble_eq_true rfl, ?_⟩)
      refine ⟨_, mod_k h0, ?_⟩
      exact ⟨_, rfl, _, _, _, _, Int.emod_nonneg _ (by omega), Int.emod_lt_of_pos _ h0, rfl, rfl⟩
    obtain ⟨d, l, e1, r, g', mx', c', e2, e3, rfl, rfl⟩ := @wpF_ok (inst t9) _ _ _ _ _ main
    exact ⟨r, g', mx', c', e2, e3, e1⟩
theorem pow_kk {a : Int} {b : Nat} (h1 : -18446744073709551616 < a) (h2 : a < 18446744073709551616) (h3 : b ≤ 1000000) : O2.pow.sem (.int a) (.int (b : Int)) = some (.int (a ^ b)) := by
  show (if (0 ≤ ((b : Nat) : Int) ∧ ((b : Nat) : Int) ≤ 1000000) ∧ (-18446744073709551616 < a ∧ a < 18446744073709551616) then some (D.int (a ^ ((b : Nat) : Int).toNat)) else none) = _
  rw [if_pos ⟨⟨by omega, by omega⟩, h1, h2⟩, Int.toNat_natCast]
theorem mul_big {i j : Int} (h1 : i.natAbs.log2 < 2000) (h2 : j.natAbs.log2 < 2000) : O2.mul.sem (.int i) (.int j) = some (.int (i * j)) := if_pos (.inr ⟨h1, h2⟩)
theorem pool_ok (ns : List Int) (hl : ns.length ≤ 63) : ∃ g mx, s8 [.scr ns] = .ret (po g mx 0) [] := by
  have main : @wpF (inst t8) n8.length io8 b8 [.scr ns] (fun d l => ∃ g mx, d = po g mx 0 ∧ l = []) := by
    repeat (first | refine ⟨_, rfl, ?_⟩ | refine ⟨rfl, ?_⟩ | refine ⟨⟨rfl, Nat.le_of_ble_eq_true rfl⟩, ?_⟩ | refine ⟨Nat.le_of_ble_eq_true rfl, ?_⟩)
    refine ⟨fun i ρ => ∃ g mx e3 e4, ρ = [some (.scr ns), some (.int g), some (.int mx), e3, e4], ⟨_, _, _, _, rfl⟩, ?_, ?_⟩
    · rintro i d ρ hd ⟨g, mx, e3, e4, rfl⟩
      have hd : ∃ x : Int, d = .int x := by
        have : d ∈ fzDs ((((ns.drop (HT.sIx ns.length 0 none)).take (HT.sIx ns.length ns.length (some 63) - HT.sIx ns.length 0 none)).map D.int)) := List.mem_of_getElem? hd
        rw [fz_map] at this
        obtain ⟨x, _, rfl⟩ := List.mem_map.mp this
        exact ⟨x, rfl⟩
      obtain ⟨x, rfl⟩ := hd
      have key : ∀ (g' h : Int) (e : Option D) (Q : Fl → Ev → Prop), (∀ z, Q .nx [some (.scr ns), some (.int g'), some (.int z), e, some (.int h)]) → @wpSs (inst t8) (.cons (.asg 2 (.o2 .mod (.o1 .int (.o2 .add (.o2 .add (.o2 .mul (.var 2) (.cst (.int 69621))) (.o2 .mul (.o2 .mod (.var 4) (.cst (.int 999979))) (.cst (.int 13)))) (.cst (.int 11)))) (.cst (.int 2147483647)))) .nil) [some (.scr ns), some (.int g'), some (.int mx), e, some (.int h)] Q := by
        intro g' h e Q hQ
        repeat (first | refine ⟨_, rfl, ?_⟩ | refine ⟨rfl, ?_⟩ | refine ⟨⟨rfl, Nat.le_of_ble_eq_true rfl⟩, ?_⟩ | refine ⟨Nat.le_of_ble_eq_true rfl, ?_⟩)
        refine ⟨_, mul_r (by omega) (by omega), ?_⟩
        repeat (first | refine ⟨_, rfl, ?_⟩ | refine ⟨rfl, ?_⟩ | refine ⟨⟨rfl, Nat.le_of_ble_eq_true rfl⟩, ?_⟩ | refine ⟨Nat.le_of_ble_eq_true rfl, ?_⟩)
        refine ⟨_, mul_r (by omega) (by omega), ?_⟩
        repeat (first | refine ⟨_, rfl, ?_⟩ | refine ⟨rfl, ?_⟩ | refine ⟨⟨rfl, Nat.le_of_ble_eq_true rfl⟩, ?_⟩ | refine ⟨Nat.le_of_ble_eq_true rfl, ?_⟩)
        exact hQ _
      have key2 : ∀ (h : Int) (e : Option D) (Q : Fl → Ev → Prop), (∀ g z, Q .nx [some (.scr ns), some (.int g), some (.int z), e, some (.int h)]) → @wpSs (inst t8) (.cons (.iff (.and (.o2 .eq (.var 1) (.cst (.int 0))) (.o2 .ge (.var 4) (.o2 .pow (.cst (.int 10)) (.cst (.int 18))))) (.cons (.asg 1 (.o2 .mod (.var 4) (.o2 .mul (.o2 .mul (.o2 .mul (.o2 .pow (.cst (.int 10)) (.cst (.int 60))) (.o2 .pow (.cst (.int 10)) (.cst (.int 60)))) (.o2 .pow (.cst (.int 10)) (.cst (.int 60)))) (.o2 .pow (.cst (.int 10)) (.cst (.int 60)))))) .nil) .nil) (.cons (.asg 2 (.o2 .mod (.o1 .int (.o2 .add (.o2 .add (.o2 .mul (.var 2) (.cst (.int 69621))) (.o2 .mul (.o2 .mod (.var 4) (.cst (.int 999979))) (.cst (.int 13)))) (.cst (.int 11)))) (.cst (.int 2147483647)))) .nil)) [some (.scr ns), some (.int g), some (.int mx), e, some (.int h)] Q := by
        intro h e Q hQ
        have P60 : O2.pow.sem (.int 10) (.int 60) = some (.int (10 ^ 60)) := pow_kk (a := 10) (b := 60) (by omega) (by omega) (by decide)
        have P18 : O2.pow.sem (.int 10) (.int 18) = some (.int (10 ^ 18)) := pow_kk (a := 10) (b := 18) (by omega) (by omega) (by decide)
        refine ⟨_, rfl, _, rfl, _, rfl, (fun _ => ?_), fun z => ⟨_, rfl, (fun z2 => nomatch z.symm.trans z2), fun _ => key _ _ _ _ fun z => hQ _ z⟩⟩
        refine ⟨_, rfl, _, P18, _, rfl, _, rfl, (fun _ => ?_), fun _ => key _ _ _ _ fun z => hQ _ z⟩
        refine ⟨_, rfl, _, P60, _, P60, _, mul_big (by decide +kernel) (by decide +kernel), _, P60, _, mul_big (by decide +kernel) (by decide +kernel), _, P60, _, mul_big (by decide +kernel) (by decide +kernel), _, mod_k (by decide +kernel), ?_⟩
        exact key _ _ _ _ fun z => hQ _ z
      refine ⟨_, rfl, _, rfl, _, rfl, _, rfl, _, rfl, _, rfl, (fun _ => ⟨_, rfl, _, rfl, ?_⟩), fun _ => ?_⟩
      · exact key2 _ _ _ fun g z => ⟨g, z, _, _, rfl⟩
      · exact key2 _ _ _ fun g z => ⟨g, z, _, _, rfl⟩
    · rintro ρ ⟨g, mx, e3, e4, rfl⟩
      repeat (first | refine ⟨_, rfl, ?_⟩ | refine ⟨rfl, ?_⟩ | refine ⟨⟨rfl, Nat.le_of_ble_eq_true rfl⟩, ?_⟩ | refine ⟨Nat.le_of_ble_eq_true rfl, ?_⟩)
      exact ⟨g, mx, rfl, rfl⟩
  obtain ⟨d, l, h1, g, mx, rfl, rfl⟩ := @wpF_ok (inst t8) _ _ _ _ _ main
  exact ⟨g, mx, h1⟩


/-! ### names -/
def unS : D → PySem.Str
  | .str x => x
  | _ => ""
theorem sort_strs (l : List PySem.Str) (hl : l.length ≤ 1000) : ∃ l' : List PySem.Str, l'.Perm l ∧ O1.srt.sem (.lst true (l.map D.str)) = some (.lst true (l'.map D.str)) := by
  have hp : (srtL (l.map D.str)).Perm (l.map D.str) := List.mergeSort_perm _ _
  have hm : ∀ d ∈ l.map D.str, ∃ x, d = .str x := fun d hd => by
    obtain ⟨x, _, rfl⟩ := List.mem_map.mp hd
    exact ⟨x, rfl⟩
  have e1 : ((srtL (l.map D.str)).map unS).map D.str = srtL (l.map D.str) := by
    rw [List.map_map]
    refine (List.map_congr_left (g := id) fun d hd => ?_).trans (List.map_id _)
    obtain ⟨x, rfl⟩ := hm d (hp.mem_iff.mp hd)
    rfl
  refine ⟨(srtL (l.map D.str)).map unS, ?_, ?_⟩
  · have := hp.map unS
    rw [List.map_map] at this
    refine this.trans (.of_eq ?_)
    exact (List.map_congr_left (g := id) fun d hd => rfl).trans (List.map_id _)
  · rw [e1]
    show sortS (l.map D.str) = _
    unfold sortS
    rw [if_pos]
    refine ⟨⟨⟨?_, .inr ?_⟩, ?_⟩, ?_, ?_⟩
    · unfold ordB
      rw [List.all_eq_true]
      intro d hd
      obtain ⟨x, rfl⟩ := hm d hd
      rw [List.all_eq_true]
      intro e he
      obtain ⟨y, rfl⟩ := hm e he
      rfl
    · rw [List.all_eq_true]
      intro d hd
      obtain ⟨x, rfl⟩ := hm d hd
      rfl
    · rw [List.all_eq_true]
      intro d hd
      obtain ⟨x, rfl⟩ := hm d hd
      rfl
    · rw [List.length_map]
      show _ ≤ 16777216
      omega
    · rw [List.all_eq_true]
      intro d hd
      obtain ⟨x, rfl⟩ := hm d hd
      rfl
theorem strs_fz (l : List PySem.Str) : fzDs (l.map D.str) = l.map D.str := by
  induction l with
  | nil => rfl
  | cons k r ih => exact congrArg (D.str k :: ·) ih
def LT : List Nat := ("acdefghijkmnopqrstuvwxyz" : PySem.Str).cps.toList
def chS (c : Nat) : PySem.Str := ⟨#[c]⟩
theorem letter_at (r : Nat) (h : r < 24) : O2.idx.sem (.str "acdefghijkmnopqrstuvwxyz") (.int (r : Int)) = some (.str (chS (LT.getD r 0))) := by
  have hl : LT.length = 24 := by decide +kernel
  have e : atI LT (r : Int) = some (LT.getD r 0) := atI_nat (by rw [List.getD_eq_getElem?_getD, List.getElem?_eq_getElem (by omega)]; rfl)
  show (if ("acdefghijkmnopqrstuvwxyz" : PySem.Str).length ≤ lim then (match atI LT (r : Int) with
      | some c => some (D.str ⟨#[c]⟩)
      | none => none) else none) = _
  rw [if_pos (by decide +kernel), e]
  rfl
theorem nodup_range {α : Type} {f : Nat → α} {n : Nat} (h : ∀ i j, i < j → j < n → f i ≠ f j) : ((List.range n).map f).Nodup := by
  refine List.pairwise_map.mpr (List.pairwise_lt_range.imp_of_mem fun ha hb hlt => ?_)
  exact h _ _ hlt (List.mem_range.mp hb)
theorem LT_inj {p q : Nat} (hp : p < 24) (hq : q < 24) (h : LT.getD p 0 = LT.getD q 0) : p = q :=
  (by decide +kernel : ∀ p, p < 24 → ∀ q, q < 24 → LT.getD p 0 = LT.getD q 0 → p = q) p hp q hq h
theorem chS_inj {c d : Nat} (h : chS c = chS d) : c = d := by
  have : [c] = [d] := congrArg (fun s : PySem.Str => s.cps.toList) h
  simpa using this
def fA0 (a k : Nat) : PySem.Str := chS (LT.getD ((a + 7 * k) % 24) 0)
theorem f0_nd {a n : Nat} (hn : n < 25) : ((List.range n).map (fA0 a)).Nodup := nodup_range fun i j h1 h2 e => by
  have := LT_inj (Nat.mod_lt _ (by decide)) (Nat.mod_lt _ (by decide)) (chS_inj e)
  omega
theorem app_cps (x y : PySem.Str) : (x ++ y).cps.toList = x.cps.toList ++ y.cps.toList := Array.toList_append
theorem app_len (x y : PySem.Str) : (x ++ y).length = x.length + y.length := by
  show (x ++ y).cps.size = x.cps.size + y.cps.size
  rw [← Array.length_toList, app_cps, List.length_append, Array.length_toList, Array.length_toList]
def fA1 (a k : Nat) : PySem.Str := chS (LT.getD a 0) ++ repS "0" (k : Int)
theorem rep0_len (k : Nat) : (repS "0" (k : Int)).length = k := by
  show (repS "0" (k : Int)).cps.size = k
  unfold repS
  rw [List.size_toArray, List.length_flatten, Int.toNat_natCast]
  have : ((("0" : PySem.Str)).cps.toList).length = 1 := by decide +kernel
  simp only [List.map_replicate, List.sum_replicate_nat, this, Nat.mul_one]
theorem f1_len (a k : Nat) : (fA1 a k).length = k + 1 := by
  unfold fA1
  rw [app_len, rep0_len]
  show 1 + k = k + 1
  omega
theorem f1_nd {a n : Nat} : ((List.range n).map (fA1 a)).Nodup := nodup_range fun i j h1 h2 e => by
  have := congrArg PySem.Str.length e
  rw [f1_len, f1_len] at this
  omega
def dgs (k : Nat) : List Nat := (PySem.Str.ofString (toString (k : Int))).cps.toList
def isDg (c : Nat) : Bool := decide (48 ≤ c ∧ c ≤ 57)
theorem dgs_all : ∀ k, k < 80 → (dgs k).all isDg = true := by decide +kernel
theorem dgs_inj : ∀ k, k < 80 → ∀ j, j < 80 → dgs k = dgs j → k = j := by decide +kernel
def tailsL : List PySem.Str := ["", "", "z", "a9", "m0c0"]
theorem tails_ok : ∀ t ∈ tailsL, t.cps.toList.takeWhile isDg = [] ∧ t.length ≤ 4 := by decide +kernel
def fA2 (c k : Nat) (t : PySem.Str) : PySem.Str := (chS c ++ PySem.Str.ofString (toString (k : Int))) ++ t
theorem f2_dec {c k : Nat} {t : PySem.Str} (hk : k < 80) (ht : t ∈ tailsL) : ((fA2 c k t).cps.toList.drop 1).takeWhile isDg = dgs k := by
  unfold fA2
  rw [app_cps, app_cps]
  show ((dgs k) ++ t.cps.toList).takeWhile isDg = dgs k
  rw [List.takeWhile_append_of_pos (fun a ha => List.all_eq_true.mp (dgs_all k hk) a ha), (tails_ok t ht).1, List.append_nil]
theorem dgs_len : ∀ k, k < 80 → (dgs k).length ≤ 2 := by decide +kernel
theorem pickL {o : Bool} {l : List D} {r : Int} {P : D → Prop} (h0 : 0 ≤ r) (h1 : r < l.length) (hP : ∀ d ∈ l, P d) : ∃ d, O2.idx.sem (.lst o l) (.int r) = some d ∧ P d := pick h0 h1 hP
theorem mul_str0 (i : Nat) (h : i ≤ 1000) : O2.mul.sem (.str "0") (.int (i : Int)) = some (.str (repS "0" (i : Int))) := by
  have h1 : (("0" : PySem.Str)).length = 1 := by decide +kernel
  show (if (-9223372036854775808 ≤ (i : Int) ∧ (i : Int) < 9223372036854775808) ∧ (("0" : PySem.Str)).length * (i : Int).toNat ≤ lim ∧ (("0" : PySem.Str)).length ≤ lim then some (D.str (repS "0" (i : Int))) else none) = _
  rw [h1, if_pos]
  refine ⟨⟨by omega, by omega⟩, ?_, ?_⟩
  · rw [Int.toNat_natCast, Nat.one_mul]
    show i ≤ 16777216
    omega
  · show 1 ≤ 16777216
    omega
theorem str_nat (k : Nat) (h : k ≤ 1000) : O1.str.sem (.int (k : Int)) = some (.str (PySem.Str.ofString (toString (k : Int)))) := by
  show (if -1000000000000000000 < (k : Int) ∧ (k : Int) < 1000000000000000000 then some (D.str (PySem.Str.ofString (toString (k : Int)))) else none) = _
  rw [if_pos ⟨by omega, by omega⟩]
theorem if_and {I : Fns} {a b : E} {S1 S2 : Ss} {ρ : Ev} {Q : Fl → Ev → Prop} {p q : Bool} (ha : ∀ Q' : D → Ev → Prop, Q' (.bl p) ρ → @wpE I a ρ Q') (hb : p = true → ∀ Q' : D → Ev → Prop, Q' (.bl q) ρ → @wpE I b ρ Q') (h1 : (p && q) = true → @wpSs I S1 ρ Q) (h2 : (p && q) = false → @wpSs I S2 ρ Q) : @wpS I (.iff (.and a b) S1 S2) ρ Q := by
  cases p with
  | true => exact ha _ ⟨true, rfl, (fun _ => hb rfl _ ⟨q, rfl, (fun z => h1 z), fun z => h2 z⟩), fun z => nomatch z⟩
  | false => exact ha _ ⟨false, rfl, (fun z => nomatch z), fun _ => ⟨false, rfl, (fun z => nomatch z), fun _ => h2 rfl⟩⟩
theorem if_or {I : Fns} {a b : E} {S1 S2 : Ss} {ρ : Ev} {Q : Fl → Ev → Prop} {p q : Bool} (ha : ∀ Q' : D → Ev → Prop, Q' (.bl p) ρ → @wpE I a ρ Q') (hb : p = false → ∀ Q' : D → Ev → Prop, Q' (.bl q) ρ → @wpE I b ρ Q') (h1 : (p || q) = true → @wpSs I S1 ρ Q) (h2 : (p || q) = false → @wpSs I S2 ρ Q) : @wpS I (.iff (.or a b) S1 S2) ρ Q := by
  cases p with
  | false => exact ha _ ⟨false, rfl, (fun z => nomatch z), fun _ => hb rfl _ ⟨q, rfl, (fun z => h1 z), fun z => h2 z⟩⟩
  | true => exact ha _ ⟨true, rfl, (fun _ => ⟨true, rfl, (fun _ => h1 rfl), fun z => nomatch z⟩), fun z => nomatch z⟩
theorem and_tt {p q : Prop} [Decidable p] [Decidable q] (h : (decide p && decide q) = true) : p ∧ q := by simpa using h
theorem names_ok (g mx c : Int) (many : Nat) (hm : many ≤ 80) : ∃ (l : List PySem.Str) (g' mx' c' : Int), l.length = many ∧ l.Nodup ∧ s10 [po g mx c, .int (many : Int)] = .ret (.lst false (l.map D.str)) [po g' mx' c'] := by
  have main : @wpF (inst t10) n10.length io10 b10 [po g mx c, .int (many : Int)] (fun d o => ∃ (l : List PySem.Str) (g' mx' c' : Int), l.length = many ∧ l.Nodup ∧ d = .lst false (l.map D.str) ∧ o = [po g' mx' c']) := by
    obtain ⟨st, g1, m1, c1, s0', s1', dt⟩ := draw_ex g mx c 3 (by omega) (by omega)
    obtain ⟨a', g2, m2, c2, a0, a1, at_⟩ := draw_ex g1 m1 c1 24 (by omega) (by omega)
    obtain ⟨a, rfl⟩ := nth_nat a0
    repeat (first | refine ⟨_, rfl, ?_⟩ | refine ⟨rfl, ?_⟩ | refine ⟨⟨rfl, Nat.le_of_ble_eq_true rfl⟩, ?_⟩ | refine ⟨Nat.le_of_ble_eq_true rfl, ?_⟩)
    refine ⟨_, _, dt, _, rfl, ?_⟩
    repeat (first | refine ⟨_, rfl, ?_⟩ | refine ⟨rfl, ?_⟩ | refine ⟨⟨rfl, Nat.le_of_ble_eq_true rfl⟩, ?_⟩ | refine ⟨Nat.le_of_ble_eq_true rfl, ?_⟩)
    refine ⟨_, _, at_, _, rfl, ?_⟩
    refine if_and (p := decide (st = 0)) (q := decide ((many : Int) < 25)) (fun Q h => ⟨_, rfl, _, rfl, h⟩) (fun _ Q h => ⟨_, rfl, _, rfl, h⟩) (fun z => ?_) fun z => ?_
    · obtain ⟨_, hm⟩ := and_tt z
      refine ⟨_, rfl, rfl, _, rng1 (by omega) (by omega), fun i acc ρ => acc = ((List.range i).map (fA0 a)).map D.str ∧ ρ = [some (po g2 m2 c2), some (.int (many : Int)), some (.str "acdefghijkmnopqrstuvwxyz"), some (.int st), some (.int (a : Int)), none, none], ⟨rfl, rfl⟩, ?_, ?_⟩
      · rintro i d acc ρ hd ⟨rfl, rfl⟩
        obtain ⟨rfl, hi⟩ := rng_get _ _ _ _ hd
        rw [Int.zero_add]
        refine ⟨_, rfl, fun _ => ?_, fun z => nomatch z⟩
        repeat (first | refine ⟨_, rfl, ?_⟩ | refine ⟨rfl, ?_⟩ | refine ⟨⟨rfl, Nat.le_of_ble_eq_true rfl⟩, ?_⟩ | refine ⟨Nat.le_of_ble_eq_true rfl, ?_⟩)
        refine ⟨.str (fA0 a i), by rw [show ((a : Int) + 7 * (i : Int)) % 24 = (((a + 7 * i) % 24 : Nat) : Int) by omega]; exact letter_at _ (Nat.mod_lt _ (by decide)), rfl, ?_, rfl⟩
        rw [List.range_succ, List.map_append, List.map_append]
        rfl
      · rintro acc ρ ⟨rfl, rfl⟩
        rw [rng_len, show ((many : Int)).toNat = many by omega]
        have hl : ((List.range many).map (fA0 a)).length = many := by rw [List.length_map, List.length_range]
        obtain ⟨l', hp, hs⟩ := sort_strs ((List.range many).map (fA0 a)) (by omega)
        refine ⟨by rw [List.length_map, hl]; show many ≤ 16777216; omega, _, hs, _, rfl, l', g2, m2, c2, by rw [hp.length_eq, hl], hp.nodup_iff.mpr (f0_nd (by omega)), ?_, rfl⟩
        exact congrArg (D.lst false) (strs_fz l')
    refine if_and (p := decide (st = 1)) (q := decide ((many : Int) < 8)) (fun Q h => ⟨_, rfl, _, rfl, h⟩) (fun _ Q h => ⟨_, rfl, _, rfl, h⟩) (fun z => ?_) fun z => ?_
    · obtain ⟨_, hm⟩ := and_tt z
      refine ⟨_, rfl, rfl, _, rng1 (by omega) (by omega), fun i acc ρ => acc = ((List.range i).map (fA1 a)).map D.str ∧ ρ = [some (po g2 m2 c2), some (.int (many : Int)), some (.str "acdefghijkmnopqrstuvwxyz"), some (.int st), some (.int (a : Int)), none, none], ⟨rfl, rfl⟩, ?_, ?_⟩
      · rintro i d acc ρ hd ⟨rfl, rfl⟩
        obtain ⟨rfl, hi⟩ := rng_get _ _ _ _ hd
        rw [Int.zero_add]
        refine ⟨_, rfl, fun _ => ?_, fun z => nomatch z⟩
        refine ⟨_, rfl, _, rfl, _, letter_at a (by omega), _, rfl, .str (repS "0" (i : Int)), ?_, .str (fA1 a i), ?_, ?_, rfl⟩
        · exact mul_str0 i (by omega)
        · refine if_pos ?_
          rw [rep0_len]
          show 1 + i ≤ 16777216
          omega
        · rw [List.range_succ, List.map_append, List.map_append]
          rfl
      · rintro acc ρ ⟨rfl, rfl⟩
        rw [rng_len, show ((many : Int)).toNat = many by omega]
        have hl : ((List.range many).map (fA1 a)).length = many := by rw [List.length_map, List.length_range]
        obtain ⟨l', hp, hs⟩ := sort_strs ((List.range many).map (fA1 a)) (by omega)
        refine ⟨by rw [List.length_map, hl]; show many ≤ 16777216; omega, _, hs, _, rfl, l', g2, m2, c2, by rw [hp.length_eq, hl], hp.nodup_iff.mpr f1_nd, ?_, rfl⟩
        exact congrArg (D.lst false) (strs_fz l')
    refine ⟨(Nat.le_of_ble_eq_true rfl), _, rfl, rfl, ?_⟩
    refine ⟨_, rng1 (by omega) (by omega), fun i acc ρ => ∃ g mx c l, acc = (l : List PySem.Str).map D.str ∧ l.length = i ∧ (∀ k s, l[k]? = some s → ∃ c t, t ∈ tailsL ∧ s = fA2 c k t) ∧ ρ = [some (po g mx c), some (.int (many : Int)), some (.str "acdefghijkmnopqrstuvwxyz"), some (.int st), some (.int (a : Int)), some (.lst false (tailsL.map D.str)), none], ⟨_, _, _, [], rfl, rfl, fun k s h => by simp at h, rfl⟩, ?_, ?_⟩
    · rintro i d acc ρ hd ⟨g, mx, c, l, rfl, rfl, hl, rfl⟩
      obtain ⟨rfl, hi⟩ := rng_get _ _ _ _ hd
      rw [Int.zero_add]
      obtain ⟨r', g3, m3, c3, r0, r1, rt⟩ := draw_ex g mx c 24 (by omega) (by omega)
      obtain ⟨r, rfl⟩ := nth_nat r0
      obtain ⟨q, g4, m4, c4, q0, q1, qt⟩ := draw_ex g3 m3 c3 5 (by omega) (by omega)
      obtain ⟨_, hq, t, ht, rfl⟩ := pickL (o := false) (l := tailsL.map D.str) (P := fun d => ∃ t, t ∈ tailsL ∧ d = .str t) q0 q1 (fun d hd => by
        obtain ⟨x, hx, rfl⟩ := List.mem_map.mp hd
        exact ⟨x, hx, rfl⟩)
      have hd2 := dgs_len l.length (by omega)
      have hd3 : (PySem.Str.ofString (toString (l.length : Int))).length ≤ 2 := by
        have : (dgs l.length).length = (PySem.Str.ofString (toString (l.length : Int))).length := Array.length_toList
        omega
      refine ⟨_, rfl, fun _ => ?_, fun z => nomatch z⟩
      refine ⟨_, rfl, rfl, _, rfl, _, rfl, _, _, rt, _, rfl, _, letter_at r (by omega), _, rfl, .str (PySem.Str.ofString (toString (l.length : Int))), str_nat l.length (by omega), .str (chS (LT.getD r 0) ++ PySem.Str.ofString (toString (l.length : Int))), if_pos ?_, ?_⟩
      · show 1 + _ ≤ 16777216
        omega
      refine ⟨_, rfl, rfl, _, rfl, _, rfl, _, _, qt, _, rfl, _, hq, .str (fA2 (LT.getD r 0) l.length t), if_pos ?_, ?_⟩
      · rw [app_len]
        have := (tails_ok t ht).2
        show 1 + _ + _ ≤ 16777216
        omega
      refine ⟨g4, m4, c4, l ++ [fA2 (LT.getD r 0) l.length t], by rw [List.map_append]; rfl, by simp, fun k s hk => ?_, rfl⟩
      by_cases hkl : k < l.length
      · rw [List.getElem?_append_left hkl] at hk
        exact hl k s hk
      · have : k = l.length := by
          have := (List.getElem?_eq_some_iff.mp hk).1
          rw [List.length_append] at this
          simp at this
          omega
        subst this
        rw [List.getElem?_append_right (Nat.le_refl _), Nat.sub_self] at hk
        cases hk
        exact ⟨_, t, ht, rfl⟩
    · rintro acc ρ ⟨g, mx, c, l, rfl, hll, hl, rfl⟩
      rw [rng_len, show ((many : Int)).toNat = many by omega] at hll
      have nd : l.Nodup := by
        refine List.pairwise_iff_getElem.mpr fun i j hi hj hij e => ?_
        obtain ⟨c1, t1, h1, e1⟩ := hl i l[i] (by simp [hi])
        obtain ⟨c2, t2, h2, e2⟩ := hl j l[j] (by simp [hj])
        have d1 := f2_dec (c := c1) (show i < 80 by omega) h1
        have d2 := f2_dec (c := c2) (show j < 80 by omega) h2
        rw [← e1] at d1
        rw [← e2, ← e] at d2
        have := dgs_inj i (by omega) j (by omega) (d1.symm.trans d2)
        omega
      obtain ⟨l', hp, hs⟩ := sort_strs l (by omega)
      refine ⟨by rw [List.length_map]; show _ ≤ 16777216; omega, _, hs, _, rfl, l', g, mx, c, by rw [hp.length_eq, hll], hp.nodup_iff.mpr nd, ?_, rfl⟩
      exact congrArg (D.lst false) (strs_fz l')
  obtain ⟨d, l, h1, q, g', m', c', h2, h3, rfl, rfl⟩ := @wpF_ok (inst t10) _ _ _ _ _ main
  exact ⟨q, g', m', c', h2, h3, h1⟩


/-! ### two of the same -/
mutual
def okD : D → Bool
  | .non => true
  | .int _ => true
  | .str _ => true
  | .tup xs => okDs xs
  | _ => false
def okDs : List D → Bool
  | [] => true
  | d :: ds => okD d && okDs ds
end
mutual
def szD : D → Nat
  | .tup xs => 1 + szDs xs
  | _ => 1
def szDs : List D → Nat
  | [] => 0
  | d :: ds => szD d + szDs ds
end
theorem okDs_app : ∀ (l m : List D), okDs (l ++ m) = (okDs l && okDs m)
  | [], m => rfl
  | d :: l, m => by
    show (okD d && okDs (l ++ m)) = ((okD d && okDs l) && okDs m)
    rw [okDs_app l m, Bool.and_assoc]
theorem szDs_app : ∀ (l m : List D), szDs (l ++ m) = szDs l + szDs m
  | [], m => (Nat.zero_add _).symm
  | d :: l, m => by
    show szD d + szDs (l ++ m) = (szD d + szDs l) + szDs m
    rw [szDs_app l m, Nat.add_assoc]
theorem szD_pos (d : D) : 1 ≤ szD d := by
  cases d <;> first
    | exact Nat.le_refl 1
    | exact Nat.le_add_right 1 _
theorem szDs_len : ∀ (l : List D), l.length ≤ szDs l
  | [] => Nat.le_refl _
  | d :: l => by
    have := szDs_len l
    have := szD_pos d
    show l.length + 1 ≤ szD d + szDs l
    omega
theorem okDs_get : ∀ {l : List D} {i : Nat} {d : D}, okDs l = true → l[i]? = some d → okD d = true
  | [], _, _, _, h => by simp at h
  | e :: l, 0, d, h, h2 => by
    cases (show e = d by simpa using h2)
    exact (Bool.and_eq_true_iff.mp (show (okD e && okDs l) = true from h)).1
  | e :: l, i + 1, d, h, h2 => okDs_get (Bool.and_eq_true_iff.mp (show (okD e && okDs l) = true from h)).2 (by simpa using h2)
theorem okD_frz {d : D} (h : okD d = true) : frzD d = true := by
  cases d <;> first
    | rfl
    | cases h
def prD (d : D) : D := .tup [d, d]
theorem pop_ok {i : Nat} {ρ : Ev} {l : List D} {d : D} (h : getV ρ i = some (.lst true (l ++ [d]))) (hf : frzD d = true) : onL popF i ρ = .ok d (ρ.set i (some (.lst true l))) := by
  have e1 : (l ++ [d])[(l ++ [d]).length - 1]? = some d := by simp
  unfold onL popF
  rw [h]
  dsimp only
  rw [e1]
  dsimp only
  rw [if_pos hf, List.dropLast_concat]
theorem snoc_of {α : Type} : ∀ {l : List α}, l ≠ [] → ∃ m x, l = m ++ [x] := fun {l} h => ⟨l.dropLast, l.getLast h, (List.dropLast_concat_getLast h).symm⟩
theorem inner (xs st' : List D) (d z : D) (e6 : Option D) (okxs : okDs xs = true) (lx : xs.length ≤ 200000) (lst : st'.length ≤ 200000) (Q : Fl → Ev → Prop) (h : ∀ e6, Q .nx [some d, some d, some (.lst true ((st' ++ xs).map prD)), some z, some (.tup xs), some (.tup xs), e6]) :
    @wpSs (inst t11) (.cons (.forr (.nm 6) (.rng (.cons (.o1 .len (.var 5)) .nil)) (.cons (.app 2 (.tup (.cons (.ck (.o2 .idx (.var 4) (.var 6))) (.cons (.ck (.o2 .idx (.var 5) (.var 6))) .nil)))) .nil)) .nil) [some d, some d, some (.lst true (st'.map prD)), some z, some (.tup xs), some (.tup xs), e6] Q := by
  refine ⟨_, rfl, _, rfl, _, rng1 (by omega) (by omega), fun k ρ => ∃ e6, ρ = [some d, some d, some (.lst true ((st' ++ xs.take k).map prD)), some z, some (.tup xs), some (.tup xs), e6], ⟨e6, by rw [List.take_zero, List.append_nil]⟩, ?_, ?_⟩
  · rintro k w ρ hk ⟨e6, rfl⟩
    obtain ⟨rfl, hk⟩ := rng_get _ _ _ _ hk
    have hk : k < xs.length := by omega
    rw [Int.zero_add]
    obtain ⟨x, hx⟩ : ∃ x, xs[k]? = some x := ⟨xs[k], by simp [hk]⟩
    have fx := okD_frz (okDs_get okxs hx)
    have ix : O2.idx.sem (.tup xs) (.int (k : Int)) = some x := atI_nat hx
    refine ⟨_, rfl, rfl, _, rfl, _, rfl, _, ix, fx, _, rfl, _, rfl, _, ix, fx, ⟨by show (frzD x && (frzD x && true)) = true; rw [fx]; rfl, (Nat.le_of_ble_eq_true rfl)⟩, _, rfl, ?_, some (.int (k : Int)), ?_⟩
    · rw [List.length_map, List.length_append, List.length_take]
      show _ < 16777216
      omega
    · have e : (st' ++ xs.take (k + 1)).map prD = (st' ++ xs.take k).map prD ++ [prD x] := by
        rw [List.take_succ, hx, ← List.append_assoc, List.map_append]
        rfl
      rw [e]
      rfl
  · rintro ρ ⟨e6, rfl⟩
    rw [rng_len, show ((xs.length : Int)).toNat = xs.length by omega, List.take_length]
    exact h e6
theorem same_ok (d : D) (hd : okD d = true) (hs : szD d < 200000) : s11 [d, d] = .ret (.bl true) [] := by
  have fd := okD_frz hd
  refine @wpF_eq (inst t11) n11.length io11 b11 _ _ _ ?_
  refine ⟨_, rfl, fd, _, rfl, fd, ⟨by show (frzD d && (frzD d && true)) = true; rw [fd]; rfl, (Nat.le_of_ble_eq_true rfl)⟩, (Nat.le_of_ble_eq_true rfl), ?_⟩
  refine ⟨_, rng1 (by omega) (by omega), fun i ρ => ∃ st e3 e4 e5 e6, ρ = [some d, some d, some (.lst true ((st : List D).map prD)), e3, e4, e5, e6] ∧ okDs st = true ∧ i + szDs st ≤ szD d, ⟨[d], none, none, none, none, rfl, by show (okD d && true) = true; rw [hd]; rfl, by show 0 + (szD d + 0) ≤ szD d; omega⟩, ?_, ?_⟩
  · rintro i z ρ hz ⟨st, e3, e4, e5, e6, rfl, ok, hsz⟩
    refine ⟨_, rfl, _, rfl, _, rfl, _, rfl, _, rfl, (fun _ => ⟨_, rfl, rfl, rfl⟩), fun hne => ?_⟩
    have hne : st ≠ [] := fun e => by
      subst e
      exact absurd hne (by decide)
    obtain ⟨st', x, rfl⟩ := snoc_of hne
    rw [okDs_app, Bool.and_eq_true] at ok
    have okx : okD x = true := by
      have := ok.2
      exact (Bool.and_eq_true_iff.mp (show (okD x && true) = true from this)).1
    rw [szDs_app] at hsz
    have hsz : i + (szDs st' + (szD x + 0)) ≤ szD d := hsz
    have sx := szD_pos x
    have e1 : (st' ++ [x]).map prD = st'.map prD ++ [prD x] := List.map_append
    refine ⟨_, _, pop_ok (l := st'.map prD) (d := prD x) (by rw [e1]; rfl) rfl, _, rfl, ?_⟩
    cases x with
    | non =>
      repeat (first | refine ⟨_, rfl, ?_⟩ | refine ⟨rfl, ?_⟩ | refine ⟨⟨rfl, Nat.le_of_ble_eq_true rfl⟩, ?_⟩ | refine ⟨Nat.le_of_ble_eq_true rfl, ?_⟩)
      refine ⟨fun _ => ?_, fun z => nomatch z⟩
      repeat (first | refine ⟨_, rfl, ?_⟩ | refine ⟨rfl, ?_⟩ | refine ⟨⟨rfl, Nat.le_of_ble_eq_true rfl⟩, ?_⟩ | refine ⟨Nat.le_of_ble_eq_true rfl, ?_⟩)
      refine ⟨(fun z => nomatch z), fun _ => ?_⟩
      exact ⟨st', _, _, _, _, rfl, ok.1, by omega⟩
    | int n =>
      have hnn : (!decide (n = n)) = false := by simp
      repeat (first | refine ⟨_, rfl, ?_⟩ | refine ⟨rfl, ?_⟩ | refine ⟨⟨rfl, Nat.le_of_ble_eq_true rfl⟩, ?_⟩ | refine ⟨Nat.le_of_ble_eq_true rfl, ?_⟩)
      refine ⟨(fun z => nomatch z), fun _ => ?_⟩
      repeat (first | refine ⟨_, rfl, ?_⟩ | refine ⟨rfl, ?_⟩ | refine ⟨⟨rfl, Nat.le_of_ble_eq_true rfl⟩, ?_⟩ | refine ⟨Nat.le_of_ble_eq_true rfl, ?_⟩)
      refine ⟨(fun z => nomatch z), fun _ => ?_⟩
      repeat (first | refine ⟨_, rfl, ?_⟩ | refine ⟨rfl, ?_⟩ | refine ⟨⟨rfl, Nat.le_of_ble_eq_true rfl⟩, ?_⟩ | refine ⟨Nat.le_of_ble_eq_true rfl, ?_⟩)
      refine ⟨fun _ => ?_, fun z => nomatch z⟩
      refine if_or (p := false) (q := false) (fun Q h => ⟨_, rfl, _, rfl, _, rfl, h⟩) (fun _ Q h => ⟨_, rfl, _, rfl, _, rfl, (fun z => nomatch z), fun _ => ⟨_, rfl, _, rfl, _, rfl, (by show Q (D.bl (!decide (n = n))) _; rw [hnn]; exact h)⟩⟩) (fun z => nomatch z) (fun _ => ?_)
      exact ⟨st', _, _, _, _, rfl, ok.1, by omega⟩
    | str y =>
      have hnn : (!decide (y = y)) = false := by simp
      repeat (first | refine ⟨_, rfl, ?_⟩ | refine ⟨rfl, ?_⟩ | refine ⟨⟨rfl, Nat.le_of_ble_eq_true rfl⟩, ?_⟩ | refine ⟨Nat.le_of_ble_eq_true rfl, ?_⟩)
      refine ⟨(fun z => nomatch z), fun _ => ?_⟩
      repeat (first | refine ⟨_, rfl, ?_⟩ | refine ⟨rfl, ?_⟩ | refine ⟨⟨rfl, Nat.le_of_ble_eq_true rfl⟩, ?_⟩ | refine ⟨Nat.le_of_ble_eq_true rfl, ?_⟩)
      refine ⟨(fun z => nomatch z), fun _ => ?_⟩
      repeat (first | refine ⟨_, rfl, ?_⟩ | refine ⟨rfl, ?_⟩ | refine ⟨⟨rfl, Nat.le_of_ble_eq_true rfl⟩, ?_⟩ | refine ⟨Nat.le_of_ble_eq_true rfl, ?_⟩)
      refine ⟨(fun z => nomatch z), fun _ => ?_⟩
      repeat (first | refine ⟨_, rfl, ?_⟩ | refine ⟨rfl, ?_⟩ | refine ⟨⟨rfl, Nat.le_of_ble_eq_true rfl⟩, ?_⟩ | refine ⟨Nat.le_of_ble_eq_true rfl, ?_⟩)
      refine ⟨fun _ => ?_, fun z => nomatch z⟩
      refine if_or (p := false) (q := false) (fun Q h => ⟨_, rfl, _, rfl, _, rfl, h⟩) (fun _ Q h => ⟨_, rfl, _, rfl, _, rfl, (by show Q (D.bl (!decide (y = y))) _; rw [hnn]; exact h)⟩) (fun z => nomatch z) (fun _ => ?_)
      exact ⟨st', _, _, _, _, rfl, ok.1, by omega⟩
    | tup xs =>
      have hnn : decide ((xs.length : Int) = (xs.length : Int)) = true := by simp
      have okxs : okDs xs = true := okx
      have hsz : i + (szDs st' + ((1 + szDs xs) + 0)) ≤ szD d := hsz
      have lx := szDs_len xs
      have lst := szDs_len st'
      refine ⟨_, rfl, _, rfl, _, rfl, (fun z => nomatch z), fun _ => ?_⟩
      refine ⟨_, rfl, _, rfl, _, rfl, (fun z => nomatch z), fun _ => ?_⟩
      refine ⟨_, rfl, _, rfl, _, rfl, (fun z => nomatch z), fun _ => ?_⟩
      refine ⟨_, rfl, _, rfl, _, rfl, (fun z => nomatch z), fun _ => ?_⟩
      refine if_and (p := true) (q := true) (fun Q h => ⟨_, rfl, _, rfl, h⟩) (fun _ Q h => ⟨_, rfl, _, rfl, _, rfl, (fun _ => ⟨_, rfl, _, rfl, _, rfl, _, rfl, _, rfl, (by show Q (D.bl (decide ((xs.length : Int) = (xs.length : Int)))) _; rw [hnn]; exact h)⟩), fun z => nomatch z⟩) (fun _ => ?_) (fun z => nomatch z)
      exact inner xs st' d z _ okxs (by omega) (by omega) _ fun e6 => ⟨st' ++ xs, _, _, _, _, rfl, by rw [okDs_app, ok.1, okxs]; rfl, by rw [szDs_app]; omega⟩
    | _ => cases okx
  · rintro ρ ⟨st, e3, e4, e5, e6, rfl, ok, hsz⟩
    rw [rng_len] at hsz
    omega


/-! ### pulls, bounds, lands -/
theorem pulls_ok (g mx c : Int) : ∃ (l : List Pl) (g' mx' c' : Int), l.length ≤ 10 ∧ s12 [po g mx c] = .ret (plsD l) [po g' mx' c'] := by
  have main : @wpF (inst t12) n12.length io12 b12 [po g mx c] (fun d o => ∃ (l : List Pl) (g' mx' c' : Int), l.length ≤ 10 ∧ d = plsD l ∧ o = [po g' mx' c']) := by
    obtain ⟨r, g1, m1, c1, r0, r1, rt⟩ := draw_ex g mx c 41 (by omega) (by omega)
    obtain ⟨q, g2, m2, c2, q0, q1, qt⟩ := draw_ex g1 m1 c1 7 (by omega) (by omega)
    refine ⟨(Nat.le_of_ble_eq_true rfl), _, rfl, _, rfl, _, _, rt, _, rfl, _, rfl, ?_⟩
    obtain ⟨k, hk, hk5⟩ : ∃ k : Nat, (if q - 2 > 0 then q - 2 else 0) = (k : Int) ∧ k ≤ 5 := ⟨(if q - 2 > 0 then q - 2 else 0).toNat, by split <;> omega, by split <;> omega⟩
    refine ⟨_, rfl, _, rfl, _, _, qt, _, rfl, _, rfl, .int (k : Int), congrArg (fun i => some (D.int i)) hk, ?_⟩
    refine ⟨_, rng1 (by omega) (by omega), fun i ρ => ∃ g mx c at_ l e3 e4, ρ = [some (po g mx c), some (.lst true ((l : List Pl).map plD)), some (.int at_), e3, e4] ∧ l.length = i, ⟨_, _, _, _, [], _, _, rfl, rfl⟩, ?_, ?_⟩
    · rintro i d ρ hd ⟨g, mx, c, at_, l, e3, e4, rfl, rfl⟩
      obtain ⟨rfl, hi⟩ := rng_get _ _ _ _ hd
      obtain ⟨x, g3, m3, c3, x0, x1, xt⟩ := draw_ex g mx c 5 (by omega) (by omega)
      obtain ⟨y, g4, m4, c4, y0, y1, yt⟩ := draw_ex g3 m3 c3 9 (by omega) (by omega)
      obtain ⟨_, hw, p, u, rfl⟩ := pickL (o := true) (l := [.tup [.int 0, .int 1], .tup [.int 1, .int 0], .tup [.int 3, .int 3], .tup [.int 1000000, .int 2], .tup [.int 5, .int 999999]]) (P := fun d => ∃ p u : Int, d = .tup [.int p, .int u]) x0 x1 (by
        intro d hd
        simp only [List.mem_cons, List.not_mem_nil, or_false] at hd
        rcases hd with rfl | rfl | rfl | rfl | rfl <;> exact ⟨_, _, rfl⟩)
      refine ⟨_, rfl, ?_⟩
      repeat (first | refine ⟨_, rfl, ?_⟩ | refine ⟨rfl, ?_⟩ | refine ⟨⟨rfl, Nat.le_of_ble_eq_true rfl⟩, ?_⟩ | refine ⟨Nat.le_of_ble_eq_true rfl, ?_⟩)
      refine ⟨_, _, xt, _, rfl, _, hw, rfl, ?_⟩
      refine ⟨rfl, _, rfl, rfl, _, rfl, _, rfl, rfl, _, rfl, _, rfl, rfl, ⟨rfl, (Nat.le_of_ble_eq_true rfl)⟩, _, rfl, ?_, ?_⟩
      · rw [List.length_map]
        show _ < 16777216
        omega
      refine ⟨_, rfl, _, rfl, _, rfl, _, rfl, _, _, yt, _, rfl, _, rfl, ?_⟩
      refine ⟨g4, m4, c4, _, l ++ [(at_, p, u)], _, _, by rw [List.map_append]; rfl, by simp⟩
    · rintro ρ ⟨g, mx, c, at_, l, e3, e4, rfl, hl⟩
      rw [rng_len] at hl
      exact ⟨_, rfl, _, tuple_k (pl_frz l), _, rfl, l, g, mx, c, by omega, rfl, rfl⟩
  obtain ⟨d, o, h1, l, g', m', c', h2, rfl, rfl⟩ := @wpF_ok (inst t12) _ _ _ _ _ main
  exact ⟨l, g', m', c', h2, h1⟩
def keepO (x : Int) (lo hi : Option Int) : Bool := geO x lo && leO x hi
theorem bounds_ok (g mx c x k : Int) (bad : Bool) (k0 : 0 ≤ k) (k1 : k ≤ 4) : ∃ (lo hi : Option Int) (g' mx' c' : Int), keepO x lo hi = !(bad && decide (0 < k)) ∧ s13 [po g mx c, .int x, .int k, .bl bad] = .ret (.tup [oD lo, oD hi]) [po g' mx' c'] := by
  have main : @wpF (inst t13) n13.length io13 b13 [po g mx c, .int x, .int k, .bl bad] (fun (d : D) (o : List D) => ∃ (lo hi : Option Int) (g' mx' c' : Int), keepO x lo hi = !(bad && decide (0 < k)) ∧ d = D.tup [oD lo, oD hi] ∧ o = [po g' mx' c']) := by
    obtain ⟨r, g1, m1, c1, r0, r1, rt⟩ := draw_ex g mx c 5 (by omega) (by omega)
    obtain ⟨_, hb, b_, rfl, b0⟩ := pickL (o := true) (l := [.int 0, .int 0, .int 1, .int 7, .int 250000000]) (P := fun d => ∃ p : Int, d = .int p ∧ 0 ≤ p) r0 r1 (by
      intro d hd
      simp only [List.mem_cons, List.not_mem_nil, or_false] at hd
      rcases hd with rfl | rfl | rfl | rfl | rfl <;> exact ⟨_, rfl, by omega⟩)
    refine ⟨(Nat.le_of_ble_eq_true rfl), _, rfl, _, rfl, _, _, rt, _, rfl, _, hb, rfl, ?_⟩
    obtain ⟨q, g2, m2, c2, q0, q1, qt⟩ := draw_ex g1 m1 c1 4 (by omega) (by omega)
    obtain ⟨_, hv, v, rfl, v0⟩ := pickL (o := true) (l := [.int 1, .int (-1), .int (1 + b_), .int (-1 - b_)]) (P := fun d => ∃ p : Int, d = .int p ∧ p ≠ 0) q0 q1 (by
      intro d hd
      simp only [List.mem_cons, List.not_mem_nil, or_false] at hd
      rcases hd with rfl | rfl | rfl | rfl <;> exact ⟨_, rfl, by omega⟩)
    obtain ⟨y, g3, m3, c3, y0, y1, yt⟩ := draw_ex g1 m1 c1 5 (by omega) (by omega)
    obtain ⟨_, hu, u, rfl, u0⟩ := pickL (o := true) (l := [.int 0, .int 0, .int 1, .int 5, .int 300000000]) (P := fun d => ∃ p : Int, d = .int p ∧ 0 ≤ p) y0 y1 (by
      intro d hd
      simp only [List.mem_cons, List.not_mem_nil, or_false] at hd
      rcases hd with rfl | rfl | rfl | rfl | rfl <;> exact ⟨_, rfl, by omega⟩)
    have mul_b : ∀ bb : Bool, O2.mul.sem (.int (if bb then 1 else 0)) (.int v) = some (.int (if bb then v else 0)) := fun bb => by
      rw [mul_l (by split <;> omega) (by split <;> omega)]
      cases bb <;> simp
    by_cases e0 : k = 0
    · subst e0
      refine ⟨_, rfl, _, rfl, _, rfl, (fun _ => ?_), fun z => nomatch z⟩
      exact ⟨⟨rfl, (Nat.le_of_ble_eq_true rfl)⟩, _, rfl, none, none, _, _, _, by cases bad <;> rfl, rfl, rfl⟩
    refine ⟨_, rfl, _, rfl, _, rfl, (fun z => absurd (of_decide_eq_true z) e0), fun _ => ?_⟩
    by_cases e4 : k = 4
    · subst e4
      refine ⟨_, rfl, _, rfl, _, rfl, (fun _ => ?_), fun z => nomatch z⟩
      refine ⟨_, rfl, rfl, _, rfl, _, rfl, _, rfl, _, rfl, _, rfl, _, rfl, _, rfl, _, rfl, (Nat.le_of_ble_eq_true rfl), _, rfl, _, rfl, _, _, qt, _, rfl, _, hv, _, mul_b bad, _, rfl, ?_⟩
      refine ⟨_, rfl, rfl, _, rfl, rfl, ⟨rfl, (Nat.le_of_ble_eq_true rfl)⟩, _, rfl, some _, some _, _, _, _, ?_, rfl, rfl⟩
      cases bad with
      | true =>
        show (decide (x + v ≤ x) && decide (x ≤ x + v)) = false
        rw [Bool.and_eq_false_iff, decide_eq_false_iff_not, decide_eq_false_iff_not]
        omega
      | false =>
        show (decide (x + 0 ≤ x) && decide (x ≤ x + 0)) = true
        rw [Bool.and_eq_true, decide_eq_true_iff, decide_eq_true_iff]
        omega
    refine ⟨_, rfl, _, rfl, _, rfl, (fun z => absurd (of_decide_eq_true z) e4), fun _ => ?_⟩
    refine ⟨_, rfl, _, rfl, _, rfl, _, rfl, rfl, (Nat.le_of_ble_eq_true rfl), _, rfl, _, rfl, _, _, yt, _, rfl, _, hu, _, rfl, ?_⟩
    have fin : ∀ (lo hi w : Int), (bad = false → lo ≤ x ∧ x ≤ hi) → (bad = true → (k = 1 → x < lo) ∧ (k = 2 → hi < x) ∧ (k = 3 → x < lo ∨ hi < x)) → ∀ ρ : Ev, ρ = [some (po g3 m3 c3), some (.int x), some (.int k), some (.bl bad), some (.int w), some (.int lo), some (.int hi), none] →
        @wpSs (inst t13) (.cons (.iff (.o2 .eq (.var 2) (.cst (.int 1))) (.cons (.ret (.tup (.cons (.ck (.var 5)) (.cons (.cst .non) .nil)))) .nil) .nil) (.cons (.iff (.o2 .eq (.var 2) (.cst (.int 2))) (.cons (.ret (.tup (.cons (.cst .non) (.cons (.ck (.var 6)) .nil)))) .nil) .nil) (.cons (.ret (.tup (.cons (.ck (.var 5)) (.cons (.ck (.var 6)) .nil)))) .nil))) ρ (fun f ρ => match f with
          | .nx => ∃ l, outsOf (ixs io13) ρ = some l ∧ (fun (d : D) (o : List D) => ∃ (lo hi : Option Int) (g' mx' c' : Int), keepO x lo hi = !(bad && decide (0 < k)) ∧ d = D.tup [oD lo, oD hi] ∧ o = [po g' mx' c']) D.non l
          | .rt d => ∃ l, outsOf (ixs io13) ρ = some l ∧ (fun (d : D) (o : List D) => ∃ (lo hi : Option Int) (g' mx' c' : Int), keepO x lo hi = !(bad && decide (0 < k)) ∧ d = D.tup [oD lo, oD hi] ∧ o = [po g' mx' c']) d l
          | _ => False) := by
      rintro lo hi w hg hb ρ rfl
      have hk : decide (0 < k) = true := decide_eq_true (by omega)
      by_cases e1 : k = 1
      · subst e1
        refine ⟨_, rfl, _, rfl, _, rfl, (fun _ => ?_), fun z => nomatch z⟩
        refine ⟨_, rfl, rfl, ⟨rfl, (Nat.le_of_ble_eq_true rfl)⟩, _, rfl, some _, none, _, _, _, ?_, rfl, rfl⟩
        rw [hk, Bool.and_true]
        show (decide (lo ≤ x) && true) = !bad
        rw [Bool.and_true]
        cases bad with
        | true => exact decide_eq_false (by have := (hb rfl).1 rfl; omega)
        | false => exact decide_eq_true (hg rfl).1
      refine ⟨_, rfl, _, rfl, _, rfl, (fun z => absurd (of_decide_eq_true z) e1), fun _ => ?_⟩
      by_cases e2 : k = 2
      · subst e2
        refine ⟨_, rfl, _, rfl, _, rfl, (fun _ => ?_), fun z => nomatch z⟩
        refine ⟨_, rfl, rfl, ⟨rfl, (Nat.le_of_ble_eq_true rfl)⟩, _, rfl, none, some _, _, _, _, ?_, rfl, rfl⟩
        rw [hk, Bool.and_true]
        show (true && decide (x ≤ hi)) = !bad
        rw [Bool.true_and]
        cases bad with
        | true => exact decide_eq_false (by have := (hb rfl).2.1 rfl; omega)
        | false => exact decide_eq_true (hg rfl).2
      refine ⟨_, rfl, _, rfl, _, rfl, (fun z => absurd (of_decide_eq_true z) e2), fun _ => ?_⟩
      refine ⟨_, rfl, rfl, _, rfl, rfl, ⟨rfl, (Nat.le_of_ble_eq_true rfl)⟩, _, rfl, some _, some _, _, _, _, ?_, rfl, rfl⟩
      rw [hk, Bool.and_true]
      show (decide (lo ≤ x) && decide (x ≤ hi)) = !bad
      cases bad with
      | true =>
        show _ = false
        rw [Bool.and_eq_false_iff, decide_eq_false_iff_not, decide_eq_false_iff_not]
        have := (hb rfl).2.2 (by omega)
        omega
      | false =>
        show _ = true
        rw [Bool.and_eq_true, decide_eq_true_iff, decide_eq_true_iff]
        exact hg rfl
    refine if_and (p := bad) (q := (decide (k = 1)) || (decide (k = 3) && decide (b_ % 2 = 0))) (fun Q h => ⟨_, rfl, h⟩) (fun _ Q h => ?_) (fun z => ?_) (fun z => ?_)
    · by_cases e1 : k = 1
      · subst e1
        exact ⟨_, rfl, _, rfl, _, rfl, (fun _ => h), fun z => nomatch z⟩
      · rw [decide_eq_false e1, Bool.false_or] at h
        refine ⟨_, rfl, _, rfl, _, rfl, (fun z => absurd (of_decide_eq_true z) e1), fun _ => ?_⟩
        by_cases e3 : k = 3
        · subst e3
          exact ⟨_, rfl, _, rfl, _, rfl, (fun _ => ⟨_, rfl, _, rfl, _, rfl, h⟩), fun z => nomatch z⟩
        · rw [decide_eq_false e3, Bool.false_and] at h
          exact ⟨_, rfl, _, rfl, _, rfl, (fun z => absurd (of_decide_eq_true z) e3), fun _ => by rw [decide_eq_false e3]; exact h⟩
    · rw [Bool.and_eq_true] at z
      obtain ⟨hbad, z⟩ := z
      have z : k = 1 ∨ (k = 3 ∧ b_ % 2 = 0) := by simpa using z
      refine ⟨_, rfl, _, rfl, _, rfl, _, rfl, _, rfl, _, rfl, _, rfl, ?_⟩
      exact fin (x + 1 + b_) (x + 1 + b_ + b_) b_ (fun e => by rw [hbad] at e; cases e) (fun _ => ⟨fun _ => by omega, fun e => by omega, fun _ => .inl (by omega)⟩) _ rfl
    · cases bad with
      | true =>
        have z : ¬ (k = 1 ∨ (k = 3 ∧ b_ % 2 = 0)) := by
          intro q
          rcases q with q | ⟨q, q2⟩ <;> simp [*] at z
        refine ⟨_, rfl, _, rfl, (fun _ => ?_), fun z => nomatch z⟩
        refine ⟨_, rfl, _, rfl, _, rfl, _, rfl, _, rfl, _, rfl, _, rfl, ?_⟩
        exact fin (x - 1 - b_ - b_) (x - 1 - b_) b_ (fun e => nomatch e) (fun _ => ⟨fun e => by omega, fun _ => by omega, fun _ => .inr (by omega)⟩) _ rfl
      | false =>
        refine ⟨_, rfl, _, rfl, (fun z => nomatch z), fun _ => ?_⟩
        exact fin (x - b_) (x + u) b_ (fun _ => ⟨by omega, by omega⟩) (fun e => nomatch e) _ rfl
  obtain ⟨d, o, h1, lo, hi, g', m', c', h2, rfl, rfl⟩ := @wpF_ok (inst t13) _ _ _ _ _ main
  exact ⟨lo, hi, g', m', c', h2, h1⟩
theorem lands_ok (g mx c m : Int) (many : Nat) (h0 : 0 < m) (h1 : m ≤ 10000) (hm : many ≤ 1000) : ∃ (rs hs : List Int) (g' mx' c' : Int), rs.length = many ∧ hs.length = many ∧ s14 [po g mx c, .int m, .int (many : Int)] = .ret (.tup [.lst false (rs.map D.int), .lst false (hs.map D.int)]) [po g' mx' c'] := by
  have main : @wpF (inst t14) n14.length io14 b14 [po g mx c, .int m, .int (many : Int)] (fun (d : D) (o : List D) => ∃ (rs hs : List Int) (g' mx' c' : Int), rs.length = many ∧ hs.length = many ∧ d = D.tup [.lst false (rs.map D.int), .lst false (hs.map D.int)] ∧ o = [po g' mx' c']) := by
    refine ⟨_, rfl, rfl, _, rng1 (by omega) (by omega), fun i acc ρ => ∃ g mx c l, acc = (l : List Int).map D.int ∧ l.length = i ∧ ρ = [some (po g mx c), some (.int m), some (.int (many : Int)), none, none, none, none, none, none], ⟨_, _, _, [], rfl, rfl, rfl⟩, ?_, ?_⟩
    · rintro i d acc ρ hd ⟨g, mx, c, l, rfl, rfl, rfl⟩
      obtain ⟨r, g3, m3, c3, r0, r1, rt⟩ := draw_ex g mx c m h0 (by omega)
      exact ⟨_, rfl, (fun _ => ⟨_, rfl, _, rfl, rfl, _, rfl, _, _, rt, _, rfl, g3, m3, c3, l ++ [r], by rw [List.map_append]; rfl, by simp, rfl⟩), fun z => nomatch z⟩
    rintro acc ρ ⟨g, mx, c, rs, rfl, hr, rfl⟩
    rw [rng_len, show ((many : Int)).toNat = many by omega] at hr
    obtain ⟨st, g2, m2, c2, s0', s1', dt⟩ := draw_ex g mx c 4 (by omega) (by omega)
    refine ⟨by rw [List.length_map]; show _ ≤ 16777216; omega, _, rfl, _, rfl, _, _, dt, _, rfl, (Nat.le_of_ble_eq_true rfl), ?_⟩
    refine ⟨_, rfl, rfl, _, rng1 (by omega) (by omega), fun i ρ => ∃ g mx c hs e6 e7 e8, ρ = [some (po g mx c), some (.int m), some (.int (many : Int)), some (.lst true (rs.map D.int)), some (.int st), some (.lst true ((hs : List Int).map D.int)), e6, e7, e8] ∧ hs.length = i, ⟨_, _, _, [], _, _, _, rfl, rfl⟩, ?_, ?_⟩
    · rintro i d ρ hd ⟨g, mx, c, hs, e6, e7, e8, rfl, rfl⟩
      obtain ⟨rfl, hi⟩ := rng_get _ _ _ _ hd
      obtain ⟨x, g3, m3, c3, x0, x1, xt⟩ := draw_ex g mx c 3 (by omega) (by omega)
      obtain ⟨y, g4, m4, c4, y0, y1, yt⟩ := draw_ex g3 m3 c3 7 (by omega) (by omega)
      obtain ⟨u, g5, m5, c5, u0, u1, ut⟩ := draw_ex g4 m4 c4 11 (by omega) (by omega)
      obtain ⟨_, hw, p, rfl⟩ := pickL (o := true) (l := [.int 0, .int (y - 3), .int (5 - u), .int (200000000 / m * (x - 1))]) (P := fun d => ∃ p : Int, d = .int p) s0' s1' (by
        intro d hd
        simp only [List.mem_cons, List.not_mem_nil, or_false] at hd
        rcases hd with rfl | rfl | rfl | rfl <;> exact ⟨_, rfl⟩)
      rw [Int.zero_add]
      refine ⟨_, rfl, ?_⟩
      refine ⟨_, rfl, _, fdiv_k h0 (by omega), _, rfl, _, rfl, _, _, xt, _, rfl, _, rfl, _, mul_r (by omega) (by omega), ?_⟩
      refine ⟨_, rfl, _, rfl, _, _, yt, _, rfl, _, rfl, _, rfl, _, rfl, _, _, ut, _, rfl, _, rfl, _, rfl, rfl, (Nat.le_of_ble_eq_true rfl), _, rfl, _, hw, rfl, ?_⟩
      refine ⟨rfl, _, rfl, _, rfl, .int (rs.getD hs.length 0), atI_nat (getD_at (by omega)), _, rfl, _, rfl, _, mul_l (by omega) (by omega), _, rfl, _, rfl, ?_, ?_⟩
      · rw [List.length_map]
        show _ < 16777216
        omega
      exact ⟨g5, m5, c5, hs ++ [rs.getD hs.length 0 + m * p], _, _, _, by rw [List.map_append]; rfl, by simp⟩
    · rintro ρ ⟨g, mx, c, hs, e6, e7, e8, rfl, hh⟩
      rw [rng_len, show ((many : Int)).toNat = many by omega] at hh
      refine ⟨_, rfl, _, rfl, ⟨rfl, (Nat.le_of_ble_eq_true rfl)⟩, _, rfl, rs, hs, g, mx, c, hr, hh, ?_, rfl⟩
      rw [show fzD (.lst true (hs.map D.int)) = .lst false (hs.map D.int) from congrArg (D.lst false) (fz_map hs), show fzD (.lst true (rs.map D.int)) = .lst false (rs.map D.int) from congrArg (D.lst false) (fz_map rs)]
  obtain ⟨d, o, h1, rs, hs, g', m', c', h2, h3, rfl, rfl⟩ := @wpF_ok (inst t14) _ _ _ _ _ main
  exact ⟨rs, hs, g', m', c', h2, h3, h1⟩


/-! ### struck, broken, within: the law's own -/
theorem plain_nats : ∀ S : List Nat, PyData.plainAll (toPs (natsD S)) = true
  | [] => rfl
  | k :: S => plain_nats S
theorem any_nats (k : Nat) : ∀ S : List Nat, ((toPs (natsD S)).any fun y => PyData.eqv y (toP (.int (k : Int)))) = decide (k ∈ S)
  | [] => by simp [natsD, toPs]
  | j :: S => by
    have e : PyData.eqv (toP (.int (j : Int))) (toP (.int (k : Int))) = decide (k = j) := by
      show ((j : Int) == (k : Int)) = _
      by_cases h : k = j
      · subst h; simp
      · rw [decide_eq_false h]
        exact beq_eq_false_iff_ne.mpr (by omega)
    show (PyData.eqv (toP (.int (j : Int))) (toP (.int (k : Int))) || (toPs (natsD S)).any fun y => PyData.eqv y (toP (.int (k : Int)))) = _
    rw [e, any_nats k S]
    simp
theorem in_nats {o : Bool} (k : Nat) (S : List Nat) : O2.isIn.sem (.int (k : Int)) (.lst o (natsD S)) = some (.bl (decide (k ∈ S))) := by
  show (if _ ∧ _ ∧ _ then some (D.bl ((toPs (natsD S)).any fun y => PyData.eqv y (toP (.int (k : Int))))) else none) = _
  rw [if_pos ⟨rfl, plain_nats S, Nat.le_trans (Nat.min_le_right _ _) (Nat.zero_le _)⟩, any_nats]
theorem lawstruck_ok (m : Int) (P : List D) (ts : List Ti) (S : List Nat) (ht : ts.length ≤ 1000) : s16 [chD m P ts, .lst false (natsD S)] = .ret (chD m P (strkL S ts)) [] := by
  refine @wpF_eq (inst t16) n16.length io16 b16 _ _ _ ?_
  refine ⟨(Nat.le_of_ble_eq_true rfl), _, rfl, _, rfl, _, rfl, _, rng1 (by rw [List.length_map]; omega) (by rw [List.length_map]; omega), fun i ρ => ∃ e3 e4, ρ = [some (chD m P ts), some (.lst false (natsD S)), some (.lst true (((strkL S ts).take i).map tiD)), e3, e4], ⟨_, _, rfl⟩, ?_, ?_⟩
  · rintro i d ρ hd ⟨e3, e4, rfl⟩
    obtain ⟨rfl, hi⟩ := rng_get _ _ _ _ hd
    have hi : i < ts.length := by rw [List.length_map] at hi; omega
    have hp : ts[i]? = some ts[i] := by simp [hi]
    rw [Int.zero_add]
    refine ⟨_, rfl, _, rfl, _, rfl, _, rfl, _, tie_at (m := m) (P := P) hp, rfl, ?_⟩
    refine ⟨_, rfl, _, rfl, _, in_nats i S, _, rfl, (fun z => ?_), fun z => ?_⟩
    · have z := of_decide_eq_true z
      repeat (first | refine ⟨_, rfl, ?_⟩ | refine ⟨rfl, ?_⟩ | refine ⟨⟨rfl, Nat.le_of_ble_eq_true rfl⟩, ?_⟩ | refine ⟨Nat.le_of_ble_eq_true rfl, ?_⟩)
      refine ⟨by rw [List.length_map, List.length_take, strkL_len]; show _ < 16777216; omega, some (.int (i : Int)), some (tiD (strk ts[i])), ?_⟩
      rw [take_map (strkL_take hp), if_pos z]
      rfl
    · have z := of_decide_eq_false z
      repeat (first | refine ⟨_, rfl, ?_⟩ | refine ⟨rfl, ?_⟩ | refine ⟨⟨rfl, Nat.le_of_ble_eq_true rfl⟩, ?_⟩ | refine ⟨Nat.le_of_ble_eq_true rfl, ?_⟩)
      refine ⟨by rw [List.length_map, List.length_take, strkL_len]; show _ < 16777216; omega, some (.int (i : Int)), some (tiD ts[i]), ?_⟩
      rw [take_map (strkL_take hp), if_neg z]
      rfl
  · rintro ρ ⟨e3, e4, rfl⟩
    rw [rng_len, List.length_map, show ((ts.length : Int)).toNat = ts.length by omega, List.take_of_length_le (by rw [strkL_len]; exact Nat.le_refl _)]
    exact ⟨_, rfl, _, rfl, rfl, _, rfl, _, rfl, rfl, _, rfl, _, tuple_k (ti_frz _), ⟨rfl, (Nat.le_of_ble_eq_true rfl)⟩, _, rfl, rfl, rfl⟩
theorem idx_strs {x : PySem.Str} : ∀ {l : List PySem.Str} {i n : Nat}, l.Nodup → l[i]? = some x → idxOf (toP (.str x)) (toPs (l.map D.str)) n = some (n + i)
  | [], _, _, _, h => by simp at h
  | y :: l, 0, n, nd, h => by
    cases (show y = x by simpa using h)
    show (if (x == x) = true then some n else _) = some (n + 0)
    rw [if_pos (by simp)]
    rfl
  | y :: l, i + 1, n, nd, h => by
    have h : l[i]? = some x := by simpa using h
    obtain ⟨n1, n2⟩ := List.nodup_cons.mp nd
    have hne : ¬ (y == x) = true := fun e => n1 (by
      rw [beq_iff_eq] at e
      rw [e]
      exact List.mem_of_getElem? h)
    show (if (y == x) = true then some n else idxOf (toP (.str x)) (toPs (l.map D.str)) (n + 1)) = _
    rw [if_neg hne, idx_strs n2 h, show n + 1 + i = n + (i + 1) by omega]
theorem index_at {o : Bool} {l : List PySem.Str} {i : Nat} {x : PySem.Str} (nd : l.Nodup) (h : l[i]? = some x) : Mth.index.sem (.lst o (l.map D.str)) [.str x] = some (.int (i : Int)) := by
  have e : idxOf (toP (.str x)) (toPs (l.map D.str)) 0 = some (0 + i) := idx_strs nd h
  show (if _ ∨ _ then (match idxOf (toP (.str x)) (toPs (l.map D.str)) 0 with
    | some n => some (D.int (n : Nat))
    | none => none) else none) = _
  have ff : (l.map D.str).all flatD = true := by
    rw [List.all_eq_true]
    intro d hd
    obtain ⟨y, _, rfl⟩ := List.mem_map.mp hd
    rfl
  rw [if_pos (.inl ⟨rfl, ff⟩), e, Nat.zero_add]
theorem pl_name {pl : List Pc} {i : Nat} {x : PySem.Str} {r : Int} (h : pl[i]? = some (x, r)) : (pl.map (·.1))[i]? = some x := by
  rw [List.getElem?_map, h]; rfl
theorem unfit_or {I : Fns} {ρ : Ev} {t : Ti} {x : Int} {Q : D → Ev → Prop} (h5 : getV ρ 5 = some (tiD t)) (h6 : getV ρ 6 = some (.int x)) (h : Q (.bl (!keepO x t.lo t.hi)) ρ) : @wpE I (.or (.and (.o2 .notN (.o2 .idx (.var 5) (.cst (.int 3))) (.cst .non)) (.o2 .lt (.var 6) (.o2 .idx (.var 5) (.cst (.int 3))))) (.and (.o2 .notN (.o2 .idx (.var 5) (.cst (.int 4))) (.cst .non)) (.o2 .gt (.var 6) (.o2 .idx (.var 5) (.cst (.int 4)))))) ρ Q := by
  obtain ⟨nm, u, v, lo, hi, ps, iu, iv⟩ := t
  have second : geO x lo = true → @wpE I (.and (.o2 .notN (.o2 .idx (.var 5) (.cst (.int 4))) (.cst .non)) (.o2 .gt (.var 6) (.o2 .idx (.var 5) (.cst (.int 4))))) ρ Q := by
    intro hg
    have h : Q (.bl (!(geO x lo && leO x hi))) ρ := h
    rw [hg, Bool.true_and] at h
    cases hi with
    | none => exact ⟨_, h5, _, rfl, _, rfl, _, rfl, (fun z => nomatch z), fun _ => h⟩
    | some b =>
      refine ⟨_, h5, _, rfl, _, rfl, _, rfl, (fun _ => ⟨_, h6, _, h5, _, rfl, _, rfl, ?_⟩), fun z => nomatch z⟩
      have e : (!leO x (some b)) = decide (b < x) := by
        show (!decide (x ≤ b)) = _
        rw [← decide_not]
        congr 1
        exact propext Int.not_le
      rw [e] at h
      exact h
  cases lo with
  | none => exact ⟨_, h5, _, rfl, _, rfl, _, rfl, (fun z => nomatch z), fun _ => ⟨_, rfl, (fun z => nomatch z), fun _ => second rfl⟩⟩
  | some a =>
    refine ⟨_, h5, _, rfl, _, rfl, _, rfl, (fun _ => ⟨_, h6, _, h5, _, rfl, .bl (decide (x < a)), rfl, _, rfl, (fun z => ?_), fun z => ?_⟩), fun z => nomatch z⟩
    · have hn : decide (a ≤ x) = false := decide_eq_false (by have := of_decide_eq_true z; omega)
      have h : Q (.bl (!(decide (a ≤ x) && leO x hi))) ρ := h
      rw [hn] at h
      rw [z]
      exact h
    · exact second (decide_eq_true (by have := of_decide_eq_false z; omega))
theorem broken_ok (m : Int) (pl : List Pc) (ts : List Ti) (ls : List Int) (nd : (pl.map (·.1)).Nodup) (hl : pl.length ≤ 1000) (ht : ts.length ≤ 1000) (hls : ls.length = pl.length) (ok : ∀ t ∈ ts, okT pl t) : s17 [chD m (pl.map pcD) ts, landD ls] = .ret (.lst false (natsD (unf ls ts ts.length))) [] := by
  refine @wpF_eq (inst t17) n17.length io17 b17 _ _ _ ?_
  refine ⟨_, rfl, _, rfl, _, rfl, fun i acc ρ => acc = ((pl.take i).map (·.1)).map D.str ∧ ρ = [some (chD m (pl.map pcD) ts), some (landD ls), none, none, none, none, none, none], ⟨rfl, rfl⟩, ?_, ?_⟩
  · rintro i d acc ρ hd ⟨rfl, rfl⟩
    obtain ⟨p, hp, rfl⟩ := map_get hd
    refine ⟨_, rfl, (fun _ => ⟨_, rfl, _, rfl, rfl, ?_, rfl⟩), fun z => nomatch z⟩
    rw [List.map_map, List.map_map, take_map hp]
    rfl
  rintro acc ρ ⟨rfl, rfl⟩
  have e0 : (pl.map pcD).length = pl.length := by rw [List.length_map]
  rw [e0, List.take_length]
  refine ⟨by rw [List.length_map, List.length_map]; show _ ≤ 16777216; omega, (Nat.le_of_ble_eq_true rfl), ?_⟩
  refine ⟨_, rfl, _, rfl, _, rfl, _, rng1 (by rw [List.length_map]; omega) (by rw [List.length_map]; omega), fun i ρ => ∃ e4 e5 e6, ρ = [some (chD m (pl.map pcD) ts), some (landD ls), some (.lst true ((pl.map (·.1)).map D.str)), some (.lst true (natsD (unf ls ts i))), e4, e5, e6, none], ⟨_, _, _, rfl⟩, ?_, ?_⟩
  · rintro i d ρ hd ⟨e4, e5, e6, rfl⟩
    obtain ⟨rfl, hi⟩ := rng_get _ _ _ _ hd
    have hi : i < ts.length := by rw [List.length_map] at hi; omega
    have hp : ts[i]? = some ts[i] := by simp [hi]
    obtain ⟨⟨r1, h1⟩, ⟨r2, h2⟩⟩ := ok ts[i] (List.getElem_mem hi)
    have l1 : ts[i].iu < ls.length := by rw [hls]; exact (List.getElem?_eq_some_iff.mp h1).1
    have l2 : ts[i].iv < ls.length := by rw [hls]; exact (List.getElem?_eq_some_iff.mp h2).1
    rw [Int.zero_add]
    refine ⟨_, rfl, _, rfl, _, rfl, _, rfl, _, tie_at (m := m) (P := pl.map pcD) hp, rfl, ?_⟩
    refine ⟨_, rfl, _, rfl, rfl, _, rfl, _, rfl, rfl, _, index_at nd (pl_name h2), _, land_at l2, ?_⟩
    refine ⟨_, rfl, _, rfl, rfl, _, rfl, _, rfl, rfl, _, index_at nd (pl_name h1), _, land_at l1, _, rfl, ?_⟩
    refine unfit_or (t := ts[i]) (x := dif ls ts[i]) rfl rfl ⟨_, rfl, (fun z => ?_), fun z => ?_⟩
    · have z : keepB ls ts[i] = false := nt z
      refine ⟨rfl, _, rfl, rfl, _, rfl, by rw [nats_len]; have := unf_len ls ts i; show _ < 16777216; omega, some (.int (i : Int)), some (tiD ts[i]), some (.int (dif ls ts[i])), ?_⟩
      rw [unf_succ hp, if_neg (show ¬ keepB ls ts[i] = true from fun q => by rw [z] at q; cases q), nats_app]
      rfl
    · have z : keepB ls ts[i] = true := nf z
      refine ⟨some (.int (i : Int)), some (tiD ts[i]), some (.int (dif ls ts[i])), ?_⟩
      rw [unf_succ hp, if_pos z, List.append_nil]
      rfl
  · rintro ρ ⟨e4, e5, e6, rfl⟩
    rw [rng_len, List.length_map, show ((ts.length : Int)).toNat = ts.length by omega]
    exact ⟨_, rfl, _, rfl, congrArg (D.lst false) (nats_fz _), rfl⟩
theorem eq_bl (a b : Bool) : O2.ne.sem (.bl a) (.bl b) = some (.bl (!(a == b))) := by cases a <;> cases b <;> rfl
theorem lawwithin_ok (m : Int) (pl : List Pc) (ts : List Ti) (ls : List Int) (nd : (pl.map (·.1)).Nodup) (hl : pl.length ≤ 1000) (ht : ts.length ≤ 1000) (hls : ls.length = pl.length) (ok : ∀ t ∈ ts, okT pl t) : s18 [chD m (pl.map pcD) ts, landD ls] = .ret (.bl true) [] := by
  refine @wpF_eq (inst t18) n18.length io18 b18 _ _ _ ?_
  refine ⟨_, rfl, rfl, _, rfl, rfl, _, rfl, _, _, broken_ok m pl ts ls nd hl ht hls ok, _, rfl, .int ((unf ls ts ts.length).length : Int), by show some (D.int ((natsD (unf ls ts ts.length)).length : Int)) = _; rw [nats_len], ?_⟩
  refine ⟨_, rng1 (by omega) (by omega), fun i ρ => ∃ e3 e4, ρ = [some (chD m (pl.map pcD) ts), some (landD ls), some (.int ((unf ls ts ts.length).length : Int)), e3, e4], ⟨_, _, rfl⟩, ?_, ?_⟩
  · rintro i d ρ hd ⟨e3, e4, rfl⟩
    obtain ⟨rfl, hi⟩ := rng_get _ _ _ _ hd
    rw [Int.zero_add]
    refine ⟨_, rfl, _, rfl, rfl, _, rfl, rfl, _, rfl, rfl, _, rfl, _, _, within_ok m pl ts ls (i : Int) nd hl ht hls ok, _, rfl, ?_⟩
    refine if_or (p := false) (q := false) (fun Q h => ⟨_, rfl, _, rfl, _, rfl, h⟩) (fun _ Q h => ⟨_, rfl, _, rfl, _, rfl, _, rfl, _, eq_bl _ _, ?_⟩) (fun z => nomatch z) (fun _ => ⟨_, _, rfl⟩)
    rw [beq_self_eq_true]
    exact h
  · rintro ρ ⟨e3, e4, rfl⟩
    exact ⟨_, rfl, rfl, rfl⟩


/-! ### sizes -/
def okTi (t : Ti) : Prop := t.ps.length ≤ 10
theorem szDs_le {l : List D} {b : Nat} (h : ∀ d ∈ l, szD d ≤ b) : szDs l ≤ l.length * b := by
  induction l with
  | nil => simp [szDs]
  | cons d l ih =>
    have h1 := h d List.mem_cons_self
    have h2 := ih fun e he => h e (List.mem_cons_of_mem _ he)
    show szD d + szDs l ≤ (l.length + 1) * b
    rw [Nat.add_mul, Nat.one_mul]
    omega
theorem okDs_all {l : List D} (h : ∀ d ∈ l, okD d = true) : okDs l = true := by
  induction l with
  | nil => rfl
  | cons d l ih =>
    show (okD d && okDs l) = true
    rw [h d List.mem_cons_self, ih fun e he => h e (List.mem_cons_of_mem _ he)]
    rfl
theorem ok_oD (o : Option Int) : okD (oD o) = true ∧ szD (oD o) = 1 := by cases o <;> exact ⟨rfl, rfl⟩
theorem ok_pls (l : List Pl) (h : l.length ≤ 10) : okD (plsD l) = true ∧ szD (plsD l) ≤ 41 := by
  refine ⟨okDs_all fun d hd => ?_, ?_⟩
  · obtain ⟨p, _, rfl⟩ := List.mem_map.mp hd
    rfl
  · have : szDs (l.map plD) ≤ (l.map plD).length * 4 := szDs_le fun d hd => by
      obtain ⟨p, _, rfl⟩ := List.mem_map.mp hd
      exact Nat.le_refl 4
    rw [List.length_map] at this
    show 1 + szDs (l.map plD) ≤ 41
    omega
theorem ok_ti (t : Ti) (h : okTi t) : okD (tiD t) = true ∧ szD (tiD t) ≤ 47 := by
  obtain ⟨a1, a2⟩ := ok_oD t.lo
  obtain ⟨b1, b2⟩ := ok_oD t.hi
  obtain ⟨c1, c2⟩ := ok_pls t.ps h
  refine ⟨?_, ?_⟩
  · show (true && (true && (true && (okD (oD t.lo) && (okD (oD t.hi) && (okD (plsD t.ps) && true)))))) = true
    rw [a1, b1, c1]; rfl
  · show 1 + (1 + (1 + (1 + (szD (oD t.lo) + (szD (oD t.hi) + (szD (plsD t.ps) + 0)))))) ≤ 47
    omega
theorem ok_ch (m : Int) (pl : List Pc) (ts : List Ti) (hl : pl.length ≤ 1000) (ht : ts.length ≤ 1000) (h : ∀ t ∈ ts, okTi t) : okD (chD m (pl.map pcD) ts) = true ∧ szD (chD m (pl.map pcD) ts) < 200000 := by
  have p1 : okDs (pl.map pcD) = true := okDs_all fun d hd => by
    obtain ⟨p, _, rfl⟩ := List.mem_map.mp hd
    rfl
  have p2 : szDs (pl.map pcD) ≤ (pl.map pcD).length * 3 := szDs_le fun d hd => by
    obtain ⟨p, _, rfl⟩ := List.mem_map.mp hd
    exact Nat.le_refl 3
  have t1 : okDs (ts.map tiD) = true := okDs_all fun d hd => by
    obtain ⟨t, ht, rfl⟩ := List.mem_map.mp hd
    exact (ok_ti t (h t ht)).1
  have t2 : szDs (ts.map tiD) ≤ (ts.map tiD).length * 47 := szDs_le fun d hd => by
    obtain ⟨t, ht, rfl⟩ := List.mem_map.mp hd
    exact (ok_ti t (h t ht)).2
  rw [List.length_map] at p2 t2
  refine ⟨?_, ?_⟩
  · show (true && (okDs (pl.map pcD) && (okDs (ts.map tiD) && true))) = true
    rw [p1, t1]; rfl
  · show 1 + (1 + ((1 + szDs (pl.map pcD)) + ((1 + szDs (ts.map tiD)) + 0))) < 200000
    omega
theorem strkL_ok {S : List Nat} {ts : List Ti} (h : ∀ t ∈ ts, okTi t) : ∀ t ∈ strkL S ts, okTi t := by
  intro t ht
  unfold strkL at ht
  obtain ⟨i, hi, e⟩ := List.mem_mapIdx.mp ht
  have := h ts[i] (List.getElem_mem hi)
  rw [← e]
  split <;> exact this
theorem strkL_okT {pl : List Pc} {S : List Nat} {ts : List Ti} (h : ∀ t ∈ ts, okT pl t) : ∀ t ∈ strkL S ts, okT pl t := by
  intro t ht
  unfold strkL at ht
  obtain ⟨i, hi, e⟩ := List.mem_mapIdx.mp ht
  have := h ts[i] (List.getElem_mem hi)
  rw [← e]
  split <;> exact this
theorem fe {l : List FSem} {k : Nat} {s : FSem} (h : @Fns.F (inst l) k = s) {x : List D} {y : FOut} (e : s x = y) : @Fns.F (inst l) k x = y := by rw [h]; exact e
theorem F19_6 : @Fns.F (inst t19) 6 = s6 := rfl
theorem F19_11 : @Fns.F (inst t19) 11 = s11 := rfl
theorem F19_16 : @Fns.F (inst t19) 16 = s16 := rfl
theorem F20_16 : @Fns.F (inst t20) 16 = s16 := rfl
/-! ### strikes -/
theorem rng_nats (n : Nat) : ∀ lo : Nat, rngD (lo : Int) n = natsD (List.range' lo n) := by
  induction n with
  | zero => exact fun _ => rfl
  | succ n ih =>
    intro lo
    have := ih (lo + 1)
    rw [show ((lo + 1 : Nat) : Int) = (lo : Int) + 1 by omega] at this
    show D.int (lo : Int) :: rngD ((lo : Int) + 1) n = _
    rw [this]
    rfl
theorem rng_nats0 (n : Nat) : rngD 0 n = natsD (List.range n) := by
  have := rng_nats n 0
  rw [List.range_eq_range']
  exact this
theorem same_ch (m : Int) (pl : List Pc) (ts : List Ti) (hl : pl.length ≤ 1000) (ht : ts.length ≤ 1000) (h : ∀ t ∈ ts, okTi t) : s11 [chD m (pl.map pcD) ts, chD m (pl.map pcD) ts] = .ret (.bl true) [] := same_ok _ (ok_ch m pl ts hl ht h).1 (ok_ch m pl ts hl ht h).2
theorem strikes_ok (g mx c m : Int) (pl : List Pc) (ts : List Ti) (br : List Nat) (hl : pl.length ≤ 1000) (h0 : 1 ≤ ts.length) (ht : ts.length ≤ 1000) (hb : br.length ≤ 1000) (h : ∀ t ∈ ts, okTi t) : ∃ g' mx' c' : Int, s19 [po g mx c, chD m (pl.map pcD) ts, .lst false (natsD br)] = .ret (.bl true) [po g' mx' c'] := by
  have main : @wpF (inst t19) n19.length io19 b19 [po g mx c, chD m (pl.map pcD) ts, .lst false (natsD br)] (fun (d : D) (o : List D) => ∃ g' mx' c' : Int, d = .bl true ∧ o = [po g' mx' c']) := by
    obtain ⟨r, g1, m1, c1, r0, r1, rt⟩ := draw_ex g mx c 4 (by omega) (by omega)
    refine ⟨_, rfl, _, rfl, .int (ts.length : Int), by show some (D.int ((ts.map tiD).length : Int)) = _; rw [List.length_map], ?_⟩
    refine ⟨_, rfl, _, rfl, _, _, rt, _, rfl, _, rfl, ?_⟩
    refine ⟨_, rfl, rfl, _, rng1 (by omega) (by omega), fun i acc ρ => ∃ g mx c l, acc = natsD l ∧ l.length ≤ i ∧ ρ = [some (po g mx c), some (chD m (pl.map pcD) ts), some (.lst false (natsD br)), some (.int (ts.length : Int)), some (.int (1 + r)), none, none, none, none], ⟨_, _, _, [], rfl, Nat.le_refl _, rfl⟩, ?_, ?_⟩
    · rintro i d acc ρ hd ⟨g, mx, c, l, rfl, hl', rfl⟩
      obtain ⟨rfl, hi⟩ := rng_get _ _ _ _ hd
      rw [Int.zero_add]
      obtain ⟨q, g3, m3, c3, q0, q1, qt⟩ := draw_ex g mx c (1 + r) (by omega) (by omega)
      refine ⟨_, rfl, _, rfl, _, rfl, rfl, _, rfl, _, _, qt, _, rfl, _, rfl, _, rfl, (fun z => ?_), fun z => ?_⟩
      · exact ⟨_, rfl, rfl, g3, m3, c3, l ++ [i], by rw [nats_app]; rfl, by simp; omega, rfl⟩
      · exact ⟨g3, m3, c3, l, rfl, by omega, rfl⟩
    rintro acc ρ ⟨g, mx, c, drawn, rfl, hdr, rfl⟩
    rw [rng_len, show ((ts.length : Int)).toNat = ts.length by omega] at hdr
    refine ⟨by rw [nats_len]; show _ ≤ 16777216; omega, ?_⟩
    refine ⟨_, rfl, (Nat.le_of_ble_eq_true rfl), _, rfl, rfl, _, rng1 (by omega) (by omega), by rw [rng_len]; show _ ≤ 16777216; omega, _, rfl, rfl, _, rfl, _, rfl, (Nat.le_of_ble_eq_true rfl), (Nat.le_of_ble_eq_true rfl), _, rfl, ?_⟩
    rw [show fzD (.lst true (natsD drawn)) = .lst false (natsD drawn) from congrArg (D.lst false) (nats_fz _)]
    refine ⟨fun i ρ => ∃ e6, ρ = [some (po g mx c), some (chD m (pl.map pcD) ts), some (.lst false (natsD br)), some (.int (ts.length : Int)), some (.int (1 + r)), some (.lst false (natsD drawn)), e6, none, none], ⟨_, rfl⟩, ?_, ?_⟩
    · rintro i d ρ hd ⟨e6, rfl⟩
      obtain ⟨S, rfl, hS⟩ : ∃ S, d = .lst false (natsD S) ∧ S.length ≤ 1000 := by
        have hd := List.mem_of_getElem? hd
        have hd : d ∈ [D.lst false (natsD drawn), D.lst false [], D.lst false (fzDs (rngD 0 ((ts.length : Int)).toNat)), D.lst false (natsD br), D.lst false [D.int ((ts.length : Int) - 1)]] := hd
        simp only [List.mem_cons, List.not_mem_nil, or_false] at hd
        rcases hd with rfl | rfl | rfl | rfl | rfl
        · exact ⟨drawn, rfl, by omega⟩
        · exact ⟨[], rfl, by simp⟩
        · exact ⟨List.range ts.length, by rw [rng_nats0, nats_fz, show ((ts.length : Int)).toNat = ts.length by omega], by rw [List.length_range]; exact ht⟩
        · exact ⟨br, rfl, hb⟩
        · refine ⟨[ts.length - 1], ?_, by simp⟩
          show _ = D.lst false [D.int (((ts.length - 1 : Nat)) : Int)]
          rw [show (((ts.length - 1 : Nat)) : Int) = (ts.length : Int) - 1 by omega]
      refine ⟨_, rfl, ?_⟩
      refine ⟨_, rfl, rfl, _, rfl, _, tuple_k (nats_frz S), _, rfl, _, _, fe F19_6 (struck_ok m (pl.map pcD) ts S ht hS), _, rfl, _, rfl, rfl, _, rfl, rfl, _, rfl, _, _, fe F19_16 (lawstruck_ok m (pl.map pcD) ts S ht), _, rfl, _, rfl, _, _, fe F19_11 (same_ch m pl (strkL S ts) hl (by rw [strkL_len]; exact ht) (strkL_ok h)), _, rfl, _, rfl, _, rfl, (fun z => nomatch z), fun _ => ⟨_, rfl⟩⟩
    · rintro ρ ⟨e6, rfl⟩
      refine ⟨_, rfl, rfl, _, rfl, _, rfl, _, _, fe F19_16 (lawstruck_ok m (pl.map pcD) ts drawn ht), _, rfl, ?_⟩
      refine ⟨_, rfl, rfl, _, rfl, _, tuple_k (nats_frz br), _, rfl, _, _, fe F19_6 (struck_ok m (pl.map pcD) (strkL drawn ts) br (by rw [strkL_len]; exact ht) hb), _, rfl, _, rfl, rfl, _, rfl, rfl, _, rfl, _, _, fe F19_16 (lawstruck_ok m (pl.map pcD) (strkL drawn ts) br (by rw [strkL_len]; exact ht)), _, rfl, _, rfl, _, _, fe F19_11 (same_ch m pl (strkL br (strkL drawn ts)) hl (by rw [strkL_len, strkL_len]; exact ht) (strkL_ok (strkL_ok h))), _, rfl, _, rfl, g, mx, c, rfl, rfl⟩
  obtain ⟨d, o, h1, g', m', c', rfl, rfl⟩ := @wpF_ok (inst t19) _ _ _ _ _ main
  exact ⟨g', m', c', h1⟩
/-! ### exact -/
theorem unf_strk {ls : List Int} {ts : List Ti} {S : List Nat} {n : Nat} : unf ls (strkL S ts) n = (unf ls ts n).filter fun k => decide (k ∉ S) := by
  unfold unf
  rw [List.filter_filter]
  congr 1
  funext k
  unfold badAt
  cases hk : ts[k]? with
  | none =>
    have : (strkL S ts)[k]? = none := by
      unfold strkL
      rw [List.getElem?_mapIdx, hk]; rfl
    rw [this]
    simp
  | some t =>
    rw [strkL_take hk]
    by_cases hS : k ∈ S
    · simp only [hS, if_true]
      show (!(true && true)) = _
      simp
    · simp [hS]
theorem filter_drop {l : List Nat} (nd : l.Nodup) (f : Nat) : (l.filter fun k => decide (k ∉ l.drop f)) = l.take f := by
  have e : l = l.take f ++ l.drop f := (List.take_append_drop f l).symm
  have dis : ∀ a ∈ l.take f, a ∉ l.drop f := fun a ha hb => by
    rw [e] at nd
    exact (List.nodup_append.mp nd).2.2 a ha a hb rfl
  have h1 : ((l.take f).filter fun k => decide (k ∉ l.drop f)) = l.take f := List.filter_eq_self.mpr fun a ha => decide_eq_true (dis a ha)
  have h2 : ((l.drop f).filter fun k => decide (k ∉ l.drop f)) = [] := List.filter_eq_nil_iff.mpr fun a ha z => (of_decide_eq_true z) ha
  have : ((l.take f ++ l.drop f).filter fun k => decide (k ∉ l.drop f)) = l.take f := by rw [List.filter_append, h1, h2, List.append_nil]
  rw [List.take_append_drop] at this
  exact this
theorem unf_nd (ls : List Int) (ts : List Ti) (n : Nat) : (unf ls ts n).Nodup := List.Nodup.sublist List.filter_sublist List.nodup_range
theorem slc_nats {o : Bool} {l : List Nat} {f : Nat} (h : f ≤ l.length) : slcS (.lst o (natsD l)) (some (f : Int)) none = some (.lst true (natsD (l.drop f))) := by
  show (if o = false ∨ (natsD l).all frzD = true then some (D.lst true (((natsD l).drop (HT.sIx (natsD l).length 0 (some (f : Int)))).take (HT.sIx (natsD l).length (natsD l).length none - HT.sIx (natsD l).length 0 (some (f : Int))))) else none) = _
  rw [if_pos (.inr (nats_frz l)), HT.sIx_nat, HT.sIx_none, nats_len, Nat.min_eq_left h]
  congr 2
  rw [List.take_of_length_le (by rw [List.length_drop, nats_len]; omega)]
  exact (List.map_drop).symm
theorem exact_ok (m : Int) (pl : List Pc) (ts : List Ti) (ls : List Int) (nd : (pl.map (·.1)).Nodup) (hl : pl.length ≤ 1000) (ht : ts.length ≤ 1000) (hls : ls.length = pl.length) (ok : ∀ t ∈ ts, okT pl t) : s20 [chD m (pl.map pcD) ts, landD ls, .lst false (natsD (unf ls ts ts.length))] = .ret (.bl true) [] := by
  refine @wpF_eq (inst t20) n20.length io20 b20 _ _ _ ?_
  have hbl := unf_len ls ts ts.length
  obtain ⟨k, hk, hk2, hk3⟩ : ∃ k : Nat, (if ((natsD (unf ls ts ts.length)).length : Int) + 1 < 4 then ((natsD (unf ls ts ts.length)).length : Int) + 1 else 4) = (k : Int) ∧ k ≤ 4 ∧ k ≤ (unf ls ts ts.length).length + 1 := by
    rw [nats_len]
    refine ⟨(if ((unf ls ts ts.length).length : Int) + 1 < 4 then ((unf ls ts ts.length).length : Int) + 1 else 4).toNat, ?_, ?_, ?_⟩ <;> split <;> omega
  refine ⟨_, rfl, _, rfl, _, rfl, .int (k : Int), congrArg (fun i => some (D.int i)) hk, _, rng1 (by omega) (by omega), fun i ρ => ∃ e3 e4, ρ = [some (chD m (pl.map pcD) ts), some (landD ls), some (.lst false (natsD (unf ls ts ts.length))), e3, e4], ⟨_, _, rfl⟩, ?_, ?_⟩
  · rintro i d ρ hd ⟨e3, e4, rfl⟩
    obtain ⟨rfl, hi⟩ := rng_get _ _ _ _ hd
    have hi : i < k := by omega
    rw [Int.zero_add]
    have hlen : (unf ls (strkL ((unf ls ts ts.length).drop i) ts) (strkL ((unf ls ts ts.length).drop i) ts).length).length = i := by
      rw [strkL_len, unf_strk, filter_drop (unf_nd ls ts ts.length), List.length_take]
      omega
    have win : ∀ j : Int, s7 [chD m (pl.map pcD) (strkL ((unf ls ts ts.length).drop i) ts), landD ls, .int j] = .ret (.bl (decide ((i : Int) ≤ j))) [] := fun j => by
      have := within_ok m pl (strkL ((unf ls ts ts.length).drop i) ts) ls j nd hl (by rw [strkL_len]; exact ht) hls (strkL_okT ok)
      rw [hlen] at this
      exact this
    refine ⟨_, rfl, _, rfl, rfl, _, rfl, _, rfl, rfl, _, rfl, _, rfl, _, slc_nats (by omega), _, rfl, chD m (pl.map pcD) (strkL ((unf ls ts ts.length).drop i) ts), [], fe F20_16 ((congrArg (fun d => s16 [chD m (pl.map pcD) ts, d]) (show fzD (.lst true (natsD ((unf ls ts ts.length).drop i))) = .lst false (natsD ((unf ls ts ts.length).drop i)) from congrArg (D.lst false) (nats_fz _))).trans (lawstruck_ok m (pl.map pcD) ts _ ht)), _, rfl, ?_⟩
    refine if_and (p := decide ((i : Int) < 3)) (q := false) (fun Q h => ⟨_, rfl, _, rfl, h⟩) (fun _ Q h => ⟨_, rfl, rfl, _, rfl, rfl, _, rfl, rfl, _, rfl, _, _, win i, _, rfl, .bl false, by rw [decide_eq_true (Int.le_refl (i : Int))]; rfl, h⟩) (fun z => by rw [Bool.and_false] at z; cases z) (fun _ => ?_)
    refine if_and (p := decide (0 < (i : Int))) (q := false) (fun Q h => ⟨_, rfl, _, rfl, h⟩) (fun _ Q h => ⟨_, rfl, rfl, _, rfl, rfl, _, rfl, _, rfl, _, rfl, _, _, win ((i : Int) - 1), _, rfl, .bl false, by rw [decide_eq_false (show ¬ (i : Int) ≤ (i : Int) - 1 by omega)]; rfl, h⟩) (fun z => by rw [Bool.and_false] at z; cases z) (fun _ => ⟨_, _, rfl⟩)
  · rintro ρ ⟨e3, e4, rfl⟩
    exact ⟨_, rfl, rfl, rfl⟩


/-! ### the scene -/
def dropS : Nat → Ss → Ss
  | 0, s => s
  | n + 1, .cons _ r => dropS n r
  | _ + 1, .nil => .nil
def bodyS : Ss → Ss
  | .cons (.forr _ _ b) _ => b
  | _ => .nil
def body15 : Ss := bodyS (dropS 10 b15)
abbrev ev15 (P : D) (w : Bool) (m : Int) (nl : List PySem.Str) (ts : List Ti) (br : List Nat) (few lf sure often : Int) (lb : List PySem.Str) (rs hs : List Int) (e11 e15 e16 e17 e18 e19 e20 : Option D) : Ev :=
  [some P, some (.bl w), some (.int m), some (.lst false (nl.map D.str)), some (.lst true (ts.map tiD)), some (.lst true (natsD br)), some (.int few), some (.int lf), some (.int sure), some (.int often), some (.lst false (lb.map D.str)), e11, none, some (.lst false (rs.map D.int)), some (.lst false (hs.map D.int)), e15, e16, e17, e18, e19, e20]
theorem F15_13 : @Fns.F (inst t15) 13 = s13 := rfl
theorem F15_12 : @Fns.F (inst t15) 12 = s12 := rfl
theorem F15_9 : @Fns.F (inst t15) 9 = s9 := rfl
theorem F15_10 : @Fns.F (inst t15) 10 = s10 := rfl
theorem F15_14 : @Fns.F (inst t15) 14 = s14 := rfl
theorem strs_at {l : List PySem.Str} {i : Nat} {x : PySem.Str} (h : l[i]? = some x) : O2.idx.sem (.lst false (l.map D.str)) (.int (i : Int)) = some (.str x) := atI_nat (by rw [List.getElem?_map, h]; rfl)
theorem ints_at {l : List Int} {i : Nat} (h : i < l.length) : O2.idx.sem (.lst false (l.map D.int)) (.int (i : Int)) = some (.int (l.getD i 0)) := atI_nat (getD_at h)
theorem tail7 {g mx c m few lf sure often x kind : Int} {w bad : Bool} {nl lb : List PySem.Str} {ts : List Ti} {br : List Nat} {rs hs : List Int} {k u v : Nat} {su sv sl : PySem.Str} {e20 : Option D} {Q : Fl → Ev → Prop}
    (hb : br.length ≤ 1000) (ht : ts.length ≤ 1000) (hk0 : 0 ≤ kind) (hk4 : kind ≤ 4) (hu : nl[u]? = some su) (hv : nl[v]? = some sv) (hl : lb[k]? = some sl)
    (h : ∀ (g' mx' c' : Int) (t : Ti) (e20 : Option D), t.iu = u → t.iv = v → t.u = su → t.v = sv → okTi t → keepO x t.lo t.hi = !(bad && decide (0 < kind)) →
      Q .nx (ev15 (po g' mx' c') w m nl (ts ++ [t]) (br ++ if (bad && decide (0 < kind)) = true then [k] else []) few lf sure often lb rs hs (some (.int (k : Int))) (some (.int (u : Int))) (some (.int (v : Int))) (some (.int x)) (some (.int kind)) (some (.bl bad)) e20)) :
    @wpSs (inst t15) (dropS 7 body15) (ev15 (po g mx c) w m nl ts br few lf sure often lb rs hs (some (.int (k : Int))) (some (.int (u : Int))) (some (.int (v : Int))) (some (.int x)) (some (.int kind)) (some (.bl bad)) e20) Q := by
  obtain ⟨lo, hi, g1, m1, c1, hkeep, bt⟩ := bounds_ok g mx c x kind bad hk0 hk4
  obtain ⟨ps, g2, m2, c2, hps, pt⟩ := pulls_ok g1 m1 c1
  have fA1 : frzD (oD lo) = true := by cases lo <;> rfl
  have fA2 : frzD (oD hi) = true := by cases hi <;> rfl
  have rest : ∀ br' : List Nat, (br' = br ++ if (bad && decide (0 < kind)) = true then [k] else []) → @wpSs (inst t15) (dropS 8 body15) (ev15 (po g mx c) w m nl ts br' few lf sure often lb rs hs (some (.int (k : Int))) (some (.int (u : Int))) (some (.int (v : Int))) (some (.int x)) (some (.int kind)) (some (.bl bad)) e20) Q := by
    rintro br' rfl
    refine ⟨_, rfl, _, rfl, rfl, _, rfl, rfl, _, rfl, rfl, _, rfl, _, _, fe F15_13 bt, _, rfl, ?_⟩
    refine ⟨rfl, _, rfl, _, rfl, .str sl, strs_at hl, rfl, _, rfl, _, rfl, .str su, strs_at hu, rfl, _, rfl, _, rfl, .str sv, strs_at hv, rfl, ?_⟩
    refine ⟨_, rfl, _, rfl, fA1, _, rfl, _, rfl, fA2, _, rfl, _, rfl, _, _, fe F15_12 pt, _, rfl, ⟨?_, (Nat.le_of_ble_eq_true rfl)⟩, _, rfl, ?_, ?_⟩
    · show (true && (true && (true && (frzD (oD lo) && (frzD (oD hi) && (true && true)))))) = true
      rw [fA1, fA2]; rfl
    · rw [List.length_map]
      show _ < 16777216
      omega
    have := h g2 m2 c2 ⟨sl, su, sv, lo, hi, ps, u, v⟩ (some (.tup [oD lo, oD hi])) rfl rfl rfl rfl hps hkeep
    have e : (ts ++ [(⟨sl, su, sv, lo, hi, ps, u, v⟩ : Ti)]).map tiD = ts.map tiD ++ [tiD ⟨sl, su, sv, lo, hi, ps, u, v⟩] := List.map_append
    unfold ev15 at this
    rw [e] at this
    exact this
  refine if_and (p := bad) (q := decide (0 < kind)) (fun Q h => ⟨_, rfl, h⟩) (fun _ Q h => ⟨_, rfl, _, rfl, h⟩) (fun z => ?_) (fun z => ?_)
  · refine ⟨rfl, _, rfl, rfl, _, rfl, by rw [nats_len]; show _ < 16777216; omega, ?_⟩
    have := rest (br ++ [k]) (by rw [if_pos z])
    have e : natsD (br ++ [k]) = natsD br ++ [D.int (k : Int)] := nats_app _ _
    unfold ev15 at this
    rw [e] at this
    exact this
  · exact rest br (by rw [if_neg (by rw [z]; exact Bool.false_ne_true), List.append_nil])
theorem tail6 {g mx c m few lf sure often x kind : Int} {w bad : Bool} {nl lb : List PySem.Str} {ts : List Ti} {br : List Nat} {rs hs : List Int} {k u v : Nat} {su sv sl : PySem.Str} {e20 : Option D} {Q : Fl → Ev → Prop}
    (hb : br.length ≤ 1000) (ht : ts.length ≤ 1000) (hk0 : 0 ≤ kind) (hk4 : kind ≤ 4) (hu : nl[u]? = some su) (hv : nl[v]? = some sv) (hl : lb[k]? = some sl)
    (h : ∀ (g' mx' c' lf' : Int) (t : Ti) (e15 e16 e17 e18 e19 e20 : Option D), t.iu = u → t.iv = v → t.u = su → t.v = sv → okTi t → keepO x t.lo t.hi = !(bad && decide (0 < kind)) →
      Q .nx (ev15 (po g' mx' c') w m nl (ts ++ [t]) (br ++ if (bad && decide (0 < kind)) = true then [k] else []) few lf' sure often lb rs hs (some (.int (k : Int))) e15 e16 e17 e18 e19 e20)) :
    @wpSs (inst t15) (dropS 6 body15) (ev15 (po g mx c) w m nl ts br few lf sure often lb rs hs (some (.int (k : Int))) (some (.int (u : Int))) (some (.int (v : Int))) (some (.int x)) (some (.int kind)) (some (.bl bad)) e20) Q := by
  refine if_and (p := decide (0 < kind)) (q := !decide ((k : Int) = sure)) (fun Q h => ⟨_, rfl, _, rfl, h⟩) (fun _ Q h => ⟨_, rfl, _, rfl, _, rfl, h⟩) (fun z => ?_) (fun z => ?_)
  · refine ⟨_, rfl, _, rfl, ?_⟩
    exact tail7 hb ht hk0 hk4 hu hv hl fun g' mx' c' t e20 h1 h2 h3 h4 h5 h6 => h g' mx' c' _ t _ _ _ _ _ _ h1 h2 h3 h4 h5 h6
  · exact tail7 hb ht hk0 hk4 hu hv hl fun g' mx' c' t e20 h1 h2 h3 h4 h5 h6 => h g' mx' c' _ t _ _ _ _ _ _ h1 h2 h3 h4 h5 h6


theorem badAt_app {hs : List Int} {ts : List Ti} {t : Ti} {k : Nat} (h : k < ts.length) : badAt hs (ts ++ [t]) k = badAt hs ts k := by
  unfold badAt
  rw [List.getElem?_append_left h]
theorem unf_app {hs : List Int} {ts : List Ti} {t : Ti} : unf hs (ts ++ [t]) ts.length = unf hs ts ts.length := by
  unfold unf
  exact List.filter_congr fun k hk => badAt_app (List.mem_range.mp hk)
/-- a tie between named places -/
def okN (nl : List PySem.Str) (t : Ti) : Prop := nl[t.iu]? = some t.u ∧ nl[t.iv]? = some t.v ∧ okTi t
def plOf (nl : List PySem.Str) (rs : List Int) (n : Nat) : List Pc := (List.range n).map fun k => (nl.getD k "", rs.getD k 0)
theorem plOf_len (nl : List PySem.Str) (rs : List Int) (n : Nat) : (plOf nl rs n).length = n := by unfold plOf; rw [List.length_map, List.length_range]
theorem plOf_at {nl : List PySem.Str} {rs : List Int} {k : Nat} {x : PySem.Str} (h : nl[k]? = some x) : (plOf nl rs nl.length)[k]? = some (x, rs.getD k 0) := by
  have hk : k < nl.length := (List.getElem?_eq_some_iff.mp h).1
  unfold plOf
  rw [List.getElem?_map, List.getElem?_range hk]
  show some (nl.getD k "", rs.getD k 0) = _
  rw [List.getD_eq_getElem?_getD, h]
  rfl
theorem plOf_names (nl : List PySem.Str) (rs : List Int) : (plOf nl rs nl.length).map (·.1) = nl := by
  apply List.ext_getElem?
  intro k
  cases h : nl[k]? with
  | none =>
    have : nl.length ≤ k := List.getElem?_eq_none_iff.mp h
    rw [List.getElem?_eq_none_iff.mpr]
    rw [List.length_map, plOf_len]
    exact this
  | some x => rw [List.getElem?_map, plOf_at h]; rfl
theorem body_ok {g mx c m few lf sure often : Int} {w : Bool} {nl lb : List PySem.Str} {ts : List Ti} {rs hs : List Int} {e11 e15 e16 e17 e18 e19 e20 : Option D} {Q : Fl → Ev → Prop}
    (hn0 : 2 ≤ nl.length) (hn1 : nl.length ≤ 1000) (hh : hs.length = nl.length) (hf : few ≤ 1000) (ho : 0 < often) (ho1 : often < 100) (ht : ts.length < lb.length) (hlb : lb.length ≤ 1000)
    (h : ∀ (g' mx' c' lf' : Int) (t : Ti) (e15 e16 e17 e18 e19 e20 : Option D), okN nl t → Q .nx (ev15 (po g' mx' c') w m nl (ts ++ [t]) (unf hs (ts ++ [t]) (ts.length + 1)) few lf' sure often lb rs hs (some (.int (ts.length : Int))) e15 e16 e17 e18 e19 e20)) :
    @wpSs (inst t15) body15 (ev15 (po g mx c) w m nl ts (unf hs ts ts.length) few lf sure often lb rs hs (some (.int (ts.length : Int))) e15 e16 e17 e18 e19 e20) Q := by
  have hnl : ((nl.map D.str).length : Int) = (nl.length : Int) := by rw [List.length_map]
  obtain ⟨u', g1, m1, c1, u0, u1, ut⟩ := draw_ex g mx c (((nl.map D.str).length : Int) - 1) (by omega) (by omega)
  obtain ⟨u, rfl⟩ := nth_nat u0
  obtain ⟨v', g2, m2, c2, v0, v1, vt⟩ := draw_ex g1 m1 c1 (((nl.map D.str).length : Int) - 1 - (u : Int)) (by omega) (by omega)
  obtain ⟨v, hv⟩ : ∃ v : Nat, (u : Int) + 1 + v' = (v : Int) := nth_nat (by omega)
  obtain ⟨kd, g3, m3, c3, k0, k1, kt⟩ := draw_ex g2 m2 c2 5 (by omega) (by omega)
  have hu : u < nl.length := by omega
  have hvm : v < nl.length := by omega
  have gu : nl[u]? = some (nl[u]'hu) := by simp
  have gv : nl[v]? = some (nl[v]'hvm) := by simp
  have gl : lb[ts.length]? = some (lb[ts.length]'ht) := by simp
  have hub := unf_len hs ts ts.length
  refine ⟨_, rfl, _, rfl, _, rfl, _, rfl, _, rfl, _, _, fe F15_9 ut, _, rfl, ?_⟩
  refine ⟨_, rfl, _, rfl, _, rfl, _, rfl, _, rfl, _, rfl, _, rfl, _, rfl, _, rfl, _, _, fe F15_9 vt, _, rfl, .int (v : Int), congrArg (fun i => some (D.int i)) hv, ?_⟩
  refine ⟨_, rfl, _, rfl, .int (hs.getD v 0), ints_at (by omega), _, rfl, _, rfl, .int (hs.getD u 0), ints_at (by omega), _, rfl, ?_⟩
  refine ⟨_, rfl, _, rfl, _, _, fe F15_9 kt, _, rfl, ?_⟩
  have fin : ∀ (g mx c lf kind : Int) (bad : Bool) (e20 : Option D), 0 ≤ kind → kind ≤ 4 → @wpSs (inst t15) (dropS 6 body15) (ev15 (po g mx c) w m nl ts (unf hs ts ts.length) few lf sure often lb rs hs (some (.int (ts.length : Int))) (some (.int (u : Int))) (some (.int (v : Int))) (some (.int (hs.getD v 0 - hs.getD u 0))) (some (.int kind)) (some (.bl bad)) e20) Q := fun g mx c lf kind bad e20 q0 q1 =>
    tail6 (by omega) (by omega) q0 q1 gu gv gl fun g' mx' c' lf' t e15 e16 e17 e18 e19 e20 h1 h2 h3 h4 h5 h6 => by
      have hp : (ts ++ [t])[ts.length]? = some t := by simp
      have := h g' mx' c' lf' t e15 e16 e17 e18 e19 e20 ⟨by rw [h1, h3]; exact gu, by rw [h2, h4]; exact gv, h5⟩
      rw [unf_succ hp, unf_app] at this
      have hk : keepB hs t = !(bad && decide (0 < kind)) := by
        unfold keepB dif
        rw [h1, h2]
        exact h6
      rw [hk] at this
      have e : (if (!(bad && decide (0 < kind))) = true then [] else [ts.length]) = if (bad && decide (0 < kind)) = true then [ts.length] else [] := by
        cases (bad && decide (0 < kind)) <;> rfl
      rw [e] at this
      exact this
  by_cases hk : (ts.length : Int) = sure
  · refine ⟨_, rfl, _, rfl, _, rfl, _, rfl, (fun _ => ?_), fun z => absurd hk (of_decide_eq_false z)⟩
    obtain ⟨r, g4, m4, c4, r0, r1, rt⟩ := draw_ex g3 m3 c3 4 (by omega) (by omega)
    refine ⟨_, rfl, _, rfl, _, rfl, _, rfl, (fun _ => ?_), fun z => absurd hk (of_decide_eq_false z)⟩
    refine ⟨_, rfl, _, rfl, _, _, fe F15_9 rt, _, rfl, _, rfl, ?_⟩
    exact fin g4 m4 c4 lf (1 + r) (decide ((ts.length : Int) = sure)) _ (by omega) (by omega)
  · refine ⟨_, rfl, _, rfl, _, rfl, _, rfl, (fun z => absurd (of_decide_eq_true z) hk), fun _ => ?_⟩
    obtain ⟨r, g4, m4, c4, r0, r1, rt⟩ := draw_ex g3 m3 c3 often (by omega) (by omega)
    obtain ⟨q, g5, m5, c5, q0, q1, qt⟩ := draw_ex g4 m4 c4 4 (by omega) (by omega)
    refine ⟨_, rfl, _, rfl, rfl, _, rfl, _, _, fe F15_9 rt, _, rfl, _, rfl, ?_⟩
    refine ⟨_, rfl, _, rfl, _, rfl, _, rfl, (fun z => absurd (of_decide_eq_true z) hk), fun _ => ?_⟩
    refine ⟨_, rfl, _, rfl, _, rfl, (fun _ => ?_), fun z => ?_⟩
    · exact ⟨_, rfl, (fun _ => fin g4 m4 c4 lf 0 (decide (r = 0)) _ (by omega) (by omega)), fun z2 => by rename_i z; exact nomatch z.symm.trans z2⟩
    · refine ⟨_, rfl, _, rfl, (fun hw => ?_), fun hw => ⟨_, rfl, (fun z2 => nomatch hw.symm.trans z2), fun _ => fin g4 m4 c4 lf kd (decide (r = 0)) _ (by omega) (by omega)⟩⟩
      refine ⟨_, rfl, _, rfl, _, _, fe F15_9 qt, _, rfl, _, rfl, _, rfl, (fun _ => ?_), fun _ => ?_⟩
      · exact fin g5 m5 c5 lf 0 (decide (r = 0)) _ (by omega) (by omega)
      · exact fin g5 m5 c5 lf kd (decide (r = 0)) _ (by omega) (by omega)


def fPost (io : List Bool) (P : D → List D → Prop) : Fl → Ev → Prop := fun f ρ => match f with
  | .nx => ∃ l, outsOf (ixs io) ρ = some l ∧ P .non l
  | .rt d => ∃ l, outsOf (ixs io) ρ = some l ∧ P d l
  | _ => False
def scP (d : D) (o : List D) : Prop := ∃ (m : Int) (nl : List PySem.Str) (rs hs : List Int) (ts : List Ti) (g' mx' c' : Int), 2 ≤ nl.length ∧ nl.length ≤ 40 ∧ nl.Nodup ∧ rs.length = nl.length ∧ hs.length = nl.length ∧ 1 ≤ ts.length ∧ ts.length ≤ 80 ∧ (∀ t ∈ ts, okN nl t) ∧
  d = .tup [chD m ((plOf nl rs nl.length).map pcD) ts, landD hs, .lst false (natsD (unf hs ts ts.length))] ∧ o = [po g' mx' c']
theorem scene2 (g mx c m : Int) (w : Bool) (nl : List PySem.Str) (rs hs : List Int) (few : Nat) (hn0 : 2 ≤ nl.length) (hn1 : nl.length ≤ 40) (nd : nl.Nodup) (hr : rs.length = nl.length) (hh : hs.length = nl.length) (hf0 : 1 ≤ few) (hf1 : few ≤ 80) :
    @wpSs (inst t15) (dropS 6 b15) [some (po g mx c), some (.bl w), some (.int m), some (.lst false (nl.map D.str)), some (.lst true []), some (.lst true []), some (.int (few : Int)), none, none, none, none, none, none, some (.lst false (rs.map D.int)), some (.lst false (hs.map D.int)), none, none, none, none, none, none] (fPost io15 scP) := by
  obtain ⟨su, g1, m1, c1, s0', s1', st⟩ := draw_ex g mx c (few : Int) (by omega) (by omega)
  obtain ⟨ofn, g2, m2, c2, o0, o1, ot⟩ := draw_ex g1 m1 c1 6 (by omega) (by omega)
  obtain ⟨lb, g3, m3, c3, hlb, _, lt⟩ := names_ok g2 m2 c2 few hf1
  refine ⟨_, rfl, _, rfl, rfl, _, rfl, _, _, fe F15_9 st, _, rfl, ?_⟩
  refine ⟨_, rfl, _, rfl, _, _, fe F15_9 ot, _, rfl, _, rfl, ?_⟩
  refine ⟨_, rfl, _, rfl, rfl, _, rfl, _, _, fe F15_10 lt, _, rfl, ?_⟩
  refine ⟨_, rfl, rfl, _, rng1 (by omega) (by omega), fun i ρ => ∃ g mx c lf ts e11 e15 e16 e17 e18 e19 e20, ρ = ev15 (po g mx c) w m nl ts (unf hs ts ts.length) (few : Int) lf su (1 + ofn) lb rs hs e11 e15 e16 e17 e18 e19 e20 ∧ ts.length = i ∧ ∀ t ∈ ts, okN nl t, ⟨_, _, _, _, [], _, _, _, _, _, _, _, rfl, rfl, fun t h => absurd h List.not_mem_nil⟩, ?_, ?_⟩
  · rintro i d ρ hd ⟨g, mx, c, lf, ts, e11, e15, e16, e17, e18, e19, e20, rfl, rfl, ok⟩
    obtain ⟨rfl, hi⟩ := rng_get _ _ _ _ hd
    have hi : ts.length < few := by omega
    rw [Int.zero_add]
    refine ⟨_, rfl, ?_⟩
    refine body_ok (e11 := none) hn0 (by omega) hh (by omega) (by omega) (by omega) (by omega) (by omega) fun g' mx' c' lf' t e15 e16 e17 e18 e19 e20 ht => ?_
    refine ⟨g', mx', c', lf', ts ++ [t], _, _, _, _, _, _, _, by rw [List.length_append]; rfl, by simp, fun x hx => ?_⟩
    rcases List.mem_append.mp hx with h | h
    · exact ok x h
    · rw [show x = t by simpa using h]
      exact ht
  · rintro ρ ⟨g, mx, c, lf, ts, e11, e15, e16, e17, e18, e19, e20, rfl, hts, ok⟩
    rw [rng_len] at hts
    refine ⟨_, rfl, _, rfl, _, rng1 (by rw [List.length_map]; omega) (by rw [List.length_map]; omega), fun i acc ρ => acc = (plOf nl rs i).map pcD ∧ ρ = ev15 (po g mx c) w m nl ts (unf hs ts ts.length) (few : Int) lf su (1 + ofn) lb rs hs none e15 e16 e17 e18 e19 e20, ⟨rfl, rfl⟩, ?_, ?_⟩
    · rintro i d acc ρ hd ⟨rfl, rfl⟩
      obtain ⟨rfl, hi⟩ := rng_get _ _ _ _ hd
      have hi : i < nl.length := by rw [List.length_map] at hi; omega
      rw [Int.zero_add]
      have gn : nl[i]? = some (nl.getD i "") := by rw [List.getD_eq_getElem?_getD, List.getElem?_eq_getElem hi]; rfl
      refine ⟨_, rfl, (fun _ => ⟨_, rfl, _, rfl, .str (nl.getD i ""), strs_at gn, rfl, _, rfl, _, rfl, .int (rs.getD i 0), ints_at (by omega), rfl, ⟨rfl, (Nat.le_of_ble_eq_true rfl)⟩, ?_, rfl⟩), fun z => nomatch z⟩
      unfold plOf
      rw [List.range_succ, List.map_append, List.map_append]
      rfl
    · rintro acc ρ ⟨rfl, rfl⟩
      rw [rng_len, show (((nl.map D.str).length : Int)).toNat = nl.length by rw [List.length_map]; omega]
      refine ⟨by rw [List.length_map, plOf_len]; show _ ≤ 16777216; omega, _, tuple_k (pc_frz _), ?_⟩
      refine ⟨_, rfl, rfl, _, rfl, rfl, _, rfl, _, tuple_k (ti_frz _), ⟨rfl, (Nat.le_of_ble_eq_true rfl)⟩, _, rfl, _, tuple_k (ints_frz hs), _, rfl, ⟨rfl, (Nat.le_of_ble_eq_true rfl)⟩, _, rfl, m, nl, rs, hs, ts, g, mx, c, hn0, hn1, nd, hr, hh, by omega, by omega, ok, ?_, rfl⟩
      rw [show fzD (.lst true (natsD (unf hs ts ts.length))) = .lst false (natsD (unf hs ts ts.length)) from congrArg (D.lst false) (nats_fz _)]
      rfl
theorem scene1 (g mx c m : Int) (w : Bool) (nl : List PySem.Str) (hm0 : 0 < m) (hm1 : m ≤ 10000) (hn0 : 2 ≤ nl.length) (hn1 : nl.length ≤ 40) (nd : nl.Nodup) :
    @wpSs (inst t15) (dropS 2 b15) [some (po g mx c), some (.bl w), some (.int m), some (.lst false (nl.map D.str)), none, none, none, none, none, none, none, none, none, none, none, none, none, none, none, none, none] (fPost io15 scP) := by
  obtain ⟨rs, hs, g1, m1, c1, hr, hh, lt⟩ := lands_ok g mx c m nl.length hm0 hm1 (by omega)
  refine ⟨_, rfl, _, rfl, rfl, _, rfl, .int (nl.length : Int), by show some (D.int ((nl.map D.str).length : Int)) = _; rw [List.length_map], _, rfl, _, _, fe F15_14 lt, _, rfl, _, rfl, ?_⟩
  refine ⟨(Nat.le_of_ble_eq_true rfl), (Nat.le_of_ble_eq_true rfl), ?_⟩
  cases w with
  | true => exact ⟨_, rfl, _, rfl, (fun _ => scene2 g1 m1 c1 m true nl rs hs 80 hn0 hn1 nd hr hh (by omega) (by omega)), fun z => nomatch z⟩
  | false =>
    obtain ⟨r, g2, m2, c2, r0, r1, rt⟩ := draw_ex g1 m1 c1 12 (by omega) (by omega)
    obtain ⟨k, hk⟩ : ∃ k : Nat, 1 + r = (k : Int) := nth_nat (by omega)
    refine ⟨_, rfl, _, rfl, (fun z => nomatch z), fun _ => ⟨_, rfl, _, rfl, _, _, fe F15_9 rt, _, rfl, .int (k : Int), congrArg (fun i => some (D.int i)) hk, ?_⟩⟩
    exact scene2 g2 m2 c2 m false nl rs hs k hn0 hn1 nd hr hh (by omega) (by omega)
theorem scene_ok (g mx c : Int) (w : Bool) : ∃ d o, s15 [po g mx c, .bl w] = .ret d o ∧ scP d o := by
  refine @wpF_ok (inst t15) n15.length io15 b15 _ _ ?_
  obtain ⟨r, g1, m1, c1, r0, r1, rt⟩ := draw_ex g mx c 9999 (by omega) (by omega)
  obtain ⟨q, g2, m2, c2, q0, q1, qt⟩ := draw_ex g1 m1 c1 8 (by omega) (by omega)
  obtain ⟨_, hm, m, rfl, hm0, hm1⟩ := pickL (o := true) (l := [.int 1, .int 2, .int 3, .int 4, .int 10, .int 360, .int 10000, .int (1 + r)]) (P := fun d => ∃ i : Int, d = .int i ∧ 0 < i ∧ i ≤ 10000) q0 q1 (by
    intro d hd
    simp only [List.mem_cons, List.not_mem_nil, or_false] at hd
    rcases hd with rfl | rfl | rfl | rfl | rfl | rfl | rfl | rfl <;> exact ⟨_, rfl, by omega, by omega⟩)
  refine ⟨_, rfl, _, rfl, _, _, fe F15_9 rt, _, rfl, _, rfl, (Nat.le_of_ble_eq_true rfl), _, rfl, _, rfl, _, _, fe F15_9 qt, _, rfl, _, hm, rfl, ?_⟩
  cases w with
  | true =>
    obtain ⟨nl, g3, m3, c3, hl, nd, nt_⟩ := names_ok g2 m2 c2 40 (by omega)
    exact ⟨_, rfl, _, rfl, _, rfl, (fun _ => ⟨_, rfl, _, _, fe F15_10 nt_, _, rfl, scene1 g3 m3 c3 m true nl hm0 hm1 (by omega) (by omega) nd⟩), fun z => nomatch z⟩
  | false =>
    obtain ⟨x, g3, m3, c3, x0, x1, xt⟩ := draw_ex g2 m2 c2 7 (by omega) (by omega)
    obtain ⟨k, hk⟩ : ∃ k : Nat, 2 + x = (k : Int) := nth_nat (by omega)
    obtain ⟨nl, g4, m4, c4, hl, nd, nt_⟩ := names_ok g3 m3 c3 k (by omega)
    exact ⟨_, rfl, _, rfl, _, rfl, (fun z => nomatch z), fun _ => ⟨_, rfl, _, rfl, _, _, fe F15_9 xt, _, rfl, .int (k : Int), congrArg (fun i => some (D.int i)) hk, _, rfl, _, _, fe F15_10 nt_, _, rfl, scene1 g4 m4 c4 m false nl hm0 hm1 (by omega) (by omega) nd⟩⟩


theorem eqv_nats : ∀ S : List Nat, PyData.eqvAll (toPs (natsD S)) (toPs (natsD S)) = true
  | [] => rfl
  | k :: S => by
    show (((k : Int) == (k : Int)) && PyData.eqvAll (toPs (natsD S)) (toPs (natsD S))) = true
    rw [eqv_nats S]
    simp
theorem depth_nats : ∀ S : List Nat, PyData.depthAll (toPs (natsD S)) = 0
  | [] => rfl
  | k :: S => by
    show max 0 (PyData.depthAll (toPs (natsD S))) = 0
    rw [depth_nats S]
    rfl
theorem ne_nats (S : List Nat) : O2.ne.sem (.lst false (natsD S)) (.lst false (natsD S)) = some (.bl false) := by
  have d1 : (toP (.lst false (natsD S))).depth = 1 := by
    show PyData.depthAll (toPs (natsD S)) + 1 = 1
    rw [depth_nats]
  have e1 : PyData.eqv (toP (.lst false (natsD S))) (toP (.lst false (natsD S))) = true := eqv_nats S
  show notS (if _ ∧ _ ∧ _ then some (.bl (PyData.eqv (toP (.lst false (natsD S))) (toP (.lst false (natsD S))))) else none) = _
  rw [if_pos ⟨plain_nats S, plain_nats S, by rw [d1]; decide⟩, e1]
  rfl
theorem slc_to {xs : List D} {k : Nat} (h : k ≤ xs.length) : slcS (.tup xs) none (some (k : Int)) = some (.tup (xs.take k)) := by
  show some (D.tup ((xs.drop (HT.sIx xs.length 0 none)).take (HT.sIx xs.length xs.length (some (k : Int)) - HT.sIx xs.length 0 none))) = _
  rw [HT.sIx_nat, HT.sIx_none, Nat.min_eq_left h]
  rfl
theorem slc_from {xs : List D} {k : Nat} (h : k ≤ xs.length) : slcS (.tup xs) (some (k : Int)) none = some (.tup (xs.drop k)) := by
  show some (D.tup ((xs.drop (HT.sIx xs.length 0 (some (k : Int)))).take (HT.sIx xs.length xs.length none - HT.sIx xs.length 0 (some (k : Int))))) = _
  rw [HT.sIx_nat, HT.sIx_none, Nat.min_eq_left h, List.take_of_length_le (by rw [List.length_drop]; omega)]
theorem add_tup {a b : List D} (h : a.length + b.length ≤ 1000) : O2.add.sem (.tup a) (.tup b) = some (.tup (a ++ b)) := if_pos (by show _ ≤ 16777216; omega)
theorem F21_19 : @Fns.F (inst t21) 19 = s19 := rfl
theorem F21_20 : @Fns.F (inst t21) 20 = s20 := rfl
theorem F21_18 : @Fns.F (inst t21) 18 = s18 := rfl
theorem F21_17 : @Fns.F (inst t21) 17 = s17 := rfl
theorem F21_15 : @Fns.F (inst t21) 15 = s15 := rfl
theorem F21_11 : @Fns.F (inst t21) 11 = s11 := rfl
theorem F21_9 : @Fns.F (inst t21) 9 = s9 := rfl
theorem F21_8 : @Fns.F (inst t21) 8 = s8 := rfl
theorem F21_7 : @Fns.F (inst t21) 7 = s7 := rfl
theorem F21_6 : @Fns.F (inst t21) 6 = s6 := rfl
theorem math (ns : List Int) (hl : ns.length ≤ 63) : s21 [.scr ns] = .ret (.bl true) [] := by
  refine @wpF_eq (inst t21) n21.length io21 b21 _ _ _ ?_
  obtain ⟨g, mx, pt⟩ := pool_ok ns hl
  obtain ⟨w, g1, m1, c1, w0, w1, wt⟩ := draw_ex g mx 0 13 (by omega) (by omega)
  refine ⟨_, rfl, rfl, _, rfl, _, _, fe F21_8 pt, _, rfl, ?_⟩
  refine ⟨_, rfl, _, rfl, _, _, fe F21_9 wt, _, rfl, _, rfl, ?_⟩
  obtain ⟨_, _, st, m, nl, rs, hs, ts, g2, m2, c2, n0, n1, nd, hr, hh, t0', t1', okn, rfl, rfl⟩ := scene_ok g1 m1 c1 (decide (w = 6))
  refine ⟨_, rfl, _, rfl, rfl, _, rfl, _, _, fe F21_15 st, _, rfl, _, rfl, ?_⟩
  have pn : ((plOf nl rs nl.length).map (·.1)).Nodup := by rw [plOf_names]; exact nd
  have pl' : (plOf nl rs nl.length).length ≤ 1000 := by rw [plOf_len]; omega
  have ht : ts.length ≤ 1000 := by omega
  have hls : hs.length = (plOf nl rs nl.length).length := by rw [plOf_len, hh]
  have okT' : ∀ t ∈ ts, okT (plOf nl rs nl.length) t := fun t h => ⟨⟨_, plOf_at (okn t h).1⟩, ⟨_, plOf_at (okn t h).2.1⟩⟩
  have okTi' : ∀ t ∈ ts, okTi t := fun t h => (okn t h).2.2
  have hbr := unf_len hs ts ts.length
  refine ⟨_, rfl, _, rfl, rfl, _, rfl, rfl, _, rfl, _, _, fe F21_17 (broken_ok m _ ts hs pn pl' ht hls okT'), _, rfl, _, ne_nats _, _, rfl, (fun z => nomatch z), fun _ => ?_⟩
  obtain ⟨g3, m3, c3, kt⟩ := strikes_ok g2 m2 c2 m (plOf nl rs nl.length) ts (unf hs ts ts.length) pl' t0' ht (by omega) okTi'
  refine ⟨_, rfl, _, rfl, rfl, _, rfl, rfl, _, rfl, _, _, fe F21_19 kt, _, rfl, _, rfl, _, rfl, (fun z => nomatch z), fun _ => ?_⟩
  refine ⟨_, rfl, rfl, _, rfl, rfl, _, rfl, rfl, _, rfl, _, _, fe F21_20 (exact_ok m _ ts hs pn pl' ht hls okT'), _, rfl, _, rfl, _, rfl, (fun z => nomatch z), fun _ => ?_⟩
  refine ⟨_, rfl, rfl, _, rfl, rfl, _, rfl, _, _, fe F21_18 (lawwithin_ok m _ ts hs pn pl' ht hls okT'), _, rfl, _, rfl, _, rfl, (fun z => nomatch z), fun _ => ?_⟩
  refine ⟨_, rng1 (by omega) (by omega), fun i ρ => ∃ g mx c e3 e9 e10, ρ = [some (.scr ns), some (po g mx c), some (.bl (decide (w = 6))), e3, none, none, some (chD m ((plOf nl rs nl.length).map pcD) ts), some (landD hs), some (.lst false (natsD (unf hs ts ts.length))), e9, e10], ⟨_, _, _, _, _, _, rfl⟩, ?_, ?_⟩
  · rintro i d ρ hd ⟨g, mx, c, e3, e9, e10, rfl⟩
    obtain ⟨a', g4, m4, c4, a0, a1, at_⟩ := draw_ex g mx c ((hs.map D.int).length : Int) (by rw [List.length_map]; omega) (by rw [List.length_map]; omega)
    obtain ⟨a, rfl⟩ := nth_nat a0
    rw [List.length_map] at a1
    have ha : a < hs.length := by omega
    obtain ⟨q, g5, m5, c5, q0, q1, qt⟩ := draw_ex g4 m4 c4 4 (by omega) (by omega)
    obtain ⟨_, hv, v, rfl, v0, v1⟩ := pickL (o := true) (l := [.int 1, .int (-1), .int 2, .int (-3)]) (P := fun d => ∃ p : Int, d = .int p ∧ -10 < p ∧ p < 10) q0 q1 (by
      intro d hd
      simp only [List.mem_cons, List.not_mem_nil, or_false] at hd
      rcases hd with rfl | rfl | rfl | rfl <;> exact ⟨_, rfl, by omega, by omega⟩)
    refine ⟨_, rfl, ?_⟩
    refine ⟨_, rfl, _, rfl, _, rfl, _, rfl, _, _, fe F21_9 at_, _, rfl, ?_⟩
    refine ⟨_, rfl, _, rfl, rfl, _, rfl, _, rfl, (Nat.le_of_ble_eq_true rfl), _, rfl, _, rfl, _, _, fe F21_9 qt, _, rfl, _, hv, _, mul_r (by omega) (by omega), ?_⟩
    have hl3 : (hs.take a ++ [hs.getD a 0 + m * v] ++ hs.drop (a + 1)).length = hs.length := by
      rw [List.length_append, List.length_append, List.length_take, List.length_drop]
      simp
      omega
    have e3' : D.tup (((hs.map D.int).take a ++ [D.int (hs.getD a 0 + m * v)]) ++ (hs.map D.int).drop (a + 1)) = landD (hs.take a ++ [hs.getD a 0 + m * v] ++ hs.drop (a + 1)) := by
      unfold landD
      rw [List.map_append, List.map_append, List.map_take, List.map_drop]
      rfl
    have hlen : (hs.map D.int).length = hs.length := List.length_map _
    refine ⟨_, rfl, rfl, _, rfl, _, rfl, _, rfl, rfl, _, rfl, _, slc_to (by omega), _, rfl, _, rfl, _, land_at ha, _, rfl, _, rfl, ⟨rfl, (Nat.le_of_ble_eq_true rfl)⟩, _, add_tup (by rw [List.length_take]; show _ + 1 ≤ 1000; omega), _, rfl, _, rfl, _, rfl, .some ((a : Int) + 1), rfl, _, rfl, .tup ((hs.map D.int).drop (a + 1)), slc_from (k := a + 1) (by omega), landD (hs.take a ++ [hs.getD a 0 + m * v] ++ hs.drop (a + 1)), ?_, ?_⟩
    · rw [← e3']
      exact add_tup (by rw [List.length_append, List.length_take, List.length_drop]; show _ + 1 + _ ≤ 1000; omega)
    refine ⟨_, rfl, _, _, fe F21_18 (lawwithin_ok m _ ts (hs.take a ++ [hs.getD a 0 + m * v] ++ hs.drop (a + 1)) pn pl' ht (by rw [hl3]; exact hls) okT'), _, rfl, _, rfl, _, rfl, (fun z => nomatch z), fun _ => ?_⟩
    exact ⟨g5, m5, c5, _, _, _, rfl⟩
  · rintro ρ ⟨g, mx, c, e3, e9, e10, rfl⟩
    have o0 : ∀ pl : List Pc, ∀ t ∈ ([] : List Ti), okT pl t := fun pl t h => absurd h List.not_mem_nil
    have o1 : ∀ t ∈ ([] : List Ti), okTi t := fun t h => absurd h List.not_mem_nil
    refine ⟨_, rfl, _, rfl, rfl, _, rfl, _, rfl, rfl, ⟨rfl, (Nat.le_of_ble_eq_true rfl)⟩, ⟨rfl, (Nat.le_of_ble_eq_true rfl)⟩, ?_⟩
    refine ⟨_, rfl, _, rfl, rfl, ⟨rfl, (Nat.le_of_ble_eq_true rfl)⟩, ⟨rfl, (Nat.le_of_ble_eq_true rfl)⟩, ⟨rfl, (Nat.le_of_ble_eq_true rfl)⟩, ?_⟩
    refine ⟨_, rfl, rfl, ⟨rfl, (Nat.le_of_ble_eq_true rfl)⟩, _, rfl, _, _, fe F21_6 (struck_ok m ((plOf nl rs nl.length).map pcD) [] [] (by simp) (by simp)), _, rfl, _, rfl, rfl, _, rfl, _, _, fe F21_11 (same_ch m (plOf nl rs nl.length) [] pl' (by simp) o1), _, rfl, _, rfl, _, rfl, (fun z => nomatch z), fun _ => ?_⟩
    refine ⟨_, rfl, rfl, ⟨rfl, (Nat.le_of_ble_eq_true rfl)⟩, _, rfl, _, _, fe F21_6 (struck_ok m [] [] [] (by simp) (by simp)), _, rfl, _, rfl, rfl, _, rfl, _, _, fe F21_11 (same_ch m [] [] (by simp) (by simp) o1), _, rfl, _, rfl, _, rfl, (fun z => nomatch z), fun _ => ?_⟩
    obtain ⟨r, g6, m6, c6, r0, r1, rt⟩ := draw_ex g mx c 3 (by omega) (by omega)
    have hr0 : decide ((((unf [] [] ([] : List Ti).length).length : Nat) : Int) ≤ r) = true := decide_eq_true r0
    refine ⟨_, rfl, rfl, _, rfl, rfl, _, rfl, _, _, fe F21_7 (within_ok m (plOf nl rs nl.length) [] hs 0 pn pl' (by simp) hls (o0 _)), _, rfl, _, rfl, _, rfl, (fun _ => ?_), fun z => nomatch z⟩
    refine ⟨_, rfl, rfl, ⟨rfl, (Nat.le_of_ble_eq_true rfl)⟩, _, rfl, _, rfl, _, _, fe F21_9 rt, _, rfl, _, rfl, _, _, fe F21_7 (within_ok m [] [] [] r (by simp) (by simp) (by simp) rfl (o0 _)), _, rfl, _, rfl, _, rfl, ?_, rfl⟩
    rw [hr0]
    rfl

end Hd
open PySem PySem.W PySem.Calls PyProof.Rows
theorem PySem.Challenge.cw_fringes_k34_struck_and_within_holds : PySem.Challenge.rw_fringes_k34_struck_and_within.Holds := by
  w_on; o_law
  refine HandSHeadRun.head_any (r := OpenLaw.row PySem.Challenge.rw_fringes_k34_struck_and_within) (q := view (OpenLaw.row PySem.Challenge.rw_fringes_k34_struck_and_within).prog [25]) (H := Hd.hk) (ob := Hd.ob) (M := 4000) (loose := Hd.names) (d := HandSHeadRun.topDef (OpenLaw.row PySem.Challenge.rw_fringes_k34_struck_and_within).prog 25) (kwd := []) Hd.ob_eq
    (by kernel_rfl) (fun s => by kernel_rfl) Hd.run (by kernel_rfl) (by kernel_rfl) (by kernel_rfl) (by rfl) (by first | assumption | decide +kernel) (by decide +kernel) ⟨rfl, rfl, rfl, rfl, rfl, by decide +kernel⟩ ?hw ?hc
  case hw => w_witness2
  case hc =>
    refine L2.walk_ofE (l := PySem.Challenge.rw_fringes_k34_struck_and_within) (n := 63) (k := 22) (x := "script") (CX := fun _ _ _ _ _ _ => False) rfl (by decide) (by kernel_rfl) ⟨rfl, by decide, by decide⟩ ?F (fun _ _ _ _ z => z)
    intro w mg fa h Y G hmg0
    obtain ⟨K, KX, c⟩ := Y
    have hmg : mg ("law" : PySem.Str) = some (.ref fa) := by
      have e : (HandSHeadRun.topDef (OpenLaw.row PySem.Challenge.rw_fringes_k34_struck_and_within).prog 25).name = ("law" : PySem.Str) := by kernel_rfl
      rw [← e]
      exact hmg0
    obtain ⟨fd, hb, hF⟩ := Hd.facts (P := (PySem.Challenge.rw_fringes_k34_struck_and_within).prog) (w := w) KX G hmg c
    exact ⟨K, fd, (fun vs H Q _ => Ly.spD ⟨K, fun _ _ _ _ => False⟩ Hd.io21 Hd.s21 vs H Q fun _ _ _ => False), KX, hb, fun H a ns hl hO hS => Ly.sp_law (Hd.math ns hl) (Ly.sq_only hO hS), fun base h1 h2 => Ly.to0 (hF base h1 h2)⟩

